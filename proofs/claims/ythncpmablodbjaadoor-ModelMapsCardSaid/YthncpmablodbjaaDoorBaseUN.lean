/-
  Loops of few rounds, walked round by round; elements of several cells of an array that is a value; a part of a block. Of no program.
-/
import Derived.Test.YthncpmablodbjaaDoorBaseT
import Derived.LoopNIn
namespace Go.SL
open Go

section
variable {ρ : Option Nat} {P : Program} {N : Nat} {Q : Post} {ds : List Deferred} {f : Fr} {w : World}
def Rounds (ρ : Option Nat) (P : Program) (N : Nat) (c : Code) (Q : Post) : Nat → List Deferred → Fr → World → Prop
  | 0, _, _, _ => False
  | m + 1, ds, f, w => Wp ρ P N c (thenQ (Rounds ρ P N c Q m) Q) ds f w
theorem Rounds_s {c : Code} {m : Nat} (h : Wp ρ P N c (thenQ (Rounds ρ P N c Q m) Q) ds f w) : Rounds ρ P N c Q (m + 1) ds f w := h
theorem rounds_in {c : Code} : ∀ (m : Nat) {ds : List Deferred} {f : Fr} {w : World}, Rounds ρ P N c Q m ds f w → ∀ a, Ag N ds f a → Code.roundsIn (FR ρ) 0 P c (lift N Q) m a w
  | 0, _, _, _, h, _, _ => h.elim
  | m + 1, ds, f, w, h, a, ha => by
    rw [roundsIn_succ]
    refine wpIn_mono (h a ha) ?_
    rintro e a' w' ⟨ds', f', h1, h2⟩
    cases e with
    | normal => exact rounds_in m h2 a' h1
    | _ => exact ⟨ds', f', h1, h2⟩
theorem W_unroll {c : Code} (m : Nat) (h : Rounds ρ P N c Q m ds f w) : Wp ρ P N (.loop c) Q ds f w := fun a ha => wpIn_loop_rounds m (rounds_in m h a ha)
end

section
variable {ρ : Option Nat} {P : Program} {ty : TypeId} {f : Fr} {w : World} {K : Value → World → Prop}
/-- an element of several cells of an array that is a value -/
theorem X_idxVA {t t0 e n sz : Nat} {x y : Operand} {k : IntKind} {i : Nat} {l ys : List Value} (hu : P.underlying t = some (.array n e)) (h1 : TyA P e sz) (hx : ev f x = .agg l.toArray) (hy : ev f y = .int k (i : Int)) (hn : i < n) (hv : (l.drop (i * sz)).take sz = ys)
    (h : K (.agg ys.toArray) w) : Exec ρ P (.index t x y) t0 f w K := by
  refine X_sv (Instr.index t (ev f x) (ev f y)) (fun _ => by simp) (fun o ho _ => by unfold execOp; rw [ho]) (v := .agg ys.toArray) (w' := w) ?_ h
  rw [hx, hy]
  have ha : ∀ w, (isAgg e).run P w = .ok true w := fun w => run_isAgg_of h1.agg w
  have hs : ∀ w, (sizeOf e).run P w = .ok sz w := fun w => run_sizeOf_of h1.size w
  simp [Instr.index, run_underlying hu, asIntOf, hn, part, ha, hs]
  exact hv
theorem Blk.part {b t o n : Nat} {l ys : List Value} (h : Blk w b l.toArray t) (hy : (l.drop o).take n = ys) : At w (ptr b o) ys := h.at_ o ys fun j u hj => by
  subst hy
  rw [List.getElem?_toArray]
  rw [List.getElem?_take] at hj
  split at hj
  · rwa [List.getElem?_drop] at hj
  · cases hj
end
end Go.SL
