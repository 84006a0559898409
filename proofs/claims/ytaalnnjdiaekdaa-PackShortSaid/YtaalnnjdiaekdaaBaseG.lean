import Derived.Test.YtaalnnjdiaekdaaBaseF
import Derived.Laws.MakeOwn
namespace Go.SL
open Go
section mks
variable {ρ : Option Nat} {P : Program} {ty : TypeId} {f : Fr} {w : World} {K : Value → World → Prop}
theorem madeCells_one (z : Value) (n : Nat) : madeCells #[z] n = (List.replicate n z).toArray := by
  apply Array.ext'
  unfold madeCells
  rw [Array.toList_map, List.toList_toArray]
  apply List.ext_getElem
  · simp
  · intro i h1 h2
    simp [Nat.mod_one]
theorem X_makeSlice {t e bytes n : Nat} {z : Value} {x y : Operand} {k k' : IntKind} (hS : TyS P t e 1 bytes z) (hz1 : z.cells = #[z]) (hx : ev f x = .int k n) (hy : ev f y = .int k' n) (hb : bytes * n ≤ 281474976710656) (hm : n ≤ 9223372036854775807)
    (h : ∀ b w', New w w' b (List.replicate n z).toArray e → K (.slice (some ⟨b, 0, none⟩) n n) w') : Exec ρ P (.makeSlice t x y) ty f w K := by
  obtain ⟨i, hi, h1, h2, h3⟩ := hS.info
  have hr := run_make (P := P) w t e i z hS.und hi h3 k k' n n (by omega) (Int.le_refl _) (by rw [h2, ← Int.natCast_mul]; omega) (by omega)
  rw [h1, Nat.mul_one, hz1, Int.toNat_natCast, madeCells_one] at hr
  refine X_sv (Instr.makeSlice t (ev f x) (ev f y)) (fun _ => by simp) (fun o ho _ => by unfold execOp; rw [ho]) (w' := w.alloc (.cells (List.replicate n z).toArray e)) ?_ (h _ _ (new_alloc w _ e))
  rw [hx, hy]; exact hr
end mks
end Go.SL
