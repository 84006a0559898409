import Derived.Test.YthncpmablodbjaaDoorBaseT
namespace Go.SL
open Go

section
variable {ρ : Option Nat} {P : Program} {ty : TypeId} {f : Fr} {w : World} {K : Value → World → Prop}
/-- an element of an array that is a value -/
theorem X_idxV {t t0 e n : Nat} {x y : Operand} {k : IntKind} {i : Int} {cs : Array Value} {v : Value} (hu : P.underlying t = some (.array n e)) (h1 : Ty1 P e) (hx : ev f x = .agg cs) (hy : ev f y = .int k i) (h0 : 0 ≤ i) (hn : i < n) (hv : cs[i.toNat]? = some v)
    (h : K v w) : Exec ρ P (.index t x y) t0 f w K := by
  refine X_sv (Instr.index t (ev f x) (ev f y)) (fun _ => by simp) (fun o ho _ => by unfold execOp; rw [ho]) (v := v) (w' := w) ?_ h
  rw [hx, hy]
  have ha : ∀ w, (isAgg e).run P w = .ok false w := fun w => run_isAgg_of h1.agg w
  have hs : ∀ w, (sizeOf e).run P w = .ok 1 w := fun w => run_sizeOf_of h1.size w
  simp [Instr.index, run_underlying hu, asIntOf, h0, hn, part, ha, hs, hv]
/-- a whole block that is stored as it is -/
theorem X_storeSameW {t n : Nat} {x y : Operand} {b : Nat} {te : TypeId} {ys : List Value} (h1 : TyA P t n) (hx : ev f x = ptr b 0) (hy : ev f y = .agg ys.toArray) (hv : ∀ u ∈ ys, u.oneCell' = true) (hn : ys.length = n) (hB : Blk w b ys.toArray te) (h : K undef w) : Exec ρ P (.store t x y) ty f w K := by
  refine X_su (Instr.storeAt t (ev f x) (ev f y)) (fun _ => by simp) (fun o ho _ => by unfold execOp; rw [ho]) (w' := w) ?_ h
  rw [hx, hy]
  have e : ys.toArray.toList.take 0 ++ ys ++ ys.toArray.toList.drop (0 + ys.length) = ys := by simp
  have hw : w.setRow b ys.toArray = w := by
    have hh : (w.setRow b ys.toArray).heap = w.heap := by
      apply Array.ext_getElem?
      intro i
      by_cases hi : i = b
      · subst hi
        exact (setRow_heap w i _ ys.toArray te (0, 0) hB).trans hB.symm
      · rcases Nat.lt_or_ge i w.heap.size with h2 | h2
        · exact (setRow_upd w b ys.toArray).blk i h2 hi
        · rw [Array.getElem?_eq_none h2, Array.getElem?_eq_none (by simpa [World.setRow] using h2)]
    have : w.setRow b ys.toArray = { w with heap := (w.setRow b ys.toArray).heap } := rfl
    rw [this, hh]
  have hr := run_storeVarA (w := w) (o := 0) h1.size hB hn (by rw [List.size_toArray]; omega) hv
  rw [e, hw] at hr
  simp [Instr.storeAt, Instr.sureAddr, ptr, hr]
end
end Go.SL
