/-
  Rows of ints as arguments. Of no program.
-/
import Derived.Test.YthncpmablodbjaaDoorBaseLB
import Derived.Test.YthncpmablodbjaaDoorBaseY
namespace Go.SL
open Go Go.ChangeShapes Go.WideShapes Go.RowKit
section open_
variable {H : Type} {enc : TypeId × Value → H} {P : Program} {W : World} {base : Nat}
theorem slice_self {a : Option Addr} {n c : Nat} {v : Value} (h : (Value.slice a n c).cells.toList = [v]) : v = .slice a n c := by
  simp [Value.cells] at h
  exact h.symm
theorem open_intsR {t e : TypeId} {v : Value} {d : DataW H} {p : List MemPlace} (ht : P.underlying t = some (.slice e)) (he : P.underlying e = some (.int .i64)) (hc : P.cellsOf e = 1) (hv : Value.okWide P W .any base t v) (h : DataW.Trod enc P W 0 (fun _ => true) true t v d p) : ∃ es : List Int, NRd LI W 0 W.heap.size v es := by
  obtain ⟨a0, len0, cap0, rfl⟩ := okWide_slice ht hv
  obtain ⟨fuel, hf⟩ := h
  obtain ⟨v, es, h1, h2⟩ := open_rowT LI ht hc (fun fuel cs x h => by
    obtain ⟨z, hz, _, _⟩ := DataW.trod_int he h
    exact ⟨z, hz, fun s hs => by cases hs⟩) (by decide) hf
  rw [slice_self h1] at h2
  exact ⟨es, h2⟩
end open_
end Go.SL
