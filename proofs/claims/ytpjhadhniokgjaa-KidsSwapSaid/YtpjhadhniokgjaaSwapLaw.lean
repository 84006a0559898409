/-
  Plain laws for KidsSwap. (Printed by wip/gen/t16swapw.py of this repo.)
-/
import Derived.Test.YtpjhadhniokgjaaEven
namespace Go.Proofs.Ytpjhadhniokgjaa
open Go Go.SL Go.Proofs

section rowR
variable {w : World} {v : Value} {es : List KE}
theorem kkeyR (h : Rd w LK.sz v es.length (es.flatMap LK.cel)) {i : Int} {k : Nat} {e : KE} (hik : i.toNat = k) (he : es[k]? = some e) : At w (pof v (i.toNat * 6 + 0)) [e.1] := by
  subst hik
  exact h.cell (flat_at (L := LK) (j := 0) he rfl)
theorem kptrR (h : Rd w LK.sz v es.length (es.flatMap LK.cel)) {i : Int} {k : Nat} {e : KE} (hik : i.toNat = k) (he : es[k]? = some e) : At w (pof v (i.toNat * 6 + 1)) (ptC e.2.2) := by
  subst hik
  exact h.at_ (by have := (List.getElem?_eq_some_iff.1 he).1; omega) _ _ fun j u hj => by rw [Nat.add_assoc]; exact flat_at (L := LK) he (by rw [Nat.add_comm]; exact hj)
end rowR
theorem dist_at {gs : List KE} (h : Dist gs) {i j : Nat} {a b : KE} (hij : i < j) (ha : gs[i]? = some a) (hb : gs[j]? = some b) : ∀ k, obk a.1 = some k → obk b.1 ≠ some k := by
  have h1 := (List.pairwise_iff_getElem.1 h) i j (List.getElem?_eq_some_iff.1 ha).1 (List.getElem?_eq_some_iff.1 hb).1 hij
  rw [(List.getElem?_eq_some_iff.1 ha).2, (List.getElem?_eq_some_iff.1 hb).2] at h1
  exact h1
theorem swapI_nat {A N : Nat} (h : A < N) : swapI (A : Int) N = A := by unfold swapI; omega
def swD (E M : List KD) (A : Nat) : List KD := E.take A ++ (M ++ E.drop (A + 1))
theorem swD_length {E M : List KD} {A : Nat} (h : A < E.length) : (swD E M A).length = E.length - 1 + M.length := by
  unfold swD
  rw [List.length_append, List.length_append, List.length_take, List.length_drop]; omega
theorem swD_at {E M : List KD} {A i : Nat} (h : A < E.length) : (swD E M A)[i]? = if i < A then E[i]? else if i < A + M.length then M[i - A]? else E[i - M.length + 1]? := by
  unfold swD
  have hl : (E.take A).length = A := by rw [List.length_take]; omega
  split
  · rename_i h1
    rw [List.getElem?_append_left (by omega), List.getElem?_take_of_lt h1]
  · split
    · rw [List.getElem?_append_right (by omega), hl, List.getElem?_append_left (by omega)]
    · rw [List.getElem?_append_right (by omega), hl, List.getElem?_append_right (by omega), List.getElem?_drop]
      congr 1; omega
theorem tmod_lo {a : Int} {n : Nat} (h : 0 < n) : -(n : Int) < a.tmod n ∧ a.tmod n < n := by
  refine ⟨?_, Int.tmod_lt_of_pos a (by omega)⟩
  rcases Int.le_total 0 a with h1 | h1
  · have := Int.tmod_nonneg (n : Int) h1; omega
  · have h2 := Int.tmod_lt_of_pos (-a) (show (0 : Int) < n by omega)
    rw [Int.neg_tmod] at h2
    omega
end Go.Proofs.Ytpjhadhniokgjaa
