/-
 The plain law of SpaceNew. (Printed by wip/gen/t13k.py of this repo.)
-/
import Derived.Test.YtmaikcnjgkoghaaSpJ
namespace Go.Proofs.Ytmaikcnjgkoghaa
open Go Go.SL Go.Proofs
set_option linter.unusedVariables false

theorem set_get : ∀ (l : List Int) (us : List Bool), (∀ a ∈ l, 0 ≤ a) → ∀ k, k < us.length → (setAll us l)[k]? = some ((us.getD k false) || decide ((k : Int) ∈ l))
 | [], us, _, k, hk => by
  show us[k]? = _
  rw [List.getD_eq_getElem?_getD, List.getElem?_eq_getElem hk]
  simp
 | a :: r, us, h, k, hk => by
  show (setAll (us.set a.toNat true) r)[k]? = _
  rw [set_get r _ (fun x hx => h x (List.mem_cons_of_mem _ hx)) k (by rw [List.length_set]; exact hk)]
  have ha := h a (List.mem_cons_self)
  congr 1
  rw [List.getD_eq_getElem?_getD, List.getD_eq_getElem?_getD, List.getElem?_set]
  by_cases e : a.toNat = k
  ·have e2 : (k : Int) = a := by omega
   rw [if_pos e, if_pos (by omega)]
   simp [e2]
  ·have e2 : ¬ (k : Int) = a := by omega
   rw [if_neg e]
   simp [e2]
theorem rep_get {l : List Int} {m k : Nat} (h : ∀ a ∈ l, 0 ≤ a) (hk : k < m) : (setAll (List.replicate m false) l)[k]? = some (decide ((k : Int) ∈ l)) := by
 rw [set_get l _ h k (by rw [List.length_replicate]; exact hk), List.getD_eq_getElem?_getD, List.getElem?_replicate, if_pos hk]; rfl
theorem rep_len (l : List Int) (m : Nat) : (setAll (List.replicate m false) l).length = m := by rw [setAll_len, List.length_replicate]
def fU (ds : List Int) (k : Nat) : Bool := decide ((k : Int) ∈ ds) || decide (k < 4)
theorem mem4 (ds : List Int) (k : Nat) : decide ((k : Int) ∈ [0, 1, 2, 3] ++ ds) = fU ds k := by
 unfold fU
 rw [Bool.eq_iff_iff, Bool.or_eq_true, decide_eq_true_iff, decide_eq_true_iff, decide_eq_true_iff, List.mem_append]
 simp only [List.mem_cons, List.not_mem_nil, or_false]
 constructor
 ·rintro (h | h)
  ·exact .inr (by omega)
  ·exact .inl h
 ·rintro (h | h)
  ·exact .inr h
  ·exact .inl (by omega)
theorem pos4 {ds : List Int} (h : ∀ a ∈ ds, 0 ≤ a) : ∀ a ∈ [0, 1, 2, 3] ++ ds, (0 : Int) ≤ a := fun a ha => by
 rcases List.mem_append.1 ha with h1 | h1
 ·simp only [List.mem_cons, List.not_mem_nil, or_false] at h1; omega
 ·exact h a h1
theorem uA_get {ds : List Int} {m k : Nat} (h : ∀ a ∈ ds, 0 ≤ a) (hk : k < m) : (setAll (List.replicate m false) ([0, 1, 2, 3] ++ ds))[k]? = some (fU ds k) := by
 rw [rep_get (pos4 h) hk, mem4]
theorem uA_twice {ds : List Int} {m : Nat} (h : ∀ a ∈ ds, 0 ≤ a) : setAll (List.replicate m false) ([0, 1, 2, 3] ++ (ds.reverse ++ ds)) = setAll (List.replicate m false) ([0, 1, 2, 3] ++ ds) := by
 have h2 : ∀ a ∈ ds.reverse ++ ds, 0 ≤ a := fun a ha => by
  rcases List.mem_append.1 ha with h1 | h1
  ·exact h a (List.mem_reverse.1 h1)
  ·exact h a h1
 apply List.ext_getElem?
 intro k
 rcases Nat.lt_or_ge k m with hk | hk
 ·rw [uA_get h2 hk, uA_get h hk]
  congr 1
  unfold fU
  congr 1
  rw [Bool.eq_iff_iff, decide_eq_true_iff, decide_eq_true_iff, List.mem_append, List.mem_reverse, or_self]
 ·rw [List.getElem?_eq_none (by rw [rep_len]; exact hk), List.getElem?_eq_none (by rw [rep_len]; exact hk)]
theorem cnt_not {f g : Nat → Bool} : ∀ n, (∀ k, k < n → g k = !f k) → cntF g n + cntF f n = n
 | 0, _ => rfl
 | n + 1, h => by
  have h1 := cnt_not n fun k hk => h k (by omega)
  have h2 := h n (by omega)
  cases e : f n with
  | true => rw [e] at h2; rw [cnt_hit e, cnt_miss (show g n = false from h2)]; omega
  | false => rw [e] at h2; rw [cnt_hit (show g n = true from h2), cnt_miss e]; omega
theorem wt_nil (n : Int) : wt [] n = none := rfl
theorem may_new {ds : List Int} {m : Nat} (h : ∀ a ∈ ds, 0 ≤ a) (h1 : 32 ≤ m) (h2 : m ≤ 256) : MayS m (setAll (List.replicate m false) ([0, 1, 2, 3] ++ ds)) [] := by
 refine ⟨⟨⟨by omega, by omega, by rw [rep_len]⟩, fun j hj => ?_⟩, inL_0⟩
 rw [uA_get h (by omega)]
 unfold fU
 rw [decide_eq_true (show j < 4 from hj), Bool.or_true]
theorem left_new {ds : List Int} {m : Nat} (h : ∀ a ∈ ds, 0 ≤ a) (h1 : 32 ≤ m) (h2 : m ≤ 256) : (opL m (setAll (List.replicate m false) ([0, 1, 2, 3] ++ ds)) [] 1 []).length + cntF (fU ds) m = m := by
 rw [opL_may (may_new h h1 h2), rep_len]
 refine cnt_not m fun k hk => ?_
 have hg := uA_get h hk
 cases e : fU ds k with
 | true => rw [e] at hg; exact free_n hg (wt_nil _)
 | false => rw [e] at hg; exact free_f hg
end Go.Proofs.Ytmaikcnjgkoghaa
