/-
  Plain laws on the places of writes. (Printed by wip/gen/t03ol.py of this repo.)
-/
import Derived.Test.YthongcaijgfojaaDiskN
namespace Go.Proofs.Ythongcaijgfojaa
open Go Go.SL Go.Proofs
set_option linter.unusedVariables false

theorem compK_mem {bs : List Int} : ∀ (k : Nat), k ≤ bs.length → ∀ x, x ∈ compK bs k ↔ x ∈ bs.take k
  | 0, _, x => by simp [compK]
  | k + 1, h, x => by
    obtain ⟨a, ha⟩ : ∃ a, bs[k]? = some a := ⟨_, List.getElem?_eq_getElem (by omega)⟩
    have ih := compK_mem (bs := bs) k (by omega) x
    rw [List.take_add_one, ha]
    unfold compK
    split
    · rename_i h1
      rw [ih, List.mem_append]
      refine ⟨Or.inl, fun h2 => h2.elim id fun h3 => ?_⟩
      have h4 : x = a := by simpa using h3
      subst h4
      refine List.mem_of_getElem? (i := k - 1) ?_
      have h5 := h1.1
      rw [List.getElem?_take_of_lt (Nat.sub_lt (Nat.pos_of_ne_zero h5) Nat.one_pos), ← h1.2, ha]
    · rw [ha, List.mem_append, List.mem_append, ih]
theorem compK_lt {bs : List Int} (hs : bs.Pairwise (· ≤ ·)) : ∀ (k : Nat), k ≤ bs.length → (compK bs k).Pairwise (· < ·)
  | 0, _ => List.Pairwise.nil
  | k + 1, h => by
    obtain ⟨a, ha⟩ : ∃ a, bs[k]? = some a := ⟨_, List.getElem?_eq_getElem (by omega)⟩
    have ih := compK_lt hs k (by omega)
    unfold compK
    split
    · exact ih
    · rename_i h1
      rw [ha]
      refine List.pairwise_append.2 ⟨ih, List.pairwise_singleton _ _, fun x hx y hy => ?_⟩
      have hy : y = a := by simpa using hy
      subst hy
      have hx := (compK_mem (bs := bs) k (by omega) x).1 hx
      obtain ⟨j, hj, he⟩ := List.getElem_of_mem hx
      rw [List.length_take] at hj
      have hjx : bs[j]? = some x := by rw [← he, List.getElem_take, List.getElem?_eq_getElem (by omega)]
      obtain ⟨b, hb⟩ : ∃ b, bs[k - 1]? = some b := ⟨_, List.getElem?_eq_getElem (by omega)⟩
      rw [List.pairwise_iff_getElem] at hs
      have hxb : x ≤ b := by
        rcases Nat.lt_or_ge j (k - 1) with h3 | h3
        · have h4 := hs j (k - 1) (by omega) (by omega) h3
          rwa [(List.getElem?_eq_some_iff.1 hjx).2, (List.getElem?_eq_some_iff.1 hb).2] at h4
        · obtain rfl : j = k - 1 := by omega
          rw [hjx] at hb; cases hb; exact Int.le_refl _
      have hba : b ≤ y := by
        have h4 := hs (k - 1) k (by omega) (by omega) (by omega)
        rwa [(List.getElem?_eq_some_iff.1 ha).2, (List.getElem?_eq_some_iff.1 hb).2] at h4
      have hne : y ≠ b := fun h4 => h1 ⟨by omega, by rw [ha, hb, h4]⟩
      omega
theorem incr_ext : ∀ {a b : List Int}, a.Pairwise (· < ·) → b.Pairwise (· < ·) → (∀ x, x ∈ a ↔ x ∈ b) → a = b
  | [], [], _, _, _ => rfl
  | [], y :: s, _, _, h => absurd ((h y).2 List.mem_cons_self) List.not_mem_nil
  | x :: r, [], _, _, h => absurd ((h x).1 List.mem_cons_self) List.not_mem_nil
  | x :: r, y :: s, ha, hb, h => by
    obtain ⟨a1, a2⟩ := List.pairwise_cons.1 ha
    obtain ⟨b1, b2⟩ := List.pairwise_cons.1 hb
    have e : x = y := by
      rcases List.mem_cons.1 ((h x).1 List.mem_cons_self) with e | hx
      · exact e
      · rcases List.mem_cons.1 ((h y).2 List.mem_cons_self) with e | hy
        · exact e.symm
        · have := a1 y hy
          have := b1 x hx
          omega
    subst e
    rw [incr_ext a2 b2 fun z => ⟨fun hz => (List.mem_cons.1 ((h z).1 (List.mem_cons_of_mem _ hz))).elim (fun e => by have := a1 z hz; omega) id, fun hz => (List.mem_cons.1 ((h z).2 (List.mem_cons_of_mem _ hz))).elim (fun e => by have := b1 z hz; omega) id⟩]
theorem sortI_le (zs : List Int) : (sortI zs).Pairwise (· ≤ ·) := by
  have h := List.pairwise_mergeSort (le := fun (x y : Int) => decide (x ≤ y)) (fun a b c h1 h2 => by simp only [decide_eq_true_eq] at *; omega) (fun a b => by simp only [Bool.or_eq_true, decide_eq_true_eq]; omega) zs
  exact h.imp fun h => of_decide_eq_true h
theorem sortI_mem (zs : List Int) (x : Int) : x ∈ sortI zs ↔ x ∈ zs := List.mem_mergeSort ..
theorem waits_lt (cs : List Wr) : (waitsW cs).Pairwise (· < ·) := compK_lt (sortI_le _) _ (Nat.le_refl _)
theorem waits_mem (cs : List Wr) (x : Int) : x ∈ waitsW cs ↔ x ∈ fstW cs := by
  unfold waitsW compI
  rw [compK_mem _ (Nat.le_refl _), List.take_length, sortI_mem]
/-- how many of the numbers below n are in S -/
def cntI (S : List Int) (n : Nat) : Nat := ((List.range n).filter fun k : Nat => decide ((k : Int) ∈ S)).length
theorem cntI_step (S : List Int) (n : Nat) : cntI S (n + 1) = cntI S n + if (n : Int) ∈ S then 1 else 0 := by
  unfold cntI
  rw [List.range_succ, List.filter_append, List.length_append]
  congr 1
  by_cases h : (n : Int) ∈ S <;> simp [h]
theorem cntI_le (S : List Int) (n : Nat) : cntI S n ≤ n := by
  have h := List.length_filter_le (fun k : Nat => decide ((k : Int) ∈ S)) (List.range n)
  rwa [List.length_range] at h
theorem cntI_push (S : List Int) (a : Nat) : ∀ n, cntI (S ++ [(a : Int)]) n = cntI S n + if (a : Int) ∈ S ∨ n ≤ a then 0 else 1
  | 0 => by simp [cntI]
  | n + 1 => by
    rw [cntI_step, cntI_step, cntI_push S a n]
    by_cases h1 : (a : Int) ∈ S
    · have e : ((n : Int) ∈ S ++ [(a : Int)]) ↔ (n : Int) ∈ S := by
        rw [List.mem_append, List.mem_singleton]
        exact ⟨fun h => h.elim id fun h => by rw [h]; exact h1, Or.inl⟩
      simp only [h1, e, true_or, if_true]; omega
    · by_cases h2 : n = a
      · subst h2; simp [h1]
      · have e : ((n : Int) ∈ S ++ [(a : Int)]) ↔ (n : Int) ∈ S := by
          rw [List.mem_append, List.mem_singleton]
          exact ⟨fun h => h.elim id fun h => by omega, Or.inl⟩
        simp only [h1, e, false_or]
        by_cases h3 : n ≤ a
        · have h4 : n + 1 ≤ a := by omega
          simp only [h3, h4, if_true]; split <;> omega
        · have h4 : ¬ n + 1 ≤ a := by omega
          simp only [h3, h4, if_false]; split <;> omega
theorem cntI_len {S l : List Int} {n : Nat} (hl : l.Pairwise (· < ·)) (hm : ∀ x, x ∈ l ↔ x ∈ S) (hb : ∀ x ∈ S, 0 ≤ x ∧ x < n) : l.length = cntI S n := by
  have h : l = ((List.range n).filter fun k : Nat => decide ((k : Int) ∈ S)).map fun k : Nat => (k : Int) := by
    refine incr_ext hl ?_ fun x => ?_
    · rw [List.pairwise_map]
      exact ((List.pairwise_lt_range).filter _).imp fun h => by omega
    · rw [hm, List.mem_map]
      constructor
      · intro hx
        obtain ⟨h1, h2⟩ := hb x hx
        exact ⟨x.toNat, List.mem_filter.2 ⟨List.mem_range.2 (by omega), by rw [decide_eq_true_eq, show ((x.toNat : Nat) : Int) = x by omega]; exact hx⟩, by omega⟩
      · rintro ⟨k, hk, rfl⟩
        exact of_decide_eq_true (List.mem_filter.1 hk).2
  rw [h, List.length_map]; rfl
/-- the table of the numbers below n that are in S -/
def tabI (S : List Int) (n : Nat) : List Bool := (List.range n).map fun k : Nat => decide ((k : Int) ∈ S)
theorem tabI_len (S : List Int) (n : Nat) : (tabI S n).length = n := by unfold tabI; rw [List.length_map, List.length_range]
theorem tabI_at {S : List Int} {n k : Nat} (h : k < n) : (tabI S n)[k]? = some (decide ((k : Int) ∈ S)) := by unfold tabI; rw [List.getElem?_map, List.getElem?_range h]; rfl
theorem tabI_nil (n : Nat) : tabI [] n = List.replicate n false := by
  refine List.ext_getElem? fun k => ?_
  rcases Nat.lt_or_ge k n with h | h
  · rw [tabI_at h, List.getElem?_replicate, if_pos h]; simp
  · rw [List.getElem?_eq_none (by rw [tabI_len]; exact h), List.getElem?_eq_none (by rw [List.length_replicate]; exact h)]
theorem tabI_push {S : List Int} {n : Nat} {a : Int} (h0 : 0 ≤ a) (h1 : a < n) : tabI (S ++ [a]) n = (tabI S n).set a.toNat true := by
  refine List.ext_getElem? fun k => ?_
  rcases Nat.lt_or_ge k n with h | h
  · rw [tabI_at h, List.getElem?_set, tabI_len, tabI_at h]
    by_cases e : a.toNat = k
    · rw [if_pos e, if_pos (by omega), show ((k : Nat) : Int) = a by omega]; simp
    · rw [if_neg e]
      congr 1
      rw [decide_eq_decide, List.mem_append, List.mem_singleton]
      exact ⟨fun h => h.elim id fun h => by omega, Or.inl⟩
  · rw [List.getElem?_eq_none (by rw [tabI_len]; exact h), List.getElem?_eq_none (by rw [List.length_set, tabI_len]; exact h)]
end Go.Proofs.Ythongcaijgfojaa
