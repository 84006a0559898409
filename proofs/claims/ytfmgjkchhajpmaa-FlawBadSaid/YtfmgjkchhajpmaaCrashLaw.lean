/-
  Plain laws on crashes. (Printed by wip/gen/t04h.py of this repo.)
-/
import Derived.Test.YtfmgjkchhajpmaaDkF
namespace Go.Proofs.Ytfmgjkchhajpmaa
open Go Go.SL Go.Proofs
set_option linter.unusedVariables false

theorem crSt_nil (ps : List Pg) (bs : List Int) (cs : List Wr) : ∀ k, crSt ps bs cs [] k = (ps, bs)
  | 0 => rfl
  | k + 1 => by rw [crSt_skip rfl (.inl (pkN_out (Nat.zero_le _)))]; exact crSt_nil ps bs cs k
theorem crSt_other {ps : List Pg} {bs : List Int} {cs : List Wr} {ls : List UInt8} {i : Nat} : ∀ k, (∀ j, j < k → (cs.getD j wZ).1 ≠ (i : Int)) → (crSt ps bs cs ls k).1[i]? = ps[i]?
  | 0, _ => rfl
  | k + 1, h => by
    have ih := crSt_other (ps := ps) (bs := bs) (ls := ls) k fun j hj => h j (by omega)
    by_cases hs : pkN ls k = 0 ∨ (cs.getD k wZ).1 < 0 ∨ (ps.length : Int) ≤ (cs.getD k wZ).1
    · rw [crSt_skip rfl hs]; exact ih
    · rw [crSt_do rfl rfl rfl hs rfl]
      have h1 := h k (by omega)
      rw [List.getElem?_set_ne (by omega)]
      exact ih
theorem crSt_ones {ps : List Pg} {bs : List Int} {cs : List Wr} (hin : ∀ (j : Nat) (e : Wr), cs[j]? = some e → 0 ≤ e.1 ∧ e.1 < (ps.length : Int)) : ∀ k, k ≤ cs.length → crSt ps bs cs (List.replicate cs.length 1) k = (flP ps (cs.take k), flB bs (cs.take k))
  | 0, _ => rfl
  | k + 1, hk => by
    have ih := crSt_ones (bs := bs) hin k (by omega)
    obtain ⟨e, he⟩ : ∃ e, cs[k]? = some e := ⟨_, List.getElem?_eq_getElem (by omega)⟩
    have hg : e = cs.getD k wZ := by rw [List.getD_eq_getElem?_getD, he]; rfl
    have hp : pkN (List.replicate cs.length 1) k = 1 := by rw [pkN_in (x := 1) (by rw [List.getElem?_replicate, if_pos (by omega)])]; rfl
    have h1 := hin k e he
    rw [crSt_do (e := e) hg rfl rfl (by rw [hp]; omega) (if_neg (by rw [hp]; decide)), ih, flP_step he, flB_step he]
def fstW (cs : List Wr) : List Int := cs.map fun c => c.1
theorem fstW_step {cs : List Wr} {i : Nat} {e : Wr} (h : cs[i]? = some e) : fstW (cs.take (i + 1)) = fstW (cs.take i) ++ [e.1] := by unfold fstW; rw [List.take_add_one, h, List.map_append]; rfl
theorem fst_no {cs : List Wr} {i : Int} (h : i ∉ fstW cs) : ∀ j, j < cs.length → (cs.getD j wZ).1 ≠ i := fun j hj he => h (by
  rw [List.getD_eq_getElem?_getD, List.getElem?_eq_getElem hj] at he
  exact List.mem_map.2 ⟨cs[j], List.getElem_mem hj, he⟩)
/-- the table of the numbers below n that are in S -/
def tabI (S : List Int) (n : Nat) : List Bool := (List.range n).map fun k : Nat => decide ((k : Int) ∈ S)
theorem tabI_len (S : List Int) (n : Nat) : (tabI S n).length = n := by unfold tabI; rw [List.length_map, List.length_range]
theorem tabI_at {S : List Int} {n k : Nat} (h : k < n) : (tabI S n)[k]? = some (decide ((k : Int) ∈ S)) := by unfold tabI; rw [List.getElem?_map, List.getElem?_range h]; rfl
theorem tabI_nil (n : Nat) : tabI [] n = List.replicate n false := by
  refine List.ext_getElem? fun k => ?_
  rcases Nat.lt_or_ge k n with h | h
  · rw [tabI_at h, List.getElem?_replicate, if_pos h]; simp
  · rw [List.getElem?_eq_none (by rw [tabI_len]; exact h), List.getElem?_eq_none (by rw [List.length_replicate]; exact h)]
theorem tabI_push {S : List Int} {n : Nat} {a : Int} (h0 : 0 ≤ a) (h1 : a < n) : tabI (S ++ [a]) n = (tabI S n).set a.toNat true := by
  refine List.ext_getElem? fun k => ?_
  rcases Nat.lt_or_ge k n with h | h
  · rw [tabI_at h, List.getElem?_set, tabI_len, tabI_at h]
    by_cases e : a.toNat = k
    · rw [if_pos e, if_pos (by omega), show ((k : Nat) : Int) = a by omega]; simp
    · rw [if_neg e]
      congr 1
      rw [decide_eq_decide, List.mem_append, List.mem_singleton]
      exact ⟨fun h => h.elim id fun h => by omega, Or.inl⟩
  · rw [List.getElem?_eq_none (by rw [tabI_len]; exact h), List.getElem?_eq_none (by rw [List.length_set, tabI_len]; exact h)]
theorem tabI_skip {S : List Int} {n : Nat} {a : Int} (h : a < 0 ∨ (n : Int) ≤ a) : tabI (S ++ [a]) n = tabI S n := by
  refine List.ext_getElem? fun k => ?_
  rcases Nat.lt_or_ge k n with h1 | h1
  · rw [tabI_at h1, tabI_at h1]
    congr 1
    rw [decide_eq_decide, List.mem_append, List.mem_singleton]
    exact ⟨fun h2 => h2.elim id fun h2 => by omega, Or.inl⟩
  · rw [List.getElem?_eq_none (by rw [tabI_len]; exact h1), List.getElem?_eq_none (by rw [tabI_len]; exact h1)]
theorem val_at (val : Nat → Value) {k : Nat} {x : Value} (h : val k = x) : val = fun j => cond (Nat.beq j k) x (val j) := funext fun j => by
  cases e : Nat.beq j k with
  | true => rw [Nat.eq_of_beq_eq_true e]; exact h
  | false => rfl
/-- the first k bytes are 1, the others 0 -/
def onesTo (n k : Nat) : List UInt8 := List.replicate k 1 ++ List.replicate (n - k) 0
theorem onesTo_len {n k : Nat} (h : k ≤ n) : (onesTo n k).length = n := by unfold onesTo; rw [List.length_append, List.length_replicate, List.length_replicate]; omega
theorem onesTo_step {n k : Nat} (h : k < n) : (onesTo n k).set k 1 = onesTo n (k + 1) := by
  unfold onesTo
  rw [List.set_append_right _ _ (by rw [List.length_replicate]; exact Nat.le_refl _), List.length_replicate, Nat.sub_self, show n - k = (n - (k + 1)) + 1 by omega, List.replicate_succ, List.set_cons_zero, List.replicate_succ']
  simp
theorem onesTo_all (n : Nat) : onesTo n n = List.replicate n 1 := by unfold onesTo; rw [Nat.sub_self]; simp
theorem lit_b {b n b' : Nat} (h : obk (.slice (some ⟨b, 0, none⟩) n n) = some b') : b' = b := by
  cases n with
  | zero => cases h
  | succ n => cases h; rfl
theorem own_lit {w : World} {b n : Nat} {t : TypeId} {xs : List Value} (hB : Blk w b xs.toArray t) (hn : xs.length = n) (hm : n ≤ maxLen) : Own w b t 1 (.slice (some ⟨b, 0, none⟩) n n) n xs :=
  ⟨by omega, _, _, rfl, Nat.le_refl _, hm, .inr ⟨b, _, rfl, Nat.le_refl _, hB, by rw [List.size_toArray]; omega, by rw [List.take_of_length_le (by show xs.length ≤ _; omega)]⟩⟩
end Go.Proofs.Ytfmgjkchhajpmaa
