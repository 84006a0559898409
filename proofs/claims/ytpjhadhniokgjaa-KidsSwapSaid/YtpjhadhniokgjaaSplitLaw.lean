/-
  Plain laws for KidsSplit. (Printed by wip/gen/t16split.py of this repo.)
-/
import Derived.Test.YtpjhadhniokgjaaFind
import Derived.Test.YtpjhadhniokgjaaKidsR
namespace Go.Proofs.Ytpjhadhniokgjaa
open Go Go.SL Go.Proofs

theorem cmp_le_trans {a b m : List UInt8} (h : Op.bytesLess a b = true) (h2 : cmpB b m ≤ 0) : cmpB a m ≤ 0 := by
  have h1 := le_cmp b m
  rw [decide_eq_true h2] at h1
  have h3 := le_cmp a m
  rcases Bool.or_eq_true _ _ ▸ h1.symm with h4 | h4
  · rw [bl_trans a b m h h4, Bool.true_or] at h3
    exact of_decide_eq_true h3
  · rw [beq_iff_eq] at h4
    subst h4
    rw [h, Bool.true_or] at h3
    exact of_decide_eq_true h3
theorem name_bare : ∀ l : List KD, nameK (headK l) (bareK l) = l
  | [] => rfl
  | _ :: _ => rfl
theorem map_at {es : List KE} {ks : List KD} {i : Nat} {e : KE} (h : es.map (·.2) = ks) (he : es[i]? = some e) : ks[i]? = some e.2 := by rw [← h, List.getElem?_map, he]; rfl
theorem at_map {es : List KE} {ks : List KD} {i : Nat} {d : KD} (h : es.map (·.2) = ks) (hd : ks[i]? = some d) : ∃ e, es[i]? = some e ∧ e.2 = d := by
  rw [← h, List.getElem?_map] at hd
  cases he : es[i]? with
  | none => rw [he] at hd; cases hd
  | some e => rw [he] at hd; exact ⟨e, rfl, Option.some.inj hd⟩
theorem rises_ext {es xs : List KE} (h : Rises es) (h2 : 2 ≤ xs.length) (hk : ∀ (i : Nat) (x : KE), xs[i]? = some x → ∃ e, es[i]? = some e ∧ e.2.1 = x.2.1) : Rises xs := by
  refine ⟨h2, fun x hx => ?_, fun i a b ha hb => ?_⟩
  · obtain ⟨e, he, h1⟩ := hk 0 x hx
    rw [← h1]; exact h.2.1 e he
  · obtain ⟨e, he, h1⟩ := hk i a ha
    obtain ⟨e', he', h1'⟩ := hk (i + 1) b hb
    rw [← h1, ← h1']; exact h.2.2 i e e' he he'
theorem find_take {es as_ : List KE} {m : List UInt8} {at_ k : Nat} (ha : as_.map (·.2) = (es.map (·.2)).take k) (hf : ∃ e, es[at_]? = some e ∧ cmpB e.2.1 m ≤ 0 ∧ ∀ (j : Nat) (e' : KE), at_ < j → es[j]? = some e' → 0 < cmpB e'.2.1 m) (hk : at_ < k) : FindSpec as_ m at_ := by
  obtain ⟨e, he, hle, hgt⟩ := hf
  obtain ⟨a, haa, h1⟩ := at_map ha (show ((es.map (·.2)).take k)[at_]? = some e.2 by rw [List.getElem?_take_of_lt hk, List.getElem?_map, he]; rfl)
  refine .inl ⟨a, haa, by rw [h1]; exact hle, fun j a' hj ha' => ?_⟩
  have h2 := map_at ha ha'
  rw [List.getElem?_take] at h2
  split at h2
  · obtain ⟨e', he', h3⟩ := at_map rfl h2
    rw [← h3]; exact hgt j e' hj he'
  · cases h2
theorem bare_at {l : List KD} {i : Nat} {d : KD} (h : l[i]? = some d) : (bareK l)[i]? = some (if i = 0 then ([], d.2) else d) := by
  cases l with
  | nil => simp at h
  | cons x r => cases i with
    | zero => simp at h; subst h; rfl
    | succ i => simpa [bareK] using h
theorem bare_back {l : List KD} {i : Nat} {d : KD} (hi : 0 < i) (h : (bareK l)[i]? = some d) : l[i]? = some d := by
  cases l with
  | nil => simp [bareK] at h
  | cons x r => cases i with
    | zero => omega
    | succ i => simpa [bareK] using h
theorem find_drop {es bs : List KE} {m : List UInt8} {at_ k : Nat} (hb : bs.map (·.2) = bareK ((es.map (·.2)).drop k)) (hf : ∃ e, es[at_]? = some e ∧ cmpB e.2.1 m ≤ 0 ∧ ∀ (j : Nat) (e' : KE), at_ < j → es[j]? = some e' → 0 < cmpB e'.2.1 m) (hk : k ≤ at_) : FindSpec bs m (at_ - k) := by
  obtain ⟨e, he, hle, hgt⟩ := hf
  have h1 : ((es.map (·.2)).drop k)[at_ - k]? = some e.2 := by rw [List.getElem?_drop, show k + (at_ - k) = at_ by omega, List.getElem?_map, he]; rfl
  obtain ⟨b, hbb, h2⟩ := at_map hb (bare_at h1)
  refine .inl ⟨b, hbb, ?_, fun j b' hj hb' => ?_⟩
  · rw [h2]
    split
    · exact cmp_nil m
    · exact hle
  · have h3 := bare_back (by omega) (map_at hb hb')
    rw [List.getElem?_drop] at h3
    obtain ⟨e', he', h4⟩ := at_map rfl h3
    rw [← h4]; exact hgt _ e' (by omega) he'
theorem head_drop {es : List KE} {k : Nat} {e : KE} (he : es[k]? = some e) : headK ((es.map (·.2)).drop k) = e.2.1 := by rw [map_drop_cons he]; rfl
theorem split_right {es : List KE} {m : List UInt8} {at_ k : Nat} {e : KE} (h : Rises es) (he : es[k]? = some e) (hf : ∃ e, es[at_]? = some e ∧ cmpB e.2.1 m ≤ 0 ∧ ∀ (j : Nat) (e' : KE), at_ < j → es[j]? = some e' → 0 < cmpB e'.2.1 m) : (cmpB e.2.1 m ≤ 0 → k ≤ at_) ∧ (0 < cmpB e.2.1 m → at_ < k) := by
  obtain ⟨a, ha, hle, hgt⟩ := hf
  constructor
  · intro h1
    rcases Nat.lt_or_ge at_ k with h2 | h2
    · have := hgt k e h2 he; omega
    · exact h2
  · intro h1
    rcases Nat.lt_or_ge at_ k with h2 | h2
    · exact h2
    · rcases Nat.eq_or_lt_of_le h2 with h3 | h3
      · subst h3; rw [he] at ha; cases ha; omega
      · have := cmp_le_trans (rises_lt h (at_ - k - 1) k e a he (by rw [show k + 1 + (at_ - k - 1) = at_ by omega]; exact ha)) hle; omega
theorem leq_cmp (a b : List UInt8) : scmp .leq a b = decide (cmpB a b ≤ 0) := (le_cmp a b).symm
end Go.Proofs.Ytpjhadhniokgjaa
