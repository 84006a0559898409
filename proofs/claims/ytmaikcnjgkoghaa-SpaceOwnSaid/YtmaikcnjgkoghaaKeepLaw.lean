/-
 The plain law of SpaceKeeps. (Printed by wip/gen/t13o.py of this repo.)
-/
import Derived.Test.YtmaikcnjgkoghaaSpN
namespace Go.Proofs.Ytmaikcnjgkoghaa
open Go Go.SL Go.Proofs
set_option linter.unusedVariables false

/-! ### The plain law of SpaceKeeps -/
theorem wt_app {l m : List La} {n : Int} : wt (l ++ m) n = (wt l n).or (wt m n) := by
 unfold wt
 rw [List.find?_append]
 cases l.find? fun x => decide (x.1 = n) <;> rfl
theorem wt_cons {x : La} {m : List La} {n : Int} : wt (x :: m) n = if x.1 = n then some x.2 else wt m n := by
 unfold wt
 rw [List.find?_cons]
 by_cases h : x.1 = n
 ·rw [if_pos h, decide_eq_true h]; rfl
 ·rw [if_neg h, decide_eq_false h]
theorem wt_any {ls : List La} {n : Int} (h : (ls.any fun x => decide (x.1 = n)) = false) : wt ls n = none := wt_none fun j x hx => by
 rw [List.any_eq_false] at h
 simpa using h x (List.mem_of_getElem? hx)
def insL (ls : List La) (k : Nat) (x : La) : List La := ls.take k ++ x :: ls.drop k
theorem wt_ins {ls : List La} {k : Nat} {n t m : Int} (h : wt ls n = none) : wt (insL ls k (n, t)) m = if n = m then some t else wt ls m := by
 unfold insL
 have e : wt ls m = (wt (ls.take k) m).or (wt (ls.drop k) m) := by rw [← wt_app, List.take_append_drop]
 have e0 : wt ls n = (wt (ls.take k) n).or (wt (ls.drop k) n) := by rw [← wt_app, List.take_append_drop]
 rw [wt_app, wt_cons]
 by_cases hm : n = m
 ·subst hm
  rw [if_pos rfl, if_pos rfl]
  rw [h] at e0
  cases h1 : wt (ls.take k) n with
  | none => rfl
  | some y => rw [h1] at e0; cases e0
 ·rw [if_neg hm, if_neg hm, e]
theorem wt_keep {ls : List La} {a m : Int} : wt (keepL ls a) m = if a = m then none else wt ls m := by
 unfold keepL
 induction ls with
 | nil => split <;> rfl
 | cons x r ih =>
  rw [List.filter_cons]
  by_cases h : x.1 = a
  ·rw [if_neg (by simpa using h), ih, wt_cons]
   by_cases hm : a = m
   ·rw [if_pos hm, if_pos hm]
   ·rw [if_neg hm, if_neg hm, if_neg (by omega)]
  ·rw [if_pos (by simpa using h), wt_cons, ih, wt_cons]
   by_cases hm : a = m
   ·rw [if_pos hm, if_pos hm, if_neg (by omega)]
   ·rw [if_neg hm, if_neg hm]
theorem free_eq {us vs : List Bool} {ls ms : List La} {u : Int} {ps : List Int} {k : Nat} (h1 : us[k]? = vs[k]?) (h2 : wt ls k = wt ms k) : freeB us ls u ps k = freeB vs ms u ps k := by
 unfold freeB
 rw [h1, h2]
/-- rising places, as a relation between any two -/
theorem inL_iff {us : List Bool} {ls : List La} : InL us ls ls.length ↔ (∀ x ∈ ls, 4 ≤ x.1 ∧ x.1 < us.length ∧ us[x.1.toNat]? = some true) ∧ ls.Pairwise fun x y => x.1 < y.1 := by
 constructor
 ·intro h
  refine ⟨fun x hx => ?_, ?_⟩
  ·obtain ⟨j, hj, rfl⟩ := List.getElem_of_mem hx
   obtain ⟨h1, h2, h3, _⟩ := h j _ hj (List.getElem?_eq_getElem hj)
   exact ⟨h1, h2, h3⟩
  ·rw [List.pairwise_iff_getElem]
   intro i j hi hj hij
   obtain ⟨d, rfl⟩ : ∃ d, j = i + 1 + d := ⟨j - i - 1, by omega⟩
   clear hij
   induction d with
   | zero => exact (h (i + 1) _ hj (List.getElem?_eq_getElem hj)).2.2.2 _ (by omega) (by rw [show i + 1 - 1 = i by omega]; exact List.getElem?_eq_getElem hi)
   | succ d ih =>
    have h1 := ih (by omega)
    have h2 := (h (i + 1 + (d + 1)) _ hj (List.getElem?_eq_getElem hj)).2.2.2 (ls[i + 1 + d]'(by omega)) (by omega) (by rw [show i + 1 + (d + 1) - 1 = i + 1 + d by omega]; exact List.getElem?_eq_getElem (by omega))
    omega
 ·rintro ⟨h1, h2⟩ j x hj hx
  obtain ⟨h3, h4, h5⟩ := h1 x (List.mem_of_getElem? hx)
  refine ⟨h3, h4, h5, fun y h0 hy => ?_⟩
  rw [List.pairwise_iff_getElem] at h2
  have h6 := h2 (j - 1) j (by have := (List.getElem?_eq_some_iff.1 hy).1; omega) hj (by omega)
  rw [(List.getElem?_eq_some_iff.1 hx).2, (List.getElem?_eq_some_iff.1 hy).2] at h6
  exact h6
theorem may_ins {s : Sp} {n t : Int} {k : Nat} (hH : HeldS s n) (hp : PosL s.ls n k) : MayS s.sz s.us (insL s.ls k (n, t)) := by
 obtain ⟨⟨hh, hin⟩, h4, h5, h6, h7⟩ := hH
 refine ⟨hh, ?_⟩
 obtain ⟨hm, hpw⟩ := inL_iff.1 hin
 have hne : ∀ x ∈ s.ls, x.1 ≠ n := fun x hx => by
  rw [List.any_eq_false] at h7
  simpa using h7 x hx
 obtain ⟨hk, hlo, hhi⟩ := hp
 have hpw2 : (s.ls.take k ++ s.ls.drop k).Pairwise fun x y => x.1 < y.1 := by rw [List.take_append_drop]; exact hpw
 obtain ⟨p1, p2, p3⟩ := List.pairwise_append.1 hpw2
 have ht : ∀ x ∈ s.ls.take k, x.1 < n := fun x hx => by
  obtain ⟨j, hj, rfl⟩ := List.getElem_of_mem hx
  rw [List.length_take] at hj
  exact hlo j _ (by omega) (by rw [List.getElem_take]; exact List.getElem?_eq_getElem (by omega))
 have hd : ∀ x ∈ s.ls.drop k, n < x.1 := fun x hx => by
  have h1 := hne x (List.mem_of_mem_drop hx)
  obtain ⟨j, hj, rfl⟩ := List.getElem_of_mem hx
  rw [List.length_drop] at hj
  have h2 := hhi (k + j) _ (by omega) (List.getElem?_eq_getElem (by omega))
  rw [List.getElem_drop] at h1 ⊢
  omega
 rw [inL_iff]
 constructor
 ·intro x hx
  unfold insL at hx
  rcases List.mem_append.1 hx with h | h
  ·exact hm x (List.mem_of_mem_take h)
  ·rcases List.mem_cons.1 h with rfl | h
   ·have := hh.1.2.2
    exact ⟨h4, by omega, h6⟩
   ·exact hm x (List.mem_of_mem_drop h)
 ·unfold insL
  rw [List.pairwise_append]
  refine ⟨p1, List.pairwise_cons.2 ⟨fun y hy => hd y hy, p2⟩, fun x hx y hy => ?_⟩
  rcases List.mem_cons.1 hy with rfl | hy
  ·exact ht x hx
  ·exact p3 x hx y hy
theorem may_take {sz : Int} {us : List Bool} {ls : List La} {a : Nat} (h : MayS sz us ls) (ha : a < us.length) : MayS sz (us.set a true) (keepL ls a) := by
 obtain ⟨⟨⟨h1, h2, h3⟩, hf⟩, hin⟩ := h
 obtain ⟨hm, hpw⟩ := inL_iff.1 hin
 have hset : ∀ j : Nat, us[j]? = some true → (us.set a true)[j]? = some true := fun j hj => by
  by_cases e : a = j
  ·rw [← e, List.getElem?_set_self ha]
  ·rw [List.getElem?_set_ne e]; exact hj
 refine ⟨⟨⟨h1, h2, by rw [List.length_set]; exact h3⟩, fun j hj => hset j (hf j hj)⟩, inL_iff.2 ⟨fun x hx => ?_, hpw.filter _⟩⟩
 obtain ⟨h4, h5, h6⟩ := hm x (List.mem_filter.1 hx).1
 exact ⟨h4, by rw [List.length_set]; exact h5, hset _ h6⟩
theorem filter_drop {f g : Nat → Bool} {n a : Nat} (ha : a < n) (hfa : f a = true) (hlow : ∀ k, k < a → f k = false) (hga : g a = false) (hgk : ∀ k, k ≠ a → g k = f k) : (List.range n).filter f = a :: (List.range n).filter g := by
 obtain ⟨d, rfl⟩ : ∃ d, n = (a + 1) + d := ⟨n - (a + 1), by omega⟩
 have e1 : (List.range a).filter f = [] := List.filter_eq_nil_iff.2 fun k hk => by rw [hlow k (List.mem_range.1 hk)]; decide
 have e2 : (List.range a).filter g = [] := List.filter_eq_nil_iff.2 fun k hk => by rw [hgk k (by have := List.mem_range.1 hk; omega), hlow k (List.mem_range.1 hk)]; decide
 have e3 : ((List.range d).map fun x => a + 1 + x).filter g = ((List.range d).map fun x => a + 1 + x).filter f := List.filter_congr fun k hk => by
  obtain ⟨x, _, rfl⟩ := List.mem_map.1 hk
  exact hgk _ (by omega)
 rw [List.range_add, List.range_succ, List.filter_append, List.filter_append, List.filter_append, List.filter_append, e1, e2, e3]
 simp [hfa, hga]
theorem range_head {f : Nat → Bool} : ∀ {n a : Nat} {r : List Nat}, (List.range n).filter f = a :: r → a < n ∧ f a = true ∧ ∀ k, k < a → f k = false := by
 intro n a r h
 have hm : a ∈ (List.range n).filter f := by rw [h]; exact List.mem_cons_self
 obtain ⟨h1, h2⟩ := List.mem_filter.1 hm
 refine ⟨List.mem_range.1 h1, h2, fun k hk => ?_⟩
 cases e : f k with
 | false => rfl
 | true =>
  have hk2 : k ∈ (List.range n).filter f := List.mem_filter.2 ⟨List.mem_range.2 (by have := List.mem_range.1 h1; omega), e⟩
  have hs : ((List.range n).filter f).Pairwise (· < ·) := List.Pairwise.filter _ List.pairwise_lt_range
  rw [h] at hk2 hs
  rcases List.mem_cons.1 hk2 with rfl | h3
  ·omega
  ·have := (List.pairwise_cons.1 hs).1 k h3; omega
/-- a page taken: the others are left -/
theorem op_take {sz : Int} {us : List Bool} {ls : List La} {u : Int} {ps : List Int} {a : Nat} {r : List Nat} (hM : MayS sz us ls) (h : opL sz us ls u ps = a :: r) : opL sz (us.set a true) (keepL ls a) u ps = r ∧ a < us.length := by
 rw [opL_may hM] at h
 obtain ⟨h1, h2, h3⟩ := range_head h
 have hga : freeB (us.set a true) (keepL ls a) u ps a = false := free_n (by rw [List.getElem?_set_self h1]) (by rw [wt_keep, if_pos rfl])
 have hgk : ∀ k, k ≠ a → freeB (us.set a true) (keepL ls a) u ps k = freeB us ls u ps k := fun k hk => free_eq (by rw [List.getElem?_set_ne (by omega)]) (by rw [wt_keep, if_neg (by omega)])
 refine ⟨?_, h1⟩
 rw [opL_may (may_take hM h1), List.length_set]
 have h4 := filter_drop h1 h2 h3 hga hgk
 rw [h] at h4
 exact (List.cons.inj h4).2.symm
theorem op_mem {sz : Int} {us : List Bool} {ls : List La} {u : Int} {ps : List Int} {k : Nat} (hM : MayS sz us ls) : k ∈ opL sz us ls u ps ↔ k < us.length ∧ freeB us ls u ps k = true := by
 rw [opL_may hM, List.mem_filter, List.mem_range]
/-- a page freed: it is left just behind both -/
theorem free_ins {s : Sp} {n t u pin : Int} {k : Nat} (hH : HeldS s n) : (freeB s.us (insL s.ls k (n, t)) u [pin] n.toNat = true ↔ t + 4 ≤ u ∧ t ≤ pin) ∧ freeB s.us s.ls u [pin] n.toNat = false ∧ ∀ j : Nat, j ≠ n.toNat → freeB s.us (insL s.ls k (n, t)) u [pin] j = freeB s.us s.ls u [pin] j := by
 obtain ⟨hM, h4, h5, h6, h7⟩ := hH
 have hw := wt_any h7
 have hn : ((n.toNat : Nat) : Int) = n := by omega
 refine ⟨?_, free_n h6 (by rw [hn]; exact hw), fun j hj => free_eq rfl (by rw [wt_ins hw, if_neg (by omega)])⟩
 rw [free_t h6 (by rw [wt_ins hw, hn, if_pos rfl])]
 simp
theorem cnt_one {f g : Nat → Bool} {a : Nat} (hfa : f a = true) (hga : g a = false) (h : ∀ k, k ≠ a → f k = g k) : ∀ n, a < n → cntF f n = cntF g n + 1
 | 0, h0 => absurd h0 (Nat.not_lt_zero a)
 | n + 1, h0 => by
  rcases Nat.lt_or_ge a n with h1 | h1
  ·have ih := cnt_one hfa hga h n h1
   have hn := h n (by omega)
   cases e : g n with
   | true => rw [cnt_hit e, cnt_hit (hn.trans e), ih]
   | false => rw [cnt_miss e, cnt_miss (hn.trans e), ih]
  ·obtain rfl : a = n := by omega
   have e : cntF f a = cntF g a := by
    unfold cntF
    congr 1
    exact List.filter_congr fun k hk => h k (by have := List.mem_range.1 hk; omega)
   rw [cnt_hit hfa, cnt_miss hga, e]
theorem op_len {sz : Int} {us : List Bool} {ls : List La} {u : Int} {ps : List Int} (hM : MayS sz us ls) : (opL sz us ls u ps).length = cntF (freeB us ls u ps) us.length := by rw [opL_may hM]; rfl
theorem keeps_len {s : Sp} {n t u pin : Int} {k : Nat} (hH : HeldS s n) (hp : PosL s.ls n k) :
  (t + 4 ≤ u ∧ t ≤ pin → (opL s.sz s.us (insL s.ls k (n, t)) u [pin]).length = (opL s.sz s.us s.ls u [pin]).length + 1) ∧ (¬ (t + 4 ≤ u ∧ t ≤ pin) → (opL s.sz s.us (insL s.ls k (n, t)) u [pin]).length = (opL s.sz s.us s.ls u [pin]).length) := by
 obtain ⟨h1, h2, h3⟩ := free_ins (t := t) (u := u) (pin := pin) (k := k) hH
 have hM2 := may_ins (t := t) hH hp
 have hl : n.toNat < s.us.length := by have := hH.1.1.1.2.2; have := hH.2.2.1; have := hH.2.1; omega
 rw [op_len hM2, op_len hH.1]
 constructor
 ·intro h
  exact cnt_one (h1.2 h) h2 h3 _ hl
 ·intro h
  have h4 : freeB s.us (insL s.ls k (n, t)) u [pin] n.toNat = false := by
   cases e : freeB s.us (insL s.ls k (n, t)) u [pin] n.toNat with
   | false => rfl
   | true => exact absurd (h1.1 e) h
  unfold cntF
  congr 1
  exact List.filter_congr fun j _ => by
   by_cases hj : j = n.toNat
   ·rw [hj, h4, h2]
   ·exact h3 j hj
end Go.Proofs.Ytmaikcnjgkoghaa
