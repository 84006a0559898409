/-
 Spaces: pages that wait, deleted. (Printed by wip/gen/t13f.py of this repo.)
-/
import Derived.Test.YtmaikcnjgkoghaaSpE
import Derived.Test.YtmaikcnjgkoghaaBaseLB
namespace Go.Proofs.Ytmaikcnjgkoghaa
open Go Go.SL Go.Proofs
set_option linter.unusedVariables false

def keepL (ls : List La) (n : Int) : List La := ls.filter fun x => decide (x.1 ≠ n)
theorem keepL_hit {ls : List La} {n : Int} {i : Nat} {x : La} (hi : ls[i]? = some x) (h : x.1 = n) : keepL (ls.take (i + 1)) n = keepL (ls.take i) n := by
 unfold keepL
 rw [List.take_add_one, hi, List.filter_append]
 simp [h]
theorem keepL_miss {ls : List La} {n : Int} {i : Nat} {x : La} (hi : ls[i]? = some x) (h : x.1 ≠ n) : keepL (ls.take (i + 1)) n = keepL (ls.take i) n ++ [x] := by
 unfold keepL
 rw [List.take_add_one, hi, List.filter_append]
 simp [h]
theorem keepL_all {ls : List La} {n : Int} (h : ∀ (j : Nat) (x : La), ls[j]? = some x → x.1 ≠ n) : keepL ls n = ls := by
 unfold keepL
 rw [List.filter_eq_self]
 intro a ha
 obtain ⟨j, hj, rfl⟩ := List.getElem_of_mem ha
 simpa using h j _ (List.getElem?_eq_getElem hj)
theorem keepL_ne {ls : List La} {n : Int} {i : Nat} (h : ∀ (j : Nat) (x : La), j < i → ls[j]? = some x → x.1 ≠ n) : keepL (ls.take i) n = ls.take i := keepL_all fun j a hj => by
 rw [List.getElem?_take] at hj
 split at hj
 ·exact h j a (by assumption) hj
 ·cases hj
theorem take_set_s {α : Type} {xs : List α} {i : Nat} {a : α} (hi : i < xs.length) : (xs.set i a).take (i + 1) = xs.take i ++ [a] := by
 rw [List.take_add_one, List.getElem?_set_self hi]
 congr 1
 apply List.ext_getElem?
 intro j
 simp only [List.getElem?_take, List.getElem?_set]
 grind
theorem flL_take (ls : List La) (i : Nat) : (ls.flatMap LL.cel).take (i * 2) = (ls.take i).flatMap LL.cel := by
 induction ls generalizing i with
 | nil => simp
 | cons a r ih =>
  cases i with
  | zero => rfl
  | succ i =>
   rw [List.flatMap_cons, List.take_succ_cons, List.flatMap_cons, ← ih]
   show (Value.int .i64 a.1 :: Value.int .u32 a.2 :: r.flatMap LL.cel).take ((i + 1) * 2) = _
   rw [show (i + 1) * 2 = i * 2 + 1 + 1 by omega, List.take_succ_cons, List.take_succ_cons]; rfl
theorem obk_cut2 {v : Value} {k n : Nat} (h : SV v n) : obk (cutv v 2 0 k) = obk v := by
 obtain ⟨a, c, rfl, _⟩ := h
 rw [cutv_zero']
 cases a <;> cases c <;> rfl

theorem c_delete (u : Value) (ls : List La) (n : Int) (bK : Nat) (w : World) (lo up : Nat) (hN : NOwn LL w 44 5 lo up u ls) (hup : up ≤ w.heap.size) (hK : Blk w bK #[.int .i64 n] 3) (hbK : bK < lo ∨ up ≤ bK) : CT Try.prog 23 #[u, (.func (.func 24) #[] #[ptr bK 0])] w fun v w' => ∃ ds, NOwn LL w' 44 5 lo up v ds ∧ ds = keepL ls n ∧ (∀ b, obk v = some b → obk u = some b) ∧ Upd (fun b => obk u = some b) w w' := by
 have hmx := hN.1.sv.len
 have hsv := hN.1.sv
 have hbd := hN.2.1
 obtain ⟨n0, hn0⟩ : ∃ n, n = w.heap.size := ⟨_, rfl⟩
 rw [← hn0] at hup
 have hKl := hK.lt
 have hU : Upd (fun i => obk u = some i ∨ n0 ≤ i) w w := Upd.refl _ _
 refine CT_of Try.func23 rfl rfl rfl ?_
 refine W_seq ?_
 refine W_reg ?_
 refine L_op rfl (X_assign (v := (.slice none 0 0)) rfl ?_)
 refine L_nil ?_
 refine T_n ?_
 refine W_seq ?_
 refine W_reg ?_
 refine L_op rfl (X_move (v := u) rfl ?_)
 refine L_op rfl (X_move (v := (.func (.func 24) #[] #[ptr bK 0])) rfl ?_)
 have hcr_ := c_idx24 u ls n bK w lo up hN.rd hK
 refine L_op rfl (X_fn (vs := [u, (.func (.func 24) #[] #[ptr bK 0])]) en34 rfl ?_)
 refine CT.mono hcr_ ?_
 clear hcr_
 rintro _ w1 ⟨⟨rfl, hno⟩ | ⟨i0, x0, rfl, hi0, hx0, hlt0⟩, hu1⟩
 ·have hz1 := hu1.size
  replace hN := hN.ext hu1
  replace hK := hK.ext hu1
  replace hU := hU.trans (Ext.upd hu1)
  have hO := hN.1
  refine L_op rfl (X_assign (v := (.int .i64 (-1))) rfl ?_)
  refine L_nil ?_
  refine T_n ?_
  refine W_seq ?_
  refine W_seq ?_
  refine W_reg ?_
  refine L_op rfl (X_move (v := (.int .i64 (-1))) rfl ?_)
  refine L_op rfl (X_cmp (k := .i64) (a := -1) (b := -1) (r := true) rfl rfl rfl rfl ?_)
  refine L_nil ?_
  refine T_n ?_
  refine W_ct rfl ?_
  refine W_seq ?_
  refine W_reg ?_
  refine L_op rfl (X_move (v := u) rfl ?_)
  refine L_op rfl (X_assign (v := u) rfl ?_)
  refine L_nil ?_
  refine T_n ?_
  refine W_ret ?_
  refine T_r ?_
  exact BQ_r (End_1 Try.results23 (v := u) rfl ⟨ls, hN, (keepL_all hno).symm, fun _ h => h, hU.mono fun i hi h => h.elim id fun h => absurd hi (by omega)⟩)
 ·have hz1 := hu1.size
  replace hN := hN.ext hu1
  replace hK := hK.ext hu1
  replace hU := hU.trans (Ext.upd hu1)
  have hO := hN.1
  have hi0l := (List.getElem?_eq_some_iff.1 hi0).1
  refine L_op rfl (X_assign (v := (.int .i64 (((i0 : Nat) : Int)))) rfl ?_)
  refine L_nil ?_
  refine T_n ?_
  refine W_seq ?_
  refine W_seq ?_
  refine W_reg ?_
  refine L_op rfl (X_move (v := (.int .i64 (((i0 : Nat) : Int)))) rfl ?_)
  refine L_op rfl (X_cmp (k := .i64) (a := ((i0 : Nat) : Int)) (b := -1) (r := false) rfl rfl rfl (decide_eq_false (p := ((((i0 : Nat) : Int)) : Int) = ((-1) : Int)) (by omega)) ?_)
  refine L_nil ?_
  refine T_n ?_
  refine W_cf rfl ?_
  refine W_skip ?_
  refine T_n ?_
  refine W_seq ?_
  refine W_seq ?_
  refine W_reg ?_
  refine L_op rfl (X_move (v := (.int .i64 (((i0 : Nat) : Int)))) rfl ?_)
  refine L_op rfl (X_arith (k := .i64) (a := ((i0 : Nat) : Int)) (b := 1) (r := ((i0 + 1 : Nat) : Int)) rfl rfl rfl (iadd64 (by omega) (by omega) (by omega)) ?_)
  refine L_op rfl (X_assign (v := (.int .i64 (((i0 + 1 : Nat) : Int)))) rfl ?_)
  refine L_nil ?_
  refine T_n ?_
  refine W_block ?_
  refine W_loop (α := Nat × Nat × List La) [5, 6, 7, 16, 17, 18, 19, 20, 21, 22, 23, 24, 25, 26, 27, 28, 29, 30, 31, 32, 33, 34, 35] (fun ⟨i, j, xs⟩ => [(5, (.int .i64 (((i : Nat) : Int)))), (6, (.int .i64 (((j : Nat) : Int))))]) (fun ⟨i, j, xs⟩ w_ => j ≤ ls.length ∧ i < j ∧ xs.length = ls.length ∧ xs.take i = keepL (ls.take j) n ∧ (keepL (ls.take j) n).length = i ∧ (∀ m, j ≤ m → xs[m]? = ls[m]?) ∧ Own w_ lo 44 2 u ls.length (xs.flatMap LL.cel) ∧ Blk w_ bK #[.int .i64 n] 3 ∧ Upd (fun i => obk u = some i ∨ n0 ≤ i) w w_) (fun ⟨i, j, xs⟩ => ls.length - j) ⟨rfl, (i0, i0 + 1, ls), ⟨by omega, Nat.lt_succ_self _, rfl, by rw [keepL_hit hi0 hx0, keepL_ne hlt0], by rw [keepL_hit hi0 hx0, keepL_ne hlt0, List.length_take]; omega, fun _ _ => rfl, hO, hK, hU⟩, Out.refl _ _, ⟨rfl, rfl, trivial⟩⟩ ?_
  rintro ⟨i, j, xs⟩ w2 _ ⟨hjl, hij, hxs, hxi, hil, hrest, hO, hK, hU⟩
  have hsz_ := hU.size
  refine W_seq ?_
  refine W_seq ?_
  refine W_reg ?_
  refine L_op rfl (X_move (v := (.int .i64 (((j : Nat) : Int)))) rfl ?_)
  refine L_op rfl (X_move (v := u) rfl ?_)
  refine L_op rfl (X_len (v := u) (n := ls.length) Try.underlying23 rfl hsv ?_)
  by_cases hc3 : (((j : Nat) : Int) : Int) < (((ls.length : Nat) : Int))
  ·refine L_op rfl (X_cmp (k := .i64) (a := ((j : Nat) : Int)) (b := ((ls.length : Nat) : Int)) (r := true) rfl rfl rfl (decide_eq_true (p := ((((j : Nat) : Int)) : Int) < ((((ls.length : Nat) : Int)) : Int)) (by omega)) ?_)
   obtain ⟨x, hxj⟩ : ∃ x, ls[j]? = some x := ⟨_, List.getElem?_eq_getElem (by omega)⟩
   refine L_nil ?_
   refine T_n ?_
   refine W_ct rfl ?_
   refine W_skip ?_
   refine T_n ?_
   refine W_seq ?_
   refine W_block ?_
   refine W_seq ?_
   refine W_reg ?_
   refine L_op rfl (X_move (v := u) rfl ?_)
   refine L_op rfl (X_move (v := (.int .i64 (((j : Nat) : Int)))) rfl ?_)
   refine L_op rfl (X_idx (v := u) (n := ls.length) (k := .i64) (i := ((j : Nat) : Int)) S23 rfl hsv rfl (by omega) (by omega) ?_)
   have hxr : xs[j]? = some x := (hrest j (Nat.le_refl _)).trans hxj
   have hnr : NRd LL w2 lo up u xs := NRd.of (fun _ => rfl) (hO.rd.eq hxs.symm rfl) (fun b hb => ⟨(hO.lt (hO.rbk_obk hb)).1, hbd b (hO.rbk_obk hb)⟩)
   refine L_op rfl (X_loadA (xs := [(.int .i64 (x.1)), (.int .u32 (x.2))]) A44 rfl (lall hnr (Int.toNat_natCast _) hxr) rfl ?_)
   refine L_op rfl (X_alloc (z := (.agg #[(.int .i64 (0)), (.int .u32 (0))])) (c := #[(.int .i64 (0)), (.int .u32 (0))]) Zv44 rfl ?_)
   intro b4 w4 hn4
   have hbn4 := hn4.num; have hbs4 := hn4.size
   replace hK := hK.ext hn4.ext
   replace hO := hO.ext hn4.ext
   replace hU := hU.trans (Ext.upd hn4.ext)
   have hB4 := hn4.blk
   refine L_op0 (X_storeW (b := b4) (ys := [(.int .i64 (x.1)), (.int .u32 (x.2))]) A44 rfl rfl (List.forall_mem_cons.2 ⟨rfl, (List.forall_mem_cons.2 ⟨rfl, (fun _ h => by cases h)⟩)⟩) rfl hB4 rfl ?_)
   intro w5 hu5 hb5
   have hz5 := hu5.size
   replace hK := hK.upd hu5 fun h => by have h : bK = b4 := h; omega
   replace hO := hO.upd hu5 fun i hi h => by have hi := hbd _ hi; have h : i = b4 := h; omega
   replace hU := hU.trans (hu5.mono fun i _ h => .inr (by have h : i = b4 := h; omega))
   replace hB4 : Blk w5 b4 #[(.int .i64 (x.1)), (.int .u32 (x.2))] 44 := hb5
   refine L_nil ?_
   refine T_n ?_
   refine W_seq ?_
   refine W_reg ?_
   refine L_op rfl (X_move (v := (.func (.func 24) #[] #[ptr bK 0])) rfl ?_)
   refine L_op rfl (X_loadA (p := (ptr b4 (0))) (xs := [(.int .i64 (x.1)), (.int .u32 (x.2))]) A44 rfl hB4.atAll rfl ?_)
   have hcr_ := c_cl24 x n bK w5 hK
   refine L_op rfl (X_cl (vs := [(.agg ([(.int .i64 (x.1)), (.int .u32 (x.2))]).toArray)]) (cap := [ptr bK 0]) en24 rfl rfl ?_)
   refine CT.mono hcr_ ?_
   clear hcr_
   rintro _ w6 ⟨rfl, hu6⟩
   have hz6 := hu6.size
   replace hK := hK.ext hu6
   replace hO := hO.ext hu6
   replace hU := hU.trans (Ext.upd hu6)
   replace hB4 := hB4.ext hu6
   rcases Bool.eq_false_or_eq_true (decide (x.1 = n)) with hc7 | hc7
   ·rw [hc7]
    refine L_op rfl (X_not (b := true) (r := false) rfl rfl ?_)
    refine L_nil ?_
    refine T_n ?_
    refine W_cf rfl ?_
    refine W_skip ?_
    refine B_n ?_
    refine T_n ?_
    refine W_reg ?_
    refine L_op rfl (X_move (v := (.int .i64 (((j : Nat) : Int)))) rfl ?_)
    refine L_op rfl (X_arith (k := .i64) (a := ((j : Nat) : Int)) (b := 1) (r := ((j + 1 : Nat) : Int)) rfl rfl rfl (iadd64 (by omega) (by omega) (by omega)) ?_)
    refine L_op rfl (X_assign (v := (.int .i64 (((j + 1 : Nat) : Int)))) rfl ?_)
    refine L_nil ?_
    refine T_n ?_
    exact ⟨rfl, ⟨i, j + 1, xs⟩, ⟨⟨by omega, by omega, hxs, by rw [keepL_hit hxj (of_decide_eq_true hc7)]; exact hxi, by rw [keepL_hit hxj (of_decide_eq_true hc7)]; exact hil, fun m hm => hrest m (by omega), hO, hK, hU⟩, (by show ls.length - (j + 1) < ls.length - j; omega)⟩, (Out.mk rfl), ⟨rfl, rfl, trivial⟩⟩
   ·rw [hc7]
    refine L_op rfl (X_not (b := false) (r := true) rfl rfl ?_)
    refine L_nil ?_
    refine T_n ?_
    refine W_ct rfl ?_
    refine W_seq ?_
    refine W_reg ?_
    refine L_op rfl (X_move (v := u) rfl ?_)
    refine L_op rfl (X_move (v := (.int .i64 (((i : Nat) : Int)))) rfl ?_)
    refine L_op rfl (X_loadA (p := (ptr b4 (0))) (xs := [(.int .i64 (x.1)), (.int .u32 (x.2))]) A44 rfl hB4.atAll rfl ?_)
    refine L_op rfl (X_idx (v := u) (n := ls.length) (k := .i64) (i := ((i : Nat) : Int)) S23 rfl hsv rfl (by omega) (by omega) ?_)
    refine L_op0 (X_storeOwnA (i := ((i : Nat) : Int).toNat * 2) (m := 2) (v := u) (ys := LL.cel x) A44 hO (by omega) (by decide) rfl rfl (LL.one x (fun _ h => by cases h)) rfl ?_)
    intro w5 hO5 hu5
    have hz5 := hu5.size
    have hO6 : Own w5 lo 44 2 u ls.length ((xs.set i x).flatMap LL.cel) := hO5.eq rfl (by rw [flat_setA (L := LL) (by omega)]; show _ ++ LL.cel x ++ _ = _; rw [Int.toNat_natCast]; rfl)
    replace hK := hK.upd hu5 fun h => by have h1 := hbd _ h; have h2 := (hO.lt h).1; omega
    replace hU := hU.trans (hu5.mono fun i _ h => .inl h)
    replace hO := hO6
    refine L_nil ?_
    refine T_n ?_
    refine W_reg ?_
    refine L_op rfl (X_move (v := (.int .i64 (((i : Nat) : Int)))) rfl ?_)
    refine L_op rfl (X_arith (k := .i64) (a := ((i : Nat) : Int)) (b := 1) (r := ((i + 1 : Nat) : Int)) rfl rfl rfl (iadd64 (by omega) (by omega) (by omega)) ?_)
    refine L_op rfl (X_assign (v := (.int .i64 (((i + 1 : Nat) : Int)))) rfl ?_)
    refine L_nil ?_
    refine B_n ?_
    refine T_n ?_
    refine W_reg ?_
    refine L_op rfl (X_move (v := (.int .i64 (((j : Nat) : Int)))) rfl ?_)
    refine L_op rfl (X_arith (k := .i64) (a := ((j : Nat) : Int)) (b := 1) (r := ((j + 1 : Nat) : Int)) rfl rfl rfl (iadd64 (by omega) (by omega) (by omega)) ?_)
    refine L_op rfl (X_assign (v := (.int .i64 (((j + 1 : Nat) : Int)))) rfl ?_)
    refine L_nil ?_
    refine T_n ?_
    exact ⟨rfl, ⟨i + 1, j + 1, xs.set i x⟩, ⟨⟨by omega, by omega, by rw [List.length_set]; exact hxs, by rw [take_set_s (by omega), hxi, keepL_miss hxj (of_decide_eq_false hc7)], (by rw [keepL_miss hxj (of_decide_eq_false hc7), List.length_append, hil]; rfl), fun m hm => by rw [List.getElem?_set_ne (by omega)]; exact hrest m (by omega), hO, hK, hU⟩, (by show ls.length - (j + 1) < ls.length - j; omega)⟩, (Out.mk rfl), ⟨rfl, rfl, trivial⟩⟩
  ·refine L_op rfl (X_cmp (k := .i64) (a := ((j : Nat) : Int)) (b := ((ls.length : Nat) : Int)) (r := false) rfl rfl rfl (decide_eq_false (p := ((((j : Nat) : Int)) : Int) < ((((ls.length : Nat) : Int)) : Int)) (by omega)) ?_)
   refine L_nil ?_
   refine T_n ?_
   refine W_cf rfl ?_
   refine W_exit ?_
   refine T_e ?_
   refine T_e ?_
   refine B_x ?_
   refine T_n ?_
   refine W_seq ?_
   refine W_reg ?_
   refine L_op rfl (X_move (v := u) rfl ?_)
   refine L_op rfl (X_move (v := (.int .i64 (((i : Nat) : Int)))) rfl ?_)
   refine L_op rfl (X_slice (n := ls.length) (l := i) (h' := ls.length) (kl := .i64) (kh := .i64) S23 rfl hsv rfl rfl (by omega) (by omega) ?_)
   refine L_op0 (X_clearTailS (z := .agg #[.int .i64 0, .int .u32 0]) (v := u) S23 (by decide) rfl (fun u hu => by simp [Value.cells] at hu; rcases hu with rfl | rfl <;> rfl) hO (i := i) (by omega) rfl ?_)
   intro w8 ys hO8 hys hu8
   rw [flL_take] at hys
   replace hU := hU.trans (hu8.mono fun i _ h => .inl h)
   refine L_nil ?_
   refine T_n ?_
   refine W_seq ?_
   refine W_reg ?_
   refine L_op rfl (X_move (v := u) rfl ?_)
   refine L_op rfl (X_move (v := (.int .i64 (((i : Nat) : Int)))) rfl ?_)
   refine L_op rfl (X_slice (n := ls.length) (l := 0) (h' := i) (kl := .i64) (kh := .i64) S23 rfl hsv rfl rfl (by omega) (by omega) ?_)
   refine L_op rfl (X_assign (v := (cutv u 2 0 i)) rfl ?_)
   refine L_nil ?_
   refine T_n ?_
   refine W_ret ?_
   obtain rfl : j = ls.length := by omega
   have hO9 := hO8.cut0 (k := i) (by omega)
   rw [hys, hxi, List.take_length] at hO9
   exact BQ_r (End_1 Try.results23 (v := cutv u 2 0 i) rfl ⟨keepL ls n, NOwn.of (fun _ => rfl) (hO9.eq (by rw [List.take_length] at hil; omega) rfl) (fun b hb => hbd b (by rwa [obk_cut2 hsv] at hb)), rfl, fun b hb => by rwa [obk_cut2 hsv] at hb, hU.mono fun i hi h => h.elim id fun h => absurd hi (by omega)⟩)
end Go.Proofs.Ytmaikcnjgkoghaa
