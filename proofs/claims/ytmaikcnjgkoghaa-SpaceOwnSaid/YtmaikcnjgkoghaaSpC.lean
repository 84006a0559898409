/-
 Spaces: what waits, pins. (Printed by wip/gen/t13c.py of this repo.)
-/
import Derived.Test.YtmaikcnjgkoghaaSpB
namespace Go.Proofs.Ytmaikcnjgkoghaa
open Go Go.SL Go.Proofs
set_option linter.unusedVariables false

def LU : Lay Int where
 cel n := [.int .u32 n]
 sub _ := []
 sz := 1
 len _ := rfl
 one n _ u hu := by rw [List.mem_singleton.1 hu]; rfl
theorem uat {w : World} {lo hi : Nat} {v : Value} {es : List Int} (h : NRd LU w lo hi v es) {i : Int} {k : Nat} {e : Int} (hik : i.toNat = k) (he : es[k]? = some e) : At w (pof v (i.toNat * 1)) [.int .u32 e] := by
 subst hik; exact h.cell (j := 0) he rfl
/-- the commit that freed a page -/
def wt (ls : List La) (n : Int) : Option Int := (ls.find? fun x => decide (x.1 = n)).map (·.2)
theorem wt_none {ls : List La} {n : Int} (h : ∀ (j : Nat) (x : La), ls[j]? = some x → x.1 ≠ n) : wt ls n = none := by
 unfold wt
 rw [List.find?_eq_none.2]
 ·rfl
 ·intro x hx
  obtain ⟨j, hj, rfl⟩ := List.getElem_of_mem hx
  simpa using h j _ (List.getElem?_eq_getElem hj)
theorem wt_some {ls : List La} {n : Int} {i : Nat} {x : La} (hx : ls[i]? = some x) (hn : x.1 = n) (h : ∀ (j : Nat) (y : La), j < i → ls[j]? = some y → y.1 ≠ n) : wt ls n = some x.2 := by
 unfold wt
 obtain ⟨hi, rfl⟩ := List.getElem?_eq_some_iff.1 hx
 rw [List.find?_eq_some_iff_getElem.2 ⟨by simpa using hn, i, hi, rfl, fun j hj => by simpa using h j _ hj (List.getElem?_eq_getElem (by omega))⟩]; rfl
theorem wt_mem {ls : List La} {n t : Int} (h : wt ls n = some t) : ∃ x ∈ ls, x.1 = n ∧ x.2 = t := by
 unfold wt at h
 obtain ⟨x, hx, rfl⟩ := Option.map_eq_some_iff.1 h
 exact ⟨x, List.mem_of_find?_eq_some hx, by simpa using List.find?_some hx, rfl⟩
theorem wrap_u64 {a : Int} (h0 : 0 ≤ a) (h1 : a < 18446744073709551616) : IntKind.u64.wrap a = a := by
 have e : (2 : Int) ^ 64 = 18446744073709551616 := by decide
 simp only [IntKind.wrap, IntKind.signed, IntKind.bits, e, Bool.false_and, Bool.false_eq_true, if_false]
 omega

theorem c_cl36 (x : La) (n : Int) (bK : Nat) (w : World) (hK : Blk w bK #[.int .i64 n] 3) : CT Try.prog 36 #[(.agg #[(.int .i64 (x.1)), (.int .u32 (x.2))]), (ptr bK (0))] w fun v w' => v = .bool (decide (x.1 = n)) ∧ Ext w w' := by
 obtain ⟨n0, hn0⟩ : ∃ n, n = w.heap.size := ⟨_, rfl⟩
 have hU : Upd (fun i => n0 ≤ i) w w := Upd.refl _ _
 refine CT_of Try.func36 rfl rfl rfl ?_
 refine W_seq ?_
 refine W_reg ?_
 refine L_op rfl (X_box (v := (.agg #[(.int .i64 (x.1)), (.int .u32 (x.2))])) (c := ([(.int .i64 (x.1)), (.int .u32 (x.2))]).toArray) rfl rfl ?_)
 intro b1 w1 hn1
 have hbn1 := hn1.num; have hbs1 := hn1.size
 replace hK := hK.ext hn1.ext
 replace hU := hU.trans (Ext.upd hn1.ext)
 have hB1 := hn1.blk
 refine L_op rfl (X_assign (v := (.bool (false))) rfl ?_)
 refine L_nil ?_
 refine T_n ?_
 refine W_seq ?_
 refine W_reg ?_
 refine L_op rfl (X_fldP (b := b1) (o := 0) (r := 0) Fd44_0 rfl rfl ?_)
 refine L_op rfl (X_load (p := (ptr b1 (0))) (v := (.int .i64 (x.1))) T3 rfl (hB1.at1 rfl) ?_)
 refine L_op rfl (X_load (p := (ptr bK (0))) (v := (.int .i64 (n))) T3 rfl (hK.at1 rfl) ?_)
 refine L_op rfl (X_cmp (k := .i64) (a := x.1) (b := n) (r := decide (x.1 = n)) rfl rfl rfl rfl ?_)
 refine L_op rfl (X_assign (v := (.bool (decide (x.1 = n)))) rfl ?_)
 refine L_nil ?_
 refine T_n ?_
 refine W_ret ?_
 exact BQ_r (End_1 Try.results36 (v := .bool (decide (x.1 = n))) rfl ⟨rfl, hU.own hn0⟩)

theorem c_idx36 (u : Value) (ls : List La) (n : Int) (bK : Nat) (w : World) (lo up : Nat) (hl : NRd LL w lo up u ls) (hK : Blk w bK #[.int .i64 n] 3) : CT Try.prog 34 #[u, (.func (.func 36) #[] #[ptr bK 0])] w fun v w' => ((v = .int .i64 (-1) ∧ ∀ (j : Nat) (x : La), ls[j]? = some x → x.1 ≠ n) ∨ ∃ (i : Nat) (x : La), v = .int .i64 ((i : Nat) : Int) ∧ ls[i]? = some x ∧ x.1 = n ∧ ∀ (j : Nat) (y : La), j < i → ls[j]? = some y → y.1 ≠ n) ∧ Ext w w' := by
 obtain ⟨n0, hn0⟩ : ∃ n, n = w.heap.size := ⟨_, rfl⟩
 have hU : Upd (fun i => n0 ≤ i) w w := Upd.refl _ _
 have hmx := hl.sv.len
 refine CT_of Try.func34 rfl rfl rfl ?_
 refine W_seq ?_
 refine W_reg ?_
 refine L_op rfl (X_assign (v := (.int .i64 (0))) rfl ?_)
 refine L_nil ?_
 refine T_n ?_
 refine W_seq ?_
 refine W_seq ?_
 refine W_reg ?_
 refine L_op rfl (X_move (v := u) rfl ?_)
 refine L_op rfl (X_len (v := u) (n := ls.length) Try.underlying23 rfl hl.sv ?_)
 refine L_op rfl (X_move (v := (.int .i64 (0))) rfl ?_)
 refine L_nil ?_
 refine T_n ?_
 refine W_block ?_
 refine W_loop (α := Nat) [4, 5, 8, 9, 10, 11, 12, 13, 14, 15, 16, 17, 18] (fun i => [(8, (.int .i64 (((i : Nat) : Int))))]) (fun i w_ => i ≤ ls.length ∧ (∀ (j : Nat) (y : La), j < i → ls[j]? = some y → y.1 ≠ n) ∧ NRd LL w_ lo up u ls ∧ Blk w_ bK #[.int .i64 n] 3 ∧ Upd (fun i => n0 ≤ i) w w_) (fun i => ls.length - i) ⟨rfl, 0, ⟨Nat.zero_le _, fun j _ h => absurd h (Nat.not_lt_zero j), hl, hK, hU⟩, Out.refl _ _, ⟨rfl, trivial⟩⟩ ?_
 rintro i w1 _ ⟨hil, hz, hl, hK, hU⟩
 have hsz_ := hU.size
 refine W_seq ?_
 refine W_reg ?_
 by_cases hc2 : (((i : Nat) : Int) : Int) < (((ls.length : Nat) : Int))
 ·refine L_op rfl (X_cmp (k := .i64) (a := ((i : Nat) : Int)) (b := ((ls.length : Nat) : Int)) (r := true) rfl rfl rfl (decide_eq_true (p := ((((i : Nat) : Int)) : Int) < ((((ls.length : Nat) : Int)) : Int)) (by omega)) ?_)
  obtain ⟨x, hx⟩ : ∃ x, ls[i]? = some x := ⟨_, List.getElem?_eq_getElem (by omega)⟩
  refine L_nil ?_
  refine T_n ?_
  refine W_seq ?_
  refine W_ct rfl ?_
  refine W_skip ?_
  refine T_n ?_
  refine W_seq ?_
  refine W_block ?_
  refine W_seq ?_
  refine W_reg ?_
  refine L_op rfl (X_move (v := (.int .i64 (((i : Nat) : Int)))) rfl ?_)
  refine L_op rfl (X_assign (v := (.int .i64 (((i : Nat) : Int)))) rfl ?_)
  refine L_nil ?_
  refine T_n ?_
  refine W_seq ?_
  refine W_reg ?_
  refine L_op rfl (X_move (v := (.func (.func 36) #[] #[ptr bK 0])) rfl ?_)
  refine L_op rfl (X_move (v := u) rfl ?_)
  refine L_op rfl (X_move (v := (.int .i64 (((i : Nat) : Int)))) rfl ?_)
  refine L_op rfl (X_idx (v := u) (n := ls.length) (k := .i64) (i := ((i : Nat) : Int)) S23 rfl hl.sv rfl (by omega) (by omega) ?_)
  refine L_op rfl (X_loadA (p := (pof u ((((i : Nat) : Int) : Int).toNat * 2))) (xs := [(.int .i64 (x.1)), (.int .u32 (x.2))]) A44 rfl (lall hl (Int.toNat_natCast _) hx) rfl ?_)
  have hcr_ := c_cl36 x n bK w1 hK
  refine L_op rfl (X_cl (vs := [(.agg #[(.int .i64 (x.1)), (.int .u32 (x.2))])]) (cap := [ptr bK 0]) en36 rfl rfl ?_)
  refine CT.mono hcr_ ?_
  clear hcr_
  rintro _ w3 ⟨rfl, hu3⟩
  have hz3 := hu3.size
  replace hl := hl.ext hu3
  replace hK := hK.ext hu3
  replace hU := hU.trans (Ext.upd hu3)
  rcases Bool.eq_false_or_eq_true (decide (x.1 = n)) with hc4 | hc4
  ·rw [hc4]
   refine L_nil ?_
   refine T_n ?_
   refine W_ct rfl ?_
   refine W_seq ?_
   refine W_reg ?_
   refine L_op rfl (X_move (v := (.int .i64 (((i : Nat) : Int)))) rfl ?_)
   refine L_op rfl (X_assign (v := (.int .i64 (((i : Nat) : Int)))) rfl ?_)
   refine L_nil ?_
   refine T_n ?_
   refine W_ret ?_
   refine B_r ?_
   refine T_r ?_
   refine T_r ?_
   refine B_r ?_
   refine T_r ?_
   exact BQ_r (End_1 Try.results34 (v := (.int .i64 (((i : Nat) : Int)))) rfl ⟨.inr ⟨i, x, rfl, hx, of_decide_eq_true hc4, hz⟩, hU.own hn0⟩)
  ·rw [hc4]
   refine L_nil ?_
   refine T_n ?_
   refine W_cf rfl ?_
   refine W_skip ?_
   refine B_n ?_
   refine T_n ?_
   refine W_reg ?_
   refine L_op rfl (X_arith (k := .i64) (a := ((i : Nat) : Int)) (b := 1) (r := ((i + 1 : Nat) : Int)) rfl rfl rfl (iadd64 (by omega) (by omega) (by omega)) ?_)
   refine L_op rfl (X_move (v := (.int .i64 (((i + 1 : Nat) : Int)))) rfl ?_)
   refine L_nil ?_
   refine T_n ?_
   exact ⟨rfl, i + 1, ⟨⟨by omega, fun j y hj he => (Nat.lt_or_ge j i).elim (fun h1 => hz j y h1 he) fun h1 => by obtain rfl : j = i := by { omega }; rw [hx] at he; cases he; exact of_decide_eq_false hc4, hl, hK, hU⟩, (by show ls.length - (i + 1) < ls.length - i; omega)⟩, (Out.mk rfl), ⟨rfl, trivial⟩⟩
 ·refine L_op rfl (X_cmp (k := .i64) (a := ((i : Nat) : Int)) (b := ((ls.length : Nat) : Int)) (r := false) rfl rfl rfl (decide_eq_false (p := ((((i : Nat) : Int)) : Int) < ((((ls.length : Nat) : Int)) : Int)) (by omega)) ?_)
  refine L_nil ?_
  refine T_n ?_
  refine W_seq ?_
  refine W_cf rfl ?_
  refine W_exit ?_
  refine T_e ?_
  refine T_e ?_
  refine B_x ?_
  refine T_n ?_
  refine W_seq ?_
  refine W_reg ?_
  refine L_op rfl (X_assign (v := (.int .i64 (-1))) rfl ?_)
  refine L_nil ?_
  refine T_n ?_
  refine W_ret ?_
  exact BQ_r (End_1 Try.results34 (v := (.int .i64 (-1))) rfl ⟨.inl ⟨rfl, fun j y hj => hz j y (by have := (List.getElem?_eq_some_iff.1 hj).1; omega) hj⟩, hU.own hn0⟩)

theorem c_cl24 (x : La) (n : Int) (bK : Nat) (w : World) (hK : Blk w bK #[.int .i64 n] 3) : CT Try.prog 24 #[(.agg #[(.int .i64 (x.1)), (.int .u32 (x.2))]), (ptr bK (0))] w fun v w' => v = .bool (decide (x.1 = n)) ∧ Ext w w' := by
 obtain ⟨n0, hn0⟩ : ∃ n, n = w.heap.size := ⟨_, rfl⟩
 have hU : Upd (fun i => n0 ≤ i) w w := Upd.refl _ _
 refine CT_of Try.func24 rfl rfl rfl ?_
 refine W_seq ?_
 refine W_reg ?_
 refine L_op rfl (X_box (v := (.agg #[(.int .i64 (x.1)), (.int .u32 (x.2))])) (c := ([(.int .i64 (x.1)), (.int .u32 (x.2))]).toArray) rfl rfl ?_)
 intro b1 w1 hn1
 have hbn1 := hn1.num; have hbs1 := hn1.size
 replace hK := hK.ext hn1.ext
 replace hU := hU.trans (Ext.upd hn1.ext)
 have hB1 := hn1.blk
 refine L_op rfl (X_assign (v := (.bool (false))) rfl ?_)
 refine L_nil ?_
 refine T_n ?_
 refine W_seq ?_
 refine W_reg ?_
 refine L_op rfl (X_fldP (b := b1) (o := 0) (r := 0) Fd44_0 rfl rfl ?_)
 refine L_op rfl (X_load (p := (ptr b1 (0))) (v := (.int .i64 (x.1))) T3 rfl (hB1.at1 rfl) ?_)
 refine L_op rfl (X_load (p := (ptr bK (0))) (v := (.int .i64 (n))) T3 rfl (hK.at1 rfl) ?_)
 refine L_op rfl (X_cmp (k := .i64) (a := x.1) (b := n) (r := decide (x.1 = n)) rfl rfl rfl rfl ?_)
 refine L_op rfl (X_assign (v := (.bool (decide (x.1 = n)))) rfl ?_)
 refine L_nil ?_
 refine T_n ?_
 refine W_ret ?_
 exact BQ_r (End_1 Try.results24 (v := .bool (decide (x.1 = n))) rfl ⟨rfl, hU.own hn0⟩)

theorem c_idx24 (u : Value) (ls : List La) (n : Int) (bK : Nat) (w : World) (lo up : Nat) (hl : NRd LL w lo up u ls) (hK : Blk w bK #[.int .i64 n] 3) : CT Try.prog 34 #[u, (.func (.func 24) #[] #[ptr bK 0])] w fun v w' => ((v = .int .i64 (-1) ∧ ∀ (j : Nat) (x : La), ls[j]? = some x → x.1 ≠ n) ∨ ∃ (i : Nat) (x : La), v = .int .i64 ((i : Nat) : Int) ∧ ls[i]? = some x ∧ x.1 = n ∧ ∀ (j : Nat) (y : La), j < i → ls[j]? = some y → y.1 ≠ n) ∧ Ext w w' := by
 obtain ⟨n0, hn0⟩ : ∃ n, n = w.heap.size := ⟨_, rfl⟩
 have hU : Upd (fun i => n0 ≤ i) w w := Upd.refl _ _
 have hmx := hl.sv.len
 refine CT_of Try.func34 rfl rfl rfl ?_
 refine W_seq ?_
 refine W_reg ?_
 refine L_op rfl (X_assign (v := (.int .i64 (0))) rfl ?_)
 refine L_nil ?_
 refine T_n ?_
 refine W_seq ?_
 refine W_seq ?_
 refine W_reg ?_
 refine L_op rfl (X_move (v := u) rfl ?_)
 refine L_op rfl (X_len (v := u) (n := ls.length) Try.underlying23 rfl hl.sv ?_)
 refine L_op rfl (X_move (v := (.int .i64 (0))) rfl ?_)
 refine L_nil ?_
 refine T_n ?_
 refine W_block ?_
 refine W_loop (α := Nat) [4, 5, 8, 9, 10, 11, 12, 13, 14, 15, 16, 17, 18] (fun i => [(8, (.int .i64 (((i : Nat) : Int))))]) (fun i w_ => i ≤ ls.length ∧ (∀ (j : Nat) (y : La), j < i → ls[j]? = some y → y.1 ≠ n) ∧ NRd LL w_ lo up u ls ∧ Blk w_ bK #[.int .i64 n] 3 ∧ Upd (fun i => n0 ≤ i) w w_) (fun i => ls.length - i) ⟨rfl, 0, ⟨Nat.zero_le _, fun j _ h => absurd h (Nat.not_lt_zero j), hl, hK, hU⟩, Out.refl _ _, ⟨rfl, trivial⟩⟩ ?_
 rintro i w1 _ ⟨hil, hz, hl, hK, hU⟩
 have hsz_ := hU.size
 refine W_seq ?_
 refine W_reg ?_
 by_cases hc2 : (((i : Nat) : Int) : Int) < (((ls.length : Nat) : Int))
 ·refine L_op rfl (X_cmp (k := .i64) (a := ((i : Nat) : Int)) (b := ((ls.length : Nat) : Int)) (r := true) rfl rfl rfl (decide_eq_true (p := ((((i : Nat) : Int)) : Int) < ((((ls.length : Nat) : Int)) : Int)) (by omega)) ?_)
  obtain ⟨x, hx⟩ : ∃ x, ls[i]? = some x := ⟨_, List.getElem?_eq_getElem (by omega)⟩
  refine L_nil ?_
  refine T_n ?_
  refine W_seq ?_
  refine W_ct rfl ?_
  refine W_skip ?_
  refine T_n ?_
  refine W_seq ?_
  refine W_block ?_
  refine W_seq ?_
  refine W_reg ?_
  refine L_op rfl (X_move (v := (.int .i64 (((i : Nat) : Int)))) rfl ?_)
  refine L_op rfl (X_assign (v := (.int .i64 (((i : Nat) : Int)))) rfl ?_)
  refine L_nil ?_
  refine T_n ?_
  refine W_seq ?_
  refine W_reg ?_
  refine L_op rfl (X_move (v := (.func (.func 24) #[] #[ptr bK 0])) rfl ?_)
  refine L_op rfl (X_move (v := u) rfl ?_)
  refine L_op rfl (X_move (v := (.int .i64 (((i : Nat) : Int)))) rfl ?_)
  refine L_op rfl (X_idx (v := u) (n := ls.length) (k := .i64) (i := ((i : Nat) : Int)) S23 rfl hl.sv rfl (by omega) (by omega) ?_)
  refine L_op rfl (X_loadA (p := (pof u ((((i : Nat) : Int) : Int).toNat * 2))) (xs := [(.int .i64 (x.1)), (.int .u32 (x.2))]) A44 rfl (lall hl (Int.toNat_natCast _) hx) rfl ?_)
  have hcr_ := c_cl24 x n bK w1 hK
  refine L_op rfl (X_cl (vs := [(.agg #[(.int .i64 (x.1)), (.int .u32 (x.2))])]) (cap := [ptr bK 0]) en24 rfl rfl ?_)
  refine CT.mono hcr_ ?_
  clear hcr_
  rintro _ w3 ⟨rfl, hu3⟩
  have hz3 := hu3.size
  replace hl := hl.ext hu3
  replace hK := hK.ext hu3
  replace hU := hU.trans (Ext.upd hu3)
  rcases Bool.eq_false_or_eq_true (decide (x.1 = n)) with hc4 | hc4
  ·rw [hc4]
   refine L_nil ?_
   refine T_n ?_
   refine W_ct rfl ?_
   refine W_seq ?_
   refine W_reg ?_
   refine L_op rfl (X_move (v := (.int .i64 (((i : Nat) : Int)))) rfl ?_)
   refine L_op rfl (X_assign (v := (.int .i64 (((i : Nat) : Int)))) rfl ?_)
   refine L_nil ?_
   refine T_n ?_
   refine W_ret ?_
   refine B_r ?_
   refine T_r ?_
   refine T_r ?_
   refine B_r ?_
   refine T_r ?_
   exact BQ_r (End_1 Try.results34 (v := (.int .i64 (((i : Nat) : Int)))) rfl ⟨.inr ⟨i, x, rfl, hx, of_decide_eq_true hc4, hz⟩, hU.own hn0⟩)
  ·rw [hc4]
   refine L_nil ?_
   refine T_n ?_
   refine W_cf rfl ?_
   refine W_skip ?_
   refine B_n ?_
   refine T_n ?_
   refine W_reg ?_
   refine L_op rfl (X_arith (k := .i64) (a := ((i : Nat) : Int)) (b := 1) (r := ((i + 1 : Nat) : Int)) rfl rfl rfl (iadd64 (by omega) (by omega) (by omega)) ?_)
   refine L_op rfl (X_move (v := (.int .i64 (((i + 1 : Nat) : Int)))) rfl ?_)
   refine L_nil ?_
   refine T_n ?_
   exact ⟨rfl, i + 1, ⟨⟨by omega, fun j y hj he => (Nat.lt_or_ge j i).elim (fun h1 => hz j y h1 he) fun h1 => by obtain rfl : j = i := by { omega }; rw [hx] at he; cases he; exact of_decide_eq_false hc4, hl, hK, hU⟩, (by show ls.length - (i + 1) < ls.length - i; omega)⟩, (Out.mk rfl), ⟨rfl, trivial⟩⟩
 ·refine L_op rfl (X_cmp (k := .i64) (a := ((i : Nat) : Int)) (b := ((ls.length : Nat) : Int)) (r := false) rfl rfl rfl (decide_eq_false (p := ((((i : Nat) : Int)) : Int) < ((((ls.length : Nat) : Int)) : Int)) (by omega)) ?_)
  refine L_nil ?_
  refine T_n ?_
  refine W_seq ?_
  refine W_cf rfl ?_
  refine W_exit ?_
  refine T_e ?_
  refine T_e ?_
  refine B_x ?_
  refine T_n ?_
  refine W_seq ?_
  refine W_reg ?_
  refine L_op rfl (X_assign (v := (.int .i64 (-1))) rfl ?_)
  refine L_nil ?_
  refine T_n ?_
  refine W_ret ?_
  exact BQ_r (End_1 Try.results34 (v := (.int .i64 (-1))) rfl ⟨.inl ⟨rfl, fun j y hj => hz j y (by have := (List.getElem?_eq_some_iff.1 hj).1; omega) hj⟩, hU.own hn0⟩)

theorem c_waits (s : Sp) (n : Int) (w : World) (lo up : Nat) (hs : s.Rd w lo up) : CT Try.prog 31 #[(.agg #[(.int .i64 (s.sz)), s.uv, s.lv]), (.int .i64 (n))] w fun v w' => v = .tuple #[.int .u32 ((wt s.ls n).getD 0), .bool (wt s.ls n).isSome] ∧ Ext w w' := by
 obtain ⟨n0, hn0⟩ : ∃ n, n = w.heap.size := ⟨_, rfl⟩
 have hU : Upd (fun i => n0 ≤ i) w w := Upd.refl _ _
 have hul := hs.1.sv.len; have hll := hs.2.sv.len
 refine CT_of Try.func31 rfl rfl rfl ?_
 refine W_seq ?_
 refine W_reg ?_
 refine L_op rfl (X_box (v := (.agg #[(.int .i64 (s.sz)), s.uv, s.lv])) (c := ([(.int .i64 (s.sz)), s.uv, s.lv]).toArray) rfl rfl ?_)
 intro b1 w1 hn1
 have hbn1 := hn1.num; have hbs1 := hn1.size
 replace hs := hs.ext hn1.ext
 replace hU := hU.trans (Ext.upd hn1.ext)
 have hB1 := hn1.blk
 refine L_op rfl (X_box (v := (.int .i64 (n))) (c := #[(.int .i64 (n))]) rfl rfl ?_)
 intro b2 w2 hn2
 have hbn2 := hn2.num; have hbs2 := hn2.size
 replace hs := hs.ext hn2.ext
 replace hU := hU.trans (Ext.upd hn2.ext)
 replace hB1 := hB1.ext hn2.ext
 have hB2 := hn2.blk
 refine L_op rfl (X_assign (v := (.int .u32 (0))) rfl ?_)
 refine L_op rfl (X_assign (v := (.bool (false))) rfl ?_)
 refine L_nil ?_
 refine T_n ?_
 refine W_seq ?_
 refine W_reg ?_
 refine L_op rfl (X_fldP (b := b1) (o := 0) (r := 2) Fd25_2 rfl rfl ?_)
 refine L_op rfl (X_load (p := (ptr b1 (2))) (v := s.lv) T23 rfl (hB1.at1 rfl) ?_)
 refine L_op rfl (X_makeFunc (vs := [(ptr b2 (0))]) rfl ?_)
 have hcr_ := c_idx36 s.lv s.ls n b2 w2 lo up hs.2 hB2
 refine L_op rfl (X_fn (vs := [s.lv, (.func (.func 36) #[] #[(ptr b2 (0))])]) en34 rfl ?_)
 refine CT.mono hcr_ ?_
 clear hcr_
 rintro _ w3 ⟨⟨rfl, hno⟩ | ⟨i, x, rfl, hx, hxn, hno⟩, hu3⟩
 ·have hz3 := hu3.size
  replace hs := hs.ext hu3
  replace hU := hU.trans (Ext.upd hu3)
  replace hB1 := hB1.ext hu3
  replace hB2 := hB2.ext hu3
  refine L_op rfl (X_assign (v := (.int .i64 ((-1)))) rfl ?_)
  refine L_nil ?_
  refine T_n ?_
  refine W_seq ?_
  refine W_seq ?_
  refine W_reg ?_
  refine L_op rfl (X_move (v := (.int .i64 ((-1)))) rfl ?_)
  refine L_op rfl (X_cmp (k := .i64) (a := (-1)) (b := 0) (r := true) rfl rfl rfl (decide_eq_true (p := ((-1) : Int) < 0) (by omega)) ?_)
  refine L_nil ?_
  refine T_n ?_
  refine W_ct rfl ?_
  refine W_seq ?_
  refine W_reg ?_
  refine L_op rfl (X_assign (v := (.int .u32 (0))) rfl ?_)
  refine L_op rfl (X_assign (v := (.bool (false))) rfl ?_)
  refine L_nil ?_
  refine T_n ?_
  refine W_ret ?_
  refine T_r ?_
  exact BQ_r (End_2 Try.results31 (v1 := (.int .u32 (0))) (v2 := (.bool (false))) rfl rfl ⟨by rw [wt_none hno] <;> rfl, hU.own hn0⟩)
 ·have hz3 := hu3.size
  replace hs := hs.ext hu3
  replace hU := hU.trans (Ext.upd hu3)
  replace hB1 := hB1.ext hu3
  replace hB2 := hB2.ext hu3
  have hil := (List.getElem?_eq_some_iff.1 hx).1
  refine L_op rfl (X_assign (v := (.int .i64 (((i : Nat) : Int)))) rfl ?_)
  refine L_nil ?_
  refine T_n ?_
  refine W_seq ?_
  refine W_seq ?_
  refine W_reg ?_
  refine L_op rfl (X_move (v := (.int .i64 (((i : Nat) : Int)))) rfl ?_)
  refine L_op rfl (X_cmp (k := .i64) (a := ((i : Nat) : Int)) (b := 0) (r := false) rfl rfl rfl (decide_eq_false (p := (((i : Nat) : Int) : Int) < 0) (by omega)) ?_)
  refine L_nil ?_
  refine T_n ?_
  refine W_cf rfl ?_
  refine W_skip ?_
  refine T_n ?_
  refine W_seq ?_
  refine W_reg ?_
  refine L_op rfl (X_fldP (b := b1) (o := 0) (r := 2) Fd25_2 rfl rfl ?_)
  refine L_op rfl (X_load (p := (ptr b1 (2))) (v := s.lv) T23 rfl (hB1.at1 rfl) ?_)
  refine L_op rfl (X_move (v := (.int .i64 (((i : Nat) : Int)))) rfl ?_)
  refine L_op rfl (X_idx (v := s.lv) (n := s.ls.length) (k := .i64) (i := ((i : Nat) : Int)) S23 rfl hs.2.sv rfl (by omega) (by omega) ?_)
  refine L_op rfl (X_fldS (v := s.lv) (o := (((i : Nat) : Int) : Int).toNat * 2) Fd44_1 rfl hs.2.sv (by omega) ?_)
  refine L_op rfl (X_load (p := (pof s.lv ((((i : Nat) : Int) : Int).toNat * 2 + 1))) (v := .int .u32 x.2) T26 rfl (ltx hs.2 (Int.toNat_natCast _) hx) ?_)
  refine L_op rfl (X_assign (v := (.int .u32 (x.2))) rfl ?_)
  refine L_op rfl (X_assign (v := (.bool (true))) rfl ?_)
  refine L_nil ?_
  refine T_n ?_
  refine W_ret ?_
  exact BQ_r (End_2 Try.results31 (v1 := (.int .u32 (x.2))) (v2 := (.bool (true))) rfl rfl ⟨by rw [wt_some hx hxn hno] <;> rfl, hU.own hn0⟩)

theorem c_lt33 (a t : Int) (bT : Nat) (w : World) (hT : Blk w bT #[.int .u32 t] 26) : CT Try.prog 33 #[(.int .u32 (a)), (ptr bT (0))] w fun v w' => v = .bool (decide (a < t)) ∧ w = w' := by
 refine CT_of Try.func33 rfl rfl rfl ?_
 refine W_seq ?_
 refine W_reg ?_
 refine L_op rfl (X_assign (v := (.bool (false))) rfl ?_)
 refine L_nil ?_
 refine T_n ?_
 refine W_seq ?_
 refine W_reg ?_
 refine L_op rfl (X_move (v := (.int .u32 (a))) rfl ?_)
 refine L_op rfl (X_load (p := (ptr bT (0))) (v := (.int .u32 (t))) T26 rfl (hT.at1 rfl) ?_)
 refine L_op rfl (X_cmp (k := .u32) (a := a) (b := t) (r := decide (a < t)) rfl rfl rfl rfl ?_)
 refine L_op rfl (X_assign (v := (.bool (decide (a < t)))) rfl ?_)
 refine L_nil ?_
 refine T_n ?_
 refine W_ret ?_
 exact BQ_r (End_1 Try.results33 (v := .bool (decide (a < t))) rfl ⟨rfl, rfl⟩)

theorem c_idxP (pv : Value) (ps : List Int) (t : Int) (bT : Nat) (w : World) (lo up : Nat) (hp : NRd LU w lo up pv ps) (hT : Blk w bT #[.int .u32 t] 26) : CT Try.prog 37 #[pv, (.func (.func 33) #[] #[ptr bT 0])] w fun v w' => (∃ r : Int, v = .int .i64 r ∧ (0 ≤ r ↔ ∃ p ∈ ps, p < t)) ∧ w = w' := by
 have hmx := hp.sv.len
 refine CT_of Try.func37 rfl rfl rfl ?_
 refine W_seq ?_
 refine W_reg ?_
 refine L_op rfl (X_assign (v := (.int .i64 (0))) rfl ?_)
 refine L_nil ?_
 refine T_n ?_
 refine W_seq ?_
 refine W_seq ?_
 refine W_reg ?_
 refine L_op rfl (X_move (v := pv) rfl ?_)
 refine L_op rfl (X_len (v := pv) (n := ps.length) Try.underlying52 rfl hp.sv ?_)
 refine L_op rfl (X_move (v := (.int .i64 (0))) rfl ?_)
 refine L_nil ?_
 refine T_n ?_
 refine W_block ?_
 refine W_loop (α := Nat) [4, 5, 8, 9, 10, 11, 12, 13, 14, 15, 16, 17, 18] (fun i => [(8, (.int .i64 (((i : Nat) : Int))))]) (fun i w_ => w = w_ ∧ i ≤ ps.length ∧ ∀ (j : Nat) (a : Int), j < i → ps[j]? = some a → ¬ a < t) (fun i => ps.length - i) ⟨rfl, 0, ⟨rfl, Nat.zero_le _, fun j _ h => absurd h (Nat.not_lt_zero j)⟩, Out.refl _ _, ⟨rfl, trivial⟩⟩ ?_
 rintro i w1 _ ⟨rfl, hil, hz⟩
 refine W_seq ?_
 refine W_reg ?_
 by_cases hc2 : (((i : Nat) : Int) : Int) < (((ps.length : Nat) : Int))
 ·refine L_op rfl (X_cmp (k := .i64) (a := ((i : Nat) : Int)) (b := ((ps.length : Nat) : Int)) (r := true) rfl rfl rfl (decide_eq_true (p := ((((i : Nat) : Int)) : Int) < ((((ps.length : Nat) : Int)) : Int)) (by omega)) ?_)
  obtain ⟨a, ha⟩ : ∃ a, ps[i]? = some a := ⟨_, List.getElem?_eq_getElem (by omega)⟩
  refine L_nil ?_
  refine T_n ?_
  refine W_seq ?_
  refine W_ct rfl ?_
  refine W_skip ?_
  refine T_n ?_
  refine W_seq ?_
  refine W_block ?_
  refine W_seq ?_
  refine W_reg ?_
  refine L_op rfl (X_move (v := (.int .i64 (((i : Nat) : Int)))) rfl ?_)
  refine L_op rfl (X_assign (v := (.int .i64 (((i : Nat) : Int)))) rfl ?_)
  refine L_nil ?_
  refine T_n ?_
  refine W_seq ?_
  refine W_reg ?_
  refine L_op rfl (X_move (v := (.func (.func 33) #[] #[ptr bT 0])) rfl ?_)
  refine L_op rfl (X_move (v := pv) rfl ?_)
  refine L_op rfl (X_move (v := (.int .i64 (((i : Nat) : Int)))) rfl ?_)
  refine L_op rfl (X_idx (v := pv) (n := ps.length) (k := .i64) (i := ((i : Nat) : Int)) S52 rfl hp.sv rfl (by omega) (by omega) ?_)
  refine L_op rfl (X_load (p := (pof pv ((((i : Nat) : Int) : Int).toNat * 1))) (v := .int .u32 a) T26 rfl (uat hp (Int.toNat_natCast _) ha) ?_)
  refine L_op rfl (X_cl (vs := [.int .u32 a]) (cap := [ptr bT 0]) en33 rfl rfl (CT.mono (c_lt33 a t bT _ hT) ?_))
  rintro _ _ ⟨rfl, rfl⟩
  rcases Bool.eq_false_or_eq_true (decide (a < t)) with hc3 | hc3
  ·rw [hc3]
   refine L_nil ?_
   refine T_n ?_
   refine W_ct rfl ?_
   refine W_seq ?_
   refine W_reg ?_
   refine L_op rfl (X_move (v := (.int .i64 (((i : Nat) : Int)))) rfl ?_)
   refine L_op rfl (X_assign (v := (.int .i64 (((i : Nat) : Int)))) rfl ?_)
   refine L_nil ?_
   refine T_n ?_
   refine W_ret ?_
   refine B_r ?_
   refine T_r ?_
   refine T_r ?_
   refine B_r ?_
   refine T_r ?_
   exact BQ_r (End_1 Try.results37 (v := (.int .i64 (((i : Nat) : Int)))) rfl ⟨⟨_, rfl, ⟨fun _ => ⟨a, List.mem_of_getElem? ha, of_decide_eq_true hc3⟩, fun _ => by omega⟩⟩, rfl⟩)
  ·rw [hc3]
   refine L_nil ?_
   refine T_n ?_
   refine W_cf rfl ?_
   refine W_skip ?_
   refine B_n ?_
   refine T_n ?_
   refine W_reg ?_
   refine L_op rfl (X_arith (k := .i64) (a := ((i : Nat) : Int)) (b := 1) (r := ((i + 1 : Nat) : Int)) rfl rfl rfl (iadd64 (by omega) (by omega) (by omega)) ?_)
   refine L_op rfl (X_move (v := (.int .i64 (((i + 1 : Nat) : Int)))) rfl ?_)
   refine L_nil ?_
   refine T_n ?_
   exact ⟨rfl, i + 1, ⟨⟨rfl, by omega, fun j e hj he => (Nat.lt_or_ge j i).elim (fun h1 => hz j e h1 he) fun h1 => by obtain rfl : j = i := by { omega }; rw [ha] at he; cases he; exact of_decide_eq_false hc3⟩, (by show ps.length - (i + 1) < ps.length - i; omega)⟩, (Out.mk rfl), ⟨rfl, trivial⟩⟩
 ·refine L_op rfl (X_cmp (k := .i64) (a := ((i : Nat) : Int)) (b := ((ps.length : Nat) : Int)) (r := false) rfl rfl rfl (decide_eq_false (p := ((((i : Nat) : Int)) : Int) < ((((ps.length : Nat) : Int)) : Int)) (by omega)) ?_)
  refine L_nil ?_
  refine T_n ?_
  refine W_seq ?_
  refine W_cf rfl ?_
  refine W_exit ?_
  refine T_e ?_
  refine T_e ?_
  refine B_x ?_
  refine T_n ?_
  refine W_seq ?_
  refine W_reg ?_
  refine L_op rfl (X_assign (v := (.int .i64 (-1))) rfl ?_)
  refine L_nil ?_
  refine T_n ?_
  refine W_ret ?_
  exact BQ_r (End_1 Try.results37 (v := (.int .i64 (-1))) rfl ⟨⟨_, rfl, ⟨fun h => by omega, fun ⟨e, he, ht⟩ => by obtain ⟨j, hj, rfl⟩ := List.getElem_of_mem he; exact absurd ht (hz j _ (by omega) (List.getElem?_eq_getElem hj))⟩⟩, rfl⟩)

theorem c_containsP (pv : Value) (ps : List Int) (t : Int) (bT : Nat) (w : World) (lo up : Nat) (hp : NRd LU w lo up pv ps) (hT : Blk w bT #[.int .u32 t] 26) : CT Try.prog 32 #[pv, (.func (.func 33) #[] #[ptr bT 0])] w fun v w' => (∃ g, v = .bool g ∧ (g = true ↔ ∃ p ∈ ps, p < t)) ∧ w = w' := by
 refine CT_of Try.func32 rfl rfl rfl ?_
 refine W_seq ?_
 refine W_reg ?_
 refine L_op rfl (X_assign (v := (.bool (false))) rfl ?_)
 refine L_nil ?_
 refine T_n ?_
 refine W_seq ?_
 refine W_reg ?_
 refine L_op rfl (X_move (v := pv) rfl ?_)
 refine L_op rfl (X_move (v := (.func (.func 33) #[] #[ptr bT 0])) rfl ?_)
 refine L_op rfl (X_fn (vs := [pv, (.func (.func 33) #[] #[ptr bT 0])]) en37 rfl (CT.mono (c_idxP pv ps t bT _ lo up hp hT) ?_))
 rintro _ _ ⟨⟨r_, rfl, hr_⟩, rfl⟩
 by_cases hc1 : (r_ : Int) ≥ (0)
 ·refine L_op rfl (X_cmp (k := .i64) (a := r_) (b := 0) (r := true) rfl rfl rfl (decide_eq_true (p := ((0) : Int) ≤ ((r_) : Int)) (by omega)) ?_)
  refine L_op rfl (X_assign (v := (.bool (true))) rfl ?_)
  refine L_nil ?_
  refine T_n ?_
  refine W_ret ?_
  exact BQ_r (End_1 Try.results32 (v := .bool true) rfl ⟨⟨_, rfl, ⟨fun _ => hr_.1 (by omega), fun _ => rfl⟩⟩, rfl⟩)
 ·refine L_op rfl (X_cmp (k := .i64) (a := r_) (b := 0) (r := false) rfl rfl rfl (decide_eq_false (p := ((0) : Int) ≤ ((r_) : Int)) (by omega)) ?_)
  refine L_op rfl (X_assign (v := (.bool (false))) rfl ?_)
  refine L_nil ?_
  refine T_n ?_
  refine W_ret ?_
  exact BQ_r (End_1 Try.results32 (v := .bool false) rfl ⟨⟨_, rfl, ⟨fun h => (by cases h), fun h => (by have := hr_.2 h; omega)⟩⟩, rfl⟩)
end Go.Proofs.Ytmaikcnjgkoghaa
