/-
 The contracts of chapter 10: pointers and their copies. (Printed by wip/gen/t10f.py of this repo.)
-/
import Derived.Test.YtcjfkkoapncnhaaMiE
import Derived.Test.YtcjfkkoapncnhaaBaseS
namespace Go.Proofs.Ytcjfkkoapncnhaa
open Go Go.SL Go.Proofs
set_option linter.unusedVariables false

/-- the numbers of a pointer are of their kinds -/
def PtOk (q : Pt) : Prop := (0 ≤ q.1 ∧ q.1 < 256) ∧ (0 ≤ q.2.1 ∧ q.2.1 < 65536) ∧ (0 ≤ q.2.2.1 ∧ q.2.2.1 < 65536) ∧ (0 ≤ q.2.2.2.1 ∧ q.2.2.2.1 < 4294967296) ∧ (0 ≤ q.2.2.2.2 ∧ q.2.2.2.2 < 18446744073709551616)
abbrev PlaceP (n : Int) (size : Int) : Prop := 4 ≤ n ∧ n < size
abbrev HeadP (q : Pt) : Prop := (1 ≤ q.2.2.2.1 ∧ q.2.2.2.1 ≤ 1073741824) ∧ (MetaP q ∧ q.2.1 ≠ q.2.2.1 ∨ q.1 = 3 ∧ q.2.2.1 = 0)
abbrev RightP (q : Pt) (size : Int) : Prop := HeadP q ∧ PlaceP q.2.1 size ∧ (MetaP q → PlaceP q.2.2.1 size)
theorem wrap_i64 {a : Int} (h0 : 0 ≤ a) (h1 : a < 9223372036854775808) : IntKind.i64.wrap a = a := by
 have e : (2 : Int) ^ 64 = 18446744073709551616 := by decide
 have e2 : (2 : Int) ^ 63 = 9223372036854775808 := by decide
 simp only [IntKind.wrap, IntKind.signed, IntKind.bits, Nat.reduceSub, e, e2, Bool.true_and]
 rw [show a % 18446744073709551616 = a by omega, if_neg (by simp only [decide_eq_true_eq]; omega)]
theorem copL_m {q : Pt} (h : MetaP q) : copL q = [(0, q.2.1), (0, q.2.2.1), (1, q.2.1), (1, q.2.2.1)] := if_pos h
theorem copL_c {q : Pt} (h : ¬ MetaP q) : copL q = [(0, q.2.1), (1, q.2.1)] := if_neg h
def LC : Lay (Int × Int) where
 cel x := [.int .i64 x.1, .int .i64 x.2]
 sub _ := []
 sz := 2
 len _ := rfl
 one _ _ u hu := by simp only [List.mem_cons, List.not_mem_nil, or_false] at hu; rcases hu with rfl | rfl <;> rfl
def copX (q : Pt) : List (List Value) := (copL q).map fun x => [.int .i64 x.1, .int .i64 x.2]
theorem copX_len (q : Pt) : (copX q).length = (copL q).length := by unfold copX; rw [List.length_map]
theorem copL_in {q : Pt} (hq : PtOk q) {d a : Int} (hm : (d, a) ∈ copL q) : (d = 0 ∨ d = 1) ∧ 0 ≤ a ∧ a < 65536 := by
 obtain ⟨_, h1, h2, _⟩ := hq
 unfold copL at hm
 split at hm <;> simp only [List.mem_cons, List.not_mem_nil, or_false, Prod.mk.injEq] at hm <;> omega
theorem copX_at {q : Pt} (hq : PtOk q) {k : Nat} {x : List Value} (h : (copX q)[k]? = some x) : ∃ d a, (copL q)[k]? = some (d, a) ∧ x = [.int .i64 d, .int .i64 a] ∧ (d = 0 ∨ d = 1) ∧ 0 ≤ a ∧ a < 65536 := by
 unfold copX at h
 rw [List.getElem?_map] at h
 cases ha : (copL q)[k]? with
 | none => rw [ha] at h; cases h
 | some y => rw [ha] at h; cases h; exact ⟨y.1, y.2, rfl, rfl, copL_in hq (List.mem_of_getElem? ha)⟩
theorem built47 (i a : Int) : Try.prog.built 47 [(0, .int .i64 i), (1, .int .i64 a)] = some #[.int .i64 i, .int .i64 a] := by kernel_rfl

theorem c_meta (q : Pt) (w : World) : CT Try.prog 41 #[(.agg (ptC q).toArray)] w fun v w' => v = .bool (decide (MetaP q)) ∧ Ext w w' := by
 obtain ⟨n0, hn0⟩ : ∃ n, n = w.heap.size := ⟨_, rfl⟩
 have hU : Upd (fun i => n0 ≤ i) w w := Upd.refl _ _
 refine CT_of Try.func41 rfl rfl rfl ?_
 refine W_seq ?_
 refine W_reg ?_
 refine L_op rfl (X_box (v := (.agg (ptC q).toArray)) (c := ((ptC q)).toArray) rfl rfl ?_)
 intro b1 w1 hn1
 have hbn1 := hn1.num; have hbs1 := hn1.size
 replace hU := hU.trans (Ext.upd hn1.ext)
 have hB1 := hn1.blk
 refine L_op rfl (X_assign (v := (.bool (false))) rfl ?_)
 refine L_nil ?_
 refine T_n ?_
 refine W_seq ?_
 refine W_reg ?_
 refine L_op rfl (X_fldP (b := b1) (o := 0) (r := 0) Fd35_0 rfl rfl ?_)
 refine L_op rfl (X_load (p := (ptr b1 (0))) (v := (.int .u8 (q.1))) T5 rfl (hB1.at1 rfl) ?_)
 by_cases hc2 : (q.1 : Int) = (1)
 ·refine L_op rfl (X_cmp (k := .u8) (a := q.1) (b := 1) (r := true) rfl rfl rfl (decide_eq_true (p := ((q.1) : Int) = ((1) : Int)) (by omega)) ?_)
  refine L_op rfl (X_move (v := (.bool (true))) rfl ?_)
  refine L_gn (dj := 6) (t := true) rfl rfl rfl rfl ?_
  refine L_gn (dj := 6) (t := true) rfl rfl rfl rfl ?_
  refine L_gn (dj := 6) (t := true) rfl rfl rfl rfl ?_
  refine L_op rfl (X_pick (t := true) (v := (.bool (true))) rfl rfl ?_)
  refine L_op rfl (X_assign (v := (.bool (true))) rfl ?_)
  refine L_nil ?_
  refine T_n ?_
  refine W_ret ?_
  exact BQ_r (End_1 Try.results41 (v := .bool true) rfl ⟨by rw [decide_eq_true (p := MetaP q) (by unfold MetaP; omega)], hU.own hn0⟩)
 ·refine L_op rfl (X_cmp (k := .u8) (a := q.1) (b := 1) (r := false) rfl rfl rfl (decide_eq_false (p := ((q.1) : Int) = ((1) : Int)) (by omega)) ?_)
  refine L_op rfl (X_move (v := (.bool (false))) rfl ?_)
  refine L_gy (dj := 6) rfl rfl rfl (X_fldP (b := b1) (o := 0) (r := 0) Fd35_0 rfl rfl ?_)
  refine L_gy (dj := 6) rfl rfl rfl (X_load (p := (ptr b1 (0))) (v := (.int .u8 (q.1))) T5 rfl (hB1.at1 rfl) ?_)
  by_cases hc3 : (q.1 : Int) = (2)
  ·refine L_gy (dj := 6) rfl rfl rfl (X_cmp (k := .u8) (a := q.1) (b := 2) (r := true) rfl rfl rfl (decide_eq_true (p := ((q.1) : Int) = ((2) : Int)) (by omega)) ?_)
   refine L_op rfl (X_pick (t := false) (v := (.bool (true))) rfl rfl ?_)
   refine L_op rfl (X_assign (v := (.bool (true))) rfl ?_)
   refine L_nil ?_
   refine T_n ?_
   refine W_ret ?_
   exact BQ_r (End_1 Try.results41 (v := .bool true) rfl ⟨by rw [decide_eq_true (p := MetaP q) (by unfold MetaP; omega)], hU.own hn0⟩)
  ·refine L_gy (dj := 6) rfl rfl rfl (X_cmp (k := .u8) (a := q.1) (b := 2) (r := false) rfl rfl rfl (decide_eq_false (p := ((q.1) : Int) = ((2) : Int)) (by omega)) ?_)
   refine L_op rfl (X_pick (t := false) (v := (.bool (false))) rfl rfl ?_)
   refine L_op rfl (X_assign (v := (.bool (false))) rfl ?_)
   refine L_nil ?_
   refine T_n ?_
   refine W_ret ?_
   exact BQ_r (End_1 Try.results41 (v := .bool false) rfl ⟨by rw [decide_eq_false (p := MetaP q) (by unfold MetaP; omega)], hU.own hn0⟩)

theorem c_metaR (q : Pt) (w : World) : CT Try.prog 17 #[(.agg (ptC q).toArray)] w fun v w' => v = .bool (decide (MetaP q)) ∧ Ext w w' := by
 obtain ⟨n0, hn0⟩ : ∃ n, n = w.heap.size := ⟨_, rfl⟩
 have hU : Upd (fun i => n0 ≤ i) w w := Upd.refl _ _
 refine CT_of Try.func17 rfl rfl rfl ?_
 refine W_seq ?_
 refine W_reg ?_
 refine L_op rfl (X_box (v := (.agg (ptC q).toArray)) (c := ((ptC q)).toArray) rfl rfl ?_)
 intro b1 w1 hn1
 have hbn1 := hn1.num; have hbs1 := hn1.size
 replace hU := hU.trans (Ext.upd hn1.ext)
 have hB1 := hn1.blk
 refine L_op rfl (X_assign (v := (.bool (false))) rfl ?_)
 refine L_nil ?_
 refine T_n ?_
 refine W_seq ?_
 refine W_reg ?_
 refine L_op rfl (X_fldP (b := b1) (o := 0) (r := 0) Fd35_0 rfl rfl ?_)
 refine L_op rfl (X_load (p := (ptr b1 (0))) (v := (.int .u8 (q.1))) T5 rfl (hB1.at1 rfl) ?_)
 by_cases hc2 : (q.1 : Int) = (1)
 ·refine L_op rfl (X_cmp (k := .u8) (a := q.1) (b := 1) (r := true) rfl rfl rfl (decide_eq_true (p := ((q.1) : Int) = ((1) : Int)) (by omega)) ?_)
  refine L_op rfl (X_move (v := (.bool (true))) rfl ?_)
  refine L_gn (dj := 6) (t := true) rfl rfl rfl rfl ?_
  refine L_gn (dj := 6) (t := true) rfl rfl rfl rfl ?_
  refine L_gn (dj := 6) (t := true) rfl rfl rfl rfl ?_
  refine L_op rfl (X_pick (t := true) (v := (.bool (true))) rfl rfl ?_)
  refine L_op rfl (X_assign (v := (.bool (true))) rfl ?_)
  refine L_nil ?_
  refine T_n ?_
  refine W_ret ?_
  exact BQ_r (End_1 Try.results17 (v := .bool true) rfl ⟨by rw [decide_eq_true (p := MetaP q) (by unfold MetaP; omega)], hU.own hn0⟩)
 ·refine L_op rfl (X_cmp (k := .u8) (a := q.1) (b := 1) (r := false) rfl rfl rfl (decide_eq_false (p := ((q.1) : Int) = ((1) : Int)) (by omega)) ?_)
  refine L_op rfl (X_move (v := (.bool (false))) rfl ?_)
  refine L_gy (dj := 6) rfl rfl rfl (X_fldP (b := b1) (o := 0) (r := 0) Fd35_0 rfl rfl ?_)
  refine L_gy (dj := 6) rfl rfl rfl (X_load (p := (ptr b1 (0))) (v := (.int .u8 (q.1))) T5 rfl (hB1.at1 rfl) ?_)
  by_cases hc3 : (q.1 : Int) = (2)
  ·refine L_gy (dj := 6) rfl rfl rfl (X_cmp (k := .u8) (a := q.1) (b := 2) (r := true) rfl rfl rfl (decide_eq_true (p := ((q.1) : Int) = ((2) : Int)) (by omega)) ?_)
   refine L_op rfl (X_pick (t := false) (v := (.bool (true))) rfl rfl ?_)
   refine L_op rfl (X_assign (v := (.bool (true))) rfl ?_)
   refine L_nil ?_
   refine T_n ?_
   refine W_ret ?_
   exact BQ_r (End_1 Try.results17 (v := .bool true) rfl ⟨by rw [decide_eq_true (p := MetaP q) (by unfold MetaP; omega)], hU.own hn0⟩)
  ·refine L_gy (dj := 6) rfl rfl rfl (X_cmp (k := .u8) (a := q.1) (b := 2) (r := false) rfl rfl rfl (decide_eq_false (p := ((q.1) : Int) = ((2) : Int)) (by omega)) ?_)
   refine L_op rfl (X_pick (t := false) (v := (.bool (false))) rfl rfl ?_)
   refine L_op rfl (X_assign (v := (.bool (false))) rfl ?_)
   refine L_nil ?_
   refine T_n ?_
   refine W_ret ?_
   exact BQ_r (End_1 Try.results17 (v := .bool false) rfl ⟨by rw [decide_eq_false (p := MetaP q) (by unfold MetaP; omega)], hU.own hn0⟩)

theorem c_place (n size : Int) (w : World) (h0 : 0 ≤ n) (h1 : n < 65536) : CT Try.prog 24 #[(.int .u16 (n)), (.int .i64 (size))] w fun v w' => v = .bool (decide (PlaceP n size)) ∧ w = w' := by
 refine CT_of Try.func24 rfl rfl rfl ?_
 refine W_seq ?_
 refine W_reg ?_
 refine L_op rfl (X_assign (v := (.bool (false))) rfl ?_)
 refine L_nil ?_
 refine T_n ?_
 refine W_seq ?_
 refine W_reg ?_
 refine L_op rfl (X_move (v := (.int .u16 (n))) rfl ?_)
 refine L_op rfl (X_convInt (k := .u16) (a := n) (r := n) (by rw [Try.underlying30]; rfl) Try.underlying3 rfl (wrap_i64 (by omega) (by omega)) ?_)
 by_cases hc1 : (n : Int) ≥ (4)
 ·refine L_op rfl (X_cmp (k := .i64) (a := n) (b := 4) (r := true) rfl rfl rfl (decide_eq_true (p := ((4) : Int) ≤ ((n) : Int)) (by omega)) ?_)
  refine L_op rfl (X_move (v := (.bool (true))) rfl ?_)
  refine L_gy (dj := 8) rfl rfl rfl (X_move (v := (.int .u16 (n))) rfl ?_)
  refine L_gy (dj := 8) rfl rfl rfl (X_convInt (k := .u16) (a := n) (r := n) (by rw [Try.underlying30]; rfl) Try.underlying3 rfl (wrap_i64 (by omega) (by omega)) ?_)
  refine L_gy (dj := 8) rfl rfl rfl (X_move (v := (.int .i64 (size))) rfl ?_)
  by_cases hc2 : (n : Int) < (size)
  ·refine L_gy (dj := 8) rfl rfl rfl (X_cmp (k := .i64) (a := n) (b := size) (r := true) rfl rfl rfl (decide_eq_true (p := ((n) : Int) < ((size) : Int)) (by omega)) ?_)
   refine L_op rfl (X_pick (t := true) (v := (.bool (true))) rfl rfl ?_)
   refine L_op rfl (X_assign (v := (.bool (true))) rfl ?_)
   refine L_nil ?_
   refine T_n ?_
   refine W_ret ?_
   exact BQ_r (End_1 Try.results24 (v := .bool true) rfl ⟨by rw [decide_eq_true (p := PlaceP n size) (by unfold PlaceP; omega)], rfl⟩)
  ·refine L_gy (dj := 8) rfl rfl rfl (X_cmp (k := .i64) (a := n) (b := size) (r := false) rfl rfl rfl (decide_eq_false (p := ((n) : Int) < ((size) : Int)) (by omega)) ?_)
   refine L_op rfl (X_pick (t := true) (v := (.bool (false))) rfl rfl ?_)
   refine L_op rfl (X_assign (v := (.bool (false))) rfl ?_)
   refine L_nil ?_
   refine T_n ?_
   refine W_ret ?_
   exact BQ_r (End_1 Try.results24 (v := .bool false) rfl ⟨by rw [decide_eq_false (p := PlaceP n size) (by unfold PlaceP; omega)], rfl⟩)
 ·refine L_op rfl (X_cmp (k := .i64) (a := n) (b := 4) (r := false) rfl rfl rfl (decide_eq_false (p := ((4) : Int) ≤ ((n) : Int)) (by omega)) ?_)
  refine L_op rfl (X_move (v := (.bool (false))) rfl ?_)
  refine L_gn (dj := 8) (t := false) rfl rfl rfl rfl ?_
  refine L_gn (dj := 8) (t := false) rfl rfl rfl rfl ?_
  refine L_gn (dj := 8) (t := false) rfl rfl rfl rfl ?_
  refine L_gn (dj := 8) (t := false) rfl rfl rfl rfl ?_
  refine L_op rfl (X_pick (t := false) (v := (.bool (false))) rfl rfl ?_)
  refine L_op rfl (X_assign (v := (.bool (false))) rfl ?_)
  refine L_nil ?_
  refine T_n ?_
  refine W_ret ?_
  exact BQ_r (End_1 Try.results24 (v := .bool false) rfl ⟨by rw [decide_eq_false (p := PlaceP n size) (by unfold PlaceP; omega)], rfl⟩)

theorem c_rightR (q : Pt) (size : Int) (w : World) (hq : PtOk q) : CT Try.prog 8 #[(.agg (ptC q).toArray), (.int .i64 (size))] w fun v w' => v = .bool (decide (RightP q size)) ∧ Ext w w' := by
 obtain ⟨n0, hn0⟩ : ∃ n, n = w.heap.size := ⟨_, rfl⟩
 have hU : Upd (fun i => n0 ≤ i) w w := Upd.refl _ _
 obtain ⟨hq1, hq2, hq3, hq4, hq5⟩ := hq
 refine CT_of Try.func8 rfl rfl rfl ?_
 refine W_seq ?_
 refine W_reg ?_
 refine L_op rfl (X_box (v := (.agg (ptC q).toArray)) (c := ((ptC q)).toArray) rfl rfl ?_)
 intro b1 w1 hn1
 have hbn1 := hn1.num; have hbs1 := hn1.size
 replace hU := hU.trans (Ext.upd hn1.ext)
 have hB1 := hn1.blk
 refine L_op rfl (X_assign (v := (.bool (false))) rfl ?_)
 refine L_nil ?_
 refine T_n ?_
 refine W_seq ?_
 refine W_seq ?_
 refine W_reg ?_
 refine L_op rfl (X_fldP (b := b1) (o := 0) (r := 3) Fd35_2 rfl rfl ?_)
 refine L_op rfl (X_load (p := (ptr b1 (3))) (v := (.int .u32 (q.2.2.2.1))) T32 rfl (hB1.at1 rfl) ?_)
 by_cases hc2 : (q.2.2.2.1 : Int) < (1)
 ·refine L_op rfl (X_cmp (k := .u32) (a := q.2.2.2.1) (b := 1) (r := true) rfl rfl rfl (decide_eq_true (p := ((q.2.2.2.1) : Int) < ((1) : Int)) (by omega)) ?_)
  refine L_op rfl (X_move (v := (.bool (true))) rfl ?_)
  refine L_gn (dj := 8) (t := true) rfl rfl rfl rfl ?_
  refine L_gn (dj := 8) (t := true) rfl rfl rfl rfl ?_
  refine L_gn (dj := 8) (t := true) rfl rfl rfl rfl ?_
  refine L_op rfl (X_pick (t := true) (v := (.bool (true))) rfl rfl ?_)
  refine L_op rfl (X_move (v := (.bool (true))) rfl ?_)
  refine L_gn (dj := 13) (t := true) rfl rfl rfl rfl ?_
  refine L_gn (dj := 13) (t := true) rfl rfl rfl rfl ?_
  refine L_gn (dj := 13) (t := true) rfl rfl rfl rfl ?_
  refine L_gn (dj := 13) (t := true) rfl rfl rfl rfl ?_
  refine L_gn (dj := 13) (t := true) rfl rfl rfl rfl ?_
  refine L_gn (dj := 13) (t := true) rfl rfl rfl rfl ?_
  refine L_op rfl (X_pick (t := true) (v := (.bool (true))) rfl rfl ?_)
  refine L_nil ?_
  refine T_n ?_
  refine W_ct rfl ?_
  refine W_seq ?_
  refine W_reg ?_
  refine L_op rfl (X_assign (v := (.bool (false))) rfl ?_)
  refine L_nil ?_
  refine T_n ?_
  refine W_ret ?_
  refine T_r ?_
  exact BQ_r (End_1 Try.results8 (v := .bool false) rfl ⟨by rw [decide_eq_false (p := RightP q size) (by skip; show ¬ (((1 ≤ q.2.2.2.1 ∧ q.2.2.2.1 ≤ 1073741824) ∧ ((q.1 = 1 ∨ q.1 = 2) ∧ q.2.1 ≠ q.2.2.1 ∨ q.1 = 3 ∧ q.2.2.1 = 0)) ∧ (4 ≤ q.2.1 ∧ q.2.1 < size) ∧ ((q.1 = 1 ∨ q.1 = 2) → (4 ≤ q.2.2.1 ∧ q.2.2.1 < size))); omega)], hU.own hn0⟩)
 ·refine L_op rfl (X_cmp (k := .u32) (a := q.2.2.2.1) (b := 1) (r := false) rfl rfl rfl (decide_eq_false (p := ((q.2.2.2.1) : Int) < ((1) : Int)) (by omega)) ?_)
  refine L_op rfl (X_move (v := (.bool (false))) rfl ?_)
  refine L_gy (dj := 8) rfl rfl rfl (X_fldP (b := b1) (o := 0) (r := 3) Fd35_2 rfl rfl ?_)
  refine L_gy (dj := 8) rfl rfl rfl (X_load (p := (ptr b1 (3))) (v := (.int .u32 (q.2.2.2.1))) T32 rfl (hB1.at1 rfl) ?_)
  by_cases hc3 : (q.2.2.2.1 : Int) > (1073741824)
  ·refine L_gy (dj := 8) rfl rfl rfl (X_cmp (k := .u32) (a := q.2.2.2.1) (b := 1073741824) (r := true) rfl rfl rfl (decide_eq_true (p := ((1073741824) : Int) < ((q.2.2.2.1) : Int)) (by omega)) ?_)
   refine L_op rfl (X_pick (t := false) (v := (.bool (true))) rfl rfl ?_)
   refine L_op rfl (X_move (v := (.bool (true))) rfl ?_)
   refine L_gn (dj := 13) (t := true) rfl rfl rfl rfl ?_
   refine L_gn (dj := 13) (t := true) rfl rfl rfl rfl ?_
   refine L_gn (dj := 13) (t := true) rfl rfl rfl rfl ?_
   refine L_gn (dj := 13) (t := true) rfl rfl rfl rfl ?_
   refine L_gn (dj := 13) (t := true) rfl rfl rfl rfl ?_
   refine L_gn (dj := 13) (t := true) rfl rfl rfl rfl ?_
   refine L_op rfl (X_pick (t := true) (v := (.bool (true))) rfl rfl ?_)
   refine L_nil ?_
   refine T_n ?_
   refine W_ct rfl ?_
   refine W_seq ?_
   refine W_reg ?_
   refine L_op rfl (X_assign (v := (.bool (false))) rfl ?_)
   refine L_nil ?_
   refine T_n ?_
   refine W_ret ?_
   refine T_r ?_
   exact BQ_r (End_1 Try.results8 (v := .bool false) rfl ⟨by rw [decide_eq_false (p := RightP q size) (by skip; show ¬ (((1 ≤ q.2.2.2.1 ∧ q.2.2.2.1 ≤ 1073741824) ∧ ((q.1 = 1 ∨ q.1 = 2) ∧ q.2.1 ≠ q.2.2.1 ∨ q.1 = 3 ∧ q.2.2.1 = 0)) ∧ (4 ≤ q.2.1 ∧ q.2.1 < size) ∧ ((q.1 = 1 ∨ q.1 = 2) → (4 ≤ q.2.2.1 ∧ q.2.2.1 < size))); omega)], hU.own hn0⟩)
  ·refine L_gy (dj := 8) rfl rfl rfl (X_cmp (k := .u32) (a := q.2.2.2.1) (b := 1073741824) (r := false) rfl rfl rfl (decide_eq_false (p := ((1073741824) : Int) < ((q.2.2.2.1) : Int)) (by omega)) ?_)
   refine L_op rfl (X_pick (t := false) (v := (.bool (false))) rfl rfl ?_)
   refine L_op rfl (X_move (v := (.bool (false))) rfl ?_)
   refine L_gy (dj := 13) rfl rfl rfl (X_fldP (b := b1) (o := 0) (r := 1) Fd35_1 rfl rfl ?_)
   refine L_gy (dj := 13) rfl rfl rfl (X_idxAP (len := 2) (sz := 1) (b := b1) (o := 1) (k := .i64) (i := 0) (r := 1) Try.underlying31 Z30 rfl rfl (by omega) (by omega) rfl ?_)
   refine L_gy (dj := 13) rfl rfl rfl (X_load (p := (ptr b1 (1))) (v := (.int .u16 (q.2.1))) T30 rfl (hB1.at1 rfl) ?_)
   refine L_gy (dj := 13) rfl rfl rfl (X_move (v := (.int .i64 (size))) rfl ?_)
   refine L_gy (dj := 13) rfl rfl rfl (X_fn (vs := [(.int .u16 (q.2.1)), (.int .i64 (size))]) en24 rfl (CT.mono (c_place _ _ _ (by omega) (by omega)) ?_))
   rintro _ _ ⟨rfl, rfl⟩
   rcases Bool.eq_false_or_eq_true (decide (PlaceP q.2.1 size)) with hc4 | hc4
   ·rw [hc4]
    refine L_gy (dj := 13) rfl rfl rfl (X_not (b := true) (r := false) rfl rfl ?_)
    refine L_op rfl (X_pick (t := false) (v := (.bool (false))) rfl rfl ?_)
    refine L_nil ?_
    refine T_n ?_
    refine W_cf rfl ?_
    refine W_skip ?_
    refine T_n ?_
    refine W_seq ?_
    refine W_seq ?_
    refine W_reg ?_
    refine L_op rfl (X_loadA (p := (ptr b1 (0))) (xs := ptC q) A35 rfl hB1.atAll rfl ?_)
    refine L_op rfl (X_fn (vs := [(.agg (ptC q).toArray)]) en17 rfl (CT.mono (c_metaR q _) ?_))
    rintro _ w5 ⟨rfl, hu5⟩
    have hz5 := hu5.size
    replace hU := hU.trans (Ext.upd hu5)
    replace hB1 := hB1.ext hu5
    rcases Bool.eq_false_or_eq_true (decide (MetaP q)) with hc6 | hc6
    ·rw [hc6]
     refine L_nil ?_
     refine T_n ?_
     refine W_ct rfl ?_
     refine W_seq ?_
     refine W_reg ?_
     refine L_op rfl (X_fldP (b := b1) (o := 0) (r := 1) Fd35_1 rfl rfl ?_)
     refine L_op rfl (X_idxAP (len := 2) (sz := 1) (b := b1) (o := 1) (k := .i64) (i := 1) (r := 2) Try.underlying31 Z30 rfl rfl (by omega) (by omega) rfl ?_)
     refine L_op rfl (X_load (p := (ptr b1 (2))) (v := (.int .u16 (q.2.2.1))) T30 rfl (hB1.at1 rfl) ?_)
     refine L_op rfl (X_move (v := (.int .i64 (size))) rfl ?_)
     refine L_op rfl (X_fn (vs := [(.int .u16 (q.2.2.1)), (.int .i64 (size))]) en24 rfl (CT.mono (c_place _ _ _ (by omega) (by omega)) ?_))
     rintro _ _ ⟨rfl, rfl⟩
     rcases Bool.eq_false_or_eq_true (decide (PlaceP q.2.2.1 size)) with hc7 | hc7
     ·rw [hc7]
      refine L_op rfl (X_move (v := (.bool (true))) rfl ?_)
      refine L_gy (dj := 28) rfl rfl rfl (X_fldP (b := b1) (o := 0) (r := 1) Fd35_1 rfl rfl ?_)
      refine L_gy (dj := 28) rfl rfl rfl (X_idxAP (len := 2) (sz := 1) (b := b1) (o := 1) (k := .i64) (i := 0) (r := 1) Try.underlying31 Z30 rfl rfl (by omega) (by omega) rfl ?_)
      refine L_gy (dj := 28) rfl rfl rfl (X_load (p := (ptr b1 (1))) (v := (.int .u16 (q.2.1))) T30 rfl (hB1.at1 rfl) ?_)
      refine L_gy (dj := 28) rfl rfl rfl (X_fldP (b := b1) (o := 0) (r := 1) Fd35_1 rfl rfl ?_)
      refine L_gy (dj := 28) rfl rfl rfl (X_idxAP (len := 2) (sz := 1) (b := b1) (o := 1) (k := .i64) (i := 1) (r := 2) Try.underlying31 Z30 rfl rfl (by omega) (by omega) rfl ?_)
      refine L_gy (dj := 28) rfl rfl rfl (X_load (p := (ptr b1 (2))) (v := (.int .u16 (q.2.2.1))) T30 rfl (hB1.at1 rfl) ?_)
      by_cases hc8 : (q.2.1 : Int) ≠ (q.2.2.1)
      ·refine L_gy (dj := 28) rfl rfl rfl (X_cmp (k := .u16) (a := q.2.1) (b := q.2.2.1) (r := true) rfl rfl rfl (decide_eq_true (p := ((q.2.1) : Int) ≠ ((q.2.2.1) : Int)) (by omega)) ?_)
       refine L_op rfl (X_pick (t := true) (v := (.bool (true))) rfl rfl ?_)
       refine L_op rfl (X_assign (v := (.bool (true))) rfl ?_)
       refine L_nil ?_
       refine T_n ?_
       refine W_ret ?_
       refine T_r ?_
       exact BQ_r (End_1 Try.results8 (v := .bool true) rfl ⟨by rw [decide_eq_true (p := RightP q size) (by have hk0_ : (4 ≤ q.2.1 ∧ q.2.1 < size) := of_decide_eq_true hc4; have hk1_ : (q.1 = 1 ∨ q.1 = 2) := of_decide_eq_true hc6; have hk2_ : (4 ≤ q.2.2.1 ∧ q.2.2.1 < size) := of_decide_eq_true hc7; show (((1 ≤ q.2.2.2.1 ∧ q.2.2.2.1 ≤ 1073741824) ∧ ((q.1 = 1 ∨ q.1 = 2) ∧ q.2.1 ≠ q.2.2.1 ∨ q.1 = 3 ∧ q.2.2.1 = 0)) ∧ (4 ≤ q.2.1 ∧ q.2.1 < size) ∧ ((q.1 = 1 ∨ q.1 = 2) → (4 ≤ q.2.2.1 ∧ q.2.2.1 < size))); omega)], hU.own hn0⟩)
      ·refine L_gy (dj := 28) rfl rfl rfl (X_cmp (k := .u16) (a := q.2.1) (b := q.2.2.1) (r := false) rfl rfl rfl (decide_eq_false (p := ((q.2.1) : Int) ≠ ((q.2.2.1) : Int)) (by omega)) ?_)
       refine L_op rfl (X_pick (t := true) (v := (.bool (false))) rfl rfl ?_)
       refine L_op rfl (X_assign (v := (.bool (false))) rfl ?_)
       refine L_nil ?_
       refine T_n ?_
       refine W_ret ?_
       refine T_r ?_
       exact BQ_r (End_1 Try.results8 (v := .bool false) rfl ⟨by rw [decide_eq_false (p := RightP q size) (by have hk0_ : (4 ≤ q.2.1 ∧ q.2.1 < size) := of_decide_eq_true hc4; have hk1_ : (q.1 = 1 ∨ q.1 = 2) := of_decide_eq_true hc6; have hk2_ : (4 ≤ q.2.2.1 ∧ q.2.2.1 < size) := of_decide_eq_true hc7; show ¬ (((1 ≤ q.2.2.2.1 ∧ q.2.2.2.1 ≤ 1073741824) ∧ ((q.1 = 1 ∨ q.1 = 2) ∧ q.2.1 ≠ q.2.2.1 ∨ q.1 = 3 ∧ q.2.2.1 = 0)) ∧ (4 ≤ q.2.1 ∧ q.2.1 < size) ∧ ((q.1 = 1 ∨ q.1 = 2) → (4 ≤ q.2.2.1 ∧ q.2.2.1 < size))); omega)], hU.own hn0⟩)
     ·rw [hc7]
      refine L_op rfl (X_move (v := (.bool (false))) rfl ?_)
      refine L_gn (dj := 28) (t := false) rfl rfl rfl rfl ?_
      refine L_gn (dj := 28) (t := false) rfl rfl rfl rfl ?_
      refine L_gn (dj := 28) (t := false) rfl rfl rfl rfl ?_
      refine L_gn (dj := 28) (t := false) rfl rfl rfl rfl ?_
      refine L_gn (dj := 28) (t := false) rfl rfl rfl rfl ?_
      refine L_gn (dj := 28) (t := false) rfl rfl rfl rfl ?_
      refine L_gn (dj := 28) (t := false) rfl rfl rfl rfl ?_
      refine L_op rfl (X_pick (t := false) (v := (.bool (false))) rfl rfl ?_)
      refine L_op rfl (X_assign (v := (.bool (false))) rfl ?_)
      refine L_nil ?_
      refine T_n ?_
      refine W_ret ?_
      refine T_r ?_
      exact BQ_r (End_1 Try.results8 (v := .bool false) rfl ⟨by rw [decide_eq_false (p := RightP q size) (by have hk0_ : (4 ≤ q.2.1 ∧ q.2.1 < size) := of_decide_eq_true hc4; have hk1_ : (q.1 = 1 ∨ q.1 = 2) := of_decide_eq_true hc6; have hk2_ : ¬ (4 ≤ q.2.2.1 ∧ q.2.2.1 < size) := of_decide_eq_false hc7; show ¬ (((1 ≤ q.2.2.2.1 ∧ q.2.2.2.1 ≤ 1073741824) ∧ ((q.1 = 1 ∨ q.1 = 2) ∧ q.2.1 ≠ q.2.2.1 ∨ q.1 = 3 ∧ q.2.2.1 = 0)) ∧ (4 ≤ q.2.1 ∧ q.2.1 < size) ∧ ((q.1 = 1 ∨ q.1 = 2) → (4 ≤ q.2.2.1 ∧ q.2.2.1 < size))); omega)], hU.own hn0⟩)
    ·rw [hc6]
     refine L_nil ?_
     refine T_n ?_
     refine W_cf rfl ?_
     refine W_skip ?_
     refine T_n ?_
     refine W_seq ?_
     refine W_reg ?_
     refine L_op rfl (X_fldP (b := b1) (o := 0) (r := 0) Fd35_0 rfl rfl ?_)
     refine L_op rfl (X_load (p := (ptr b1 (0))) (v := (.int .u8 (q.1))) T5 rfl (hB1.at1 rfl) ?_)
     by_cases hc9 : (q.1 : Int) = (3)
     ·refine L_op rfl (X_cmp (k := .u8) (a := q.1) (b := 3) (r := true) rfl rfl rfl (decide_eq_true (p := ((q.1) : Int) = ((3) : Int)) (by omega)) ?_)
      refine L_op rfl (X_move (v := (.bool (true))) rfl ?_)
      refine L_gy (dj := 40) rfl rfl rfl (X_fldP (b := b1) (o := 0) (r := 1) Fd35_1 rfl rfl ?_)
      refine L_gy (dj := 40) rfl rfl rfl (X_idxAP (len := 2) (sz := 1) (b := b1) (o := 1) (k := .i64) (i := 1) (r := 2) Try.underlying31 Z30 rfl rfl (by omega) (by omega) rfl ?_)
      refine L_gy (dj := 40) rfl rfl rfl (X_load (p := (ptr b1 (2))) (v := (.int .u16 (q.2.2.1))) T30 rfl (hB1.at1 rfl) ?_)
      by_cases hc10 : (q.2.2.1 : Int) = (0)
      ·refine L_gy (dj := 40) rfl rfl rfl (X_cmp (k := .u16) (a := q.2.2.1) (b := 0) (r := true) rfl rfl rfl (decide_eq_true (p := ((q.2.2.1) : Int) = ((0) : Int)) (by omega)) ?_)
       refine L_op rfl (X_pick (t := true) (v := (.bool (true))) rfl rfl ?_)
       refine L_op rfl (X_assign (v := (.bool (true))) rfl ?_)
       refine L_nil ?_
       refine T_n ?_
       refine W_ret ?_
       exact BQ_r (End_1 Try.results8 (v := .bool true) rfl ⟨by rw [decide_eq_true (p := RightP q size) (by have hk0_ : (4 ≤ q.2.1 ∧ q.2.1 < size) := of_decide_eq_true hc4; have hk1_ : ¬ (q.1 = 1 ∨ q.1 = 2) := of_decide_eq_false hc6; show (((1 ≤ q.2.2.2.1 ∧ q.2.2.2.1 ≤ 1073741824) ∧ ((q.1 = 1 ∨ q.1 = 2) ∧ q.2.1 ≠ q.2.2.1 ∨ q.1 = 3 ∧ q.2.2.1 = 0)) ∧ (4 ≤ q.2.1 ∧ q.2.1 < size) ∧ ((q.1 = 1 ∨ q.1 = 2) → (4 ≤ q.2.2.1 ∧ q.2.2.1 < size))); omega)], hU.own hn0⟩)
      ·refine L_gy (dj := 40) rfl rfl rfl (X_cmp (k := .u16) (a := q.2.2.1) (b := 0) (r := false) rfl rfl rfl (decide_eq_false (p := ((q.2.2.1) : Int) = ((0) : Int)) (by omega)) ?_)
       refine L_op rfl (X_pick (t := true) (v := (.bool (false))) rfl rfl ?_)
       refine L_op rfl (X_assign (v := (.bool (false))) rfl ?_)
       refine L_nil ?_
       refine T_n ?_
       refine W_ret ?_
       exact BQ_r (End_1 Try.results8 (v := .bool false) rfl ⟨by rw [decide_eq_false (p := RightP q size) (by have hk0_ : (4 ≤ q.2.1 ∧ q.2.1 < size) := of_decide_eq_true hc4; have hk1_ : ¬ (q.1 = 1 ∨ q.1 = 2) := of_decide_eq_false hc6; show ¬ (((1 ≤ q.2.2.2.1 ∧ q.2.2.2.1 ≤ 1073741824) ∧ ((q.1 = 1 ∨ q.1 = 2) ∧ q.2.1 ≠ q.2.2.1 ∨ q.1 = 3 ∧ q.2.2.1 = 0)) ∧ (4 ≤ q.2.1 ∧ q.2.1 < size) ∧ ((q.1 = 1 ∨ q.1 = 2) → (4 ≤ q.2.2.1 ∧ q.2.2.1 < size))); omega)], hU.own hn0⟩)
     ·refine L_op rfl (X_cmp (k := .u8) (a := q.1) (b := 3) (r := false) rfl rfl rfl (decide_eq_false (p := ((q.1) : Int) = ((3) : Int)) (by omega)) ?_)
      refine L_op rfl (X_move (v := (.bool (false))) rfl ?_)
      refine L_gn (dj := 40) (t := false) rfl rfl rfl rfl ?_
      refine L_gn (dj := 40) (t := false) rfl rfl rfl rfl ?_
      refine L_gn (dj := 40) (t := false) rfl rfl rfl rfl ?_
      refine L_gn (dj := 40) (t := false) rfl rfl rfl rfl ?_
      refine L_op rfl (X_pick (t := false) (v := (.bool (false))) rfl rfl ?_)
      refine L_op rfl (X_assign (v := (.bool (false))) rfl ?_)
      refine L_nil ?_
      refine T_n ?_
      refine W_ret ?_
      exact BQ_r (End_1 Try.results8 (v := .bool false) rfl ⟨by rw [decide_eq_false (p := RightP q size) (by have hk0_ : (4 ≤ q.2.1 ∧ q.2.1 < size) := of_decide_eq_true hc4; have hk1_ : ¬ (q.1 = 1 ∨ q.1 = 2) := of_decide_eq_false hc6; show ¬ (((1 ≤ q.2.2.2.1 ∧ q.2.2.2.1 ≤ 1073741824) ∧ ((q.1 = 1 ∨ q.1 = 2) ∧ q.2.1 ≠ q.2.2.1 ∨ q.1 = 3 ∧ q.2.2.1 = 0)) ∧ (4 ≤ q.2.1 ∧ q.2.1 < size) ∧ ((q.1 = 1 ∨ q.1 = 2) → (4 ≤ q.2.2.1 ∧ q.2.2.1 < size))); omega)], hU.own hn0⟩)
   ·rw [hc4]
    refine L_gy (dj := 13) rfl rfl rfl (X_not (b := false) (r := true) rfl rfl ?_)
    refine L_op rfl (X_pick (t := false) (v := (.bool (true))) rfl rfl ?_)
    refine L_nil ?_
    refine T_n ?_
    refine W_ct rfl ?_
    refine W_seq ?_
    refine W_reg ?_
    refine L_op rfl (X_assign (v := (.bool (false))) rfl ?_)
    refine L_nil ?_
    refine T_n ?_
    refine W_ret ?_
    refine T_r ?_
    exact BQ_r (End_1 Try.results8 (v := .bool false) rfl ⟨by rw [decide_eq_false (p := RightP q size) (by have hk0_ : ¬ (4 ≤ q.2.1 ∧ q.2.1 < size) := of_decide_eq_false hc4; show ¬ (((1 ≤ q.2.2.2.1 ∧ q.2.2.2.1 ≤ 1073741824) ∧ ((q.1 = 1 ∨ q.1 = 2) ∧ q.2.1 ≠ q.2.2.1 ∨ q.1 = 3 ∧ q.2.2.1 = 0)) ∧ (4 ≤ q.2.1 ∧ q.2.1 < size) ∧ ((q.1 = 1 ∨ q.1 = 2) → (4 ≤ q.2.2.1 ∧ q.2.2.1 < size))); omega)], hU.own hn0⟩)

theorem c_copiesR (q : Pt) (w : World) (hq : PtOk q) : CT Try.prog 12 #[(.agg (ptC q).toArray)] w fun v w' => NRd LC w' w.heap.size w'.heap.size v (copL q) ∧ Ext w w' := by
 obtain ⟨n0, hn0⟩ : ∃ n, n = w.heap.size := ⟨_, rfl⟩
 have hU : Upd (fun i => n0 ≤ i) w w := Upd.refl _ _
 obtain ⟨hq1, hq2, hq3, hq4, hq5⟩ := id hq
 refine CT_of Try.func12 rfl rfl rfl ?_
 refine W_seq ?_
 refine W_reg ?_
 rcases Bool.eq_false_or_eq_true (decide (MetaP q)) with hm_ | hm_
 ·have hcl := copL_m (of_decide_eq_true hm_)
  refine L_op rfl (X_box (v := (.agg (ptC q).toArray)) (c := ((ptC q)).toArray) rfl rfl ?_)
  intro b1 w1 hn1
  have hbn1 := hn1.num; have hbs1 := hn1.size
  replace hU := hU.trans (Ext.upd hn1.ext)
  have hB1 := hn1.blk
  refine L_op rfl (X_assign (v := (.slice none 0 0)) rfl ?_)
  refine L_nil ?_
  refine T_n ?_
  refine W_seq ?_
  obtain ⟨s0, hs0⟩ : ∃ n, n = w1.heap.size := ⟨_, rfl⟩
  refine W_reg ?_
  refine L_op rfl (X_assign (v := (.slice none 0 0)) rfl ?_)
  refine L_nil ?_
  refine T_n ?_
  refine W_seq ?_
  refine W_seq ?_
  refine W_reg ?_
  refine L_op rfl (X_assign (v := (.int .i64 (0))) rfl ?_)
  refine L_nil ?_
  refine T_n ?_
  refine W_block ?_
  refine W_unroll 3 ?_
  refine Rounds_s (m := 2) ?_
  refine W_seq ?_
  refine W_seq ?_
  refine W_reg ?_
  refine L_op rfl (X_move (v := (.int .i64 (0))) rfl ?_)
  refine L_op rfl (X_cmp (k := .i64) (a := 0) (b := 2) (r := true) rfl rfl rfl rfl ?_)
  refine L_nil ?_
  refine T_n ?_
  refine W_ct rfl ?_
  refine W_skip ?_
  refine T_n ?_
  refine W_seq ?_
  refine W_block ?_
  refine W_seq ?_
  refine W_reg ?_
  refine L_op rfl (X_move (v := (.slice none 0 0)) rfl ?_)
  refine L_op rfl (X_move (v := (.int .i64 (0))) rfl ?_)
  refine L_op rfl (X_fldP (b := b1) (o := 0) (r := 1) Fd35_1 rfl rfl ?_)
  refine L_op rfl (X_idxAP (len := 2) (sz := 1) (b := b1) (o := 1) (k := .i64) (i := 0) (r := 1) Try.underlying31 Z30 rfl rfl (by omega) (by omega) rfl ?_)
  refine L_op rfl (X_load (p := (ptr b1 (1))) (v := (.int .u16 (q.2.1))) T30 rfl (hB1.at1 rfl) ?_)
  refine L_op rfl (X_convInt (k := .u16) (a := q.2.1) (r := q.2.1) (by rw [Try.underlying30]; rfl) Try.underlying3 rfl (wrap_i64 (by omega) (by omega)) ?_)
  refine L_op rfl (X_build (built47 (0) (q.2.1)) ?_)
  refine L_op rfl (X_buildSliceL (vs := [(.agg #[(.int .i64 (0)), (.int .i64 (q.2.1))])]) (c := [(.int .i64 (0)), (.int .i64 (q.2.1))]) S45 (by decide) rfl rfl (List.forall_mem_cons.2 ⟨rfl, (fun _ h => by cases h)⟩) rfl ?_)
  intro b2 w2 hn2
  have hbn2 := hn2.num; have hbs2 := hn2.size
  replace hU := hU.trans (Ext.upd hn2.ext)
  replace hB1 := hB1.ext hn2.ext
  have hB2 := hn2.blk
  refine L_op rfl (X_append (B := s0) (n := 0) (s := (.slice none 0 0)) (x := (.slice (some ⟨b2, 0, none⟩) 1 1)) S45 ⟨_, Try.underlying45⟩ rfl rfl (Own.nil w2 s0 47 2) (m := 1) (ys := LC.cel (0, q.2.1)) (hB2.rd (o := 0) (n := 1) (c := 1) (sz := 2) (by decide) (by decide) rfl (fun j u hj => by rw [Nat.zero_add]; simpa [LC] using hj)) (LC.one (0, q.2.1) (fun _ h => by cases h)) (by unfold maxLen; decide) (by decide) (by omega) ?_)
  intro v3 w3 hO3 hu3 _
  have hz3 := hu3.size
  replace hO3 : Own w3 s0 47 2 v3 ([(0, q.2.1)]).length (([(0, q.2.1)] : List (Int × Int)).flatMap LC.cel) := hO3.eq rfl rfl
  replace hU := hU.trans (Ext.upd hu3.nobk)
  replace hB1 := hB1.ext hu3.nobk
  refine L_op rfl (X_assign (v := v3) rfl ?_)
  refine L_nil ?_
  refine T_n ?_
  refine W_seq ?_
  refine W_reg ?_
  refine L_op rfl (X_loadA (p := (ptr b1 (0))) (xs := ptC q) A35 rfl hB1.atAll rfl ?_)
  refine L_op rfl (X_fn (vs := [(.agg (ptC q).toArray)]) en17 rfl (CT.mono (c_metaR q _) ?_))
  rintro _ w4 ⟨rfl, hu4⟩
  have hz4 := hu4.size
  replace hU := hU.trans (Ext.upd hu4)
  replace hB1 := hB1.ext hu4
  replace hO3 := hO3.ext hu4
  rw [show (decide (MetaP q)) = true from hm_]
  refine L_nil ?_
  refine T_n ?_
  refine W_ct rfl ?_
  refine W_reg ?_
  refine L_op rfl (X_move (v := v3) rfl ?_)
  refine L_op rfl (X_move (v := (.int .i64 (0))) rfl ?_)
  refine L_op rfl (X_fldP (b := b1) (o := 0) (r := 1) Fd35_1 rfl rfl ?_)
  refine L_op rfl (X_idxAP (len := 2) (sz := 1) (b := b1) (o := 1) (k := .i64) (i := 1) (r := 2) Try.underlying31 Z30 rfl rfl (by omega) (by omega) rfl ?_)
  refine L_op rfl (X_load (p := (ptr b1 (2))) (v := (.int .u16 (q.2.2.1))) T30 rfl (hB1.at1 rfl) ?_)
  refine L_op rfl (X_convInt (k := .u16) (a := q.2.2.1) (r := q.2.2.1) (by rw [Try.underlying30]; rfl) Try.underlying3 rfl (wrap_i64 (by omega) (by omega)) ?_)
  refine L_op rfl (X_build (built47 (0) (q.2.2.1)) ?_)
  refine L_op rfl (X_buildSliceL (vs := [(.agg #[(.int .i64 (0)), (.int .i64 (q.2.2.1))])]) (c := [(.int .i64 (0)), (.int .i64 (q.2.2.1))]) S45 (by decide) rfl rfl (List.forall_mem_cons.2 ⟨rfl, (fun _ h => by cases h)⟩) rfl ?_)
  intro b5 w5 hn5
  have hbn5 := hn5.num; have hbs5 := hn5.size
  replace hU := hU.trans (Ext.upd hn5.ext)
  replace hB1 := hB1.ext hn5.ext
  replace hO3 := hO3.ext hn5.ext
  have hB5 := hn5.blk
  refine L_op rfl (X_append (B := s0) (n := 1) (s := v3) (x := (.slice (some ⟨b5, 0, none⟩) 1 1)) S45 ⟨_, Try.underlying45⟩ rfl rfl hO3 (m := 1) (ys := LC.cel (0, q.2.2.1)) (hB5.rd (o := 0) (n := 1) (c := 1) (sz := 2) (by decide) (by decide) rfl (fun j u hj => by rw [Nat.zero_add]; simpa [LC] using hj)) (LC.one (0, q.2.2.1) (fun _ h => by cases h)) (by unfold maxLen; decide) (by decide) (by omega) ?_)
  intro v6 w6 hO6 hu6 _
  have hz6 := hu6.size
  replace hO6 : Own w6 s0 47 2 v6 ([(0, q.2.1), (0, q.2.2.1)]).length (([(0, q.2.1), (0, q.2.2.1)] : List (Int × Int)).flatMap LC.cel) := hO6.eq rfl rfl
  replace hU := hU.trans (hu6.mono fun i _ h => by have h := hO3.lt h; show n0 ≤ i; omega)
  replace hB1 := hB1.upd hu6 fun h => by have h := hO3.lt h; omega
  refine L_op rfl (X_assign (v := v6) rfl ?_)
  refine L_nil ?_
  refine B_n ?_
  refine T_n ?_
  refine W_reg ?_
  refine L_op rfl (X_move (v := (.int .i64 (0))) rfl ?_)
  refine L_op rfl (X_arith (k := .i64) (a := 0) (b := 1) (r := 1) rfl rfl rfl rfl ?_)
  refine L_op rfl (X_assign (v := (.int .i64 (1))) rfl ?_)
  refine L_nil ?_
  refine T_n ?_
  refine Rounds_s (m := 1) ?_
  refine W_seq ?_
  refine W_seq ?_
  refine W_reg ?_
  refine L_op rfl (X_move (v := (.int .i64 (1))) rfl ?_)
  refine L_op rfl (X_cmp (k := .i64) (a := 1) (b := 2) (r := true) rfl rfl rfl rfl ?_)
  refine L_nil ?_
  refine T_n ?_
  refine W_ct rfl ?_
  refine W_skip ?_
  refine T_n ?_
  refine W_seq ?_
  refine W_block ?_
  refine W_seq ?_
  refine W_reg ?_
  refine L_op rfl (X_move (v := v6) rfl ?_)
  refine L_op rfl (X_move (v := (.int .i64 (1))) rfl ?_)
  refine L_op rfl (X_fldP (b := b1) (o := 0) (r := 1) Fd35_1 rfl rfl ?_)
  refine L_op rfl (X_idxAP (len := 2) (sz := 1) (b := b1) (o := 1) (k := .i64) (i := 0) (r := 1) Try.underlying31 Z30 rfl rfl (by omega) (by omega) rfl ?_)
  refine L_op rfl (X_load (p := (ptr b1 (1))) (v := (.int .u16 (q.2.1))) T30 rfl (hB1.at1 rfl) ?_)
  refine L_op rfl (X_convInt (k := .u16) (a := q.2.1) (r := q.2.1) (by rw [Try.underlying30]; rfl) Try.underlying3 rfl (wrap_i64 (by omega) (by omega)) ?_)
  refine L_op rfl (X_build (built47 (1) (q.2.1)) ?_)
  refine L_op rfl (X_buildSliceL (vs := [(.agg #[(.int .i64 (1)), (.int .i64 (q.2.1))])]) (c := [(.int .i64 (1)), (.int .i64 (q.2.1))]) S45 (by decide) rfl rfl (List.forall_mem_cons.2 ⟨rfl, (fun _ h => by cases h)⟩) rfl ?_)
  intro b7 w7 hn7
  have hbn7 := hn7.num; have hbs7 := hn7.size
  replace hU := hU.trans (Ext.upd hn7.ext)
  replace hB1 := hB1.ext hn7.ext
  replace hO6 := hO6.ext hn7.ext
  have hB7 := hn7.blk
  refine L_op rfl (X_append (B := s0) (n := 2) (s := v6) (x := (.slice (some ⟨b7, 0, none⟩) 1 1)) S45 ⟨_, Try.underlying45⟩ rfl rfl hO6 (m := 1) (ys := LC.cel (1, q.2.1)) (hB7.rd (o := 0) (n := 1) (c := 1) (sz := 2) (by decide) (by decide) rfl (fun j u hj => by rw [Nat.zero_add]; simpa [LC] using hj)) (LC.one (1, q.2.1) (fun _ h => by cases h)) (by unfold maxLen; decide) (by decide) (by omega) ?_)
  intro v8 w8 hO8 hu8 _
  have hz8 := hu8.size
  replace hO8 : Own w8 s0 47 2 v8 ([(0, q.2.1), (0, q.2.2.1), (1, q.2.1)]).length (([(0, q.2.1), (0, q.2.2.1), (1, q.2.1)] : List (Int × Int)).flatMap LC.cel) := hO8.eq rfl rfl
  replace hU := hU.trans (hu8.mono fun i _ h => by have h := hO6.lt h; show n0 ≤ i; omega)
  replace hB1 := hB1.upd hu8 fun h => by have h := hO6.lt h; omega
  refine L_op rfl (X_assign (v := v8) rfl ?_)
  refine L_nil ?_
  refine T_n ?_
  refine W_seq ?_
  refine W_reg ?_
  refine L_op rfl (X_loadA (p := (ptr b1 (0))) (xs := ptC q) A35 rfl hB1.atAll rfl ?_)
  refine L_op rfl (X_fn (vs := [(.agg (ptC q).toArray)]) en17 rfl (CT.mono (c_metaR q _) ?_))
  rintro _ w9 ⟨rfl, hu9⟩
  have hz9 := hu9.size
  replace hU := hU.trans (Ext.upd hu9)
  replace hB1 := hB1.ext hu9
  replace hO8 := hO8.ext hu9
  rw [show (decide (MetaP q)) = true from hm_]
  refine L_nil ?_
  refine T_n ?_
  refine W_ct rfl ?_
  refine W_reg ?_
  refine L_op rfl (X_move (v := v8) rfl ?_)
  refine L_op rfl (X_move (v := (.int .i64 (1))) rfl ?_)
  refine L_op rfl (X_fldP (b := b1) (o := 0) (r := 1) Fd35_1 rfl rfl ?_)
  refine L_op rfl (X_idxAP (len := 2) (sz := 1) (b := b1) (o := 1) (k := .i64) (i := 1) (r := 2) Try.underlying31 Z30 rfl rfl (by omega) (by omega) rfl ?_)
  refine L_op rfl (X_load (p := (ptr b1 (2))) (v := (.int .u16 (q.2.2.1))) T30 rfl (hB1.at1 rfl) ?_)
  refine L_op rfl (X_convInt (k := .u16) (a := q.2.2.1) (r := q.2.2.1) (by rw [Try.underlying30]; rfl) Try.underlying3 rfl (wrap_i64 (by omega) (by omega)) ?_)
  refine L_op rfl (X_build (built47 (1) (q.2.2.1)) ?_)
  refine L_op rfl (X_buildSliceL (vs := [(.agg #[(.int .i64 (1)), (.int .i64 (q.2.2.1))])]) (c := [(.int .i64 (1)), (.int .i64 (q.2.2.1))]) S45 (by decide) rfl rfl (List.forall_mem_cons.2 ⟨rfl, (fun _ h => by cases h)⟩) rfl ?_)
  intro b10 w10 hn10
  have hbn10 := hn10.num; have hbs10 := hn10.size
  replace hU := hU.trans (Ext.upd hn10.ext)
  replace hB1 := hB1.ext hn10.ext
  replace hO8 := hO8.ext hn10.ext
  have hB10 := hn10.blk
  refine L_op rfl (X_append (B := s0) (n := 3) (s := v8) (x := (.slice (some ⟨b10, 0, none⟩) 1 1)) S45 ⟨_, Try.underlying45⟩ rfl rfl hO8 (m := 1) (ys := LC.cel (1, q.2.2.1)) (hB10.rd (o := 0) (n := 1) (c := 1) (sz := 2) (by decide) (by decide) rfl (fun j u hj => by rw [Nat.zero_add]; simpa [LC] using hj)) (LC.one (1, q.2.2.1) (fun _ h => by cases h)) (by unfold maxLen; decide) (by decide) (by omega) ?_)
  intro v11 w11 hO11 hu11 _
  have hz11 := hu11.size
  replace hO11 : Own w11 s0 47 2 v11 ([(0, q.2.1), (0, q.2.2.1), (1, q.2.1), (1, q.2.2.1)]).length (([(0, q.2.1), (0, q.2.2.1), (1, q.2.1), (1, q.2.2.1)] : List (Int × Int)).flatMap LC.cel) := hO11.eq rfl rfl
  replace hU := hU.trans (hu11.mono fun i _ h => by have h := hO8.lt h; show n0 ≤ i; omega)
  replace hB1 := hB1.upd hu11 fun h => by have h := hO8.lt h; omega
  refine L_op rfl (X_assign (v := v11) rfl ?_)
  refine L_nil ?_
  refine B_n ?_
  refine T_n ?_
  refine W_reg ?_
  refine L_op rfl (X_move (v := (.int .i64 (1))) rfl ?_)
  refine L_op rfl (X_arith (k := .i64) (a := 1) (b := 1) (r := 2) rfl rfl rfl rfl ?_)
  refine L_op rfl (X_assign (v := (.int .i64 (2))) rfl ?_)
  refine L_nil ?_
  refine T_n ?_
  refine Rounds_s (m := 0) ?_
  refine W_seq ?_
  refine W_seq ?_
  refine W_reg ?_
  refine L_op rfl (X_move (v := (.int .i64 (2))) rfl ?_)
  refine L_op rfl (X_cmp (k := .i64) (a := 2) (b := 2) (r := false) rfl rfl rfl rfl ?_)
  refine L_nil ?_
  refine T_n ?_
  refine W_cf rfl ?_
  refine W_exit ?_
  refine T_e ?_
  refine T_e ?_
  refine B_x ?_
  refine T_n ?_
  refine W_seq ?_
  refine W_reg ?_
  refine L_op rfl (X_move (v := v11) rfl ?_)
  refine L_op rfl (X_assign (v := v11) rfl ?_)
  refine L_nil ?_
  refine T_n ?_
  refine W_ret ?_
  exact BQ_r (End_1 Try.results12 (v := v11) rfl ⟨by rw [hcl]; exact NRd.of (fun _ => rfl) hO11.rd fun b hb => by have := hO11.lt (hO11.rbk_obk hb); omega, hU.own hn0⟩)
 ·have hcl := copL_c (of_decide_eq_false hm_)
  refine L_op rfl (X_box (v := (.agg (ptC q).toArray)) (c := ((ptC q)).toArray) rfl rfl ?_)
  intro b12 w12 hn12
  have hbn12 := hn12.num; have hbs12 := hn12.size
  replace hU := hU.trans (Ext.upd hn12.ext)
  have hB12 := hn12.blk
  refine L_op rfl (X_assign (v := (.slice none 0 0)) rfl ?_)
  refine L_nil ?_
  refine T_n ?_
  refine W_seq ?_
  obtain ⟨s0, hs0⟩ : ∃ n, n = w12.heap.size := ⟨_, rfl⟩
  refine W_reg ?_
  refine L_op rfl (X_assign (v := (.slice none 0 0)) rfl ?_)
  refine L_nil ?_
  refine T_n ?_
  refine W_seq ?_
  refine W_seq ?_
  refine W_reg ?_
  refine L_op rfl (X_assign (v := (.int .i64 (0))) rfl ?_)
  refine L_nil ?_
  refine T_n ?_
  refine W_block ?_
  refine W_unroll 3 ?_
  refine Rounds_s (m := 2) ?_
  refine W_seq ?_
  refine W_seq ?_
  refine W_reg ?_
  refine L_op rfl (X_move (v := (.int .i64 (0))) rfl ?_)
  refine L_op rfl (X_cmp (k := .i64) (a := 0) (b := 2) (r := true) rfl rfl rfl rfl ?_)
  refine L_nil ?_
  refine T_n ?_
  refine W_ct rfl ?_
  refine W_skip ?_
  refine T_n ?_
  refine W_seq ?_
  refine W_block ?_
  refine W_seq ?_
  refine W_reg ?_
  refine L_op rfl (X_move (v := (.slice none 0 0)) rfl ?_)
  refine L_op rfl (X_move (v := (.int .i64 (0))) rfl ?_)
  refine L_op rfl (X_fldP (b := b12) (o := 0) (r := 1) Fd35_1 rfl rfl ?_)
  refine L_op rfl (X_idxAP (len := 2) (sz := 1) (b := b12) (o := 1) (k := .i64) (i := 0) (r := 1) Try.underlying31 Z30 rfl rfl (by omega) (by omega) rfl ?_)
  refine L_op rfl (X_load (p := (ptr b12 (1))) (v := (.int .u16 (q.2.1))) T30 rfl (hB12.at1 rfl) ?_)
  refine L_op rfl (X_convInt (k := .u16) (a := q.2.1) (r := q.2.1) (by rw [Try.underlying30]; rfl) Try.underlying3 rfl (wrap_i64 (by omega) (by omega)) ?_)
  refine L_op rfl (X_build (built47 (0) (q.2.1)) ?_)
  refine L_op rfl (X_buildSliceL (vs := [(.agg #[(.int .i64 (0)), (.int .i64 (q.2.1))])]) (c := [(.int .i64 (0)), (.int .i64 (q.2.1))]) S45 (by decide) rfl rfl (List.forall_mem_cons.2 ⟨rfl, (fun _ h => by cases h)⟩) rfl ?_)
  intro b13 w13 hn13
  have hbn13 := hn13.num; have hbs13 := hn13.size
  replace hU := hU.trans (Ext.upd hn13.ext)
  replace hB12 := hB12.ext hn13.ext
  have hB13 := hn13.blk
  refine L_op rfl (X_append (B := s0) (n := 0) (s := (.slice none 0 0)) (x := (.slice (some ⟨b13, 0, none⟩) 1 1)) S45 ⟨_, Try.underlying45⟩ rfl rfl (Own.nil w13 s0 47 2) (m := 1) (ys := LC.cel (0, q.2.1)) (hB13.rd (o := 0) (n := 1) (c := 1) (sz := 2) (by decide) (by decide) rfl (fun j u hj => by rw [Nat.zero_add]; simpa [LC] using hj)) (LC.one (0, q.2.1) (fun _ h => by cases h)) (by unfold maxLen; decide) (by decide) (by omega) ?_)
  intro v14 w14 hO14 hu14 _
  have hz14 := hu14.size
  replace hO14 : Own w14 s0 47 2 v14 ([(0, q.2.1)]).length (([(0, q.2.1)] : List (Int × Int)).flatMap LC.cel) := hO14.eq rfl rfl
  replace hU := hU.trans (Ext.upd hu14.nobk)
  replace hB12 := hB12.ext hu14.nobk
  refine L_op rfl (X_assign (v := v14) rfl ?_)
  refine L_nil ?_
  refine T_n ?_
  refine W_seq ?_
  refine W_reg ?_
  refine L_op rfl (X_loadA (p := (ptr b12 (0))) (xs := ptC q) A35 rfl hB12.atAll rfl ?_)
  refine L_op rfl (X_fn (vs := [(.agg (ptC q).toArray)]) en17 rfl (CT.mono (c_metaR q _) ?_))
  rintro _ w15 ⟨rfl, hu15⟩
  have hz15 := hu15.size
  replace hU := hU.trans (Ext.upd hu15)
  replace hB12 := hB12.ext hu15
  replace hO14 := hO14.ext hu15
  rw [show (decide (MetaP q)) = false from hm_]
  refine L_nil ?_
  refine T_n ?_
  refine W_cf rfl ?_
  refine W_skip ?_
  refine B_n ?_
  refine T_n ?_
  refine W_reg ?_
  refine L_op rfl (X_move (v := (.int .i64 (0))) rfl ?_)
  refine L_op rfl (X_arith (k := .i64) (a := 0) (b := 1) (r := 1) rfl rfl rfl rfl ?_)
  refine L_op rfl (X_assign (v := (.int .i64 (1))) rfl ?_)
  refine L_nil ?_
  refine T_n ?_
  refine Rounds_s (m := 1) ?_
  refine W_seq ?_
  refine W_seq ?_
  refine W_reg ?_
  refine L_op rfl (X_move (v := (.int .i64 (1))) rfl ?_)
  refine L_op rfl (X_cmp (k := .i64) (a := 1) (b := 2) (r := true) rfl rfl rfl rfl ?_)
  refine L_nil ?_
  refine T_n ?_
  refine W_ct rfl ?_
  refine W_skip ?_
  refine T_n ?_
  refine W_seq ?_
  refine W_block ?_
  refine W_seq ?_
  refine W_reg ?_
  refine L_op rfl (X_move (v := v14) rfl ?_)
  refine L_op rfl (X_move (v := (.int .i64 (1))) rfl ?_)
  refine L_op rfl (X_fldP (b := b12) (o := 0) (r := 1) Fd35_1 rfl rfl ?_)
  refine L_op rfl (X_idxAP (len := 2) (sz := 1) (b := b12) (o := 1) (k := .i64) (i := 0) (r := 1) Try.underlying31 Z30 rfl rfl (by omega) (by omega) rfl ?_)
  refine L_op rfl (X_load (p := (ptr b12 (1))) (v := (.int .u16 (q.2.1))) T30 rfl (hB12.at1 rfl) ?_)
  refine L_op rfl (X_convInt (k := .u16) (a := q.2.1) (r := q.2.1) (by rw [Try.underlying30]; rfl) Try.underlying3 rfl (wrap_i64 (by omega) (by omega)) ?_)
  refine L_op rfl (X_build (built47 (1) (q.2.1)) ?_)
  refine L_op rfl (X_buildSliceL (vs := [(.agg #[(.int .i64 (1)), (.int .i64 (q.2.1))])]) (c := [(.int .i64 (1)), (.int .i64 (q.2.1))]) S45 (by decide) rfl rfl (List.forall_mem_cons.2 ⟨rfl, (fun _ h => by cases h)⟩) rfl ?_)
  intro b16 w16 hn16
  have hbn16 := hn16.num; have hbs16 := hn16.size
  replace hU := hU.trans (Ext.upd hn16.ext)
  replace hB12 := hB12.ext hn16.ext
  replace hO14 := hO14.ext hn16.ext
  have hB16 := hn16.blk
  refine L_op rfl (X_append (B := s0) (n := 1) (s := v14) (x := (.slice (some ⟨b16, 0, none⟩) 1 1)) S45 ⟨_, Try.underlying45⟩ rfl rfl hO14 (m := 1) (ys := LC.cel (1, q.2.1)) (hB16.rd (o := 0) (n := 1) (c := 1) (sz := 2) (by decide) (by decide) rfl (fun j u hj => by rw [Nat.zero_add]; simpa [LC] using hj)) (LC.one (1, q.2.1) (fun _ h => by cases h)) (by unfold maxLen; decide) (by decide) (by omega) ?_)
  intro v17 w17 hO17 hu17 _
  have hz17 := hu17.size
  replace hO17 : Own w17 s0 47 2 v17 ([(0, q.2.1), (1, q.2.1)]).length (([(0, q.2.1), (1, q.2.1)] : List (Int × Int)).flatMap LC.cel) := hO17.eq rfl rfl
  replace hU := hU.trans (hu17.mono fun i _ h => by have h := hO14.lt h; show n0 ≤ i; omega)
  replace hB12 := hB12.upd hu17 fun h => by have h := hO14.lt h; omega
  refine L_op rfl (X_assign (v := v17) rfl ?_)
  refine L_nil ?_
  refine T_n ?_
  refine W_seq ?_
  refine W_reg ?_
  refine L_op rfl (X_loadA (p := (ptr b12 (0))) (xs := ptC q) A35 rfl hB12.atAll rfl ?_)
  refine L_op rfl (X_fn (vs := [(.agg (ptC q).toArray)]) en17 rfl (CT.mono (c_metaR q _) ?_))
  rintro _ w18 ⟨rfl, hu18⟩
  have hz18 := hu18.size
  replace hU := hU.trans (Ext.upd hu18)
  replace hB12 := hB12.ext hu18
  replace hO17 := hO17.ext hu18
  rw [show (decide (MetaP q)) = false from hm_]
  refine L_nil ?_
  refine T_n ?_
  refine W_cf rfl ?_
  refine W_skip ?_
  refine B_n ?_
  refine T_n ?_
  refine W_reg ?_
  refine L_op rfl (X_move (v := (.int .i64 (1))) rfl ?_)
  refine L_op rfl (X_arith (k := .i64) (a := 1) (b := 1) (r := 2) rfl rfl rfl rfl ?_)
  refine L_op rfl (X_assign (v := (.int .i64 (2))) rfl ?_)
  refine L_nil ?_
  refine T_n ?_
  refine Rounds_s (m := 0) ?_
  refine W_seq ?_
  refine W_seq ?_
  refine W_reg ?_
  refine L_op rfl (X_move (v := (.int .i64 (2))) rfl ?_)
  refine L_op rfl (X_cmp (k := .i64) (a := 2) (b := 2) (r := false) rfl rfl rfl rfl ?_)
  refine L_nil ?_
  refine T_n ?_
  refine W_cf rfl ?_
  refine W_exit ?_
  refine T_e ?_
  refine T_e ?_
  refine B_x ?_
  refine T_n ?_
  refine W_seq ?_
  refine W_reg ?_
  refine L_op rfl (X_move (v := v17) rfl ?_)
  refine L_op rfl (X_assign (v := v17) rfl ?_)
  refine L_nil ?_
  refine T_n ?_
  refine W_ret ?_
  exact BQ_r (End_1 Try.results12 (v := v17) rfl ⟨by rw [hcl]; exact NRd.of (fun _ => rfl) hO17.rd fun b hb => by have := hO17.lt (hO17.rbk_obk hb); omega, hU.own hn0⟩)

set_option maxHeartbeats 1000000 in
theorem c_copies1 (q : Pt) (b1 : Nat) (w : World) (hq : PtOk q) (hB : Blk w b1 (ptC q).toArray 35) : IterC Try.prog 40 [ptr b1 0] (copX q) w (fun b => b = b1) (fun _ => False) := by
 intro l J Jx W Db hu0 hDb hJs hJxs hy hJ
 replace hB : Blk W b1 (ptC q).toArray 35 := hB.upd hu0 fun h => h rfl
 obtain ⟨hq1, hq2, hq3, hq4, hq5⟩ := hq
 show CT Try.prog 40 #[.func (.yield l) #[] #[], ptr b1 0] W _
 refine CT_of Try.func40 rfl rfl rfl ?_
 refine W_seq ?_
 refine W_reg ?_
 rcases Bool.eq_false_or_eq_true (decide (MetaP q)) with hm_ | hm_
 ·have hcl := copL_m (of_decide_eq_true hm_)
  refine L_op rfl (X_move (v := (.int .i64 (0))) rfl ?_)
  refine L_nil ?_
  refine T_n ?_
  refine W_block ?_
  refine W_unroll 3 ?_
  refine Rounds_s (m := 2) ?_
  refine W_seq ?_
  refine W_reg ?_
  refine L_op rfl (X_cmp (k := .i64) (a := 0) (b := 2) (r := true) rfl rfl rfl rfl ?_)
  refine L_nil ?_
  refine T_n ?_
  refine W_seq ?_
  refine W_ct rfl ?_
  refine W_skip ?_
  refine T_n ?_
  refine W_seq ?_
  refine W_block ?_
  refine W_seq ?_
  refine W_reg ?_
  refine L_op rfl (X_move (v := (.int .i64 (0))) rfl ?_)
  refine L_op rfl (X_assign (v := (.int .i64 (0))) rfl ?_)
  refine L_nil ?_
  refine T_n ?_
  refine W_seq ?_
  refine W_reg ?_
  refine L_op rfl (X_move (v := (.func (.yield l) #[] #[])) rfl ?_)
  refine L_op rfl (X_move (v := (.int .i64 (0))) rfl ?_)
  refine L_op rfl (X_fldP (b := b1) (o := 0) (r := 1) Fd35_1 rfl rfl ?_)
  refine L_op rfl (X_idxAP (len := 2) (sz := 1) (b := b1) (o := 1) (k := .i64) (i := 0) (r := 1) Try.underlying31 Z30 rfl rfl (by omega) (by omega) rfl ?_)
  refine L_op rfl (X_load (p := (ptr b1 (1))) (v := (.int .u16 (q.2.1))) T30 rfl (hB.at1 rfl) ?_)
  refine L_op rfl (X_convInt (k := .u16) (a := q.2.1) (r := q.2.1) (by rw [Try.underlying30]; rfl) Try.underlying3 rfl (wrap_i64 (by omega) (by omega)) ?_)
  refine L_op rfl (X_yield (vs := [.int .i64 0, .int .i64 q.2.1]) rfl rfl (YieldC.mono (hy 0 _ _ (by unfold copX; rw [hcl]; rfl) hJ) ?_))
  rintro _ W1 (⟨rfl, hJ, huy0⟩ | ⟨rfl, hJx⟩)
  ·replace hB := hB.upd huy0 fun h => hDb _ h rfl
   refine L_op rfl (X_not (b := true) (r := false) rfl rfl ?_)
   refine L_op rfl (X_move (v := (.bool (false))) rfl ?_)
   refine L_gy (dj := 15) rfl rfl rfl (X_loadA (p := (ptr b1 (0))) (xs := ptC q) A35 rfl hB.atAll rfl ?_)
   refine L_gy (dj := 15) rfl rfl rfl (X_fn (vs := [(.agg (ptC q).toArray)]) en41 rfl (CT.mono (c_meta q _) ?_))
   rintro _ w2 ⟨rfl, hu2⟩
   have hz2 := hu2.size
   replace hB := hB.ext hu2
   replace hJ := hJs _ _ _ hJ (Ext.upd hu2)
   rw [show (decide (MetaP q)) = true from hm_]
   refine L_gy (dj := 15) rfl rfl rfl (X_move (v := (.bool (true))) rfl ?_)
   refine L_gy (dj := 18) rfl rfl rfl (X_move (v := (.func (.yield l) #[] #[])) rfl ?_)
   refine L_gy (dj := 18) rfl rfl rfl (X_move (v := (.int .i64 (0))) rfl ?_)
   refine L_gy (dj := 18) rfl rfl rfl (X_fldP (b := b1) (o := 0) (r := 1) Fd35_1 rfl rfl ?_)
   refine L_gy (dj := 18) rfl rfl rfl (X_idxAP (len := 2) (sz := 1) (b := b1) (o := 1) (k := .i64) (i := 1) (r := 2) Try.underlying31 Z30 rfl rfl (by omega) (by omega) rfl ?_)
   refine L_gy (dj := 18) rfl rfl rfl (X_load (p := (ptr b1 (2))) (v := (.int .u16 (q.2.2.1))) T30 rfl (hB.at1 rfl) ?_)
   refine L_gy (dj := 18) rfl rfl rfl (X_convInt (k := .u16) (a := q.2.2.1) (r := q.2.2.1) (by rw [Try.underlying30]; rfl) Try.underlying3 rfl (wrap_i64 (by omega) (by omega)) ?_)
   refine L_gy (dj := 18) rfl rfl rfl (X_yield (vs := [.int .i64 0, .int .i64 q.2.2.1]) rfl rfl (YieldC.mono (hy 1 _ _ (by unfold copX; rw [hcl]; rfl) hJ) ?_))
   rintro _ W3 (⟨rfl, hJ, huy1⟩ | ⟨rfl, hJx⟩)
   ·replace hB := hB.upd huy1 fun h => hDb _ h rfl
    refine L_gy (dj := 18) rfl rfl rfl (X_not (b := true) (r := false) rfl rfl ?_)
    refine L_gy (dj := 15) rfl rfl rfl (X_pick (t := true) (v := (.bool (false))) rfl rfl ?_)
    refine L_op rfl (X_pick (t := false) (v := (.bool (false))) rfl rfl ?_)
    refine L_nil ?_
    refine T_n ?_
    refine W_cf rfl ?_
    refine W_skip ?_
    refine B_n ?_
    refine T_n ?_
    refine W_reg ?_
    refine L_op rfl (X_arith (k := .i64) (a := 0) (b := 1) (r := 1) rfl rfl rfl rfl ?_)
    refine L_op rfl (X_move (v := (.int .i64 (1))) rfl ?_)
    refine L_nil ?_
    refine T_n ?_
    refine Rounds_s (m := 1) ?_
    refine W_seq ?_
    refine W_reg ?_
    refine L_op rfl (X_cmp (k := .i64) (a := 1) (b := 2) (r := true) rfl rfl rfl rfl ?_)
    refine L_nil ?_
    refine T_n ?_
    refine W_seq ?_
    refine W_ct rfl ?_
    refine W_skip ?_
    refine T_n ?_
    refine W_seq ?_
    refine W_block ?_
    refine W_seq ?_
    refine W_reg ?_
    refine L_op rfl (X_move (v := (.int .i64 (1))) rfl ?_)
    refine L_op rfl (X_assign (v := (.int .i64 (1))) rfl ?_)
    refine L_nil ?_
    refine T_n ?_
    refine W_seq ?_
    refine W_reg ?_
    refine L_op rfl (X_move (v := (.func (.yield l) #[] #[])) rfl ?_)
    refine L_op rfl (X_move (v := (.int .i64 (1))) rfl ?_)
    refine L_op rfl (X_fldP (b := b1) (o := 0) (r := 1) Fd35_1 rfl rfl ?_)
    refine L_op rfl (X_idxAP (len := 2) (sz := 1) (b := b1) (o := 1) (k := .i64) (i := 0) (r := 1) Try.underlying31 Z30 rfl rfl (by omega) (by omega) rfl ?_)
    refine L_op rfl (X_load (p := (ptr b1 (1))) (v := (.int .u16 (q.2.1))) T30 rfl (hB.at1 rfl) ?_)
    refine L_op rfl (X_convInt (k := .u16) (a := q.2.1) (r := q.2.1) (by rw [Try.underlying30]; rfl) Try.underlying3 rfl (wrap_i64 (by omega) (by omega)) ?_)
    refine L_op rfl (X_yield (vs := [.int .i64 1, .int .i64 q.2.1]) rfl rfl (YieldC.mono (hy 2 _ _ (by unfold copX; rw [hcl]; rfl) hJ) ?_))
    rintro _ W4 (⟨rfl, hJ, huy2⟩ | ⟨rfl, hJx⟩)
    ·replace hB := hB.upd huy2 fun h => hDb _ h rfl
     refine L_op rfl (X_not (b := true) (r := false) rfl rfl ?_)
     refine L_op rfl (X_move (v := (.bool (false))) rfl ?_)
     refine L_gy (dj := 15) rfl rfl rfl (X_loadA (p := (ptr b1 (0))) (xs := ptC q) A35 rfl hB.atAll rfl ?_)
     refine L_gy (dj := 15) rfl rfl rfl (X_fn (vs := [(.agg (ptC q).toArray)]) en41 rfl (CT.mono (c_meta q _) ?_))
     rintro _ w5 ⟨rfl, hu5⟩
     have hz5 := hu5.size
     replace hB := hB.ext hu5
     replace hJ := hJs _ _ _ hJ (Ext.upd hu5)
     rw [show (decide (MetaP q)) = true from hm_]
     refine L_gy (dj := 15) rfl rfl rfl (X_move (v := (.bool (true))) rfl ?_)
     refine L_gy (dj := 18) rfl rfl rfl (X_move (v := (.func (.yield l) #[] #[])) rfl ?_)
     refine L_gy (dj := 18) rfl rfl rfl (X_move (v := (.int .i64 (1))) rfl ?_)
     refine L_gy (dj := 18) rfl rfl rfl (X_fldP (b := b1) (o := 0) (r := 1) Fd35_1 rfl rfl ?_)
     refine L_gy (dj := 18) rfl rfl rfl (X_idxAP (len := 2) (sz := 1) (b := b1) (o := 1) (k := .i64) (i := 1) (r := 2) Try.underlying31 Z30 rfl rfl (by omega) (by omega) rfl ?_)
     refine L_gy (dj := 18) rfl rfl rfl (X_load (p := (ptr b1 (2))) (v := (.int .u16 (q.2.2.1))) T30 rfl (hB.at1 rfl) ?_)
     refine L_gy (dj := 18) rfl rfl rfl (X_convInt (k := .u16) (a := q.2.2.1) (r := q.2.2.1) (by rw [Try.underlying30]; rfl) Try.underlying3 rfl (wrap_i64 (by omega) (by omega)) ?_)
     refine L_gy (dj := 18) rfl rfl rfl (X_yield (vs := [.int .i64 1, .int .i64 q.2.2.1]) rfl rfl (YieldC.mono (hy 3 _ _ (by unfold copX; rw [hcl]; rfl) hJ) ?_))
     rintro _ W6 (⟨rfl, hJ, huy3⟩ | ⟨rfl, hJx⟩)
     ·replace hB := hB.upd huy3 fun h => hDb _ h rfl
      refine L_gy (dj := 18) rfl rfl rfl (X_not (b := true) (r := false) rfl rfl ?_)
      refine L_gy (dj := 15) rfl rfl rfl (X_pick (t := true) (v := (.bool (false))) rfl rfl ?_)
      refine L_op rfl (X_pick (t := false) (v := (.bool (false))) rfl rfl ?_)
      refine L_nil ?_
      refine T_n ?_
      refine W_cf rfl ?_
      refine W_skip ?_
      refine B_n ?_
      refine T_n ?_
      refine W_reg ?_
      refine L_op rfl (X_arith (k := .i64) (a := 1) (b := 1) (r := 2) rfl rfl rfl rfl ?_)
      refine L_op rfl (X_move (v := (.int .i64 (2))) rfl ?_)
      refine L_nil ?_
      refine T_n ?_
      refine Rounds_s (m := 0) ?_
      refine W_seq ?_
      refine W_reg ?_
      refine L_op rfl (X_cmp (k := .i64) (a := 2) (b := 2) (r := false) rfl rfl rfl rfl ?_)
      refine L_nil ?_
      refine T_n ?_
      refine W_seq ?_
      refine W_cf rfl ?_
      refine W_exit ?_
      refine T_e ?_
      refine T_e ?_
      refine B_x ?_
      exact BQ_n (End_0 Try.results40 (.inl (by rw [copX_len, hcl]; exact hJ)))
     ·refine L_gy (dj := 18) rfl rfl rfl (X_not (b := false) (r := true) rfl rfl ?_)
      refine L_gy (dj := 15) rfl rfl rfl (X_pick (t := true) (v := (.bool (true))) rfl rfl ?_)
      refine L_op rfl (X_pick (t := false) (v := (.bool (true))) rfl rfl ?_)
      refine L_nil ?_
      refine T_n ?_
      refine W_ct rfl ?_
      refine W_ret ?_
      refine B_r ?_
      refine T_r ?_
      refine T_r ?_
      refine B_r ?_
      exact BQ_r (End_0 Try.results40 (.inr ⟨3, by rw [copX_len, hcl]; simp, hJx⟩))
    ·refine L_op rfl (X_not (b := false) (r := true) rfl rfl ?_)
     refine L_op rfl (X_move (v := (.bool (true))) rfl ?_)
     refine L_gn (dj := 15) (t := true) rfl rfl rfl rfl ?_
     refine L_gn (dj := 15) (t := true) rfl rfl rfl rfl ?_
     refine L_gn (dj := 15) (t := true) rfl rfl rfl rfl ?_
     refine L_gu (dj := 18) rfl rfl rfl ?_
     refine L_gu (dj := 18) rfl rfl rfl ?_
     refine L_gu (dj := 18) rfl rfl rfl ?_
     refine L_gu (dj := 18) rfl rfl rfl ?_
     refine L_gu (dj := 18) rfl rfl rfl ?_
     refine L_gu (dj := 18) rfl rfl rfl ?_
     refine L_gu (dj := 18) rfl rfl rfl ?_
     refine L_gu (dj := 18) rfl rfl rfl ?_
     refine L_gn (dj := 15) (t := true) rfl rfl rfl rfl ?_
     refine L_op rfl (X_pick (t := true) (v := (.bool (true))) rfl rfl ?_)
     refine L_nil ?_
     refine T_n ?_
     refine W_ct rfl ?_
     refine W_ret ?_
     refine B_r ?_
     refine T_r ?_
     refine T_r ?_
     refine B_r ?_
     exact BQ_r (End_0 Try.results40 (.inr ⟨2, by rw [copX_len, hcl]; simp, hJx⟩))
   ·refine L_gy (dj := 18) rfl rfl rfl (X_not (b := false) (r := true) rfl rfl ?_)
    refine L_gy (dj := 15) rfl rfl rfl (X_pick (t := true) (v := (.bool (true))) rfl rfl ?_)
    refine L_op rfl (X_pick (t := false) (v := (.bool (true))) rfl rfl ?_)
    refine L_nil ?_
    refine T_n ?_
    refine W_ct rfl ?_
    refine W_ret ?_
    refine B_r ?_
    refine T_r ?_
    refine T_r ?_
    refine B_r ?_
    exact BQ_r (End_0 Try.results40 (.inr ⟨1, by rw [copX_len, hcl]; simp, hJx⟩))
  ·refine L_op rfl (X_not (b := false) (r := true) rfl rfl ?_)
   refine L_op rfl (X_move (v := (.bool (true))) rfl ?_)
   refine L_gn (dj := 15) (t := true) rfl rfl rfl rfl ?_
   refine L_gn (dj := 15) (t := true) rfl rfl rfl rfl ?_
   refine L_gn (dj := 15) (t := true) rfl rfl rfl rfl ?_
   refine L_gu (dj := 18) rfl rfl rfl ?_
   refine L_gu (dj := 18) rfl rfl rfl ?_
   refine L_gu (dj := 18) rfl rfl rfl ?_
   refine L_gu (dj := 18) rfl rfl rfl ?_
   refine L_gu (dj := 18) rfl rfl rfl ?_
   refine L_gu (dj := 18) rfl rfl rfl ?_
   refine L_gu (dj := 18) rfl rfl rfl ?_
   refine L_gu (dj := 18) rfl rfl rfl ?_
   refine L_gn (dj := 15) (t := true) rfl rfl rfl rfl ?_
   refine L_op rfl (X_pick (t := true) (v := (.bool (true))) rfl rfl ?_)
   refine L_nil ?_
   refine T_n ?_
   refine W_ct rfl ?_
   refine W_ret ?_
   refine B_r ?_
   refine T_r ?_
   refine T_r ?_
   refine B_r ?_
   exact BQ_r (End_0 Try.results40 (.inr ⟨0, by rw [copX_len, hcl]; simp, hJx⟩))
 ·have hcl := copL_c (of_decide_eq_false hm_)
  refine L_op rfl (X_move (v := (.int .i64 (0))) rfl ?_)
  refine L_nil ?_
  refine T_n ?_
  refine W_block ?_
  refine W_unroll 3 ?_
  refine Rounds_s (m := 2) ?_
  refine W_seq ?_
  refine W_reg ?_
  refine L_op rfl (X_cmp (k := .i64) (a := 0) (b := 2) (r := true) rfl rfl rfl rfl ?_)
  refine L_nil ?_
  refine T_n ?_
  refine W_seq ?_
  refine W_ct rfl ?_
  refine W_skip ?_
  refine T_n ?_
  refine W_seq ?_
  refine W_block ?_
  refine W_seq ?_
  refine W_reg ?_
  refine L_op rfl (X_move (v := (.int .i64 (0))) rfl ?_)
  refine L_op rfl (X_assign (v := (.int .i64 (0))) rfl ?_)
  refine L_nil ?_
  refine T_n ?_
  refine W_seq ?_
  refine W_reg ?_
  refine L_op rfl (X_move (v := (.func (.yield l) #[] #[])) rfl ?_)
  refine L_op rfl (X_move (v := (.int .i64 (0))) rfl ?_)
  refine L_op rfl (X_fldP (b := b1) (o := 0) (r := 1) Fd35_1 rfl rfl ?_)
  refine L_op rfl (X_idxAP (len := 2) (sz := 1) (b := b1) (o := 1) (k := .i64) (i := 0) (r := 1) Try.underlying31 Z30 rfl rfl (by omega) (by omega) rfl ?_)
  refine L_op rfl (X_load (p := (ptr b1 (1))) (v := (.int .u16 (q.2.1))) T30 rfl (hB.at1 rfl) ?_)
  refine L_op rfl (X_convInt (k := .u16) (a := q.2.1) (r := q.2.1) (by rw [Try.underlying30]; rfl) Try.underlying3 rfl (wrap_i64 (by omega) (by omega)) ?_)
  refine L_op rfl (X_yield (vs := [.int .i64 0, .int .i64 q.2.1]) rfl rfl (YieldC.mono (hy 0 _ _ (by unfold copX; rw [hcl]; rfl) hJ) ?_))
  rintro _ W7 (⟨rfl, hJ, huy0⟩ | ⟨rfl, hJx⟩)
  ·replace hB := hB.upd huy0 fun h => hDb _ h rfl
   refine L_op rfl (X_not (b := true) (r := false) rfl rfl ?_)
   refine L_op rfl (X_move (v := (.bool (false))) rfl ?_)
   refine L_gy (dj := 15) rfl rfl rfl (X_loadA (p := (ptr b1 (0))) (xs := ptC q) A35 rfl hB.atAll rfl ?_)
   refine L_gy (dj := 15) rfl rfl rfl (X_fn (vs := [(.agg (ptC q).toArray)]) en41 rfl (CT.mono (c_meta q _) ?_))
   rintro _ w8 ⟨rfl, hu8⟩
   have hz8 := hu8.size
   replace hB := hB.ext hu8
   replace hJ := hJs _ _ _ hJ (Ext.upd hu8)
   rw [show (decide (MetaP q)) = false from hm_]
   refine L_gy (dj := 15) rfl rfl rfl (X_move (v := (.bool (false))) rfl ?_)
   refine L_gn (dj := 18) (t := false) rfl rfl rfl rfl ?_
   refine L_gn (dj := 18) (t := false) rfl rfl rfl rfl ?_
   refine L_gn (dj := 18) (t := false) rfl rfl rfl rfl ?_
   refine L_gn (dj := 18) (t := false) rfl rfl rfl rfl ?_
   refine L_gn (dj := 18) (t := false) rfl rfl rfl rfl ?_
   refine L_gn (dj := 18) (t := false) rfl rfl rfl rfl ?_
   refine L_gn (dj := 18) (t := false) rfl rfl rfl rfl ?_
   refine L_gn (dj := 18) (t := false) rfl rfl rfl rfl ?_
   refine L_gy (dj := 15) rfl rfl rfl (X_pick (t := false) (v := (.bool (false))) rfl rfl ?_)
   refine L_op rfl (X_pick (t := false) (v := (.bool (false))) rfl rfl ?_)
   refine L_nil ?_
   refine T_n ?_
   refine W_cf rfl ?_
   refine W_skip ?_
   refine B_n ?_
   refine T_n ?_
   refine W_reg ?_
   refine L_op rfl (X_arith (k := .i64) (a := 0) (b := 1) (r := 1) rfl rfl rfl rfl ?_)
   refine L_op rfl (X_move (v := (.int .i64 (1))) rfl ?_)
   refine L_nil ?_
   refine T_n ?_
   refine Rounds_s (m := 1) ?_
   refine W_seq ?_
   refine W_reg ?_
   refine L_op rfl (X_cmp (k := .i64) (a := 1) (b := 2) (r := true) rfl rfl rfl rfl ?_)
   refine L_nil ?_
   refine T_n ?_
   refine W_seq ?_
   refine W_ct rfl ?_
   refine W_skip ?_
   refine T_n ?_
   refine W_seq ?_
   refine W_block ?_
   refine W_seq ?_
   refine W_reg ?_
   refine L_op rfl (X_move (v := (.int .i64 (1))) rfl ?_)
   refine L_op rfl (X_assign (v := (.int .i64 (1))) rfl ?_)
   refine L_nil ?_
   refine T_n ?_
   refine W_seq ?_
   refine W_reg ?_
   refine L_op rfl (X_move (v := (.func (.yield l) #[] #[])) rfl ?_)
   refine L_op rfl (X_move (v := (.int .i64 (1))) rfl ?_)
   refine L_op rfl (X_fldP (b := b1) (o := 0) (r := 1) Fd35_1 rfl rfl ?_)
   refine L_op rfl (X_idxAP (len := 2) (sz := 1) (b := b1) (o := 1) (k := .i64) (i := 0) (r := 1) Try.underlying31 Z30 rfl rfl (by omega) (by omega) rfl ?_)
   refine L_op rfl (X_load (p := (ptr b1 (1))) (v := (.int .u16 (q.2.1))) T30 rfl (hB.at1 rfl) ?_)
   refine L_op rfl (X_convInt (k := .u16) (a := q.2.1) (r := q.2.1) (by rw [Try.underlying30]; rfl) Try.underlying3 rfl (wrap_i64 (by omega) (by omega)) ?_)
   refine L_op rfl (X_yield (vs := [.int .i64 1, .int .i64 q.2.1]) rfl rfl (YieldC.mono (hy 1 _ _ (by unfold copX; rw [hcl]; rfl) hJ) ?_))
   rintro _ W9 (⟨rfl, hJ, huy1⟩ | ⟨rfl, hJx⟩)
   ·replace hB := hB.upd huy1 fun h => hDb _ h rfl
    refine L_op rfl (X_not (b := true) (r := false) rfl rfl ?_)
    refine L_op rfl (X_move (v := (.bool (false))) rfl ?_)
    refine L_gy (dj := 15) rfl rfl rfl (X_loadA (p := (ptr b1 (0))) (xs := ptC q) A35 rfl hB.atAll rfl ?_)
    refine L_gy (dj := 15) rfl rfl rfl (X_fn (vs := [(.agg (ptC q).toArray)]) en41 rfl (CT.mono (c_meta q _) ?_))
    rintro _ w10 ⟨rfl, hu10⟩
    have hz10 := hu10.size
    replace hB := hB.ext hu10
    replace hJ := hJs _ _ _ hJ (Ext.upd hu10)
    rw [show (decide (MetaP q)) = false from hm_]
    refine L_gy (dj := 15) rfl rfl rfl (X_move (v := (.bool (false))) rfl ?_)
    refine L_gn (dj := 18) (t := false) rfl rfl rfl rfl ?_
    refine L_gn (dj := 18) (t := false) rfl rfl rfl rfl ?_
    refine L_gn (dj := 18) (t := false) rfl rfl rfl rfl ?_
    refine L_gn (dj := 18) (t := false) rfl rfl rfl rfl ?_
    refine L_gn (dj := 18) (t := false) rfl rfl rfl rfl ?_
    refine L_gn (dj := 18) (t := false) rfl rfl rfl rfl ?_
    refine L_gn (dj := 18) (t := false) rfl rfl rfl rfl ?_
    refine L_gn (dj := 18) (t := false) rfl rfl rfl rfl ?_
    refine L_gy (dj := 15) rfl rfl rfl (X_pick (t := false) (v := (.bool (false))) rfl rfl ?_)
    refine L_op rfl (X_pick (t := false) (v := (.bool (false))) rfl rfl ?_)
    refine L_nil ?_
    refine T_n ?_
    refine W_cf rfl ?_
    refine W_skip ?_
    refine B_n ?_
    refine T_n ?_
    refine W_reg ?_
    refine L_op rfl (X_arith (k := .i64) (a := 1) (b := 1) (r := 2) rfl rfl rfl rfl ?_)
    refine L_op rfl (X_move (v := (.int .i64 (2))) rfl ?_)
    refine L_nil ?_
    refine T_n ?_
    refine Rounds_s (m := 0) ?_
    refine W_seq ?_
    refine W_reg ?_
    refine L_op rfl (X_cmp (k := .i64) (a := 2) (b := 2) (r := false) rfl rfl rfl rfl ?_)
    refine L_nil ?_
    refine T_n ?_
    refine W_seq ?_
    refine W_cf rfl ?_
    refine W_exit ?_
    refine T_e ?_
    refine T_e ?_
    refine B_x ?_
    exact BQ_n (End_0 Try.results40 (.inl (by rw [copX_len, hcl]; exact hJ)))
   ·refine L_op rfl (X_not (b := false) (r := true) rfl rfl ?_)
    refine L_op rfl (X_move (v := (.bool (true))) rfl ?_)
    refine L_gn (dj := 15) (t := true) rfl rfl rfl rfl ?_
    refine L_gn (dj := 15) (t := true) rfl rfl rfl rfl ?_
    refine L_gn (dj := 15) (t := true) rfl rfl rfl rfl ?_
    refine L_gu (dj := 18) rfl rfl rfl ?_
    refine L_gu (dj := 18) rfl rfl rfl ?_
    refine L_gu (dj := 18) rfl rfl rfl ?_
    refine L_gu (dj := 18) rfl rfl rfl ?_
    refine L_gu (dj := 18) rfl rfl rfl ?_
    refine L_gu (dj := 18) rfl rfl rfl ?_
    refine L_gu (dj := 18) rfl rfl rfl ?_
    refine L_gu (dj := 18) rfl rfl rfl ?_
    refine L_gn (dj := 15) (t := true) rfl rfl rfl rfl ?_
    refine L_op rfl (X_pick (t := true) (v := (.bool (true))) rfl rfl ?_)
    refine L_nil ?_
    refine T_n ?_
    refine W_ct rfl ?_
    refine W_ret ?_
    refine B_r ?_
    refine T_r ?_
    refine T_r ?_
    refine B_r ?_
    exact BQ_r (End_0 Try.results40 (.inr ⟨1, by rw [copX_len, hcl]; simp, hJx⟩))
  ·refine L_op rfl (X_not (b := false) (r := true) rfl rfl ?_)
   refine L_op rfl (X_move (v := (.bool (true))) rfl ?_)
   refine L_gn (dj := 15) (t := true) rfl rfl rfl rfl ?_
   refine L_gn (dj := 15) (t := true) rfl rfl rfl rfl ?_
   refine L_gn (dj := 15) (t := true) rfl rfl rfl rfl ?_
   refine L_gu (dj := 18) rfl rfl rfl ?_
   refine L_gu (dj := 18) rfl rfl rfl ?_
   refine L_gu (dj := 18) rfl rfl rfl ?_
   refine L_gu (dj := 18) rfl rfl rfl ?_
   refine L_gu (dj := 18) rfl rfl rfl ?_
   refine L_gu (dj := 18) rfl rfl rfl ?_
   refine L_gu (dj := 18) rfl rfl rfl ?_
   refine L_gu (dj := 18) rfl rfl rfl ?_
   refine L_gn (dj := 15) (t := true) rfl rfl rfl rfl ?_
   refine L_op rfl (X_pick (t := true) (v := (.bool (true))) rfl rfl ?_)
   refine L_nil ?_
   refine T_n ?_
   refine W_ct rfl ?_
   refine W_ret ?_
   refine B_r ?_
   refine T_r ?_
   refine T_r ?_
   refine B_r ?_
   exact BQ_r (End_0 Try.results40 (.inr ⟨0, by rw [copX_len, hcl]; simp, hJx⟩))

theorem c_copies (q : Pt) (w : World) : CT Try.prog 27 #[(.agg (ptC q).toArray)] w fun v w' => v = .func (.func 40) #[] #[ptr w.heap.size 0] ∧ Blk w' w.heap.size (ptC q).toArray 35 ∧ Ext w w' ∧ w'.heap.size = w.heap.size + 1 := by
 obtain ⟨n0, hn0⟩ : ∃ n, n = w.heap.size := ⟨_, rfl⟩
 have hU : Upd (fun i => n0 ≤ i) w w := Upd.refl _ _
 refine CT_of Try.func27 rfl rfl rfl ?_
 refine W_seq ?_
 refine W_reg ?_
 refine L_op rfl (X_box (v := (.agg (ptC q).toArray)) (c := ((ptC q)).toArray) rfl rfl ?_)
 intro b1 w1 hn1
 have hbn1 := hn1.num; have hbs1 := hn1.size
 replace hU := hU.trans (Ext.upd hn1.ext)
 have hB1 := hn1.blk
 refine L_op rfl (X_assign (v := .nilFunc) rfl ?_)
 refine L_nil ?_
 refine T_n ?_
 refine W_seq ?_
 refine W_reg ?_
 refine L_op rfl (X_makeFunc (vs := [(ptr b1 (0))]) rfl ?_)
 refine L_op rfl (X_assign (v := (.func (.func 40) #[] #[(ptr b1 (0))])) rfl ?_)
 refine L_nil ?_
 refine T_n ?_
 refine W_ret ?_
 exact BQ_r (End_1 Try.results27 (v := .func (.func 40) #[] #[ptr b1 0]) rfl ⟨by rw [hbn1], hbn1 ▸ hB1, hU.own hn0, by omega⟩)
end Go.Proofs.Ytcjfkkoapncnhaa
