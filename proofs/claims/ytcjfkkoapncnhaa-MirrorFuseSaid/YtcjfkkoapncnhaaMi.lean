/-
 What chapter 10 takes over of chapter 03: which disks may be, copies, writing, flushing. (Printed by wip/gen/t10.py of this repo.)
-/
import Derived.Test.YtcjfkkoapncnhaaMiA
namespace Go.Proofs.Ytcjfkkoapncnhaa
open Go Go.SL Go.Proofs
set_option linter.unusedVariables false

theorem zc63_size : zc63.toArray.size = 257 := by kernel_rfl
theorem wr_size (e : Wr) : (LW.cel e).toArray.size = 257 := by rw [List.size_toArray, LW.len]; rfl

theorem c_may (pv cv bv : Value) (ps : List Pg) (cs : List Wr) (bs : List Int) (off : Bool) (w : World) (lo up : Nat) (hup : up ≤ w.heap.size) (hp : NRd LP w lo up pv ps) (hc : NRd LW w lo up cv cs) (hb : NRd LI w lo up bv bs) : CT Try.prog 54 #[(.agg #[pv, cv, bv, (.bool (off))])] w fun v w' => (∃ g, v = .bool g ∧ (g = true ↔ MayD ps.length cs bs off)) ∧ Ext w w' := by
 obtain ⟨n0, hn0⟩ : ∃ n, n = w.heap.size := ⟨_, rfl⟩
 have hU : Upd (fun i => n0 ≤ i) w w := Upd.refl _ _
 have hpl := hp.sv.len
 have hcl := hc.sv.len
 have hbl := hb.sv.len
 rw [← hn0] at hup
 refine CT_of Try.func54 rfl rfl rfl ?_
 refine W_seq ?_
 refine W_reg ?_
 refine L_op rfl (X_box (v := (.agg #[pv, cv, bv, (.bool (off))])) (c := ([pv, cv, bv, (.bool (off))]).toArray) rfl rfl ?_)
 intro b1 w1 hn1
 have hbn1 := hn1.num; have hbs1 := hn1.size
 replace hp := hp.ext hn1.ext
 replace hc := hc.ext hn1.ext
 replace hb := hb.ext hn1.ext
 replace hU := hU.trans (Ext.upd hn1.ext)
 have hB1 := hn1.blk
 refine L_op rfl (X_assign (v := (.bool (false))) rfl ?_)
 refine L_nil ?_
 refine T_n ?_
 refine W_scopeQ ?_
 refine W_seq ?_
 refine W_reg ?_
 refine L_op rfl (X_fldP (b := b1) (o := 0) (r := 0) Fd26_0 rfl rfl ?_)
 refine L_op rfl (X_load (p := (ptr b1 (0))) (v := pv) T22 rfl (hB1.at1 rfl) ?_)
 refine L_op rfl (X_len (v := pv) (n := ps.length) Try.underlying22 rfl hp.sv ?_)
 refine L_op rfl (X_assign (v := (.int .i64 (((ps.length : Nat) : Int)))) rfl ?_)
 refine L_nil ?_
 refine T_n ?_
 refine W_cut (α := Bool) [2, 12, 13, 14, 15, 16, 17, 18, 19, 20, 21, 22, 23, 24, 25, 26, 27, 28, 29, 30, 31, 32, 33, 34] (fun g => [(2, (.bool (g)))]) (fun g w_ => (g = true ↔ HeadD ps.length cs.length off) ∧ w_ = w1) ?_ ?_
 ·refine W_reg ?_
  refine L_op rfl (X_move (v := (.int .i64 (((ps.length : Nat) : Int)))) rfl ?_)
  by_cases hc3 : (((ps.length : Nat) : Int) : Int) ≥ (32)
  ·refine L_op rfl (X_cmp (k := .i64) (a := ((ps.length : Nat) : Int)) (b := 32) (r := true) rfl rfl rfl (decide_eq_true (p := ((32) : Int) ≤ ((((ps.length : Nat) : Int)) : Int)) (by omega)) ?_)
   refine L_op rfl (X_move (v := (.bool (true))) rfl ?_)
   refine L_gy (dj := 14) rfl rfl rfl (X_move (v := (.int .i64 (((ps.length : Nat) : Int)))) rfl ?_)
   by_cases hc4 : (((ps.length : Nat) : Int) : Int) ≤ (256)
   ·refine L_gy (dj := 14) rfl rfl rfl (X_cmp (k := .i64) (a := ((ps.length : Nat) : Int)) (b := 256) (r := true) rfl rfl rfl (decide_eq_true (p := ((((ps.length : Nat) : Int)) : Int) ≤ ((256) : Int)) (by omega)) ?_)
    refine L_op rfl (X_pick (t := true) (v := (.bool (true))) rfl rfl ?_)
    refine L_op rfl (X_move (v := (.bool (true))) rfl ?_)
    refine L_gy (dj := 18) rfl rfl rfl (X_fldP (b := b1) (o := 0) (r := 1) Fd26_1 rfl rfl ?_)
    refine L_gy (dj := 18) rfl rfl rfl (X_load (p := (ptr b1 (1))) (v := cv) T23 rfl (hB1.at1 rfl) ?_)
    refine L_gy (dj := 18) rfl rfl rfl (X_len (v := cv) (n := cs.length) Try.underlying23 rfl hc.sv ?_)
    by_cases hc5 : (((cs.length : Nat) : Int) : Int) ≤ (2000)
    ·refine L_gy (dj := 18) rfl rfl rfl (X_cmp (k := .i64) (a := ((cs.length : Nat) : Int)) (b := 2000) (r := true) rfl rfl rfl (decide_eq_true (p := ((((cs.length : Nat) : Int)) : Int) ≤ ((2000) : Int)) (by omega)) ?_)
     refine L_op rfl (X_pick (t := true) (v := (.bool (true))) rfl rfl ?_)
     refine L_op rfl (X_move (v := (.bool (true))) rfl ?_)
     refine L_gy (dj := 24) rfl rfl rfl (X_fldP (b := b1) (o := 0) (r := 3) Fd26_3 rfl rfl ?_)
     rcases Bool.eq_false_or_eq_true off with ho6 | ho6
     ·refine L_gy (dj := 24) rfl rfl rfl (X_load (p := (ptr b1 (3))) (v := .bool true) T4 rfl (hB1.at1 (by rw [ho6]; rfl)) ?_)
      refine L_gy (dj := 24) rfl rfl rfl (X_move (v := (.bool (true))) rfl ?_)
      refine L_gy (dj := 27) rfl rfl rfl (X_fldP (b := b1) (o := 0) (r := 1) Fd26_1 rfl rfl ?_)
      refine L_gy (dj := 27) rfl rfl rfl (X_load (p := (ptr b1 (1))) (v := cv) T23 rfl (hB1.at1 rfl) ?_)
      refine L_gy (dj := 27) rfl rfl rfl (X_len (v := cv) (n := cs.length) Try.underlying23 rfl hc.sv ?_)
      by_cases hc7 : (((cs.length : Nat) : Int) : Int) > (0)
      ·refine L_gy (dj := 27) rfl rfl rfl (X_cmp (k := .i64) (a := ((cs.length : Nat) : Int)) (b := 0) (r := true) rfl rfl rfl (decide_eq_true (p := ((0) : Int) < ((((cs.length : Nat) : Int)) : Int)) (by omega)) ?_)
       refine L_gy (dj := 24) rfl rfl rfl (X_pick (t := true) (v := (.bool (true))) rfl rfl ?_)
       refine L_gy (dj := 24) rfl rfl rfl (X_not (b := true) (r := false) rfl rfl ?_)
       refine L_op rfl (X_pick (t := true) (v := (.bool (false))) rfl rfl ?_)
       refine L_op rfl (X_assign (v := (.bool (false))) rfl ?_)
       refine L_nil ?_
       refine T_n ?_
       exact ⟨rfl, false, ⟨⟨fun h => (by cases h), fun h => (by unfold HeadD at h; exfalso; simp_all <;> omega)⟩, rfl⟩, (Out.suf rfl rfl), ⟨rfl, trivial⟩⟩
      ·refine L_gy (dj := 27) rfl rfl rfl (X_cmp (k := .i64) (a := ((cs.length : Nat) : Int)) (b := 0) (r := false) rfl rfl rfl (decide_eq_false (p := ((0) : Int) < ((((cs.length : Nat) : Int)) : Int)) (by omega)) ?_)
       refine L_gy (dj := 24) rfl rfl rfl (X_pick (t := true) (v := (.bool (false))) rfl rfl ?_)
       refine L_gy (dj := 24) rfl rfl rfl (X_not (b := false) (r := true) rfl rfl ?_)
       refine L_op rfl (X_pick (t := true) (v := (.bool (true))) rfl rfl ?_)
       refine L_op rfl (X_assign (v := (.bool (true))) rfl ?_)
       refine L_nil ?_
       refine T_n ?_
       exact ⟨rfl, true, ⟨⟨fun _ => ⟨by omega, by omega, by omega, fun h => by simp_all <;> omega⟩, fun _ => rfl⟩, rfl⟩, (Out.suf rfl rfl), ⟨rfl, trivial⟩⟩
     ·refine L_gy (dj := 24) rfl rfl rfl (X_load (p := (ptr b1 (3))) (v := .bool false) T4 rfl (hB1.at1 (by rw [ho6]; rfl)) ?_)
      refine L_gy (dj := 24) rfl rfl rfl (X_move (v := (.bool (false))) rfl ?_)
      refine L_gn (dj := 27) (t := false) rfl rfl rfl rfl ?_
      refine L_gn (dj := 27) (t := false) rfl rfl rfl rfl ?_
      refine L_gn (dj := 27) (t := false) rfl rfl rfl rfl ?_
      refine L_gn (dj := 27) (t := false) rfl rfl rfl rfl ?_
      refine L_gy (dj := 24) rfl rfl rfl (X_pick (t := false) (v := (.bool (false))) rfl rfl ?_)
      refine L_gy (dj := 24) rfl rfl rfl (X_not (b := false) (r := true) rfl rfl ?_)
      refine L_op rfl (X_pick (t := true) (v := (.bool (true))) rfl rfl ?_)
      refine L_op rfl (X_assign (v := (.bool (true))) rfl ?_)
      refine L_nil ?_
      refine T_n ?_
      exact ⟨rfl, true, ⟨⟨fun _ => ⟨by omega, by omega, by omega, fun h => by simp_all <;> omega⟩, fun _ => rfl⟩, rfl⟩, (Out.suf rfl rfl), ⟨rfl, trivial⟩⟩
    ·refine L_gy (dj := 18) rfl rfl rfl (X_cmp (k := .i64) (a := ((cs.length : Nat) : Int)) (b := 2000) (r := false) rfl rfl rfl (decide_eq_false (p := ((((cs.length : Nat) : Int)) : Int) ≤ ((2000) : Int)) (by omega)) ?_)
     refine L_op rfl (X_pick (t := true) (v := (.bool (false))) rfl rfl ?_)
     refine L_op rfl (X_move (v := (.bool (false))) rfl ?_)
     refine L_gn (dj := 24) (t := false) rfl rfl rfl rfl ?_
     refine L_gn (dj := 24) (t := false) rfl rfl rfl rfl ?_
     refine L_gn (dj := 24) (t := false) rfl rfl rfl rfl ?_
     refine L_gu (dj := 27) rfl rfl rfl ?_
     refine L_gu (dj := 27) rfl rfl rfl ?_
     refine L_gu (dj := 27) rfl rfl rfl ?_
     refine L_gu (dj := 27) rfl rfl rfl ?_
     refine L_gn (dj := 24) (t := false) rfl rfl rfl rfl ?_
     refine L_gn (dj := 24) (t := false) rfl rfl rfl rfl ?_
     refine L_op rfl (X_pick (t := false) (v := (.bool (false))) rfl rfl ?_)
     refine L_op rfl (X_assign (v := (.bool (false))) rfl ?_)
     refine L_nil ?_
     refine T_n ?_
     exact ⟨rfl, false, ⟨⟨fun h => (by cases h), fun h => (by unfold HeadD at h; exfalso; simp_all <;> omega)⟩, rfl⟩, (Out.suf rfl rfl), ⟨rfl, trivial⟩⟩
   ·refine L_gy (dj := 14) rfl rfl rfl (X_cmp (k := .i64) (a := ((ps.length : Nat) : Int)) (b := 256) (r := false) rfl rfl rfl (decide_eq_false (p := ((((ps.length : Nat) : Int)) : Int) ≤ ((256) : Int)) (by omega)) ?_)
    refine L_op rfl (X_pick (t := true) (v := (.bool (false))) rfl rfl ?_)
    refine L_op rfl (X_move (v := (.bool (false))) rfl ?_)
    refine L_gn (dj := 18) (t := false) rfl rfl rfl rfl ?_
    refine L_gn (dj := 18) (t := false) rfl rfl rfl rfl ?_
    refine L_gn (dj := 18) (t := false) rfl rfl rfl rfl ?_
    refine L_gn (dj := 18) (t := false) rfl rfl rfl rfl ?_
    refine L_op rfl (X_pick (t := false) (v := (.bool (false))) rfl rfl ?_)
    refine L_op rfl (X_move (v := (.bool (false))) rfl ?_)
    refine L_gn (dj := 24) (t := false) rfl rfl rfl rfl ?_
    refine L_gn (dj := 24) (t := false) rfl rfl rfl rfl ?_
    refine L_gn (dj := 24) (t := false) rfl rfl rfl rfl ?_
    refine L_gu (dj := 27) rfl rfl rfl ?_
    refine L_gu (dj := 27) rfl rfl rfl ?_
    refine L_gu (dj := 27) rfl rfl rfl ?_
    refine L_gu (dj := 27) rfl rfl rfl ?_
    refine L_gn (dj := 24) (t := false) rfl rfl rfl rfl ?_
    refine L_gn (dj := 24) (t := false) rfl rfl rfl rfl ?_
    refine L_op rfl (X_pick (t := false) (v := (.bool (false))) rfl rfl ?_)
    refine L_op rfl (X_assign (v := (.bool (false))) rfl ?_)
    refine L_nil ?_
    refine T_n ?_
    exact ⟨rfl, false, ⟨⟨fun h => (by cases h), fun h => (by unfold HeadD at h; exfalso; simp_all <;> omega)⟩, rfl⟩, (Out.suf rfl rfl), ⟨rfl, trivial⟩⟩
  ·refine L_op rfl (X_cmp (k := .i64) (a := ((ps.length : Nat) : Int)) (b := 32) (r := false) rfl rfl rfl (decide_eq_false (p := ((32) : Int) ≤ ((((ps.length : Nat) : Int)) : Int)) (by omega)) ?_)
   refine L_op rfl (X_move (v := (.bool (false))) rfl ?_)
   refine L_gn (dj := 14) (t := false) rfl rfl rfl rfl ?_
   refine L_gn (dj := 14) (t := false) rfl rfl rfl rfl ?_
   refine L_op rfl (X_pick (t := false) (v := (.bool (false))) rfl rfl ?_)
   refine L_op rfl (X_move (v := (.bool (false))) rfl ?_)
   refine L_gn (dj := 18) (t := false) rfl rfl rfl rfl ?_
   refine L_gn (dj := 18) (t := false) rfl rfl rfl rfl ?_
   refine L_gn (dj := 18) (t := false) rfl rfl rfl rfl ?_
   refine L_gn (dj := 18) (t := false) rfl rfl rfl rfl ?_
   refine L_op rfl (X_pick (t := false) (v := (.bool (false))) rfl rfl ?_)
   refine L_op rfl (X_move (v := (.bool (false))) rfl ?_)
   refine L_gn (dj := 24) (t := false) rfl rfl rfl rfl ?_
   refine L_gn (dj := 24) (t := false) rfl rfl rfl rfl ?_
   refine L_gn (dj := 24) (t := false) rfl rfl rfl rfl ?_
   refine L_gu (dj := 27) rfl rfl rfl ?_
   refine L_gu (dj := 27) rfl rfl rfl ?_
   refine L_gu (dj := 27) rfl rfl rfl ?_
   refine L_gu (dj := 27) rfl rfl rfl ?_
   refine L_gn (dj := 24) (t := false) rfl rfl rfl rfl ?_
   refine L_gn (dj := 24) (t := false) rfl rfl rfl rfl ?_
   refine L_op rfl (X_pick (t := false) (v := (.bool (false))) rfl rfl ?_)
   refine L_op rfl (X_assign (v := (.bool (false))) rfl ?_)
   refine L_nil ?_
   refine T_n ?_
   exact ⟨rfl, false, ⟨⟨fun h => (by cases h), fun h => (by unfold HeadD at h; exfalso; simp_all <;> omega)⟩, rfl⟩, (Out.suf rfl rfl), ⟨rfl, trivial⟩⟩
 ·rintro g _ _ ⟨hgH, rfl⟩
  refine W_seq ?_
  refine W_label ?_
  refine T_n ?_
  refine W_cut (α := Bool) [2, 5, 35, 36, 37, 38, 39, 40, 41, 42, 43, 44, 45, 46, 47, 48, 49, 50, 51, 52, 53, 54, 55, 56] (fun g => [(2, (.bool (g)))]) (fun g w_ => (g = true ↔ HeadD ps.length cs.length off ∧ InC ps.length cs cs.length) ∧ NRd LW w_ lo up cv cs ∧ NRd LI w_ lo up bv bs ∧ Blk w_ b1 #[pv, cv, bv, .bool off] 26 ∧ Upd (fun i => n0 ≤ i) w w_) ?_ ?_
  ·refine W_seq ?_
   refine W_reg ?_
   refine L_op rfl (X_fldP (b := b1) (o := 0) (r := 1) Fd26_1 rfl rfl ?_)
   refine L_op rfl (X_load (p := (ptr b1 (1))) (v := cv) T23 rfl (hB1.at1 rfl) ?_)
   refine L_op rfl (X_len (v := cv) (n := cs.length) Try.underlying23 rfl hc.sv ?_)
   refine L_op rfl (X_move (v := (.int .i64 (0))) rfl ?_)
   refine L_nil ?_
   refine T_n ?_
   refine W_block ?_
   refine W_loop (α := Nat × Bool) [2, 5, 38, 39, 40, 41, 42, 43, 44, 45, 46, 47, 48, 49, 50, 51, 52, 53, 54, 55, 56] (fun ⟨i, g⟩ => [(38, (.int .i64 (((i : Nat) : Int)))), (2, (.bool (g)))]) (fun ⟨i, g⟩ w_ => i ≤ cs.length ∧ NRd LW w_ lo up cv cs ∧ NRd LI w_ lo up bv bs ∧ Blk w_ b1 #[pv, cv, bv, .bool off] 26 ∧ Upd (fun i => n0 ≤ i) w w_ ∧ (g = true ↔ HeadD ps.length cs.length off ∧ InC ps.length cs i)) (fun ⟨i, g⟩ => cs.length - i) ⟨rfl, (0, g), ⟨Nat.zero_le _, hc, hb, hB1, hU, ⟨fun h => ⟨hgH.1 h, inC_0⟩, fun h => hgH.2 h.1⟩⟩, Out.refl _ _, ⟨rfl, rfl, trivial⟩⟩ ?_
   rintro ⟨i, g⟩ w9 _ ⟨hil, hc, hb, hB1, hU, hg⟩
   have hsz_ := hU.size
   have hb1lt := hB1.lt
   refine W_seq ?_
   refine W_reg ?_
   by_cases hc10 : (((i : Nat) : Int) : Int) < (((cs.length : Nat) : Int))
   ·refine L_op rfl (X_cmp (k := .i64) (a := ((i : Nat) : Int)) (b := ((cs.length : Nat) : Int)) (r := true) rfl rfl rfl (decide_eq_true (p := ((((i : Nat) : Int)) : Int) < ((((cs.length : Nat) : Int)) : Int)) (by omega)) ?_)
    have hi : i < cs.length := by omega
    obtain ⟨e, hei⟩ : ∃ e, cs[i]? = some e := ⟨_, List.getElem?_eq_getElem hi⟩
    refine L_nil ?_
    refine T_n ?_
    refine W_seq ?_
    refine W_ct rfl ?_
    refine W_skip ?_
    refine T_n ?_
    refine W_seq ?_
    refine W_block ?_
    refine W_seq ?_
    refine W_reg ?_
    refine L_op rfl (X_idx (v := cv) (n := cs.length) (k := .i64) (i := ((i : Nat) : Int)) S23 rfl hc.sv rfl (by omega) (by omega) ?_)
    refine L_op rfl (X_loadA (xs := LW.cel e) A63 rfl (wall hc (Int.toNat_natCast _) hei) (LW.len e) ?_)
    refine L_op rfl (X_alloc (z := zv63) (c := zc63.toArray) Zv63 rfl ?_)
    intro b11 w11 hn11
    have hbn11 := hn11.num; have hbs11 := hn11.size
    replace hc := hc.ext hn11.ext
    replace hb := hb.ext hn11.ext
    replace hU := hU.trans (Ext.upd hn11.ext)
    replace hB1 := hB1.ext hn11.ext
    have hB11 := hn11.blk
    refine L_op0 (X_storeW (b := b11) (ys := LW.cel e) A63 rfl rfl (LW.one e (fun _ h => by cases h)) (LW.len e) hB11 zc63_size ?_)
    intro w12 hu12 hb12
    have hz12 := hu12.size
    replace hc := hc.upd hu12 fun i h1 h2 h => by have h : i = b11 := h; omega
    replace hb := hb.upd hu12 fun i h1 h2 h => by have h : i = b11 := h; omega
    replace hU := hU.trans (hu12.mono fun i _ h => by have h : i = b11 := h; show n0 ≤ i; omega)
    replace hB1 := hB1.upd hu12 fun h => by have h : b1 = b11 := h; omega
    replace hB11 := hb12
    refine L_nil ?_
    refine T_n ?_
    refine W_seq ?_
    refine W_reg ?_
    rcases Bool.eq_false_or_eq_true g with rfl | rfl
    ·refine L_op rfl (X_move (v := (.bool (true))) rfl ?_)
     refine L_op rfl (X_move (v := (.bool (true))) rfl ?_)
     refine L_gy (dj := 43) rfl rfl rfl (X_fldP (b := b11) (o := 0) (r := 0) Fd63_0 rfl rfl ?_)
     refine L_gy (dj := 43) rfl rfl rfl (X_load (p := (ptr b11 (0))) (v := .int .i64 e.1) T3 rfl (hB11.at1 rfl) ?_)
     by_cases hc13 : (e.1 : Int) ≥ (0)
     ·refine L_gy (dj := 43) rfl rfl rfl (X_cmp (k := .i64) (a := e.1) (b := 0) (r := true) rfl rfl rfl (decide_eq_true (p := ((0) : Int) ≤ ((e.1) : Int)) (by omega)) ?_)
      refine L_op rfl (X_pick (t := true) (v := (.bool (true))) rfl rfl ?_)
      refine L_op rfl (X_move (v := (.bool (true))) rfl ?_)
      refine L_gy (dj := 48) rfl rfl rfl (X_fldP (b := b11) (o := 0) (r := 0) Fd63_0 rfl rfl ?_)
      refine L_gy (dj := 48) rfl rfl rfl (X_load (p := (ptr b11 (0))) (v := .int .i64 e.1) T3 rfl (hB11.at1 rfl) ?_)
      refine L_gy (dj := 48) rfl rfl rfl (X_move (v := (.int .i64 (((ps.length : Nat) : Int)))) rfl ?_)
      by_cases hc14 : (e.1 : Int) < (((ps.length : Nat) : Int))
      ·refine L_gy (dj := 48) rfl rfl rfl (X_cmp (k := .i64) (a := e.1) (b := ((ps.length : Nat) : Int)) (r := true) rfl rfl rfl (decide_eq_true (p := ((e.1) : Int) < ((((ps.length : Nat) : Int)) : Int)) (by omega)) ?_)
       refine L_op rfl (X_pick (t := true) (v := (.bool (true))) rfl rfl ?_)
       refine L_op rfl (X_assign (v := .bool true) rfl ?_)
       have hgn : (true = true ↔ HeadD ps.length cs.length off ∧ InC ps.length cs (i + 1)) := ⟨fun _ => ⟨(hg.1 rfl).1, (inC_step hei).2 ⟨(hg.1 rfl).2, by omega, by omega⟩⟩, fun _ => rfl⟩
       refine L_nil ?_
       refine T_n ?_
       refine W_seq ?_
       refine W_reg ?_
       refine L_op rfl (X_move (v := (.bool (true))) rfl ?_)
       refine L_op rfl (X_not (b := true) (r := false) rfl rfl ?_)
       refine L_nil ?_
       refine T_n ?_
       refine W_cf rfl ?_
       refine W_skip ?_
       refine B_n ?_
       refine T_n ?_
       refine W_reg ?_
       refine L_op rfl (X_arith (k := .i64) (a := ((i : Nat) : Int)) (b := 1) (r := ((i + 1 : Nat) : Int)) rfl rfl rfl (iadd64 (by omega) (by omega) (by omega)) ?_)
       refine L_op rfl (X_move (v := (.int .i64 (((i + 1 : Nat) : Int)))) rfl ?_)
       refine L_nil ?_
       refine T_n ?_
       exact ⟨rfl, (i + 1, true), ⟨⟨hi, hc, hb, hB1, hU, hgn⟩, (by show cs.length - (i + 1) < cs.length - i; omega)⟩, (Out.mk rfl), ⟨rfl, rfl, trivial⟩⟩
      ·refine L_gy (dj := 48) rfl rfl rfl (X_cmp (k := .i64) (a := e.1) (b := ((ps.length : Nat) : Int)) (r := false) rfl rfl rfl (decide_eq_false (p := ((e.1) : Int) < ((((ps.length : Nat) : Int)) : Int)) (by omega)) ?_)
       refine L_op rfl (X_pick (t := true) (v := (.bool (false))) rfl rfl ?_)
       refine L_op rfl (X_assign (v := .bool false) rfl ?_)
       have hgn : (false = true ↔ HeadD ps.length cs.length off ∧ InC ps.length cs (i + 1)) := ⟨fun h => (by cases h), fun h => (by have h1 := (inC_step hei).1 h.2; omega)⟩
       refine L_nil ?_
       refine T_n ?_
       refine W_seq ?_
       refine W_reg ?_
       refine L_op rfl (X_move (v := (.bool (false))) rfl ?_)
       refine L_op rfl (X_not (b := false) (r := true) rfl rfl ?_)
       refine L_nil ?_
       refine T_n ?_
       refine W_ct rfl ?_
       refine W_exit ?_
       refine B_e rfl ?_
       refine T_e ?_
       refine T_e ?_
       refine B_x ?_
       refine T_n ?_
       exact ⟨rfl, false, ⟨⟨fun h => (by cases h), fun h => hgn.2 ⟨h.1, inC_mono h.2 hi⟩⟩, hc, hb, hB1, hU⟩, (Out.in_ rfl rfl (Out.suf rfl rfl)), ⟨rfl, trivial⟩⟩
     ·refine L_gy (dj := 43) rfl rfl rfl (X_cmp (k := .i64) (a := e.1) (b := 0) (r := false) rfl rfl rfl (decide_eq_false (p := ((0) : Int) ≤ ((e.1) : Int)) (by omega)) ?_)
      refine L_op rfl (X_pick (t := true) (v := (.bool (false))) rfl rfl ?_)
      refine L_op rfl (X_move (v := (.bool (false))) rfl ?_)
      refine L_gn (dj := 48) (t := false) rfl rfl rfl rfl ?_
      refine L_gn (dj := 48) (t := false) rfl rfl rfl rfl ?_
      refine L_gn (dj := 48) (t := false) rfl rfl rfl rfl ?_
      refine L_gn (dj := 48) (t := false) rfl rfl rfl rfl ?_
      refine L_op rfl (X_pick (t := false) (v := (.bool (false))) rfl rfl ?_)
      refine L_op rfl (X_assign (v := .bool false) rfl ?_)
      have hgn : (false = true ↔ HeadD ps.length cs.length off ∧ InC ps.length cs (i + 1)) := ⟨fun h => (by cases h), fun h => (by have h1 := (inC_step hei).1 h.2; omega)⟩
      refine L_nil ?_
      refine T_n ?_
      refine W_seq ?_
      refine W_reg ?_
      refine L_op rfl (X_move (v := (.bool (false))) rfl ?_)
      refine L_op rfl (X_not (b := false) (r := true) rfl rfl ?_)
      refine L_nil ?_
      refine T_n ?_
      refine W_ct rfl ?_
      refine W_exit ?_
      refine B_e rfl ?_
      refine T_e ?_
      refine T_e ?_
      refine B_x ?_
      refine T_n ?_
      exact ⟨rfl, false, ⟨⟨fun h => (by cases h), fun h => hgn.2 ⟨h.1, inC_mono h.2 hi⟩⟩, hc, hb, hB1, hU⟩, (Out.in_ rfl rfl (Out.suf rfl rfl)), ⟨rfl, trivial⟩⟩
    ·refine L_op rfl (X_move (v := (.bool (false))) rfl ?_)
     refine L_op rfl (X_move (v := (.bool (false))) rfl ?_)
     refine L_gn (dj := 43) (t := false) rfl rfl rfl rfl ?_
     refine L_gn (dj := 43) (t := false) rfl rfl rfl rfl ?_
     refine L_gn (dj := 43) (t := false) rfl rfl rfl rfl ?_
     refine L_op rfl (X_pick (t := false) (v := (.bool (false))) rfl rfl ?_)
     refine L_op rfl (X_move (v := (.bool (false))) rfl ?_)
     refine L_gn (dj := 48) (t := false) rfl rfl rfl rfl ?_
     refine L_gn (dj := 48) (t := false) rfl rfl rfl rfl ?_
     refine L_gn (dj := 48) (t := false) rfl rfl rfl rfl ?_
     refine L_gn (dj := 48) (t := false) rfl rfl rfl rfl ?_
     refine L_op rfl (X_pick (t := false) (v := (.bool (false))) rfl rfl ?_)
     refine L_op rfl (X_assign (v := .bool false) rfl ?_)
     have hgn : (false = true ↔ HeadD ps.length cs.length off ∧ InC ps.length cs (i + 1)) := ⟨fun h => (by cases h), fun h => hg.2 ⟨h.1, inC_mono h.2 (by omega)⟩⟩
     refine L_nil ?_
     refine T_n ?_
     refine W_seq ?_
     refine W_reg ?_
     refine L_op rfl (X_move (v := (.bool (false))) rfl ?_)
     refine L_op rfl (X_not (b := false) (r := true) rfl rfl ?_)
     refine L_nil ?_
     refine T_n ?_
     refine W_ct rfl ?_
     refine W_exit ?_
     refine B_e rfl ?_
     refine T_e ?_
     refine T_e ?_
     refine B_x ?_
     refine T_n ?_
     exact ⟨rfl, false, ⟨⟨fun h => (by cases h), fun h => hgn.2 ⟨h.1, inC_mono h.2 hi⟩⟩, hc, hb, hB1, hU⟩, (Out.in_ rfl rfl (Out.suf rfl rfl)), ⟨rfl, trivial⟩⟩
   ·refine L_op rfl (X_cmp (k := .i64) (a := ((i : Nat) : Int)) (b := ((cs.length : Nat) : Int)) (r := false) rfl rfl rfl (decide_eq_false (p := ((((i : Nat) : Int)) : Int) < ((((cs.length : Nat) : Int)) : Int)) (by omega)) ?_)
    refine L_nil ?_
    refine T_n ?_
    refine W_seq ?_
    refine W_cf rfl ?_
    refine W_exit ?_
    refine T_e ?_
    refine T_e ?_
    refine B_x ?_
    refine T_n ?_
    exact ⟨rfl, g, ⟨⟨fun h => ⟨(hg.1 h).1, inC_mono (hg.1 h).2 (by omega)⟩, fun h => hg.2 ⟨h.1, inC_mono h.2 (by omega)⟩⟩, hc, hb, hB1, hU⟩, (Out.in_ rfl rfl (Out.suf rfl rfl)), ⟨rfl, trivial⟩⟩
  ·rintro g w8 _ ⟨hgC, hc, hb, hB1, hU⟩
   have hsz_ := hU.size
   refine W_seq ?_
   refine W_reg ?_
   refine L_op rfl (X_assign (v := (.int .i64 (-1))) rfl ?_)
   refine L_nil ?_
   refine T_n ?_
   refine W_seq ?_
   refine W_seq ?_
   refine W_reg ?_
   refine L_op rfl (X_fldP (b := b1) (o := 0) (r := 2) Fd26_2 rfl rfl ?_)
   refine L_op rfl (X_load (p := (ptr b1 (2))) (v := bv) T24 rfl (hB1.at1 rfl) ?_)
   refine L_op rfl (X_len (v := bv) (n := bs.length) Try.underlying24 rfl hb.sv ?_)
   refine L_op rfl (X_move (v := (.int .i64 (0))) rfl ?_)
   refine L_nil ?_
   refine T_n ?_
   refine W_block ?_
   refine W_loop (α := Nat × Bool) [2, 6, 8, 60, 61, 62, 63, 64, 65, 66, 67, 68, 69, 70, 71, 72, 73, 74, 75, 76] (fun ⟨i, g⟩ => [(60, (.int .i64 (((i : Nat) : Int)))), (2, (.bool (g))), (6, (.int .i64 (before bs i)))]) (fun ⟨i, g⟩ w_ => i ≤ bs.length ∧ NRd LW w_ lo up cv cs ∧ NRd LI w_ lo up bv bs ∧ Blk w_ b1 #[pv, cv, bv, .bool off] 26 ∧ Upd (fun i => n0 ≤ i) w w_ ∧ (g = true ↔ (HeadD ps.length cs.length off ∧ InC ps.length cs cs.length) ∧ InB ps.length bs i)) (fun ⟨i, g⟩ => bs.length - i) ⟨rfl, (0, g), ⟨Nat.zero_le _, hc, hb, hB1, hU, ⟨fun h => ⟨hgC.1 h, inB_0⟩, fun h => hgC.2 h.1⟩⟩, Out.refl _ _, ⟨rfl, rfl, rfl, trivial⟩⟩ ?_
   rintro ⟨i, g⟩ w15 _ ⟨hil, hc, hb, hB1, hU, hg⟩
   have hsz_ := hU.size
   have hb1lt := hB1.lt
   refine W_seq ?_
   refine W_reg ?_
   by_cases hc16 : (((i : Nat) : Int) : Int) < (((bs.length : Nat) : Int))
   ·refine L_op rfl (X_cmp (k := .i64) (a := ((i : Nat) : Int)) (b := ((bs.length : Nat) : Int)) (r := true) rfl rfl rfl (decide_eq_true (p := ((((i : Nat) : Int)) : Int) < ((((bs.length : Nat) : Int)) : Int)) (by omega)) ?_)
    have hi : i < bs.length := by omega
    obtain ⟨a, hai⟩ : ∃ a, bs[i]? = some a := ⟨_, List.getElem?_eq_getElem hi⟩
    have hst := inB_step (n := ps.length) hai
    refine L_nil ?_
    refine T_n ?_
    refine W_seq ?_
    refine W_ct rfl ?_
    refine W_skip ?_
    refine T_n ?_
    refine W_seq ?_
    refine W_block ?_
    refine W_seq ?_
    refine W_reg ?_
    refine L_op rfl (X_idx (v := bv) (n := bs.length) (k := .i64) (i := ((i : Nat) : Int)) S24 rfl hb.sv rfl (by omega) (by omega) ?_)
    refine L_op rfl (X_load (v := .int .i64 a) T3 rfl (iat hb (Int.toNat_natCast _) hai) ?_)
    refine L_op rfl (X_assign (v := (.int .i64 (a))) rfl ?_)
    refine L_nil ?_
    refine T_n ?_
    refine W_seq ?_
    refine W_reg ?_
    rcases Bool.eq_false_or_eq_true g with rfl | rfl
    ·refine L_op rfl (X_move (v := (.bool (true))) rfl ?_)
     refine L_op rfl (X_move (v := (.bool (true))) rfl ?_)
     refine L_gy (dj := 65) rfl rfl rfl (X_move (v := (.int .i64 (a))) rfl ?_)
     refine L_gy (dj := 65) rfl rfl rfl (X_move (v := (.int .i64 (before bs i))) rfl ?_)
     by_cases hc17 : (a : Int) > (before bs i)
     ·refine L_gy (dj := 65) rfl rfl rfl (X_cmp (k := .i64) (a := a) (b := before bs i) (r := true) rfl rfl rfl (decide_eq_true (p := ((before bs i) : Int) < ((a) : Int)) (by omega)) ?_)
      refine L_op rfl (X_pick (t := true) (v := (.bool (true))) rfl rfl ?_)
      refine L_op rfl (X_move (v := (.bool (true))) rfl ?_)
      refine L_gy (dj := 70) rfl rfl rfl (X_move (v := (.int .i64 (a))) rfl ?_)
      refine L_gy (dj := 70) rfl rfl rfl (X_move (v := (.int .i64 (((ps.length : Nat) : Int)))) rfl ?_)
      by_cases hc18 : (a : Int) < (((ps.length : Nat) : Int))
      ·refine L_gy (dj := 70) rfl rfl rfl (X_cmp (k := .i64) (a := a) (b := ((ps.length : Nat) : Int)) (r := true) rfl rfl rfl (decide_eq_true (p := ((a) : Int) < ((((ps.length : Nat) : Int)) : Int)) (by omega)) ?_)
       refine L_op rfl (X_pick (t := true) (v := (.bool (true))) rfl rfl ?_)
       refine L_op rfl (X_assign (v := .bool true) rfl ?_)
       have hgn : (true = true ↔ (HeadD ps.length cs.length off ∧ InC ps.length cs cs.length) ∧ InB ps.length bs (i + 1)) := ⟨fun _ => ⟨(hg.1 rfl).1, hst.2 ⟨(hg.1 rfl).2, by omega, by omega⟩⟩, fun _ => rfl⟩
       refine L_nil ?_
       refine T_n ?_
       refine W_reg ?_
       refine L_op rfl (X_move (v := (.int .i64 (a))) rfl ?_)
       refine L_op rfl (X_assign (v := (.int .i64 (a))) rfl ?_)
       refine L_nil ?_
       refine B_n ?_
       refine T_n ?_
       refine W_reg ?_
       refine L_op rfl (X_arith (k := .i64) (a := ((i : Nat) : Int)) (b := 1) (r := ((i + 1 : Nat) : Int)) rfl rfl rfl (iadd64 (by omega) (by omega) (by omega)) ?_)
       refine L_op rfl (X_move (v := (.int .i64 (((i + 1 : Nat) : Int)))) rfl ?_)
       refine L_nil ?_
       refine T_n ?_
       exact ⟨rfl, (i + 1, true), ⟨⟨hi, hc, hb, hB1, hU, hgn⟩, (by show bs.length - (i + 1) < bs.length - i; omega)⟩, (Out.mk rfl), ⟨rfl, rfl, (by rw [before_succ hai]; rfl), trivial⟩⟩
      ·refine L_gy (dj := 70) rfl rfl rfl (X_cmp (k := .i64) (a := a) (b := ((ps.length : Nat) : Int)) (r := false) rfl rfl rfl (decide_eq_false (p := ((a) : Int) < ((((ps.length : Nat) : Int)) : Int)) (by omega)) ?_)
       refine L_op rfl (X_pick (t := true) (v := (.bool (false))) rfl rfl ?_)
       refine L_op rfl (X_assign (v := .bool false) rfl ?_)
       have hgn : (false = true ↔ (HeadD ps.length cs.length off ∧ InC ps.length cs cs.length) ∧ InB ps.length bs (i + 1)) := ⟨fun h => (by cases h), fun h => (by have h1 := hst.1 h.2; omega)⟩
       refine L_nil ?_
       refine T_n ?_
       refine W_reg ?_
       refine L_op rfl (X_move (v := (.int .i64 (a))) rfl ?_)
       refine L_op rfl (X_assign (v := (.int .i64 (a))) rfl ?_)
       refine L_nil ?_
       refine B_n ?_
       refine T_n ?_
       refine W_reg ?_
       refine L_op rfl (X_arith (k := .i64) (a := ((i : Nat) : Int)) (b := 1) (r := ((i + 1 : Nat) : Int)) rfl rfl rfl (iadd64 (by omega) (by omega) (by omega)) ?_)
       refine L_op rfl (X_move (v := (.int .i64 (((i + 1 : Nat) : Int)))) rfl ?_)
       refine L_nil ?_
       refine T_n ?_
       exact ⟨rfl, (i + 1, false), ⟨⟨hi, hc, hb, hB1, hU, hgn⟩, (by show bs.length - (i + 1) < bs.length - i; omega)⟩, (Out.mk rfl), ⟨rfl, rfl, (by rw [before_succ hai]; rfl), trivial⟩⟩
     ·refine L_gy (dj := 65) rfl rfl rfl (X_cmp (k := .i64) (a := a) (b := before bs i) (r := false) rfl rfl rfl (decide_eq_false (p := ((before bs i) : Int) < ((a) : Int)) (by omega)) ?_)
      refine L_op rfl (X_pick (t := true) (v := (.bool (false))) rfl rfl ?_)
      refine L_op rfl (X_move (v := (.bool (false))) rfl ?_)
      refine L_gn (dj := 70) (t := false) rfl rfl rfl rfl ?_
      refine L_gn (dj := 70) (t := false) rfl rfl rfl rfl ?_
      refine L_gn (dj := 70) (t := false) rfl rfl rfl rfl ?_
      refine L_op rfl (X_pick (t := false) (v := (.bool (false))) rfl rfl ?_)
      refine L_op rfl (X_assign (v := .bool false) rfl ?_)
      have hgn : (false = true ↔ (HeadD ps.length cs.length off ∧ InC ps.length cs cs.length) ∧ InB ps.length bs (i + 1)) := ⟨fun h => (by cases h), fun h => (by have h1 := hst.1 h.2; omega)⟩
      refine L_nil ?_
      refine T_n ?_
      refine W_reg ?_
      refine L_op rfl (X_move (v := (.int .i64 (a))) rfl ?_)
      refine L_op rfl (X_assign (v := (.int .i64 (a))) rfl ?_)
      refine L_nil ?_
      refine B_n ?_
      refine T_n ?_
      refine W_reg ?_
      refine L_op rfl (X_arith (k := .i64) (a := ((i : Nat) : Int)) (b := 1) (r := ((i + 1 : Nat) : Int)) rfl rfl rfl (iadd64 (by omega) (by omega) (by omega)) ?_)
      refine L_op rfl (X_move (v := (.int .i64 (((i + 1 : Nat) : Int)))) rfl ?_)
      refine L_nil ?_
      refine T_n ?_
      exact ⟨rfl, (i + 1, false), ⟨⟨hi, hc, hb, hB1, hU, hgn⟩, (by show bs.length - (i + 1) < bs.length - i; omega)⟩, (Out.mk rfl), ⟨rfl, rfl, (by rw [before_succ hai]; rfl), trivial⟩⟩
    ·refine L_op rfl (X_move (v := (.bool (false))) rfl ?_)
     refine L_op rfl (X_move (v := (.bool (false))) rfl ?_)
     refine L_gn (dj := 65) (t := false) rfl rfl rfl rfl ?_
     refine L_gn (dj := 65) (t := false) rfl rfl rfl rfl ?_
     refine L_gn (dj := 65) (t := false) rfl rfl rfl rfl ?_
     refine L_op rfl (X_pick (t := false) (v := (.bool (false))) rfl rfl ?_)
     refine L_op rfl (X_move (v := (.bool (false))) rfl ?_)
     refine L_gn (dj := 70) (t := false) rfl rfl rfl rfl ?_
     refine L_gn (dj := 70) (t := false) rfl rfl rfl rfl ?_
     refine L_gn (dj := 70) (t := false) rfl rfl rfl rfl ?_
     refine L_op rfl (X_pick (t := false) (v := (.bool (false))) rfl rfl ?_)
     refine L_op rfl (X_assign (v := .bool false) rfl ?_)
     have hgn : (false = true ↔ (HeadD ps.length cs.length off ∧ InC ps.length cs cs.length) ∧ InB ps.length bs (i + 1)) := ⟨fun h => (by cases h), fun h => hg.2 ⟨h.1, inB_mono h.2 (by omega)⟩⟩
     refine L_nil ?_
     refine T_n ?_
     refine W_reg ?_
     refine L_op rfl (X_move (v := (.int .i64 (a))) rfl ?_)
     refine L_op rfl (X_assign (v := (.int .i64 (a))) rfl ?_)
     refine L_nil ?_
     refine B_n ?_
     refine T_n ?_
     refine W_reg ?_
     refine L_op rfl (X_arith (k := .i64) (a := ((i : Nat) : Int)) (b := 1) (r := ((i + 1 : Nat) : Int)) rfl rfl rfl (iadd64 (by omega) (by omega) (by omega)) ?_)
     refine L_op rfl (X_move (v := (.int .i64 (((i + 1 : Nat) : Int)))) rfl ?_)
     refine L_nil ?_
     refine T_n ?_
     exact ⟨rfl, (i + 1, false), ⟨⟨hi, hc, hb, hB1, hU, hgn⟩, (by show bs.length - (i + 1) < bs.length - i; omega)⟩, (Out.mk rfl), ⟨rfl, rfl, (by rw [before_succ hai]; rfl), trivial⟩⟩
   ·refine L_op rfl (X_cmp (k := .i64) (a := ((i : Nat) : Int)) (b := ((bs.length : Nat) : Int)) (r := false) rfl rfl rfl (decide_eq_false (p := ((((i : Nat) : Int)) : Int) < ((((bs.length : Nat) : Int)) : Int)) (by omega)) ?_)
    refine L_nil ?_
    refine T_n ?_
    refine W_seq ?_
    refine W_cf rfl ?_
    refine W_exit ?_
    refine T_e ?_
    refine T_e ?_
    refine B_x ?_
    refine T_n ?_
    refine W_seq ?_
    refine W_reg ?_
    refine L_op rfl (X_move (v := (.bool (g))) rfl ?_)
    refine L_op rfl (X_assign (v := (.bool (g))) rfl ?_)
    refine L_nil ?_
    refine T_n ?_
    refine W_ret ?_
    refine S_r ?_
    exact BQ_r (End_1 Try.results54 (v := .bool g) rfl ⟨⟨g, rfl, ⟨fun h => (by have h1 := hg.1 h; exact ⟨h1.1.1, h1.1.2, inB_mono h1.2 (by omega)⟩), fun h => hg.2 ⟨⟨h.1, h.2.1⟩, inB_mono h.2.2 (by omega)⟩⟩⟩, hU.own hn0⟩)

theorem built26 (a b c : Option Addr) (n1 n2 n3 c1 c2 c3 : Nat) (o : Bool) : Try.prog.built 26 [(0, .slice a n1 c1), (1, .slice b n2 c2), (2, .slice c n3 c3), (3, .bool o)] = some #[.slice a n1 c1, .slice b n2 c2, .slice c n3 c3, .bool o] := by kernel_rfl
theorem built26' {u v x : Value} {n m k : Nat} (h : SV u n) (h2 : SV v m) (h3 : SV x k) (o : Bool) : Try.prog.built 26 [(0, u), (1, v), (2, x), (3, .bool o)] = some #[u, v, x, .bool o] := by
 obtain ⟨a, c, rfl, _⟩ := h
 obtain ⟨a2, c2, rfl, _⟩ := h2
 obtain ⟨a3, c3, rfl, _⟩ := h3
 exact built26 a a2 a3 n m k c c2 c3 o
open Classical in
noncomputable def askE (np : Nat) (cs : List Wr) (bs : List Int) (off : Bool) (n : Int) : Int := if MayD np cs bs off ∧ 0 ≤ n ∧ n < np then (if off = true then 30 else 0) else 2
theorem askE_bad {np : Nat} {cs : List Wr} {bs : List Int} {off : Bool} {n : Int} (h : ¬ (MayD np cs bs off ∧ 0 ≤ n ∧ n < np)) : askE np cs bs off n = 2 := if_neg h
theorem askE_off {np : Nat} {cs : List Wr} {bs : List Int} {off : Bool} {n : Int} (h : MayD np cs bs off) (h1 : 0 ≤ n) (h2 : n < np) (ho : off = true) : askE np cs bs off n = 30 := (if_pos ⟨h, h1, h2⟩).trans (if_pos ho)
theorem askE_ok {np : Nat} {cs : List Wr} {bs : List Int} {off : Bool} {n : Int} (h : MayD np cs bs off) (h1 : 0 ≤ n) (h2 : n < np) (ho : off = false) : askE np cs bs off n = 0 := (if_pos ⟨h, h1, h2⟩).trans (if_neg (by rw [ho]; decide))
theorem askE_zero {np : Nat} {cs : List Wr} {bs : List Int} {off : Bool} {n : Int} (h : askE np cs bs off n = 0) : MayD np cs bs off ∧ 0 ≤ n ∧ n < np ∧ off = false := by
 unfold askE at h
 split at h
 ·rename_i h1
  refine ⟨h1.1, h1.2.1, h1.2.2, ?_⟩
  cases off with
  | true => simp at h
  | false => rfl
 ·simp at h

theorem c_asked (pv cv bv : Value) (ps : List Pg) (cs : List Wr) (bs : List Int) (off : Bool) (n : Int) (w : World) (lo up : Nat) (hup : up ≤ w.heap.size) (hp : NRd LP w lo up pv ps) (hc : NRd LW w lo up cv cs) (hb : NRd LI w lo up bv bs) : CT Try.prog 43 #[(.agg #[pv, cv, bv, (.bool (off))]), (.int .i64 (n))] w fun v w' => v = .int .i64 (askE ps.length cs bs off n) ∧ Ext w w' := by
 obtain ⟨n0, hn0⟩ : ∃ n, n = w.heap.size := ⟨_, rfl⟩
 have hU : Upd (fun i => n0 ≤ i) w w := Upd.refl _ _
 have hpl := hp.sv.len
 have hcl := hc.sv.len
 have hbl := hb.sv.len
 rw [← hn0] at hup
 refine CT_of Try.func43 rfl rfl rfl ?_
 refine W_seq ?_
 refine W_reg ?_
 refine L_op rfl (X_box (v := (.agg #[pv, cv, bv, (.bool (off))])) (c := ([pv, cv, bv, (.bool (off))]).toArray) rfl rfl ?_)
 intro b1 w1 hn1
 have hbn1 := hn1.num; have hbs1 := hn1.size
 replace hp := hp.ext hn1.ext
 replace hc := hc.ext hn1.ext
 replace hb := hb.ext hn1.ext
 replace hU := hU.trans (Ext.upd hn1.ext)
 have hB1 := hn1.blk
 refine L_op rfl (X_assign (v := (.int .i64 (0))) rfl ?_)
 refine L_nil ?_
 refine T_n ?_
 refine W_seq ?_
 refine W_block ?_
 refine W_seq ?_
 refine W_reg ?_
 refine L_op rfl (X_loadA (p := (ptr b1 (0))) (xs := [pv, cv, bv, (.bool (off))]) A26 rfl hB1.atAll rfl ?_)
 refine L_op rfl (X_fn (vs := [(.agg ([pv, cv, bv, (.bool (off))]).toArray)]) en54 rfl (CT.mono (c_may pv cv bv ps cs bs off _ lo up (by omega) hp hc hb) ?_))
 rintro _ w2 ⟨⟨g_, rfl, hg_⟩, hu2⟩
 have hz2 := hu2.size
 replace hp := hp.ext hu2
 replace hc := hc.ext hu2
 replace hb := hb.ext hu2
 replace hU := hU.trans (Ext.upd hu2)
 replace hB1 := hB1.ext hu2
 rcases Bool.eq_false_or_eq_true (g_) with hc3 | hc3
 ·rw [hc3]
  refine L_op rfl (X_not (b := true) (r := false) rfl rfl ?_)
  refine L_op rfl (X_move (v := (.bool (false))) rfl ?_)
  refine L_gy (dj := 9) rfl rfl rfl (X_move (v := (.int .i64 (n))) rfl ?_)
  by_cases hc4 : (n : Int) < (0)
  ·refine L_gy (dj := 9) rfl rfl rfl (X_cmp (k := .i64) (a := n) (b := 0) (r := true) rfl rfl rfl (decide_eq_true (p := ((n) : Int) < ((0) : Int)) (by omega)) ?_)
   refine L_op rfl (X_pick (t := false) (v := (.bool (true))) rfl rfl ?_)
   refine L_op rfl (X_move (v := (.bool (true))) rfl ?_)
   refine L_gn (dj := 13) (t := true) rfl rfl rfl rfl ?_
   refine L_gn (dj := 13) (t := true) rfl rfl rfl rfl ?_
   refine L_gn (dj := 13) (t := true) rfl rfl rfl rfl ?_
   refine L_gn (dj := 13) (t := true) rfl rfl rfl rfl ?_
   refine L_gn (dj := 13) (t := true) rfl rfl rfl rfl ?_
   refine L_op rfl (X_pick (t := true) (v := (.bool (true))) rfl rfl ?_)
   refine L_op rfl (X_assign (v := (.bool (true))) rfl ?_)
   refine L_nil ?_
   refine T_n ?_
   refine W_ct rfl ?_
   refine W_seq ?_
   refine W_reg ?_
   refine L_op rfl (X_assign (v := (.int .i64 (2))) rfl ?_)
   refine L_nil ?_
   refine T_n ?_
   refine W_ret ?_
   refine B_r ?_
   refine T_r ?_
   exact BQ_r (End_1 Try.results43 (v := .int .i64 2) rfl ⟨by rw [askE_bad (fun h => by omega)], hU.own hn0⟩)
  ·refine L_gy (dj := 9) rfl rfl rfl (X_cmp (k := .i64) (a := n) (b := 0) (r := false) rfl rfl rfl (decide_eq_false (p := ((n) : Int) < ((0) : Int)) (by omega)) ?_)
   refine L_op rfl (X_pick (t := false) (v := (.bool (false))) rfl rfl ?_)
   refine L_op rfl (X_move (v := (.bool (false))) rfl ?_)
   refine L_gy (dj := 13) rfl rfl rfl (X_move (v := (.int .i64 (n))) rfl ?_)
   refine L_gy (dj := 13) rfl rfl rfl (X_fldP (b := b1) (o := 0) (r := 0) Fd26_0 rfl rfl ?_)
   refine L_gy (dj := 13) rfl rfl rfl (X_load (p := (ptr b1 (0))) (v := pv) T22 rfl (hB1.at1 rfl) ?_)
   refine L_gy (dj := 13) rfl rfl rfl (X_len (v := pv) (n := ps.length) Try.underlying22 rfl hp.sv ?_)
   by_cases hc5 : (n : Int) ≥ (((ps.length : Nat) : Int))
   ·refine L_gy (dj := 13) rfl rfl rfl (X_cmp (k := .i64) (a := n) (b := ((ps.length : Nat) : Int)) (r := true) rfl rfl rfl (decide_eq_true (p := ((((ps.length : Nat) : Int)) : Int) ≤ ((n) : Int)) (by omega)) ?_)
    refine L_op rfl (X_pick (t := false) (v := (.bool (true))) rfl rfl ?_)
    refine L_op rfl (X_assign (v := (.bool (true))) rfl ?_)
    refine L_nil ?_
    refine T_n ?_
    refine W_ct rfl ?_
    refine W_seq ?_
    refine W_reg ?_
    refine L_op rfl (X_assign (v := (.int .i64 (2))) rfl ?_)
    refine L_nil ?_
    refine T_n ?_
    refine W_ret ?_
    refine B_r ?_
    refine T_r ?_
    exact BQ_r (End_1 Try.results43 (v := .int .i64 2) rfl ⟨by rw [askE_bad (fun h => by omega)], hU.own hn0⟩)
   ·refine L_gy (dj := 13) rfl rfl rfl (X_cmp (k := .i64) (a := n) (b := ((ps.length : Nat) : Int)) (r := false) rfl rfl rfl (decide_eq_false (p := ((((ps.length : Nat) : Int)) : Int) ≤ ((n) : Int)) (by omega)) ?_)
    refine L_op rfl (X_pick (t := false) (v := (.bool (false))) rfl rfl ?_)
    refine L_op rfl (X_assign (v := (.bool (false))) rfl ?_)
    refine L_nil ?_
    refine T_n ?_
    refine W_cf rfl ?_
    refine W_seq ?_
    refine W_reg ?_
    refine L_op rfl (X_fldP (b := b1) (o := 0) (r := 3) Fd26_3 rfl rfl ?_)
    rcases Bool.eq_false_or_eq_true off with ho6 | ho6
    ·refine L_op rfl (X_load (p := (ptr b1 (3))) (v := .bool true) T4 rfl (hB1.at1 (by rw [ho6]; rfl)) ?_)
     refine L_op rfl (X_assign (v := (.bool (true))) rfl ?_)
     refine L_nil ?_
     refine T_n ?_
     refine W_ct rfl ?_
     refine W_seq ?_
     refine W_reg ?_
     refine L_op rfl (X_assign (v := (.int .i64 (30))) rfl ?_)
     refine L_nil ?_
     refine T_n ?_
     refine W_ret ?_
     refine B_r ?_
     refine T_r ?_
     exact BQ_r (End_1 Try.results43 (v := .int .i64 30) rfl ⟨by rw [askE_off (hg_.1 hc3) (by omega) (by omega) ho6], hU.own hn0⟩)
    ·refine L_op rfl (X_load (p := (ptr b1 (3))) (v := .bool false) T4 rfl (hB1.at1 (by rw [ho6]; rfl)) ?_)
     refine L_op rfl (X_assign (v := (.bool (false))) rfl ?_)
     refine L_nil ?_
     refine T_n ?_
     refine W_cf rfl ?_
     refine W_skip ?_
     refine B_n ?_
     refine T_n ?_
     refine W_seq ?_
     refine W_reg ?_
     refine L_op rfl (X_assign (v := (.int .i64 (0))) rfl ?_)
     refine L_nil ?_
     refine T_n ?_
     refine W_ret ?_
     exact BQ_r (End_1 Try.results43 (v := .int .i64 0) rfl ⟨by rw [askE_ok (hg_.1 hc3) (by omega) (by omega) ho6], hU.own hn0⟩)
 ·rw [hc3]
  refine L_op rfl (X_not (b := false) (r := true) rfl rfl ?_)
  refine L_op rfl (X_move (v := (.bool (true))) rfl ?_)
  refine L_gn (dj := 9) (t := true) rfl rfl rfl rfl ?_
  refine L_gn (dj := 9) (t := true) rfl rfl rfl rfl ?_
  refine L_op rfl (X_pick (t := true) (v := (.bool (true))) rfl rfl ?_)
  refine L_op rfl (X_move (v := (.bool (true))) rfl ?_)
  refine L_gn (dj := 13) (t := true) rfl rfl rfl rfl ?_
  refine L_gn (dj := 13) (t := true) rfl rfl rfl rfl ?_
  refine L_gn (dj := 13) (t := true) rfl rfl rfl rfl ?_
  refine L_gn (dj := 13) (t := true) rfl rfl rfl rfl ?_
  refine L_gn (dj := 13) (t := true) rfl rfl rfl rfl ?_
  refine L_op rfl (X_pick (t := true) (v := (.bool (true))) rfl rfl ?_)
  refine L_op rfl (X_assign (v := (.bool (true))) rfl ?_)
  refine L_nil ?_
  refine T_n ?_
  refine W_ct rfl ?_
  refine W_seq ?_
  refine W_reg ?_
  refine L_op rfl (X_assign (v := (.int .i64 (2))) rfl ?_)
  refine L_nil ?_
  refine T_n ?_
  refine W_ret ?_
  refine B_r ?_
  refine T_r ?_
  exact BQ_r (End_1 Try.results43 (v := .int .i64 2) rfl ⟨by rw [askE_bad (fun h => by have h1 := hg_.2 h.1; rw [hc3] at h1; cases h1)], hU.own hn0⟩)

theorem c_copied22 (v : Value) (es : List Pg) (w : World) (lo up : Nat) (hl : NRd LP w lo up v es) (hlen : es.length ≤ 1048576) : CT Try.prog 55 #[v] w fun v w' => NOwn LP w' 37 5 w.heap.size w'.heap.size v es ∧ Ext w w' := by
 obtain ⟨n0, hn0⟩ : ∃ n, n = w.heap.size := ⟨_, rfl⟩
 have hU : Upd (fun i => n0 ≤ i) w w := Upd.refl _ _
 refine CT_of Try.func55 rfl rfl rfl ?_
 refine W_seq ?_
 refine W_reg ?_
 refine L_op rfl (X_assign (v := (.slice none 0 0)) rfl ?_)
 refine L_nil ?_
 refine T_n ?_
 refine W_seq ?_
 refine W_reg ?_
 refine L_op rfl (X_buildSliceL (vs := []) (c := []) S22 (by decide) rfl rfl (fun _ h => by cases h) rfl ?_)
 intro b1 w1 hn1
 have hbn1 := hn1.num; have hbs1 := hn1.size
 replace hl := hl.ext hn1.ext
 replace hU := hU.trans (Ext.upd hn1.ext)
 have hB1 := hn1.blk
 refine L_op rfl (X_move (v := v) rfl ?_)
 refine L_op rfl (X_append (B := n0) (n := 0) (s := (.slice (some ⟨b1, 0, none⟩) 0 0)) (x := v) S22 ⟨_, Try.underlying22⟩ rfl rfl (Own.zero _ _ _ _ _) hl.1 hl.sub_one (by unfold maxLen; omega) (by omega) (by omega) ?_)
 intro v5 w5 hO hu5 _
 replace hO := hO.eq (Nat.zero_add _) (List.nil_append _)
 replace hl := hl.ext hu5.nobk
 replace hU := hU.trans (Ext.upd hu5.nobk)
 replace hB1 := hB1.ext hu5.nobk
 refine L_op rfl (X_assign (v := v5) rfl ?_)
 refine L_nil ?_
 refine T_n ?_
 refine W_ret ?_
 exact BQ_r (End_1 Try.results55 (v := v5) rfl ⟨NOwn.of (fun _ => rfl) (hO.more (by omega)) (fun b hb => (hO.lt hb).2), hU.own hn0⟩)

theorem c_copied23 (v : Value) (es : List Wr) (w : World) (lo up : Nat) (hl : NRd LW w lo up v es) (hlen : es.length ≤ 1048576) : CT Try.prog 56 #[v] w fun v w' => NOwn LW w' 63 5 w.heap.size w'.heap.size v es ∧ Ext w w' := by
 obtain ⟨n0, hn0⟩ : ∃ n, n = w.heap.size := ⟨_, rfl⟩
 have hU : Upd (fun i => n0 ≤ i) w w := Upd.refl _ _
 refine CT_of Try.func56 rfl rfl rfl ?_
 refine W_seq ?_
 refine W_reg ?_
 refine L_op rfl (X_assign (v := (.slice none 0 0)) rfl ?_)
 refine L_nil ?_
 refine T_n ?_
 refine W_seq ?_
 refine W_reg ?_
 refine L_op rfl (X_buildSliceL (vs := []) (c := []) S23 (by decide) rfl rfl (fun _ h => by cases h) rfl ?_)
 intro b1 w1 hn1
 have hbn1 := hn1.num; have hbs1 := hn1.size
 replace hl := hl.ext hn1.ext
 replace hU := hU.trans (Ext.upd hn1.ext)
 have hB1 := hn1.blk
 refine L_op rfl (X_move (v := v) rfl ?_)
 refine L_op rfl (X_append (B := n0) (n := 0) (s := (.slice (some ⟨b1, 0, none⟩) 0 0)) (x := v) S23 ⟨_, Try.underlying23⟩ rfl rfl (Own.zero _ _ _ _ _) hl.1 hl.sub_one (by unfold maxLen; omega) (by omega) (by omega) ?_)
 intro v5 w5 hO hu5 _
 replace hO := hO.eq (Nat.zero_add _) (List.nil_append _)
 replace hl := hl.ext hu5.nobk
 replace hU := hU.trans (Ext.upd hu5.nobk)
 replace hB1 := hB1.ext hu5.nobk
 refine L_op rfl (X_assign (v := v5) rfl ?_)
 refine L_nil ?_
 refine T_n ?_
 refine W_ret ?_
 exact BQ_r (End_1 Try.results56 (v := v5) rfl ⟨NOwn.of (fun _ => rfl) (hO.more (by omega)) (fun b hb => (hO.lt hb).2), hU.own hn0⟩)

theorem c_copied24 (v : Value) (es : List Int) (w : World) (lo up : Nat) (hl : NRd LI w lo up v es) (hlen : es.length ≤ 1048576) : CT Try.prog 57 #[v] w fun v w' => NOwn LI w' 3 5 w.heap.size w'.heap.size v es ∧ Ext w w' := by
 obtain ⟨n0, hn0⟩ : ∃ n, n = w.heap.size := ⟨_, rfl⟩
 have hU : Upd (fun i => n0 ≤ i) w w := Upd.refl _ _
 refine CT_of Try.func57 rfl rfl rfl ?_
 refine W_seq ?_
 refine W_reg ?_
 refine L_op rfl (X_assign (v := (.slice none 0 0)) rfl ?_)
 refine L_nil ?_
 refine T_n ?_
 refine W_seq ?_
 refine W_reg ?_
 refine L_op rfl (X_buildSlice1 (vs := []) S24 (by decide) rfl rfl (fun _ h => by cases h) ?_)
 intro b1 w1 hn1
 have hbn1 := hn1.num; have hbs1 := hn1.size
 replace hl := hl.ext hn1.ext
 replace hU := hU.trans (Ext.upd hn1.ext)
 have hB1 := hn1.blk
 refine L_op rfl (X_move (v := v) rfl ?_)
 refine L_op rfl (X_append (B := n0) (n := 0) (s := (.slice (some ⟨b1, 0, none⟩) 0 0)) (x := v) S24 ⟨_, Try.underlying24⟩ rfl rfl (Own.zero _ _ _ _ _) hl.1 hl.sub_one (by unfold maxLen; omega) (by omega) (by omega) ?_)
 intro v5 w5 hO hu5 _
 replace hO := hO.eq (Nat.zero_add _) (List.nil_append _)
 replace hl := hl.ext hu5.nobk
 replace hU := hU.trans (Ext.upd hu5.nobk)
 replace hB1 := hB1.ext hu5.nobk
 refine L_op rfl (X_assign (v := v5) rfl ?_)
 refine L_nil ?_
 refine T_n ?_
 refine W_ret ?_
 exact BQ_r (End_1 Try.results57 (v := v5) rfl ⟨NOwn.of (fun _ => rfl) (hO.more (by omega)) (fun b hb => (hO.lt hb).2), hU.own hn0⟩)

theorem c_copy (pv cv bv : Value) (ps : List Pg) (cs : List Wr) (bs : List Int) (off : Bool) (w : World) (lo up : Nat) (hup : up ≤ w.heap.size) (hp : NRd LP w lo up pv ps) (hc : NRd LW w lo up cv cs) (hb : NRd LI w lo up bv bs) (hpL : ps.length ≤ 1048576) (hcL : cs.length ≤ 1048576) (hbL : bs.length ≤ 1048576) : CT Try.prog 44 #[(.agg #[pv, cv, bv, (.bool (off))])] w fun v w' => ∃ p2 c2 b2, v = .agg #[p2, c2, b2, .bool off] ∧ NOwn LP w' 37 5 w.heap.size w'.heap.size p2 ps ∧ NOwn LW w' 63 5 w.heap.size w'.heap.size c2 cs ∧ NOwn LI w' 3 5 w.heap.size w'.heap.size b2 bs ∧ Ext w w' := by
 obtain ⟨n0, hn0⟩ : ∃ n, n = w.heap.size := ⟨_, rfl⟩
 have hU : Upd (fun i => n0 ≤ i) w w := Upd.refl _ _
 have hpl := hp.sv.len
 have hcl := hc.sv.len
 have hbl := hb.sv.len
 rw [← hn0] at hup
 refine CT_of Try.func44 rfl rfl rfl ?_
 refine W_seq ?_
 refine W_reg ?_
 refine L_op rfl (X_box (v := (.agg #[pv, cv, bv, (.bool (off))])) (c := ([pv, cv, bv, (.bool (off))]).toArray) rfl rfl ?_)
 intro b1 w1 hn1
 have hbn1 := hn1.num; have hbs1 := hn1.size
 replace hp := hp.ext hn1.ext
 replace hc := hc.ext hn1.ext
 replace hb := hb.ext hn1.ext
 replace hU := hU.trans (Ext.upd hn1.ext)
 have hB1 := hn1.blk
 refine L_op rfl (X_alloc (z := (.agg #[(.slice none 0 0), (.slice none 0 0), (.slice none 0 0), (.bool (false))])) (c := #[(.slice none 0 0), (.slice none 0 0), (.slice none 0 0), (.bool (false))]) Zv26 rfl ?_)
 intro b2 w2 hn2
 have hbn2 := hn2.num; have hbs2 := hn2.size
 replace hp := hp.ext hn2.ext
 replace hc := hc.ext hn2.ext
 replace hb := hb.ext hn2.ext
 replace hU := hU.trans (Ext.upd hn2.ext)
 replace hB1 := hB1.ext hn2.ext
 have hB2 := hn2.blk
 refine L_nil ?_
 refine T_n ?_
 refine W_seq ?_
 obtain ⟨s0, hs0⟩ : ∃ n, n = w2.heap.size := ⟨_, rfl⟩
 refine W_draw 10 [[], [0], [0, 1], [], [3], [0, 1, 2, 3, 4], [], [6], [0, 1, 2, 3, 4, 5, 6, 7], [0, 1, 2, 3, 4, 6, 7], [0, 1, 2, 3, 4, 5, 6, 7, 8, 9], [0, 1, 2, 3, 4, 5, 6, 7, 8, 9, 10], [0, 1, 2, 3, 4, 5, 6, 7, 8, 9, 10, 11], [0, 1, 2, 3, 4, 5, 6, 7, 8, 9, 10, 11, 12], [0, 1, 2, 3, 4, 5, 6, 7, 8, 9, 10, 11, 12, 13]] mixed (by kernel_rfl) ?_
 refine ⟨.det (fun val => (ptr b1 (0))), ⟨fun _ _ hv => rfl, fun _ _ _ _ _ => trivial⟩, fun val h_ W hx he => ⟨trivial, ?_⟩, ?_⟩
 ·exact X_fldP (b := b1) (o := 0) (r := 0) Fd26_0 rfl rfl ⟨Upd.refl _ _, rfl⟩
 refine ⟨.det (fun val => pv), ⟨fun _ _ hv => rfl, fun _ _ _ _ _ => trivial⟩, fun val h_ W hx he => ⟨trivial, ?_⟩, ?_⟩
 ·replace hx := (Upd.drew _ _).trans hx
  replace hB1 := hB1.ext hx
  refine id (X_load (p := (ptr b1 (0))) (v := pv) T22 rfl (hB1.at1 rfl) ?_)
  exact ⟨Upd.refl _ _, rfl⟩
 refine ⟨.abs (fun _ x_ W_ => ∃ u, u ≤ W_.heap.size ∧ NOwn LP W_ 37 5 s0 u x_ ps), ⟨fun _ _ _ => rfl, fun _ _ _ _ hu h => (by obtain ⟨u, h1, h2⟩ := h; exact ⟨u, Nat.le_trans h1 hu.size, h2.ext hu⟩)⟩, fun val h_ W hx he => ⟨trivial, ?_⟩, ?_⟩
 ·replace hx := (Upd.drew _ _).trans hx
  replace hp := hp.ext hx
  have hxs := hx.size
  refine X_fn (vs := [pv]) en55 rfl (CT.mono (c_copied22 pv ps _ lo up hp hpL) ?_)
  rintro v9 w9 ⟨hN9, hu9⟩
  exact ⟨hu9, _, Nat.le_refl _, hN9.mono (by omega) (Nat.le_refl _)⟩
 refine ⟨.det (fun val => (ptr b1 (1))), ⟨fun _ _ hv => rfl, fun _ _ _ _ _ => trivial⟩, fun val h_ W hx he => ⟨trivial, ?_⟩, ?_⟩
 ·exact X_fldP (b := b1) (o := 0) (r := 1) Fd26_1 rfl rfl ⟨Upd.refl _ _, rfl⟩
 refine ⟨.det (fun val => cv), ⟨fun _ _ hv => rfl, fun _ _ _ _ _ => trivial⟩, fun val h_ W hx he => ⟨trivial, ?_⟩, ?_⟩
 ·replace hx := (Upd.drew _ _).trans hx
  replace hB1 := hB1.ext hx
  refine id (X_load (p := (ptr b1 (1))) (v := cv) T23 rfl (hB1.at1 rfl) ?_)
  exact ⟨Upd.refl _ _, rfl⟩
 refine ⟨.abs (fun _ x_ W_ => ∃ u, u ≤ W_.heap.size ∧ NOwn LW W_ 63 5 s0 u x_ cs), ⟨fun _ _ _ => rfl, fun _ _ _ _ hu h => (by obtain ⟨u, h1, h2⟩ := h; exact ⟨u, Nat.le_trans h1 hu.size, h2.ext hu⟩)⟩, fun val h_ W hx he => ⟨trivial, ?_⟩, ?_⟩
 ·replace hx := (Upd.drew _ _).trans hx
  replace hc := hc.ext hx
  have hxs := hx.size
  refine X_fn (vs := [cv]) en56 rfl (CT.mono (c_copied23 cv cs _ lo up hc hcL) ?_)
  rintro v9 w9 ⟨hN9, hu9⟩
  exact ⟨hu9, _, Nat.le_refl _, hN9.mono (by omega) (Nat.le_refl _)⟩
 refine ⟨.det (fun val => (ptr b1 (2))), ⟨fun _ _ hv => rfl, fun _ _ _ _ _ => trivial⟩, fun val h_ W hx he => ⟨trivial, ?_⟩, ?_⟩
 ·exact X_fldP (b := b1) (o := 0) (r := 2) Fd26_2 rfl rfl ⟨Upd.refl _ _, rfl⟩
 refine ⟨.det (fun val => bv), ⟨fun _ _ hv => rfl, fun _ _ _ _ _ => trivial⟩, fun val h_ W hx he => ⟨trivial, ?_⟩, ?_⟩
 ·replace hx := (Upd.drew _ _).trans hx
  replace hB1 := hB1.ext hx
  refine id (X_load (p := (ptr b1 (2))) (v := bv) T24 rfl (hB1.at1 rfl) ?_)
  exact ⟨Upd.refl _ _, rfl⟩
 refine ⟨.abs (fun _ x_ W_ => ∃ u, u ≤ W_.heap.size ∧ NOwn LI W_ 3 5 s0 u x_ bs), ⟨fun _ _ _ => rfl, fun _ _ _ _ hu h => (by obtain ⟨u, h1, h2⟩ := h; exact ⟨u, Nat.le_trans h1 hu.size, h2.ext hu⟩)⟩, fun val h_ W hx he => ⟨trivial, ?_⟩, ?_⟩
 ·replace hx := (Upd.drew _ _).trans hx
  replace hb := hb.ext hx
  have hxs := hx.size
  refine X_fn (vs := [bv]) en57 rfl (CT.mono (c_copied24 bv bs _ lo up hb hbL) ?_)
  rintro v9 w9 ⟨hN9, hu9⟩
  exact ⟨hu9, _, Nat.le_refl _, hN9.mono (by omega) (Nat.le_refl _)⟩
 refine ⟨.det (fun val => (ptr b1 (0))), ⟨fun _ _ hv => rfl, fun _ _ _ _ _ => trivial⟩, fun val h_ W hx he => ⟨trivial, ?_⟩, ?_⟩
 ·obtain ⟨⟨u2, hu2, hN2⟩, he⟩ := he
  refine id (X_fldP (b := b1) (o := 0) (r := 0) Fd26_0 rfl rfl ?_)
  exact ⟨Upd.refl _ _, rfl⟩
 intro val W3 hx3 he3
 replace hx3 := (Upd.drew _ _).trans hx3
 have hz3 := hx3.size
 replace hp := hp.ext hx3
 replace hc := hc.ext hx3
 replace hb := hb.ext hx3
 replace hU := hU.trans (Ext.upd hx3)
 replace hB1 := hB1.ext hx3
 replace hB2 := hB2.ext hx3
 obtain ⟨⟨u8, hu8, hN8⟩, he3⟩ := he3
 obtain ⟨⟨u5, hu5, hN5⟩, he3⟩ := he3
 obtain ⟨⟨u2, hu2, hN2⟩, he3⟩ := he3
 refine L_op0 (X_store (b := b1) (o := 0) T22 rfl rfl (hN2.1.sv.one) hB1 (by show (0 : Nat) < 4; decide) ?_)
 intro w4 hu4 hb4
 have hz4 := hu4.size
 replace hp := hp.upd hu4 fun i h1 h2 h => by have h : i = b1 := h; omega
 replace hc := hc.upd hu4 fun i h1 h2 h => by have h : i = b1 := h; omega
 replace hb := hb.upd hu4 fun i h1 h2 h => by have h : i = b1 := h; omega
 replace hU := hU.trans (hu4.mono fun i _ h => by have h : i = b1 := h; show n0 ≤ i; omega)
 replace hB2 := hB2.upd hu4 fun h => by have h : b2 = b1 := h; omega
 replace hN2 := hN2.upd hu4 fun i h1 h2 h => by have h : i = b1 := h; omega
 replace hN5 := hN5.upd hu4 fun i h1 h2 h => by have h : i = b1 := h; omega
 replace hN8 := hN8.upd hu4 fun i h1 h2 h => by have h : i = b1 := h; omega
 replace hB1 : Blk w4 b1 #[(val 2), cv, bv, (.bool (off))] 26 := hb4
 refine L_op rfl (X_fldP (b := b1) (o := 0) (r := 1) Fd26_1 rfl rfl ?_)
 refine L_op0 (X_store (b := b1) (o := 1) T23 rfl rfl (hN5.1.sv.one) hB1 (by show (1 : Nat) < 4; decide) ?_)
 intro w5 hu5 hb5
 have hz5 := hu5.size
 replace hp := hp.upd hu5 fun i h1 h2 h => by have h : i = b1 := h; omega
 replace hc := hc.upd hu5 fun i h1 h2 h => by have h : i = b1 := h; omega
 replace hb := hb.upd hu5 fun i h1 h2 h => by have h : i = b1 := h; omega
 replace hU := hU.trans (hu5.mono fun i _ h => by have h : i = b1 := h; show n0 ≤ i; omega)
 replace hB2 := hB2.upd hu5 fun h => by have h : b2 = b1 := h; omega
 replace hN2 := hN2.upd hu5 fun i h1 h2 h => by have h : i = b1 := h; omega
 replace hN5 := hN5.upd hu5 fun i h1 h2 h => by have h : i = b1 := h; omega
 replace hN8 := hN8.upd hu5 fun i h1 h2 h => by have h : i = b1 := h; omega
 replace hB1 : Blk w5 b1 #[(val 2), (val 5), bv, (.bool (off))] 26 := hb5
 refine L_op rfl (X_fldP (b := b1) (o := 0) (r := 2) Fd26_2 rfl rfl ?_)
 refine L_op0 (X_store (b := b1) (o := 2) T24 rfl rfl (hN8.1.sv.one) hB1 (by show (2 : Nat) < 4; decide) ?_)
 intro w6 hu6 hb6
 have hz6 := hu6.size
 replace hp := hp.upd hu6 fun i h1 h2 h => by have h : i = b1 := h; omega
 replace hc := hc.upd hu6 fun i h1 h2 h => by have h : i = b1 := h; omega
 replace hb := hb.upd hu6 fun i h1 h2 h => by have h : i = b1 := h; omega
 replace hU := hU.trans (hu6.mono fun i _ h => by have h : i = b1 := h; show n0 ≤ i; omega)
 replace hB2 := hB2.upd hu6 fun h => by have h : b2 = b1 := h; omega
 replace hN2 := hN2.upd hu6 fun i h1 h2 h => by have h : i = b1 := h; omega
 replace hN5 := hN5.upd hu6 fun i h1 h2 h => by have h : i = b1 := h; omega
 replace hN8 := hN8.upd hu6 fun i h1 h2 h => by have h : i = b1 := h; omega
 replace hB1 : Blk w6 b1 #[(val 2), (val 5), (val 8), (.bool (off))] 26 := hb6
 refine L_nil ?_
 refine T_n ?_
 refine W_seq ?_
 refine W_reg ?_
 refine L_op rfl (X_loadA (p := (ptr b1 (0))) (xs := [(val 2), (val 5), (val 8), (.bool (off))]) A26 rfl hB1.atAll rfl ?_)
 refine L_op0 (X_storeW (b := b2) (ys := [(val 2), (val 5), (val 8), (.bool (off))]) A26 rfl rfl (List.forall_mem_cons.2 ⟨(hN2.1.sv.one), (List.forall_mem_cons.2 ⟨(hN5.1.sv.one), (List.forall_mem_cons.2 ⟨(hN8.1.sv.one), (List.forall_mem_cons.2 ⟨rfl, (fun _ h => by cases h)⟩)⟩)⟩)⟩) rfl hB2 rfl ?_)
 intro w7 hu7 hb7
 have hz7 := hu7.size
 replace hp := hp.upd hu7 fun i h1 h2 h => by have h : i = b2 := h; omega
 replace hc := hc.upd hu7 fun i h1 h2 h => by have h : i = b2 := h; omega
 replace hb := hb.upd hu7 fun i h1 h2 h => by have h : i = b2 := h; omega
 replace hU := hU.trans (hu7.mono fun i _ h => by have h : i = b2 := h; show n0 ≤ i; omega)
 replace hN2 := hN2.upd hu7 fun i h1 h2 h => by have h : i = b2 := h; omega
 replace hN5 := hN5.upd hu7 fun i h1 h2 h => by have h : i = b2 := h; omega
 replace hN8 := hN8.upd hu7 fun i h1 h2 h => by have h : i = b2 := h; omega
 replace hB1 := hB1.upd hu7 fun h => by have h : b1 = b2 := h; omega
 replace hB2 : Blk w7 b2 #[(val 2), (val 5), (val 8), (.bool (off))] 26 := hb7
 refine L_nil ?_
 refine T_n ?_
 refine W_ret ?_
 have hU2 := hU.own hn0
 exact BQ_r (End_1 Try.results44 (RV_A A26 rfl hB2.atAll rfl) ⟨_, _, _, rfl, hN2.mono (by omega) (by omega), hN5.mono (by omega) (by omega), hN8.mono (by omega) (by omega), hU2⟩)

theorem zc37_eq : zc37 = (List.replicate 256 (0 : UInt8)).map byteV := by rw [List.map_replicate]; rfl
theorem built37z : Try.prog.built 37 [] = some zc37.toArray := by kernel_rfl
theorem built37 : Try.prog.built 37 [] = some ((List.replicate 256 (0 : UInt8)).map byteV).toArray := by rw [built37z, zc37_eq]
def pageV (p : Pg) : Value := .agg (p.1.map byteV).toArray
def wZ : Wr := (0, default)
def wrV (e : Wr) : Value := .agg (LW.cel e).toArray
def backW (cs : List Wr) : List (List Value) := (List.range cs.length).map fun k => [.int .i64 ((cs.length - 1 - k : Nat) : Int), wrV (cs.getD (cs.length - 1 - k) wZ)]
theorem backW_length (cs : List Wr) : (backW cs).length = cs.length := by unfold backW; rw [List.length_map, List.length_range]
theorem backW_at {cs : List Wr} {k : Nat} (hk : k < cs.length) : (backW cs)[k]? = some [.int .i64 ((cs.length - 1 - k : Nat) : Int), wrV (cs.getD (cs.length - 1 - k) wZ)] := by
 unfold backW
 rw [List.getElem?_map, List.getElem?_range hk]; rfl
theorem wgetD {cs : List Wr} {i : Nat} (hi : i < cs.length) : cs[i]? = some (cs.getD i wZ) := by rw [List.getD_eq_getElem?_getD, List.getElem?_eq_getElem hi]; rfl
/-- the pages written at a place, the last one first -/
def hitsW (cs : List Wr) (n : Int) : List Pg := (cs.reverse.filter fun e => decide (e.1 = n)).map (·.2)
def hitsX (cs : List Wr) (n : Int) : List (List Value) := (hitsW cs n).map fun p => [pageV p]
theorem hitsX_length (cs : List Wr) (n : Int) : (hitsX cs n).length = (hitsW cs n).length := List.length_map _
def cntW (cs : List Wr) (n : Int) (k : Nat) : Nat := ((cs.reverse.take k).filter fun e => decide (e.1 = n)).length
theorem rev_at {cs : List Wr} {k : Nat} {e : Wr} (hk : k < cs.length) (he : cs[cs.length - 1 - k]? = some e) : cs.reverse[k]? = some e := by rw [List.getElem?_reverse hk]; exact he
theorem cntW_hit {cs : List Wr} {n : Int} {k : Nat} {e : Wr} (hk : k < cs.length) (he : cs[cs.length - 1 - k]? = some e) (h : e.1 = n) : cntW cs n (k + 1) = cntW cs n k + 1 := by
 unfold cntW
 rw [List.take_add_one, rev_at hk he, List.filter_append, List.length_append]
 simp [h]
theorem cntW_miss {cs : List Wr} {n : Int} {k : Nat} {e : Wr} (hk : k < cs.length) (he : cs[cs.length - 1 - k]? = some e) (h : ¬ e.1 = n) : cntW cs n (k + 1) = cntW cs n k := by
 unfold cntW
 rw [List.take_add_one, rev_at hk he, List.filter_append, List.length_append]
 simp [h]
theorem hits_at {cs : List Wr} {n : Int} {k : Nat} {e : Wr} (hk : k < cs.length) (he : cs[cs.length - 1 - k]? = some e) (h : e.1 = n) : (hitsX cs n)[cntW cs n k]? = some [pageV e.2] := by
 have h1 := rev_at hk he
 have hlt := (List.getElem?_eq_some_iff.1 h1).1
 have e1 : cs.reverse = cs.reverse.take k ++ e :: cs.reverse.drop (k + 1) := by
  have h2 := (List.getElem?_eq_some_iff.1 h1).2
  rw [← h2, ← List.drop_eq_getElem_cons hlt, List.take_append_drop]
 unfold hitsX hitsW
 rw [e1, List.filter_append, List.map_append, List.map_append, List.getElem?_append_right (by rw [List.length_map, List.length_map]; exact Nat.le_refl _), List.length_map, List.length_map]
 have h3 : cntW cs n k - ((cs.reverse.take k).filter fun e => decide (e.1 = n)).length = 0 := Nat.sub_self _
 rw [h3]
 simp [h]
theorem cntW_all (cs : List Wr) (n : Int) : cntW cs n cs.length = (hitsW cs n).length := by
 unfold cntW hitsW
 rw [List.length_map, List.take_of_length_le (by rw [List.length_reverse]; exact Nat.le_refl _)]
theorem cntW_lt {cs : List Wr} {n : Int} {k : Nat} {e : Wr} (hk : k < cs.length) (he : cs[cs.length - 1 - k]? = some e) (h : e.1 = n) : cntW cs n k < (hitsX cs n).length := (List.getElem?_eq_some_iff.1 (hits_at hk he h)).1

theorem built63z (parts : List (Nat × Value)) : Try.prog.built 63 parts = Instr.fill (([(0, 1), (1, 256)] : List (Nat × Nat)).toArray[·]?) zc63.toArray parts := by kernel_rfl
theorem fill_fold : ∀ (vs : List Value) (k off : Nat) (cells : Array Value), off + k + vs.length ≤ cells.size →
  ((vs.zipIdx k).foldl (fun (cs : Array Value) (x : Value × Nat) => cs.setIfInBounds (off + x.2) x.1) cells).toList = cells.toList.take (off + k) ++ vs ++ cells.toList.drop (off + k + vs.length)
 | [], k, off, cells, _ => by simp
 | v :: vs, k, off, cells, h => by
  simp only [List.zipIdx_cons, List.foldl_cons]
  rw [fill_fold vs (k + 1) off (cells.setIfInBounds (off + k) v) (by simp at h ⊢; omega)]
  apply List.ext_getElem?
  intro j
  simp only [Array.toList_setIfInBounds, List.getElem?_append, List.getElem?_take, List.getElem?_drop, List.getElem?_set, List.length_append, List.length_take, List.length_set, Array.length_toList, List.length_cons]
  simp only [List.length_cons] at h
  have : cells.toList.length = cells.size := Array.length_toList
  grind
theorem built63 (n : Int) (p : Pg) : Try.prog.built 63 [(0, .int .i64 n), (1, pageV p)] = some (LW.cel (n, p)).toArray := by
 rw [built63z]
 have hz : zc63.toArray.size = 257 := zc63_size
 have hpl : (p.1.map byteV).length = 256 := by rw [List.length_map]; exact p.2
 have h1 : (Value.int IntKind.i64 n).cells = #[.int .i64 n] := rfl
 have h2 : (pageV p).cells = (p.1.map byteV).toArray := rfl
 simp only [Instr.fill, h1, h2]
 have hz2 : zc63.length = 257 := by simpa using hz
 simp [hz, hpl]
 refine ⟨by omega, ?_⟩
 apply Array.ext'
 rw [fill_fold _ 0 1 _ (by simp [hz2, p.2])]
 obtain ⟨a, r, hr⟩ : ∃ a r, zc63 = a :: r := by
  cases h : zc63 with
  | nil => rw [h] at hz2; cases hz2
  | cons a r => exact ⟨a, r, rfl⟩
 have hr2 : r.length = 256 := by rw [hr] at hz2; simpa using hz2
 rw [hr]
 simp [LW, p.2, hr2]


def readD (ps : List Pg) (cs : List Wr) (bs : List Int) (n : Int) : Pg × Int :=
 match hitsW cs n with
 | p :: _ => (p, 0)
 | [] => if n ∈ bs then (default, 31) else (ps.getD n.toNat default, 0)
open Classical in
noncomputable def readE (ps : List Pg) (cs : List Wr) (bs : List Int) (off : Bool) (n : Int) : Pg × Int := if askE ps.length cs bs off n = 0 then readD ps cs bs n else (default, askE ps.length cs bs off n)
theorem readE_bad {ps : List Pg} {cs : List Wr} {bs : List Int} {off : Bool} {n : Int} (h : askE ps.length cs bs off n ≠ 0) : readE ps cs bs off n = (default, askE ps.length cs bs off n) := if_neg h
theorem readE_ok {ps : List Pg} {cs : List Wr} {bs : List Int} {off : Bool} {n : Int} (h : askE ps.length cs bs off n = 0) : readE ps cs bs off n = readD ps cs bs n := if_pos h
theorem readD_hit {ps : List Pg} {cs : List Wr} {bs : List Int} {n : Int} {p : Pg} (h : (hitsW cs n)[0]? = some p) : readD ps cs bs n = (p, 0) := by
 unfold readD
 cases hh : hitsW cs n with
 | nil => rw [hh] at h; cases h
 | cons a r => rw [hh] at h; cases h; rfl
theorem readD_bad {ps : List Pg} {cs : List Wr} {bs : List Int} {n : Int} (h : hitsW cs n = []) (hb : n ∈ bs) : readD ps cs bs n = (default, 31) := by unfold readD; rw [h]; exact if_pos hb
theorem readD_page {ps : List Pg} {cs : List Wr} {bs : List Int} {n : Int} {p : Pg} (h : hitsW cs n = []) (hb : n ∉ bs) (hp : ps[n.toNat]? = some p) : readD ps cs bs n = (p, 0) := by
 unfold readD
 rw [h]
 refine (if_neg hb).trans ?_
 rw [List.getD_eq_getElem?_getD, hp]; rfl
theorem hitsX_at {cs : List Wr} {n : Int} {k : Nat} {x : List Value} (h : (hitsX cs n)[k]? = some x) : ∃ p : Pg, (hitsW cs n)[k]? = some p ∧ x = [pageV p] := by
 unfold hitsX at h
 rw [List.getElem?_map] at h
 cases hp : (hitsW cs n)[k]? with
 | none => rw [hp] at h; cases h
 | some p => rw [hp] at h; cases h; exact ⟨p, rfl, rfl⟩

open Classical in
noncomputable def wrE (np : Nat) (cs : List Wr) (bs : List Int) (off : Bool) (n : Int) : Int := if askE np cs bs off n = 0 ∧ 2000 ≤ cs.length then 32 else askE np cs bs off n
theorem wrE_full {np : Nat} {cs : List Wr} {bs : List Int} {off : Bool} {n : Int} (h : askE np cs bs off n = 0) (h2 : 2000 ≤ cs.length) : wrE np cs bs off n = 32 := if_pos ⟨h, h2⟩
theorem wrE_ask {np : Nat} {cs : List Wr} {bs : List Int} {off : Bool} {n : Int} (h : ¬ (askE np cs bs off n = 0 ∧ 2000 ≤ cs.length)) : wrE np cs bs off n = askE np cs bs off n := if_neg h
open Classical in
noncomputable def writeC (np : Nat) (cs : List Wr) (bs : List Int) (off : Bool) (n : Int) (p : Pg) : List Wr := if wrE np cs bs off n = 0 then cs ++ [(n, p)] else cs
theorem NOwn.upd' {ε : Type} {L : Lay ε} {w w' : World} {D : Nat → Prop} {er eb lo hi : Nat} {v : Value} {es : List ε} (hs : ∀ e, L.sub e = []) (h : NOwn L w er eb lo hi v es) (hu : Upd D w w') (hd : ∀ b, obk v = some b → ¬ D b) : NOwn L w' er eb lo hi v es :=
 NOwn.of hs (h.1.upd hu hd) h.2.1

theorem c_write (pv cv bv : Value) (ps : List Pg) (cs : List Wr) (bs : List Int) (off : Bool) (n : Int) (p : Pg) (w : World) (lo up : Nat) (hup : up ≤ w.heap.size) (hp : NRd LP w lo up pv ps) (hc : NRd LW w lo up cv cs) (hb : NRd LI w lo up bv bs) (hpL : ps.length ≤ 1048576) (hcL : cs.length ≤ 1048576) (hbL : bs.length ≤ 1048576) : CT Try.prog 34 #[(.agg #[pv, cv, bv, (.bool (off))]), (.int .i64 (n)), (pageV p)] w fun v w' => ∃ p2 c2 i2, v = .tuple #[.agg #[p2, c2, i2, .bool off], .int .i64 (wrE ps.length cs bs off n)] ∧ NOwn LP w' 37 5 w.heap.size w'.heap.size p2 ps ∧ NOwn LW w' 63 5 w.heap.size w'.heap.size c2 (writeC ps.length cs bs off n p) ∧ NOwn LI w' 3 5 w.heap.size w'.heap.size i2 bs ∧ Ext w w' := by
 obtain ⟨n0, hn0⟩ : ∃ n, n = w.heap.size := ⟨_, rfl⟩
 have hU : Upd (fun i => n0 ≤ i) w w := Upd.refl _ _
 have hpl := hp.sv.len
 have hcl := hc.sv.len
 have hbl := hb.sv.len
 rw [← hn0] at hup
 refine CT_of Try.func34 rfl rfl rfl ?_
 refine W_seq ?_
 refine W_reg ?_
 refine L_op rfl (X_box (v := (.agg #[pv, cv, bv, (.bool (off))])) (c := ([pv, cv, bv, (.bool (off))]).toArray) rfl rfl ?_)
 intro b1 w1 hn1
 have hbn1 := hn1.num; have hbs1 := hn1.size
 replace hp := hp.ext hn1.ext
 replace hc := hc.ext hn1.ext
 replace hb := hb.ext hn1.ext
 replace hU := hU.trans (Ext.upd hn1.ext)
 have hB1 := hn1.blk
 refine L_op rfl (X_box (v := (pageV p)) (c := ((p.1).map byteV).toArray) rfl rfl ?_)
 intro b2 w2 hn2
 have hbn2 := hn2.num; have hbs2 := hn2.size
 replace hp := hp.ext hn2.ext
 replace hc := hc.ext hn2.ext
 replace hb := hb.ext hn2.ext
 replace hU := hU.trans (Ext.upd hn2.ext)
 replace hB1 := hB1.ext hn2.ext
 have hB2 := hn2.blk
 refine L_op rfl (X_alloc (z := (.agg #[(.slice none 0 0), (.slice none 0 0), (.slice none 0 0), (.bool (false))])) (c := #[(.slice none 0 0), (.slice none 0 0), (.slice none 0 0), (.bool (false))]) Zv26 rfl ?_)
 intro b3 w3 hn3
 have hbn3 := hn3.num; have hbs3 := hn3.size
 replace hp := hp.ext hn3.ext
 replace hc := hc.ext hn3.ext
 replace hb := hb.ext hn3.ext
 replace hU := hU.trans (Ext.upd hn3.ext)
 replace hB1 := hB1.ext hn3.ext
 replace hB2 := hB2.ext hn3.ext
 have hB3 := hn3.blk
 refine L_op rfl (X_assign (v := (.int .i64 (0))) rfl ?_)
 refine L_nil ?_
 refine T_n ?_
 refine W_seq ?_
 refine W_reg ?_
 refine L_op rfl (X_loadA (p := (ptr b1 (0))) (xs := [pv, cv, bv, (.bool (off))]) A26 rfl hB1.atAll rfl ?_)
 refine L_op rfl (X_move (v := (.int .i64 (n))) rfl ?_)
 refine L_op rfl (X_fn (vs := [(.agg ([pv, cv, bv, (.bool (off))]).toArray), (.int .i64 (n))]) en43 rfl (CT.mono (c_asked pv cv bv ps cs bs off n _ lo up (by omega) hp hc hb) ?_))
 rintro _ w4 ⟨rfl, hu4⟩
 have hz4 := hu4.size
 replace hp := hp.ext hu4
 replace hc := hc.ext hu4
 replace hb := hb.ext hu4
 replace hU := hU.trans (Ext.upd hu4)
 replace hB1 := hB1.ext hu4
 replace hB2 := hB2.ext hu4
 replace hB3 := hB3.ext hu4
 refine L_op rfl (X_assign (v := (.int .i64 ((askE ps.length cs bs off n)))) rfl ?_)
 refine L_nil ?_
 refine T_n ?_
 refine W_cut (α := Int) [8, 12, 13, 14, 15, 16, 17, 18, 19] (fun e1 => [(8, (.int .i64 (e1)))]) (fun e1 w_ => e1 = wrE ps.length cs bs off n ∧ w4 = w_) ?_ ?_
 ·refine W_seq ?_
  refine W_reg ?_
  refine L_op rfl (X_move (v := (.int .i64 ((askE ps.length cs bs off n)))) rfl ?_)
  by_cases hc6 : ((askE ps.length cs bs off n) : Int) = (0)
  ·refine L_op rfl (X_cmp (k := .i64) (a := (askE ps.length cs bs off n)) (b := 0) (r := true) rfl rfl rfl (decide_eq_true (p := (((askE ps.length cs bs off n)) : Int) = ((0) : Int)) (by omega)) ?_)
   refine L_op rfl (X_move (v := (.bool (true))) rfl ?_)
   refine L_gy (dj := 14) rfl rfl rfl (X_fldP (b := b1) (o := 0) (r := 1) Fd26_1 rfl rfl ?_)
   refine L_gy (dj := 14) rfl rfl rfl (X_load (p := (ptr b1 (1))) (v := cv) T23 rfl (hB1.at1 rfl) ?_)
   refine L_gy (dj := 14) rfl rfl rfl (X_len (v := cv) (n := cs.length) Try.underlying23 rfl hc.sv ?_)
   by_cases hc7 : (((cs.length : Nat) : Int) : Int) ≥ (2000)
   ·refine L_gy (dj := 14) rfl rfl rfl (X_cmp (k := .i64) (a := ((cs.length : Nat) : Int)) (b := 2000) (r := true) rfl rfl rfl (decide_eq_true (p := ((2000) : Int) ≤ ((((cs.length : Nat) : Int)) : Int)) (by omega)) ?_)
    refine L_op rfl (X_pick (t := true) (v := (.bool (true))) rfl rfl ?_)
    refine L_nil ?_
    refine T_n ?_
    refine W_ct rfl ?_
    refine W_reg ?_
    refine L_op rfl (X_assign (v := (.int .i64 (32))) rfl ?_)
    refine L_nil ?_
    refine T_n ?_
    exact ⟨rfl, 32, ⟨(wrE_full (by omega) (by omega)).symm, rfl⟩, (Out.suf rfl rfl), ⟨rfl, trivial⟩⟩
   ·refine L_gy (dj := 14) rfl rfl rfl (X_cmp (k := .i64) (a := ((cs.length : Nat) : Int)) (b := 2000) (r := false) rfl rfl rfl (decide_eq_false (p := ((2000) : Int) ≤ ((((cs.length : Nat) : Int)) : Int)) (by omega)) ?_)
    refine L_op rfl (X_pick (t := true) (v := (.bool (false))) rfl rfl ?_)
    refine L_nil ?_
    refine T_n ?_
    refine W_cf rfl ?_
    refine W_skip ?_
    refine T_n ?_
    exact ⟨rfl, (askE ps.length cs bs off n), ⟨(wrE_ask (by omega)).symm, rfl⟩, (Out.suf rfl rfl), ⟨rfl, trivial⟩⟩
  ·refine L_op rfl (X_cmp (k := .i64) (a := (askE ps.length cs bs off n)) (b := 0) (r := false) rfl rfl rfl (decide_eq_false (p := (((askE ps.length cs bs off n)) : Int) = ((0) : Int)) (by omega)) ?_)
   refine L_op rfl (X_move (v := (.bool (false))) rfl ?_)
   refine L_gn (dj := 14) (t := false) rfl rfl rfl rfl ?_
   refine L_gn (dj := 14) (t := false) rfl rfl rfl rfl ?_
   refine L_gn (dj := 14) (t := false) rfl rfl rfl rfl ?_
   refine L_gn (dj := 14) (t := false) rfl rfl rfl rfl ?_
   refine L_op rfl (X_pick (t := false) (v := (.bool (false))) rfl rfl ?_)
   refine L_nil ?_
   refine T_n ?_
   refine W_cf rfl ?_
   refine W_skip ?_
   refine T_n ?_
   exact ⟨rfl, (askE ps.length cs bs off n), ⟨(wrE_ask (by omega)).symm, rfl⟩, (Out.suf rfl rfl), ⟨rfl, trivial⟩⟩
 ·rintro e1 _ _ ⟨he1, rfl⟩
  refine W_seq ?_
  refine W_reg ?_
  refine L_op rfl (X_loadA (p := (ptr b1 (0))) (xs := [pv, cv, bv, (.bool (off))]) A26 rfl hB1.atAll rfl ?_)
  obtain ⟨s0, hs0⟩ : ∃ n, n = w4.heap.size := ⟨_, rfl⟩
  refine L_op rfl (X_fn (vs := [(.agg ([pv, cv, bv, (.bool (off))]).toArray)]) en44 rfl (CT.mono (c_copy pv cv bv ps cs bs off _ lo up (by omega) hp hc hb hpL hcL hbL) ?_))
  rintro _ w8 ⟨p_2, c_2, i_2, rfl, hP2, hC2, hI2, hu8⟩
  have hz8 := hu8.size
  rw [← hs0] at hP2 hC2 hI2
  obtain ⟨us0, hus0_⟩ : ∃ n, n = w8.heap.size := ⟨_, rfl⟩
  rw [← hus0_] at hP2 hC2 hI2
  replace hp := hp.ext hu8
  replace hc := hc.ext hu8
  replace hb := hb.ext hu8
  replace hU := hU.trans (Ext.upd hu8)
  replace hB1 := hB1.ext hu8
  replace hB2 := hB2.ext hu8
  replace hB3 := hB3.ext hu8
  refine L_op0 (X_storeW (b := b1) (ys := [p_2, c_2, i_2, (.bool (off))]) A26 rfl rfl (List.forall_mem_cons.2 ⟨(hP2.1.sv.one), (List.forall_mem_cons.2 ⟨(hC2.1.sv.one), (List.forall_mem_cons.2 ⟨(hI2.1.sv.one), (List.forall_mem_cons.2 ⟨rfl, (fun _ h => by cases h)⟩)⟩)⟩)⟩) rfl hB1 rfl ?_)
  intro w9 hu9 hb9
  have hz9 := hu9.size
  replace hp := hp.upd hu9 fun i h1 h2 h => by have h : i = b1 := h; omega
  replace hc := hc.upd hu9 fun i h1 h2 h => by have h : i = b1 := h; omega
  replace hb := hb.upd hu9 fun i h1 h2 h => by have h : i = b1 := h; omega
  replace hU := hU.trans (hu9.mono fun i _ h => by have h : i = b1 := h; show n0 ≤ i; omega)
  replace hB2 := hB2.upd hu9 fun h => by have h : b2 = b1 := h; omega
  replace hB3 := hB3.upd hu9 fun h => by have h : b3 = b1 := h; omega
  replace hP2 := hP2.upd hu9 fun i h1 h2 h => by have h : i = b1 := h; omega
  replace hC2 := hC2.upd hu9 fun i h1 h2 h => by have h : i = b1 := h; omega
  replace hI2 := hI2.upd hu9 fun i h1 h2 h => by have h : i = b1 := h; omega
  replace hB1 : Blk w9 b1 #[p_2, c_2, i_2, (.bool (off))] 26 := hb9
  refine L_nil ?_
  refine T_n ?_
  refine W_seq ?_
  refine W_seq ?_
  refine W_reg ?_
  refine L_op rfl (X_move (v := (.int .i64 (e1))) rfl ?_)
  by_cases hc10 : (e1 : Int) = (0)
  ·refine L_op rfl (X_cmp (k := .i64) (a := e1) (b := 0) (r := true) rfl rfl rfl (decide_eq_true (p := ((e1) : Int) = ((0) : Int)) (by omega)) ?_)
   refine L_nil ?_
   refine T_n ?_
   refine W_ct rfl ?_
   refine W_reg ?_
   refine L_op rfl (X_fldP (b := b1) (o := 0) (r := 1) Fd26_1 rfl rfl ?_)
   refine L_op rfl (X_load (p := (ptr b1 (1))) (v := c_2) T23 rfl (hB1.at1 rfl) ?_)
   refine L_op rfl (X_move (v := (.int .i64 (n))) rfl ?_)
   refine L_op rfl (X_loadA (p := (ptr b2 (0))) (xs := ((p.1).map byteV)) A37 rfl hB2.atAll (by rw [List.length_map]; exact p.2) ?_)
   refine L_op rfl (X_build (built63 n p) ?_)
   refine L_op rfl (X_buildSliceL (vs := [wrV (n, p)]) (c := LW.cel (n, p)) S23 (by decide) rfl rfl (List.forall_mem_cons.2 ⟨wr_size _, fun _ h => by cases h⟩) (List.append_nil _) ?_)
   intro bl wl hnl
   have hbnl := hnl.num; have hbsl := hnl.size
   replace hp := hp.ext hnl.ext
   replace hc := hc.ext hnl.ext
   replace hb := hb.ext hnl.ext
   replace hU := hU.trans (Ext.upd hnl.ext)
   replace hB2 := hB2.ext hnl.ext
   replace hB3 := hB3.ext hnl.ext
   replace hP2 := hP2.ext hnl.ext
   replace hC2 := hC2.ext hnl.ext
   replace hI2 := hI2.ext hnl.ext
   replace hB1 := hB1.ext hnl.ext
   have hBl := hnl.blk
   refine L_op rfl (X_append (B := s0) (n := cs.length) (s := c_2) (x := .slice (some ⟨bl, 0, none⟩) 1 1) S23 ⟨_, Try.underlying23⟩ rfl rfl hC2.1 (m := 1) (ys := LW.cel (n, p)) (hBl.rd (o := 0) (n := 1) (c := 1) (sz := 257) (by decide) (by decide) (by rw [LW.len]; rfl) (fun j u hj => by rw [Nat.zero_add]; simpa using hj)) (LW.one (n, p) (fun _ h => by cases h)) (by unfold maxLen; omega) (by omega) (by omega) ?_)
   intro v5 w5 hO5 hu5 _
   have hz5 := hu5.size
   have hC5 : NOwn LW w5 63 5 s0 w5.heap.size v5 (cs ++ [(n, p)]) := NOwn.of (fun _ => rfl) (hO5.eq (by rw [List.length_append]; rfl) (by rw [List.flatMap_append]; simp)) fun b hb => (hO5.lt hb).2
   replace hP2 := NOwn.upd' (fun _ => rfl) hP2 hu5 fun b h1 h2 => absurd (hP2.1.types hC2.1 h1 h2) (by decide)
   replace hI2 := NOwn.upd' (fun _ => rfl) hI2 hu5 fun b h1 h2 => absurd (hI2.1.types hC2.1 h1 h2) (by decide)
   replace hp := hp.upd hu5 fun i h1 h2 h => by have h := hC2.1.lt h; omega
   replace hc := hc.upd hu5 fun i h1 h2 h => by have h := hC2.1.lt h; omega
   replace hb := hb.upd hu5 fun i h1 h2 h => by have h := hC2.1.lt h; omega
   replace hU := hU.trans (hu5.mono fun i _ h => by have h := hC2.1.lt h; show n0 ≤ i; omega)
   replace hB2 := hB2.upd hu5 fun h => by have h := hC2.1.lt h; omega
   replace hB3 := hB3.upd hu5 fun h => by have h := hC2.1.lt h; omega
   replace hB1 := hB1.upd hu5 fun h => by have h := hC2.1.lt h; omega
   obtain ⟨u5, hu5_⟩ : ∃ n, n = w5.heap.size := ⟨_, rfl⟩
   rw [← hu5_] at hC5
   refine L_op rfl (X_fldP (b := b1) (o := 0) (r := 1) Fd26_1 rfl rfl ?_)
   refine L_op0 (X_store (b := b1) (o := 1) T23 rfl rfl (hC5.1.sv.one) hB1 (by show (1 : Nat) < 4; decide) ?_)
   intro w11 hu11 hb11
   have hz11 := hu11.size
   replace hp := hp.upd hu11 fun i h1 h2 h => by have h : i = b1 := h; omega
   replace hc := hc.upd hu11 fun i h1 h2 h => by have h : i = b1 := h; omega
   replace hb := hb.upd hu11 fun i h1 h2 h => by have h : i = b1 := h; omega
   replace hU := hU.trans (hu11.mono fun i _ h => by have h : i = b1 := h; show n0 ≤ i; omega)
   replace hB2 := hB2.upd hu11 fun h => by have h : b2 = b1 := h; omega
   replace hB3 := hB3.upd hu11 fun h => by have h : b3 = b1 := h; omega
   replace hP2 := hP2.upd hu11 fun i h1 h2 h => by have h : i = b1 := h; omega
   replace hI2 := hI2.upd hu11 fun i h1 h2 h => by have h : i = b1 := h; omega
   replace hC5 := hC5.upd hu11 fun i h1 h2 h => by have h : i = b1 := h; omega
   replace hB1 : Blk w11 b1 #[p_2, v5, i_2, (.bool (off))] 26 := hb11
   refine L_nil ?_
   refine T_n ?_
   refine W_seq ?_
   refine W_reg ?_
   refine L_op rfl (X_loadA (p := (ptr b1 (0))) (xs := [p_2, v5, i_2, (.bool (off))]) A26 rfl hB1.atAll rfl ?_)
   refine L_op rfl (X_move (v := (.int .i64 (e1))) rfl ?_)
   refine L_op0 (X_storeW (b := b3) (ys := [p_2, v5, i_2, (.bool (off))]) A26 rfl rfl (List.forall_mem_cons.2 ⟨(hP2.1.sv.one), (List.forall_mem_cons.2 ⟨(hC5.1.sv.one), (List.forall_mem_cons.2 ⟨(hI2.1.sv.one), (List.forall_mem_cons.2 ⟨rfl, (fun _ h => by cases h)⟩)⟩)⟩)⟩) rfl hB3 rfl ?_)
   intro w12 hu12 hb12
   have hz12 := hu12.size
   replace hp := hp.upd hu12 fun i h1 h2 h => by have h : i = b3 := h; omega
   replace hc := hc.upd hu12 fun i h1 h2 h => by have h : i = b3 := h; omega
   replace hb := hb.upd hu12 fun i h1 h2 h => by have h : i = b3 := h; omega
   replace hU := hU.trans (hu12.mono fun i _ h => by have h : i = b3 := h; show n0 ≤ i; omega)
   replace hB2 := hB2.upd hu12 fun h => by have h : b2 = b3 := h; omega
   replace hP2 := hP2.upd hu12 fun i h1 h2 h => by have h : i = b3 := h; omega
   replace hI2 := hI2.upd hu12 fun i h1 h2 h => by have h : i = b3 := h; omega
   replace hC5 := hC5.upd hu12 fun i h1 h2 h => by have h : i = b3 := h; omega
   replace hB1 := hB1.upd hu12 fun h => by have h : b1 = b3 := h; omega
   replace hB3 : Blk w12 b3 #[p_2, v5, i_2, (.bool (off))] 26 := hb12
   refine L_op rfl (X_assign (v := (.int .i64 (e1))) rfl ?_)
   refine L_nil ?_
   refine T_n ?_
   refine W_ret ?_
   exact BQ_r (End_2 Try.results34 (RV_A A26 rfl hB3.atAll rfl) (v2 := .int .i64 e1) rfl ⟨_, _, _, by rw [he1], hP2.mono (by omega) (by omega), by unfold writeC; rw [← he1, if_pos (by omega)]; exact hC5.mono (by omega) (by omega), hI2.mono (by omega) (by omega), hU.own hn0⟩)
  ·refine L_op rfl (X_cmp (k := .i64) (a := e1) (b := 0) (r := false) rfl rfl rfl (decide_eq_false (p := ((e1) : Int) = ((0) : Int)) (by omega)) ?_)
   refine L_nil ?_
   refine T_n ?_
   refine W_cf rfl ?_
   refine W_skip ?_
   refine T_n ?_
   refine W_seq ?_
   refine W_reg ?_
   refine L_op rfl (X_loadA (p := (ptr b1 (0))) (xs := [p_2, c_2, i_2, (.bool (off))]) A26 rfl hB1.atAll rfl ?_)
   refine L_op rfl (X_move (v := (.int .i64 (e1))) rfl ?_)
   refine L_op0 (X_storeW (b := b3) (ys := [p_2, c_2, i_2, (.bool (off))]) A26 rfl rfl (List.forall_mem_cons.2 ⟨(hP2.1.sv.one), (List.forall_mem_cons.2 ⟨(hC2.1.sv.one), (List.forall_mem_cons.2 ⟨(hI2.1.sv.one), (List.forall_mem_cons.2 ⟨rfl, (fun _ h => by cases h)⟩)⟩)⟩)⟩) rfl hB3 rfl ?_)
   intro w13 hu13 hb13
   have hz13 := hu13.size
   replace hp := hp.upd hu13 fun i h1 h2 h => by have h : i = b3 := h; omega
   replace hc := hc.upd hu13 fun i h1 h2 h => by have h : i = b3 := h; omega
   replace hb := hb.upd hu13 fun i h1 h2 h => by have h : i = b3 := h; omega
   replace hU := hU.trans (hu13.mono fun i _ h => by have h : i = b3 := h; show n0 ≤ i; omega)
   replace hB2 := hB2.upd hu13 fun h => by have h : b2 = b3 := h; omega
   replace hP2 := hP2.upd hu13 fun i h1 h2 h => by have h : i = b3 := h; omega
   replace hC2 := hC2.upd hu13 fun i h1 h2 h => by have h : i = b3 := h; omega
   replace hI2 := hI2.upd hu13 fun i h1 h2 h => by have h : i = b3 := h; omega
   replace hB1 := hB1.upd hu13 fun h => by have h : b1 = b3 := h; omega
   replace hB3 : Blk w13 b3 #[p_2, c_2, i_2, (.bool (off))] 26 := hb13
   refine L_op rfl (X_assign (v := (.int .i64 (e1))) rfl ?_)
   refine L_nil ?_
   refine T_n ?_
   refine W_ret ?_
   exact BQ_r (End_2 Try.results34 (RV_A A26 rfl hB3.atAll rfl) (v2 := .int .i64 e1) rfl ⟨_, _, _, by rw [he1], hP2.mono (by omega) (by omega), by unfold writeC; rw [← he1, if_neg (by omega)]; exact hC2.mono (by omega) (by omega), hI2.mono (by omega) (by omega), hU.own hn0⟩)

def keepI (bs : List Int) (n : Int) : List Int := bs.filter fun a => decide (a ≠ n)
theorem keepI_take_hit {bs : List Int} {n : Int} {i : Nat} (hi : bs[i]? = some n) : keepI (bs.take (i + 1)) n = keepI (bs.take i) n := by
 unfold keepI
 rw [List.take_add_one, hi, List.filter_append]
 simp
theorem keepI_take_miss {bs : List Int} {n a : Int} {i : Nat} (hi : bs[i]? = some a) (h : a ≠ n) : keepI (bs.take (i + 1)) n = keepI (bs.take i) n ++ [a] := by
 unfold keepI
 rw [List.take_add_one, hi, List.filter_append]
 simp [h]
theorem keepI_all {bs : List Int} {n : Int} (h : ∀ (j : Nat) (a : Int), bs[j]? = some a → a ≠ n) : keepI bs n = bs := by
 unfold keepI
 rw [List.filter_eq_self]
 intro a ha
 obtain ⟨j, hj, rfl⟩ := List.getElem_of_mem ha
 simpa using h j _ (List.getElem?_eq_getElem hj)
theorem keepI_le (bs : List Int) (n : Int) : (keepI bs n).length ≤ bs.length := List.length_filter_le _ _

theorem c_flush1 (a : Int) (e : Wr) (b1 : Nat) (w : World) (hE : Blk w b1 (LW.cel e).toArray 63) : CT Try.prog 46 #[(.int .i64 (a)), (ptr b1 (0))] w fun v w' => v = .bool (decide (a = e.1)) ∧ w = w' := by
 refine CT_of Try.func46 rfl rfl rfl ?_
 refine W_seq ?_
 refine W_reg ?_
 refine L_op rfl (X_assign (v := (.bool (false))) rfl ?_)
 refine L_nil ?_
 refine T_n ?_
 refine W_seq ?_
 refine W_reg ?_
 refine L_op rfl (X_move (v := (.int .i64 (a))) rfl ?_)
 refine L_op rfl (X_fldP (b := b1) (o := 0) (r := 0) Fd63_0 rfl rfl ?_)
 refine L_op rfl (X_load (p := (ptr b1 (0))) (v := .int .i64 e.1) T3 rfl (hE.at1 rfl) ?_)
 refine L_op rfl (X_cmp (k := .i64) (a := a) (b := e.1) (r := decide (a = e.1)) rfl rfl rfl rfl ?_)
 refine L_op rfl (X_assign (v := (.bool (decide (a = e.1)))) rfl ?_)
 refine L_nil ?_
 refine T_n ?_
 refine W_ret ?_
 exact BQ_r (End_1 Try.results46 (v := .bool (decide (a = e.1))) rfl ⟨rfl, rfl⟩)

theorem c_indexf (v : Value) (e : Wr) (b1 : Nat) (bs : List Int) (w : World) (lo up : Nat) (hb : NRd LI w lo up v bs) (hE : Blk w b1 (LW.cel e).toArray 63) : CT Try.prog 58 #[v, (.func (.func 46) #[] #[ptr b1 0])] w fun v w' => ((v = .int .i64 (-1) ∧ ∀ (j : Nat) (a : Int), bs[j]? = some a → a ≠ e.1) ∨ ∃ i : Nat, v = .int .i64 ((i : Nat) : Int) ∧ bs[i]? = some e.1 ∧ ∀ (j : Nat) (a : Int), j < i → bs[j]? = some a → a ≠ e.1) ∧ w = w' := by
 have hmx := hb.sv.len
 refine CT_of Try.func58 rfl rfl rfl ?_
 refine W_seq ?_
 refine W_reg ?_
 refine L_op rfl (X_assign (v := (.int .i64 (0))) rfl ?_)
 refine L_nil ?_
 refine T_n ?_
 refine W_seq ?_
 refine W_seq ?_
 refine W_reg ?_
 refine L_op rfl (X_move (v := v) rfl ?_)
 refine L_op rfl (X_len (v := v) (n := bs.length) Try.underlying24 rfl hb.sv ?_)
 refine L_op rfl (X_move (v := (.int .i64 (0))) rfl ?_)
 refine L_nil ?_
 refine T_n ?_
 refine W_block ?_
 refine W_loop (α := Nat) [4, 5, 8, 9, 10, 11, 12, 13, 14, 15, 16, 17, 18] (fun i => [(8, (.int .i64 (((i : Nat) : Int))))]) (fun i w_ => w = w_ ∧ i ≤ bs.length ∧ ∀ (j : Nat) (a : Int), j < i → bs[j]? = some a → a ≠ e.1) (fun i => bs.length - i) ⟨rfl, 0, ⟨rfl, Nat.zero_le _, fun j _ h => absurd h (Nat.not_lt_zero j)⟩, Out.refl _ _, ⟨rfl, trivial⟩⟩ ?_
 rintro i w1 _ ⟨rfl, hil, hz⟩
 refine W_seq ?_
 refine W_reg ?_
 by_cases hc2 : (((i : Nat) : Int) : Int) < (((bs.length : Nat) : Int))
 ·refine L_op rfl (X_cmp (k := .i64) (a := ((i : Nat) : Int)) (b := ((bs.length : Nat) : Int)) (r := true) rfl rfl rfl (decide_eq_true (p := ((((i : Nat) : Int)) : Int) < ((((bs.length : Nat) : Int)) : Int)) (by omega)) ?_)
  have hi : i < bs.length := by omega
  obtain ⟨a, hai⟩ : ∃ a, bs[i]? = some a := ⟨_, List.getElem?_eq_getElem hi⟩
  refine L_nil ?_
  refine T_n ?_
  refine W_seq ?_
  refine W_ct rfl ?_
  refine W_skip ?_
  refine T_n ?_
  refine W_seq ?_
  refine W_block ?_
  refine W_seq ?_
  refine W_reg ?_
  refine L_op rfl (X_move (v := (.int .i64 (((i : Nat) : Int)))) rfl ?_)
  refine L_op rfl (X_assign (v := (.int .i64 (((i : Nat) : Int)))) rfl ?_)
  refine L_nil ?_
  refine T_n ?_
  refine W_seq ?_
  refine W_reg ?_
  refine L_op rfl (X_move (v := (.func (.func 46) #[] #[ptr b1 0])) rfl ?_)
  refine L_op rfl (X_move (v := v) rfl ?_)
  refine L_op rfl (X_move (v := (.int .i64 (((i : Nat) : Int)))) rfl ?_)
  refine L_op rfl (X_idx (v := v) (n := bs.length) (k := .i64) (i := ((i : Nat) : Int)) S24 rfl hb.sv rfl (by omega) (by omega) ?_)
  refine L_op rfl (X_load (v := .int .i64 a) T3 rfl (iat hb (Int.toNat_natCast _) hai) ?_)
  refine L_op rfl (X_cl (vs := [.int .i64 a]) (cap := [ptr b1 0]) en46 rfl rfl (CT.mono (c_flush1 a e b1 _ hE) ?_))
  rintro _ _ ⟨rfl, rfl⟩
  rcases Bool.eq_false_or_eq_true (decide (a = e.1)) with hc3 | hc3
  ·rw [hc3]
   refine L_nil ?_
   refine T_n ?_
   refine W_ct rfl ?_
   refine W_seq ?_
   refine W_reg ?_
   refine L_op rfl (X_move (v := (.int .i64 (((i : Nat) : Int)))) rfl ?_)
   refine L_op rfl (X_assign (v := (.int .i64 (((i : Nat) : Int)))) rfl ?_)
   refine L_nil ?_
   refine T_n ?_
   refine W_ret ?_
   refine B_r ?_
   refine T_r ?_
   refine T_r ?_
   refine B_r ?_
   refine T_r ?_
   exact BQ_r (End_1 Try.results58 (v := (.int .i64 (((i : Nat) : Int)))) rfl ⟨.inr ⟨i, rfl, by rw [hai, of_decide_eq_true hc3], hz⟩, rfl⟩)
  ·rw [hc3]
   refine L_nil ?_
   refine T_n ?_
   refine W_cf rfl ?_
   refine W_skip ?_
   refine B_n ?_
   refine T_n ?_
   refine W_reg ?_
   refine L_op rfl (X_arith (k := .i64) (a := ((i : Nat) : Int)) (b := 1) (r := ((i + 1 : Nat) : Int)) rfl rfl rfl (iadd64 (by omega) (by omega) (by omega)) ?_)
   refine L_op rfl (X_move (v := (.int .i64 (((i + 1 : Nat) : Int)))) rfl ?_)
   refine L_nil ?_
   refine T_n ?_
   exact ⟨rfl, i + 1, ⟨⟨rfl, hi, fun j x hj he => (Nat.lt_or_ge j i).elim (fun h1 => hz j x h1 he) fun h1 => by obtain rfl : j = i := by { omega }; rw [hai] at he; cases he; exact of_decide_eq_false hc3⟩, (by show bs.length - (i + 1) < bs.length - i; omega)⟩, (Out.mk rfl), ⟨rfl, trivial⟩⟩
 ·refine L_op rfl (X_cmp (k := .i64) (a := ((i : Nat) : Int)) (b := ((bs.length : Nat) : Int)) (r := false) rfl rfl rfl (decide_eq_false (p := ((((i : Nat) : Int)) : Int) < ((((bs.length : Nat) : Int)) : Int)) (by omega)) ?_)
  refine L_nil ?_
  refine T_n ?_
  refine W_seq ?_
  refine W_cf rfl ?_
  refine W_exit ?_
  refine T_e ?_
  refine T_e ?_
  refine B_x ?_
  refine T_n ?_
  refine W_seq ?_
  refine W_reg ?_
  refine L_op rfl (X_assign (v := (.int .i64 (-1))) rfl ?_)
  refine L_nil ?_
  refine T_n ?_
  refine W_ret ?_
  exact BQ_r (End_1 Try.results58 (v := (.int .i64 (-1))) rfl ⟨.inl ⟨rfl, fun j a hj => hz j a (by have := (List.getElem?_eq_some_iff.1 hj).1; omega) hj⟩, rfl⟩)

theorem liF (bs : List Int) : bs.flatMap LI.cel = bs.map fun n => Value.int .i64 n := by
 induction bs with
 | nil => rfl
 | cons a r ih => rw [List.flatMap_cons, ih]; rfl
theorem liTake (bs : List Int) (i : Nat) : (bs.flatMap LI.cel).take i = (bs.take i).flatMap LI.cel := by rw [liF, liF, List.map_take]
theorem liSet (bs : List Int) (i : Nat) (a : Int) : (bs.flatMap LI.cel).set i (.int .i64 a) = (bs.set i a).flatMap LI.cel := by rw [liF, liF, List.map_set]
theorem take_set_succ {xs : List Int} {i : Nat} {a : Int} (hi : i < xs.length) : (xs.set i a).take (i + 1) = xs.take i ++ [a] := by
 rw [List.take_add_one, List.getElem?_set_self hi]
 congr 1
 apply List.ext_getElem?
 intro j
 simp only [List.getElem?_take, List.getElem?_set]
 grind
def flP (ps : List Pg) (l : List Wr) : List Pg := l.foldl (fun q e => q.set e.1.toNat e.2) ps
def flB (bs : List Int) (l : List Wr) : List Int := l.foldl (fun q e => keepI q e.1) bs
theorem flP_length (ps : List Pg) (l : List Wr) : (flP ps l).length = ps.length := by
 unfold flP
 induction l generalizing ps with
 | nil => rfl
 | cons a r ih => rw [List.foldl_cons, ih, List.length_set]
theorem flP_step {ps : List Pg} {l : List Wr} {i : Nat} {e : Wr} (h : l[i]? = some e) : flP ps (l.take (i + 1)) = (flP ps (l.take i)).set e.1.toNat e.2 := by
 unfold flP
 rw [List.take_add_one, h, List.foldl_append]; rfl
theorem flB_step {bs : List Int} {l : List Wr} {i : Nat} {e : Wr} (h : l[i]? = some e) : flB bs (l.take (i + 1)) = keepI (flB bs (l.take i)) e.1 := by
 unfold flB
 rw [List.take_add_one, h, List.foldl_append]; rfl
theorem flB_le (bs : List Int) (l : List Wr) : (flB bs l).length ≤ bs.length := by
 unfold flB
 induction l generalizing bs with
 | nil => exact Nat.le_refl _
 | cons a r ih => rw [List.foldl_cons]; exact Nat.le_trans (ih _) (keepI_le _ _)
theorem obk_cut0 {v : Value} {k n : Nat} (h : SV v n) : obk (cutv v 1 0 k) = obk v := by
 obtain ⟨a, c, rfl, _⟩ := h
 rw [cutv_zero']
 cases a <;> cases c <;> rfl
theorem keepI_ne {bs : List Int} {n : Int} {i : Nat} (h : ∀ (j : Nat) (a : Int), j < i → bs[j]? = some a → a ≠ n) : keepI (bs.take i) n = bs.take i := keepI_all fun j a hj => by
 rw [List.getElem?_take] at hj
 split at hj
 ·exact h j a (by assumption) hj
 ·cases hj

theorem c_delete (s : Value) (e : Wr) (b1 : Nat) (bs : List Int) (w : World) (lo up : Nat) (hN : NOwn LI w 3 5 lo up s bs) (hE : Blk w b1 (LW.cel e).toArray 63) (hb1 : b1 < lo ∨ up ≤ b1) : CT Try.prog 45 #[s, (.func (.func 46) #[] #[ptr b1 0])] w fun v w' => ∃ ds, NOwn LI w' 3 5 lo up v ds ∧ ds = keepI bs e.1 ∧ (∀ b, obk v = some b → obk s = some b) ∧ Upd (fun b => obk s = some b) w w' := by
 have hmx := hN.1.sv.len
 have hsv := hN.1.sv
 have hbd := hN.2.1
 refine CT_of Try.func45 rfl rfl rfl ?_
 refine W_seq ?_
 refine W_reg ?_
 refine L_op rfl (X_assign (v := (.slice none 0 0)) rfl ?_)
 refine L_nil ?_
 refine T_n ?_
 refine W_seq ?_
 refine W_reg ?_
 refine L_op rfl (X_move (v := s) rfl ?_)
 refine L_op rfl (X_move (v := (.func (.func 46) #[] #[ptr b1 0])) rfl ?_)
 have hbr := hN.rd
 refine L_op rfl (X_fn (vs := [s, (.func (.func 46) #[] #[ptr b1 0])]) en58 rfl (CT.mono (c_indexf s e b1 bs _ lo up hbr hE) ?_))
 rintro _ _ ⟨⟨rfl, hno⟩ | ⟨i0, rfl, hi0, hlt0⟩, rfl⟩
 ·refine L_op rfl (X_assign (v := (.int .i64 (-1))) rfl ?_)
  refine L_nil ?_
  refine T_n ?_
  refine W_seq ?_
  refine W_seq ?_
  refine W_reg ?_
  refine L_op rfl (X_move (v := (.int .i64 (-1))) rfl ?_)
  refine L_op rfl (X_cmp (k := .i64) (a := -1) (b := -1) (r := true) rfl rfl rfl rfl ?_)
  refine L_nil ?_
  refine T_n ?_
  refine W_ct rfl ?_
  refine W_seq ?_
  refine W_reg ?_
  refine L_op rfl (X_move (v := s) rfl ?_)
  refine L_op rfl (X_assign (v := s) rfl ?_)
  refine L_nil ?_
  refine T_n ?_
  refine W_ret ?_
  refine T_r ?_
  exact BQ_r (End_1 Try.results45 (v := s) rfl ⟨bs, hN, (keepI_all hno).symm, fun _ h => h, Upd.refl _ _⟩)
 ·have hi0l := (List.getElem?_eq_some_iff.1 hi0).1
  refine L_op rfl (X_assign (v := (.int .i64 (((i0 : Nat) : Int)))) rfl ?_)
  refine L_nil ?_
  refine T_n ?_
  refine W_seq ?_
  refine W_seq ?_
  refine W_reg ?_
  refine L_op rfl (X_move (v := (.int .i64 (((i0 : Nat) : Int)))) rfl ?_)
  refine L_op rfl (X_cmp (k := .i64) (a := ((i0 : Nat) : Int)) (b := -1) (r := false) rfl rfl rfl (decide_eq_false (p := ((((i0 : Nat) : Int)) : Int) = ((-1) : Int)) (by omega)) ?_)
  refine L_nil ?_
  refine T_n ?_
  refine W_cf rfl ?_
  refine W_skip ?_
  refine T_n ?_
  refine W_seq ?_
  refine W_seq ?_
  refine W_reg ?_
  refine L_op rfl (X_move (v := (.int .i64 (((i0 : Nat) : Int)))) rfl ?_)
  refine L_op rfl (X_arith (k := .i64) (a := ((i0 : Nat) : Int)) (b := 1) (r := ((i0 + 1 : Nat) : Int)) rfl rfl rfl (iadd64 (by omega) (by omega) (by omega)) ?_)
  refine L_op rfl (X_assign (v := (.int .i64 (((i0 + 1 : Nat) : Int)))) rfl ?_)
  refine L_nil ?_
  refine T_n ?_
  refine W_block ?_
  refine W_loop (α := Nat × Nat × List Int) [5, 6, 7, 16, 17, 18, 19, 20, 21, 22, 23, 24, 25, 26, 27, 28, 29, 30, 31, 32, 33, 34, 35] (fun ⟨i, j, xs⟩ => [(5, (.int .i64 (((i : Nat) : Int)))), (6, (.int .i64 (((j : Nat) : Int))))]) (fun ⟨i, j, xs⟩ w_ => j ≤ bs.length ∧ i < j ∧ xs.length = bs.length ∧ xs.take i = keepI (bs.take j) e.1 ∧ (keepI (bs.take j) e.1).length = i ∧ (∀ m, j ≤ m → xs[m]? = bs[m]?) ∧ Own w_ lo 3 1 s bs.length (xs.flatMap LI.cel) ∧ Blk w_ b1 (LW.cel e).toArray 63 ∧ Upd (fun b => obk s = some b) w w_) (fun ⟨i, j, xs⟩ => bs.length - j) ⟨rfl, (i0, i0 + 1, bs), ⟨by omega, Nat.lt_succ_self _, rfl, by rw [keepI_take_hit hi0, keepI_ne hlt0], by rw [keepI_take_hit hi0, keepI_ne hlt0, List.length_take]; omega, fun _ _ => rfl, hN.1, hE, Upd.refl _ _⟩, Out.refl _ _, ⟨rfl, rfl, trivial⟩⟩ ?_
  rintro ⟨i, j, xs⟩ w1 _ ⟨hjl, hij, hxs, hxi, hil, hrest, hO, hE, hU⟩
  have hxl : xs.length = bs.length := hxs
  refine W_seq ?_
  refine W_seq ?_
  refine W_reg ?_
  refine L_op rfl (X_move (v := (.int .i64 (((j : Nat) : Int)))) rfl ?_)
  refine L_op rfl (X_move (v := s) rfl ?_)
  refine L_op rfl (X_len (v := s) (n := bs.length) Try.underlying24 rfl hsv ?_)
  by_cases hc2 : (((j : Nat) : Int) : Int) < (((bs.length : Nat) : Int))
  ·refine L_op rfl (X_cmp (k := .i64) (a := ((j : Nat) : Int)) (b := ((bs.length : Nat) : Int)) (r := true) rfl rfl rfl (decide_eq_true (p := ((((j : Nat) : Int)) : Int) < ((((bs.length : Nat) : Int)) : Int)) (by omega)) ?_)
   have hj : j < bs.length := by omega
   obtain ⟨a, haj⟩ : ∃ a, bs[j]? = some a := ⟨_, List.getElem?_eq_getElem hj⟩
   refine L_nil ?_
   refine T_n ?_
   refine W_ct rfl ?_
   refine W_skip ?_
   refine T_n ?_
   refine W_seq ?_
   refine W_block ?_
   refine W_seq ?_
   refine W_reg ?_
   refine L_op rfl (X_move (v := s) rfl ?_)
   refine L_op rfl (X_move (v := (.int .i64 (((j : Nat) : Int)))) rfl ?_)
   refine L_op rfl (X_idx (v := s) (n := bs.length) (k := .i64) (i := ((j : Nat) : Int)) S24 rfl hsv rfl (by omega) (by omega) ?_)
   refine L_op rfl (X_load (v := .int .i64 a) T3 rfl (hO.rd.cell (by rw [show (((j : Nat) : Int).toNat * 1) = j by omega, liF, List.getElem?_map, hrest j (Nat.le_refl _), haj]; rfl)) ?_)
   refine L_op rfl (X_assign (v := (.int .i64 (a))) rfl ?_)
   refine L_nil ?_
   refine T_n ?_
   refine W_seq ?_
   refine W_reg ?_
   refine L_op rfl (X_move (v := (.func (.func 46) #[] #[ptr b1 0])) rfl ?_)
   refine L_op rfl (X_move (v := (.int .i64 (a))) rfl ?_)
   refine L_op rfl (X_cl (vs := [.int .i64 a]) (cap := [ptr b1 0]) en46 rfl rfl (CT.mono (c_flush1 a e b1 _ hE) ?_))
   rintro _ _ ⟨rfl, rfl⟩
   rcases Bool.eq_false_or_eq_true (decide (a = e.1)) with hc3 | hc3
   ·rw [hc3]
    refine L_op rfl (X_not (b := true) (r := false) rfl rfl ?_)
    refine L_nil ?_
    refine T_n ?_
    refine W_cf rfl ?_
    refine W_skip ?_
    refine B_n ?_
    refine T_n ?_
    refine W_reg ?_
    refine L_op rfl (X_move (v := (.int .i64 (((j : Nat) : Int)))) rfl ?_)
    refine L_op rfl (X_arith (k := .i64) (a := ((j : Nat) : Int)) (b := 1) (r := ((j + 1 : Nat) : Int)) rfl rfl rfl (iadd64 (by omega) (by omega) (by omega)) ?_)
    refine L_op rfl (X_assign (v := (.int .i64 (((j + 1 : Nat) : Int)))) rfl ?_)
    refine L_nil ?_
    refine T_n ?_
    exact ⟨rfl, ⟨i, j + 1, xs⟩, ⟨⟨hj, by omega, hxs, by rw [keepI_take_hit (by rw [haj, of_decide_eq_true hc3])]; exact hxi, by rw [keepI_take_hit (by rw [haj, of_decide_eq_true hc3])]; exact hil, fun m hm => hrest m (by omega), hO, hE, hU⟩, (by show bs.length - (j + 1) < bs.length - j; omega)⟩, (Out.mk rfl), ⟨rfl, rfl, trivial⟩⟩
   ·rw [hc3]
    refine L_op rfl (X_not (b := false) (r := true) rfl rfl ?_)
    refine L_nil ?_
    refine T_n ?_
    refine W_ct rfl ?_
    refine W_seq ?_
    refine W_reg ?_
    refine L_op rfl (X_move (v := s) rfl ?_)
    refine L_op rfl (X_move (v := (.int .i64 (((i : Nat) : Int)))) rfl ?_)
    refine L_op rfl (X_move (v := (.int .i64 (a))) rfl ?_)
    refine L_op rfl (X_idx (v := s) (n := bs.length) (k := .i64) (i := ((i : Nat) : Int)) S24 rfl hsv rfl (by omega) (by omega) ?_)
    refine L_op0 (X_storeOwnC (i := ((i : Nat) : Int).toNat * 1) (v := s) (u := .int .i64 a) T3 hO (by omega) rfl rfl rfl ?_)
    intro w5 hO5 hu5
    have hz5 := hu5.size
    rw [show ((i : Nat) : Int).toNat * 1 = i by omega, liSet] at hO5
    replace hE := hE.upd hu5 fun h => by have h1 := hbd _ h; have h2 := (hO.lt h).1; omega
    replace hU := hU.trans hu5
    replace hO := hO5
    refine L_nil ?_
    refine T_n ?_
    refine W_reg ?_
    refine L_op rfl (X_move (v := (.int .i64 (((i : Nat) : Int)))) rfl ?_)
    refine L_op rfl (X_arith (k := .i64) (a := ((i : Nat) : Int)) (b := 1) (r := ((i + 1 : Nat) : Int)) rfl rfl rfl (iadd64 (by omega) (by omega) (by omega)) ?_)
    refine L_op rfl (X_assign (v := (.int .i64 (((i + 1 : Nat) : Int)))) rfl ?_)
    refine L_nil ?_
    refine B_n ?_
    refine T_n ?_
    refine W_reg ?_
    refine L_op rfl (X_move (v := (.int .i64 (((j : Nat) : Int)))) rfl ?_)
    refine L_op rfl (X_arith (k := .i64) (a := ((j : Nat) : Int)) (b := 1) (r := ((j + 1 : Nat) : Int)) rfl rfl rfl (iadd64 (by omega) (by omega) (by omega)) ?_)
    refine L_op rfl (X_assign (v := (.int .i64 (((j + 1 : Nat) : Int)))) rfl ?_)
    refine L_nil ?_
    refine T_n ?_
    exact ⟨rfl, ⟨i + 1, j + 1, xs.set i a⟩, ⟨⟨hj, by omega, by rw [List.length_set]; exact hxs, by rw [take_set_succ (by omega), hxi, keepI_take_miss haj (of_decide_eq_false hc3)], (by rw [keepI_take_miss haj (of_decide_eq_false hc3), List.length_append, hil]; rfl), fun m hm => by rw [List.getElem?_set_ne (by omega)]; exact hrest m (by omega), hO, hE, hU⟩, (by show bs.length - (j + 1) < bs.length - j; omega)⟩, (Out.mk rfl), ⟨rfl, rfl, trivial⟩⟩
  ·refine L_op rfl (X_cmp (k := .i64) (a := ((j : Nat) : Int)) (b := ((bs.length : Nat) : Int)) (r := false) rfl rfl rfl (decide_eq_false (p := ((((j : Nat) : Int)) : Int) < ((((bs.length : Nat) : Int)) : Int)) (by omega)) ?_)
   refine L_nil ?_
   refine T_n ?_
   refine W_cf rfl ?_
   refine W_exit ?_
   refine T_e ?_
   refine T_e ?_
   refine B_x ?_
   refine T_n ?_
   refine W_seq ?_
   refine W_reg ?_
   refine L_op rfl (X_move (v := s) rfl ?_)
   refine L_op rfl (X_move (v := (.int .i64 (((i : Nat) : Int)))) rfl ?_)
   refine L_op rfl (X_slice (n := bs.length) (l := i) (h' := bs.length) (kl := .i64) (kh := .i64) S24 rfl hsv rfl rfl (by omega) (by omega) ?_)
   refine L_op0 (X_clearTail (z := .int .i64 0) (v := s) S24 rfl rfl hO (i := i) (by omega) rfl ?_)
   intro w8 ys hO8 hys hu8
   rw [liTake] at hys
   replace hU := hU.trans hu8
   refine L_nil ?_
   refine T_n ?_
   refine W_seq ?_
   refine W_reg ?_
   refine L_op rfl (X_move (v := s) rfl ?_)
   refine L_op rfl (X_move (v := (.int .i64 (((i : Nat) : Int)))) rfl ?_)
   refine L_op rfl (X_slice (n := bs.length) (l := 0) (h' := i) (kl := .i64) (kh := .i64) S24 rfl hsv rfl rfl (by omega) (by omega) ?_)
   refine L_op rfl (X_assign (v := (cutv s 1 0 i)) rfl ?_)
   refine L_nil ?_
   refine T_n ?_
   refine W_ret ?_
   obtain rfl : j = bs.length := by omega
   have hO9 := hO8.cut0 (k := i) (by omega)
   rw [Nat.mul_one, hys, hxi, List.take_length] at hO9
   exact BQ_r (End_1 Try.results45 (v := cutv s 1 0 i) rfl ⟨keepI bs e.1, NOwn.of (fun _ => rfl) (hO9.eq (by rw [List.take_length] at hil; omega) rfl) (fun b hb => hbd b (by rwa [obk_cut0 hsv] at hb)), rfl, fun b hb => by rwa [obk_cut0 hsv] at hb, hU⟩)

theorem c_flush (pv cv bv : Value) (ps : List Pg) (cs : List Wr) (bs : List Int) (off : Bool) (w : World) (lo up : Nat) (hup : up ≤ w.heap.size) (hp : NRd LP w lo up pv ps) (hc : NRd LW w lo up cv cs) (hb : NRd LI w lo up bv bs) (hpL : ps.length ≤ 1048576) (hcL : cs.length ≤ 1048576) (hbL : bs.length ≤ 1048576) : CT Try.prog 29 #[(.agg #[pv, cv, bv, (.bool (off))])] w fun v w' => ∃ p2 c2 i2 qs ds as_, v = .tuple #[.agg #[p2, c2, i2, .bool off], .int .i64 (askE ps.length cs bs off 0)] ∧ NOwn LP w' 37 5 w.heap.size w'.heap.size p2 qs ∧ NOwn LW w' 63 5 w.heap.size w'.heap.size c2 ds ∧ NOwn LI w' 3 5 w.heap.size w'.heap.size i2 as_ ∧ (askE ps.length cs bs off 0 = 0 → qs = flP ps cs ∧ ds = [] ∧ as_ = flB bs cs) ∧ (askE ps.length cs bs off 0 ≠ 0 → qs = ps ∧ ds = cs ∧ as_ = bs) ∧ Ext w w' := by
 obtain ⟨n0, hn0⟩ : ∃ n, n = w.heap.size := ⟨_, rfl⟩
 have hU : Upd (fun i => n0 ≤ i) w w := Upd.refl _ _
 have hpl := hp.sv.len
 have hcl := hc.sv.len
 have hbl := hb.sv.len
 rw [← hn0] at hup
 refine CT_of Try.func29 rfl rfl rfl ?_
 refine W_seq ?_
 refine W_reg ?_
 refine L_op rfl (X_box (v := (.agg #[pv, cv, bv, (.bool (off))])) (c := ([pv, cv, bv, (.bool (off))]).toArray) rfl rfl ?_)
 intro b1 w1 hn1
 have hbn1 := hn1.num; have hbs1 := hn1.size
 replace hp := hp.ext hn1.ext
 replace hc := hc.ext hn1.ext
 replace hb := hb.ext hn1.ext
 replace hU := hU.trans (Ext.upd hn1.ext)
 have hB1 := hn1.blk
 refine L_op rfl (X_alloc (z := (.agg #[(.slice none 0 0), (.slice none 0 0), (.slice none 0 0), (.bool (false))])) (c := #[(.slice none 0 0), (.slice none 0 0), (.slice none 0 0), (.bool (false))]) Zv26 rfl ?_)
 intro b2 w2 hn2
 have hbn2 := hn2.num; have hbs2 := hn2.size
 replace hp := hp.ext hn2.ext
 replace hc := hc.ext hn2.ext
 replace hb := hb.ext hn2.ext
 replace hU := hU.trans (Ext.upd hn2.ext)
 replace hB1 := hB1.ext hn2.ext
 have hB2 := hn2.blk
 refine L_op rfl (X_assign (v := (.int .i64 (0))) rfl ?_)
 refine L_nil ?_
 refine T_n ?_
 refine W_seq ?_
 refine W_reg ?_
 refine L_op rfl (X_loadA (p := (ptr b1 (0))) (xs := [pv, cv, bv, (.bool (off))]) A26 rfl hB1.atAll rfl ?_)
 refine L_op rfl (X_fn (vs := [(.agg ([pv, cv, bv, (.bool (off))]).toArray), (.int .i64 (0))]) en43 rfl (CT.mono (c_asked pv cv bv ps cs bs off 0 _ lo up (by omega) hp hc hb) ?_))
 rintro _ w3 ⟨rfl, hu3⟩
 have hz3 := hu3.size
 replace hp := hp.ext hu3
 replace hc := hc.ext hu3
 replace hb := hb.ext hu3
 replace hU := hU.trans (Ext.upd hu3)
 replace hB1 := hB1.ext hu3
 replace hB2 := hB2.ext hu3
 refine L_op rfl (X_assign (v := (.int .i64 ((askE ps.length cs bs off (0))))) rfl ?_)
 refine L_nil ?_
 refine T_n ?_
 refine W_seq ?_
 refine W_reg ?_
 refine L_op rfl (X_loadA (p := (ptr b1 (0))) (xs := [pv, cv, bv, (.bool (off))]) A26 rfl hB1.atAll rfl ?_)
 obtain ⟨s0, hs0⟩ : ∃ n, n = w3.heap.size := ⟨_, rfl⟩
 refine L_op rfl (X_fn (vs := [(.agg ([pv, cv, bv, (.bool (off))]).toArray)]) en44 rfl (CT.mono (c_copy pv cv bv ps cs bs off _ lo up (by omega) hp hc hb hpL hcL hbL) ?_))
 rintro _ w4 ⟨p_2, c_2, i_2, rfl, hP2, hC2, hI2, hu4⟩
 have hz4 := hu4.size
 rw [← hs0] at hP2 hC2 hI2
 obtain ⟨us0, hus0_⟩ : ∃ n, n = w4.heap.size := ⟨_, rfl⟩
 rw [← hus0_] at hP2 hC2 hI2
 replace hp := hp.ext hu4
 replace hc := hc.ext hu4
 replace hb := hb.ext hu4
 replace hU := hU.trans (Ext.upd hu4)
 replace hB1 := hB1.ext hu4
 replace hB2 := hB2.ext hu4
 refine L_op0 (X_storeW (b := b1) (ys := [p_2, c_2, i_2, (.bool (off))]) A26 rfl rfl (List.forall_mem_cons.2 ⟨(hP2.1.sv.one), (List.forall_mem_cons.2 ⟨(hC2.1.sv.one), (List.forall_mem_cons.2 ⟨(hI2.1.sv.one), (List.forall_mem_cons.2 ⟨rfl, (fun _ h => by cases h)⟩)⟩)⟩)⟩) rfl hB1 rfl ?_)
 intro w5 hu5 hb5
 have hz5 := hu5.size
 replace hp := hp.upd hu5 fun i h1 h2 h => by have h : i = b1 := h; omega
 replace hc := hc.upd hu5 fun i h1 h2 h => by have h : i = b1 := h; omega
 replace hb := hb.upd hu5 fun i h1 h2 h => by have h : i = b1 := h; omega
 replace hU := hU.trans (hu5.mono fun i _ h => by have h : i = b1 := h; show n0 ≤ i; omega)
 replace hB2 := hB2.upd hu5 fun h => by have h : b2 = b1 := h; omega
 replace hP2 := hP2.upd hu5 fun i h1 h2 h => by have h : i = b1 := h; omega
 replace hC2 := hC2.upd hu5 fun i h1 h2 h => by have h : i = b1 := h; omega
 replace hI2 := hI2.upd hu5 fun i h1 h2 h => by have h : i = b1 := h; omega
 replace hB1 : Blk w5 b1 #[p_2, c_2, i_2, (.bool (off))] 26 := hb5
 refine L_nil ?_
 refine T_n ?_
 refine W_seq ?_
 refine W_seq ?_
 refine W_reg ?_
 refine L_op rfl (X_move (v := (.int .i64 ((askE ps.length cs bs off (0))))) rfl ?_)
 by_cases hc6 : ((askE ps.length cs bs off (0)) : Int) ≠ (0)
 ·refine L_op rfl (X_cmp (k := .i64) (a := (askE ps.length cs bs off (0))) (b := 0) (r := true) rfl rfl rfl (decide_eq_true (p := (((askE ps.length cs bs off (0))) : Int) ≠ ((0) : Int)) (by omega)) ?_)
  refine L_nil ?_
  refine T_n ?_
  refine W_ct rfl ?_
  refine W_seq ?_
  refine W_reg ?_
  refine L_op rfl (X_loadA (p := (ptr b1 (0))) (xs := [p_2, c_2, i_2, (.bool (off))]) A26 rfl hB1.atAll rfl ?_)
  refine L_op rfl (X_move (v := (.int .i64 ((askE ps.length cs bs off (0))))) rfl ?_)
  refine L_op0 (X_storeW (b := b2) (ys := [p_2, c_2, i_2, (.bool (off))]) A26 rfl rfl (List.forall_mem_cons.2 ⟨(hP2.1.sv.one), (List.forall_mem_cons.2 ⟨(hC2.1.sv.one), (List.forall_mem_cons.2 ⟨(hI2.1.sv.one), (List.forall_mem_cons.2 ⟨rfl, (fun _ h => by cases h)⟩)⟩)⟩)⟩) rfl hB2 rfl ?_)
  intro w7 hu7 hb7
  have hz7 := hu7.size
  replace hp := hp.upd hu7 fun i h1 h2 h => by have h : i = b2 := h; omega
  replace hc := hc.upd hu7 fun i h1 h2 h => by have h : i = b2 := h; omega
  replace hb := hb.upd hu7 fun i h1 h2 h => by have h : i = b2 := h; omega
  replace hU := hU.trans (hu7.mono fun i _ h => by have h : i = b2 := h; show n0 ≤ i; omega)
  replace hP2 := hP2.upd hu7 fun i h1 h2 h => by have h : i = b2 := h; omega
  replace hC2 := hC2.upd hu7 fun i h1 h2 h => by have h : i = b2 := h; omega
  replace hI2 := hI2.upd hu7 fun i h1 h2 h => by have h : i = b2 := h; omega
  replace hB1 := hB1.upd hu7 fun h => by have h : b1 = b2 := h; omega
  replace hB2 : Blk w7 b2 #[p_2, c_2, i_2, (.bool (off))] 26 := hb7
  refine L_op rfl (X_assign (v := (.int .i64 ((askE ps.length cs bs off (0))))) rfl ?_)
  refine L_nil ?_
  refine T_n ?_
  refine W_ret ?_
  refine T_r ?_
  exact BQ_r (End_2 Try.results29 (RV_A A26 rfl hB2.atAll rfl) (v2 := .int .i64 (askE ps.length cs bs off (0))) rfl ⟨_, _, _, ps, cs, bs, rfl, hP2.mono (by omega) (by omega), hC2.mono (by omega) (by omega), hI2.mono (by omega) (by omega), fun h => absurd h hc6, fun _ => ⟨rfl, rfl, rfl⟩, hU.own hn0⟩)
 ·refine L_op rfl (X_cmp (k := .i64) (a := (askE ps.length cs bs off (0))) (b := 0) (r := false) rfl rfl rfl (decide_eq_false (p := (((askE ps.length cs bs off (0))) : Int) ≠ ((0) : Int)) (by omega)) ?_)
  have hq0 : askE ps.length cs bs off 0 = 0 := by omega
  have hz0 := askE_zero hq0
  have hsvc := hC2.1.sv
  refine L_nil ?_
  refine T_n ?_
  refine W_cf rfl ?_
  refine W_skip ?_
  refine T_n ?_
  refine W_seq ?_
  refine W_seq ?_
  refine W_reg ?_
  refine L_op rfl (X_fldP (b := b1) (o := 0) (r := 1) Fd26_1 rfl rfl ?_)
  refine L_op rfl (X_load (p := (ptr b1 (1))) (v := c_2) T23 rfl (hB1.at1 rfl) ?_)
  refine L_op rfl (X_len (v := c_2) (n := cs.length) Try.underlying23 rfl hC2.1.sv ?_)
  refine L_op rfl (X_move (v := (.int .i64 (0))) rfl ?_)
  refine L_nil ?_
  refine T_n ?_
  refine W_block ?_
  refine W_loop (α := Nat × Value × List Pg × List Int) [6, 18, 19, 20, 21, 22, 23, 24, 25, 26, 27, 28, 29, 30, 31, 32, 33, 34] (fun ⟨i, i_3, qs, as_⟩ => [(18, (.int .i64 (((i : Nat) : Int))))]) (fun ⟨i, i_3, qs, as_⟩ w_ => i ≤ cs.length ∧ qs = flP ps (cs.take i) ∧ as_ = flB bs (cs.take i) ∧ NOwn LP w_ 37 5 s0 us0 p_2 qs ∧ NOwn LW w_ 63 5 s0 us0 c_2 cs ∧ NOwn LI w_ 3 5 s0 us0 i_3 as_ ∧ Blk w_ b1 #[p_2, c_2, i_3, .bool off] 26 ∧ Blk w_ b2 #[.slice none 0 0, .slice none 0 0, .slice none 0 0, .bool false] 26 ∧ Upd (fun i => n0 ≤ i) w w_ ∧ us0 ≤ w_.heap.size) (fun ⟨i, i_3, qs, as_⟩ => cs.length - i) ⟨rfl, (0, i_2, ps, bs), ⟨Nat.zero_le _, rfl, rfl, hP2, hC2, hI2, hB1, hB2, hU, by omega⟩, Out.refl _ _, ⟨rfl, trivial⟩⟩ ?_
  rintro ⟨i, i_3, qs, as_⟩ w8 _ ⟨hil, hqs, has, hP2, hC2, hI2, hB1, hB2, hU, husw⟩
  have hsz_ := hU.size
  have hql : qs.length = ps.length := by rw [hqs, flP_length]
  have hal_ : as_.length ≤ bs.length := by rw [has]; exact flB_le _ _
  refine W_seq ?_
  refine W_reg ?_
  by_cases hc9 : (((i : Nat) : Int) : Int) < (((cs.length : Nat) : Int))
  ·refine L_op rfl (X_cmp (k := .i64) (a := ((i : Nat) : Int)) (b := ((cs.length : Nat) : Int)) (r := true) rfl rfl rfl (decide_eq_true (p := ((((i : Nat) : Int)) : Int) < ((((cs.length : Nat) : Int)) : Int)) (by omega)) ?_)
   have hi : i < cs.length := by omega
   obtain ⟨e, hei⟩ : ∃ e, cs[i]? = some e := ⟨_, List.getElem?_eq_getElem hi⟩
   have hin := hz0.1.2.1 i e hi hei
   refine L_nil ?_
   refine T_n ?_
   refine W_seq ?_
   refine W_ct rfl ?_
   refine W_skip ?_
   refine T_n ?_
   refine W_seq ?_
   refine W_block ?_
   refine W_seq ?_
   refine W_reg ?_
   refine L_op rfl (X_idx (v := c_2) (n := cs.length) (k := .i64) (i := ((i : Nat) : Int)) S23 rfl hsvc rfl (by omega) (by omega) ?_)
   refine L_op rfl (X_loadA (xs := LW.cel e) A63 rfl (wall hC2.rd (Int.toNat_natCast _) hei) (LW.len e) ?_)
   refine L_op rfl (X_alloc (z := zv63) (c := zc63.toArray) Zv63 rfl ?_)
   intro b10 w10 hn10
   have hbn10 := hn10.num; have hbs10 := hn10.size
   replace hP2 := hP2.ext hn10.ext
   replace hC2 := hC2.ext hn10.ext
   replace hI2 := hI2.ext hn10.ext
   replace hB1 := hB1.ext hn10.ext
   replace hB2 := hB2.ext hn10.ext
   replace hU := hU.trans (Ext.upd hn10.ext)
   have hB10 := hn10.blk
   refine L_op0 (X_storeW (b := b10) (ys := LW.cel e) A63 rfl rfl (LW.one e (fun _ h => by cases h)) (LW.len e) hB10 zc63_size ?_)
   intro w11 hu11 hb11
   have hz11 := hu11.size
   replace hP2 := hP2.upd hu11 fun i h1 h2 h => by have h : i = b10 := h; omega
   replace hC2 := hC2.upd hu11 fun i h1 h2 h => by have h : i = b10 := h; omega
   replace hI2 := hI2.upd hu11 fun i h1 h2 h => by have h : i = b10 := h; omega
   replace hB1 := hB1.upd hu11 fun h => by have h : b1 = b10 := h; omega
   replace hB2 := hB2.upd hu11 fun h => by have h : b2 = b10 := h; omega
   replace hU := hU.trans (hu11.mono fun i _ h => by have h : i = b10 := h; show n0 ≤ i; omega)
   replace hB10 := hb11
   refine L_nil ?_
   refine T_n ?_
   refine W_seq ?_
   refine W_reg ?_
   refine L_op rfl (X_fldP (b := b1) (o := 0) (r := 0) Fd26_0 rfl rfl ?_)
   refine L_op rfl (X_load (p := (ptr b1 (0))) (v := p_2) T22 rfl (hB1.at1 rfl) ?_)
   refine L_op rfl (X_fldP (b := b10) (o := 0) (r := 0) Fd63_0 rfl rfl ?_)
   refine L_op rfl (X_load (p := (ptr b10 (0))) (v := .int .i64 e.1) T3 rfl (hB10.at1 rfl) ?_)
   refine L_op rfl (X_fldP (b := b10) (o := 0) (r := 1) Fd63_1 rfl rfl ?_)
   refine L_op rfl (X_loadA (xs := e.2.1.map byteV) A37 rfl (hB10.at_ 1 (e.2.1.map byteV) (fun j u hj => by rw [Nat.add_comm]; simpa [LW] using hj)) (by rw [List.length_map]; exact e.2.2) ?_)
   refine L_op rfl (X_idx (v := p_2) (n := qs.length) (k := .i64) (i := e.1) S22 rfl hP2.1.sv rfl (by omega) (by omega) ?_)
   refine L_op0 (X_storeOwnA (i := e.1.toNat * 256) (m := 256) (v := p_2) (ys := e.2.1.map byteV) A37 hP2.1 (by have h1 := hin.2; have h2 : LP.sz = 256 := rfl; rw [h2]; omega) (by decide) rfl rfl (byteV_one _) (by rw [List.length_map]; exact e.2.2) ?_)
   intro w8 hO8 hu8
   have hz8 := hu8.size
   have hlt_ : e.1.toNat < qs.length := by omega
   have hP8 : NOwn LP w8 37 5 s0 us0 p_2 (qs.set e.1.toNat e.2) := NOwn.of (fun _ => rfl) (hO8.eq (by rw [List.length_set]) (by rw [flat_setA (L := LP) hlt_]; rfl)) hP2.2.1
   replace hC2 := NOwn.upd' (fun _ => rfl) hC2 hu8 fun b h1 h2 => absurd (hC2.1.types hP2.1 h1 h2) (by decide)
   replace hI2 := NOwn.upd' (fun _ => rfl) hI2 hu8 fun b h1 h2 => absurd (hI2.1.types hP2.1 h1 h2) (by decide)
   replace hB1 := hB1.upd hu8 fun h => by have h1_ := hP2.1.lt h; have h2_ := hP2.2.1 _ h; omega
   replace hB2 := hB2.upd hu8 fun h => by have h1_ := hP2.1.lt h; have h2_ := hP2.2.1 _ h; omega
   replace hU := hU.trans (hu8.mono fun i _ h => by have h1_ := hP2.1.lt h; have h2_ := hP2.2.1 _ h; show n0 ≤ i; omega)
   replace hB10 := hB10.upd hu8 fun h => by have h1_ := hP2.1.lt h; have h2_ := hP2.2.1 _ h; omega
   replace hP2 := hP8
   refine L_nil ?_
   refine T_n ?_
   refine W_reg ?_
   refine L_op rfl (X_fldP (b := b1) (o := 0) (r := 2) Fd26_2 rfl rfl ?_)
   refine L_op rfl (X_load (p := (ptr b1 (2))) (v := i_3) T24 rfl (hB1.at1 rfl) ?_)
   refine L_op rfl (X_makeFunc (vs := [(ptr b10 (0))]) rfl ?_)
   have hbe_ := hB10.lt
   have hbg : us0 ≤ b10 := by omega
   refine L_op rfl (X_fn (vs := [i_3, (.func (.func 46) #[] #[(ptr b10 (0))])]) en45 rfl (CT.mono (c_delete i_3 e b10 as_ _ s0 us0 hI2 hB10 (.inr hbg)) ?_))
   rintro i_4 w9 ⟨ds, hI4, hds, hob, hu9⟩
   have hz9 := hu9.size
   replace hP2 := NOwn.upd' (fun _ => rfl) hP2 hu9 fun b h1 h2 => absurd (hP2.1.types hI2.1 h1 h2) (by decide)
   replace hC2 := NOwn.upd' (fun _ => rfl) hC2 hu9 fun b h1 h2 => absurd (hC2.1.types hI2.1 h1 h2) (by decide)
   replace hB1 := hB1.upd hu9 fun h => by have h1_ := hI2.1.lt h; have h2_ := hI2.2.1 _ h; omega
   replace hB2 := hB2.upd hu9 fun h => by have h1_ := hI2.1.lt h; have h2_ := hI2.2.1 _ h; omega
   replace hU := hU.trans (hu9.mono fun i _ h => by have h1_ := hI2.1.lt h; have h2_ := hI2.2.1 _ h; show n0 ≤ i; omega)
   refine L_op rfl (X_fldP (b := b1) (o := 0) (r := 2) Fd26_2 rfl rfl ?_)
   refine L_op0 (X_store (b := b1) (o := 2) T24 rfl rfl (hI4.1.sv.one) hB1 (by show (2 : Nat) < 4; decide) ?_)
   intro w12 hu12 hb12
   have hz12 := hu12.size
   replace hB2 := hB2.upd hu12 fun h => by have h : b2 = b1 := h; omega
   replace hU := hU.trans (hu12.mono fun i _ h => by have h : i = b1 := h; show n0 ≤ i; omega)
   replace hP2 := hP2.upd hu12 fun i h1 h2 h => by have h : i = b1 := h; omega
   replace hC2 := hC2.upd hu12 fun i h1 h2 h => by have h : i = b1 := h; omega
   replace hI4 := hI4.upd hu12 fun i h1 h2 h => by have h : i = b1 := h; omega
   replace hB1 : Blk w12 b1 #[p_2, c_2, i_4, (.bool (off))] 26 := hb12
   refine L_nil ?_
   refine B_n ?_
   refine T_n ?_
   refine W_reg ?_
   refine L_op rfl (X_arith (k := .i64) (a := ((i : Nat) : Int)) (b := 1) (r := ((i + 1 : Nat) : Int)) rfl rfl rfl (iadd64 (by omega) (by omega) (by omega)) ?_)
   refine L_op rfl (X_move (v := (.int .i64 (((i + 1 : Nat) : Int)))) rfl ?_)
   refine L_nil ?_
   refine T_n ?_
   exact ⟨rfl, (i + 1, i_4, qs.set e.1.toNat e.2, ds), ⟨⟨hi, by rw [hqs, flP_step hei], by rw [hds, has, flB_step hei], hP2, hC2, hI4, hB1, hB2, hU, by omega⟩, (by show cs.length - (i + 1) < cs.length - i; omega)⟩, (Out.mk rfl), ⟨rfl, trivial⟩⟩
  ·refine L_op rfl (X_cmp (k := .i64) (a := ((i : Nat) : Int)) (b := ((cs.length : Nat) : Int)) (r := false) rfl rfl rfl (decide_eq_false (p := ((((i : Nat) : Int)) : Int) < ((((cs.length : Nat) : Int)) : Int)) (by omega)) ?_)
   refine L_nil ?_
   refine T_n ?_
   refine W_seq ?_
   refine W_cf rfl ?_
   refine W_exit ?_
   refine T_e ?_
   refine T_e ?_
   refine B_x ?_
   refine T_n ?_
   refine W_seq ?_
   refine W_reg ?_
   refine L_op rfl (X_fldP (b := b1) (o := 0) (r := 1) Fd26_1 rfl rfl ?_)
   refine L_op0 (X_store (b := b1) (o := 1) T23 rfl rfl rfl hB1 (by show (1 : Nat) < 4; decide) ?_)
   intro w13 hu13 hb13
   have hz13 := hu13.size
   replace hP2 := hP2.upd hu13 fun i h1 h2 h => by have h : i = b1 := h; omega
   replace hC2 := hC2.upd hu13 fun i h1 h2 h => by have h : i = b1 := h; omega
   replace hI2 := hI2.upd hu13 fun i h1 h2 h => by have h : i = b1 := h; omega
   replace hB2 := hB2.upd hu13 fun h => by have h : b2 = b1 := h; omega
   replace hU := hU.trans (hu13.mono fun i _ h => by have h : i = b1 := h; show n0 ≤ i; omega)
   replace hB1 : Blk w13 b1 #[p_2, (.slice none 0 0), i_3, (.bool (off))] 26 := hb13
   refine L_nil ?_
   refine T_n ?_
   refine W_seq ?_
   refine W_reg ?_
   refine L_op rfl (X_loadA (p := (ptr b1 (0))) (xs := [p_2, (.slice none 0 0), i_3, (.bool (off))]) A26 rfl hB1.atAll rfl ?_)
   refine L_op0 (X_storeW (b := b2) (ys := [p_2, (.slice none 0 0), i_3, (.bool (off))]) A26 rfl rfl (List.forall_mem_cons.2 ⟨(hP2.1.sv.one), (List.forall_mem_cons.2 ⟨rfl, (List.forall_mem_cons.2 ⟨(hI2.1.sv.one), (List.forall_mem_cons.2 ⟨rfl, (fun _ h => by cases h)⟩)⟩)⟩)⟩) rfl hB2 rfl ?_)
   intro w14 hu14 hb14
   have hz14 := hu14.size
   replace hP2 := hP2.upd hu14 fun i h1 h2 h => by have h : i = b2 := h; omega
   replace hC2 := hC2.upd hu14 fun i h1 h2 h => by have h : i = b2 := h; omega
   replace hI2 := hI2.upd hu14 fun i h1 h2 h => by have h : i = b2 := h; omega
   replace hU := hU.trans (hu14.mono fun i _ h => by have h : i = b2 := h; show n0 ≤ i; omega)
   replace hB1 := hB1.upd hu14 fun h => by have h : b1 = b2 := h; omega
   replace hB2 : Blk w14 b2 #[p_2, (.slice none 0 0), i_3, (.bool (off))] 26 := hb14
   refine L_op rfl (X_assign (v := (.int .i64 (0))) rfl ?_)
   refine L_nil ?_
   refine T_n ?_
   refine W_ret ?_
   exact BQ_r (End_2 Try.results29 (RV_A A26 rfl hB2.atAll rfl) (v2 := .int .i64 0) rfl ⟨_, _, _, qs, [], as_, by rw [hq0], hP2.mono (by omega) (by omega), NOwn.nil _ _ _ _ _, hI2.mono (by omega) (by omega), fun _ => ⟨by rw [hqs, List.take_of_length_le (by omega)], rfl, by rw [has, List.take_of_length_le (by omega)]⟩, fun h => absurd hq0 h, hU.own hn0⟩)

theorem built26p (a : Option Addr) (n c : Nat) : Try.prog.built 26 [(0, .slice a n c)] = some #[.slice a n c, .slice none 0 0, .slice none 0 0, .bool false] := by kernel_rfl
theorem built26z : Try.prog.built 26 [] = some #[.slice none 0 0, .slice none 0 0, .slice none 0 0, .bool false] := by kernel_rfl
theorem zv37_cells : zv37.cells = (LP.cel default).toArray := by
 show zc37.toArray = _
 rw [zc37_eq]; rfl

theorem c_new (n : Int) (w : World) : CT Try.prog 39 #[(.int .i64 (n))] w fun v w' => (n < 32 ∨ 256 < n → v = .tuple #[.agg #[.slice none 0 0, .slice none 0 0, .slice none 0 0, .bool false], .int .i64 2]) ∧ (32 ≤ n ∧ n ≤ 256 → ∃ p2, v = .tuple #[.agg #[p2, .slice none 0 0, .slice none 0 0, .bool false], .int .i64 0] ∧ NOwn LP w' 37 5 w.heap.size w'.heap.size p2 (List.replicate n.toNat (default : Pg))) ∧ Ext w w' := by
 obtain ⟨n0, hn0⟩ : ∃ n, n = w.heap.size := ⟨_, rfl⟩
 have hU : Upd (fun i => n0 ≤ i) w w := Upd.refl _ _
 refine CT_of Try.func39 rfl rfl rfl ?_
 refine W_seq ?_
 refine W_reg ?_
 refine L_op rfl (X_alloc (z := (.agg #[(.slice none 0 0), (.slice none 0 0), (.slice none 0 0), (.bool (false))])) (c := #[(.slice none 0 0), (.slice none 0 0), (.slice none 0 0), (.bool (false))]) Zv26 rfl ?_)
 intro b1 w1 hn1
 have hbn1 := hn1.num; have hbs1 := hn1.size
 replace hU := hU.trans (Ext.upd hn1.ext)
 have hB1 := hn1.blk
 refine L_op rfl (X_assign (v := (.int .i64 (0))) rfl ?_)
 refine L_nil ?_
 refine T_n ?_
 refine W_seq ?_
 refine W_seq ?_
 refine W_reg ?_
 refine L_op rfl (X_move (v := (.int .i64 (n))) rfl ?_)
 by_cases hc2 : (n : Int) < (32)
 ·refine L_op rfl (X_cmp (k := .i64) (a := n) (b := 32) (r := true) rfl rfl rfl (decide_eq_true (p := ((n) : Int) < ((32) : Int)) (by omega)) ?_)
  refine L_op rfl (X_move (v := (.bool (true))) rfl ?_)
  refine L_gn (dj := 6) (t := true) rfl rfl rfl rfl ?_
  refine L_gn (dj := 6) (t := true) rfl rfl rfl rfl ?_
  refine L_op rfl (X_pick (t := true) (v := (.bool (true))) rfl rfl ?_)
  refine L_nil ?_
  refine T_n ?_
  refine W_ct rfl ?_
  refine W_seq ?_
  refine W_reg ?_
  refine L_op rfl (X_build built26z ?_)
  refine L_op0 (X_storeW (b := b1) (ys := [(.slice none 0 0), (.slice none 0 0), (.slice none 0 0), (.bool (false))]) A26 rfl rfl (List.forall_mem_cons.2 ⟨rfl, (List.forall_mem_cons.2 ⟨rfl, (List.forall_mem_cons.2 ⟨rfl, (List.forall_mem_cons.2 ⟨rfl, (fun _ h => by cases h)⟩)⟩)⟩)⟩) rfl hB1 rfl ?_)
  intro w3 hu3 hb3
  have hz3 := hu3.size
  replace hU := hU.trans (hu3.mono fun i _ h => by have h : i = b1 := h; show n0 ≤ i; omega)
  replace hB1 : Blk w3 b1 #[(.slice none 0 0), (.slice none 0 0), (.slice none 0 0), (.bool (false))] 26 := hb3
  refine L_op rfl (X_assign (v := (.int .i64 (2))) rfl ?_)
  refine L_nil ?_
  refine T_n ?_
  refine W_ret ?_
  refine T_r ?_
  exact BQ_r (End_2 Try.results39 (RV_A A26 rfl hB1.atAll rfl) (v2 := .int .i64 2) rfl ⟨fun _ => rfl, fun h => by omega, hU.own hn0⟩)
 ·refine L_op rfl (X_cmp (k := .i64) (a := n) (b := 32) (r := false) rfl rfl rfl (decide_eq_false (p := ((n) : Int) < ((32) : Int)) (by omega)) ?_)
  refine L_op rfl (X_move (v := (.bool (false))) rfl ?_)
  refine L_gy (dj := 6) rfl rfl rfl (X_move (v := (.int .i64 (n))) rfl ?_)
  by_cases hc4 : (n : Int) > (256)
  ·refine L_gy (dj := 6) rfl rfl rfl (X_cmp (k := .i64) (a := n) (b := 256) (r := true) rfl rfl rfl (decide_eq_true (p := ((256) : Int) < ((n) : Int)) (by omega)) ?_)
   refine L_op rfl (X_pick (t := false) (v := (.bool (true))) rfl rfl ?_)
   refine L_nil ?_
   refine T_n ?_
   refine W_ct rfl ?_
   refine W_seq ?_
   refine W_reg ?_
   refine L_op rfl (X_build built26z ?_)
   refine L_op0 (X_storeW (b := b1) (ys := [(.slice none 0 0), (.slice none 0 0), (.slice none 0 0), (.bool (false))]) A26 rfl rfl (List.forall_mem_cons.2 ⟨rfl, (List.forall_mem_cons.2 ⟨rfl, (List.forall_mem_cons.2 ⟨rfl, (List.forall_mem_cons.2 ⟨rfl, (fun _ h => by cases h)⟩)⟩)⟩)⟩) rfl hB1 rfl ?_)
   intro w5 hu5 hb5
   have hz5 := hu5.size
   replace hU := hU.trans (hu5.mono fun i _ h => by have h : i = b1 := h; show n0 ≤ i; omega)
   replace hB1 : Blk w5 b1 #[(.slice none 0 0), (.slice none 0 0), (.slice none 0 0), (.bool (false))] 26 := hb5
   refine L_op rfl (X_assign (v := (.int .i64 (2))) rfl ?_)
   refine L_nil ?_
   refine T_n ?_
   refine W_ret ?_
   refine T_r ?_
   exact BQ_r (End_2 Try.results39 (RV_A A26 rfl hB1.atAll rfl) (v2 := .int .i64 2) rfl ⟨fun _ => rfl, fun h => by omega, hU.own hn0⟩)
  ·refine L_gy (dj := 6) rfl rfl rfl (X_cmp (k := .i64) (a := n) (b := 256) (r := false) rfl rfl rfl (decide_eq_false (p := ((256) : Int) < ((n) : Int)) (by omega)) ?_)
   refine L_op rfl (X_pick (t := false) (v := (.bool (false))) rfl rfl ?_)
   refine L_nil ?_
   refine T_n ?_
   refine W_cf rfl ?_
   refine W_skip ?_
   refine T_n ?_
   refine W_seq ?_
   refine W_reg ?_
   refine L_op rfl (X_move (v := (.int .i64 (n))) rfl ?_)
   obtain ⟨m, rfl⟩ : ∃ m : Nat, n = ((m : Nat) : Int) := ⟨n.toNat, by omega⟩
   refine L_op rfl (X_makeSliceL (n := m) LP default S22 zv37_cells rfl rfl (by omega) (by omega) (by decide) ?_)
   intro bm wm hnm
   have hbnm := hnm.num; have hbsm := hnm.size
   replace hU := hU.trans (Ext.upd hnm.ext)
   replace hB1 := hB1.ext hnm.ext
   have hBm := hnm.blk
   skip
   have hmM : ((List.replicate m (default : Pg)).flatMap LP.cel).length = m * 256 := by rw [flat_len, List.length_replicate]; rfl
   have hM : Own wm bm 37 256 (.slice (some ⟨bm, 0, none⟩) m m) m ((List.replicate m (default : Pg)).flatMap LP.cel) := ⟨hmM, _, _, rfl, Nat.le_refl _, by unfold maxLen; omega, .inr ⟨bm, _, rfl, Nat.le_refl _, hBm, by rw [List.size_toArray, hmM]; exact Nat.le_refl _, by rw [List.take_of_length_le (Nat.le_of_eq hmM)]⟩⟩
   have hN : NOwn LP wm 37 5 bm wm.heap.size (.slice (some ⟨bm, 0, none⟩) m m) (List.replicate m (default : Pg)) := NOwn.of (fun _ => rfl) (hM.eq (by rw [List.length_replicate]) rfl) (fun b hb => (hM.lt hb).2)
   obtain ⟨um, hum⟩ : ∃ n, n = wm.heap.size := ⟨_, rfl⟩
   rw [← hum] at hN
   refine L_op rfl (X_build (built26p _ _ _) ?_)
   refine L_op0 (X_storeW (b := b1) (ys := [(.slice (some ⟨bm, 0, none⟩) m m), (.slice none 0 0), (.slice none 0 0), (.bool (false))]) A26 rfl rfl (List.forall_mem_cons.2 ⟨rfl, (List.forall_mem_cons.2 ⟨rfl, (List.forall_mem_cons.2 ⟨rfl, (List.forall_mem_cons.2 ⟨rfl, (fun _ h => by cases h)⟩)⟩)⟩)⟩) rfl hB1 rfl ?_)
   intro w6 hu6 hb6
   have hz6 := hu6.size
   replace hU := hU.trans (hu6.mono fun i _ h => by have h : i = b1 := h; show n0 ≤ i; omega)
   replace hN := hN.upd hu6 fun i h1 h2 h => by have h : i = b1 := h; omega
   replace hB1 : Blk w6 b1 #[(.slice (some ⟨bm, 0, none⟩) m m), (.slice none 0 0), (.slice none 0 0), (.bool (false))] 26 := hb6
   refine L_op rfl (X_assign (v := (.int .i64 (0))) rfl ?_)
   refine L_nil ?_
   refine T_n ?_
   refine W_ret ?_
   exact BQ_r (End_2 Try.results39 (RV_A A26 rfl hB1.atAll rfl) (v2 := .int .i64 0) rfl ⟨fun h => by omega, fun _ => ⟨_, rfl, hN.mono (by omega) (by omega)⟩, hU.own hn0⟩)

theorem take_same {α : Type} {l m : List α} {i : Nat} {a b : α} (ha : l[i]? = some a) (hb : m[i]? = some b) (h : l.take i = m.take i) (he : a = b) : l.take (i + 1) = m.take (i + 1) := by
 rw [List.take_add_one, List.take_add_one, ha, hb, h, he]
theorem not_same {α : Type} {l m : List α} {i : Nat} {a b : α} (ha : l[i]? = some a) (hb : m[i]? = some b) (he : a ≠ b) : l ≠ m := fun h => by
 rw [h, hb] at ha; cases ha; exact he rfl
theorem take_eq {α : Type} {l m : List α} {i : Nat} (h : l.take i = m.take i) (h1 : l.length ≤ i) (h2 : m.length ≤ i) : l = m := by
 rwa [List.take_of_length_le h1, List.take_of_length_le h2] at h

theorem c_ints (u s : Value) (as_ bs : List Int) (w : World) (lo up lo2 up2 : Nat) (ha : NRd LI w lo up u as_) (hb : NRd LI w lo2 up2 s bs) : CT Try.prog 30 #[u, s] w fun v w' => (∃ g, v = .bool g ∧ (g = true ↔ as_ = bs)) ∧ Ext w w' := by
 obtain ⟨n0, hn0⟩ : ∃ n, n = w.heap.size := ⟨_, rfl⟩
 have hU : Upd (fun i => n0 ≤ i) w w := Upd.refl _ _
 have hal := ha.sv.len
 have hbl := hb.sv.len
 refine CT_of Try.func30 rfl rfl rfl ?_
 refine W_seq ?_
 refine W_reg ?_
 refine L_op rfl (X_assign (v := (.bool (false))) rfl ?_)
 refine L_nil ?_
 refine T_n ?_
 refine W_seq ?_
 refine W_seq ?_
 refine W_reg ?_
 refine L_op rfl (X_move (v := u) rfl ?_)
 refine L_op rfl (X_len (v := u) (n := as_.length) Try.underlying24 rfl ha.sv ?_)
 refine L_op rfl (X_move (v := s) rfl ?_)
 refine L_op rfl (X_len (v := s) (n := bs.length) Try.underlying24 rfl hb.sv ?_)
 by_cases hc1 : (((as_.length : Nat) : Int) : Int) ≠ (((bs.length : Nat) : Int))
 ·refine L_op rfl (X_cmp (k := .i64) (a := ((as_.length : Nat) : Int)) (b := ((bs.length : Nat) : Int)) (r := true) rfl rfl rfl (decide_eq_true (p := ((((as_.length : Nat) : Int)) : Int) ≠ ((((bs.length : Nat) : Int)) : Int)) (by omega)) ?_)
  refine L_nil ?_
  refine T_n ?_
  refine W_ct rfl ?_
  refine W_seq ?_
  refine W_reg ?_
  refine L_op rfl (X_assign (v := (.bool (false))) rfl ?_)
  refine L_nil ?_
  refine T_n ?_
  refine W_ret ?_
  refine T_r ?_
  exact BQ_r (End_1 Try.results30 (v := .bool false) rfl ⟨⟨false, rfl, ⟨fun h => (by cases h), fun h => (by have h1 := congrArg List.length h; omega)⟩⟩, hU.own hn0⟩)
 ·refine L_op rfl (X_cmp (k := .i64) (a := ((as_.length : Nat) : Int)) (b := ((bs.length : Nat) : Int)) (r := false) rfl rfl rfl (decide_eq_false (p := ((((as_.length : Nat) : Int)) : Int) ≠ ((((bs.length : Nat) : Int)) : Int)) (by omega)) ?_)
  refine L_nil ?_
  refine T_n ?_
  refine W_cf rfl ?_
  refine W_skip ?_
  refine T_n ?_
  refine W_seq ?_
  refine W_seq ?_
  refine W_reg ?_
  refine L_op rfl (X_assign (v := (.int .i64 (0))) rfl ?_)
  refine L_nil ?_
  refine T_n ?_
  refine W_block ?_
  refine W_loop (α := Nat) [4, 5, 11, 12, 13, 14, 15, 16, 17, 18, 19, 20, 21, 22, 23, 24, 25] (fun i => [(5, (.int .i64 (((i : Nat) : Int))))]) (fun i w_ => i ≤ as_.length ∧ NRd LI w_ lo up u as_ ∧ NRd LI w_ lo2 up2 s bs ∧ Upd (fun i => n0 ≤ i) w w_ ∧ as_.take i = bs.take i) (fun i => as_.length - i) ⟨rfl, 0, ⟨Nat.zero_le _, ha, hb, hU, rfl⟩, Out.refl _ _, ⟨rfl, trivial⟩⟩ ?_
  rintro i w2 _ ⟨hil, ha, hb, hU, hz⟩
  refine W_seq ?_
  refine W_seq ?_
  refine W_reg ?_
  refine L_op rfl (X_move (v := (.int .i64 (((i : Nat) : Int)))) rfl ?_)
  refine L_op rfl (X_move (v := u) rfl ?_)
  refine L_op rfl (X_len (v := u) (n := as_.length) Try.underlying24 rfl ha.sv ?_)
  by_cases hc3 : (((i : Nat) : Int) : Int) < (((as_.length : Nat) : Int))
  ·refine L_op rfl (X_cmp (k := .i64) (a := ((i : Nat) : Int)) (b := ((as_.length : Nat) : Int)) (r := true) rfl rfl rfl (decide_eq_true (p := ((((i : Nat) : Int)) : Int) < ((((as_.length : Nat) : Int)) : Int)) (by omega)) ?_)
   have hi : i < as_.length := by omega
   obtain ⟨a, hai⟩ : ∃ a, as_[i]? = some a := ⟨_, List.getElem?_eq_getElem hi⟩
   obtain ⟨b, hbi⟩ : ∃ b, bs[i]? = some b := ⟨_, List.getElem?_eq_getElem (by omega)⟩
   refine L_nil ?_
   refine T_n ?_
   refine W_ct rfl ?_
   refine W_skip ?_
   refine T_n ?_
   refine W_seq ?_
   refine W_block ?_
   refine W_seq ?_
   rcases Bool.eq_false_or_eq_true (decide (a = b)) with hs4 | hs4
   ·refine W_draw 8 [[], [], [0, 1], [0, 1, 2], [], [], [4, 5], [4, 5, 6], [0, 1, 2, 3, 4, 5, 6, 7]] mixed (by kernel_rfl) ?_
    refine ⟨.det (fun val => u), ⟨fun _ _ hv => rfl, fun _ _ _ _ _ => trivial⟩, fun val h_ W hx he => ⟨trivial, ?_⟩, ?_⟩
    ·exact X_move (v := u) rfl ⟨Upd.refl _ _, rfl⟩
    refine ⟨.det (fun val => (.int .i64 (((i : Nat) : Int)))), ⟨fun _ _ hv => rfl, fun _ _ _ _ _ => trivial⟩, fun val h_ W hx he => ⟨trivial, ?_⟩, ?_⟩
    ·exact X_move (v := (.int .i64 (((i : Nat) : Int)))) rfl ⟨Upd.refl _ _, rfl⟩
    refine ⟨.det (fun val => (pof u ((((i : Nat) : Int) : Int).toNat * 1))), ⟨fun _ _ hv => rfl, fun _ _ _ _ _ => trivial⟩, fun val h_ W hx he => ⟨trivial, ?_⟩, ?_⟩
    ·replace hx := (Upd.drew _ _).trans hx
     replace ha := ha.ext hx
     refine id (X_idx (v := u) (n := as_.length) (k := .i64) (i := ((i : Nat) : Int)) S24 rfl ha.sv rfl (by omega) (by omega) ?_)
     exact ⟨Upd.refl _ _, rfl⟩
    refine ⟨.det (fun val => (.int .i64 (a))), ⟨fun _ _ hv => rfl, fun _ _ _ _ _ => trivial⟩, fun val h_ W hx he => ⟨trivial, ?_⟩, ?_⟩
    ·replace hx := (Upd.drew _ _).trans hx
     replace ha := ha.ext hx
     refine id (X_load (v := .int .i64 a) T3 rfl (iat ha (Int.toNat_natCast _) hai) ?_)
     exact ⟨Upd.refl _ _, rfl⟩
    refine ⟨.det (fun val => s), ⟨fun _ _ hv => rfl, fun _ _ _ _ _ => trivial⟩, fun val h_ W hx he => ⟨trivial, ?_⟩, ?_⟩
    ·exact X_move (v := s) rfl ⟨Upd.refl _ _, rfl⟩
    refine ⟨.det (fun val => (.int .i64 (((i : Nat) : Int)))), ⟨fun _ _ hv => rfl, fun _ _ _ _ _ => trivial⟩, fun val h_ W hx he => ⟨trivial, ?_⟩, ?_⟩
    ·exact X_move (v := (.int .i64 (((i : Nat) : Int)))) rfl ⟨Upd.refl _ _, rfl⟩
    refine ⟨.det (fun val => (pof s ((((i : Nat) : Int) : Int).toNat * 1))), ⟨fun _ _ hv => rfl, fun _ _ _ _ _ => trivial⟩, fun val h_ W hx he => ⟨trivial, ?_⟩, ?_⟩
    ·replace hx := (Upd.drew _ _).trans hx
     replace hb := hb.ext hx
     refine id (X_idx (v := s) (n := bs.length) (k := .i64) (i := ((i : Nat) : Int)) S24 rfl hb.sv rfl (by omega) (by omega) ?_)
     exact ⟨Upd.refl _ _, rfl⟩
    refine ⟨.det (fun val => (.int .i64 (b))), ⟨fun _ _ hv => rfl, fun _ _ _ _ _ => trivial⟩, fun val h_ W hx he => ⟨trivial, ?_⟩, ?_⟩
    ·replace hx := (Upd.drew _ _).trans hx
     replace hb := hb.ext hx
     refine id (X_load (v := .int .i64 b) T3 rfl (iat hb (Int.toNat_natCast _) hbi) ?_)
     exact ⟨Upd.refl _ _, rfl⟩
    intro val W5 hx5 he5
    replace hx5 := (Upd.drew _ _).trans hx5
    have hz5 := hx5.size
    replace ha := ha.ext hx5
    replace hb := hb.ext hx5
    replace hU := hU.trans (Ext.upd hx5)
    refine L_op rfl (X_cmp (k := .i64) (a := a) (b := b) (r := false) rfl rfl rfl (decide_eq_false (fun h_ => h_ (of_decide_eq_true hs4))) ?_)
    refine L_nil ?_
    refine T_n ?_
    refine W_cf rfl ?_
    refine W_skip ?_
    refine B_n ?_
    refine T_n ?_
    refine W_reg ?_
    refine L_op rfl (X_move (v := (.int .i64 (((i : Nat) : Int)))) rfl ?_)
    refine L_op rfl (X_arith (k := .i64) (a := ((i : Nat) : Int)) (b := 1) (r := ((i + 1 : Nat) : Int)) rfl rfl rfl (iadd64 (by omega) (by omega) (by omega)) ?_)
    refine L_op rfl (X_assign (v := (.int .i64 (((i + 1 : Nat) : Int)))) rfl ?_)
    refine L_nil ?_
    refine T_n ?_
    exact ⟨rfl, i + 1, ⟨⟨hi, ha, hb, hU, take_same hai hbi hz (of_decide_eq_true hs4)⟩, (by show as_.length - (i + 1) < as_.length - i; omega)⟩, (Out.mk rfl), ⟨rfl, trivial⟩⟩
   ·refine W_draw 8 [[], [], [0, 1], [0, 1, 2], [], [], [4, 5], [4, 5, 6], [0, 1, 2, 3, 4, 5, 6, 7]] mixed (by kernel_rfl) ?_
    refine ⟨.det (fun val => u), ⟨fun _ _ hv => rfl, fun _ _ _ _ _ => trivial⟩, fun val h_ W hx he => ⟨trivial, ?_⟩, ?_⟩
    ·exact X_move (v := u) rfl ⟨Upd.refl _ _, rfl⟩
    refine ⟨.det (fun val => (.int .i64 (((i : Nat) : Int)))), ⟨fun _ _ hv => rfl, fun _ _ _ _ _ => trivial⟩, fun val h_ W hx he => ⟨trivial, ?_⟩, ?_⟩
    ·exact X_move (v := (.int .i64 (((i : Nat) : Int)))) rfl ⟨Upd.refl _ _, rfl⟩
    refine ⟨.det (fun val => (pof u ((((i : Nat) : Int) : Int).toNat * 1))), ⟨fun _ _ hv => rfl, fun _ _ _ _ _ => trivial⟩, fun val h_ W hx he => ⟨trivial, ?_⟩, ?_⟩
    ·replace hx := (Upd.drew _ _).trans hx
     replace ha := ha.ext hx
     refine id (X_idx (v := u) (n := as_.length) (k := .i64) (i := ((i : Nat) : Int)) S24 rfl ha.sv rfl (by omega) (by omega) ?_)
     exact ⟨Upd.refl _ _, rfl⟩
    refine ⟨.det (fun val => (.int .i64 (a))), ⟨fun _ _ hv => rfl, fun _ _ _ _ _ => trivial⟩, fun val h_ W hx he => ⟨trivial, ?_⟩, ?_⟩
    ·replace hx := (Upd.drew _ _).trans hx
     replace ha := ha.ext hx
     refine id (X_load (v := .int .i64 a) T3 rfl (iat ha (Int.toNat_natCast _) hai) ?_)
     exact ⟨Upd.refl _ _, rfl⟩
    refine ⟨.det (fun val => s), ⟨fun _ _ hv => rfl, fun _ _ _ _ _ => trivial⟩, fun val h_ W hx he => ⟨trivial, ?_⟩, ?_⟩
    ·exact X_move (v := s) rfl ⟨Upd.refl _ _, rfl⟩
    refine ⟨.det (fun val => (.int .i64 (((i : Nat) : Int)))), ⟨fun _ _ hv => rfl, fun _ _ _ _ _ => trivial⟩, fun val h_ W hx he => ⟨trivial, ?_⟩, ?_⟩
    ·exact X_move (v := (.int .i64 (((i : Nat) : Int)))) rfl ⟨Upd.refl _ _, rfl⟩
    refine ⟨.det (fun val => (pof s ((((i : Nat) : Int) : Int).toNat * 1))), ⟨fun _ _ hv => rfl, fun _ _ _ _ _ => trivial⟩, fun val h_ W hx he => ⟨trivial, ?_⟩, ?_⟩
    ·replace hx := (Upd.drew _ _).trans hx
     replace hb := hb.ext hx
     refine id (X_idx (v := s) (n := bs.length) (k := .i64) (i := ((i : Nat) : Int)) S24 rfl hb.sv rfl (by omega) (by omega) ?_)
     exact ⟨Upd.refl _ _, rfl⟩
    refine ⟨.det (fun val => (.int .i64 (b))), ⟨fun _ _ hv => rfl, fun _ _ _ _ _ => trivial⟩, fun val h_ W hx he => ⟨trivial, ?_⟩, ?_⟩
    ·replace hx := (Upd.drew _ _).trans hx
     replace hb := hb.ext hx
     refine id (X_load (v := .int .i64 b) T3 rfl (iat hb (Int.toNat_natCast _) hbi) ?_)
     exact ⟨Upd.refl _ _, rfl⟩
    intro val W6 hx6 he6
    replace hx6 := (Upd.drew _ _).trans hx6
    have hz6 := hx6.size
    replace ha := ha.ext hx6
    replace hb := hb.ext hx6
    replace hU := hU.trans (Ext.upd hx6)
    refine L_op rfl (X_cmp (k := .i64) (a := a) (b := b) (r := true) rfl rfl rfl (decide_eq_true (of_decide_eq_false hs4)) ?_)
    refine L_nil ?_
    refine T_n ?_
    refine W_ct rfl ?_
    refine W_seq ?_
    refine W_reg ?_
    refine L_op rfl (X_assign (v := (.bool (false))) rfl ?_)
    refine L_nil ?_
    refine T_n ?_
    refine W_ret ?_
    refine B_r ?_
    refine T_r ?_
    refine T_r ?_
    refine B_r ?_
    refine T_r ?_
    exact BQ_r (End_1 Try.results30 (v := .bool false) rfl ⟨⟨false, rfl, ⟨fun h => (by cases h), fun h => (by exact absurd h (not_same hai hbi (of_decide_eq_false hs4)))⟩⟩, hU.own hn0⟩)
  ·refine L_op rfl (X_cmp (k := .i64) (a := ((i : Nat) : Int)) (b := ((as_.length : Nat) : Int)) (r := false) rfl rfl rfl (decide_eq_false (p := ((((i : Nat) : Int)) : Int) < ((((as_.length : Nat) : Int)) : Int)) (by omega)) ?_)
   refine L_nil ?_
   refine T_n ?_
   refine W_cf rfl ?_
   refine W_exit ?_
   refine T_e ?_
   refine T_e ?_
   refine B_x ?_
   refine T_n ?_
   refine W_seq ?_
   refine W_reg ?_
   refine L_op rfl (X_assign (v := (.bool (true))) rfl ?_)
   refine L_nil ?_
   refine T_n ?_
   refine W_ret ?_
   exact BQ_r (End_1 Try.results30 (v := .bool true) rfl ⟨⟨true, rfl, ⟨fun _ => take_eq hz (by omega) (by omega), fun _ => rfl⟩⟩, hU.own hn0⟩)

theorem c_sameR (pv cv bv : Value) (ps : List Pg) (cs : List Wr) (bs : List Int) (off : Bool) (pv2 cv2 bv2 : Value) (ps2 : List Pg) (cs2 : List Wr) (bs2 : List Int) (off2 : Bool) (w : World) (lo up lo2 up2 : Nat) (hp : NRd LP w lo up pv ps) (hc : NRd LW w lo up cv cs) (hb : NRd LI w lo up bv bs) (hp2 : NRd LP w lo2 up2 pv2 ps2) (hc2 : NRd LW w lo2 up2 cv2 cs2) (hb2 : NRd LI w lo2 up2 bv2 bs2) : CT Try.prog 13 #[(.agg #[pv, cv, bv, (.bool (off))]), (.agg #[pv2, cv2, bv2, (.bool (off2))])] w fun v w' => (∃ g, v = .bool g ∧ (g = true ↔ ps = ps2 ∧ cs = cs2 ∧ bs = bs2 ∧ off = off2)) ∧ Ext w w' := by
 obtain ⟨n0, hn0⟩ : ∃ n, n = w.heap.size := ⟨_, rfl⟩
 have hU : Upd (fun i => n0 ≤ i) w w := Upd.refl _ _
 have hpl := hp.sv.len
 have hcl := hc.sv.len
 have hbl := hb.sv.len
 have hpl2 := hp2.sv.len
 have hcl2 := hc2.sv.len
 have hbl2 := hb2.sv.len
 refine CT_of Try.func13 rfl rfl rfl ?_
 refine W_seq ?_
 refine W_reg ?_
 refine L_op rfl (X_box (v := (.agg #[pv, cv, bv, (.bool (off))])) (c := ([pv, cv, bv, (.bool (off))]).toArray) rfl rfl ?_)
 intro b1 w1 hn1
 have hbn1 := hn1.num; have hbs1 := hn1.size
 replace hp := hp.ext hn1.ext
 replace hc := hc.ext hn1.ext
 replace hb := hb.ext hn1.ext
 replace hp2 := hp2.ext hn1.ext
 replace hc2 := hc2.ext hn1.ext
 replace hb2 := hb2.ext hn1.ext
 replace hU := hU.trans (Ext.upd hn1.ext)
 have hB1 := hn1.blk
 refine L_op rfl (X_box (v := (.agg #[pv2, cv2, bv2, (.bool (off2))])) (c := ([pv2, cv2, bv2, (.bool (off2))]).toArray) rfl rfl ?_)
 intro b2 w2 hn2
 have hbn2 := hn2.num; have hbs2 := hn2.size
 replace hp := hp.ext hn2.ext
 replace hc := hc.ext hn2.ext
 replace hb := hb.ext hn2.ext
 replace hp2 := hp2.ext hn2.ext
 replace hc2 := hc2.ext hn2.ext
 replace hb2 := hb2.ext hn2.ext
 replace hU := hU.trans (Ext.upd hn2.ext)
 replace hB1 := hB1.ext hn2.ext
 have hB2 := hn2.blk
 refine L_op rfl (X_assign (v := (.bool (false))) rfl ?_)
 refine L_nil ?_
 refine T_n ?_
 refine W_seq ?_
 refine W_seq ?_
 refine W_reg ?_
 refine L_op rfl (X_fldP (b := b1) (o := 0) (r := 0) Fd26_0 rfl rfl ?_)
 refine L_op rfl (X_load (p := (ptr b1 (0))) (v := pv) T22 rfl (hB1.at1 rfl) ?_)
 refine L_op rfl (X_len (v := pv) (n := ps.length) Try.underlying22 rfl hp.sv ?_)
 refine L_op rfl (X_fldP (b := b2) (o := 0) (r := 0) Fd26_0 rfl rfl ?_)
 refine L_op rfl (X_load (p := (ptr b2 (0))) (v := pv2) T22 rfl (hB2.at1 rfl) ?_)
 refine L_op rfl (X_len (v := pv2) (n := ps2.length) Try.underlying22 rfl hp2.sv ?_)
 by_cases hc3 : (((ps.length : Nat) : Int) : Int) ≠ (((ps2.length : Nat) : Int))
 ·refine L_op rfl (X_cmp (k := .i64) (a := ((ps.length : Nat) : Int)) (b := ((ps2.length : Nat) : Int)) (r := true) rfl rfl rfl (decide_eq_true (p := ((((ps.length : Nat) : Int)) : Int) ≠ ((((ps2.length : Nat) : Int)) : Int)) (by omega)) ?_)
  refine L_op rfl (X_move (v := (.bool (true))) rfl ?_)
  refine L_gn (dj := 14) (t := true) rfl rfl rfl rfl ?_
  refine L_gn (dj := 14) (t := true) rfl rfl rfl rfl ?_
  refine L_gn (dj := 14) (t := true) rfl rfl rfl rfl ?_
  refine L_gn (dj := 14) (t := true) rfl rfl rfl rfl ?_
  refine L_gn (dj := 14) (t := true) rfl rfl rfl rfl ?_
  refine L_gn (dj := 14) (t := true) rfl rfl rfl rfl ?_
  refine L_gn (dj := 14) (t := true) rfl rfl rfl rfl ?_
  refine L_op rfl (X_pick (t := true) (v := (.bool (true))) rfl rfl ?_)
  refine L_op rfl (X_move (v := (.bool (true))) rfl ?_)
  refine L_gn (dj := 23) (t := true) rfl rfl rfl rfl ?_
  refine L_gn (dj := 23) (t := true) rfl rfl rfl rfl ?_
  refine L_gn (dj := 23) (t := true) rfl rfl rfl rfl ?_
  refine L_gn (dj := 23) (t := true) rfl rfl rfl rfl ?_
  refine L_gn (dj := 23) (t := true) rfl rfl rfl rfl ?_
  refine L_op rfl (X_pick (t := true) (v := (.bool (true))) rfl rfl ?_)
  refine L_op rfl (X_move (v := (.bool (true))) rfl ?_)
  refine L_gn (dj := 30) (t := true) rfl rfl rfl rfl ?_
  refine L_gn (dj := 30) (t := true) rfl rfl rfl rfl ?_
  refine L_gn (dj := 30) (t := true) rfl rfl rfl rfl ?_
  refine L_gn (dj := 30) (t := true) rfl rfl rfl rfl ?_
  refine L_gn (dj := 30) (t := true) rfl rfl rfl rfl ?_
  refine L_gn (dj := 30) (t := true) rfl rfl rfl rfl ?_
  refine L_op rfl (X_pick (t := true) (v := (.bool (true))) rfl rfl ?_)
  refine L_nil ?_
  refine T_n ?_
  refine W_ct rfl ?_
  refine W_seq ?_
  refine W_reg ?_
  refine L_op rfl (X_assign (v := (.bool (false))) rfl ?_)
  refine L_nil ?_
  refine T_n ?_
  refine W_ret ?_
  refine T_r ?_
  exact BQ_r (End_1 Try.results13 (v := .bool false) rfl ⟨⟨false, rfl, ⟨fun h => (by cases h), fun h => (by have h1 := congrArg List.length h.1; have h2 := congrArg List.length h.2.1; omega)⟩⟩, hU.own hn0⟩)
 ·refine L_op rfl (X_cmp (k := .i64) (a := ((ps.length : Nat) : Int)) (b := ((ps2.length : Nat) : Int)) (r := false) rfl rfl rfl (decide_eq_false (p := ((((ps.length : Nat) : Int)) : Int) ≠ ((((ps2.length : Nat) : Int)) : Int)) (by omega)) ?_)
  refine L_op rfl (X_move (v := (.bool (false))) rfl ?_)
  refine L_gy (dj := 14) rfl rfl rfl (X_fldP (b := b1) (o := 0) (r := 1) Fd26_1 rfl rfl ?_)
  refine L_gy (dj := 14) rfl rfl rfl (X_load (p := (ptr b1 (1))) (v := cv) T23 rfl (hB1.at1 rfl) ?_)
  refine L_gy (dj := 14) rfl rfl rfl (X_len (v := cv) (n := cs.length) Try.underlying23 rfl hc.sv ?_)
  refine L_gy (dj := 14) rfl rfl rfl (X_fldP (b := b2) (o := 0) (r := 1) Fd26_1 rfl rfl ?_)
  refine L_gy (dj := 14) rfl rfl rfl (X_load (p := (ptr b2 (1))) (v := cv2) T23 rfl (hB2.at1 rfl) ?_)
  refine L_gy (dj := 14) rfl rfl rfl (X_len (v := cv2) (n := cs2.length) Try.underlying23 rfl hc2.sv ?_)
  by_cases hc4 : (((cs.length : Nat) : Int) : Int) ≠ (((cs2.length : Nat) : Int))
  ·refine L_gy (dj := 14) rfl rfl rfl (X_cmp (k := .i64) (a := ((cs.length : Nat) : Int)) (b := ((cs2.length : Nat) : Int)) (r := true) rfl rfl rfl (decide_eq_true (p := ((((cs.length : Nat) : Int)) : Int) ≠ ((((cs2.length : Nat) : Int)) : Int)) (by omega)) ?_)
   refine L_op rfl (X_pick (t := false) (v := (.bool (true))) rfl rfl ?_)
   refine L_op rfl (X_move (v := (.bool (true))) rfl ?_)
   refine L_gn (dj := 23) (t := true) rfl rfl rfl rfl ?_
   refine L_gn (dj := 23) (t := true) rfl rfl rfl rfl ?_
   refine L_gn (dj := 23) (t := true) rfl rfl rfl rfl ?_
   refine L_gn (dj := 23) (t := true) rfl rfl rfl rfl ?_
   refine L_gn (dj := 23) (t := true) rfl rfl rfl rfl ?_
   refine L_op rfl (X_pick (t := true) (v := (.bool (true))) rfl rfl ?_)
   refine L_op rfl (X_move (v := (.bool (true))) rfl ?_)
   refine L_gn (dj := 30) (t := true) rfl rfl rfl rfl ?_
   refine L_gn (dj := 30) (t := true) rfl rfl rfl rfl ?_
   refine L_gn (dj := 30) (t := true) rfl rfl rfl rfl ?_
   refine L_gn (dj := 30) (t := true) rfl rfl rfl rfl ?_
   refine L_gn (dj := 30) (t := true) rfl rfl rfl rfl ?_
   refine L_gn (dj := 30) (t := true) rfl rfl rfl rfl ?_
   refine L_op rfl (X_pick (t := true) (v := (.bool (true))) rfl rfl ?_)
   refine L_nil ?_
   refine T_n ?_
   refine W_ct rfl ?_
   refine W_seq ?_
   refine W_reg ?_
   refine L_op rfl (X_assign (v := (.bool (false))) rfl ?_)
   refine L_nil ?_
   refine T_n ?_
   refine W_ret ?_
   refine T_r ?_
   exact BQ_r (End_1 Try.results13 (v := .bool false) rfl ⟨⟨false, rfl, ⟨fun h => (by cases h), fun h => (by have h1 := congrArg List.length h.1; have h2 := congrArg List.length h.2.1; omega)⟩⟩, hU.own hn0⟩)
  ·refine L_gy (dj := 14) rfl rfl rfl (X_cmp (k := .i64) (a := ((cs.length : Nat) : Int)) (b := ((cs2.length : Nat) : Int)) (r := false) rfl rfl rfl (decide_eq_false (p := ((((cs.length : Nat) : Int)) : Int) ≠ ((((cs2.length : Nat) : Int)) : Int)) (by omega)) ?_)
   refine L_op rfl (X_pick (t := false) (v := (.bool (false))) rfl rfl ?_)
   refine L_op rfl (X_move (v := (.bool (false))) rfl ?_)
   refine L_gy (dj := 23) rfl rfl rfl (X_fldP (b := b1) (o := 0) (r := 3) Fd26_3 rfl rfl ?_)
   refine L_gy (dj := 23) rfl rfl rfl (X_load (p := (ptr b1 (3))) (v := (.bool (off))) T4 rfl (hB1.at1 rfl) ?_)
   refine L_gy (dj := 23) rfl rfl rfl (X_fldP (b := b2) (o := 0) (r := 3) Fd26_3 rfl rfl ?_)
   refine L_gy (dj := 23) rfl rfl rfl (X_load (p := (ptr b2 (3))) (v := (.bool (off2))) T4 rfl (hB2.at1 rfl) ?_)
   rcases Bool.eq_false_or_eq_true (off == off2) with hoo | hoo
   ·refine L_gy (dj := 23) rfl rfl rfl (X_cmpBool (a := off) (b := off2) (r := false) Try.underlying4 rfl rfl (.inr ⟨rfl, by rw [hoo]; rfl⟩) ?_)
    refine L_op rfl (X_pick (t := false) (v := (.bool (false))) rfl rfl ?_)
    refine L_op rfl (X_move (v := (.bool (false))) rfl ?_)
    refine L_gy (dj := 30) rfl rfl rfl (X_fldP (b := b1) (o := 0) (r := 2) Fd26_2 rfl rfl ?_)
    refine L_gy (dj := 30) rfl rfl rfl (X_load (p := (ptr b1 (2))) (v := bv) T24 rfl (hB1.at1 rfl) ?_)
    refine L_gy (dj := 30) rfl rfl rfl (X_fldP (b := b2) (o := 0) (r := 2) Fd26_2 rfl rfl ?_)
    refine L_gy (dj := 30) rfl rfl rfl (X_load (p := (ptr b2 (2))) (v := bv2) T24 rfl (hB2.at1 rfl) ?_)
    refine L_gy (dj := 30) rfl rfl rfl (X_fn (vs := [bv, bv2]) en30 rfl (CT.mono (c_ints _ _ bs bs2 _ _ _ _ _ hb hb2) ?_))
    rintro _ w5 ⟨⟨gI, rfl, hgI⟩, hu5⟩
    have hz5 := hu5.size
    replace hp := hp.ext hu5
    replace hc := hc.ext hu5
    replace hb := hb.ext hu5
    replace hp2 := hp2.ext hu5
    replace hc2 := hc2.ext hu5
    replace hb2 := hb2.ext hu5
    replace hU := hU.trans (Ext.upd hu5)
    replace hB1 := hB1.ext hu5
    replace hB2 := hB2.ext hu5
    rcases Bool.eq_false_or_eq_true (gI) with hc6 | hc6
    ·rw [hc6]
     refine L_gy (dj := 30) rfl rfl rfl (X_not (b := true) (r := false) rfl rfl ?_)
     refine L_op rfl (X_pick (t := false) (v := (.bool (false))) rfl rfl ?_)
     refine L_nil ?_
     refine T_n ?_
     refine W_cf rfl ?_
     refine W_skip ?_
     refine T_n ?_
     refine W_seq ?_
     refine W_seq ?_
     refine W_reg ?_
     refine L_op rfl (X_assign (v := (.int .i64 (0))) rfl ?_)
     refine L_nil ?_
     refine T_n ?_
     refine W_block ?_
     refine W_loop (α := Nat) [4, 5, 38, 39, 40, 41, 42, 43, 44, 45, 46, 47, 48, 49, 50, 51, 52, 53, 54, 55] (fun i => [(5, (.int .i64 (((i : Nat) : Int))))]) (fun i w_ => i ≤ ps.length ∧ NRd LP w_ lo up pv ps ∧ NRd LP w_ lo2 up2 pv2 ps2 ∧ NRd LW w_ lo up cv cs ∧ NRd LW w_ lo2 up2 cv2 cs2 ∧ Blk w_ b1 #[pv, cv, bv, .bool off] 26 ∧ Blk w_ b2 #[pv2, cv2, bv2, .bool off2] 26 ∧ Upd (fun i => n0 ≤ i) w w_ ∧ ps.take i = ps2.take i) (fun i => ps.length - i) ⟨rfl, 0, ⟨Nat.zero_le _, hp, hp2, hc, hc2, hB1, hB2, hU, rfl⟩, Out.refl _ _, ⟨rfl, trivial⟩⟩ ?_
     rintro i w7 _ ⟨hil, hp, hp2, hc, hc2, hB1, hB2, hU, hzp⟩
     refine W_seq ?_
     refine W_seq ?_
     refine W_reg ?_
     refine L_op rfl (X_move (v := (.int .i64 (((i : Nat) : Int)))) rfl ?_)
     refine L_op rfl (X_fldP (b := b1) (o := 0) (r := 0) Fd26_0 rfl rfl ?_)
     refine L_op rfl (X_load (p := (ptr b1 (0))) (v := pv) T22 rfl (hB1.at1 rfl) ?_)
     refine L_op rfl (X_len (v := pv) (n := ps.length) Try.underlying22 rfl hp.sv ?_)
     by_cases hc8 : (((i : Nat) : Int) : Int) < (((ps.length : Nat) : Int))
     ·refine L_op rfl (X_cmp (k := .i64) (a := ((i : Nat) : Int)) (b := ((ps.length : Nat) : Int)) (r := true) rfl rfl rfl (decide_eq_true (p := ((((i : Nat) : Int)) : Int) < ((((ps.length : Nat) : Int)) : Int)) (by omega)) ?_)
      have hi : i < ps.length := by omega
      obtain ⟨a, hai⟩ : ∃ a, ps[i]? = some a := ⟨_, List.getElem?_eq_getElem hi⟩
      obtain ⟨b, hbi⟩ : ∃ b, ps2[i]? = some b := ⟨_, List.getElem?_eq_getElem (by omega)⟩
      refine L_nil ?_
      refine T_n ?_
      refine W_ct rfl ?_
      refine W_skip ?_
      refine T_n ?_
      refine W_seq ?_
      refine W_block ?_
      refine W_seq ?_
      rcases Bool.eq_false_or_eq_true ((a.1 == b.1)) with hs9 | hs9
      ·refine W_draw 10 [[], [0], [], [0, 1, 2], [0, 1, 2, 3], [], [5], [], [5, 6, 7], [5, 6, 7, 8], [0, 1, 2, 3, 4, 5, 6, 7, 8, 9]] mixed (by kernel_rfl) ?_
       refine ⟨.det (fun val => (ptr b1 (0))), ⟨fun _ _ hv => rfl, fun _ _ _ _ _ => trivial⟩, fun val h_ W hx he => ⟨trivial, ?_⟩, ?_⟩
       ·exact X_fldP (b := b1) (o := 0) (r := 0) Fd26_0 rfl rfl ⟨Upd.refl _ _, rfl⟩
       refine ⟨.det (fun val => pv), ⟨fun _ _ hv => rfl, fun _ _ _ _ _ => trivial⟩, fun val h_ W hx he => ⟨trivial, ?_⟩, ?_⟩
       ·replace hx := (Upd.drew _ _).trans hx
        replace hB1 := hB1.ext hx
        refine id (X_load (p := (ptr b1 (0))) (v := pv) T22 rfl (hB1.at1 rfl) ?_)
        exact ⟨Upd.refl _ _, rfl⟩
       refine ⟨.det (fun val => (.int .i64 (((i : Nat) : Int)))), ⟨fun _ _ hv => rfl, fun _ _ _ _ _ => trivial⟩, fun val h_ W hx he => ⟨trivial, ?_⟩, ?_⟩
       ·exact X_move (v := (.int .i64 (((i : Nat) : Int)))) rfl ⟨Upd.refl _ _, rfl⟩
       refine ⟨.det (fun val => (pof pv ((((i : Nat) : Int) : Int).toNat * 256))), ⟨fun _ _ hv => rfl, fun _ _ _ _ _ => trivial⟩, fun val h_ W hx he => ⟨trivial, ?_⟩, ?_⟩
       ·replace hx := (Upd.drew _ _).trans hx
        replace hp := hp.ext hx
        refine id (X_idx (v := pv) (n := ps.length) (k := .i64) (i := ((i : Nat) : Int)) S22 rfl hp.sv rfl (by omega) (by omega) ?_)
        exact ⟨Upd.refl _ _, rfl⟩
       refine ⟨.det (fun val => (.agg (((a.1).map byteV)).toArray)), ⟨fun _ _ hv => rfl, fun _ _ _ _ _ => trivial⟩, fun val h_ W hx he => ⟨trivial, ?_⟩, ?_⟩
       ·replace hx := (Upd.drew _ _).trans hx
        replace hp := hp.ext hx
        refine id (X_loadA (xs := a.1.map byteV) A37 rfl (pall hp (Int.toNat_natCast _) hai) (by rw [List.length_map]; exact a.2) ?_)
        exact ⟨Upd.refl _ _, rfl⟩
       refine ⟨.det (fun val => (ptr b2 (0))), ⟨fun _ _ hv => rfl, fun _ _ _ _ _ => trivial⟩, fun val h_ W hx he => ⟨trivial, ?_⟩, ?_⟩
       ·exact X_fldP (b := b2) (o := 0) (r := 0) Fd26_0 rfl rfl ⟨Upd.refl _ _, rfl⟩
       refine ⟨.det (fun val => pv2), ⟨fun _ _ hv => rfl, fun _ _ _ _ _ => trivial⟩, fun val h_ W hx he => ⟨trivial, ?_⟩, ?_⟩
       ·replace hx := (Upd.drew _ _).trans hx
        replace hB2 := hB2.ext hx
        refine id (X_load (p := (ptr b2 (0))) (v := pv2) T22 rfl (hB2.at1 rfl) ?_)
        exact ⟨Upd.refl _ _, rfl⟩
       refine ⟨.det (fun val => (.int .i64 (((i : Nat) : Int)))), ⟨fun _ _ hv => rfl, fun _ _ _ _ _ => trivial⟩, fun val h_ W hx he => ⟨trivial, ?_⟩, ?_⟩
       ·exact X_move (v := (.int .i64 (((i : Nat) : Int)))) rfl ⟨Upd.refl _ _, rfl⟩
       refine ⟨.det (fun val => (pof pv2 ((((i : Nat) : Int) : Int).toNat * 256))), ⟨fun _ _ hv => rfl, fun _ _ _ _ _ => trivial⟩, fun val h_ W hx he => ⟨trivial, ?_⟩, ?_⟩
       ·replace hx := (Upd.drew _ _).trans hx
        replace hp2 := hp2.ext hx
        refine id (X_idx (v := pv2) (n := ps2.length) (k := .i64) (i := ((i : Nat) : Int)) S22 rfl hp2.sv rfl (by omega) (by omega) ?_)
        exact ⟨Upd.refl _ _, rfl⟩
       refine ⟨.det (fun val => (.agg (((b.1).map byteV)).toArray)), ⟨fun _ _ hv => rfl, fun _ _ _ _ _ => trivial⟩, fun val h_ W hx he => ⟨trivial, ?_⟩, ?_⟩
       ·replace hx := (Upd.drew _ _).trans hx
        replace hp2 := hp2.ext hx
        refine id (X_loadA (xs := b.1.map byteV) A37 rfl (pall hp2 (Int.toNat_natCast _) hbi) (by rw [List.length_map]; exact b.2) ?_)
        exact ⟨Upd.refl _ _, rfl⟩
       intro val W10 hx10 he10
       replace hx10 := (Upd.drew _ _).trans hx10
       have hz10 := hx10.size
       replace hp := hp.ext hx10
       replace hp2 := hp2.ext hx10
       replace hc := hc.ext hx10
       replace hc2 := hc2.ext hx10
       replace hU := hU.trans (Ext.upd hx10)
       replace hB1 := hB1.ext hx10
       replace hB2 := hB2.ext hx10
       refine L_op rfl (X_eqA (n := 256) (l := a.1) (m := b.1) (r := false) Try.underlying37 Try.underlying5 (by kernel_rfl) (by kernel_rfl) (by kernel_rfl) rfl rfl (a.2) (b.2) (.inr ⟨rfl, (by rw [hs9]; rfl)⟩) ?_)
       refine L_nil ?_
       refine T_n ?_
       refine W_cf rfl ?_
       refine W_skip ?_
       refine B_n ?_
       refine T_n ?_
       refine W_reg ?_
       refine L_op rfl (X_move (v := (.int .i64 (((i : Nat) : Int)))) rfl ?_)
       refine L_op rfl (X_arith (k := .i64) (a := ((i : Nat) : Int)) (b := 1) (r := ((i + 1 : Nat) : Int)) rfl rfl rfl (iadd64 (by omega) (by omega) (by omega)) ?_)
       refine L_op rfl (X_assign (v := (.int .i64 (((i + 1 : Nat) : Int)))) rfl ?_)
       refine L_nil ?_
       refine T_n ?_
       exact ⟨rfl, i + 1, ⟨⟨hi, hp, hp2, hc, hc2, hB1, hB2, hU, take_same hai hbi hzp (Subtype.ext (beq_iff_eq.1 hs9))⟩, (by show ps.length - (i + 1) < ps.length - i; omega)⟩, (Out.mk rfl), ⟨rfl, trivial⟩⟩
      ·refine W_draw 10 [[], [0], [], [0, 1, 2], [0, 1, 2, 3], [], [5], [], [5, 6, 7], [5, 6, 7, 8], [0, 1, 2, 3, 4, 5, 6, 7, 8, 9]] mixed (by kernel_rfl) ?_
       refine ⟨.det (fun val => (ptr b1 (0))), ⟨fun _ _ hv => rfl, fun _ _ _ _ _ => trivial⟩, fun val h_ W hx he => ⟨trivial, ?_⟩, ?_⟩
       ·exact X_fldP (b := b1) (o := 0) (r := 0) Fd26_0 rfl rfl ⟨Upd.refl _ _, rfl⟩
       refine ⟨.det (fun val => pv), ⟨fun _ _ hv => rfl, fun _ _ _ _ _ => trivial⟩, fun val h_ W hx he => ⟨trivial, ?_⟩, ?_⟩
       ·replace hx := (Upd.drew _ _).trans hx
        replace hB1 := hB1.ext hx
        refine id (X_load (p := (ptr b1 (0))) (v := pv) T22 rfl (hB1.at1 rfl) ?_)
        exact ⟨Upd.refl _ _, rfl⟩
       refine ⟨.det (fun val => (.int .i64 (((i : Nat) : Int)))), ⟨fun _ _ hv => rfl, fun _ _ _ _ _ => trivial⟩, fun val h_ W hx he => ⟨trivial, ?_⟩, ?_⟩
       ·exact X_move (v := (.int .i64 (((i : Nat) : Int)))) rfl ⟨Upd.refl _ _, rfl⟩
       refine ⟨.det (fun val => (pof pv ((((i : Nat) : Int) : Int).toNat * 256))), ⟨fun _ _ hv => rfl, fun _ _ _ _ _ => trivial⟩, fun val h_ W hx he => ⟨trivial, ?_⟩, ?_⟩
       ·replace hx := (Upd.drew _ _).trans hx
        replace hp := hp.ext hx
        refine id (X_idx (v := pv) (n := ps.length) (k := .i64) (i := ((i : Nat) : Int)) S22 rfl hp.sv rfl (by omega) (by omega) ?_)
        exact ⟨Upd.refl _ _, rfl⟩
       refine ⟨.det (fun val => (.agg (((a.1).map byteV)).toArray)), ⟨fun _ _ hv => rfl, fun _ _ _ _ _ => trivial⟩, fun val h_ W hx he => ⟨trivial, ?_⟩, ?_⟩
       ·replace hx := (Upd.drew _ _).trans hx
        replace hp := hp.ext hx
        refine id (X_loadA (xs := a.1.map byteV) A37 rfl (pall hp (Int.toNat_natCast _) hai) (by rw [List.length_map]; exact a.2) ?_)
        exact ⟨Upd.refl _ _, rfl⟩
       refine ⟨.det (fun val => (ptr b2 (0))), ⟨fun _ _ hv => rfl, fun _ _ _ _ _ => trivial⟩, fun val h_ W hx he => ⟨trivial, ?_⟩, ?_⟩
       ·exact X_fldP (b := b2) (o := 0) (r := 0) Fd26_0 rfl rfl ⟨Upd.refl _ _, rfl⟩
       refine ⟨.det (fun val => pv2), ⟨fun _ _ hv => rfl, fun _ _ _ _ _ => trivial⟩, fun val h_ W hx he => ⟨trivial, ?_⟩, ?_⟩
       ·replace hx := (Upd.drew _ _).trans hx
        replace hB2 := hB2.ext hx
        refine id (X_load (p := (ptr b2 (0))) (v := pv2) T22 rfl (hB2.at1 rfl) ?_)
        exact ⟨Upd.refl _ _, rfl⟩
       refine ⟨.det (fun val => (.int .i64 (((i : Nat) : Int)))), ⟨fun _ _ hv => rfl, fun _ _ _ _ _ => trivial⟩, fun val h_ W hx he => ⟨trivial, ?_⟩, ?_⟩
       ·exact X_move (v := (.int .i64 (((i : Nat) : Int)))) rfl ⟨Upd.refl _ _, rfl⟩
       refine ⟨.det (fun val => (pof pv2 ((((i : Nat) : Int) : Int).toNat * 256))), ⟨fun _ _ hv => rfl, fun _ _ _ _ _ => trivial⟩, fun val h_ W hx he => ⟨trivial, ?_⟩, ?_⟩
       ·replace hx := (Upd.drew _ _).trans hx
        replace hp2 := hp2.ext hx
        refine id (X_idx (v := pv2) (n := ps2.length) (k := .i64) (i := ((i : Nat) : Int)) S22 rfl hp2.sv rfl (by omega) (by omega) ?_)
        exact ⟨Upd.refl _ _, rfl⟩
       refine ⟨.det (fun val => (.agg (((b.1).map byteV)).toArray)), ⟨fun _ _ hv => rfl, fun _ _ _ _ _ => trivial⟩, fun val h_ W hx he => ⟨trivial, ?_⟩, ?_⟩
       ·replace hx := (Upd.drew _ _).trans hx
        replace hp2 := hp2.ext hx
        refine id (X_loadA (xs := b.1.map byteV) A37 rfl (pall hp2 (Int.toNat_natCast _) hbi) (by rw [List.length_map]; exact b.2) ?_)
        exact ⟨Upd.refl _ _, rfl⟩
       intro val W11 hx11 he11
       replace hx11 := (Upd.drew _ _).trans hx11
       have hz11 := hx11.size
       replace hp := hp.ext hx11
       replace hp2 := hp2.ext hx11
       replace hc := hc.ext hx11
       replace hc2 := hc2.ext hx11
       replace hU := hU.trans (Ext.upd hx11)
       replace hB1 := hB1.ext hx11
       replace hB2 := hB2.ext hx11
       refine L_op rfl (X_eqA (n := 256) (l := a.1) (m := b.1) (r := true) Try.underlying37 Try.underlying5 (by kernel_rfl) (by kernel_rfl) (by kernel_rfl) rfl rfl (a.2) (b.2) (.inr ⟨rfl, (by rw [hs9]; rfl)⟩) ?_)
       refine L_nil ?_
       refine T_n ?_
       refine W_ct rfl ?_
       refine W_seq ?_
       refine W_reg ?_
       refine L_op rfl (X_assign (v := (.bool (false))) rfl ?_)
       refine L_nil ?_
       refine T_n ?_
       refine W_ret ?_
       refine B_r ?_
       refine T_r ?_
       refine T_r ?_
       refine B_r ?_
       refine T_r ?_
       exact BQ_r (End_1 Try.results13 (v := .bool false) rfl ⟨⟨false, rfl, ⟨fun h => (by cases h), fun h => (by exact absurd h.1 (not_same hai hbi (fun h_ => by subst h_; rw [beq_self_eq_true] at hs9; cases hs9)))⟩⟩, hU.own hn0⟩)
     ·refine L_op rfl (X_cmp (k := .i64) (a := ((i : Nat) : Int)) (b := ((ps.length : Nat) : Int)) (r := false) rfl rfl rfl (decide_eq_false (p := ((((i : Nat) : Int)) : Int) < ((((ps.length : Nat) : Int)) : Int)) (by omega)) ?_)
      refine L_nil ?_
      refine T_n ?_
      refine W_cf rfl ?_
      refine W_exit ?_
      refine T_e ?_
      refine T_e ?_
      refine B_x ?_
      refine T_n ?_
      refine W_seq ?_
      refine W_seq ?_
      refine W_reg ?_
      refine L_op rfl (X_assign (v := (.int .i64 (0))) rfl ?_)
      refine L_nil ?_
      refine T_n ?_
      refine W_block ?_
      refine W_loop (α := Nat) [4, 6, 56, 57, 58, 59, 60, 61, 62, 63, 64, 65, 66, 67, 68, 69, 70, 71, 72, 73] (fun i => [(6, (.int .i64 (((i : Nat) : Int))))]) (fun i w_ => i ≤ cs.length ∧ NRd LP w_ lo up pv ps ∧ NRd LP w_ lo2 up2 pv2 ps2 ∧ NRd LW w_ lo up cv cs ∧ NRd LW w_ lo2 up2 cv2 cs2 ∧ Blk w_ b1 #[pv, cv, bv, .bool off] 26 ∧ Blk w_ b2 #[pv2, cv2, bv2, .bool off2] 26 ∧ Upd (fun i => n0 ≤ i) w w_ ∧ cs.take i = cs2.take i) (fun i => cs.length - i) ⟨rfl, 0, ⟨Nat.zero_le _, hp, hp2, hc, hc2, hB1, hB2, hU, rfl⟩, Out.refl _ _, ⟨rfl, trivial⟩⟩ ?_
      rintro i w12 _ ⟨hil, hp, hp2, hc, hc2, hB1, hB2, hU, hzc⟩
      refine W_seq ?_
      refine W_seq ?_
      refine W_reg ?_
      refine L_op rfl (X_move (v := (.int .i64 (((i : Nat) : Int)))) rfl ?_)
      refine L_op rfl (X_fldP (b := b1) (o := 0) (r := 1) Fd26_1 rfl rfl ?_)
      refine L_op rfl (X_load (p := (ptr b1 (1))) (v := cv) T23 rfl (hB1.at1 rfl) ?_)
      refine L_op rfl (X_len (v := cv) (n := cs.length) Try.underlying23 rfl hc.sv ?_)
      by_cases hc13 : (((i : Nat) : Int) : Int) < (((cs.length : Nat) : Int))
      ·refine L_op rfl (X_cmp (k := .i64) (a := ((i : Nat) : Int)) (b := ((cs.length : Nat) : Int)) (r := true) rfl rfl rfl (decide_eq_true (p := ((((i : Nat) : Int)) : Int) < ((((cs.length : Nat) : Int)) : Int)) (by omega)) ?_)
       have hi : i < cs.length := by omega
       obtain ⟨a, hai⟩ : ∃ a, cs[i]? = some a := ⟨_, List.getElem?_eq_getElem hi⟩
       obtain ⟨b, hbi⟩ : ∃ b, cs2[i]? = some b := ⟨_, List.getElem?_eq_getElem (by omega)⟩
       refine L_nil ?_
       refine T_n ?_
       refine W_ct rfl ?_
       refine W_skip ?_
       refine T_n ?_
       refine W_seq ?_
       refine W_block ?_
       refine W_seq ?_
       rcases Bool.eq_false_or_eq_true ((a.1 == b.1 && a.2.1 == b.2.1)) with hs14 | hs14
       ·refine W_draw 10 [[], [0], [], [0, 1, 2], [0, 1, 2, 3], [], [5], [], [5, 6, 7], [5, 6, 7, 8], [0, 1, 2, 3, 4, 5, 6, 7, 8, 9]] mixed (by kernel_rfl) ?_
        refine ⟨.det (fun val => (ptr b1 (1))), ⟨fun _ _ hv => rfl, fun _ _ _ _ _ => trivial⟩, fun val h_ W hx he => ⟨trivial, ?_⟩, ?_⟩
        ·exact X_fldP (b := b1) (o := 0) (r := 1) Fd26_1 rfl rfl ⟨Upd.refl _ _, rfl⟩
        refine ⟨.det (fun val => cv), ⟨fun _ _ hv => rfl, fun _ _ _ _ _ => trivial⟩, fun val h_ W hx he => ⟨trivial, ?_⟩, ?_⟩
        ·replace hx := (Upd.drew _ _).trans hx
         replace hB1 := hB1.ext hx
         refine id (X_load (p := (ptr b1 (1))) (v := cv) T23 rfl (hB1.at1 rfl) ?_)
         exact ⟨Upd.refl _ _, rfl⟩
        refine ⟨.det (fun val => (.int .i64 (((i : Nat) : Int)))), ⟨fun _ _ hv => rfl, fun _ _ _ _ _ => trivial⟩, fun val h_ W hx he => ⟨trivial, ?_⟩, ?_⟩
        ·exact X_move (v := (.int .i64 (((i : Nat) : Int)))) rfl ⟨Upd.refl _ _, rfl⟩
        refine ⟨.det (fun val => (pof cv ((((i : Nat) : Int) : Int).toNat * 257))), ⟨fun _ _ hv => rfl, fun _ _ _ _ _ => trivial⟩, fun val h_ W hx he => ⟨trivial, ?_⟩, ?_⟩
        ·replace hx := (Upd.drew _ _).trans hx
         replace hc := hc.ext hx
         refine id (X_idx (v := cv) (n := cs.length) (k := .i64) (i := ((i : Nat) : Int)) S23 rfl hc.sv rfl (by omega) (by omega) ?_)
         exact ⟨Upd.refl _ _, rfl⟩
        refine ⟨.det (fun val => (wrV a)), ⟨fun _ _ hv => rfl, fun _ _ _ _ _ => trivial⟩, fun val h_ W hx he => ⟨trivial, ?_⟩, ?_⟩
        ·replace hx := (Upd.drew _ _).trans hx
         replace hc := hc.ext hx
         refine id (X_loadA (xs := LW.cel a) A63 rfl (wall hc (Int.toNat_natCast _) hai) (LW.len _) ?_)
         exact ⟨Upd.refl _ _, rfl⟩
        refine ⟨.det (fun val => (ptr b2 (1))), ⟨fun _ _ hv => rfl, fun _ _ _ _ _ => trivial⟩, fun val h_ W hx he => ⟨trivial, ?_⟩, ?_⟩
        ·exact X_fldP (b := b2) (o := 0) (r := 1) Fd26_1 rfl rfl ⟨Upd.refl _ _, rfl⟩
        refine ⟨.det (fun val => cv2), ⟨fun _ _ hv => rfl, fun _ _ _ _ _ => trivial⟩, fun val h_ W hx he => ⟨trivial, ?_⟩, ?_⟩
        ·replace hx := (Upd.drew _ _).trans hx
         replace hB2 := hB2.ext hx
         refine id (X_load (p := (ptr b2 (1))) (v := cv2) T23 rfl (hB2.at1 rfl) ?_)
         exact ⟨Upd.refl _ _, rfl⟩
        refine ⟨.det (fun val => (.int .i64 (((i : Nat) : Int)))), ⟨fun _ _ hv => rfl, fun _ _ _ _ _ => trivial⟩, fun val h_ W hx he => ⟨trivial, ?_⟩, ?_⟩
        ·exact X_move (v := (.int .i64 (((i : Nat) : Int)))) rfl ⟨Upd.refl _ _, rfl⟩
        refine ⟨.det (fun val => (pof cv2 ((((i : Nat) : Int) : Int).toNat * 257))), ⟨fun _ _ hv => rfl, fun _ _ _ _ _ => trivial⟩, fun val h_ W hx he => ⟨trivial, ?_⟩, ?_⟩
        ·replace hx := (Upd.drew _ _).trans hx
         replace hc2 := hc2.ext hx
         refine id (X_idx (v := cv2) (n := cs2.length) (k := .i64) (i := ((i : Nat) : Int)) S23 rfl hc2.sv rfl (by omega) (by omega) ?_)
         exact ⟨Upd.refl _ _, rfl⟩
        refine ⟨.det (fun val => (wrV b)), ⟨fun _ _ hv => rfl, fun _ _ _ _ _ => trivial⟩, fun val h_ W hx he => ⟨trivial, ?_⟩, ?_⟩
        ·replace hx := (Upd.drew _ _).trans hx
         replace hc2 := hc2.ext hx
         refine id (X_loadA (xs := LW.cel b) A63 rfl (wall hc2 (Int.toNat_natCast _) hbi) (LW.len _) ?_)
         exact ⟨Upd.refl _ _, rfl⟩
        intro val W15 hx15 he15
        replace hx15 := (Upd.drew _ _).trans hx15
        have hz15 := hx15.size
        replace hp := hp.ext hx15
        replace hp2 := hp2.ext hx15
        replace hc := hc.ext hx15
        replace hc2 := hc2.ext hx15
        replace hU := hU.trans (Ext.upd hx15)
        replace hB1 := hB1.ext hx15
        replace hB2 := hB2.ext hx15
        refine L_op rfl (X_eqW (p := a) (q := b) (r := false) Try.underlying63 (by kernel_rfl) (by kernel_rfl) (by decide) ⟨rfl, rfl⟩ Try.underlying3 Try.underlying37 (by kernel_rfl) Try.underlying5 (ie := _) rfl (by kernel_rfl) (by kernel_rfl) rfl rfl (.inr ⟨rfl, by rw [hs14]; rfl⟩) ?_)
        refine L_nil ?_
        refine T_n ?_
        refine W_cf rfl ?_
        refine W_skip ?_
        refine B_n ?_
        refine T_n ?_
        refine W_reg ?_
        refine L_op rfl (X_move (v := (.int .i64 (((i : Nat) : Int)))) rfl ?_)
        refine L_op rfl (X_arith (k := .i64) (a := ((i : Nat) : Int)) (b := 1) (r := ((i + 1 : Nat) : Int)) rfl rfl rfl (iadd64 (by omega) (by omega) (by omega)) ?_)
        refine L_op rfl (X_assign (v := (.int .i64 (((i + 1 : Nat) : Int)))) rfl ?_)
        refine L_nil ?_
        refine T_n ?_
        exact ⟨rfl, i + 1, ⟨⟨hi, hp, hp2, hc, hc2, hB1, hB2, hU, take_same hai hbi hzc (wr_beq.1 hs14)⟩, (by show cs.length - (i + 1) < cs.length - i; omega)⟩, (Out.mk rfl), ⟨rfl, trivial⟩⟩
       ·refine W_draw 10 [[], [0], [], [0, 1, 2], [0, 1, 2, 3], [], [5], [], [5, 6, 7], [5, 6, 7, 8], [0, 1, 2, 3, 4, 5, 6, 7, 8, 9]] mixed (by kernel_rfl) ?_
        refine ⟨.det (fun val => (ptr b1 (1))), ⟨fun _ _ hv => rfl, fun _ _ _ _ _ => trivial⟩, fun val h_ W hx he => ⟨trivial, ?_⟩, ?_⟩
        ·exact X_fldP (b := b1) (o := 0) (r := 1) Fd26_1 rfl rfl ⟨Upd.refl _ _, rfl⟩
        refine ⟨.det (fun val => cv), ⟨fun _ _ hv => rfl, fun _ _ _ _ _ => trivial⟩, fun val h_ W hx he => ⟨trivial, ?_⟩, ?_⟩
        ·replace hx := (Upd.drew _ _).trans hx
         replace hB1 := hB1.ext hx
         refine id (X_load (p := (ptr b1 (1))) (v := cv) T23 rfl (hB1.at1 rfl) ?_)
         exact ⟨Upd.refl _ _, rfl⟩
        refine ⟨.det (fun val => (.int .i64 (((i : Nat) : Int)))), ⟨fun _ _ hv => rfl, fun _ _ _ _ _ => trivial⟩, fun val h_ W hx he => ⟨trivial, ?_⟩, ?_⟩
        ·exact X_move (v := (.int .i64 (((i : Nat) : Int)))) rfl ⟨Upd.refl _ _, rfl⟩
        refine ⟨.det (fun val => (pof cv ((((i : Nat) : Int) : Int).toNat * 257))), ⟨fun _ _ hv => rfl, fun _ _ _ _ _ => trivial⟩, fun val h_ W hx he => ⟨trivial, ?_⟩, ?_⟩
        ·replace hx := (Upd.drew _ _).trans hx
         replace hc := hc.ext hx
         refine id (X_idx (v := cv) (n := cs.length) (k := .i64) (i := ((i : Nat) : Int)) S23 rfl hc.sv rfl (by omega) (by omega) ?_)
         exact ⟨Upd.refl _ _, rfl⟩
        refine ⟨.det (fun val => (wrV a)), ⟨fun _ _ hv => rfl, fun _ _ _ _ _ => trivial⟩, fun val h_ W hx he => ⟨trivial, ?_⟩, ?_⟩
        ·replace hx := (Upd.drew _ _).trans hx
         replace hc := hc.ext hx
         refine id (X_loadA (xs := LW.cel a) A63 rfl (wall hc (Int.toNat_natCast _) hai) (LW.len _) ?_)
         exact ⟨Upd.refl _ _, rfl⟩
        refine ⟨.det (fun val => (ptr b2 (1))), ⟨fun _ _ hv => rfl, fun _ _ _ _ _ => trivial⟩, fun val h_ W hx he => ⟨trivial, ?_⟩, ?_⟩
        ·exact X_fldP (b := b2) (o := 0) (r := 1) Fd26_1 rfl rfl ⟨Upd.refl _ _, rfl⟩
        refine ⟨.det (fun val => cv2), ⟨fun _ _ hv => rfl, fun _ _ _ _ _ => trivial⟩, fun val h_ W hx he => ⟨trivial, ?_⟩, ?_⟩
        ·replace hx := (Upd.drew _ _).trans hx
         replace hB2 := hB2.ext hx
         refine id (X_load (p := (ptr b2 (1))) (v := cv2) T23 rfl (hB2.at1 rfl) ?_)
         exact ⟨Upd.refl _ _, rfl⟩
        refine ⟨.det (fun val => (.int .i64 (((i : Nat) : Int)))), ⟨fun _ _ hv => rfl, fun _ _ _ _ _ => trivial⟩, fun val h_ W hx he => ⟨trivial, ?_⟩, ?_⟩
        ·exact X_move (v := (.int .i64 (((i : Nat) : Int)))) rfl ⟨Upd.refl _ _, rfl⟩
        refine ⟨.det (fun val => (pof cv2 ((((i : Nat) : Int) : Int).toNat * 257))), ⟨fun _ _ hv => rfl, fun _ _ _ _ _ => trivial⟩, fun val h_ W hx he => ⟨trivial, ?_⟩, ?_⟩
        ·replace hx := (Upd.drew _ _).trans hx
         replace hc2 := hc2.ext hx
         refine id (X_idx (v := cv2) (n := cs2.length) (k := .i64) (i := ((i : Nat) : Int)) S23 rfl hc2.sv rfl (by omega) (by omega) ?_)
         exact ⟨Upd.refl _ _, rfl⟩
        refine ⟨.det (fun val => (wrV b)), ⟨fun _ _ hv => rfl, fun _ _ _ _ _ => trivial⟩, fun val h_ W hx he => ⟨trivial, ?_⟩, ?_⟩
        ·replace hx := (Upd.drew _ _).trans hx
         replace hc2 := hc2.ext hx
         refine id (X_loadA (xs := LW.cel b) A63 rfl (wall hc2 (Int.toNat_natCast _) hbi) (LW.len _) ?_)
         exact ⟨Upd.refl _ _, rfl⟩
        intro val W16 hx16 he16
        replace hx16 := (Upd.drew _ _).trans hx16
        have hz16 := hx16.size
        replace hp := hp.ext hx16
        replace hp2 := hp2.ext hx16
        replace hc := hc.ext hx16
        replace hc2 := hc2.ext hx16
        replace hU := hU.trans (Ext.upd hx16)
        replace hB1 := hB1.ext hx16
        replace hB2 := hB2.ext hx16
        refine L_op rfl (X_eqW (p := a) (q := b) (r := true) Try.underlying63 (by kernel_rfl) (by kernel_rfl) (by decide) ⟨rfl, rfl⟩ Try.underlying3 Try.underlying37 (by kernel_rfl) Try.underlying5 (ie := _) rfl (by kernel_rfl) (by kernel_rfl) rfl rfl (.inr ⟨rfl, by rw [hs14]; rfl⟩) ?_)
        refine L_nil ?_
        refine T_n ?_
        refine W_ct rfl ?_
        refine W_seq ?_
        refine W_reg ?_
        refine L_op rfl (X_assign (v := (.bool (false))) rfl ?_)
        refine L_nil ?_
        refine T_n ?_
        refine W_ret ?_
        refine B_r ?_
        refine T_r ?_
        refine T_r ?_
        refine B_r ?_
        refine T_r ?_
        exact BQ_r (End_1 Try.results13 (v := .bool false) rfl ⟨⟨false, rfl, ⟨fun h => (by cases h), fun h => (by exact absurd h.2.1 (not_same hai hbi (fun h_ => by have h1 := wr_beq.2 h_; rw [hs14] at h1; cases h1)))⟩⟩, hU.own hn0⟩)
      ·refine L_op rfl (X_cmp (k := .i64) (a := ((i : Nat) : Int)) (b := ((cs.length : Nat) : Int)) (r := false) rfl rfl rfl (decide_eq_false (p := ((((i : Nat) : Int)) : Int) < ((((cs.length : Nat) : Int)) : Int)) (by omega)) ?_)
       refine L_nil ?_
       refine T_n ?_
       refine W_cf rfl ?_
       refine W_exit ?_
       refine T_e ?_
       refine T_e ?_
       refine B_x ?_
       refine T_n ?_
       refine W_seq ?_
       refine W_reg ?_
       refine L_op rfl (X_assign (v := (.bool (true))) rfl ?_)
       refine L_nil ?_
       refine T_n ?_
       refine W_ret ?_
       exact BQ_r (End_1 Try.results13 (v := .bool true) rfl ⟨⟨true, rfl, ⟨fun _ => ⟨take_eq hzp (by omega) (by omega), take_eq hzc (by omega) (by omega), hgI.1 hc6, by simpa using hoo⟩, fun _ => rfl⟩⟩, hU.own hn0⟩)
    ·rw [hc6]
     refine L_gy (dj := 30) rfl rfl rfl (X_not (b := false) (r := true) rfl rfl ?_)
     refine L_op rfl (X_pick (t := false) (v := (.bool (true))) rfl rfl ?_)
     refine L_nil ?_
     refine T_n ?_
     refine W_ct rfl ?_
     refine W_seq ?_
     refine W_reg ?_
     refine L_op rfl (X_assign (v := (.bool (false))) rfl ?_)
     refine L_nil ?_
     refine T_n ?_
     refine W_ret ?_
     refine T_r ?_
     exact BQ_r (End_1 Try.results13 (v := .bool false) rfl ⟨⟨false, rfl, ⟨fun h => (by cases h), fun h => (by have h1 := hgI.2 h.2.2.1; rw [hc6] at h1; cases h1)⟩⟩, hU.own hn0⟩)
   ·refine L_gy (dj := 23) rfl rfl rfl (X_cmpBool (a := off) (b := off2) (r := true) Try.underlying4 rfl rfl (.inr ⟨rfl, by rw [hoo]; rfl⟩) ?_)
    refine L_op rfl (X_pick (t := false) (v := (.bool (true))) rfl rfl ?_)
    refine L_op rfl (X_move (v := (.bool (true))) rfl ?_)
    refine L_gn (dj := 30) (t := true) rfl rfl rfl rfl ?_
    refine L_gn (dj := 30) (t := true) rfl rfl rfl rfl ?_
    refine L_gn (dj := 30) (t := true) rfl rfl rfl rfl ?_
    refine L_gn (dj := 30) (t := true) rfl rfl rfl rfl ?_
    refine L_gn (dj := 30) (t := true) rfl rfl rfl rfl ?_
    refine L_gn (dj := 30) (t := true) rfl rfl rfl rfl ?_
    refine L_op rfl (X_pick (t := true) (v := (.bool (true))) rfl rfl ?_)
    refine L_nil ?_
    refine T_n ?_
    refine W_ct rfl ?_
    refine W_seq ?_
    refine W_reg ?_
    refine L_op rfl (X_assign (v := (.bool (false))) rfl ?_)
    refine L_nil ?_
    refine T_n ?_
    refine W_ret ?_
    refine T_r ?_
    exact BQ_r (End_1 Try.results13 (v := .bool false) rfl ⟨⟨false, rfl, ⟨fun h => (by cases h), fun h => (by have h1 := h.2.2.2; rw [h1, beq_self_eq_true] at hoo; cases hoo)⟩⟩, hU.own hn0⟩)
end Go.Proofs.Ytcjfkkoapncnhaa
