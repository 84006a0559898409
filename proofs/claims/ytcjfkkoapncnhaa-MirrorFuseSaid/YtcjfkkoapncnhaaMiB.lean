/-
 What chapter 10 takes over of chapter 03: the references, what is the same. (Printed by wip/gen/t10b.py of this repo.)
-/
import Derived.Test.YtcjfkkoapncnhaaMi
namespace Go.Proofs.Ytcjfkkoapncnhaa
open Go Go.SL Go.Proofs
set_option linter.unusedVariables false

theorem hits_head {cs : List Wr} {n : Int} {k : Nat} {e : Wr} (hk : k < cs.length) (he : cs[cs.length - 1 - k]? = some e) (h : e.1 = n) (h0 : cntW cs n k = 0) : (hitsW cs n)[0]? = some e.2 := by
 have h1 := rev_at hk he
 have hlt := (List.getElem?_eq_some_iff.1 h1).1
 have e1 : cs.reverse = cs.reverse.take k ++ e :: cs.reverse.drop (k + 1) := by
  have h2 := (List.getElem?_eq_some_iff.1 h1).2
  rw [← h2, ← List.drop_eq_getElem_cons hlt, List.take_append_drop]
 have h2 : (cs.reverse.take k).filter (fun e => decide (e.1 = n)) = [] := List.eq_nil_of_length_eq_zero h0
 unfold hitsW
 rw [e1, List.filter_append, h2]
 simp [h]
theorem hits_none {cs : List Wr} {n : Int} (h : cntW cs n cs.length = 0) : hitsW cs n = [] := by
 rw [cntW_all] at h
 exact List.eq_nil_of_length_eq_zero h
theorem no_mem {bs : List Int} {n : Int} (h : ∀ (j : Nat) (a : Int), j < bs.length → bs[j]? = some a → a ≠ n) : n ∉ bs := fun hm => by
 obtain ⟨j, hj, he⟩ := List.getElem_of_mem hm
 exact h j _ hj (List.getElem?_eq_getElem hj) he

theorem c_atR (pv cv bv : Value) (ps : List Pg) (cs : List Wr) (bs : List Int) (off : Bool) (n : Int) (w : World) (lo up : Nat) (hup : up ≤ w.heap.size) (hp : NRd LP w lo up pv ps) (hc : NRd LW w lo up cv cs) (hb : NRd LI w lo up bv bs) : CT Try.prog 31 #[(.agg #[pv, cv, bv, (.bool (off))]), (.int .i64 (n))] w fun v w' => v = .int .i64 (askE ps.length cs bs off n) ∧ Ext w w' := by
 obtain ⟨n0, hn0⟩ : ∃ n, n = w.heap.size := ⟨_, rfl⟩
 have hU : Upd (fun i => n0 ≤ i) w w := Upd.refl _ _
 have hpl := hp.sv.len
 have hcl := hc.sv.len
 have hbl := hb.sv.len
 rw [← hn0] at hup
 refine CT_of Try.func31 rfl rfl rfl ?_
 refine W_seq ?_
 refine W_reg ?_
 refine L_op rfl (X_box (v := (.agg #[pv, cv, bv, (.bool (off))])) (c := ([pv, cv, bv, (.bool (off))]).toArray) rfl rfl ?_)
 intro b1 w1 hn1
 have hbn1 := hn1.num; have hbs1 := hn1.size
 replace hp := hp.ext hn1.ext
 replace hc := hc.ext hn1.ext
 replace hb := hb.ext hn1.ext
 replace hU := hU.trans (Ext.upd hn1.ext)
 have hB1 := hn1.blk
 refine L_op rfl (X_assign (v := (.int .i64 (0))) rfl ?_)
 refine L_nil ?_
 refine T_n ?_
 refine W_seq ?_
 refine W_seq ?_
 refine W_reg ?_
 refine L_op rfl (X_loadA (p := (ptr b1 (0))) (xs := [pv, cv, bv, (.bool (off))]) A26 rfl hB1.atAll rfl ?_)
 refine L_op rfl (X_fn (vs := [(.agg ([pv, cv, bv, (.bool (off))]).toArray)]) en7 rfl (CT.mono (c_mayR pv cv bv ps cs bs off _ lo up hp hc hb) ?_))
 rintro _ w2 ⟨⟨g_, rfl, hg_⟩, hu2⟩
 have hz2 := hu2.size
 replace hp := hp.ext hu2
 replace hc := hc.ext hu2
 replace hb := hb.ext hu2
 replace hU := hU.trans (Ext.upd hu2)
 replace hB1 := hB1.ext hu2
 rcases Bool.eq_false_or_eq_true (g_) with hc3 | hc3
 ·rw [hc3]
  refine L_op rfl (X_not (b := true) (r := false) rfl rfl ?_)
  refine L_op rfl (X_move (v := (.bool (false))) rfl ?_)
  refine L_gy (dj := 8) rfl rfl rfl (X_move (v := (.int .i64 (n))) rfl ?_)
  by_cases hc4 : (n : Int) < (0)
  ·refine L_gy (dj := 8) rfl rfl rfl (X_cmp (k := .i64) (a := n) (b := 0) (r := true) rfl rfl rfl (decide_eq_true (p := ((n) : Int) < ((0) : Int)) (by omega)) ?_)
   refine L_op rfl (X_pick (t := false) (v := (.bool (true))) rfl rfl ?_)
   refine L_op rfl (X_move (v := (.bool (true))) rfl ?_)
   refine L_gn (dj := 12) (t := true) rfl rfl rfl rfl ?_
   refine L_gn (dj := 12) (t := true) rfl rfl rfl rfl ?_
   refine L_gn (dj := 12) (t := true) rfl rfl rfl rfl ?_
   refine L_gn (dj := 12) (t := true) rfl rfl rfl rfl ?_
   refine L_gn (dj := 12) (t := true) rfl rfl rfl rfl ?_
   refine L_op rfl (X_pick (t := true) (v := (.bool (true))) rfl rfl ?_)
   refine L_nil ?_
   refine T_n ?_
   refine W_ct rfl ?_
   refine W_seq ?_
   refine W_reg ?_
   refine L_op rfl (X_assign (v := (.int .i64 (2))) rfl ?_)
   refine L_nil ?_
   refine T_n ?_
   refine W_ret ?_
   refine T_r ?_
   exact BQ_r (End_1 Try.results31 (v := .int .i64 2) rfl ⟨by rw [askE_bad (fun h => by omega)], hU.own hn0⟩)
  ·refine L_gy (dj := 8) rfl rfl rfl (X_cmp (k := .i64) (a := n) (b := 0) (r := false) rfl rfl rfl (decide_eq_false (p := ((n) : Int) < ((0) : Int)) (by omega)) ?_)
   refine L_op rfl (X_pick (t := false) (v := (.bool (false))) rfl rfl ?_)
   refine L_op rfl (X_move (v := (.bool (false))) rfl ?_)
   refine L_gy (dj := 12) rfl rfl rfl (X_move (v := (.int .i64 (n))) rfl ?_)
   refine L_gy (dj := 12) rfl rfl rfl (X_fldP (b := b1) (o := 0) (r := 0) Fd26_0 rfl rfl ?_)
   refine L_gy (dj := 12) rfl rfl rfl (X_load (p := (ptr b1 (0))) (v := pv) T22 rfl (hB1.at1 rfl) ?_)
   refine L_gy (dj := 12) rfl rfl rfl (X_len (v := pv) (n := ps.length) Try.underlying22 rfl hp.sv ?_)
   by_cases hc5 : (n : Int) ≥ (((ps.length : Nat) : Int))
   ·refine L_gy (dj := 12) rfl rfl rfl (X_cmp (k := .i64) (a := n) (b := ((ps.length : Nat) : Int)) (r := true) rfl rfl rfl (decide_eq_true (p := ((((ps.length : Nat) : Int)) : Int) ≤ ((n) : Int)) (by omega)) ?_)
    refine L_op rfl (X_pick (t := false) (v := (.bool (true))) rfl rfl ?_)
    refine L_nil ?_
    refine T_n ?_
    refine W_ct rfl ?_
    refine W_seq ?_
    refine W_reg ?_
    refine L_op rfl (X_assign (v := (.int .i64 (2))) rfl ?_)
    refine L_nil ?_
    refine T_n ?_
    refine W_ret ?_
    refine T_r ?_
    exact BQ_r (End_1 Try.results31 (v := .int .i64 2) rfl ⟨by rw [askE_bad (fun h => by omega)], hU.own hn0⟩)
   ·refine L_gy (dj := 12) rfl rfl rfl (X_cmp (k := .i64) (a := n) (b := ((ps.length : Nat) : Int)) (r := false) rfl rfl rfl (decide_eq_false (p := ((((ps.length : Nat) : Int)) : Int) ≤ ((n) : Int)) (by omega)) ?_)
    refine L_op rfl (X_pick (t := false) (v := (.bool (false))) rfl rfl ?_)
    refine L_nil ?_
    refine T_n ?_
    refine W_cf rfl ?_
    refine W_skip ?_
    refine T_n ?_
    refine W_seq ?_
    refine W_seq ?_
    refine W_reg ?_
    refine L_op rfl (X_fldP (b := b1) (o := 0) (r := 3) Fd26_3 rfl rfl ?_)
    rcases Bool.eq_false_or_eq_true off with ho6 | ho6
    ·refine L_op rfl (X_load (p := (ptr b1 (3))) (v := .bool true) T4 rfl (hB1.at1 (by rw [ho6]; rfl)) ?_)
     refine L_nil ?_
     refine T_n ?_
     refine W_ct rfl ?_
     refine W_seq ?_
     refine W_reg ?_
     refine L_op rfl (X_assign (v := (.int .i64 (30))) rfl ?_)
     refine L_nil ?_
     refine T_n ?_
     refine W_ret ?_
     refine T_r ?_
     exact BQ_r (End_1 Try.results31 (v := .int .i64 30) rfl ⟨by rw [askE_off (hg_.1 hc3) (by omega) (by omega) ho6], hU.own hn0⟩)
    ·refine L_op rfl (X_load (p := (ptr b1 (3))) (v := .bool false) T4 rfl (hB1.at1 (by rw [ho6]; rfl)) ?_)
     refine L_nil ?_
     refine T_n ?_
     refine W_cf rfl ?_
     refine W_skip ?_
     refine T_n ?_
     refine W_seq ?_
     refine W_reg ?_
     refine L_op rfl (X_assign (v := (.int .i64 (0))) rfl ?_)
     refine L_nil ?_
     refine T_n ?_
     refine W_ret ?_
     exact BQ_r (End_1 Try.results31 (v := .int .i64 0) rfl ⟨by rw [askE_ok (hg_.1 hc3) (by omega) (by omega) ho6], hU.own hn0⟩)
 ·rw [hc3]
  refine L_op rfl (X_not (b := false) (r := true) rfl rfl ?_)
  refine L_op rfl (X_move (v := (.bool (true))) rfl ?_)
  refine L_gn (dj := 8) (t := true) rfl rfl rfl rfl ?_
  refine L_gn (dj := 8) (t := true) rfl rfl rfl rfl ?_
  refine L_op rfl (X_pick (t := true) (v := (.bool (true))) rfl rfl ?_)
  refine L_op rfl (X_move (v := (.bool (true))) rfl ?_)
  refine L_gn (dj := 12) (t := true) rfl rfl rfl rfl ?_
  refine L_gn (dj := 12) (t := true) rfl rfl rfl rfl ?_
  refine L_gn (dj := 12) (t := true) rfl rfl rfl rfl ?_
  refine L_gn (dj := 12) (t := true) rfl rfl rfl rfl ?_
  refine L_gn (dj := 12) (t := true) rfl rfl rfl rfl ?_
  refine L_op rfl (X_pick (t := true) (v := (.bool (true))) rfl rfl ?_)
  refine L_nil ?_
  refine T_n ?_
  refine W_ct rfl ?_
  refine W_seq ?_
  refine W_reg ?_
  refine L_op rfl (X_assign (v := (.int .i64 (2))) rfl ?_)
  refine L_nil ?_
  refine T_n ?_
  refine W_ret ?_
  refine T_r ?_
  exact BQ_r (End_1 Try.results31 (v := .int .i64 2) rfl ⟨by rw [askE_bad (fun h => by have h1 := hg_.2 h.1; rw [hc3] at h1; cases h1)], hU.own hn0⟩)

theorem c_readR (pv cv bv : Value) (ps : List Pg) (cs : List Wr) (bs : List Int) (off : Bool) (n : Int) (w : World) (lo up : Nat) (hup : up ≤ w.heap.size) (hp : NRd LP w lo up pv ps) (hc : NRd LW w lo up cv cs) (hb : NRd LI w lo up bv bs) : CT Try.prog 14 #[(.agg #[pv, cv, bv, (.bool (off))]), (.int .i64 (n))] w fun v w' => v = .tuple #[pageV (readE ps cs bs off n).1, .int .i64 (readE ps cs bs off n).2] ∧ Ext w w' := by
 obtain ⟨n0, hn0⟩ : ∃ n, n = w.heap.size := ⟨_, rfl⟩
 have hU : Upd (fun i => n0 ≤ i) w w := Upd.refl _ _
 have hpl := hp.sv.len
 have hcl := hc.sv.len
 have hbl := hb.sv.len
 rw [← hn0] at hup
 refine CT_of Try.func14 rfl rfl rfl ?_
 refine W_seq ?_
 refine W_reg ?_
 refine L_op rfl (X_box (v := (.agg #[pv, cv, bv, (.bool (off))])) (c := ([pv, cv, bv, (.bool (off))]).toArray) rfl rfl ?_)
 intro b1 w1 hn1
 have hbn1 := hn1.num; have hbs1 := hn1.size
 replace hp := hp.ext hn1.ext
 replace hc := hc.ext hn1.ext
 replace hb := hb.ext hn1.ext
 replace hU := hU.trans (Ext.upd hn1.ext)
 have hB1 := hn1.blk
 refine L_op rfl (X_alloc (z := zv37) (c := zc37.toArray) Zv37 rfl ?_)
 intro b2 w2 hn2
 have hbn2 := hn2.num; have hbs2 := hn2.size
 replace hp := hp.ext hn2.ext
 replace hc := hc.ext hn2.ext
 replace hb := hb.ext hn2.ext
 replace hU := hU.trans (Ext.upd hn2.ext)
 replace hB1 := hB1.ext hn2.ext
 have hB2 := hn2.blk
 rw [zc37_eq] at hB2
 refine L_op rfl (X_assign (v := (.int .i64 (0))) rfl ?_)
 refine L_nil ?_
 refine T_n ?_
 refine W_seq ?_
 refine W_reg ?_
 refine L_op rfl (X_loadA (p := (ptr b1 (0))) (xs := [pv, cv, bv, (.bool (off))]) A26 rfl hB1.atAll rfl ?_)
 refine L_op rfl (X_move (v := (.int .i64 (n))) rfl ?_)
 refine L_op rfl (X_fn (vs := [(.agg ([pv, cv, bv, (.bool (off))]).toArray), (.int .i64 (n))]) en31 rfl (CT.mono (c_atR pv cv bv ps cs bs off n _ lo up (by omega) hp hc hb) ?_))
 rintro _ w3 ⟨rfl, hu3⟩
 have hz3 := hu3.size
 replace hp := hp.ext hu3
 replace hc := hc.ext hu3
 replace hb := hb.ext hu3
 replace hU := hU.trans (Ext.upd hu3)
 replace hB1 := hB1.ext hu3
 replace hB2 := hB2.ext hu3
 refine L_op rfl (X_assign (v := (.int .i64 ((askE ps.length cs bs off n)))) rfl ?_)
 refine L_nil ?_
 refine T_n ?_
 refine W_seq ?_
 refine W_seq ?_
 refine W_reg ?_
 refine L_op rfl (X_move (v := (.int .i64 ((askE ps.length cs bs off n)))) rfl ?_)
 by_cases hc4 : ((askE ps.length cs bs off n) : Int) ≠ (0)
 ·refine L_op rfl (X_cmp (k := .i64) (a := (askE ps.length cs bs off n)) (b := 0) (r := true) rfl rfl rfl (decide_eq_true (p := (((askE ps.length cs bs off n)) : Int) ≠ ((0) : Int)) (by omega)) ?_)
  refine L_nil ?_
  refine T_n ?_
  refine W_ct rfl ?_
  refine W_seq ?_
  refine W_reg ?_
  refine L_op rfl (X_build built37 ?_)
  refine L_op rfl (X_move (v := (.int .i64 ((askE ps.length cs bs off n)))) rfl ?_)
  refine L_op0 (X_storeW (b := b2) (ys := (((List.replicate 256 (0 : UInt8))).map byteV)) A37 rfl rfl (byteV_one _) (by rw [List.length_map]; exact List.length_replicate) hB2 (by rw [List.size_toArray]; exact (by rw [List.length_map]; exact List.length_replicate)) ?_)
  intro w5 hu5 hb5
  have hz5 := hu5.size
  replace hp := hp.upd hu5 fun i h1 h2 h => by have h : i = b2 := h; omega
  replace hc := hc.upd hu5 fun i h1 h2 h => by have h : i = b2 := h; omega
  replace hb := hb.upd hu5 fun i h1 h2 h => by have h : i = b2 := h; omega
  replace hU := hU.trans (hu5.mono fun i _ h => by have h : i = b2 := h; show n0 ≤ i; omega)
  replace hB1 := hB1.upd hu5 fun h => by have h : b1 = b2 := h; omega
  replace hB2 := hb5
  refine L_op rfl (X_assign (v := (.int .i64 ((askE ps.length cs bs off n)))) rfl ?_)
  refine L_nil ?_
  refine T_n ?_
  refine W_ret ?_
  refine T_r ?_
  rw [readE_bad hc4]
  exact BQ_r (End_2 Try.results14 (v1 := pageV default) (RV_A A37 rfl hB2.atAll (by rw [List.length_map]; exact List.length_replicate)) (v2 := .int .i64 (askE ps.length cs bs off n)) rfl ⟨rfl, hU.own hn0⟩)
 ·refine L_op rfl (X_cmp (k := .i64) (a := (askE ps.length cs bs off n)) (b := 0) (r := false) rfl rfl rfl (decide_eq_false (p := (((askE ps.length cs bs off n)) : Int) ≠ ((0) : Int)) (by omega)) ?_)
  have hq0 : (askE ps.length cs bs off n) = 0 := by omega
  have hz0 := askE_zero hq0
  refine L_nil ?_
  refine T_n ?_
  refine W_cf rfl ?_
  refine W_skip ?_
  refine T_n ?_
  refine W_seq ?_
  refine W_seq ?_
  refine W_reg ?_
  refine L_op rfl (X_fldP (b := b1) (o := 0) (r := 1) Fd26_1 rfl rfl ?_)
  refine L_op rfl (X_load (p := (ptr b1 (1))) (v := cv) T23 rfl (hB1.at1 rfl) ?_)
  refine L_op rfl (X_len (v := cv) (n := cs.length) Try.underlying23 rfl hc.sv ?_)
  refine L_op rfl (X_arith (k := .i64) (a := ((cs.length : Nat) : Int)) (b := 1) (r := ((cs.length : Nat) : Int) - 1) rfl rfl rfl (isub64 rfl (by omega) (by omega)) ?_)
  refine L_op rfl (X_assign (v := (.int .i64 (((cs.length : Nat) : Int) - 1))) rfl ?_)
  refine L_nil ?_
  refine T_n ?_
  refine W_block ?_
  refine W_loop (α := Nat) [5, 7, 20, 21, 22, 23, 24, 25, 26, 27, 28, 29, 30, 31, 32, 33, 34, 35, 36, 37] (fun k => [(7, (.int .i64 (((cs.length : Nat) : Int) - 1 - ((k : Nat) : Int))))]) (fun k w_ => k ≤ cs.length ∧ cntW cs n k = 0 ∧ NRd LP w_ lo up pv ps ∧ NRd LW w_ lo up cv cs ∧ NRd LI w_ lo up bv bs ∧ Blk w_ b1 #[pv, cv, bv, .bool off] 26 ∧ Blk w_ b2 ((List.replicate 256 (0 : UInt8)).map byteV).toArray 37 ∧ Upd (fun i => n0 ≤ i) w w_) (fun k => cs.length - k) ⟨rfl, 0, ⟨Nat.zero_le _, rfl, hp, hc, hb, hB1, hB2, hU⟩, Out.refl _ _, ⟨(by show Value.int .i64 (((cs.length : Nat) : Int) - 1) = .int .i64 (((cs.length : Nat) : Int) - 1 - ((0 : Nat) : Int)); congr 1; omega), trivial⟩⟩ ?_
  rintro k w6 _ ⟨hkl, hz, hp, hc, hb, hB1, hB2, hU⟩
  have hsz_ := hU.size
  refine W_seq ?_
  refine W_seq ?_
  refine W_reg ?_
  refine L_op rfl (X_move (v := (.int .i64 (((cs.length : Nat) : Int) - 1 - ((k : Nat) : Int)))) rfl ?_)
  by_cases hc7 : (((cs.length : Nat) : Int) - 1 - ((k : Nat) : Int) : Int) ≥ (0)
  ·refine L_op rfl (X_cmp (k := .i64) (a := ((cs.length : Nat) : Int) - 1 - ((k : Nat) : Int)) (b := 0) (r := true) rfl rfl rfl (decide_eq_true (p := ((0) : Int) ≤ ((((cs.length : Nat) : Int) - 1 - ((k : Nat) : Int)) : Int)) (by omega)) ?_)
   have hk : k < cs.length := by omega
   obtain ⟨e, hei⟩ : ∃ e, cs[cs.length - 1 - k]? = some e := ⟨_, List.getElem?_eq_getElem (by omega)⟩
   refine L_nil ?_
   refine T_n ?_
   refine W_ct rfl ?_
   refine W_skip ?_
   refine T_n ?_
   refine W_seq ?_
   refine W_block ?_
   refine W_seq ?_
   refine W_reg ?_
   refine L_op rfl (X_fldP (b := b1) (o := 0) (r := 1) Fd26_1 rfl rfl ?_)
   refine L_op rfl (X_load (p := (ptr b1 (1))) (v := cv) T23 rfl (hB1.at1 rfl) ?_)
   refine L_op rfl (X_move (v := (.int .i64 (((cs.length : Nat) : Int) - 1 - ((k : Nat) : Int)))) rfl ?_)
   refine L_op rfl (X_idx (v := cv) (n := cs.length) (k := .i64) (i := ((cs.length : Nat) : Int) - 1 - ((k : Nat) : Int)) S23 rfl hc.sv rfl (by omega) (by omega) ?_)
   refine L_op rfl (X_fldS (v := cv) (o := (((cs.length : Nat) : Int) - 1 - ((k : Nat) : Int) : Int).toNat * 257) Fd63_0 rfl hc.sv (by omega) ?_)
   refine L_op rfl (X_load (v := .int .i64 e.1) T3 rfl (wat hc (by omega) hei) ?_)
   refine L_op rfl (X_move (v := (.int .i64 (n))) rfl ?_)
   by_cases hc8 : (e.1 : Int) = (n)
   ·refine L_op rfl (X_cmp (k := .i64) (a := e.1) (b := n) (r := true) rfl rfl rfl (decide_eq_true (p := ((e.1) : Int) = ((n) : Int)) (by omega)) ?_)
    refine L_nil ?_
    refine T_n ?_
    refine W_ct rfl ?_
    refine W_seq ?_
    refine W_reg ?_
    refine L_op rfl (X_fldP (b := b1) (o := 0) (r := 1) Fd26_1 rfl rfl ?_)
    refine L_op rfl (X_load (p := (ptr b1 (1))) (v := cv) T23 rfl (hB1.at1 rfl) ?_)
    refine L_op rfl (X_move (v := (.int .i64 (((cs.length : Nat) : Int) - 1 - ((k : Nat) : Int)))) rfl ?_)
    refine L_op rfl (X_idx (v := cv) (n := cs.length) (k := .i64) (i := ((cs.length : Nat) : Int) - 1 - ((k : Nat) : Int)) S23 rfl hc.sv rfl (by omega) (by omega) ?_)
    refine L_op rfl (X_fldS (v := cv) (o := (((cs.length : Nat) : Int) - 1 - ((k : Nat) : Int) : Int).toNat * 257) Fd63_1 rfl hc.sv (by omega) ?_)
    refine L_op rfl (X_loadA (xs := e.2.1.map byteV) A37 rfl (wdata hc (k := cs.length - 1 - k) (by omega) hei) (by rw [List.length_map]; exact e.2.2) ?_)
    refine L_op0 (X_storeW (b := b2) (ys := ((e.2.1).map byteV)) A37 rfl rfl (byteV_one _) (by rw [List.length_map]; exact e.2.2) hB2 (by rw [List.size_toArray]; exact (by rw [List.length_map]; exact List.length_replicate)) ?_)
    intro w9 hu9 hb9
    have hz9 := hu9.size
    replace hp := hp.upd hu9 fun i h1 h2 h => by have h : i = b2 := h; omega
    replace hc := hc.upd hu9 fun i h1 h2 h => by have h : i = b2 := h; omega
    replace hb := hb.upd hu9 fun i h1 h2 h => by have h : i = b2 := h; omega
    replace hB1 := hB1.upd hu9 fun h => by have h : b1 = b2 := h; omega
    replace hU := hU.trans (hu9.mono fun i _ h => by have h : i = b2 := h; show n0 ≤ i; omega)
    replace hB2 := hb9
    refine L_op rfl (X_assign (v := (.int .i64 (0))) rfl ?_)
    refine L_nil ?_
    refine T_n ?_
    refine W_ret ?_
    refine B_r ?_
    refine T_r ?_
    refine T_r ?_
    refine B_r ?_
    refine T_r ?_
    rw [readE_ok hq0, readD_hit (hits_head hk hei (by omega) hz)]
    exact BQ_r (End_2 Try.results14 (v1 := pageV e.2) (RV_A A37 rfl hB2.atAll (by rw [List.length_map]; exact e.2.2)) (v2 := .int .i64 0) rfl ⟨rfl, hU.own hn0⟩)
   ·refine L_op rfl (X_cmp (k := .i64) (a := e.1) (b := n) (r := false) rfl rfl rfl (decide_eq_false (p := ((e.1) : Int) = ((n) : Int)) (by omega)) ?_)
    refine L_nil ?_
    refine T_n ?_
    refine W_cf rfl ?_
    refine W_skip ?_
    refine B_n ?_
    refine T_n ?_
    refine W_reg ?_
    refine L_op rfl (X_move (v := (.int .i64 (((cs.length : Nat) : Int) - 1 - ((k : Nat) : Int)))) rfl ?_)
    refine L_op rfl (X_arith (k := .i64) (a := ((cs.length : Nat) : Int) - 1 - ((k : Nat) : Int)) (b := 1) (r := ((cs.length : Nat) : Int) - 1 - ((k + 1 : Nat) : Int)) rfl rfl rfl (isub64 (by omega) (by omega) (by omega)) ?_)
    refine L_op rfl (X_assign (v := (.int .i64 (((cs.length : Nat) : Int) - 1 - ((k + 1 : Nat) : Int)))) rfl ?_)
    refine L_nil ?_
    refine T_n ?_
    exact ⟨rfl, k + 1, ⟨⟨hk, by rw [cntW_miss hk hei (by omega)]; exact hz, hp, hc, hb, hB1, hB2, hU⟩, (by show cs.length - (k + 1) < cs.length - k; omega)⟩, (Out.mk rfl), ⟨rfl, trivial⟩⟩
  ·refine L_op rfl (X_cmp (k := .i64) (a := ((cs.length : Nat) : Int) - 1 - ((k : Nat) : Int)) (b := 0) (r := false) rfl rfl rfl (decide_eq_false (p := ((0) : Int) ≤ ((((cs.length : Nat) : Int) - 1 - ((k : Nat) : Int)) : Int)) (by omega)) ?_)
   obtain rfl : k = cs.length := by omega
   have hnil := hits_none hz
   refine L_nil ?_
   refine T_n ?_
   refine W_cf rfl ?_
   refine W_exit ?_
   refine T_e ?_
   refine T_e ?_
   refine B_x ?_
   refine T_n ?_
   refine W_seq ?_
   refine W_seq ?_
   refine W_reg ?_
   refine L_op rfl (X_assign (v := (.int .i64 (0))) rfl ?_)
   refine L_nil ?_
   refine T_n ?_
   refine W_block ?_
   refine W_loop (α := Nat) [5, 8, 38, 39, 40, 41, 42, 43, 44, 45, 46, 47, 48, 49, 50, 51, 52] (fun i => [(8, (.int .i64 (((i : Nat) : Int))))]) (fun i w_ => i ≤ bs.length ∧ (∀ (j : Nat) (a : Int), j < i → bs[j]? = some a → a ≠ n) ∧ NRd LP w_ lo up pv ps ∧ NRd LW w_ lo up cv cs ∧ NRd LI w_ lo up bv bs ∧ Blk w_ b1 #[pv, cv, bv, .bool off] 26 ∧ Blk w_ b2 ((List.replicate 256 (0 : UInt8)).map byteV).toArray 37 ∧ Upd (fun i => n0 ≤ i) w w_) (fun i => bs.length - i) ⟨rfl, 0, ⟨Nat.zero_le _, fun j a h => absurd h (Nat.not_lt_zero j), hp, hc, hb, hB1, hB2, hU⟩, Out.refl _ _, ⟨rfl, trivial⟩⟩ ?_
   rintro i w10 _ ⟨hil, hzb, hp, hc, hb, hB1, hB2, hU⟩
   have hsz_ := hU.size
   refine W_seq ?_
   refine W_seq ?_
   refine W_reg ?_
   refine L_op rfl (X_move (v := (.int .i64 (((i : Nat) : Int)))) rfl ?_)
   refine L_op rfl (X_fldP (b := b1) (o := 0) (r := 2) Fd26_2 rfl rfl ?_)
   refine L_op rfl (X_load (p := (ptr b1 (2))) (v := bv) T24 rfl (hB1.at1 rfl) ?_)
   refine L_op rfl (X_len (v := bv) (n := bs.length) Try.underlying24 rfl hb.sv ?_)
   by_cases hc11 : (((i : Nat) : Int) : Int) < (((bs.length : Nat) : Int))
   ·refine L_op rfl (X_cmp (k := .i64) (a := ((i : Nat) : Int)) (b := ((bs.length : Nat) : Int)) (r := true) rfl rfl rfl (decide_eq_true (p := ((((i : Nat) : Int)) : Int) < ((((bs.length : Nat) : Int)) : Int)) (by omega)) ?_)
    have hi : i < bs.length := by omega
    obtain ⟨a, hai⟩ : ∃ a, bs[i]? = some a := ⟨_, List.getElem?_eq_getElem hi⟩
    refine L_nil ?_
    refine T_n ?_
    refine W_ct rfl ?_
    refine W_skip ?_
    refine T_n ?_
    refine W_seq ?_
    refine W_block ?_
    refine W_seq ?_
    refine W_reg ?_
    refine L_op rfl (X_fldP (b := b1) (o := 0) (r := 2) Fd26_2 rfl rfl ?_)
    refine L_op rfl (X_load (p := (ptr b1 (2))) (v := bv) T24 rfl (hB1.at1 rfl) ?_)
    refine L_op rfl (X_move (v := (.int .i64 (((i : Nat) : Int)))) rfl ?_)
    refine L_op rfl (X_idx (v := bv) (n := bs.length) (k := .i64) (i := ((i : Nat) : Int)) S24 rfl hb.sv rfl (by omega) (by omega) ?_)
    refine L_op rfl (X_load (v := .int .i64 a) T3 rfl (iat hb (Int.toNat_natCast _) hai) ?_)
    refine L_op rfl (X_move (v := (.int .i64 (n))) rfl ?_)
    by_cases hc12 : (a : Int) = (n)
    ·refine L_op rfl (X_cmp (k := .i64) (a := a) (b := n) (r := true) rfl rfl rfl (decide_eq_true (p := ((a) : Int) = ((n) : Int)) (by omega)) ?_)
     refine L_nil ?_
     refine T_n ?_
     refine W_ct rfl ?_
     refine W_seq ?_
     refine W_reg ?_
     refine L_op rfl (X_build built37 ?_)
     refine L_op0 (X_storeW (b := b2) (ys := (((List.replicate 256 (0 : UInt8))).map byteV)) A37 rfl rfl (byteV_one _) (by rw [List.length_map]; exact List.length_replicate) hB2 (by rw [List.size_toArray]; exact (by rw [List.length_map]; exact List.length_replicate)) ?_)
     intro w13 hu13 hb13
     have hz13 := hu13.size
     replace hp := hp.upd hu13 fun i h1 h2 h => by have h : i = b2 := h; omega
     replace hc := hc.upd hu13 fun i h1 h2 h => by have h : i = b2 := h; omega
     replace hb := hb.upd hu13 fun i h1 h2 h => by have h : i = b2 := h; omega
     replace hB1 := hB1.upd hu13 fun h => by have h : b1 = b2 := h; omega
     replace hU := hU.trans (hu13.mono fun i _ h => by have h : i = b2 := h; show n0 ≤ i; omega)
     replace hB2 := hb13
     refine L_op rfl (X_assign (v := (.int .i64 (31))) rfl ?_)
     refine L_nil ?_
     refine T_n ?_
     refine W_ret ?_
     refine B_r ?_
     refine T_r ?_
     refine T_r ?_
     refine B_r ?_
     refine T_r ?_
     rw [readE_ok hq0, readD_bad hnil (by rw [show n = a by omega]; exact List.mem_of_getElem? hai)]
     exact BQ_r (End_2 Try.results14 (v1 := pageV default) (RV_A A37 rfl hB2.atAll (by rw [List.length_map]; exact List.length_replicate)) (v2 := .int .i64 31) rfl ⟨rfl, hU.own hn0⟩)
    ·refine L_op rfl (X_cmp (k := .i64) (a := a) (b := n) (r := false) rfl rfl rfl (decide_eq_false (p := ((a) : Int) = ((n) : Int)) (by omega)) ?_)
     refine L_nil ?_
     refine T_n ?_
     refine W_cf rfl ?_
     refine W_skip ?_
     refine B_n ?_
     refine T_n ?_
     refine W_reg ?_
     refine L_op rfl (X_move (v := (.int .i64 (((i : Nat) : Int)))) rfl ?_)
     refine L_op rfl (X_arith (k := .i64) (a := ((i : Nat) : Int)) (b := 1) (r := ((i + 1 : Nat) : Int)) rfl rfl rfl (iadd64 (by omega) (by omega) (by omega)) ?_)
     refine L_op rfl (X_assign (v := (.int .i64 (((i + 1 : Nat) : Int)))) rfl ?_)
     refine L_nil ?_
     refine T_n ?_
     exact ⟨rfl, i + 1, ⟨⟨hi, fun j a2 h1 h2 => (Nat.lt_or_ge j i).elim (fun h3 => hzb j a2 h3 h2) fun h3 => (by obtain rfl : j = i := by { omega }; rw [hai] at h2; cases h2; omega), hp, hc, hb, hB1, hB2, hU⟩, (by show bs.length - (i + 1) < bs.length - i; omega)⟩, (Out.mk rfl), ⟨rfl, trivial⟩⟩
   ·refine L_op rfl (X_cmp (k := .i64) (a := ((i : Nat) : Int)) (b := ((bs.length : Nat) : Int)) (r := false) rfl rfl rfl (decide_eq_false (p := ((((i : Nat) : Int)) : Int) < ((((bs.length : Nat) : Int)) : Int)) (by omega)) ?_)
    refine L_nil ?_
    refine T_n ?_
    refine W_cf rfl ?_
    refine W_exit ?_
    refine T_e ?_
    refine T_e ?_
    refine B_x ?_
    refine T_n ?_
    refine W_seq ?_
    refine W_reg ?_
    refine L_op rfl (X_fldP (b := b1) (o := 0) (r := 0) Fd26_0 rfl rfl ?_)
    refine L_op rfl (X_load (p := (ptr b1 (0))) (v := pv) T22 rfl (hB1.at1 rfl) ?_)
    refine L_op rfl (X_move (v := (.int .i64 (n))) rfl ?_)
    refine L_op rfl (X_idx (v := pv) (n := ps.length) (k := .i64) (i := n) S22 rfl hp.sv rfl (by omega) (by omega) ?_)
    obtain ⟨p_, hp_⟩ : ∃ p, ps[n.toNat]? = some p := ⟨_, List.getElem?_eq_getElem (by omega)⟩
    refine L_op rfl (X_loadA (xs := p_.1.map byteV) A37 rfl (pall hp rfl hp_) (by rw [List.length_map]; exact p_.2) ?_)
    refine L_op0 (X_storeW (b := b2) (ys := ((p_.1).map byteV)) A37 rfl rfl (byteV_one _) (by rw [List.length_map]; exact p_.2) hB2 (by rw [List.size_toArray]; exact (by rw [List.length_map]; exact List.length_replicate)) ?_)
    intro w14 hu14 hb14
    have hz14 := hu14.size
    replace hp := hp.upd hu14 fun i h1 h2 h => by have h : i = b2 := h; omega
    replace hc := hc.upd hu14 fun i h1 h2 h => by have h : i = b2 := h; omega
    replace hb := hb.upd hu14 fun i h1 h2 h => by have h : i = b2 := h; omega
    replace hB1 := hB1.upd hu14 fun h => by have h : b1 = b2 := h; omega
    replace hU := hU.trans (hu14.mono fun i _ h => by have h : i = b2 := h; show n0 ≤ i; omega)
    replace hB2 := hb14
    refine L_op rfl (X_assign (v := (.int .i64 (0))) rfl ?_)
    refine L_nil ?_
    refine T_n ?_
    refine W_ret ?_
    rw [readE_ok hq0, readD_page hnil (no_mem fun j a h1 h2 => hzb j a (by omega) h2) hp_]
    exact BQ_r (End_2 Try.results14 (v1 := pageV p_) (RV_A A37 rfl hB2.atAll (by rw [List.length_map]; exact p_.2)) (v2 := .int .i64 0) rfl ⟨rfl, hU.own hn0⟩)

theorem c_equalP (u s : Value) (es fs : List Pg) (w : World) (lo up lo2 up2 : Nat) (hea : NRd LP w lo up u es) (hfa : NRd LP w lo2 up2 s fs) : CT Try.prog 47 #[u, s] w fun v w' => (∃ g, v = .bool g ∧ (g = true ↔ es = fs)) ∧ Ext w w' := by
 obtain ⟨n0, hn0⟩ : ∃ n, n = w.heap.size := ⟨_, rfl⟩
 have hU : Upd (fun i => n0 ≤ i) w w := Upd.refl _ _
 have hel := hea.sv.len
 have hfl := hfa.sv.len
 refine CT_of Try.func47 rfl rfl rfl ?_
 refine W_seq ?_
 refine W_reg ?_
 refine L_op rfl (X_assign (v := (.bool (false))) rfl ?_)
 refine L_nil ?_
 refine T_n ?_
 refine W_seq ?_
 refine W_seq ?_
 refine W_reg ?_
 refine L_op rfl (X_move (v := u) rfl ?_)
 refine L_op rfl (X_len (v := u) (n := es.length) Try.underlying22 rfl hea.sv ?_)
 refine L_op rfl (X_move (v := s) rfl ?_)
 refine L_op rfl (X_len (v := s) (n := fs.length) Try.underlying22 rfl hfa.sv ?_)
 by_cases hc1 : (((es.length : Nat) : Int) : Int) ≠ (((fs.length : Nat) : Int))
 ·refine L_op rfl (X_cmp (k := .i64) (a := ((es.length : Nat) : Int)) (b := ((fs.length : Nat) : Int)) (r := true) rfl rfl rfl (decide_eq_true (p := ((((es.length : Nat) : Int)) : Int) ≠ ((((fs.length : Nat) : Int)) : Int)) (by omega)) ?_)
  refine L_nil ?_
  refine T_n ?_
  refine W_ct rfl ?_
  refine W_seq ?_
  refine W_reg ?_
  refine L_op rfl (X_assign (v := (.bool (false))) rfl ?_)
  refine L_nil ?_
  refine T_n ?_
  refine W_ret ?_
  refine T_r ?_
  exact BQ_r (End_1 Try.results47 (v := .bool false) rfl ⟨⟨false, rfl, ⟨fun h => (by cases h), fun h => (by have h1 := congrArg List.length h; omega)⟩⟩, hU.own hn0⟩)
 ·refine L_op rfl (X_cmp (k := .i64) (a := ((es.length : Nat) : Int)) (b := ((fs.length : Nat) : Int)) (r := false) rfl rfl rfl (decide_eq_false (p := ((((es.length : Nat) : Int)) : Int) ≠ ((((fs.length : Nat) : Int)) : Int)) (by omega)) ?_)
  refine L_nil ?_
  refine T_n ?_
  refine W_cf rfl ?_
  refine W_skip ?_
  refine T_n ?_
  refine W_seq ?_
  refine W_seq ?_
  refine W_reg ?_
  refine L_op rfl (X_move (v := u) rfl ?_)
  refine L_op rfl (X_len (v := u) (n := es.length) Try.underlying22 rfl hea.sv ?_)
  refine L_op rfl (X_move (v := (.int .i64 (0))) rfl ?_)
  refine L_nil ?_
  refine T_n ?_
  refine W_block ?_
  refine W_loop (α := Nat) [4, 5, 13, 14, 15, 16, 17, 18, 19, 20, 21, 22, 23, 24, 25] (fun i => [(13, (.int .i64 (((i : Nat) : Int))))]) (fun i w_ => i ≤ es.length ∧ NRd LP w_ lo up u es ∧ NRd LP w_ lo2 up2 s fs ∧ Upd (fun i => n0 ≤ i) w w_ ∧ es.take i = fs.take i) (fun i => es.length - i) ⟨rfl, 0, ⟨Nat.zero_le _, hea, hfa, hU, rfl⟩, Out.refl _ _, ⟨rfl, trivial⟩⟩ ?_
  rintro i w2 _ ⟨hil, hea, hfa, hU, hz⟩
  refine W_seq ?_
  refine W_reg ?_
  by_cases hc3 : (((i : Nat) : Int) : Int) < (((es.length : Nat) : Int))
  ·refine L_op rfl (X_cmp (k := .i64) (a := ((i : Nat) : Int)) (b := ((es.length : Nat) : Int)) (r := true) rfl rfl rfl (decide_eq_true (p := ((((i : Nat) : Int)) : Int) < ((((es.length : Nat) : Int)) : Int)) (by omega)) ?_)
   have hi : i < es.length := by omega
   obtain ⟨a, hai⟩ : ∃ a, es[i]? = some a := ⟨_, List.getElem?_eq_getElem hi⟩
   obtain ⟨b, hbi⟩ : ∃ b, fs[i]? = some b := ⟨_, List.getElem?_eq_getElem (by omega)⟩
   refine L_nil ?_
   refine T_n ?_
   refine W_seq ?_
   refine W_ct rfl ?_
   refine W_skip ?_
   refine T_n ?_
   refine W_seq ?_
   refine W_block ?_
   refine W_seq ?_
   refine W_reg ?_
   refine L_op rfl (X_move (v := (.int .i64 (((i : Nat) : Int)))) rfl ?_)
   refine L_op rfl (X_assign (v := (.int .i64 (((i : Nat) : Int)))) rfl ?_)
   refine L_nil ?_
   refine T_n ?_
   refine W_seq ?_
   rcases Bool.eq_false_or_eq_true ((a.1 == b.1)) with hs4 | hs4
   ·refine W_draw 8 [[], [], [0, 1], [0, 1, 2], [], [], [4, 5], [4, 5, 6], [0, 1, 2, 3, 4, 5, 6, 7]] mixed (by kernel_rfl) ?_
    refine ⟨.det (fun val => u), ⟨fun _ _ hv => rfl, fun _ _ _ _ _ => trivial⟩, fun val h_ W hx he => ⟨trivial, ?_⟩, ?_⟩
    ·exact X_move (v := u) rfl ⟨Upd.refl _ _, rfl⟩
    refine ⟨.det (fun val => (.int .i64 (((i : Nat) : Int)))), ⟨fun _ _ hv => rfl, fun _ _ _ _ _ => trivial⟩, fun val h_ W hx he => ⟨trivial, ?_⟩, ?_⟩
    ·exact X_move (v := (.int .i64 (((i : Nat) : Int)))) rfl ⟨Upd.refl _ _, rfl⟩
    refine ⟨.det (fun val => (pof u ((((i : Nat) : Int) : Int).toNat * 256))), ⟨fun _ _ hv => rfl, fun _ _ _ _ _ => trivial⟩, fun val h_ W hx he => ⟨trivial, ?_⟩, ?_⟩
    ·replace hx := (Upd.drew _ _).trans hx
     replace hea := hea.ext hx
     refine id (X_idx (v := u) (n := es.length) (k := .i64) (i := ((i : Nat) : Int)) S22 rfl hea.sv rfl (by omega) (by omega) ?_)
     exact ⟨Upd.refl _ _, rfl⟩
    refine ⟨.det (fun val => (.agg (((a.1).map byteV)).toArray)), ⟨fun _ _ hv => rfl, fun _ _ _ _ _ => trivial⟩, fun val h_ W hx he => ⟨trivial, ?_⟩, ?_⟩
    ·replace hx := (Upd.drew _ _).trans hx
     replace hea := hea.ext hx
     refine id (X_loadA (xs := a.1.map byteV) A37 rfl (pall hea (Int.toNat_natCast _) hai) (by rw [List.length_map]; exact a.2) ?_)
     exact ⟨Upd.refl _ _, rfl⟩
    refine ⟨.det (fun val => s), ⟨fun _ _ hv => rfl, fun _ _ _ _ _ => trivial⟩, fun val h_ W hx he => ⟨trivial, ?_⟩, ?_⟩
    ·exact X_move (v := s) rfl ⟨Upd.refl _ _, rfl⟩
    refine ⟨.det (fun val => (.int .i64 (((i : Nat) : Int)))), ⟨fun _ _ hv => rfl, fun _ _ _ _ _ => trivial⟩, fun val h_ W hx he => ⟨trivial, ?_⟩, ?_⟩
    ·exact X_move (v := (.int .i64 (((i : Nat) : Int)))) rfl ⟨Upd.refl _ _, rfl⟩
    refine ⟨.det (fun val => (pof s ((((i : Nat) : Int) : Int).toNat * 256))), ⟨fun _ _ hv => rfl, fun _ _ _ _ _ => trivial⟩, fun val h_ W hx he => ⟨trivial, ?_⟩, ?_⟩
    ·replace hx := (Upd.drew _ _).trans hx
     replace hfa := hfa.ext hx
     refine id (X_idx (v := s) (n := fs.length) (k := .i64) (i := ((i : Nat) : Int)) S22 rfl hfa.sv rfl (by omega) (by omega) ?_)
     exact ⟨Upd.refl _ _, rfl⟩
    refine ⟨.det (fun val => (.agg (((b.1).map byteV)).toArray)), ⟨fun _ _ hv => rfl, fun _ _ _ _ _ => trivial⟩, fun val h_ W hx he => ⟨trivial, ?_⟩, ?_⟩
    ·replace hx := (Upd.drew _ _).trans hx
     replace hfa := hfa.ext hx
     refine id (X_loadA (xs := b.1.map byteV) A37 rfl (pall hfa (Int.toNat_natCast _) hbi) (by rw [List.length_map]; exact b.2) ?_)
     exact ⟨Upd.refl _ _, rfl⟩
    intro val W5 hx5 he5
    replace hx5 := (Upd.drew _ _).trans hx5
    have hz5 := hx5.size
    replace hea := hea.ext hx5
    replace hfa := hfa.ext hx5
    replace hU := hU.trans (Ext.upd hx5)
    refine L_op rfl (X_eqA (n := 256) (l := a.1) (m := b.1) (r := false) Try.underlying37 Try.underlying5 (by kernel_rfl) (by kernel_rfl) (by kernel_rfl) rfl rfl (a.2) (b.2) (.inr ⟨rfl, (by rw [hs4]; rfl)⟩) ?_)
    refine L_nil ?_
    refine T_n ?_
    refine W_cf rfl ?_
    refine W_skip ?_
    refine B_n ?_
    refine T_n ?_
    refine W_reg ?_
    refine L_op rfl (X_arith (k := .i64) (a := ((i : Nat) : Int)) (b := 1) (r := ((i + 1 : Nat) : Int)) rfl rfl rfl (iadd64 (by omega) (by omega) (by omega)) ?_)
    refine L_op rfl (X_move (v := (.int .i64 (((i + 1 : Nat) : Int)))) rfl ?_)
    refine L_nil ?_
    refine T_n ?_
    exact ⟨rfl, i + 1, ⟨⟨hi, hea, hfa, hU, take_same hai hbi hz (Subtype.ext (beq_iff_eq.1 hs4))⟩, (by show es.length - (i + 1) < es.length - i; omega)⟩, (Out.mk rfl), ⟨rfl, trivial⟩⟩
   ·refine W_draw 8 [[], [], [0, 1], [0, 1, 2], [], [], [4, 5], [4, 5, 6], [0, 1, 2, 3, 4, 5, 6, 7]] mixed (by kernel_rfl) ?_
    refine ⟨.det (fun val => u), ⟨fun _ _ hv => rfl, fun _ _ _ _ _ => trivial⟩, fun val h_ W hx he => ⟨trivial, ?_⟩, ?_⟩
    ·exact X_move (v := u) rfl ⟨Upd.refl _ _, rfl⟩
    refine ⟨.det (fun val => (.int .i64 (((i : Nat) : Int)))), ⟨fun _ _ hv => rfl, fun _ _ _ _ _ => trivial⟩, fun val h_ W hx he => ⟨trivial, ?_⟩, ?_⟩
    ·exact X_move (v := (.int .i64 (((i : Nat) : Int)))) rfl ⟨Upd.refl _ _, rfl⟩
    refine ⟨.det (fun val => (pof u ((((i : Nat) : Int) : Int).toNat * 256))), ⟨fun _ _ hv => rfl, fun _ _ _ _ _ => trivial⟩, fun val h_ W hx he => ⟨trivial, ?_⟩, ?_⟩
    ·replace hx := (Upd.drew _ _).trans hx
     replace hea := hea.ext hx
     refine id (X_idx (v := u) (n := es.length) (k := .i64) (i := ((i : Nat) : Int)) S22 rfl hea.sv rfl (by omega) (by omega) ?_)
     exact ⟨Upd.refl _ _, rfl⟩
    refine ⟨.det (fun val => (.agg (((a.1).map byteV)).toArray)), ⟨fun _ _ hv => rfl, fun _ _ _ _ _ => trivial⟩, fun val h_ W hx he => ⟨trivial, ?_⟩, ?_⟩
    ·replace hx := (Upd.drew _ _).trans hx
     replace hea := hea.ext hx
     refine id (X_loadA (xs := a.1.map byteV) A37 rfl (pall hea (Int.toNat_natCast _) hai) (by rw [List.length_map]; exact a.2) ?_)
     exact ⟨Upd.refl _ _, rfl⟩
    refine ⟨.det (fun val => s), ⟨fun _ _ hv => rfl, fun _ _ _ _ _ => trivial⟩, fun val h_ W hx he => ⟨trivial, ?_⟩, ?_⟩
    ·exact X_move (v := s) rfl ⟨Upd.refl _ _, rfl⟩
    refine ⟨.det (fun val => (.int .i64 (((i : Nat) : Int)))), ⟨fun _ _ hv => rfl, fun _ _ _ _ _ => trivial⟩, fun val h_ W hx he => ⟨trivial, ?_⟩, ?_⟩
    ·exact X_move (v := (.int .i64 (((i : Nat) : Int)))) rfl ⟨Upd.refl _ _, rfl⟩
    refine ⟨.det (fun val => (pof s ((((i : Nat) : Int) : Int).toNat * 256))), ⟨fun _ _ hv => rfl, fun _ _ _ _ _ => trivial⟩, fun val h_ W hx he => ⟨trivial, ?_⟩, ?_⟩
    ·replace hx := (Upd.drew _ _).trans hx
     replace hfa := hfa.ext hx
     refine id (X_idx (v := s) (n := fs.length) (k := .i64) (i := ((i : Nat) : Int)) S22 rfl hfa.sv rfl (by omega) (by omega) ?_)
     exact ⟨Upd.refl _ _, rfl⟩
    refine ⟨.det (fun val => (.agg (((b.1).map byteV)).toArray)), ⟨fun _ _ hv => rfl, fun _ _ _ _ _ => trivial⟩, fun val h_ W hx he => ⟨trivial, ?_⟩, ?_⟩
    ·replace hx := (Upd.drew _ _).trans hx
     replace hfa := hfa.ext hx
     refine id (X_loadA (xs := b.1.map byteV) A37 rfl (pall hfa (Int.toNat_natCast _) hbi) (by rw [List.length_map]; exact b.2) ?_)
     exact ⟨Upd.refl _ _, rfl⟩
    intro val W6 hx6 he6
    replace hx6 := (Upd.drew _ _).trans hx6
    have hz6 := hx6.size
    replace hea := hea.ext hx6
    replace hfa := hfa.ext hx6
    replace hU := hU.trans (Ext.upd hx6)
    refine L_op rfl (X_eqA (n := 256) (l := a.1) (m := b.1) (r := true) Try.underlying37 Try.underlying5 (by kernel_rfl) (by kernel_rfl) (by kernel_rfl) rfl rfl (a.2) (b.2) (.inr ⟨rfl, (by rw [hs4]; rfl)⟩) ?_)
    refine L_nil ?_
    refine T_n ?_
    refine W_ct rfl ?_
    refine W_seq ?_
    refine W_reg ?_
    refine L_op rfl (X_assign (v := (.bool (false))) rfl ?_)
    refine L_nil ?_
    refine T_n ?_
    refine W_ret ?_
    refine B_r ?_
    refine T_r ?_
    refine T_r ?_
    refine B_r ?_
    refine T_r ?_
    exact BQ_r (End_1 Try.results47 (v := .bool false) rfl ⟨⟨false, rfl, ⟨fun h => (by cases h), fun h => (by exact absurd h (not_same hai hbi (fun h_ => by have h1 := hs4; subst h_; rw [beq_self_eq_true] at h1; cases h1)))⟩⟩, hU.own hn0⟩)
  ·refine L_op rfl (X_cmp (k := .i64) (a := ((i : Nat) : Int)) (b := ((es.length : Nat) : Int)) (r := false) rfl rfl rfl (decide_eq_false (p := ((((i : Nat) : Int)) : Int) < ((((es.length : Nat) : Int)) : Int)) (by omega)) ?_)
   refine L_nil ?_
   refine T_n ?_
   refine W_seq ?_
   refine W_cf rfl ?_
   refine W_exit ?_
   refine T_e ?_
   refine T_e ?_
   refine B_x ?_
   refine T_n ?_
   refine W_seq ?_
   refine W_reg ?_
   refine L_op rfl (X_assign (v := (.bool (true))) rfl ?_)
   refine L_nil ?_
   refine T_n ?_
   refine W_ret ?_
   exact BQ_r (End_1 Try.results47 (v := .bool true) rfl ⟨⟨true, rfl, ⟨fun _ => take_eq hz (by omega) (by omega), fun _ => rfl⟩⟩, hU.own hn0⟩)

theorem c_equalW (u s : Value) (es fs : List Wr) (w : World) (lo up lo2 up2 : Nat) (hea : NRd LW w lo up u es) (hfa : NRd LW w lo2 up2 s fs) : CT Try.prog 48 #[u, s] w fun v w' => (∃ g, v = .bool g ∧ (g = true ↔ es = fs)) ∧ Ext w w' := by
 obtain ⟨n0, hn0⟩ : ∃ n, n = w.heap.size := ⟨_, rfl⟩
 have hU : Upd (fun i => n0 ≤ i) w w := Upd.refl _ _
 have hel := hea.sv.len
 have hfl := hfa.sv.len
 refine CT_of Try.func48 rfl rfl rfl ?_
 refine W_seq ?_
 refine W_reg ?_
 refine L_op rfl (X_assign (v := (.bool (false))) rfl ?_)
 refine L_nil ?_
 refine T_n ?_
 refine W_seq ?_
 refine W_seq ?_
 refine W_reg ?_
 refine L_op rfl (X_move (v := u) rfl ?_)
 refine L_op rfl (X_len (v := u) (n := es.length) Try.underlying23 rfl hea.sv ?_)
 refine L_op rfl (X_move (v := s) rfl ?_)
 refine L_op rfl (X_len (v := s) (n := fs.length) Try.underlying23 rfl hfa.sv ?_)
 by_cases hc1 : (((es.length : Nat) : Int) : Int) ≠ (((fs.length : Nat) : Int))
 ·refine L_op rfl (X_cmp (k := .i64) (a := ((es.length : Nat) : Int)) (b := ((fs.length : Nat) : Int)) (r := true) rfl rfl rfl (decide_eq_true (p := ((((es.length : Nat) : Int)) : Int) ≠ ((((fs.length : Nat) : Int)) : Int)) (by omega)) ?_)
  refine L_nil ?_
  refine T_n ?_
  refine W_ct rfl ?_
  refine W_seq ?_
  refine W_reg ?_
  refine L_op rfl (X_assign (v := (.bool (false))) rfl ?_)
  refine L_nil ?_
  refine T_n ?_
  refine W_ret ?_
  refine T_r ?_
  exact BQ_r (End_1 Try.results48 (v := .bool false) rfl ⟨⟨false, rfl, ⟨fun h => (by cases h), fun h => (by have h1 := congrArg List.length h; omega)⟩⟩, hU.own hn0⟩)
 ·refine L_op rfl (X_cmp (k := .i64) (a := ((es.length : Nat) : Int)) (b := ((fs.length : Nat) : Int)) (r := false) rfl rfl rfl (decide_eq_false (p := ((((es.length : Nat) : Int)) : Int) ≠ ((((fs.length : Nat) : Int)) : Int)) (by omega)) ?_)
  refine L_nil ?_
  refine T_n ?_
  refine W_cf rfl ?_
  refine W_skip ?_
  refine T_n ?_
  refine W_seq ?_
  refine W_seq ?_
  refine W_reg ?_
  refine L_op rfl (X_move (v := u) rfl ?_)
  refine L_op rfl (X_len (v := u) (n := es.length) Try.underlying23 rfl hea.sv ?_)
  refine L_op rfl (X_move (v := (.int .i64 (0))) rfl ?_)
  refine L_nil ?_
  refine T_n ?_
  refine W_block ?_
  refine W_loop (α := Nat) [4, 5, 13, 14, 15, 16, 17, 18, 19, 20, 21, 22, 23, 24, 25] (fun i => [(13, (.int .i64 (((i : Nat) : Int))))]) (fun i w_ => i ≤ es.length ∧ NRd LW w_ lo up u es ∧ NRd LW w_ lo2 up2 s fs ∧ Upd (fun i => n0 ≤ i) w w_ ∧ es.take i = fs.take i) (fun i => es.length - i) ⟨rfl, 0, ⟨Nat.zero_le _, hea, hfa, hU, rfl⟩, Out.refl _ _, ⟨rfl, trivial⟩⟩ ?_
  rintro i w2 _ ⟨hil, hea, hfa, hU, hz⟩
  refine W_seq ?_
  refine W_reg ?_
  by_cases hc3 : (((i : Nat) : Int) : Int) < (((es.length : Nat) : Int))
  ·refine L_op rfl (X_cmp (k := .i64) (a := ((i : Nat) : Int)) (b := ((es.length : Nat) : Int)) (r := true) rfl rfl rfl (decide_eq_true (p := ((((i : Nat) : Int)) : Int) < ((((es.length : Nat) : Int)) : Int)) (by omega)) ?_)
   have hi : i < es.length := by omega
   obtain ⟨a, hai⟩ : ∃ a, es[i]? = some a := ⟨_, List.getElem?_eq_getElem hi⟩
   obtain ⟨b, hbi⟩ : ∃ b, fs[i]? = some b := ⟨_, List.getElem?_eq_getElem (by omega)⟩
   refine L_nil ?_
   refine T_n ?_
   refine W_seq ?_
   refine W_ct rfl ?_
   refine W_skip ?_
   refine T_n ?_
   refine W_seq ?_
   refine W_block ?_
   refine W_seq ?_
   refine W_reg ?_
   refine L_op rfl (X_move (v := (.int .i64 (((i : Nat) : Int)))) rfl ?_)
   refine L_op rfl (X_assign (v := (.int .i64 (((i : Nat) : Int)))) rfl ?_)
   refine L_nil ?_
   refine T_n ?_
   refine W_seq ?_
   rcases Bool.eq_false_or_eq_true ((a.1 == b.1 && a.2.1 == b.2.1)) with hs4 | hs4
   ·refine W_draw 8 [[], [], [0, 1], [0, 1, 2], [], [], [4, 5], [4, 5, 6], [0, 1, 2, 3, 4, 5, 6, 7]] mixed (by kernel_rfl) ?_
    refine ⟨.det (fun val => u), ⟨fun _ _ hv => rfl, fun _ _ _ _ _ => trivial⟩, fun val h_ W hx he => ⟨trivial, ?_⟩, ?_⟩
    ·exact X_move (v := u) rfl ⟨Upd.refl _ _, rfl⟩
    refine ⟨.det (fun val => (.int .i64 (((i : Nat) : Int)))), ⟨fun _ _ hv => rfl, fun _ _ _ _ _ => trivial⟩, fun val h_ W hx he => ⟨trivial, ?_⟩, ?_⟩
    ·exact X_move (v := (.int .i64 (((i : Nat) : Int)))) rfl ⟨Upd.refl _ _, rfl⟩
    refine ⟨.det (fun val => (pof u ((((i : Nat) : Int) : Int).toNat * 257))), ⟨fun _ _ hv => rfl, fun _ _ _ _ _ => trivial⟩, fun val h_ W hx he => ⟨trivial, ?_⟩, ?_⟩
    ·replace hx := (Upd.drew _ _).trans hx
     replace hea := hea.ext hx
     refine id (X_idx (v := u) (n := es.length) (k := .i64) (i := ((i : Nat) : Int)) S23 rfl hea.sv rfl (by omega) (by omega) ?_)
     exact ⟨Upd.refl _ _, rfl⟩
    refine ⟨.det (fun val => (wrV a)), ⟨fun _ _ hv => rfl, fun _ _ _ _ _ => trivial⟩, fun val h_ W hx he => ⟨trivial, ?_⟩, ?_⟩
    ·replace hx := (Upd.drew _ _).trans hx
     replace hea := hea.ext hx
     refine id (X_loadA (xs := LW.cel a) A63 rfl (wall hea (Int.toNat_natCast _) hai) (LW.len _) ?_)
     exact ⟨Upd.refl _ _, rfl⟩
    refine ⟨.det (fun val => s), ⟨fun _ _ hv => rfl, fun _ _ _ _ _ => trivial⟩, fun val h_ W hx he => ⟨trivial, ?_⟩, ?_⟩
    ·exact X_move (v := s) rfl ⟨Upd.refl _ _, rfl⟩
    refine ⟨.det (fun val => (.int .i64 (((i : Nat) : Int)))), ⟨fun _ _ hv => rfl, fun _ _ _ _ _ => trivial⟩, fun val h_ W hx he => ⟨trivial, ?_⟩, ?_⟩
    ·exact X_move (v := (.int .i64 (((i : Nat) : Int)))) rfl ⟨Upd.refl _ _, rfl⟩
    refine ⟨.det (fun val => (pof s ((((i : Nat) : Int) : Int).toNat * 257))), ⟨fun _ _ hv => rfl, fun _ _ _ _ _ => trivial⟩, fun val h_ W hx he => ⟨trivial, ?_⟩, ?_⟩
    ·replace hx := (Upd.drew _ _).trans hx
     replace hfa := hfa.ext hx
     refine id (X_idx (v := s) (n := fs.length) (k := .i64) (i := ((i : Nat) : Int)) S23 rfl hfa.sv rfl (by omega) (by omega) ?_)
     exact ⟨Upd.refl _ _, rfl⟩
    refine ⟨.det (fun val => (wrV b)), ⟨fun _ _ hv => rfl, fun _ _ _ _ _ => trivial⟩, fun val h_ W hx he => ⟨trivial, ?_⟩, ?_⟩
    ·replace hx := (Upd.drew _ _).trans hx
     replace hfa := hfa.ext hx
     refine id (X_loadA (xs := LW.cel b) A63 rfl (wall hfa (Int.toNat_natCast _) hbi) (LW.len _) ?_)
     exact ⟨Upd.refl _ _, rfl⟩
    intro val W5 hx5 he5
    replace hx5 := (Upd.drew _ _).trans hx5
    have hz5 := hx5.size
    replace hea := hea.ext hx5
    replace hfa := hfa.ext hx5
    replace hU := hU.trans (Ext.upd hx5)
    refine L_op rfl (X_eqW (p := a) (q := b) (r := false) Try.underlying63 (by kernel_rfl) (by kernel_rfl) (by decide) ⟨rfl, rfl⟩ Try.underlying3 Try.underlying37 (by kernel_rfl) Try.underlying5 (ie := _) rfl (by kernel_rfl) (by kernel_rfl) rfl rfl (.inr ⟨rfl, by rw [hs4]; rfl⟩) ?_)
    refine L_nil ?_
    refine T_n ?_
    refine W_cf rfl ?_
    refine W_skip ?_
    refine B_n ?_
    refine T_n ?_
    refine W_reg ?_
    refine L_op rfl (X_arith (k := .i64) (a := ((i : Nat) : Int)) (b := 1) (r := ((i + 1 : Nat) : Int)) rfl rfl rfl (iadd64 (by omega) (by omega) (by omega)) ?_)
    refine L_op rfl (X_move (v := (.int .i64 (((i + 1 : Nat) : Int)))) rfl ?_)
    refine L_nil ?_
    refine T_n ?_
    exact ⟨rfl, i + 1, ⟨⟨hi, hea, hfa, hU, take_same hai hbi hz (wr_beq.1 hs4)⟩, (by show es.length - (i + 1) < es.length - i; omega)⟩, (Out.mk rfl), ⟨rfl, trivial⟩⟩
   ·refine W_draw 8 [[], [], [0, 1], [0, 1, 2], [], [], [4, 5], [4, 5, 6], [0, 1, 2, 3, 4, 5, 6, 7]] mixed (by kernel_rfl) ?_
    refine ⟨.det (fun val => u), ⟨fun _ _ hv => rfl, fun _ _ _ _ _ => trivial⟩, fun val h_ W hx he => ⟨trivial, ?_⟩, ?_⟩
    ·exact X_move (v := u) rfl ⟨Upd.refl _ _, rfl⟩
    refine ⟨.det (fun val => (.int .i64 (((i : Nat) : Int)))), ⟨fun _ _ hv => rfl, fun _ _ _ _ _ => trivial⟩, fun val h_ W hx he => ⟨trivial, ?_⟩, ?_⟩
    ·exact X_move (v := (.int .i64 (((i : Nat) : Int)))) rfl ⟨Upd.refl _ _, rfl⟩
    refine ⟨.det (fun val => (pof u ((((i : Nat) : Int) : Int).toNat * 257))), ⟨fun _ _ hv => rfl, fun _ _ _ _ _ => trivial⟩, fun val h_ W hx he => ⟨trivial, ?_⟩, ?_⟩
    ·replace hx := (Upd.drew _ _).trans hx
     replace hea := hea.ext hx
     refine id (X_idx (v := u) (n := es.length) (k := .i64) (i := ((i : Nat) : Int)) S23 rfl hea.sv rfl (by omega) (by omega) ?_)
     exact ⟨Upd.refl _ _, rfl⟩
    refine ⟨.det (fun val => (wrV a)), ⟨fun _ _ hv => rfl, fun _ _ _ _ _ => trivial⟩, fun val h_ W hx he => ⟨trivial, ?_⟩, ?_⟩
    ·replace hx := (Upd.drew _ _).trans hx
     replace hea := hea.ext hx
     refine id (X_loadA (xs := LW.cel a) A63 rfl (wall hea (Int.toNat_natCast _) hai) (LW.len _) ?_)
     exact ⟨Upd.refl _ _, rfl⟩
    refine ⟨.det (fun val => s), ⟨fun _ _ hv => rfl, fun _ _ _ _ _ => trivial⟩, fun val h_ W hx he => ⟨trivial, ?_⟩, ?_⟩
    ·exact X_move (v := s) rfl ⟨Upd.refl _ _, rfl⟩
    refine ⟨.det (fun val => (.int .i64 (((i : Nat) : Int)))), ⟨fun _ _ hv => rfl, fun _ _ _ _ _ => trivial⟩, fun val h_ W hx he => ⟨trivial, ?_⟩, ?_⟩
    ·exact X_move (v := (.int .i64 (((i : Nat) : Int)))) rfl ⟨Upd.refl _ _, rfl⟩
    refine ⟨.det (fun val => (pof s ((((i : Nat) : Int) : Int).toNat * 257))), ⟨fun _ _ hv => rfl, fun _ _ _ _ _ => trivial⟩, fun val h_ W hx he => ⟨trivial, ?_⟩, ?_⟩
    ·replace hx := (Upd.drew _ _).trans hx
     replace hfa := hfa.ext hx
     refine id (X_idx (v := s) (n := fs.length) (k := .i64) (i := ((i : Nat) : Int)) S23 rfl hfa.sv rfl (by omega) (by omega) ?_)
     exact ⟨Upd.refl _ _, rfl⟩
    refine ⟨.det (fun val => (wrV b)), ⟨fun _ _ hv => rfl, fun _ _ _ _ _ => trivial⟩, fun val h_ W hx he => ⟨trivial, ?_⟩, ?_⟩
    ·replace hx := (Upd.drew _ _).trans hx
     replace hfa := hfa.ext hx
     refine id (X_loadA (xs := LW.cel b) A63 rfl (wall hfa (Int.toNat_natCast _) hbi) (LW.len _) ?_)
     exact ⟨Upd.refl _ _, rfl⟩
    intro val W6 hx6 he6
    replace hx6 := (Upd.drew _ _).trans hx6
    have hz6 := hx6.size
    replace hea := hea.ext hx6
    replace hfa := hfa.ext hx6
    replace hU := hU.trans (Ext.upd hx6)
    refine L_op rfl (X_eqW (p := a) (q := b) (r := true) Try.underlying63 (by kernel_rfl) (by kernel_rfl) (by decide) ⟨rfl, rfl⟩ Try.underlying3 Try.underlying37 (by kernel_rfl) Try.underlying5 (ie := _) rfl (by kernel_rfl) (by kernel_rfl) rfl rfl (.inr ⟨rfl, by rw [hs4]; rfl⟩) ?_)
    refine L_nil ?_
    refine T_n ?_
    refine W_ct rfl ?_
    refine W_seq ?_
    refine W_reg ?_
    refine L_op rfl (X_assign (v := (.bool (false))) rfl ?_)
    refine L_nil ?_
    refine T_n ?_
    refine W_ret ?_
    refine B_r ?_
    refine T_r ?_
    refine T_r ?_
    refine B_r ?_
    refine T_r ?_
    exact BQ_r (End_1 Try.results48 (v := .bool false) rfl ⟨⟨false, rfl, ⟨fun h => (by cases h), fun h => (by exact absurd h (not_same hai hbi (fun h_ => by have h1 := wr_beq.2 h_; rw [hs4] at h1; cases h1)))⟩⟩, hU.own hn0⟩)
  ·refine L_op rfl (X_cmp (k := .i64) (a := ((i : Nat) : Int)) (b := ((es.length : Nat) : Int)) (r := false) rfl rfl rfl (decide_eq_false (p := ((((i : Nat) : Int)) : Int) < ((((es.length : Nat) : Int)) : Int)) (by omega)) ?_)
   refine L_nil ?_
   refine T_n ?_
   refine W_seq ?_
   refine W_cf rfl ?_
   refine W_exit ?_
   refine T_e ?_
   refine T_e ?_
   refine B_x ?_
   refine T_n ?_
   refine W_seq ?_
   refine W_reg ?_
   refine L_op rfl (X_assign (v := (.bool (true))) rfl ?_)
   refine L_nil ?_
   refine T_n ?_
   refine W_ret ?_
   exact BQ_r (End_1 Try.results48 (v := .bool true) rfl ⟨⟨true, rfl, ⟨fun _ => take_eq hz (by omega) (by omega), fun _ => rfl⟩⟩, hU.own hn0⟩)

theorem c_equalI (u s : Value) (es fs : List Int) (w : World) (lo up lo2 up2 : Nat) (hea : NRd LI w lo up u es) (hfa : NRd LI w lo2 up2 s fs) : CT Try.prog 49 #[u, s] w fun v w' => (∃ g, v = .bool g ∧ (g = true ↔ es = fs)) ∧ Ext w w' := by
 obtain ⟨n0, hn0⟩ : ∃ n, n = w.heap.size := ⟨_, rfl⟩
 have hU : Upd (fun i => n0 ≤ i) w w := Upd.refl _ _
 have hel := hea.sv.len
 have hfl := hfa.sv.len
 refine CT_of Try.func49 rfl rfl rfl ?_
 refine W_seq ?_
 refine W_reg ?_
 refine L_op rfl (X_assign (v := (.bool (false))) rfl ?_)
 refine L_nil ?_
 refine T_n ?_
 refine W_seq ?_
 refine W_seq ?_
 refine W_reg ?_
 refine L_op rfl (X_move (v := u) rfl ?_)
 refine L_op rfl (X_len (v := u) (n := es.length) Try.underlying24 rfl hea.sv ?_)
 refine L_op rfl (X_move (v := s) rfl ?_)
 refine L_op rfl (X_len (v := s) (n := fs.length) Try.underlying24 rfl hfa.sv ?_)
 by_cases hc1 : (((es.length : Nat) : Int) : Int) ≠ (((fs.length : Nat) : Int))
 ·refine L_op rfl (X_cmp (k := .i64) (a := ((es.length : Nat) : Int)) (b := ((fs.length : Nat) : Int)) (r := true) rfl rfl rfl (decide_eq_true (p := ((((es.length : Nat) : Int)) : Int) ≠ ((((fs.length : Nat) : Int)) : Int)) (by omega)) ?_)
  refine L_nil ?_
  refine T_n ?_
  refine W_ct rfl ?_
  refine W_seq ?_
  refine W_reg ?_
  refine L_op rfl (X_assign (v := (.bool (false))) rfl ?_)
  refine L_nil ?_
  refine T_n ?_
  refine W_ret ?_
  refine T_r ?_
  exact BQ_r (End_1 Try.results49 (v := .bool false) rfl ⟨⟨false, rfl, ⟨fun h => (by cases h), fun h => (by have h1 := congrArg List.length h; omega)⟩⟩, hU.own hn0⟩)
 ·refine L_op rfl (X_cmp (k := .i64) (a := ((es.length : Nat) : Int)) (b := ((fs.length : Nat) : Int)) (r := false) rfl rfl rfl (decide_eq_false (p := ((((es.length : Nat) : Int)) : Int) ≠ ((((fs.length : Nat) : Int)) : Int)) (by omega)) ?_)
  refine L_nil ?_
  refine T_n ?_
  refine W_cf rfl ?_
  refine W_skip ?_
  refine T_n ?_
  refine W_seq ?_
  refine W_seq ?_
  refine W_reg ?_
  refine L_op rfl (X_move (v := u) rfl ?_)
  refine L_op rfl (X_len (v := u) (n := es.length) Try.underlying24 rfl hea.sv ?_)
  refine L_op rfl (X_move (v := (.int .i64 (0))) rfl ?_)
  refine L_nil ?_
  refine T_n ?_
  refine W_block ?_
  refine W_loop (α := Nat) [4, 5, 13, 14, 15, 16, 17, 18, 19, 20, 21, 22, 23, 24, 25] (fun i => [(13, (.int .i64 (((i : Nat) : Int))))]) (fun i w_ => i ≤ es.length ∧ NRd LI w_ lo up u es ∧ NRd LI w_ lo2 up2 s fs ∧ Upd (fun i => n0 ≤ i) w w_ ∧ es.take i = fs.take i) (fun i => es.length - i) ⟨rfl, 0, ⟨Nat.zero_le _, hea, hfa, hU, rfl⟩, Out.refl _ _, ⟨rfl, trivial⟩⟩ ?_
  rintro i w2 _ ⟨hil, hea, hfa, hU, hz⟩
  refine W_seq ?_
  refine W_reg ?_
  by_cases hc3 : (((i : Nat) : Int) : Int) < (((es.length : Nat) : Int))
  ·refine L_op rfl (X_cmp (k := .i64) (a := ((i : Nat) : Int)) (b := ((es.length : Nat) : Int)) (r := true) rfl rfl rfl (decide_eq_true (p := ((((i : Nat) : Int)) : Int) < ((((es.length : Nat) : Int)) : Int)) (by omega)) ?_)
   have hi : i < es.length := by omega
   obtain ⟨a, hai⟩ : ∃ a, es[i]? = some a := ⟨_, List.getElem?_eq_getElem hi⟩
   obtain ⟨b, hbi⟩ : ∃ b, fs[i]? = some b := ⟨_, List.getElem?_eq_getElem (by omega)⟩
   refine L_nil ?_
   refine T_n ?_
   refine W_seq ?_
   refine W_ct rfl ?_
   refine W_skip ?_
   refine T_n ?_
   refine W_seq ?_
   refine W_block ?_
   refine W_seq ?_
   refine W_reg ?_
   refine L_op rfl (X_move (v := (.int .i64 (((i : Nat) : Int)))) rfl ?_)
   refine L_op rfl (X_assign (v := (.int .i64 (((i : Nat) : Int)))) rfl ?_)
   refine L_nil ?_
   refine T_n ?_
   refine W_seq ?_
   rcases Bool.eq_false_or_eq_true (decide (a = b)) with hs4 | hs4
   ·refine W_draw 8 [[], [], [0, 1], [0, 1, 2], [], [], [4, 5], [4, 5, 6], [0, 1, 2, 3, 4, 5, 6, 7]] mixed (by kernel_rfl) ?_
    refine ⟨.det (fun val => u), ⟨fun _ _ hv => rfl, fun _ _ _ _ _ => trivial⟩, fun val h_ W hx he => ⟨trivial, ?_⟩, ?_⟩
    ·exact X_move (v := u) rfl ⟨Upd.refl _ _, rfl⟩
    refine ⟨.det (fun val => (.int .i64 (((i : Nat) : Int)))), ⟨fun _ _ hv => rfl, fun _ _ _ _ _ => trivial⟩, fun val h_ W hx he => ⟨trivial, ?_⟩, ?_⟩
    ·exact X_move (v := (.int .i64 (((i : Nat) : Int)))) rfl ⟨Upd.refl _ _, rfl⟩
    refine ⟨.det (fun val => (pof u ((((i : Nat) : Int) : Int).toNat * 1))), ⟨fun _ _ hv => rfl, fun _ _ _ _ _ => trivial⟩, fun val h_ W hx he => ⟨trivial, ?_⟩, ?_⟩
    ·replace hx := (Upd.drew _ _).trans hx
     replace hea := hea.ext hx
     refine id (X_idx (v := u) (n := es.length) (k := .i64) (i := ((i : Nat) : Int)) S24 rfl hea.sv rfl (by omega) (by omega) ?_)
     exact ⟨Upd.refl _ _, rfl⟩
    refine ⟨.det (fun val => (.int .i64 (a))), ⟨fun _ _ hv => rfl, fun _ _ _ _ _ => trivial⟩, fun val h_ W hx he => ⟨trivial, ?_⟩, ?_⟩
    ·replace hx := (Upd.drew _ _).trans hx
     replace hea := hea.ext hx
     refine id (X_load (v := .int .i64 a) T3 rfl (iat hea (Int.toNat_natCast _) hai) ?_)
     exact ⟨Upd.refl _ _, rfl⟩
    refine ⟨.det (fun val => s), ⟨fun _ _ hv => rfl, fun _ _ _ _ _ => trivial⟩, fun val h_ W hx he => ⟨trivial, ?_⟩, ?_⟩
    ·exact X_move (v := s) rfl ⟨Upd.refl _ _, rfl⟩
    refine ⟨.det (fun val => (.int .i64 (((i : Nat) : Int)))), ⟨fun _ _ hv => rfl, fun _ _ _ _ _ => trivial⟩, fun val h_ W hx he => ⟨trivial, ?_⟩, ?_⟩
    ·exact X_move (v := (.int .i64 (((i : Nat) : Int)))) rfl ⟨Upd.refl _ _, rfl⟩
    refine ⟨.det (fun val => (pof s ((((i : Nat) : Int) : Int).toNat * 1))), ⟨fun _ _ hv => rfl, fun _ _ _ _ _ => trivial⟩, fun val h_ W hx he => ⟨trivial, ?_⟩, ?_⟩
    ·replace hx := (Upd.drew _ _).trans hx
     replace hfa := hfa.ext hx
     refine id (X_idx (v := s) (n := fs.length) (k := .i64) (i := ((i : Nat) : Int)) S24 rfl hfa.sv rfl (by omega) (by omega) ?_)
     exact ⟨Upd.refl _ _, rfl⟩
    refine ⟨.det (fun val => (.int .i64 (b))), ⟨fun _ _ hv => rfl, fun _ _ _ _ _ => trivial⟩, fun val h_ W hx he => ⟨trivial, ?_⟩, ?_⟩
    ·replace hx := (Upd.drew _ _).trans hx
     replace hfa := hfa.ext hx
     refine id (X_load (v := .int .i64 b) T3 rfl (iat hfa (Int.toNat_natCast _) hbi) ?_)
     exact ⟨Upd.refl _ _, rfl⟩
    intro val W5 hx5 he5
    replace hx5 := (Upd.drew _ _).trans hx5
    have hz5 := hx5.size
    replace hea := hea.ext hx5
    replace hfa := hfa.ext hx5
    replace hU := hU.trans (Ext.upd hx5)
    refine L_op rfl (X_cmp (k := .i64) (a := a) (b := b) (r := false) rfl rfl rfl (decide_eq_false (fun h_ => h_ (of_decide_eq_true hs4))) ?_)
    refine L_nil ?_
    refine T_n ?_
    refine W_cf rfl ?_
    refine W_skip ?_
    refine B_n ?_
    refine T_n ?_
    refine W_reg ?_
    refine L_op rfl (X_arith (k := .i64) (a := ((i : Nat) : Int)) (b := 1) (r := ((i + 1 : Nat) : Int)) rfl rfl rfl (iadd64 (by omega) (by omega) (by omega)) ?_)
    refine L_op rfl (X_move (v := (.int .i64 (((i + 1 : Nat) : Int)))) rfl ?_)
    refine L_nil ?_
    refine T_n ?_
    exact ⟨rfl, i + 1, ⟨⟨hi, hea, hfa, hU, take_same hai hbi hz (of_decide_eq_true hs4)⟩, (by show es.length - (i + 1) < es.length - i; omega)⟩, (Out.mk rfl), ⟨rfl, trivial⟩⟩
   ·refine W_draw 8 [[], [], [0, 1], [0, 1, 2], [], [], [4, 5], [4, 5, 6], [0, 1, 2, 3, 4, 5, 6, 7]] mixed (by kernel_rfl) ?_
    refine ⟨.det (fun val => u), ⟨fun _ _ hv => rfl, fun _ _ _ _ _ => trivial⟩, fun val h_ W hx he => ⟨trivial, ?_⟩, ?_⟩
    ·exact X_move (v := u) rfl ⟨Upd.refl _ _, rfl⟩
    refine ⟨.det (fun val => (.int .i64 (((i : Nat) : Int)))), ⟨fun _ _ hv => rfl, fun _ _ _ _ _ => trivial⟩, fun val h_ W hx he => ⟨trivial, ?_⟩, ?_⟩
    ·exact X_move (v := (.int .i64 (((i : Nat) : Int)))) rfl ⟨Upd.refl _ _, rfl⟩
    refine ⟨.det (fun val => (pof u ((((i : Nat) : Int) : Int).toNat * 1))), ⟨fun _ _ hv => rfl, fun _ _ _ _ _ => trivial⟩, fun val h_ W hx he => ⟨trivial, ?_⟩, ?_⟩
    ·replace hx := (Upd.drew _ _).trans hx
     replace hea := hea.ext hx
     refine id (X_idx (v := u) (n := es.length) (k := .i64) (i := ((i : Nat) : Int)) S24 rfl hea.sv rfl (by omega) (by omega) ?_)
     exact ⟨Upd.refl _ _, rfl⟩
    refine ⟨.det (fun val => (.int .i64 (a))), ⟨fun _ _ hv => rfl, fun _ _ _ _ _ => trivial⟩, fun val h_ W hx he => ⟨trivial, ?_⟩, ?_⟩
    ·replace hx := (Upd.drew _ _).trans hx
     replace hea := hea.ext hx
     refine id (X_load (v := .int .i64 a) T3 rfl (iat hea (Int.toNat_natCast _) hai) ?_)
     exact ⟨Upd.refl _ _, rfl⟩
    refine ⟨.det (fun val => s), ⟨fun _ _ hv => rfl, fun _ _ _ _ _ => trivial⟩, fun val h_ W hx he => ⟨trivial, ?_⟩, ?_⟩
    ·exact X_move (v := s) rfl ⟨Upd.refl _ _, rfl⟩
    refine ⟨.det (fun val => (.int .i64 (((i : Nat) : Int)))), ⟨fun _ _ hv => rfl, fun _ _ _ _ _ => trivial⟩, fun val h_ W hx he => ⟨trivial, ?_⟩, ?_⟩
    ·exact X_move (v := (.int .i64 (((i : Nat) : Int)))) rfl ⟨Upd.refl _ _, rfl⟩
    refine ⟨.det (fun val => (pof s ((((i : Nat) : Int) : Int).toNat * 1))), ⟨fun _ _ hv => rfl, fun _ _ _ _ _ => trivial⟩, fun val h_ W hx he => ⟨trivial, ?_⟩, ?_⟩
    ·replace hx := (Upd.drew _ _).trans hx
     replace hfa := hfa.ext hx
     refine id (X_idx (v := s) (n := fs.length) (k := .i64) (i := ((i : Nat) : Int)) S24 rfl hfa.sv rfl (by omega) (by omega) ?_)
     exact ⟨Upd.refl _ _, rfl⟩
    refine ⟨.det (fun val => (.int .i64 (b))), ⟨fun _ _ hv => rfl, fun _ _ _ _ _ => trivial⟩, fun val h_ W hx he => ⟨trivial, ?_⟩, ?_⟩
    ·replace hx := (Upd.drew _ _).trans hx
     replace hfa := hfa.ext hx
     refine id (X_load (v := .int .i64 b) T3 rfl (iat hfa (Int.toNat_natCast _) hbi) ?_)
     exact ⟨Upd.refl _ _, rfl⟩
    intro val W6 hx6 he6
    replace hx6 := (Upd.drew _ _).trans hx6
    have hz6 := hx6.size
    replace hea := hea.ext hx6
    replace hfa := hfa.ext hx6
    replace hU := hU.trans (Ext.upd hx6)
    refine L_op rfl (X_cmp (k := .i64) (a := a) (b := b) (r := true) rfl rfl rfl (decide_eq_true (of_decide_eq_false hs4)) ?_)
    refine L_nil ?_
    refine T_n ?_
    refine W_ct rfl ?_
    refine W_seq ?_
    refine W_reg ?_
    refine L_op rfl (X_assign (v := (.bool (false))) rfl ?_)
    refine L_nil ?_
    refine T_n ?_
    refine W_ret ?_
    refine B_r ?_
    refine T_r ?_
    refine T_r ?_
    refine B_r ?_
    refine T_r ?_
    exact BQ_r (End_1 Try.results49 (v := .bool false) rfl ⟨⟨false, rfl, ⟨fun h => (by cases h), fun h => (by exact absurd h (not_same hai hbi (of_decide_eq_false hs4)))⟩⟩, hU.own hn0⟩)
  ·refine L_op rfl (X_cmp (k := .i64) (a := ((i : Nat) : Int)) (b := ((es.length : Nat) : Int)) (r := false) rfl rfl rfl (decide_eq_false (p := ((((i : Nat) : Int)) : Int) < ((((es.length : Nat) : Int)) : Int)) (by omega)) ?_)
   refine L_nil ?_
   refine T_n ?_
   refine W_seq ?_
   refine W_cf rfl ?_
   refine W_exit ?_
   refine T_e ?_
   refine T_e ?_
   refine B_x ?_
   refine T_n ?_
   refine W_seq ?_
   refine W_reg ?_
   refine L_op rfl (X_assign (v := (.bool (true))) rfl ?_)
   refine L_nil ?_
   refine T_n ?_
   refine W_ret ?_
   exact BQ_r (End_1 Try.results49 (v := .bool true) rfl ⟨⟨true, rfl, ⟨fun _ => take_eq hz (by omega) (by omega), fun _ => rfl⟩⟩, hU.own hn0⟩)

theorem c_sameV (pv cv bv : Value) (ps : List Pg) (cs : List Wr) (bs : List Int) (off : Bool) (pv2 cv2 bv2 : Value) (ps2 : List Pg) (cs2 : List Wr) (bs2 : List Int) (off2 : Bool) (w : World) (lo up lo2 up2 : Nat) (hp : NRd LP w lo up pv ps) (hc : NRd LW w lo up cv cs) (hb : NRd LI w lo up bv bs) (hp2 : NRd LP w lo2 up2 pv2 ps2) (hc2 : NRd LW w lo2 up2 cv2 cs2) (hb2 : NRd LI w lo2 up2 bv2 bs2) : CT Try.prog 35 #[(.agg #[pv, cv, bv, (.bool (off))]), (.agg #[pv2, cv2, bv2, (.bool (off2))])] w fun v w' => (∃ g, v = .bool g ∧ (g = true ↔ ps = ps2 ∧ cs = cs2 ∧ bs = bs2 ∧ off = off2)) ∧ Ext w w' := by
 obtain ⟨n0, hn0⟩ : ∃ n, n = w.heap.size := ⟨_, rfl⟩
 have hU : Upd (fun i => n0 ≤ i) w w := Upd.refl _ _
 have hpl := hp.sv.len
 have hcl := hc.sv.len
 have hbl := hb.sv.len
 have hpl2 := hp2.sv.len
 have hcl2 := hc2.sv.len
 have hbl2 := hb2.sv.len
 refine CT_of Try.func35 rfl rfl rfl ?_
 refine W_seq ?_
 refine W_reg ?_
 refine L_op rfl (X_box (v := (.agg #[pv, cv, bv, (.bool (off))])) (c := ([pv, cv, bv, (.bool (off))]).toArray) rfl rfl ?_)
 intro b1 w1 hn1
 have hbn1 := hn1.num; have hbs1 := hn1.size
 replace hp := hp.ext hn1.ext
 replace hc := hc.ext hn1.ext
 replace hb := hb.ext hn1.ext
 replace hp2 := hp2.ext hn1.ext
 replace hc2 := hc2.ext hn1.ext
 replace hb2 := hb2.ext hn1.ext
 replace hU := hU.trans (Ext.upd hn1.ext)
 have hB1 := hn1.blk
 refine L_op rfl (X_box (v := (.agg #[pv2, cv2, bv2, (.bool (off2))])) (c := ([pv2, cv2, bv2, (.bool (off2))]).toArray) rfl rfl ?_)
 intro b2 w2 hn2
 have hbn2 := hn2.num; have hbs2 := hn2.size
 replace hp := hp.ext hn2.ext
 replace hc := hc.ext hn2.ext
 replace hb := hb.ext hn2.ext
 replace hp2 := hp2.ext hn2.ext
 replace hc2 := hc2.ext hn2.ext
 replace hb2 := hb2.ext hn2.ext
 replace hU := hU.trans (Ext.upd hn2.ext)
 replace hB1 := hB1.ext hn2.ext
 have hB2 := hn2.blk
 refine L_op rfl (X_assign (v := (.bool (false))) rfl ?_)
 refine L_nil ?_
 refine T_n ?_
 refine W_seq ?_
 refine W_reg ?_
 refine L_op rfl (X_fldP (b := b1) (o := 0) (r := 3) Fd26_3 rfl rfl ?_)
 refine L_op rfl (X_load (p := (ptr b1 (3))) (v := (.bool (off))) T4 rfl (hB1.at1 rfl) ?_)
 refine L_op rfl (X_fldP (b := b2) (o := 0) (r := 3) Fd26_3 rfl rfl ?_)
 refine L_op rfl (X_load (p := (ptr b2 (3))) (v := (.bool (off2))) T4 rfl (hB2.at1 rfl) ?_)
 rcases Bool.eq_false_or_eq_true (off == off2) with hoo | hoo
 ·refine L_op rfl (X_cmpBool (a := off) (b := off2) (r := true) Try.underlying4 rfl rfl (.inl ⟨rfl, by rw [hoo]⟩) ?_)
  refine L_op rfl (X_move (v := (.bool (true))) rfl ?_)
  refine L_gy (dj := 10) rfl rfl rfl (X_fldP (b := b1) (o := 0) (r := 0) Fd26_0 rfl rfl ?_)
  refine L_gy (dj := 10) rfl rfl rfl (X_load (p := (ptr b1 (0))) (v := pv) T22 rfl (hB1.at1 rfl) ?_)
  refine L_gy (dj := 10) rfl rfl rfl (X_fldP (b := b2) (o := 0) (r := 0) Fd26_0 rfl rfl ?_)
  refine L_gy (dj := 10) rfl rfl rfl (X_load (p := (ptr b2 (0))) (v := pv2) T22 rfl (hB2.at1 rfl) ?_)
  refine L_gy (dj := 10) rfl rfl rfl (X_fn (vs := [pv, pv2]) en47 rfl (CT.mono (c_equalP pv pv2 ps ps2 _ lo up lo2 up2 hp hp2) ?_))
  rintro _ w3 ⟨⟨g1, rfl, hg1⟩, hu3⟩
  have hz3 := hu3.size
  replace hp := hp.ext hu3
  replace hc := hc.ext hu3
  replace hb := hb.ext hu3
  replace hp2 := hp2.ext hu3
  replace hc2 := hc2.ext hu3
  replace hb2 := hb2.ext hu3
  replace hU := hU.trans (Ext.upd hu3)
  replace hB1 := hB1.ext hu3
  replace hB2 := hB2.ext hu3
  rcases Bool.eq_false_or_eq_true (g1) with hc4 | hc4
  ·rw [hc4]
   refine L_op rfl (X_pick (t := true) (v := (.bool (true))) rfl rfl ?_)
   refine L_op rfl (X_move (v := (.bool (true))) rfl ?_)
   refine L_gy (dj := 17) rfl rfl rfl (X_fldP (b := b1) (o := 0) (r := 1) Fd26_1 rfl rfl ?_)
   refine L_gy (dj := 17) rfl rfl rfl (X_load (p := (ptr b1 (1))) (v := cv) T23 rfl (hB1.at1 rfl) ?_)
   refine L_gy (dj := 17) rfl rfl rfl (X_fldP (b := b2) (o := 0) (r := 1) Fd26_1 rfl rfl ?_)
   refine L_gy (dj := 17) rfl rfl rfl (X_load (p := (ptr b2 (1))) (v := cv2) T23 rfl (hB2.at1 rfl) ?_)
   refine L_gy (dj := 17) rfl rfl rfl (X_fn (vs := [cv, cv2]) en48 rfl (CT.mono (c_equalW cv cv2 cs cs2 _ lo up lo2 up2 hc hc2) ?_))
   rintro _ w5 ⟨⟨g2, rfl, hg2⟩, hu5⟩
   have hz5 := hu5.size
   replace hp := hp.ext hu5
   replace hc := hc.ext hu5
   replace hb := hb.ext hu5
   replace hp2 := hp2.ext hu5
   replace hc2 := hc2.ext hu5
   replace hb2 := hb2.ext hu5
   replace hU := hU.trans (Ext.upd hu5)
   replace hB1 := hB1.ext hu5
   replace hB2 := hB2.ext hu5
   rcases Bool.eq_false_or_eq_true (g2) with hc6 | hc6
   ·rw [hc6]
    refine L_op rfl (X_pick (t := true) (v := (.bool (true))) rfl rfl ?_)
    refine L_op rfl (X_move (v := (.bool (true))) rfl ?_)
    refine L_gy (dj := 24) rfl rfl rfl (X_fldP (b := b1) (o := 0) (r := 2) Fd26_2 rfl rfl ?_)
    refine L_gy (dj := 24) rfl rfl rfl (X_load (p := (ptr b1 (2))) (v := bv) T24 rfl (hB1.at1 rfl) ?_)
    refine L_gy (dj := 24) rfl rfl rfl (X_fldP (b := b2) (o := 0) (r := 2) Fd26_2 rfl rfl ?_)
    refine L_gy (dj := 24) rfl rfl rfl (X_load (p := (ptr b2 (2))) (v := bv2) T24 rfl (hB2.at1 rfl) ?_)
    refine L_gy (dj := 24) rfl rfl rfl (X_fn (vs := [bv, bv2]) en49 rfl (CT.mono (c_equalI bv bv2 bs bs2 _ lo up lo2 up2 hb hb2) ?_))
    rintro _ w7 ⟨⟨g3, rfl, hg3⟩, hu7⟩
    have hz7 := hu7.size
    replace hp := hp.ext hu7
    replace hc := hc.ext hu7
    replace hb := hb.ext hu7
    replace hp2 := hp2.ext hu7
    replace hc2 := hc2.ext hu7
    replace hb2 := hb2.ext hu7
    replace hU := hU.trans (Ext.upd hu7)
    replace hB1 := hB1.ext hu7
    replace hB2 := hB2.ext hu7
    rcases Bool.eq_false_or_eq_true (g3) with hc8 | hc8
    ·rw [hc8]
     refine L_op rfl (X_pick (t := true) (v := (.bool (true))) rfl rfl ?_)
     refine L_op rfl (X_assign (v := (.bool (true))) rfl ?_)
     refine L_nil ?_
     refine T_n ?_
     refine W_ret ?_
     exact BQ_r (End_1 Try.results35 (v := .bool true) rfl ⟨⟨true, rfl, ⟨fun _ => ⟨hg1.1 hc4, hg2.1 hc6, hg3.1 hc8, by simpa using hoo⟩, fun _ => rfl⟩⟩, hU.own hn0⟩)
    ·rw [hc8]
     refine L_op rfl (X_pick (t := true) (v := (.bool (false))) rfl rfl ?_)
     refine L_op rfl (X_assign (v := (.bool (false))) rfl ?_)
     refine L_nil ?_
     refine T_n ?_
     refine W_ret ?_
     exact BQ_r (End_1 Try.results35 (v := .bool false) rfl ⟨⟨false, rfl, ⟨fun h => (by cases h), fun h => (by have h1 := hg3.2 h.2.2.1; rw [hc8] at h1; cases h1)⟩⟩, hU.own hn0⟩)
   ·rw [hc6]
    refine L_op rfl (X_pick (t := true) (v := (.bool (false))) rfl rfl ?_)
    refine L_op rfl (X_move (v := (.bool (false))) rfl ?_)
    refine L_gn (dj := 24) (t := false) rfl rfl rfl rfl ?_
    refine L_gn (dj := 24) (t := false) rfl rfl rfl rfl ?_
    refine L_gn (dj := 24) (t := false) rfl rfl rfl rfl ?_
    refine L_gn (dj := 24) (t := false) rfl rfl rfl rfl ?_
    refine L_gn (dj := 24) (t := false) rfl rfl rfl rfl ?_
    refine L_op rfl (X_pick (t := false) (v := (.bool (false))) rfl rfl ?_)
    refine L_op rfl (X_assign (v := (.bool (false))) rfl ?_)
    refine L_nil ?_
    refine T_n ?_
    refine W_ret ?_
    exact BQ_r (End_1 Try.results35 (v := .bool false) rfl ⟨⟨false, rfl, ⟨fun h => (by cases h), fun h => (by have h1 := hg2.2 h.2.1; rw [hc6] at h1; cases h1)⟩⟩, hU.own hn0⟩)
  ·rw [hc4]
   refine L_op rfl (X_pick (t := true) (v := (.bool (false))) rfl rfl ?_)
   refine L_op rfl (X_move (v := (.bool (false))) rfl ?_)
   refine L_gn (dj := 17) (t := false) rfl rfl rfl rfl ?_
   refine L_gn (dj := 17) (t := false) rfl rfl rfl rfl ?_
   refine L_gn (dj := 17) (t := false) rfl rfl rfl rfl ?_
   refine L_gn (dj := 17) (t := false) rfl rfl rfl rfl ?_
   refine L_gn (dj := 17) (t := false) rfl rfl rfl rfl ?_
   refine L_op rfl (X_pick (t := false) (v := (.bool (false))) rfl rfl ?_)
   refine L_op rfl (X_move (v := (.bool (false))) rfl ?_)
   refine L_gn (dj := 24) (t := false) rfl rfl rfl rfl ?_
   refine L_gn (dj := 24) (t := false) rfl rfl rfl rfl ?_
   refine L_gn (dj := 24) (t := false) rfl rfl rfl rfl ?_
   refine L_gn (dj := 24) (t := false) rfl rfl rfl rfl ?_
   refine L_gn (dj := 24) (t := false) rfl rfl rfl rfl ?_
   refine L_op rfl (X_pick (t := false) (v := (.bool (false))) rfl rfl ?_)
   refine L_op rfl (X_assign (v := (.bool (false))) rfl ?_)
   refine L_nil ?_
   refine T_n ?_
   refine W_ret ?_
   exact BQ_r (End_1 Try.results35 (v := .bool false) rfl ⟨⟨false, rfl, ⟨fun h => (by cases h), fun h => (by have h1 := hg1.2 h.1; rw [hc4] at h1; cases h1)⟩⟩, hU.own hn0⟩)
 ·refine L_op rfl (X_cmpBool (a := off) (b := off2) (r := false) Try.underlying4 rfl rfl (.inl ⟨rfl, by rw [hoo]⟩) ?_)
  refine L_op rfl (X_move (v := (.bool (false))) rfl ?_)
  refine L_gn (dj := 10) (t := false) rfl rfl rfl rfl ?_
  refine L_gn (dj := 10) (t := false) rfl rfl rfl rfl ?_
  refine L_gn (dj := 10) (t := false) rfl rfl rfl rfl ?_
  refine L_gn (dj := 10) (t := false) rfl rfl rfl rfl ?_
  refine L_gn (dj := 10) (t := false) rfl rfl rfl rfl ?_
  refine L_op rfl (X_pick (t := false) (v := (.bool (false))) rfl rfl ?_)
  refine L_op rfl (X_move (v := (.bool (false))) rfl ?_)
  refine L_gn (dj := 17) (t := false) rfl rfl rfl rfl ?_
  refine L_gn (dj := 17) (t := false) rfl rfl rfl rfl ?_
  refine L_gn (dj := 17) (t := false) rfl rfl rfl rfl ?_
  refine L_gn (dj := 17) (t := false) rfl rfl rfl rfl ?_
  refine L_gn (dj := 17) (t := false) rfl rfl rfl rfl ?_
  refine L_op rfl (X_pick (t := false) (v := (.bool (false))) rfl rfl ?_)
  refine L_op rfl (X_move (v := (.bool (false))) rfl ?_)
  refine L_gn (dj := 24) (t := false) rfl rfl rfl rfl ?_
  refine L_gn (dj := 24) (t := false) rfl rfl rfl rfl ?_
  refine L_gn (dj := 24) (t := false) rfl rfl rfl rfl ?_
  refine L_gn (dj := 24) (t := false) rfl rfl rfl rfl ?_
  refine L_gn (dj := 24) (t := false) rfl rfl rfl rfl ?_
  refine L_op rfl (X_pick (t := false) (v := (.bool (false))) rfl rfl ?_)
  refine L_op rfl (X_assign (v := (.bool (false))) rfl ?_)
  refine L_nil ?_
  refine T_n ?_
  refine W_ret ?_
  exact BQ_r (End_1 Try.results35 (v := .bool false) rfl ⟨⟨false, rfl, ⟨fun h => (by cases h), fun h => (by have h1 := h.2.2.2; rw [h1, beq_self_eq_true] at hoo; cases hoo)⟩⟩, hU.own hn0⟩)
end Go.Proofs.Ytcjfkkoapncnhaa
