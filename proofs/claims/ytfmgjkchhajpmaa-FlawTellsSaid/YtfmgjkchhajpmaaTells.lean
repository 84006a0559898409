/-
  The walk of FlawTells. (Printed by wip/gen/t04m.py of this repo.)
-/
import Derived.Test.YtfmgjkchhajpmaaDkI
namespace Go.Proofs.Ytfmgjkchhajpmaa
open Go Go.SL Go.Proofs
set_option linter.unusedVariables false

set_option maxRecDepth 10000 in
set_option maxHeartbeats 2000000 in
theorem c_flawTells (pv cv bv : Value) (ps : List Pg) (cs : List Wr) (bs : List Int) (off : Bool) (lv : Value) (ls : List UInt8) (n k : Int) (y : UInt8) (w : World) (hp : NRd LP w 0 w.heap.size pv ps) (hc : NRd LW w 0 w.heap.size cv cs) (hb : NRd LI w 0 w.heap.size bv bs) (hl : Rd w 1 lv ls.length (ls.map byteV)) : CT Try.prog 6 #[(.agg #[pv, cv, bv, (.bool (off))]), lv, (.int .i64 (n)), (.int .i64 (k)), (byteV y)] w fun v w' => v = .bool true ∧ Ext w w' := by
  obtain ⟨n0, hn0⟩ : ∃ n, n = w.heap.size := ⟨_, rfl⟩
  have hU : Upd (fun i => n0 ≤ i) w w := Upd.refl _ _
  have hpl := hp.sv.len
  have hcl := hc.sv.len
  have hbl := hb.sv.len
  have hlb : ∀ i, rbk lv = some i → i < n0 := by rw [hn0]; exact fun i hi => hl.bound (by decide) hi
  rw [← hn0] at hp hc hb
  refine CT_of Try.func6 rfl rfl rfl ?_
  refine W_seq ?_
  refine W_reg ?_
  refine L_op rfl (X_box (v := (.agg #[pv, cv, bv, (.bool (off))])) (c := ([pv, cv, bv, (.bool (off))]).toArray) rfl rfl ?_)
  intro b1 w1 hn1
  have hbn1 := hn1.num; have hbs1 := hn1.size
  replace hp := hp.ext hn1.ext
  replace hc := hc.ext hn1.ext
  replace hb := hb.ext hn1.ext
  replace hl := hl.ext hn1.ext
  replace hU := hU.trans (Ext.upd hn1.ext)
  have hB1 := hn1.blk
  refine L_op rfl (X_assign (v := (.bool (false))) rfl ?_)
  refine L_nil ?_
  refine T_n ?_
  refine W_seq ?_
  refine W_seq ?_
  refine W_reg ?_
  refine L_op rfl (X_loadA (p := (ptr b1 (0))) (xs := [pv, cv, bv, (.bool (off))]) A26 rfl hB1.atAll rfl ?_)
  refine L_op rfl (X_fn (vs := [(.agg ([pv, cv, bv, (.bool (off))]).toArray)]) en7 rfl (CT.mono (c_great4 pv cv bv ps cs bs off _ 0 n0 hp hc hb) ?_))
  rintro _ w2 ⟨⟨gG, rfl, hgG⟩, hu2⟩
  have hz2 := hu2.size
  replace hp := hp.ext hu2
  replace hc := hc.ext hu2
  replace hb := hb.ext hu2
  replace hl := hl.ext hu2
  replace hU := hU.trans (Ext.upd hu2)
  replace hB1 := hB1.ext hu2
  rcases Bool.eq_false_or_eq_true (gG) with hc3 | hc3
  · rw [hc3]
    refine L_op rfl (X_move (v := (.bool (true))) rfl ?_)
    refine L_gn (dj := 21) (t := true) rfl rfl rfl rfl ?_
    refine L_gn (dj := 21) (t := true) rfl rfl rfl rfl ?_
    refine L_gn (dj := 21) (t := true) rfl rfl rfl rfl ?_
    refine L_op rfl (X_pick (t := true) (v := (.bool (true))) rfl rfl ?_)
    refine L_nil ?_
    refine T_n ?_
    refine W_ct rfl ?_
    refine W_seq ?_
    refine W_reg ?_
    refine L_op rfl (X_fn (vs := []) en8 rfl (CT.mono (c_wakes4 _) ?_))
    rintro vb4 w4 ⟨hvb4, hu4⟩
    have hz4 := hu4.size
    replace hp := hp.ext hu4
    replace hc := hc.ext hu4
    replace hb := hb.ext hu4
    replace hl := hl.ext hu4
    replace hU := hU.trans (Ext.upd hu4)
    replace hB1 := hB1.ext hu4
    subst hvb4
    refine L_op rfl (X_assign (v := (.bool (true))) rfl ?_)
    refine L_nil ?_
    refine T_n ?_
    refine W_ret ?_
    refine T_r ?_
    exact BQ_r (End_1 Try.results6 (v := .bool true) rfl ⟨rfl, hU.own hn0⟩)
  · rw [hc3]
    refine L_op rfl (X_move (v := (.bool (false))) rfl ?_)
    refine L_gy (dj := 21) rfl rfl rfl (X_move (v := lv) rfl ?_)
    refine L_gy (dj := 21) rfl rfl rfl (X_len (v := lv) (n := ls.length) Try.underlying27 rfl hl.sv ?_)
    by_cases hc5 : (((ls.length : Nat) : Int) : Int) > (80)
    · refine L_gy (dj := 21) rfl rfl rfl (X_cmp (k := .i64) (a := ((ls.length : Nat) : Int)) (b := 80) (r := true) rfl rfl rfl (decide_eq_true (p := ((80) : Int) < ((((ls.length : Nat) : Int)) : Int)) (by omega)) ?_)
      refine L_op rfl (X_pick (t := false) (v := (.bool (true))) rfl rfl ?_)
      refine L_nil ?_
      refine T_n ?_
      refine W_ct rfl ?_
      refine W_seq ?_
      refine W_reg ?_
      refine L_op rfl (X_fn (vs := []) en8 rfl (CT.mono (c_wakes4 _) ?_))
      rintro vb6 w6 ⟨hvb6, hu6⟩
      have hz6 := hu6.size
      replace hp := hp.ext hu6
      replace hc := hc.ext hu6
      replace hb := hb.ext hu6
      replace hl := hl.ext hu6
      replace hU := hU.trans (Ext.upd hu6)
      replace hB1 := hB1.ext hu6
      subst hvb6
      refine L_op rfl (X_assign (v := (.bool (true))) rfl ?_)
      refine L_nil ?_
      refine T_n ?_
      refine W_ret ?_
      refine T_r ?_
      exact BQ_r (End_1 Try.results6 (v := .bool true) rfl ⟨rfl, hU.own hn0⟩)
    · refine L_gy (dj := 21) rfl rfl rfl (X_cmp (k := .i64) (a := ((ls.length : Nat) : Int)) (b := 80) (r := false) rfl rfl rfl (decide_eq_false (p := ((80) : Int) < ((((ls.length : Nat) : Int)) : Int)) (by omega)) ?_)
      refine L_op rfl (X_pick (t := false) (v := (.bool (false))) rfl rfl ?_)
      refine L_nil ?_
      refine T_n ?_
      refine W_cf rfl ?_
      refine W_skip ?_
      refine T_n ?_
      refine W_seq ?_
      have hgd := hgG hc3
      have hpw := rise_pw hgd.1
      refine W_reg ?_
      refine L_op rfl (X_loadA (p := (ptr b1 (0))) (xs := [pv, cv, bv, (.bool (off))]) A26 rfl hB1.atAll rfl ?_)
      refine L_op rfl (X_move (v := (.int .i64 (n))) rfl ?_)
      refine L_op rfl (X_move (v := (.int .i64 (k))) rfl ?_)
      refine L_op rfl (X_move (v := (byteV y)) rfl ?_)
      obtain ⟨s_a, hs_a⟩ : ∃ n, n = w2.heap.size := ⟨_, rfl⟩
      refine L_op rfl (X_fn (vs := [(.agg ([pv, cv, bv, (.bool (off))]).toArray), (.int .i64 (n)), (.int .i64 (k)), (byteV y)]) en13 rfl (CT.mono (c_flip pv cv bv ps cs bs off n k y _ 0 n0 (by omega) hp hc hb (by omega) (by omega) (by omega)) ?_))
      rintro _ w7 ⟨p_a, c_a, i_a, q_a, e_a, rfl, hPa, hCa, hIa, hoka, hnoa, hu7⟩
      have hz7 := hu7.size
      replace hp := hp.ext hu7
      replace hc := hc.ext hu7
      replace hb := hb.ext hu7
      replace hl := hl.ext hu7
      replace hU := hU.trans (Ext.upd hu7)
      replace hB1 := hB1.ext hu7
      obtain ⟨u_a, hu_a⟩ : ∃ n, n = w7.heap.size := ⟨_, rfl⟩
      rw [← hs_a, ← hu_a] at hPa hCa hIa
      refine L_op rfl (X_move (v := (.tuple #[(.agg #[p_a, c_a, i_a, (.bool (off))]), (.int .i64 (e_a))])) rfl ?_)
      refine L_op rfl (X_extract (l := [(.agg #[p_a, c_a, i_a, (.bool (off))]), (.int .i64 (e_a))]) (v := (.agg #[p_a, c_a, i_a, (.bool (off))])) rfl rfl ?_)
      refine L_op rfl (X_extract (l := [(.agg #[p_a, c_a, i_a, (.bool (off))]), (.int .i64 (e_a))]) (v := (.int .i64 (e_a))) rfl rfl ?_)
      refine L_op rfl (X_alloc (z := (.agg #[(.slice none 0 0), (.slice none 0 0), (.slice none 0 0), (.bool (false))])) (c := #[(.slice none 0 0), (.slice none 0 0), (.slice none 0 0), (.bool (false))]) Zv26 rfl ?_)
      intro b8 w8 hn8
      have hbn8 := hn8.num; have hbs8 := hn8.size
      replace hp := hp.ext hn8.ext
      replace hc := hc.ext hn8.ext
      replace hb := hb.ext hn8.ext
      replace hl := hl.ext hn8.ext
      replace hU := hU.trans (Ext.upd hn8.ext)
      replace hB1 := hB1.ext hn8.ext
      replace hPa := hPa.ext hn8.ext
      replace hCa := hCa.ext hn8.ext
      replace hIa := hIa.ext hn8.ext
      have hB8 := hn8.blk
      refine L_op0 (X_storeW (b := b8) (ys := [p_a, c_a, i_a, (.bool (off))]) A26 rfl rfl (List.forall_mem_cons.2 ⟨(hPa.1.sv.one), (List.forall_mem_cons.2 ⟨(hCa.1.sv.one), (List.forall_mem_cons.2 ⟨(hIa.1.sv.one), (List.forall_mem_cons.2 ⟨rfl, (fun _ h => by cases h)⟩)⟩)⟩)⟩) rfl hB8 rfl ?_)
      intro w9 hu9 hb9
      have hz9 := hu9.size
      replace hp := hp.upd hu9 fun i h1 h2 h => by have h : i = b8 := h; omega
      replace hc := hc.upd hu9 fun i h1 h2 h => by have h : i = b8 := h; omega
      replace hb := hb.upd hu9 fun i h1 h2 h => by have h : i = b8 := h; omega
      replace hl := hl.upd hu9 fun i hi h => by have hi := hlb _ hi; have h : i = b8 := h; omega
      replace hU := hU.trans (hu9.mono fun i _ h => by have h : i = b8 := h; show n0 ≤ i; omega)
      replace hB1 := hB1.upd hu9 fun h => by have h : b1 = b8 := h; omega
      replace hPa := hPa.upd hu9 fun i h1 h2 h => by have h : i = b8 := h; omega
      replace hCa := hCa.upd hu9 fun i h1 h2 h => by have h : i = b8 := h; omega
      replace hIa := hIa.upd hu9 fun i h1 h2 h => by have h : i = b8 := h; omega
      replace hB8 : Blk w9 b8 #[p_a, c_a, i_a, (.bool (off))] 26 := hb9
      refine L_op rfl (X_assign (v := (.int .i64 (e_a))) rfl ?_)
      refine L_nil ?_
      refine T_n ?_
      refine W_seq ?_
      refine W_reg ?_
      refine L_op rfl (X_loadA (p := (ptr b1 (0))) (xs := [pv, cv, bv, (.bool (off))]) A26 rfl hB1.atAll rfl ?_)
      refine L_op rfl (X_move (v := (.int .i64 (n))) rfl ?_)
      refine L_op rfl (X_move (v := (.int .i64 (k))) rfl ?_)
      refine L_op rfl (X_move (v := (byteV y)) rfl ?_)
      obtain ⟨s_b, hs_b⟩ : ∃ n, n = w9.heap.size := ⟨_, rfl⟩
      refine L_op rfl (X_fn (vs := [(.agg ([pv, cv, bv, (.bool (off))]).toArray), (.int .i64 (n)), (.int .i64 (k)), (byteV y)]) en18 rfl (CT.mono (c_flipR pv cv bv ps cs bs off n k y _ 0 n0 (by omega) hp hc hb (by omega) (by omega) (by omega)) ?_))
      rintro _ w10 ⟨p_b, c_b, i_b, q_b, e_b, rfl, hPb, hCb, hIb, hokb, hnob, hu10⟩
      have hz10 := hu10.size
      replace hp := hp.ext hu10
      replace hc := hc.ext hu10
      replace hb := hb.ext hu10
      replace hl := hl.ext hu10
      replace hU := hU.trans (Ext.upd hu10)
      replace hB1 := hB1.ext hu10
      replace hPa := hPa.ext hu10
      replace hCa := hCa.ext hu10
      replace hIa := hIa.ext hu10
      replace hB8 := hB8.ext hu10
      obtain ⟨u_b, hu_b⟩ : ∃ n, n = w10.heap.size := ⟨_, rfl⟩
      rw [← hs_b, ← hu_b] at hPb hCb hIb
      refine L_op rfl (X_move (v := (.tuple #[(.agg #[p_b, c_b, i_b, (.bool (off))]), (.int .i64 (e_b))])) rfl ?_)
      refine L_op rfl (X_extract (l := [(.agg #[p_b, c_b, i_b, (.bool (off))]), (.int .i64 (e_b))]) (v := (.agg #[p_b, c_b, i_b, (.bool (off))])) rfl rfl ?_)
      refine L_op rfl (X_extract (l := [(.agg #[p_b, c_b, i_b, (.bool (off))]), (.int .i64 (e_b))]) (v := (.int .i64 (e_b))) rfl rfl ?_)
      refine L_op rfl (X_alloc (z := (.agg #[(.slice none 0 0), (.slice none 0 0), (.slice none 0 0), (.bool (false))])) (c := #[(.slice none 0 0), (.slice none 0 0), (.slice none 0 0), (.bool (false))]) Zv26 rfl ?_)
      intro b11 w11 hn11
      have hbn11 := hn11.num; have hbs11 := hn11.size
      replace hp := hp.ext hn11.ext
      replace hc := hc.ext hn11.ext
      replace hb := hb.ext hn11.ext
      replace hl := hl.ext hn11.ext
      replace hU := hU.trans (Ext.upd hn11.ext)
      replace hB1 := hB1.ext hn11.ext
      replace hPa := hPa.ext hn11.ext
      replace hCa := hCa.ext hn11.ext
      replace hIa := hIa.ext hn11.ext
      replace hB8 := hB8.ext hn11.ext
      replace hPb := hPb.ext hn11.ext
      replace hCb := hCb.ext hn11.ext
      replace hIb := hIb.ext hn11.ext
      have hB11 := hn11.blk
      refine L_op0 (X_storeW (b := b11) (ys := [p_b, c_b, i_b, (.bool (off))]) A26 rfl rfl (List.forall_mem_cons.2 ⟨(hPb.1.sv.one), (List.forall_mem_cons.2 ⟨(hCb.1.sv.one), (List.forall_mem_cons.2 ⟨(hIb.1.sv.one), (List.forall_mem_cons.2 ⟨rfl, (fun _ h => by cases h)⟩)⟩)⟩)⟩) rfl hB11 rfl ?_)
      intro w12 hu12 hb12
      have hz12 := hu12.size
      replace hp := hp.upd hu12 fun i h1 h2 h => by have h : i = b11 := h; omega
      replace hc := hc.upd hu12 fun i h1 h2 h => by have h : i = b11 := h; omega
      replace hb := hb.upd hu12 fun i h1 h2 h => by have h : i = b11 := h; omega
      replace hl := hl.upd hu12 fun i hi h => by have hi := hlb _ hi; have h : i = b11 := h; omega
      replace hU := hU.trans (hu12.mono fun i _ h => by have h : i = b11 := h; show n0 ≤ i; omega)
      replace hB1 := hB1.upd hu12 fun h => by have h : b1 = b11 := h; omega
      replace hPa := hPa.upd hu12 fun i h1 h2 h => by have h : i = b11 := h; omega
      replace hCa := hCa.upd hu12 fun i h1 h2 h => by have h : i = b11 := h; omega
      replace hIa := hIa.upd hu12 fun i h1 h2 h => by have h : i = b11 := h; omega
      replace hB8 := hB8.upd hu12 fun h => by have h : b8 = b11 := h; omega
      replace hPb := hPb.upd hu12 fun i h1 h2 h => by have h : i = b11 := h; omega
      replace hCb := hCb.upd hu12 fun i h1 h2 h => by have h : i = b11 := h; omega
      replace hIb := hIb.upd hu12 fun i h1 h2 h => by have h : i = b11 := h; omega
      replace hB11 : Blk w12 b11 #[p_b, c_b, i_b, (.bool (off))] 26 := hb12
      refine L_op rfl (X_assign (v := (.int .i64 (e_b))) rfl ?_)
      refine L_nil ?_
      refine T_n ?_
      refine W_seq ?_
      refine W_reg ?_
      refine L_op rfl (X_loadA (p := (ptr b1 (0))) (xs := [pv, cv, bv, (.bool (off))]) A26 rfl hB1.atAll rfl ?_)
      refine L_op rfl (X_move (v := (.int .i64 (n))) rfl ?_)
      obtain ⟨s_c, hs_c⟩ : ∃ n, n = w12.heap.size := ⟨_, rfl⟩
      refine L_op rfl (X_fn (vs := [(.agg ([pv, cv, bv, (.bool (off))]).toArray), (.int .i64 (n))]) en15 rfl (CT.mono (c_spoil pv cv bv ps cs bs off n _ 0 n0 (by omega) hp hc hb (by omega) (by omega) (by omega) hpw) ?_))
      rintro _ w13 ⟨p_c, c_c, i_c, q_c, e_c, rfl, hPc, hCc, hIc, hokc, hnoc, hu13⟩
      have hz13 := hu13.size
      replace hp := hp.ext hu13
      replace hc := hc.ext hu13
      replace hb := hb.ext hu13
      replace hl := hl.ext hu13
      replace hU := hU.trans (Ext.upd hu13)
      replace hB1 := hB1.ext hu13
      replace hPa := hPa.ext hu13
      replace hCa := hCa.ext hu13
      replace hIa := hIa.ext hu13
      replace hB8 := hB8.ext hu13
      replace hPb := hPb.ext hu13
      replace hCb := hCb.ext hu13
      replace hIb := hIb.ext hu13
      replace hB11 := hB11.ext hu13
      obtain ⟨u_c, hu_c⟩ : ∃ n, n = w13.heap.size := ⟨_, rfl⟩
      rw [← hs_c, ← hu_c] at hPc hCc hIc
      refine L_op rfl (X_move (v := (.tuple #[(.agg #[p_c, c_c, i_c, (.bool (off))]), (.int .i64 (e_c))])) rfl ?_)
      refine L_op rfl (X_extract (l := [(.agg #[p_c, c_c, i_c, (.bool (off))]), (.int .i64 (e_c))]) (v := (.agg #[p_c, c_c, i_c, (.bool (off))])) rfl rfl ?_)
      refine L_op rfl (X_extract (l := [(.agg #[p_c, c_c, i_c, (.bool (off))]), (.int .i64 (e_c))]) (v := (.int .i64 (e_c))) rfl rfl ?_)
      refine L_op rfl (X_alloc (z := (.agg #[(.slice none 0 0), (.slice none 0 0), (.slice none 0 0), (.bool (false))])) (c := #[(.slice none 0 0), (.slice none 0 0), (.slice none 0 0), (.bool (false))]) Zv26 rfl ?_)
      intro b14 w14 hn14
      have hbn14 := hn14.num; have hbs14 := hn14.size
      replace hp := hp.ext hn14.ext
      replace hc := hc.ext hn14.ext
      replace hb := hb.ext hn14.ext
      replace hl := hl.ext hn14.ext
      replace hU := hU.trans (Ext.upd hn14.ext)
      replace hB1 := hB1.ext hn14.ext
      replace hPa := hPa.ext hn14.ext
      replace hCa := hCa.ext hn14.ext
      replace hIa := hIa.ext hn14.ext
      replace hB8 := hB8.ext hn14.ext
      replace hPb := hPb.ext hn14.ext
      replace hCb := hCb.ext hn14.ext
      replace hIb := hIb.ext hn14.ext
      replace hB11 := hB11.ext hn14.ext
      replace hPc := hPc.ext hn14.ext
      replace hCc := hCc.ext hn14.ext
      replace hIc := hIc.ext hn14.ext
      have hB14 := hn14.blk
      refine L_op0 (X_storeW (b := b14) (ys := [p_c, c_c, i_c, (.bool (off))]) A26 rfl rfl (List.forall_mem_cons.2 ⟨(hPc.1.sv.one), (List.forall_mem_cons.2 ⟨(hCc.1.sv.one), (List.forall_mem_cons.2 ⟨(hIc.1.sv.one), (List.forall_mem_cons.2 ⟨rfl, (fun _ h => by cases h)⟩)⟩)⟩)⟩) rfl hB14 rfl ?_)
      intro w15 hu15 hb15
      have hz15 := hu15.size
      replace hp := hp.upd hu15 fun i h1 h2 h => by have h : i = b14 := h; omega
      replace hc := hc.upd hu15 fun i h1 h2 h => by have h : i = b14 := h; omega
      replace hb := hb.upd hu15 fun i h1 h2 h => by have h : i = b14 := h; omega
      replace hl := hl.upd hu15 fun i hi h => by have hi := hlb _ hi; have h : i = b14 := h; omega
      replace hU := hU.trans (hu15.mono fun i _ h => by have h : i = b14 := h; show n0 ≤ i; omega)
      replace hB1 := hB1.upd hu15 fun h => by have h : b1 = b14 := h; omega
      replace hPa := hPa.upd hu15 fun i h1 h2 h => by have h : i = b14 := h; omega
      replace hCa := hCa.upd hu15 fun i h1 h2 h => by have h : i = b14 := h; omega
      replace hIa := hIa.upd hu15 fun i h1 h2 h => by have h : i = b14 := h; omega
      replace hB8 := hB8.upd hu15 fun h => by have h : b8 = b14 := h; omega
      replace hPb := hPb.upd hu15 fun i h1 h2 h => by have h : i = b14 := h; omega
      replace hCb := hCb.upd hu15 fun i h1 h2 h => by have h : i = b14 := h; omega
      replace hIb := hIb.upd hu15 fun i h1 h2 h => by have h : i = b14 := h; omega
      replace hB11 := hB11.upd hu15 fun h => by have h : b11 = b14 := h; omega
      replace hPc := hPc.upd hu15 fun i h1 h2 h => by have h : i = b14 := h; omega
      replace hCc := hCc.upd hu15 fun i h1 h2 h => by have h : i = b14 := h; omega
      replace hIc := hIc.upd hu15 fun i h1 h2 h => by have h : i = b14 := h; omega
      replace hB14 : Blk w15 b14 #[p_c, c_c, i_c, (.bool (off))] 26 := hb15
      refine L_op rfl (X_assign (v := (.int .i64 (e_c))) rfl ?_)
      refine L_nil ?_
      refine T_n ?_
      refine W_seq ?_
      refine W_reg ?_
      refine L_op rfl (X_loadA (p := (ptr b1 (0))) (xs := [pv, cv, bv, (.bool (off))]) A26 rfl hB1.atAll rfl ?_)
      refine L_op rfl (X_move (v := (.int .i64 (n))) rfl ?_)
      obtain ⟨s_d, hs_d⟩ : ∃ n, n = w15.heap.size := ⟨_, rfl⟩
      refine L_op rfl (X_fn (vs := [(.agg ([pv, cv, bv, (.bool (off))]).toArray), (.int .i64 (n))]) en19 rfl (CT.mono (c_spoilR pv cv bv ps cs bs off n _ 0 n0 (by omega) hp hc hb (by omega) (by omega) (by omega) hpw) ?_))
      rintro _ w16 ⟨p_d, c_d, i_d, q_d, e_d, rfl, hPd, hCd, hId, hokd, hnod, hu16⟩
      have hz16 := hu16.size
      replace hp := hp.ext hu16
      replace hc := hc.ext hu16
      replace hb := hb.ext hu16
      replace hl := hl.ext hu16
      replace hU := hU.trans (Ext.upd hu16)
      replace hB1 := hB1.ext hu16
      replace hPa := hPa.ext hu16
      replace hCa := hCa.ext hu16
      replace hIa := hIa.ext hu16
      replace hB8 := hB8.ext hu16
      replace hPb := hPb.ext hu16
      replace hCb := hCb.ext hu16
      replace hIb := hIb.ext hu16
      replace hB11 := hB11.ext hu16
      replace hPc := hPc.ext hu16
      replace hCc := hCc.ext hu16
      replace hIc := hIc.ext hu16
      replace hB14 := hB14.ext hu16
      obtain ⟨u_d, hu_d⟩ : ∃ n, n = w16.heap.size := ⟨_, rfl⟩
      rw [← hs_d, ← hu_d] at hPd hCd hId
      refine L_op rfl (X_move (v := (.tuple #[(.agg #[p_d, c_d, i_d, (.bool (off))]), (.int .i64 (e_d))])) rfl ?_)
      refine L_op rfl (X_extract (l := [(.agg #[p_d, c_d, i_d, (.bool (off))]), (.int .i64 (e_d))]) (v := (.agg #[p_d, c_d, i_d, (.bool (off))])) rfl rfl ?_)
      refine L_op rfl (X_extract (l := [(.agg #[p_d, c_d, i_d, (.bool (off))]), (.int .i64 (e_d))]) (v := (.int .i64 (e_d))) rfl rfl ?_)
      refine L_op rfl (X_alloc (z := (.agg #[(.slice none 0 0), (.slice none 0 0), (.slice none 0 0), (.bool (false))])) (c := #[(.slice none 0 0), (.slice none 0 0), (.slice none 0 0), (.bool (false))]) Zv26 rfl ?_)
      intro b17 w17 hn17
      have hbn17 := hn17.num; have hbs17 := hn17.size
      replace hp := hp.ext hn17.ext
      replace hc := hc.ext hn17.ext
      replace hb := hb.ext hn17.ext
      replace hl := hl.ext hn17.ext
      replace hU := hU.trans (Ext.upd hn17.ext)
      replace hB1 := hB1.ext hn17.ext
      replace hPa := hPa.ext hn17.ext
      replace hCa := hCa.ext hn17.ext
      replace hIa := hIa.ext hn17.ext
      replace hB8 := hB8.ext hn17.ext
      replace hPb := hPb.ext hn17.ext
      replace hCb := hCb.ext hn17.ext
      replace hIb := hIb.ext hn17.ext
      replace hB11 := hB11.ext hn17.ext
      replace hPc := hPc.ext hn17.ext
      replace hCc := hCc.ext hn17.ext
      replace hIc := hIc.ext hn17.ext
      replace hB14 := hB14.ext hn17.ext
      replace hPd := hPd.ext hn17.ext
      replace hCd := hCd.ext hn17.ext
      replace hId := hId.ext hn17.ext
      have hB17 := hn17.blk
      refine L_op0 (X_storeW (b := b17) (ys := [p_d, c_d, i_d, (.bool (off))]) A26 rfl rfl (List.forall_mem_cons.2 ⟨(hPd.1.sv.one), (List.forall_mem_cons.2 ⟨(hCd.1.sv.one), (List.forall_mem_cons.2 ⟨(hId.1.sv.one), (List.forall_mem_cons.2 ⟨rfl, (fun _ h => by cases h)⟩)⟩)⟩)⟩) rfl hB17 rfl ?_)
      intro w18 hu18 hb18
      have hz18 := hu18.size
      replace hp := hp.upd hu18 fun i h1 h2 h => by have h : i = b17 := h; omega
      replace hc := hc.upd hu18 fun i h1 h2 h => by have h : i = b17 := h; omega
      replace hb := hb.upd hu18 fun i h1 h2 h => by have h : i = b17 := h; omega
      replace hl := hl.upd hu18 fun i hi h => by have hi := hlb _ hi; have h : i = b17 := h; omega
      replace hU := hU.trans (hu18.mono fun i _ h => by have h : i = b17 := h; show n0 ≤ i; omega)
      replace hB1 := hB1.upd hu18 fun h => by have h : b1 = b17 := h; omega
      replace hPa := hPa.upd hu18 fun i h1 h2 h => by have h : i = b17 := h; omega
      replace hCa := hCa.upd hu18 fun i h1 h2 h => by have h : i = b17 := h; omega
      replace hIa := hIa.upd hu18 fun i h1 h2 h => by have h : i = b17 := h; omega
      replace hB8 := hB8.upd hu18 fun h => by have h : b8 = b17 := h; omega
      replace hPb := hPb.upd hu18 fun i h1 h2 h => by have h : i = b17 := h; omega
      replace hCb := hCb.upd hu18 fun i h1 h2 h => by have h : i = b17 := h; omega
      replace hIb := hIb.upd hu18 fun i h1 h2 h => by have h : i = b17 := h; omega
      replace hB11 := hB11.upd hu18 fun h => by have h : b11 = b17 := h; omega
      replace hPc := hPc.upd hu18 fun i h1 h2 h => by have h : i = b17 := h; omega
      replace hCc := hCc.upd hu18 fun i h1 h2 h => by have h : i = b17 := h; omega
      replace hIc := hIc.upd hu18 fun i h1 h2 h => by have h : i = b17 := h; omega
      replace hB14 := hB14.upd hu18 fun h => by have h : b14 = b17 := h; omega
      replace hPd := hPd.upd hu18 fun i h1 h2 h => by have h : i = b17 := h; omega
      replace hCd := hCd.upd hu18 fun i h1 h2 h => by have h : i = b17 := h; omega
      replace hId := hId.upd hu18 fun i h1 h2 h => by have h : i = b17 := h; omega
      replace hB17 : Blk w18 b17 #[p_d, c_d, i_d, (.bool (off))] 26 := hb18
      refine L_op rfl (X_assign (v := (.int .i64 (e_d))) rfl ?_)
      refine L_nil ?_
      refine T_n ?_
      refine W_seq ?_
      refine W_seq ?_
      have hfq : q_a = q_b ∧ e_a = e_b := by
        by_cases h0 : (0 ≤ n ∧ n < ps.length ∧ 0 ≤ k ∧ k < 256)
        · obtain ⟨h1, h2⟩ := hoka h0; obtain ⟨h3, h4⟩ := hokb h0; exact ⟨h2.trans h4.symm, h1.trans h3.symm⟩
        · obtain ⟨h1, h2⟩ := hnoa h0; obtain ⟨h3, h4⟩ := hnob h0; exact ⟨h2.trans h4.symm, h1.trans h3.symm⟩
      have hsq : q_c = q_d ∧ e_c = e_d := by
        by_cases h0 : 0 ≤ n ∧ n < ps.length
        · obtain ⟨h1, h2, h5, _⟩ := hokc h0; obtain ⟨h3, h4, h6, _⟩ := hokd h0; exact ⟨incr_ext h2 h4 fun y => (h5 y).trans (h6 y).symm, h1.trans h3.symm⟩
        · obtain ⟨h1, h2⟩ := hnoc h0; obtain ⟨h3, h4⟩ := hnod h0; exact ⟨h2.trans h4.symm, h1.trans h3.symm⟩
      refine W_reg ?_
      refine L_op rfl (X_loadA (p := (ptr b8 (0))) (xs := [p_a, c_a, i_a, (.bool (off))]) A26 rfl hB8.atAll rfl ?_)
      refine L_op rfl (X_loadA (p := (ptr b11 (0))) (xs := [p_b, c_b, i_b, (.bool (off))]) A26 rfl hB11.atAll rfl ?_)
      refine L_op rfl (X_fn (vs := [(.agg ([p_a, c_a, i_a, (.bool (off))]).toArray), (.agg ([p_b, c_b, i_b, (.bool (off))]).toArray)]) en11 rfl (CT.mono (c_same4 p_a c_a i_a q_a cs bs off p_b c_b i_b q_b cs bs off _ s_a u_a s_b u_b hPa.rd hCa.rd hIa.rd hPb.rd hCb.rd hIb.rd) ?_))
      rintro _ w19 ⟨⟨g19, rfl, hg19⟩, hu19⟩
      have hz19 := hu19.size
      replace hp := hp.ext hu19
      replace hc := hc.ext hu19
      replace hb := hb.ext hu19
      replace hl := hl.ext hu19
      replace hU := hU.trans (Ext.upd hu19)
      replace hB1 := hB1.ext hu19
      replace hPa := hPa.ext hu19
      replace hCa := hCa.ext hu19
      replace hIa := hIa.ext hu19
      replace hB8 := hB8.ext hu19
      replace hPb := hPb.ext hu19
      replace hCb := hCb.ext hu19
      replace hIb := hIb.ext hu19
      replace hB11 := hB11.ext hu19
      replace hPc := hPc.ext hu19
      replace hCc := hCc.ext hu19
      replace hIc := hIc.ext hu19
      replace hB14 := hB14.ext hu19
      replace hPd := hPd.ext hu19
      replace hCd := hCd.ext hu19
      replace hId := hId.ext hu19
      replace hB17 := hB17.ext hu19
      obtain rfl : g19 = true := hg19.2 ⟨hfq.1, rfl, rfl, rfl⟩
      refine L_op rfl (X_not (b := true) (r := false) rfl rfl ?_)
      refine L_op rfl (X_move (v := (.bool (false))) rfl ?_)
      refine L_gy (dj := 59) rfl rfl rfl (X_move (v := (.int .i64 (e_a))) rfl ?_)
      refine L_gy (dj := 59) rfl rfl rfl (X_move (v := (.int .i64 (e_b))) rfl ?_)
      refine L_gy (dj := 59) rfl rfl rfl (X_cmp (k := .i64) (a := e_a) (b := e_b) (r := false) rfl rfl rfl (decide_eq_false (fun h => h hfq.2)) ?_)
      refine L_op rfl (X_pick (t := false) (v := (.bool (false))) rfl rfl ?_)
      refine L_op rfl (X_move (v := (.bool (false))) rfl ?_)
      refine L_gy (dj := 64) rfl rfl rfl (X_loadA (p := (ptr b14 (0))) (xs := [p_c, c_c, i_c, (.bool (off))]) A26 rfl hB14.atAll rfl ?_)
      refine L_gy (dj := 64) rfl rfl rfl (X_loadA (p := (ptr b17 (0))) (xs := [p_d, c_d, i_d, (.bool (off))]) A26 rfl hB17.atAll rfl ?_)
      refine L_gy (dj := 64) rfl rfl rfl (X_fn (vs := [(.agg ([p_c, c_c, i_c, (.bool (off))]).toArray), (.agg ([p_d, c_d, i_d, (.bool (off))]).toArray)]) en11 rfl (CT.mono (c_same4 p_c c_c i_c ps cs q_c off p_d c_d i_d ps cs q_d off _ s_c u_c s_d u_d hPc.rd hCc.rd hIc.rd hPd.rd hCd.rd hId.rd) ?_))
      rintro _ w20 ⟨⟨g20, rfl, hg20⟩, hu20⟩
      have hz20 := hu20.size
      replace hp := hp.ext hu20
      replace hc := hc.ext hu20
      replace hb := hb.ext hu20
      replace hl := hl.ext hu20
      replace hU := hU.trans (Ext.upd hu20)
      replace hB1 := hB1.ext hu20
      replace hPa := hPa.ext hu20
      replace hCa := hCa.ext hu20
      replace hIa := hIa.ext hu20
      replace hB8 := hB8.ext hu20
      replace hPb := hPb.ext hu20
      replace hCb := hCb.ext hu20
      replace hIb := hIb.ext hu20
      replace hB11 := hB11.ext hu20
      replace hPc := hPc.ext hu20
      replace hCc := hCc.ext hu20
      replace hIc := hIc.ext hu20
      replace hB14 := hB14.ext hu20
      replace hPd := hPd.ext hu20
      replace hCd := hCd.ext hu20
      replace hId := hId.ext hu20
      replace hB17 := hB17.ext hu20
      obtain rfl : g20 = true := hg20.2 ⟨rfl, rfl, hsq.1, rfl⟩
      refine L_gy (dj := 64) rfl rfl rfl (X_not (b := true) (r := false) rfl rfl ?_)
      refine L_op rfl (X_pick (t := false) (v := (.bool (false))) rfl rfl ?_)
      refine L_op rfl (X_move (v := (.bool (false))) rfl ?_)
      refine L_gy (dj := 70) rfl rfl rfl (X_move (v := (.int .i64 (e_c))) rfl ?_)
      refine L_gy (dj := 70) rfl rfl rfl (X_move (v := (.int .i64 (e_d))) rfl ?_)
      refine L_gy (dj := 70) rfl rfl rfl (X_cmp (k := .i64) (a := e_c) (b := e_d) (r := false) rfl rfl rfl (decide_eq_false (fun h => h hsq.2)) ?_)
      refine L_op rfl (X_pick (t := false) (v := (.bool (false))) rfl rfl ?_)
      refine L_nil ?_
      refine T_n ?_
      refine W_cf rfl ?_
      refine W_skip ?_
      refine T_n ?_
      refine W_seq ?_
      obtain ⟨s9, hs9⟩ : ∃ n, n = w20.heap.size := ⟨_, rfl⟩
      refine W_draw 25 [[], [], [0, 1], [], [], [0, 1, 2, 3, 4], [0, 1, 2, 3, 4, 5], [0, 1, 2, 3, 4, 5, 6], [0, 1, 2, 3, 4, 5, 6, 7], [0, 1, 2, 3, 4, 5, 6, 7, 8], [0, 1, 2, 3, 4, 5, 6, 7], [0, 1, 2, 3, 4, 5, 6, 7, 8, 9, 10], [0, 1, 2, 3, 4, 5, 6, 7, 8, 9, 10, 11], [0, 1, 2, 3, 4, 5, 6, 7, 8, 9, 10, 11, 12], [0, 1, 2, 3, 4, 5, 6, 7, 8, 9, 10, 11, 12, 13], [0, 1, 2, 3, 4, 5, 6, 7, 8, 9, 10, 11, 12, 13, 14], [0, 1, 2, 3, 4, 5, 6, 7, 8, 9, 10, 11, 12, 13, 14, 15], [0, 1, 2, 3, 4, 5, 6, 7, 8, 9, 10, 11, 12, 13, 14], [0, 1, 2, 3, 4, 5, 6, 7, 8, 9, 10, 11, 12, 13, 14, 15, 16, 17], [0, 1, 2, 3, 4, 5, 6, 7, 8, 9, 10, 11, 12, 13, 14, 15, 16, 17, 18], [0, 1, 2, 3, 4, 5, 6, 7, 8, 9, 10, 11, 12, 13, 14, 15, 16, 17, 18, 19], [0, 1, 2, 3, 4, 5, 6, 7, 8, 9, 10, 11, 12, 13, 14, 15, 16, 17, 18, 19, 20], [0, 1, 2, 3, 4, 5, 6, 7, 8, 9, 10, 11, 12, 13, 14, 15, 16, 17, 18, 19, 20, 21], [0, 1, 2, 3, 4, 5, 6, 7, 8, 9, 10, 11, 12, 13, 14, 15, 16, 17, 18, 19, 20, 21, 22], [0, 1, 2, 3, 4, 5, 6, 7, 8, 9, 10, 11, 12, 13, 14, 15, 16, 17, 18, 19, 20, 21], [0, 1, 2, 3, 4, 5, 6, 7, 8, 9, 10, 11, 12, 13, 14, 15, 16, 17, 18, 19, 20, 21, 22, 23, 24], [0, 1, 2, 3, 4, 5, 6, 7, 8, 9, 10, 11, 12, 13, 14, 15, 16, 17, 18, 19, 20, 21, 22, 23, 24, 25], [0, 1, 2, 3, 4, 5, 6, 7, 8, 9, 10, 11, 12, 13, 14, 15, 16, 17, 18, 19, 20, 21, 22, 23, 24, 25, 26], [0, 1, 2, 3, 4, 5, 6, 7, 8, 9, 10, 11, 12, 13, 14, 15, 16, 17, 18, 19, 20, 21, 22, 23, 24, 25, 26, 27], [0, 1, 2, 3, 4, 5, 6, 7, 8, 9, 10, 11, 12, 13, 14, 15, 16, 17, 18, 19, 20, 21, 22, 23, 24, 25, 26, 27, 28], [0, 1, 2, 3, 4, 5, 6, 7, 8, 9, 10, 11, 12, 13, 14, 15, 16, 17, 18, 19, 20, 21, 22, 23, 24, 25, 26, 27, 28, 29]] mixed (by kernel_rfl) ?_
      refine ⟨.det (fun val => (.agg ([pv, cv, bv, (.bool (off))]).toArray)), ⟨fun _ _ hv => rfl, fun _ _ _ _ _ => trivial⟩, fun val h_ W hx he => ⟨trivial, ?_⟩, ?_⟩
      · replace hx := (Upd.drew _ _).trans hx
        replace hp := hp.ext hx
        replace hc := hc.ext hx
        replace hb := hb.ext hx
        replace hl := hl.ext hx
        replace hB1 := hB1.ext hx
        replace hPa := hPa.ext hx
        replace hCa := hCa.ext hx
        replace hIa := hIa.ext hx
        replace hB8 := hB8.ext hx
        replace hPb := hPb.ext hx
        replace hCb := hCb.ext hx
        replace hIb := hIb.ext hx
        replace hB11 := hB11.ext hx
        replace hPc := hPc.ext hx
        replace hCc := hCc.ext hx
        replace hIc := hIc.ext hx
        replace hB14 := hB14.ext hx
        replace hPd := hPd.ext hx
        replace hCd := hCd.ext hx
        replace hId := hId.ext hx
        replace hB17 := hB17.ext hx
        have hE := Upd.refl (fun _ => False) W
        refine id (X_loadA (p := (ptr b1 (0))) (xs := [pv, cv, bv, (.bool (off))]) A26 rfl hB1.atAll rfl ?_)
        exact ⟨hE, rfl⟩
      refine ⟨.det (fun val => lv), ⟨fun _ _ hv => rfl, fun _ _ _ _ _ => trivial⟩, fun val h_ W hx he => ⟨trivial, ?_⟩, ?_⟩
      · replace hx := (Upd.drew _ _).trans hx
        replace hp := hp.ext hx
        replace hc := hc.ext hx
        replace hb := hb.ext hx
        replace hl := hl.ext hx
        replace hB1 := hB1.ext hx
        replace hPa := hPa.ext hx
        replace hCa := hCa.ext hx
        replace hIa := hIa.ext hx
        replace hB8 := hB8.ext hx
        replace hPb := hPb.ext hx
        replace hCb := hCb.ext hx
        replace hIb := hIb.ext hx
        replace hB11 := hB11.ext hx
        replace hPc := hPc.ext hx
        replace hCc := hCc.ext hx
        replace hIc := hIc.ext hx
        replace hB14 := hB14.ext hx
        replace hPd := hPd.ext hx
        replace hCd := hCd.ext hx
        replace hId := hId.ext hx
        replace hB17 := hB17.ext hx
        have hE := Upd.refl (fun _ => False) W
        refine id (X_move (v := lv) rfl ?_)
        exact ⟨hE, rfl⟩
      refine ⟨.abs (fun _ x_ W_ => ∃ p2 i2 u, x_ = .agg #[p2, .slice none 0 0, i2, .bool off] ∧ u ≤ W_.heap.size ∧ NOwn LP W_ 33 5 s9 u p2 (crSt ps bs cs ls cs.length).1 ∧ NOwn LI W_ 3 5 s9 u i2 (crSt ps bs cs ls cs.length).2), ⟨fun _ _ _ => rfl, fun _ _ _ _ hu h => (by obtain ⟨ap, ai, u, e1, e2, fp, fi⟩ := h; exact ⟨ap, ai, u, e1, Nat.le_trans e2 hu.size, NOwn.ext fp hu, NOwn.ext fi hu⟩)⟩, fun val h_ W hx he => ⟨trivial, ?_⟩, ?_⟩
      · replace hx := (Upd.drew _ _).trans hx
        replace hp := hp.ext hx
        replace hc := hc.ext hx
        replace hb := hb.ext hx
        replace hl := hl.ext hx
        replace hB1 := hB1.ext hx
        replace hPa := hPa.ext hx
        replace hCa := hCa.ext hx
        replace hIa := hIa.ext hx
        replace hB8 := hB8.ext hx
        replace hPb := hPb.ext hx
        replace hCb := hCb.ext hx
        replace hIb := hIb.ext hx
        replace hB11 := hB11.ext hx
        replace hPc := hPc.ext hx
        replace hCc := hCc.ext hx
        replace hIc := hIc.ext hx
        replace hB14 := hB14.ext hx
        replace hPd := hPd.ext hx
        replace hCd := hCd.ext hx
        replace hId := hId.ext hx
        replace hB17 := hB17.ext hx
        have hE := Upd.refl (fun _ => False) W
        have hxs := hx.size
        have hcr_ := c_crash pv cv bv ps cs bs off lv ls W 0 n0 (by omega) hp hc hb hl (by omega) (by omega) (by omega)
        refine X_fn (vs := [.agg #[pv, cv, bv, .bool off], lv]) en9 rfl ?_
        refine CT.mono hcr_ ?_
        rintro v9 w9 ⟨p9, i9, rfl, hP9, hI9, hu9⟩
        exact ⟨hu9, p9, i9, _, rfl, Nat.le_refl _, hP9.mono (by omega) (Nat.le_refl _), hI9.mono (by omega) (Nat.le_refl _)⟩
      refine ⟨.det (fun val => (.agg ([pv, cv, bv, (.bool (off))]).toArray)), ⟨fun _ _ hv => rfl, fun _ _ _ _ _ => trivial⟩, fun val h_ W hx he => ⟨trivial, ?_⟩, ?_⟩
      · replace hx := (Upd.drew _ _).trans hx
        replace hp := hp.ext hx
        replace hc := hc.ext hx
        replace hb := hb.ext hx
        replace hl := hl.ext hx
        replace hB1 := hB1.ext hx
        replace hPa := hPa.ext hx
        replace hCa := hCa.ext hx
        replace hIa := hIa.ext hx
        replace hB8 := hB8.ext hx
        replace hPb := hPb.ext hx
        replace hCb := hCb.ext hx
        replace hIb := hIb.ext hx
        replace hB11 := hB11.ext hx
        replace hPc := hPc.ext hx
        replace hCc := hCc.ext hx
        replace hIc := hIc.ext hx
        replace hB14 := hB14.ext hx
        replace hPd := hPd.ext hx
        replace hCd := hCd.ext hx
        replace hId := hId.ext hx
        replace hB17 := hB17.ext hx
        have hE := Upd.refl (fun _ => False) W
        refine id (X_loadA (p := (ptr b1 (0))) (xs := [pv, cv, bv, (.bool (off))]) A26 rfl hB1.atAll rfl ?_)
        exact ⟨hE, rfl⟩
      refine ⟨.det (fun val => lv), ⟨fun _ _ hv => rfl, fun _ _ _ _ _ => trivial⟩, fun val h_ W hx he => ⟨trivial, ?_⟩, ?_⟩
      · replace hx := (Upd.drew _ _).trans hx
        replace hp := hp.ext hx
        replace hc := hc.ext hx
        replace hb := hb.ext hx
        replace hl := hl.ext hx
        replace hB1 := hB1.ext hx
        replace hPa := hPa.ext hx
        replace hCa := hCa.ext hx
        replace hIa := hIa.ext hx
        replace hB8 := hB8.ext hx
        replace hPb := hPb.ext hx
        replace hCb := hCb.ext hx
        replace hIb := hIb.ext hx
        replace hB11 := hB11.ext hx
        replace hPc := hPc.ext hx
        replace hCc := hCc.ext hx
        replace hIc := hIc.ext hx
        replace hB14 := hB14.ext hx
        replace hPd := hPd.ext hx
        replace hCd := hCd.ext hx
        replace hId := hId.ext hx
        replace hB17 := hB17.ext hx
        have hE := Upd.refl (fun _ => False) W
        refine id (X_move (v := lv) rfl ?_)
        exact ⟨hE, rfl⟩
      refine ⟨.abs (fun _ x_ W_ => ∃ p2 i2 u, x_ = .agg #[p2, .slice none 0 0, i2, .bool off] ∧ u ≤ W_.heap.size ∧ NOwn LP W_ 33 5 s9 u p2 (crSt ps bs cs ls cs.length).1 ∧ NOwn LI W_ 3 5 s9 u i2 (crSt ps bs cs ls cs.length).2), ⟨fun _ _ _ => rfl, fun _ _ _ _ hu h => (by obtain ⟨ap, ai, u, e1, e2, fp, fi⟩ := h; exact ⟨ap, ai, u, e1, Nat.le_trans e2 hu.size, NOwn.ext fp hu, NOwn.ext fi hu⟩)⟩, fun val h_ W hx he => ⟨trivial, ?_⟩, ?_⟩
      · replace hx := (Upd.drew _ _).trans hx
        replace hp := hp.ext hx
        replace hc := hc.ext hx
        replace hb := hb.ext hx
        replace hl := hl.ext hx
        replace hB1 := hB1.ext hx
        replace hPa := hPa.ext hx
        replace hCa := hCa.ext hx
        replace hIa := hIa.ext hx
        replace hB8 := hB8.ext hx
        replace hPb := hPb.ext hx
        replace hCb := hCb.ext hx
        replace hIb := hIb.ext hx
        replace hB11 := hB11.ext hx
        replace hPc := hPc.ext hx
        replace hCc := hCc.ext hx
        replace hIc := hIc.ext hx
        replace hB14 := hB14.ext hx
        replace hPd := hPd.ext hx
        replace hCd := hCd.ext hx
        replace hId := hId.ext hx
        replace hB17 := hB17.ext hx
        have hE := Upd.refl (fun _ => False) W
        have hxs := hx.size
        have hcr_ := c_crashR pv cv bv ps cs bs off lv ls W 0 n0 (by omega) hp hc hb hl (by omega) (by omega) (by omega)
        refine X_fn (vs := [.agg #[pv, cv, bv, .bool off], lv]) en20 rfl ?_
        refine CT.mono hcr_ ?_
        rintro v9 w9 ⟨p9, i9, rfl, hP9, hI9, hu9⟩
        exact ⟨hu9, p9, i9, _, rfl, Nat.le_refl _, hP9.mono (by omega) (Nat.le_refl _), hI9.mono (by omega) (Nat.le_refl _)⟩
      refine ⟨.det (fun val => (.bool (true))), ⟨fun _ _ hv => rfl, fun _ _ _ _ _ => trivial⟩, fun val h_ W hx he => ⟨trivial, ?_⟩, ?_⟩
      · replace hx := (Upd.drew _ _).trans hx
        replace hp := hp.ext hx
        replace hc := hc.ext hx
        replace hb := hb.ext hx
        replace hl := hl.ext hx
        replace hB1 := hB1.ext hx
        replace hPa := hPa.ext hx
        replace hCa := hCa.ext hx
        replace hIa := hIa.ext hx
        replace hB8 := hB8.ext hx
        replace hPb := hPb.ext hx
        replace hCb := hCb.ext hx
        replace hIb := hIb.ext hx
        replace hB11 := hB11.ext hx
        replace hPc := hPc.ext hx
        replace hCc := hCc.ext hx
        replace hIc := hIc.ext hx
        replace hB14 := hB14.ext hx
        replace hPd := hPd.ext hx
        replace hCd := hCd.ext hx
        replace hId := hId.ext hx
        replace hB17 := hB17.ext hx
        have hE := Upd.refl (fun _ => False) W
        obtain ⟨⟨p_5, i_5, u5, he_5, hul5, hP_5, hI_5⟩, he⟩ := he
        obtain ⟨⟨p_2, i_2, u2, he_2, hul2, hP_2, hI_2⟩, he⟩ := he
        refine id (X_fn (vs := [Value.agg #[p_2, .slice none 0 0, i_2, .bool off], Value.agg #[p_5, .slice none 0 0, i_5, .bool off]]) en11 (congr (congrArg (fun y z => [y, z]) he_2) he_5) (CT.mono (c_same4 p_2 (.slice none 0 0) i_2 (crSt ps bs cs ls cs.length).1 [] (crSt ps bs cs ls cs.length).2 off p_5 (.slice none 0 0) i_5 (crSt ps bs cs ls cs.length).1 [] (crSt ps bs cs ls cs.length).2 off _ s9 u2 s9 u5 hP_2.rd (NRd.nil _ _ _) hI_2.rd hP_5.rd (NRd.nil _ _ _) hI_5.rd) ?_))
        rintro _ w22 ⟨⟨g22, rfl, hg22⟩, hu22⟩
        have hz22 := hu22.size
        replace hp := hp.ext hu22
        replace hc := hc.ext hu22
        replace hb := hb.ext hu22
        replace hl := hl.ext hu22
        replace hB1 := hB1.ext hu22
        replace hPa := hPa.ext hu22
        replace hCa := hCa.ext hu22
        replace hIa := hIa.ext hu22
        replace hB8 := hB8.ext hu22
        replace hPb := hPb.ext hu22
        replace hCb := hCb.ext hu22
        replace hIb := hIb.ext hu22
        replace hB11 := hB11.ext hu22
        replace hPc := hPc.ext hu22
        replace hCc := hCc.ext hu22
        replace hIc := hIc.ext hu22
        replace hB14 := hB14.ext hu22
        replace hPd := hPd.ext hu22
        replace hCd := hCd.ext hu22
        replace hId := hId.ext hu22
        replace hB17 := hB17.ext hu22
        replace hE := hE.trans (Ext.upd hu22)
        obtain rfl : g22 = true := hg22.2 ⟨rfl, rfl, rfl, rfl⟩
        exact ⟨hE, rfl⟩
      refine ⟨.det (fun val => (.bool (true))), ⟨fun _ _ hv => rfl, fun _ _ _ _ _ => trivial⟩, fun val h_ W hx he => ⟨trivial, ?_⟩, ?_⟩
      · replace hx := (Upd.drew _ _).trans hx
        replace hp := hp.ext hx
        replace hc := hc.ext hx
        replace hb := hb.ext hx
        replace hl := hl.ext hx
        replace hB1 := hB1.ext hx
        replace hPa := hPa.ext hx
        replace hCa := hCa.ext hx
        replace hIa := hIa.ext hx
        replace hB8 := hB8.ext hx
        replace hPb := hPb.ext hx
        replace hCb := hCb.ext hx
        replace hIb := hIb.ext hx
        replace hB11 := hB11.ext hx
        replace hPc := hPc.ext hx
        replace hCc := hCc.ext hx
        replace hIc := hIc.ext hx
        replace hB14 := hB14.ext hx
        replace hPd := hPd.ext hx
        replace hCd := hCd.ext hx
        replace hId := hId.ext hx
        replace hB17 := hB17.ext hx
        have hE := Upd.refl (fun _ => False) W
        obtain ⟨⟨p_5, i_5, u5, he_5, hul5, hP_5, hI_5⟩, he⟩ := he
        obtain ⟨⟨p_2, i_2, u2, he_2, hul2, hP_2, hI_2⟩, he⟩ := he
        refine id (X_move (v := (.bool (true))) rfl ?_)
        exact ⟨hE, rfl⟩
      refine ⟨.det (fun val => (.agg ([pv, cv, bv, (.bool (off))]).toArray)), ⟨fun _ _ hv => rfl, fun _ _ _ _ _ => trivial⟩, fun val h_ W hx he => ⟨⟨82, rfl, rfl⟩, ?_⟩, ?_⟩
      · replace hx := (Upd.drew _ _).trans hx
        replace hp := hp.ext hx
        replace hc := hc.ext hx
        replace hb := hb.ext hx
        replace hl := hl.ext hx
        replace hB1 := hB1.ext hx
        replace hPa := hPa.ext hx
        replace hCa := hCa.ext hx
        replace hIa := hIa.ext hx
        replace hB8 := hB8.ext hx
        replace hPb := hPb.ext hx
        replace hCb := hCb.ext hx
        replace hIb := hIb.ext hx
        replace hB11 := hB11.ext hx
        replace hPc := hPc.ext hx
        replace hCc := hCc.ext hx
        replace hIc := hIc.ext hx
        replace hB14 := hB14.ext hx
        replace hPd := hPd.ext hx
        replace hCd := hCd.ext hx
        replace hId := hId.ext hx
        replace hB17 := hB17.ext hx
        have hE := Upd.refl (fun _ => False) W
        obtain ⟨⟨p_5, i_5, u5, he_5, hul5, hP_5, hI_5⟩, he⟩ := he
        obtain ⟨⟨p_2, i_2, u2, he_2, hul2, hP_2, hI_2⟩, he⟩ := he
        refine id (X_loadA (p := (ptr b1 (0))) (xs := [pv, cv, bv, (.bool (off))]) A26 rfl hB1.atAll rfl ?_)
        exact ⟨hE, rfl⟩
      refine ⟨.abs (fun _ x_ W_ => ∃ p2 i2 u, x_ = .agg #[p2, .slice none 0 0, i2, .bool true] ∧ u ≤ W_.heap.size ∧ NOwn LP W_ 33 5 s9 u p2 ps ∧ NOwn LI W_ 3 5 s9 u i2 bs), ⟨fun _ _ _ => rfl, fun _ _ _ _ hu h => (by obtain ⟨ap, ai, u, e1, e2, fp, fi⟩ := h; exact ⟨ap, ai, u, e1, Nat.le_trans e2 hu.size, NOwn.ext fp hu, NOwn.ext fi hu⟩)⟩, fun val h_ W hx he => ⟨⟨82, rfl, rfl⟩, ?_⟩, ?_⟩
      · replace hx := (Upd.drew _ _).trans hx
        replace hp := hp.ext hx
        replace hc := hc.ext hx
        replace hb := hb.ext hx
        replace hl := hl.ext hx
        replace hB1 := hB1.ext hx
        replace hPa := hPa.ext hx
        replace hCa := hCa.ext hx
        replace hIa := hIa.ext hx
        replace hB8 := hB8.ext hx
        replace hPb := hPb.ext hx
        replace hCb := hCb.ext hx
        replace hIb := hIb.ext hx
        replace hB11 := hB11.ext hx
        replace hPc := hPc.ext hx
        replace hCc := hCc.ext hx
        replace hIc := hIc.ext hx
        replace hB14 := hB14.ext hx
        replace hPd := hPd.ext hx
        replace hCd := hCd.ext hx
        replace hId := hId.ext hx
        replace hB17 := hB17.ext hx
        have hE := Upd.refl (fun _ => False) W
        have hxs := hx.size
        have hcr_ := c_detach pv cv bv ps cs bs off W 0 n0 (by omega) hp hc hb (by omega) (by omega) (by omega)
        refine X_fn (vs := [.agg #[pv, cv, bv, .bool off]]) en21 rfl ?_
        refine CT.mono hcr_ ?_
        rintro v9 w9 ⟨p9, i9, rfl, hP9, hI9, hu9⟩
        exact ⟨hu9, p9, i9, _, rfl, Nat.le_refl _, hP9.mono (by omega) (Nat.le_refl _), hI9.mono (by omega) (Nat.le_refl _)⟩
      refine ⟨.det (fun val => (.agg ([pv, cv, bv, (.bool (off))]).toArray)), ⟨fun _ _ hv => rfl, fun _ _ _ _ _ => trivial⟩, fun val h_ W hx he => ⟨⟨82, rfl, rfl⟩, ?_⟩, ?_⟩
      · replace hx := (Upd.drew _ _).trans hx
        replace hp := hp.ext hx
        replace hc := hc.ext hx
        replace hb := hb.ext hx
        replace hl := hl.ext hx
        replace hB1 := hB1.ext hx
        replace hPa := hPa.ext hx
        replace hCa := hCa.ext hx
        replace hIa := hIa.ext hx
        replace hB8 := hB8.ext hx
        replace hPb := hPb.ext hx
        replace hCb := hCb.ext hx
        replace hIb := hIb.ext hx
        replace hB11 := hB11.ext hx
        replace hPc := hPc.ext hx
        replace hCc := hCc.ext hx
        replace hIc := hIc.ext hx
        replace hB14 := hB14.ext hx
        replace hPd := hPd.ext hx
        replace hCd := hCd.ext hx
        replace hId := hId.ext hx
        replace hB17 := hB17.ext hx
        have hE := Upd.refl (fun _ => False) W
        obtain ⟨⟨p_5, i_5, u5, he_5, hul5, hP_5, hI_5⟩, he⟩ := he
        obtain ⟨⟨p_2, i_2, u2, he_2, hul2, hP_2, hI_2⟩, he⟩ := he
        refine id (X_loadA (p := (ptr b1 (0))) (xs := [pv, cv, bv, (.bool (off))]) A26 rfl hB1.atAll rfl ?_)
        exact ⟨hE, rfl⟩
      refine ⟨.abs (fun _ x_ W_ => ∃ p2 i2 u, x_ = .agg #[p2, .slice none 0 0, i2, .bool true] ∧ u ≤ W_.heap.size ∧ NOwn LP W_ 33 5 s9 u p2 ps ∧ NOwn LI W_ 3 5 s9 u i2 bs), ⟨fun _ _ _ => rfl, fun _ _ _ _ hu h => (by obtain ⟨ap, ai, u, e1, e2, fp, fi⟩ := h; exact ⟨ap, ai, u, e1, Nat.le_trans e2 hu.size, NOwn.ext fp hu, NOwn.ext fi hu⟩)⟩, fun val h_ W hx he => ⟨⟨82, rfl, rfl⟩, ?_⟩, ?_⟩
      · replace hx := (Upd.drew _ _).trans hx
        replace hp := hp.ext hx
        replace hc := hc.ext hx
        replace hb := hb.ext hx
        replace hl := hl.ext hx
        replace hB1 := hB1.ext hx
        replace hPa := hPa.ext hx
        replace hCa := hCa.ext hx
        replace hIa := hIa.ext hx
        replace hB8 := hB8.ext hx
        replace hPb := hPb.ext hx
        replace hCb := hCb.ext hx
        replace hIb := hIb.ext hx
        replace hB11 := hB11.ext hx
        replace hPc := hPc.ext hx
        replace hCc := hCc.ext hx
        replace hIc := hIc.ext hx
        replace hB14 := hB14.ext hx
        replace hPd := hPd.ext hx
        replace hCd := hCd.ext hx
        replace hId := hId.ext hx
        replace hB17 := hB17.ext hx
        have hE := Upd.refl (fun _ => False) W
        have hxs := hx.size
        have hcr_ := c_detachR pv cv bv ps cs bs off W 0 n0 (by omega) hp hc hb (by omega) (by omega) (by omega)
        refine X_fn (vs := [.agg #[pv, cv, bv, .bool off]]) en22 rfl ?_
        refine CT.mono hcr_ ?_
        rintro v9 w9 ⟨p9, i9, rfl, hP9, hI9, hu9⟩
        exact ⟨hu9, p9, i9, _, rfl, Nat.le_refl _, hP9.mono (by omega) (Nat.le_refl _), hI9.mono (by omega) (Nat.le_refl _)⟩
      refine ⟨.det (fun val => (.bool (true))), ⟨fun _ _ hv => rfl, fun _ _ _ _ _ => trivial⟩, fun val h_ W hx he => ⟨⟨82, rfl, rfl⟩, ?_⟩, ?_⟩
      · replace hx := (Upd.drew _ _).trans hx
        replace hp := hp.ext hx
        replace hc := hc.ext hx
        replace hb := hb.ext hx
        replace hl := hl.ext hx
        replace hB1 := hB1.ext hx
        replace hPa := hPa.ext hx
        replace hCa := hCa.ext hx
        replace hIa := hIa.ext hx
        replace hB8 := hB8.ext hx
        replace hPb := hPb.ext hx
        replace hCb := hCb.ext hx
        replace hIb := hIb.ext hx
        replace hB11 := hB11.ext hx
        replace hPc := hPc.ext hx
        replace hCc := hCc.ext hx
        replace hIc := hIc.ext hx
        replace hB14 := hB14.ext hx
        replace hPd := hPd.ext hx
        replace hCd := hCd.ext hx
        replace hId := hId.ext hx
        replace hB17 := hB17.ext hx
        have hE := Upd.refl (fun _ => False) W
        obtain ⟨⟨p_11, i_11, u11, he_11, hul11, hP_11, hI_11⟩, he⟩ := he
        obtain ⟨⟨p_9, i_9, u9, he_9, hul9, hP_9, hI_9⟩, he⟩ := he
        obtain ⟨⟨p_5, i_5, u5, he_5, hul5, hP_5, hI_5⟩, he⟩ := he
        obtain ⟨⟨p_2, i_2, u2, he_2, hul2, hP_2, hI_2⟩, he⟩ := he
        refine id (X_fn (vs := [Value.agg #[p_9, .slice none 0 0, i_9, .bool true], Value.agg #[p_11, .slice none 0 0, i_11, .bool true]]) en11 (congr (congrArg (fun y z => [y, z]) he_9) he_11) (CT.mono (c_same4 p_9 (.slice none 0 0) i_9 ps [] bs true p_11 (.slice none 0 0) i_11 ps [] bs true _ s9 u9 s9 u11 hP_9.rd (NRd.nil _ _ _) hI_9.rd hP_11.rd (NRd.nil _ _ _) hI_11.rd) ?_))
        rintro _ w23 ⟨⟨g23, rfl, hg23⟩, hu23⟩
        have hz23 := hu23.size
        replace hp := hp.ext hu23
        replace hc := hc.ext hu23
        replace hb := hb.ext hu23
        replace hl := hl.ext hu23
        replace hB1 := hB1.ext hu23
        replace hPa := hPa.ext hu23
        replace hCa := hCa.ext hu23
        replace hIa := hIa.ext hu23
        replace hB8 := hB8.ext hu23
        replace hPb := hPb.ext hu23
        replace hCb := hCb.ext hu23
        replace hIb := hIb.ext hu23
        replace hB11 := hB11.ext hu23
        replace hPc := hPc.ext hu23
        replace hCc := hCc.ext hu23
        replace hIc := hIc.ext hu23
        replace hB14 := hB14.ext hu23
        replace hPd := hPd.ext hu23
        replace hCd := hCd.ext hu23
        replace hId := hId.ext hu23
        replace hB17 := hB17.ext hu23
        replace hE := hE.trans (Ext.upd hu23)
        obtain rfl : g23 = true := hg23.2 ⟨rfl, rfl, rfl, rfl⟩
        exact ⟨hE, rfl⟩
      refine ⟨.det (fun val => (.bool (true))), ⟨fun _ _ hv => rfl, fun _ _ _ _ _ => trivial⟩, fun val h_ W hx he => ⟨trivial, ?_⟩, ?_⟩
      · replace hx := (Upd.drew _ _).trans hx
        replace hp := hp.ext hx
        replace hc := hc.ext hx
        replace hb := hb.ext hx
        replace hl := hl.ext hx
        replace hB1 := hB1.ext hx
        replace hPa := hPa.ext hx
        replace hCa := hCa.ext hx
        replace hIa := hIa.ext hx
        replace hB8 := hB8.ext hx
        replace hPb := hPb.ext hx
        replace hCb := hCb.ext hx
        replace hIb := hIb.ext hx
        replace hB11 := hB11.ext hx
        replace hPc := hPc.ext hx
        replace hCc := hCc.ext hx
        replace hIc := hIc.ext hx
        replace hB14 := hB14.ext hx
        replace hPd := hPd.ext hx
        replace hCd := hCd.ext hx
        replace hId := hId.ext hx
        replace hB17 := hB17.ext hx
        have hE := Upd.refl (fun _ => False) W
        obtain ⟨⟨p_11, i_11, u11, he_11, hul11, hP_11, hI_11⟩, he⟩ := he
        obtain ⟨⟨p_9, i_9, u9, he_9, hul9, hP_9, hI_9⟩, he⟩ := he
        obtain ⟨⟨p_5, i_5, u5, he_5, hul5, hP_5, hI_5⟩, he⟩ := he
        obtain ⟨⟨p_2, i_2, u2, he_2, hul2, hP_2, hI_2⟩, he⟩ := he
        refine id (X_pick (t := true) (v := (.bool (true))) rfl rfl ?_)
        exact ⟨hE, rfl⟩
      refine ⟨.det (fun val => (.bool (true))), ⟨fun _ _ hv => rfl, fun _ _ _ _ _ => trivial⟩, fun val h_ W hx he => ⟨trivial, ?_⟩, ?_⟩
      · replace hx := (Upd.drew _ _).trans hx
        replace hp := hp.ext hx
        replace hc := hc.ext hx
        replace hb := hb.ext hx
        replace hl := hl.ext hx
        replace hB1 := hB1.ext hx
        replace hPa := hPa.ext hx
        replace hCa := hCa.ext hx
        replace hIa := hIa.ext hx
        replace hB8 := hB8.ext hx
        replace hPb := hPb.ext hx
        replace hCb := hCb.ext hx
        replace hIb := hIb.ext hx
        replace hB11 := hB11.ext hx
        replace hPc := hPc.ext hx
        replace hCc := hCc.ext hx
        replace hIc := hIc.ext hx
        replace hB14 := hB14.ext hx
        replace hPd := hPd.ext hx
        replace hCd := hCd.ext hx
        replace hId := hId.ext hx
        replace hB17 := hB17.ext hx
        have hE := Upd.refl (fun _ => False) W
        obtain ⟨⟨p_11, i_11, u11, he_11, hul11, hP_11, hI_11⟩, he⟩ := he
        obtain ⟨⟨p_9, i_9, u9, he_9, hul9, hP_9, hI_9⟩, he⟩ := he
        obtain ⟨⟨p_5, i_5, u5, he_5, hul5, hP_5, hI_5⟩, he⟩ := he
        obtain ⟨⟨p_2, i_2, u2, he_2, hul2, hP_2, hI_2⟩, he⟩ := he
        refine id (X_move (v := (.bool (true))) rfl ?_)
        exact ⟨hE, rfl⟩
      refine ⟨.det (fun val => (.agg ([pv, cv, bv, (.bool (off))]).toArray)), ⟨fun _ _ hv => rfl, fun _ _ _ _ _ => trivial⟩, fun val h_ W hx he => ⟨⟨89, rfl, rfl⟩, ?_⟩, ?_⟩
      · replace hx := (Upd.drew _ _).trans hx
        replace hp := hp.ext hx
        replace hc := hc.ext hx
        replace hb := hb.ext hx
        replace hl := hl.ext hx
        replace hB1 := hB1.ext hx
        replace hPa := hPa.ext hx
        replace hCa := hCa.ext hx
        replace hIa := hIa.ext hx
        replace hB8 := hB8.ext hx
        replace hPb := hPb.ext hx
        replace hCb := hCb.ext hx
        replace hIb := hIb.ext hx
        replace hB11 := hB11.ext hx
        replace hPc := hPc.ext hx
        replace hCc := hCc.ext hx
        replace hIc := hIc.ext hx
        replace hB14 := hB14.ext hx
        replace hPd := hPd.ext hx
        replace hCd := hCd.ext hx
        replace hId := hId.ext hx
        replace hB17 := hB17.ext hx
        have hE := Upd.refl (fun _ => False) W
        obtain ⟨⟨p_11, i_11, u11, he_11, hul11, hP_11, hI_11⟩, he⟩ := he
        obtain ⟨⟨p_9, i_9, u9, he_9, hul9, hP_9, hI_9⟩, he⟩ := he
        obtain ⟨⟨p_5, i_5, u5, he_5, hul5, hP_5, hI_5⟩, he⟩ := he
        obtain ⟨⟨p_2, i_2, u2, he_2, hul2, hP_2, hI_2⟩, he⟩ := he
        refine id (X_loadA (p := (ptr b1 (0))) (xs := [pv, cv, bv, (.bool (off))]) A26 rfl hB1.atAll rfl ?_)
        exact ⟨hE, rfl⟩
      refine ⟨.abs (fun _ x_ W_ => ∃ p2 c2 i2 u, x_ = .agg #[p2, c2, i2, .bool false] ∧ u ≤ W_.heap.size ∧ NOwn LP W_ 33 5 s9 u p2 ps ∧ NOwn LW W_ 35 5 s9 u c2 cs ∧ NOwn LI W_ 3 5 s9 u i2 bs), ⟨fun _ _ _ => rfl, fun _ _ _ _ hu h => (by obtain ⟨ap, ac, ai, u, e1, e2, fp, fc, fi⟩ := h; exact ⟨ap, ac, ai, u, e1, Nat.le_trans e2 hu.size, NOwn.ext fp hu, NOwn.ext fc hu, NOwn.ext fi hu⟩)⟩, fun val h_ W hx he => ⟨⟨89, rfl, rfl⟩, ?_⟩, ?_⟩
      · replace hx := (Upd.drew _ _).trans hx
        replace hp := hp.ext hx
        replace hc := hc.ext hx
        replace hb := hb.ext hx
        replace hl := hl.ext hx
        replace hB1 := hB1.ext hx
        replace hPa := hPa.ext hx
        replace hCa := hCa.ext hx
        replace hIa := hIa.ext hx
        replace hB8 := hB8.ext hx
        replace hPb := hPb.ext hx
        replace hCb := hCb.ext hx
        replace hIb := hIb.ext hx
        replace hB11 := hB11.ext hx
        replace hPc := hPc.ext hx
        replace hCc := hCc.ext hx
        replace hIc := hIc.ext hx
        replace hB14 := hB14.ext hx
        replace hPd := hPd.ext hx
        replace hCd := hCd.ext hx
        replace hId := hId.ext hx
        replace hB17 := hB17.ext hx
        have hE := Upd.refl (fun _ => False) W
        have hxs := hx.size
        have hcr_ := c_attach pv cv bv ps cs bs off W 0 n0 (by omega) hp hc hb (by omega) (by omega) (by omega)
        refine X_fn (vs := [.agg #[pv, cv, bv, .bool off]]) en23 rfl ?_
        refine CT.mono hcr_ ?_
        rintro v9 w9 ⟨p9, c9, i9, rfl, hP9, hC9, hI9, hu9⟩
        exact ⟨hu9, p9, c9, i9, _, rfl, Nat.le_refl _, hP9.mono (by omega) (Nat.le_refl _), hC9.mono (by omega) (Nat.le_refl _), hI9.mono (by omega) (Nat.le_refl _)⟩
      refine ⟨.det (fun val => (.agg ([pv, cv, bv, (.bool (off))]).toArray)), ⟨fun _ _ hv => rfl, fun _ _ _ _ _ => trivial⟩, fun val h_ W hx he => ⟨⟨89, rfl, rfl⟩, ?_⟩, ?_⟩
      · replace hx := (Upd.drew _ _).trans hx
        replace hp := hp.ext hx
        replace hc := hc.ext hx
        replace hb := hb.ext hx
        replace hl := hl.ext hx
        replace hB1 := hB1.ext hx
        replace hPa := hPa.ext hx
        replace hCa := hCa.ext hx
        replace hIa := hIa.ext hx
        replace hB8 := hB8.ext hx
        replace hPb := hPb.ext hx
        replace hCb := hCb.ext hx
        replace hIb := hIb.ext hx
        replace hB11 := hB11.ext hx
        replace hPc := hPc.ext hx
        replace hCc := hCc.ext hx
        replace hIc := hIc.ext hx
        replace hB14 := hB14.ext hx
        replace hPd := hPd.ext hx
        replace hCd := hCd.ext hx
        replace hId := hId.ext hx
        replace hB17 := hB17.ext hx
        have hE := Upd.refl (fun _ => False) W
        obtain ⟨⟨p_11, i_11, u11, he_11, hul11, hP_11, hI_11⟩, he⟩ := he
        obtain ⟨⟨p_9, i_9, u9, he_9, hul9, hP_9, hI_9⟩, he⟩ := he
        obtain ⟨⟨p_5, i_5, u5, he_5, hul5, hP_5, hI_5⟩, he⟩ := he
        obtain ⟨⟨p_2, i_2, u2, he_2, hul2, hP_2, hI_2⟩, he⟩ := he
        refine id (X_loadA (p := (ptr b1 (0))) (xs := [pv, cv, bv, (.bool (off))]) A26 rfl hB1.atAll rfl ?_)
        exact ⟨hE, rfl⟩
      refine ⟨.abs (fun _ x_ W_ => ∃ p2 c2 i2 u, x_ = .agg #[p2, c2, i2, .bool false] ∧ u ≤ W_.heap.size ∧ NOwn LP W_ 33 5 s9 u p2 ps ∧ NOwn LW W_ 35 5 s9 u c2 cs ∧ NOwn LI W_ 3 5 s9 u i2 bs), ⟨fun _ _ _ => rfl, fun _ _ _ _ hu h => (by obtain ⟨ap, ac, ai, u, e1, e2, fp, fc, fi⟩ := h; exact ⟨ap, ac, ai, u, e1, Nat.le_trans e2 hu.size, NOwn.ext fp hu, NOwn.ext fc hu, NOwn.ext fi hu⟩)⟩, fun val h_ W hx he => ⟨⟨89, rfl, rfl⟩, ?_⟩, ?_⟩
      · replace hx := (Upd.drew _ _).trans hx
        replace hp := hp.ext hx
        replace hc := hc.ext hx
        replace hb := hb.ext hx
        replace hl := hl.ext hx
        replace hB1 := hB1.ext hx
        replace hPa := hPa.ext hx
        replace hCa := hCa.ext hx
        replace hIa := hIa.ext hx
        replace hB8 := hB8.ext hx
        replace hPb := hPb.ext hx
        replace hCb := hCb.ext hx
        replace hIb := hIb.ext hx
        replace hB11 := hB11.ext hx
        replace hPc := hPc.ext hx
        replace hCc := hCc.ext hx
        replace hIc := hIc.ext hx
        replace hB14 := hB14.ext hx
        replace hPd := hPd.ext hx
        replace hCd := hCd.ext hx
        replace hId := hId.ext hx
        replace hB17 := hB17.ext hx
        have hE := Upd.refl (fun _ => False) W
        have hxs := hx.size
        have hcr_ := c_attachR pv cv bv ps cs bs off W 0 n0 (by omega) hp hc hb (by omega) (by omega) (by omega)
        refine X_fn (vs := [.agg #[pv, cv, bv, .bool off]]) en24 rfl ?_
        refine CT.mono hcr_ ?_
        rintro v9 w9 ⟨p9, c9, i9, rfl, hP9, hC9, hI9, hu9⟩
        exact ⟨hu9, p9, c9, i9, _, rfl, Nat.le_refl _, hP9.mono (by omega) (Nat.le_refl _), hC9.mono (by omega) (Nat.le_refl _), hI9.mono (by omega) (Nat.le_refl _)⟩
      refine ⟨.det (fun val => (.bool (true))), ⟨fun _ _ hv => rfl, fun _ _ _ _ _ => trivial⟩, fun val h_ W hx he => ⟨⟨89, rfl, rfl⟩, ?_⟩, ?_⟩
      · replace hx := (Upd.drew _ _).trans hx
        replace hp := hp.ext hx
        replace hc := hc.ext hx
        replace hb := hb.ext hx
        replace hl := hl.ext hx
        replace hB1 := hB1.ext hx
        replace hPa := hPa.ext hx
        replace hCa := hCa.ext hx
        replace hIa := hIa.ext hx
        replace hB8 := hB8.ext hx
        replace hPb := hPb.ext hx
        replace hCb := hCb.ext hx
        replace hIb := hIb.ext hx
        replace hB11 := hB11.ext hx
        replace hPc := hPc.ext hx
        replace hCc := hCc.ext hx
        replace hIc := hIc.ext hx
        replace hB14 := hB14.ext hx
        replace hPd := hPd.ext hx
        replace hCd := hCd.ext hx
        replace hId := hId.ext hx
        replace hB17 := hB17.ext hx
        have hE := Upd.refl (fun _ => False) W
        obtain ⟨⟨p_18, c_18, i_18, u18, he_18, hul18, hP_18, hC_18, hI_18⟩, he⟩ := he
        obtain ⟨⟨p_16, c_16, i_16, u16, he_16, hul16, hP_16, hC_16, hI_16⟩, he⟩ := he
        obtain ⟨⟨p_11, i_11, u11, he_11, hul11, hP_11, hI_11⟩, he⟩ := he
        obtain ⟨⟨p_9, i_9, u9, he_9, hul9, hP_9, hI_9⟩, he⟩ := he
        obtain ⟨⟨p_5, i_5, u5, he_5, hul5, hP_5, hI_5⟩, he⟩ := he
        obtain ⟨⟨p_2, i_2, u2, he_2, hul2, hP_2, hI_2⟩, he⟩ := he
        refine id (X_fn (vs := [Value.agg #[p_16, c_16, i_16, .bool false], Value.agg #[p_18, c_18, i_18, .bool false]]) en11 (congr (congrArg (fun y z => [y, z]) he_16) he_18) (CT.mono (c_same4 p_16 c_16 i_16 ps cs bs false p_18 c_18 i_18 ps cs bs false _ s9 u16 s9 u18 hP_16.rd hC_16.rd hI_16.rd hP_18.rd hC_18.rd hI_18.rd) ?_))
        rintro _ w24 ⟨⟨g24, rfl, hg24⟩, hu24⟩
        have hz24 := hu24.size
        replace hp := hp.ext hu24
        replace hc := hc.ext hu24
        replace hb := hb.ext hu24
        replace hl := hl.ext hu24
        replace hB1 := hB1.ext hu24
        replace hPa := hPa.ext hu24
        replace hCa := hCa.ext hu24
        replace hIa := hIa.ext hu24
        replace hB8 := hB8.ext hu24
        replace hPb := hPb.ext hu24
        replace hCb := hCb.ext hu24
        replace hIb := hIb.ext hu24
        replace hB11 := hB11.ext hu24
        replace hPc := hPc.ext hu24
        replace hCc := hCc.ext hu24
        replace hIc := hIc.ext hu24
        replace hB14 := hB14.ext hu24
        replace hPd := hPd.ext hu24
        replace hCd := hCd.ext hu24
        replace hId := hId.ext hu24
        replace hB17 := hB17.ext hu24
        replace hE := hE.trans (Ext.upd hu24)
        obtain rfl : g24 = true := hg24.2 ⟨rfl, rfl, rfl, rfl⟩
        exact ⟨hE, rfl⟩
      refine ⟨.det (fun val => (.bool (true))), ⟨fun _ _ hv => rfl, fun _ _ _ _ _ => trivial⟩, fun val h_ W hx he => ⟨trivial, ?_⟩, ?_⟩
      · replace hx := (Upd.drew _ _).trans hx
        replace hp := hp.ext hx
        replace hc := hc.ext hx
        replace hb := hb.ext hx
        replace hl := hl.ext hx
        replace hB1 := hB1.ext hx
        replace hPa := hPa.ext hx
        replace hCa := hCa.ext hx
        replace hIa := hIa.ext hx
        replace hB8 := hB8.ext hx
        replace hPb := hPb.ext hx
        replace hCb := hCb.ext hx
        replace hIb := hIb.ext hx
        replace hB11 := hB11.ext hx
        replace hPc := hPc.ext hx
        replace hCc := hCc.ext hx
        replace hIc := hIc.ext hx
        replace hB14 := hB14.ext hx
        replace hPd := hPd.ext hx
        replace hCd := hCd.ext hx
        replace hId := hId.ext hx
        replace hB17 := hB17.ext hx
        have hE := Upd.refl (fun _ => False) W
        obtain ⟨⟨p_18, c_18, i_18, u18, he_18, hul18, hP_18, hC_18, hI_18⟩, he⟩ := he
        obtain ⟨⟨p_16, c_16, i_16, u16, he_16, hul16, hP_16, hC_16, hI_16⟩, he⟩ := he
        obtain ⟨⟨p_11, i_11, u11, he_11, hul11, hP_11, hI_11⟩, he⟩ := he
        obtain ⟨⟨p_9, i_9, u9, he_9, hul9, hP_9, hI_9⟩, he⟩ := he
        obtain ⟨⟨p_5, i_5, u5, he_5, hul5, hP_5, hI_5⟩, he⟩ := he
        obtain ⟨⟨p_2, i_2, u2, he_2, hul2, hP_2, hI_2⟩, he⟩ := he
        refine id (X_pick (t := true) (v := (.bool (true))) rfl rfl ?_)
        exact ⟨hE, rfl⟩
      refine ⟨.det (fun val => (.bool (true))), ⟨fun _ _ hv => rfl, fun _ _ _ _ _ => trivial⟩, fun val h_ W hx he => ⟨trivial, ?_⟩, ?_⟩
      · replace hx := (Upd.drew _ _).trans hx
        replace hp := hp.ext hx
        replace hc := hc.ext hx
        replace hb := hb.ext hx
        replace hl := hl.ext hx
        replace hB1 := hB1.ext hx
        replace hPa := hPa.ext hx
        replace hCa := hCa.ext hx
        replace hIa := hIa.ext hx
        replace hB8 := hB8.ext hx
        replace hPb := hPb.ext hx
        replace hCb := hCb.ext hx
        replace hIb := hIb.ext hx
        replace hB11 := hB11.ext hx
        replace hPc := hPc.ext hx
        replace hCc := hCc.ext hx
        replace hIc := hIc.ext hx
        replace hB14 := hB14.ext hx
        replace hPd := hPd.ext hx
        replace hCd := hCd.ext hx
        replace hId := hId.ext hx
        replace hB17 := hB17.ext hx
        have hE := Upd.refl (fun _ => False) W
        obtain ⟨⟨p_18, c_18, i_18, u18, he_18, hul18, hP_18, hC_18, hI_18⟩, he⟩ := he
        obtain ⟨⟨p_16, c_16, i_16, u16, he_16, hul16, hP_16, hC_16, hI_16⟩, he⟩ := he
        obtain ⟨⟨p_11, i_11, u11, he_11, hul11, hP_11, hI_11⟩, he⟩ := he
        obtain ⟨⟨p_9, i_9, u9, he_9, hul9, hP_9, hI_9⟩, he⟩ := he
        obtain ⟨⟨p_5, i_5, u5, he_5, hul5, hP_5, hI_5⟩, he⟩ := he
        obtain ⟨⟨p_2, i_2, u2, he_2, hul2, hP_2, hI_2⟩, he⟩ := he
        refine id (X_move (v := (.bool (true))) rfl ?_)
        exact ⟨hE, rfl⟩
      refine ⟨.det (fun val => (.agg ([pv, cv, bv, (.bool (off))]).toArray)), ⟨fun _ _ hv => rfl, fun _ _ _ _ _ => trivial⟩, fun val h_ W hx he => ⟨⟨96, rfl, rfl⟩, ?_⟩, ?_⟩
      · replace hx := (Upd.drew _ _).trans hx
        replace hp := hp.ext hx
        replace hc := hc.ext hx
        replace hb := hb.ext hx
        replace hl := hl.ext hx
        replace hB1 := hB1.ext hx
        replace hPa := hPa.ext hx
        replace hCa := hCa.ext hx
        replace hIa := hIa.ext hx
        replace hB8 := hB8.ext hx
        replace hPb := hPb.ext hx
        replace hCb := hCb.ext hx
        replace hIb := hIb.ext hx
        replace hB11 := hB11.ext hx
        replace hPc := hPc.ext hx
        replace hCc := hCc.ext hx
        replace hIc := hIc.ext hx
        replace hB14 := hB14.ext hx
        replace hPd := hPd.ext hx
        replace hCd := hCd.ext hx
        replace hId := hId.ext hx
        replace hB17 := hB17.ext hx
        have hE := Upd.refl (fun _ => False) W
        obtain ⟨⟨p_18, c_18, i_18, u18, he_18, hul18, hP_18, hC_18, hI_18⟩, he⟩ := he
        obtain ⟨⟨p_16, c_16, i_16, u16, he_16, hul16, hP_16, hC_16, hI_16⟩, he⟩ := he
        obtain ⟨⟨p_11, i_11, u11, he_11, hul11, hP_11, hI_11⟩, he⟩ := he
        obtain ⟨⟨p_9, i_9, u9, he_9, hul9, hP_9, hI_9⟩, he⟩ := he
        obtain ⟨⟨p_5, i_5, u5, he_5, hul5, hP_5, hI_5⟩, he⟩ := he
        obtain ⟨⟨p_2, i_2, u2, he_2, hul2, hP_2, hI_2⟩, he⟩ := he
        refine id (X_loadA (p := (ptr b1 (0))) (xs := [pv, cv, bv, (.bool (off))]) A26 rfl hB1.atAll rfl ?_)
        exact ⟨hE, rfl⟩
      refine ⟨.abs (fun _ x_ W_ => ∃ p2 c2 i2 u, x_ = .agg #[p2, c2, i2, .bool off] ∧ u ≤ W_.heap.size ∧ NOwn LP W_ 33 5 s9 u p2 ps ∧ NOwn LW W_ 35 5 s9 u c2 cs ∧ NOwn LI W_ 3 5 s9 u i2 bs), ⟨fun _ _ _ => rfl, fun _ _ _ _ hu h => (by obtain ⟨ap, ac, ai, u, e1, e2, fp, fc, fi⟩ := h; exact ⟨ap, ac, ai, u, e1, Nat.le_trans e2 hu.size, NOwn.ext fp hu, NOwn.ext fc hu, NOwn.ext fi hu⟩)⟩, fun val h_ W hx he => ⟨⟨96, rfl, rfl⟩, ?_⟩, ?_⟩
      · replace hx := (Upd.drew _ _).trans hx
        replace hp := hp.ext hx
        replace hc := hc.ext hx
        replace hb := hb.ext hx
        replace hl := hl.ext hx
        replace hB1 := hB1.ext hx
        replace hPa := hPa.ext hx
        replace hCa := hCa.ext hx
        replace hIa := hIa.ext hx
        replace hB8 := hB8.ext hx
        replace hPb := hPb.ext hx
        replace hCb := hCb.ext hx
        replace hIb := hIb.ext hx
        replace hB11 := hB11.ext hx
        replace hPc := hPc.ext hx
        replace hCc := hCc.ext hx
        replace hIc := hIc.ext hx
        replace hB14 := hB14.ext hx
        replace hPd := hPd.ext hx
        replace hCd := hCd.ext hx
        replace hId := hId.ext hx
        replace hB17 := hB17.ext hx
        have hE := Upd.refl (fun _ => False) W
        have hxs := hx.size
        have hcr_ := c_own pv cv bv ps cs bs off W 0 n0 (by omega) hp hc hb (by omega) (by omega) (by omega)
        refine X_fn (vs := [.agg #[pv, cv, bv, .bool off]]) en25 rfl ?_
        refine CT.mono hcr_ ?_
        rintro v9 w9 ⟨p9, c9, i9, rfl, hP9, hC9, hI9, hu9⟩
        exact ⟨hu9, p9, c9, i9, _, rfl, Nat.le_refl _, hP9.mono (by omega) (Nat.le_refl _), hC9.mono (by omega) (Nat.le_refl _), hI9.mono (by omega) (Nat.le_refl _)⟩
      refine ⟨.det (fun val => (.agg ([pv, cv, bv, (.bool (off))]).toArray)), ⟨fun _ _ hv => rfl, fun _ _ _ _ _ => trivial⟩, fun val h_ W hx he => ⟨⟨96, rfl, rfl⟩, ?_⟩, ?_⟩
      · replace hx := (Upd.drew _ _).trans hx
        replace hp := hp.ext hx
        replace hc := hc.ext hx
        replace hb := hb.ext hx
        replace hl := hl.ext hx
        replace hB1 := hB1.ext hx
        replace hPa := hPa.ext hx
        replace hCa := hCa.ext hx
        replace hIa := hIa.ext hx
        replace hB8 := hB8.ext hx
        replace hPb := hPb.ext hx
        replace hCb := hCb.ext hx
        replace hIb := hIb.ext hx
        replace hB11 := hB11.ext hx
        replace hPc := hPc.ext hx
        replace hCc := hCc.ext hx
        replace hIc := hIc.ext hx
        replace hB14 := hB14.ext hx
        replace hPd := hPd.ext hx
        replace hCd := hCd.ext hx
        replace hId := hId.ext hx
        replace hB17 := hB17.ext hx
        have hE := Upd.refl (fun _ => False) W
        obtain ⟨⟨p_18, c_18, i_18, u18, he_18, hul18, hP_18, hC_18, hI_18⟩, he⟩ := he
        obtain ⟨⟨p_16, c_16, i_16, u16, he_16, hul16, hP_16, hC_16, hI_16⟩, he⟩ := he
        obtain ⟨⟨p_11, i_11, u11, he_11, hul11, hP_11, hI_11⟩, he⟩ := he
        obtain ⟨⟨p_9, i_9, u9, he_9, hul9, hP_9, hI_9⟩, he⟩ := he
        obtain ⟨⟨p_5, i_5, u5, he_5, hul5, hP_5, hI_5⟩, he⟩ := he
        obtain ⟨⟨p_2, i_2, u2, he_2, hul2, hP_2, hI_2⟩, he⟩ := he
        refine id (X_loadA (p := (ptr b1 (0))) (xs := [pv, cv, bv, (.bool (off))]) A26 rfl hB1.atAll rfl ?_)
        exact ⟨hE, rfl⟩
      intro val W21 hx21 he21
      replace hx21 := (Upd.drew _ _).trans hx21
      have hz21 := hx21.size
      replace hp := hp.ext hx21
      replace hc := hc.ext hx21
      replace hb := hb.ext hx21
      replace hl := hl.ext hx21
      replace hU := hU.trans (Ext.upd hx21)
      replace hB1 := hB1.ext hx21
      replace hPa := hPa.ext hx21
      replace hCa := hCa.ext hx21
      replace hIa := hIa.ext hx21
      replace hB8 := hB8.ext hx21
      replace hPb := hPb.ext hx21
      replace hCb := hCb.ext hx21
      replace hIb := hIb.ext hx21
      replace hB11 := hB11.ext hx21
      replace hPc := hPc.ext hx21
      replace hCc := hCc.ext hx21
      replace hIc := hIc.ext hx21
      replace hB14 := hB14.ext hx21
      replace hPd := hPd.ext hx21
      replace hCd := hCd.ext hx21
      replace hId := hId.ext hx21
      replace hB17 := hB17.ext hx21
      obtain ⟨⟨p_23, c_23, i_23, u23, he_23, hul23, hP_23, hC_23, hI_23⟩, he21⟩ := he21
      obtain ⟨⟨p_18, c_18, i_18, u18, he_18, hul18, hP_18, hC_18, hI_18⟩, he21⟩ := he21
      obtain ⟨⟨p_16, c_16, i_16, u16, he_16, hul16, hP_16, hC_16, hI_16⟩, he21⟩ := he21
      obtain ⟨⟨p_11, i_11, u11, he_11, hul11, hP_11, hI_11⟩, he21⟩ := he21
      obtain ⟨⟨p_9, i_9, u9, he_9, hul9, hP_9, hI_9⟩, he21⟩ := he21
      obtain ⟨⟨p_5, i_5, u5, he_5, hul5, hP_5, hI_5⟩, he21⟩ := he21
      obtain ⟨⟨p_2, i_2, u2, he_2, hul2, hP_2, hI_2⟩, he21⟩ := he21
      refine L_gy (dj := 96) rfl rfl rfl (X_fn (vs := [.agg #[p_23, c_23, i_23, .bool off], .agg #[pv, cv, bv, .bool off]]) en11 (congrArg (fun z => [z, Value.agg #[pv, cv, bv, .bool off]]) he_23) (CT.mono (c_same4 p_23 c_23 i_23 ps cs bs off pv cv bv ps cs bs off _ s9 u23 0 n0 hP_23.rd hC_23.rd hI_23.rd hp hc hb) ?_))
      rintro _ w25 ⟨⟨g25, rfl, hg25⟩, hu25⟩
      have hz25 := hu25.size
      replace hp := hp.ext hu25
      replace hc := hc.ext hu25
      replace hb := hb.ext hu25
      replace hl := hl.ext hu25
      replace hU := hU.trans (Ext.upd hu25)
      replace hB1 := hB1.ext hu25
      replace hPa := hPa.ext hu25
      replace hCa := hCa.ext hu25
      replace hIa := hIa.ext hu25
      replace hB8 := hB8.ext hu25
      replace hPb := hPb.ext hu25
      replace hCb := hCb.ext hu25
      replace hIb := hIb.ext hu25
      replace hB11 := hB11.ext hu25
      replace hPc := hPc.ext hu25
      replace hCc := hCc.ext hu25
      replace hIc := hIc.ext hu25
      replace hB14 := hB14.ext hu25
      replace hPd := hPd.ext hu25
      replace hCd := hCd.ext hu25
      replace hId := hId.ext hu25
      replace hB17 := hB17.ext hu25
      obtain rfl : g25 = true := hg25.2 ⟨rfl, rfl, rfl, rfl⟩
      refine L_op rfl (X_pick (t := true) (v := (.bool (true))) rfl rfl ?_)
      refine L_op rfl (X_move (v := (.bool (true))) rfl ?_)
      refine L_gy (dj := 102) rfl rfl rfl (X_fn (vs := []) en8 rfl (CT.mono (c_wakes4 _) ?_))
      rintro vb26 w26 ⟨hvb26, hu26⟩
      have hz26 := hu26.size
      replace hp := hp.ext hu26
      replace hc := hc.ext hu26
      replace hb := hb.ext hu26
      replace hl := hl.ext hu26
      replace hU := hU.trans (Ext.upd hu26)
      replace hB1 := hB1.ext hu26
      replace hPa := hPa.ext hu26
      replace hCa := hCa.ext hu26
      replace hIa := hIa.ext hu26
      replace hB8 := hB8.ext hu26
      replace hPb := hPb.ext hu26
      replace hCb := hCb.ext hu26
      replace hIb := hIb.ext hu26
      replace hB11 := hB11.ext hu26
      replace hPc := hPc.ext hu26
      replace hCc := hCc.ext hu26
      replace hIc := hIc.ext hu26
      replace hB14 := hB14.ext hu26
      replace hPd := hPd.ext hu26
      replace hCd := hCd.ext hu26
      replace hId := hId.ext hu26
      replace hB17 := hB17.ext hu26
      subst hvb26
      refine L_op rfl (X_pick (t := true) (v := (.bool (true))) rfl rfl ?_)
      refine L_op rfl (X_assign (v := (.bool (true))) rfl ?_)
      refine L_nil ?_
      refine T_n ?_
      refine W_ret ?_
      exact BQ_r (End_1 Try.results6 (v := .bool true) rfl ⟨rfl, hU.own hn0⟩)
end Go.Proofs.Ytfmgjkchhajpmaa
