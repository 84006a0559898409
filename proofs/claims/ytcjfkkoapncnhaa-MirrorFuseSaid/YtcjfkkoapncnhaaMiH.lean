/-
 The contracts of chapter 10: flushing. (Printed by wip/gen/t10h.py of this repo.)
-/
import Derived.Test.YtcjfkkoapncnhaaMiG
namespace Go.Proofs.Ytcjfkkoapncnhaa
open Go Go.SL Go.Proofs
set_option linter.unusedVariables false

theorem flush_S {p : PD} (h : readyD p = 0 ∧ p.a.off = false) : flushS p = doesD p 0 flD := if_pos h
theorem flush_Sn {p : PD} (h : ¬ (readyD p = 0 ∧ p.a.off = false)) : flushS p = (p, readyD p) := if_neg h
theorem flush_D {p : PD} (h : (flushS p).2 = 0 ∧ p.b.off = false) : flushD p = doesD (flushS p).1 1 flD := if_pos h
theorem flush_Dn {p : PD} (h : ¬ ((flushS p).2 = 0 ∧ p.b.off = false)) : flushD p = flushS p := if_neg h
theorem ready_at {p : PD} (h : p.dn = false) (h2 : p.a.off = false ∨ p.b.off = false) : readyD p = 0 := (if_neg (by rw [h]; decide)).trans (if_neg (by rintro ⟨h3, h4⟩; rcases h2 with h | h <;> simp_all))
theorem bool_of (P : Prop) : ∃ g : Bool, (g = true ↔ P) := by
 by_cases h : P
 ·exact ⟨true, fun _ => h, fun _ => rfl⟩
 ·exact ⟨false, fun h1 => (by cases h1), fun h1 => absurd h1 h⟩

set_option maxRecDepth 10000 in
set_option maxHeartbeats 1000000 in
theorem c_flushM (p : Pr) (w : World) (hfz : p.fz ≤ 1000000) (lo0 up0 lo1 up1 : Nat) (hup0 : up0 ≤ w.heap.size) (hup1 : up1 ≤ w.heap.size) (h0 : p.d0.Rd w lo0 up0) (h1 : p.d1.Rd w lo1 up1) (hz0 : Sz p.da.a 1000100) (hz1 : Sz p.da.b 1000100) : CT Try.prog 11 #[(.agg #[p.d0.pv, p.d0.cv, p.d0.bv, (.bool (p.d0.off)), p.d1.pv, p.d1.cv, p.d1.bv, (.bool (p.d1.off)), (.int .i64 (p.fz)), (.bool (p.dn))])] w fun v w' => ∃ (p2 : Pr) (l0 u0 l1 u1 : Nat), v = .tuple #[.agg #[p2.d0.pv, p2.d0.cv, p2.d0.bv, .bool p2.d0.off, p2.d1.pv, p2.d1.cv, p2.d1.bv, .bool p2.d1.off, .int .i64 p2.fz, .bool p2.dn], .int .i64 (flushD p.da).2] ∧ p2.d0.Rd w' l0 u0 ∧ p2.d1.Rd w' l1 u1 ∧ (l0 = lo0 ∧ u0 = up0 ∨ w.heap.size ≤ l0 ∧ u0 ≤ w'.heap.size) ∧ (l1 = lo1 ∧ u1 = up1 ∨ w.heap.size ≤ l1 ∧ u1 ≤ w'.heap.size) ∧ p2.da = (flushD p.da).1 ∧ Ext w w' := by
 obtain ⟨n0, hn0⟩ : ∃ n, n = w.heap.size := ⟨_, rfl⟩
 have hU : Upd (fun i => n0 ≤ i) w w := Upd.refl _ _
 rw [← hn0] at hup0 hup1
 refine CT_of Try.func11 rfl rfl rfl ?_
 refine W_seq ?_
 refine W_reg ?_
 refine L_op rfl (X_box (v := (.agg #[p.d0.pv, p.d0.cv, p.d0.bv, (.bool (p.d0.off)), p.d1.pv, p.d1.cv, p.d1.bv, (.bool (p.d1.off)), (.int .i64 (p.fz)), (.bool (p.dn))])) (c := ([p.d0.pv, p.d0.cv, p.d0.bv, (.bool (p.d0.off)), p.d1.pv, p.d1.cv, p.d1.bv, (.bool (p.d1.off)), (.int .i64 (p.fz)), (.bool (p.dn))]).toArray) rfl rfl ?_)
 intro b1 w1 hn1
 have hbn1 := hn1.num; have hbs1 := hn1.size
 replace h0 := h0.ext hn1.ext
 replace h1 := h1.ext hn1.ext
 replace hU := hU.trans (Ext.upd hn1.ext)
 have hB1 := hn1.blk
 refine L_op rfl (X_alloc (z := (.agg #[(.slice none 0 0), (.slice none 0 0), (.slice none 0 0), (.bool (false)), (.slice none 0 0), (.slice none 0 0), (.slice none 0 0), (.bool (false)), (.int .i64 (0)), (.bool (false))])) (c := #[(.slice none 0 0), (.slice none 0 0), (.slice none 0 0), (.bool (false)), (.slice none 0 0), (.slice none 0 0), (.slice none 0 0), (.bool (false)), (.int .i64 (0)), (.bool (false))]) Zv29 rfl ?_)
 intro b2 w2 hn2
 have hbn2 := hn2.num; have hbs2 := hn2.size
 replace h0 := h0.ext hn2.ext
 replace h1 := h1.ext hn2.ext
 replace hU := hU.trans (Ext.upd hn2.ext)
 replace hB1 := hB1.ext hn2.ext
 have hB2 := hn2.blk
 refine L_op rfl (X_assign (v := (.int .i64 (0))) rfl ?_)
 refine L_nil ?_
 refine T_n ?_
 refine W_seq ?_
 refine W_reg ?_
 refine L_op rfl (X_loadA (p := (ptr b1 (0))) (xs := [p.d0.pv, p.d0.cv, p.d0.bv, (.bool (p.d0.off)), p.d1.pv, p.d1.cv, p.d1.bv, (.bool (p.d1.off)), (.int .i64 (p.fz)), (.bool (p.dn))]) A29 rfl hB1.atAll rfl ?_)
 refine L_op0 (X_storeW (b := b2) (ys := [p.d0.pv, p.d0.cv, p.d0.bv, (.bool (p.d0.off)), p.d1.pv, p.d1.cv, p.d1.bv, (.bool (p.d1.off)), (.int .i64 (p.fz)), (.bool (p.dn))]) A29 rfl rfl (List.forall_mem_cons.2 ⟨(h0.1.sv.one), (List.forall_mem_cons.2 ⟨(h0.2.1.sv.one), (List.forall_mem_cons.2 ⟨(h0.2.2.sv.one), (List.forall_mem_cons.2 ⟨rfl, (List.forall_mem_cons.2 ⟨(h1.1.sv.one), (List.forall_mem_cons.2 ⟨(h1.2.1.sv.one), (List.forall_mem_cons.2 ⟨(h1.2.2.sv.one), (List.forall_mem_cons.2 ⟨rfl, (List.forall_mem_cons.2 ⟨rfl, (List.forall_mem_cons.2 ⟨rfl, (fun _ h => by cases h)⟩)⟩)⟩)⟩)⟩)⟩)⟩)⟩)⟩)⟩) rfl hB2 rfl ?_)
 intro w3 hu3 hb3
 have hz3 := hu3.size
 replace h0 := h0.upd hu3 fun i h1 h2 h => by have h : i = b2 := h; omega
 replace h1 := h1.upd hu3 fun i h1 h2 h => by have h : i = b2 := h; omega
 replace hU := hU.trans (hu3.mono fun i _ h => by have h : i = b2 := h; show n0 ≤ i; omega)
 replace hB1 := hB1.upd hu3 fun h => by have h : b1 = b2 := h; omega
 replace hB2 : Blk w3 b2 #[p.d0.pv, p.d0.cv, p.d0.bv, (.bool (p.d0.off)), p.d1.pv, p.d1.cv, p.d1.bv, (.bool (p.d1.off)), (.int .i64 (p.fz)), (.bool (p.dn))] 29 := hb3
 refine L_nil ?_
 refine T_n ?_
 refine W_seq ?_
 refine W_reg ?_
 refine L_op rfl (X_loadA (p := (ptr b1 (0))) (xs := [p.d0.pv, p.d0.cv, p.d0.bv, (.bool (p.d0.off)), p.d1.pv, p.d1.cv, p.d1.bv, (.bool (p.d1.off)), (.int .i64 (p.fz)), (.bool (p.dn))]) A29 rfl hB1.atAll rfl ?_)
 have hcr_ := c_ready p w3 lo0 up0 lo1 up1 (by omega) (by omega) h0 h1
 refine L_op rfl (X_fn (vs := [(.agg ([p.d0.pv, p.d0.cv, p.d0.bv, (.bool (p.d0.off)), p.d1.pv, p.d1.cv, p.d1.bv, (.bool (p.d1.off)), (.int .i64 (p.fz)), (.bool (p.dn))]).toArray)]) en26 rfl ?_)
 refine CT.mono hcr_ ?_
 clear hcr_
 rintro _ w4 ⟨rfl, hu4⟩
 have hz4 := hu4.size
 replace h0 := h0.ext hu4
 replace h1 := h1.ext hu4
 replace hU := hU.trans (Ext.upd hu4)
 replace hB1 := hB1.ext hu4
 replace hB2 := hB2.ext hu4
 refine L_op rfl (X_assign (v := (.int .i64 (readyD p.da))) rfl ?_)
 refine L_nil ?_
 refine T_n ?_
 refine W_seq ?_
 refine W_seq ?_
 refine W_reg ?_
 refine L_op rfl (X_move (v := (.int .i64 (0))) rfl ?_)
 refine L_nil ?_
 refine T_n ?_
 refine W_block ?_
 refine W_unroll 3 ?_
 refine Rounds_s (m := 2) ?_
 refine W_seq ?_
 refine W_reg ?_
 refine L_op rfl (X_cmp (k := .i64) (a := 0) (b := 2) (r := true) rfl rfl rfl rfl ?_)
 refine L_nil ?_
 refine T_n ?_
 refine W_seq ?_
 refine W_ct rfl ?_
 refine W_skip ?_
 refine T_n ?_
 refine W_seq ?_
 refine W_block ?_
 refine W_seq ?_
 refine W_reg ?_
 refine L_op rfl (X_move (v := (.int .i64 (0))) rfl ?_)
 refine L_op rfl (X_assign (v := (.int .i64 (0))) rfl ?_)
 refine L_nil ?_
 refine T_n ?_
 refine W_seq ?_
 refine W_reg ?_
 refine L_op rfl (X_move (v := (.int .i64 (readyD p.da))) rfl ?_)
 by_cases hc5 : (readyD p.da : Int) = 0
 ·refine L_op rfl (X_cmp (k := .i64) (a := (readyD p.da)) (b := 0) (r := true) rfl rfl rfl (decide_eq_true (p := (readyD p.da : Int) = 0) hc5) ?_)
  refine L_op rfl (X_move (v := (.bool (true))) rfl ?_)
  refine L_gy (dj := 13) rfl rfl rfl (X_move (v := (.int .i64 (0))) rfl ?_)
  refine L_gy (dj := 13) rfl rfl rfl (X_fldP (b := b1) (o := 0) (r := 0) Fd29_0 rfl rfl ?_)
  refine L_gy (dj := 13) rfl rfl rfl (X_idxAP (len := 2) (sz := 4) (b := b1) (o := 0) (k := .i64) (i := 0) (r := 0) Try.underlying27 Z26 rfl rfl (by omega) (by omega) rfl ?_)
  refine L_gy (dj := 13) rfl rfl rfl (X_fldP (b := b1) (o := 0) (r := 3) Fd26_3 rfl rfl ?_)
  rcases Bool.eq_false_or_eq_true (p.d0.off) with hs6 | hs6
  ·refine L_gy (dj := 13) rfl rfl rfl (X_load (p := (ptr b1 (3))) (v := .bool true) T4 rfl (hB1.at1 (by rw [hs6]; rfl)) ?_)
   refine L_gy (dj := 13) rfl rfl rfl (X_not (b := true) (r := false) rfl rfl ?_)
   refine L_op rfl (X_pick (t := true) (v := (.bool (false))) rfl rfl ?_)
   refine L_nil ?_
   refine T_n ?_
   refine W_cf rfl ?_
   refine W_skip ?_
   refine B_n ?_
   refine T_n ?_
   refine W_reg ?_
   refine L_op rfl (X_arith (k := .i64) (a := 0) (b := 1) (r := 1) rfl rfl rfl rfl ?_)
   refine L_op rfl (X_move (v := (.int .i64 (1))) rfl ?_)
   refine L_nil ?_
   refine T_n ?_
   refine Rounds_s (m := 1) ?_
   refine W_seq ?_
   refine W_reg ?_
   refine L_op rfl (X_cmp (k := .i64) (a := 1) (b := 2) (r := true) rfl rfl rfl rfl ?_)
   refine L_nil ?_
   refine T_n ?_
   refine W_seq ?_
   refine W_ct rfl ?_
   refine W_skip ?_
   refine T_n ?_
   refine W_seq ?_
   refine W_block ?_
   refine W_seq ?_
   refine W_reg ?_
   refine L_op rfl (X_move (v := (.int .i64 (1))) rfl ?_)
   refine L_op rfl (X_assign (v := (.int .i64 (1))) rfl ?_)
   refine L_nil ?_
   refine T_n ?_
   refine W_seq ?_
   refine W_reg ?_
   refine L_op rfl (X_move (v := (.int .i64 (readyD p.da))) rfl ?_)
   refine L_op rfl (X_cmp (k := .i64) (a := (readyD p.da)) (b := 0) (r := true) rfl rfl rfl (decide_eq_true (p := (readyD p.da : Int) = 0) hc5) ?_)
   refine L_op rfl (X_move (v := (.bool (true))) rfl ?_)
   refine L_gy (dj := 13) rfl rfl rfl (X_move (v := (.int .i64 (1))) rfl ?_)
   refine L_gy (dj := 13) rfl rfl rfl (X_fldP (b := b1) (o := 0) (r := 0) Fd29_0 rfl rfl ?_)
   refine L_gy (dj := 13) rfl rfl rfl (X_idxAP (len := 2) (sz := 4) (b := b1) (o := 0) (k := .i64) (i := 1) (r := 4) Try.underlying27 Z26 rfl rfl (by omega) (by omega) rfl ?_)
   refine L_gy (dj := 13) rfl rfl rfl (X_fldP (b := b1) (o := 4) (r := 7) Fd26_3 rfl rfl ?_)
   rcases Bool.eq_false_or_eq_true (p.d1.off) with hs7 | hs7
   ·refine L_gy (dj := 13) rfl rfl rfl (X_load (p := (ptr b1 (7))) (v := .bool true) T4 rfl (hB1.at1 (by rw [hs7]; rfl)) ?_)
    refine L_gy (dj := 13) rfl rfl rfl (X_not (b := true) (r := false) rfl rfl ?_)
    refine L_op rfl (X_pick (t := true) (v := (.bool (false))) rfl rfl ?_)
    refine L_nil ?_
    refine T_n ?_
    refine W_cf rfl ?_
    refine W_skip ?_
    refine B_n ?_
    refine T_n ?_
    refine W_reg ?_
    refine L_op rfl (X_arith (k := .i64) (a := 1) (b := 1) (r := 2) rfl rfl rfl rfl ?_)
    refine L_op rfl (X_move (v := (.int .i64 (2))) rfl ?_)
    refine L_nil ?_
    refine T_n ?_
    refine Rounds_s (m := 0) ?_
    refine W_seq ?_
    refine W_reg ?_
    refine L_op rfl (X_cmp (k := .i64) (a := 2) (b := 2) (r := false) rfl rfl rfl rfl ?_)
    refine L_nil ?_
    refine T_n ?_
    refine W_seq ?_
    refine W_cf rfl ?_
    refine W_exit ?_
    refine T_e ?_
    refine T_e ?_
    refine B_x ?_
    refine T_n ?_
    refine W_seq ?_
    refine W_reg ?_
    refine L_op rfl (X_loadA (p := (ptr b2 (0))) (xs := [p.d0.pv, p.d0.cv, p.d0.bv, (.bool (p.d0.off)), p.d1.pv, p.d1.cv, p.d1.bv, (.bool (p.d1.off)), (.int .i64 (p.fz)), (.bool (p.dn))]) A29 rfl hB2.atAll rfl ?_)
    refine L_op rfl (X_move (v := (.int .i64 (readyD p.da))) rfl ?_)
    refine L_op0 (X_storeW (b := b2) (ys := [p.d0.pv, p.d0.cv, p.d0.bv, (.bool (p.d0.off)), p.d1.pv, p.d1.cv, p.d1.bv, (.bool (p.d1.off)), (.int .i64 (p.fz)), (.bool (p.dn))]) A29 rfl rfl (List.forall_mem_cons.2 ⟨(h0.1.sv.one), (List.forall_mem_cons.2 ⟨(h0.2.1.sv.one), (List.forall_mem_cons.2 ⟨(h0.2.2.sv.one), (List.forall_mem_cons.2 ⟨rfl, (List.forall_mem_cons.2 ⟨(h1.1.sv.one), (List.forall_mem_cons.2 ⟨(h1.2.1.sv.one), (List.forall_mem_cons.2 ⟨(h1.2.2.sv.one), (List.forall_mem_cons.2 ⟨rfl, (List.forall_mem_cons.2 ⟨rfl, (List.forall_mem_cons.2 ⟨rfl, (fun _ h => by cases h)⟩)⟩)⟩)⟩)⟩)⟩)⟩)⟩)⟩)⟩) rfl hB2 rfl ?_)
    intro w8 hu8 hb8
    have hz8 := hu8.size
    replace h0 := h0.upd hu8 fun i h1 h2 h => by have h : i = b2 := h; omega
    replace h1 := h1.upd hu8 fun i h1 h2 h => by have h : i = b2 := h; omega
    replace hU := hU.trans (hu8.mono fun i _ h => by have h : i = b2 := h; show n0 ≤ i; omega)
    replace hB1 := hB1.upd hu8 fun h => by have h : b1 = b2 := h; omega
    replace hB2 : Blk w8 b2 #[p.d0.pv, p.d0.cv, p.d0.bv, (.bool (p.d0.off)), p.d1.pv, p.d1.cv, p.d1.bv, (.bool (p.d1.off)), (.int .i64 (p.fz)), (.bool (p.dn))] 29 := hb8
    refine L_op rfl (X_assign (v := (.int .i64 (readyD p.da))) rfl ?_)
    refine L_nil ?_
    refine T_n ?_
    refine W_ret ?_
    have hS_ : flushS p.da = (p.da, readyD p.da) := flush_Sn (fun h_ => by have h2_ : p.d0.off = false := h_.2; rw [hs6] at h2_; cases h2_)
    have hS2_ : (flushS p.da).2 = readyD p.da := by rw [hS_]
    have hD_ : flushD p.da = flushS p.da := flush_Dn (fun h_ => by have h2_ : p.d1.off = false := h_.2; rw [hs7] at h2_; cases h2_)
    rw [hS_] at hD_
    have he_ : readyD p.da = (flushD p.da).2 := by rw [hD_]
    have hd_ : p.da = (flushD p.da).1 := by rw [hD_]
    exact BQ_r (End_2 Try.results11 (RV_A A29 rfl hB2.atAll rfl) (v2 := .int .i64 (readyD p.da)) rfl ⟨p, lo0, up0, lo1, up1, by rw [← he_], h0, h1, .inl ⟨rfl, rfl⟩, .inl ⟨rfl, rfl⟩, hd_, hU.own hn0⟩)
   ·refine L_gy (dj := 13) rfl rfl rfl (X_load (p := (ptr b1 (7))) (v := .bool false) T4 rfl (hB1.at1 (by rw [hs7]; rfl)) ?_)
    refine L_gy (dj := 13) rfl rfl rfl (X_not (b := false) (r := true) rfl rfl ?_)
    refine L_op rfl (X_pick (t := true) (v := (.bool (true))) rfl rfl ?_)
    refine L_nil ?_
    refine T_n ?_
    refine W_ct rfl ?_
    refine W_reg ?_
    refine L_op rfl (X_loadA (p := (ptr b2 (0))) (xs := [p.d0.pv, p.d0.cv, p.d0.bv, (.bool (p.d0.off)), p.d1.pv, p.d1.cv, p.d1.bv, (.bool (p.d1.off)), (.int .i64 (p.fz)), (.bool (p.dn))]) A29 rfl hB2.atAll rfl ?_)
    refine L_op rfl (X_move (v := (.int .i64 (1))) rfl ?_)
    obtain ⟨sq, hsq⟩ : ∃ n, n = w4.heap.size := ⟨_, rfl⟩
    have hcr_ := c_does1 p flD 29 [] en29 w4 hfz lo0 up0 lo1 up1 (by omega) (by omega) h0 h1 (fun W2 hx_ => c_flushD p.d1 W2 lo1 up1 (by have := hx_.size; omega) (h1.ext hx_) (hz1.mono (by decide)))
    refine L_op rfl (X_fn (vs := [(.agg ([p.d0.pv, p.d0.cv, p.d0.bv, (.bool (p.d0.off)), p.d1.pv, p.d1.cv, p.d1.bv, (.bool (p.d1.off)), (.int .i64 (p.fz)), (.bool (p.dn))]).toArray), (.int .i64 (1)), (.func (.func 29) #[] #[])]) en28 rfl ?_)
    refine CT.mono hcr_ ?_
    clear hcr_
    rintro _ w9 ⟨pq, l0q, u0q, l1q, u1q, rfl, hq0, hq1, hiq0, hiq1, _, _, hdaq, hu9⟩
    have hz9 := hu9.size
    obtain ⟨eq, heq⟩ : ∃ z, z = (doesD p.da 1 flD).2 := ⟨_, rfl⟩
    rw [← heq]
    obtain ⟨uq, huq⟩ : ∃ n, n = w9.heap.size := ⟨_, rfl⟩
    rw [← hsq, ← huq] at hiq0 hiq1
    replace h0 := h0.ext hu9
    replace h1 := h1.ext hu9
    replace hU := hU.trans (Ext.upd hu9)
    replace hB1 := hB1.ext hu9
    replace hB2 := hB2.ext hu9
    refine L_op rfl (X_move (v := (.tuple #[(.agg #[pq.d0.pv, pq.d0.cv, pq.d0.bv, (.bool (pq.d0.off)), pq.d1.pv, pq.d1.cv, pq.d1.bv, (.bool (pq.d1.off)), (.int .i64 (pq.fz)), (.bool (pq.dn))]), (.int .i64 (eq))])) rfl ?_)
    refine L_op rfl (X_extract (l := [(.agg #[pq.d0.pv, pq.d0.cv, pq.d0.bv, (.bool (pq.d0.off)), pq.d1.pv, pq.d1.cv, pq.d1.bv, (.bool (pq.d1.off)), (.int .i64 (pq.fz)), (.bool (pq.dn))]), (.int .i64 (eq))]) (v := (.agg #[pq.d0.pv, pq.d0.cv, pq.d0.bv, (.bool (pq.d0.off)), pq.d1.pv, pq.d1.cv, pq.d1.bv, (.bool (pq.d1.off)), (.int .i64 (pq.fz)), (.bool (pq.dn))])) rfl rfl ?_)
    refine L_op rfl (X_extract (l := [(.agg #[pq.d0.pv, pq.d0.cv, pq.d0.bv, (.bool (pq.d0.off)), pq.d1.pv, pq.d1.cv, pq.d1.bv, (.bool (pq.d1.off)), (.int .i64 (pq.fz)), (.bool (pq.dn))]), (.int .i64 (eq))]) (v := (.int .i64 (eq))) rfl rfl ?_)
    refine L_op0 (X_storeW (b := b2) (ys := [pq.d0.pv, pq.d0.cv, pq.d0.bv, (.bool (pq.d0.off)), pq.d1.pv, pq.d1.cv, pq.d1.bv, (.bool (pq.d1.off)), (.int .i64 (pq.fz)), (.bool (pq.dn))]) A29 rfl rfl (List.forall_mem_cons.2 ⟨(hq0.1.sv.one), (List.forall_mem_cons.2 ⟨(hq0.2.1.sv.one), (List.forall_mem_cons.2 ⟨(hq0.2.2.sv.one), (List.forall_mem_cons.2 ⟨rfl, (List.forall_mem_cons.2 ⟨(hq1.1.sv.one), (List.forall_mem_cons.2 ⟨(hq1.2.1.sv.one), (List.forall_mem_cons.2 ⟨(hq1.2.2.sv.one), (List.forall_mem_cons.2 ⟨rfl, (List.forall_mem_cons.2 ⟨rfl, (List.forall_mem_cons.2 ⟨rfl, (fun _ h => by cases h)⟩)⟩)⟩)⟩)⟩)⟩)⟩)⟩)⟩)⟩) rfl hB2 rfl ?_)
    intro w10 hu10 hb10
    have hz10 := hu10.size
    replace h0 := h0.upd hu10 fun i h1 h2 h => by have h : i = b2 := h; omega
    replace h1 := h1.upd hu10 fun i h1 h2 h => by have h : i = b2 := h; omega
    replace hU := hU.trans (hu10.mono fun i _ h => by have h : i = b2 := h; show n0 ≤ i; omega)
    replace hB1 := hB1.upd hu10 fun h => by have h : b1 = b2 := h; omega
    replace hq0 := hq0.upd hu10 fun i h1 h2 h => by have h : i = b2 := h; omega
    replace hq1 := hq1.upd hu10 fun i h1 h2 h => by have h : i = b2 := h; omega
    replace hB2 : Blk w10 b2 #[pq.d0.pv, pq.d0.cv, pq.d0.bv, (.bool (pq.d0.off)), pq.d1.pv, pq.d1.cv, pq.d1.bv, (.bool (pq.d1.off)), (.int .i64 (pq.fz)), (.bool (pq.dn))] 29 := hb10
    refine L_op rfl (X_assign (v := (.int .i64 (eq))) rfl ?_)
    refine L_nil ?_
    refine B_n ?_
    refine T_n ?_
    refine W_reg ?_
    refine L_op rfl (X_arith (k := .i64) (a := 1) (b := 1) (r := 2) rfl rfl rfl rfl ?_)
    refine L_op rfl (X_move (v := (.int .i64 (2))) rfl ?_)
    refine L_nil ?_
    refine T_n ?_
    refine Rounds_s (m := 0) ?_
    refine W_seq ?_
    refine W_reg ?_
    refine L_op rfl (X_cmp (k := .i64) (a := 2) (b := 2) (r := false) rfl rfl rfl rfl ?_)
    refine L_nil ?_
    refine T_n ?_
    refine W_seq ?_
    refine W_cf rfl ?_
    refine W_exit ?_
    refine T_e ?_
    refine T_e ?_
    refine B_x ?_
    refine T_n ?_
    refine W_seq ?_
    refine W_reg ?_
    refine L_op rfl (X_loadA (p := (ptr b2 (0))) (xs := [pq.d0.pv, pq.d0.cv, pq.d0.bv, (.bool (pq.d0.off)), pq.d1.pv, pq.d1.cv, pq.d1.bv, (.bool (pq.d1.off)), (.int .i64 (pq.fz)), (.bool (pq.dn))]) A29 rfl hB2.atAll rfl ?_)
    refine L_op rfl (X_move (v := (.int .i64 (eq))) rfl ?_)
    refine L_op0 (X_storeW (b := b2) (ys := [pq.d0.pv, pq.d0.cv, pq.d0.bv, (.bool (pq.d0.off)), pq.d1.pv, pq.d1.cv, pq.d1.bv, (.bool (pq.d1.off)), (.int .i64 (pq.fz)), (.bool (pq.dn))]) A29 rfl rfl (List.forall_mem_cons.2 ⟨(hq0.1.sv.one), (List.forall_mem_cons.2 ⟨(hq0.2.1.sv.one), (List.forall_mem_cons.2 ⟨(hq0.2.2.sv.one), (List.forall_mem_cons.2 ⟨rfl, (List.forall_mem_cons.2 ⟨(hq1.1.sv.one), (List.forall_mem_cons.2 ⟨(hq1.2.1.sv.one), (List.forall_mem_cons.2 ⟨(hq1.2.2.sv.one), (List.forall_mem_cons.2 ⟨rfl, (List.forall_mem_cons.2 ⟨rfl, (List.forall_mem_cons.2 ⟨rfl, (fun _ h => by cases h)⟩)⟩)⟩)⟩)⟩)⟩)⟩)⟩)⟩)⟩) rfl hB2 rfl ?_)
    intro w11 hu11 hb11
    have hz11 := hu11.size
    replace h0 := h0.upd hu11 fun i h1 h2 h => by have h : i = b2 := h; omega
    replace h1 := h1.upd hu11 fun i h1 h2 h => by have h : i = b2 := h; omega
    replace hU := hU.trans (hu11.mono fun i _ h => by have h : i = b2 := h; show n0 ≤ i; omega)
    replace hB1 := hB1.upd hu11 fun h => by have h : b1 = b2 := h; omega
    replace hq0 := hq0.upd hu11 fun i h1 h2 h => by have h : i = b2 := h; omega
    replace hq1 := hq1.upd hu11 fun i h1 h2 h => by have h : i = b2 := h; omega
    replace hB2 : Blk w11 b2 #[pq.d0.pv, pq.d0.cv, pq.d0.bv, (.bool (pq.d0.off)), pq.d1.pv, pq.d1.cv, pq.d1.bv, (.bool (pq.d1.off)), (.int .i64 (pq.fz)), (.bool (pq.dn))] 29 := hb11
    refine L_op rfl (X_assign (v := (.int .i64 (eq))) rfl ?_)
    refine L_nil ?_
    refine T_n ?_
    refine W_ret ?_
    have hS_ : flushS p.da = (p.da, readyD p.da) := flush_Sn (fun h_ => by have h2_ : p.d0.off = false := h_.2; rw [hs6] at h2_; cases h2_)
    have hS2_ : (flushS p.da).2 = readyD p.da := by rw [hS_]
    have hD_ : flushD p.da = doesD p.da 1 flD := (flush_D ⟨by rw [hS2_]; exact hc5, hs7⟩).trans (by rw [hS_])
    have he_ : eq = (flushD p.da).2 := by rw [hD_]; exact heq
    have hd_ : pq.da = (flushD p.da).1 := by rw [hD_]; exact hdaq
    exact BQ_r (End_2 Try.results11 (RV_A A29 rfl hB2.atAll rfl) (v2 := .int .i64 (eq)) rfl ⟨pq, l0q, u0q, l1q, u1q, by rw [← he_], hq0, hq1, by omega, by omega, hd_, hU.own hn0⟩)
  ·refine L_gy (dj := 13) rfl rfl rfl (X_load (p := (ptr b1 (3))) (v := .bool false) T4 rfl (hB1.at1 (by rw [hs6]; rfl)) ?_)
   refine L_gy (dj := 13) rfl rfl rfl (X_not (b := false) (r := true) rfl rfl ?_)
   refine L_op rfl (X_pick (t := true) (v := (.bool (true))) rfl rfl ?_)
   refine L_nil ?_
   refine T_n ?_
   refine W_ct rfl ?_
   refine W_reg ?_
   refine L_op rfl (X_loadA (p := (ptr b2 (0))) (xs := [p.d0.pv, p.d0.cv, p.d0.bv, (.bool (p.d0.off)), p.d1.pv, p.d1.cv, p.d1.bv, (.bool (p.d1.off)), (.int .i64 (p.fz)), (.bool (p.dn))]) A29 rfl hB2.atAll rfl ?_)
   refine L_op rfl (X_move (v := (.int .i64 (0))) rfl ?_)
   obtain ⟨sq, hsq⟩ : ∃ n, n = w4.heap.size := ⟨_, rfl⟩
   have hcr_ := c_does0 p flD 29 [] en29 w4 hfz lo0 up0 lo1 up1 (by omega) (by omega) h0 h1 (fun W2 hx_ => c_flushD p.d0 W2 lo0 up0 (by have := hx_.size; omega) (h0.ext hx_) (hz0.mono (by decide)))
   refine L_op rfl (X_fn (vs := [(.agg ([p.d0.pv, p.d0.cv, p.d0.bv, (.bool (p.d0.off)), p.d1.pv, p.d1.cv, p.d1.bv, (.bool (p.d1.off)), (.int .i64 (p.fz)), (.bool (p.dn))]).toArray), (.int .i64 (0)), (.func (.func 29) #[] #[])]) en28 rfl ?_)
   refine CT.mono hcr_ ?_
   clear hcr_
   rintro _ w12 ⟨pq, l0q, u0q, l1q, u1q, rfl, hq0, hq1, hiq0, hiq1, _, _, hdaq, hu12⟩
   have hz12 := hu12.size
   obtain ⟨eq, heq⟩ : ∃ z, z = (doesD p.da 0 flD).2 := ⟨_, rfl⟩
   rw [← heq]
   obtain ⟨uq, huq⟩ : ∃ n, n = w12.heap.size := ⟨_, rfl⟩
   rw [← hsq, ← huq] at hiq0 hiq1
   replace h0 := h0.ext hu12
   replace h1 := h1.ext hu12
   replace hU := hU.trans (Ext.upd hu12)
   replace hB1 := hB1.ext hu12
   replace hB2 := hB2.ext hu12
   refine L_op rfl (X_move (v := (.tuple #[(.agg #[pq.d0.pv, pq.d0.cv, pq.d0.bv, (.bool (pq.d0.off)), pq.d1.pv, pq.d1.cv, pq.d1.bv, (.bool (pq.d1.off)), (.int .i64 (pq.fz)), (.bool (pq.dn))]), (.int .i64 (eq))])) rfl ?_)
   refine L_op rfl (X_extract (l := [(.agg #[pq.d0.pv, pq.d0.cv, pq.d0.bv, (.bool (pq.d0.off)), pq.d1.pv, pq.d1.cv, pq.d1.bv, (.bool (pq.d1.off)), (.int .i64 (pq.fz)), (.bool (pq.dn))]), (.int .i64 (eq))]) (v := (.agg #[pq.d0.pv, pq.d0.cv, pq.d0.bv, (.bool (pq.d0.off)), pq.d1.pv, pq.d1.cv, pq.d1.bv, (.bool (pq.d1.off)), (.int .i64 (pq.fz)), (.bool (pq.dn))])) rfl rfl ?_)
   refine L_op rfl (X_extract (l := [(.agg #[pq.d0.pv, pq.d0.cv, pq.d0.bv, (.bool (pq.d0.off)), pq.d1.pv, pq.d1.cv, pq.d1.bv, (.bool (pq.d1.off)), (.int .i64 (pq.fz)), (.bool (pq.dn))]), (.int .i64 (eq))]) (v := (.int .i64 (eq))) rfl rfl ?_)
   refine L_op0 (X_storeW (b := b2) (ys := [pq.d0.pv, pq.d0.cv, pq.d0.bv, (.bool (pq.d0.off)), pq.d1.pv, pq.d1.cv, pq.d1.bv, (.bool (pq.d1.off)), (.int .i64 (pq.fz)), (.bool (pq.dn))]) A29 rfl rfl (List.forall_mem_cons.2 ⟨(hq0.1.sv.one), (List.forall_mem_cons.2 ⟨(hq0.2.1.sv.one), (List.forall_mem_cons.2 ⟨(hq0.2.2.sv.one), (List.forall_mem_cons.2 ⟨rfl, (List.forall_mem_cons.2 ⟨(hq1.1.sv.one), (List.forall_mem_cons.2 ⟨(hq1.2.1.sv.one), (List.forall_mem_cons.2 ⟨(hq1.2.2.sv.one), (List.forall_mem_cons.2 ⟨rfl, (List.forall_mem_cons.2 ⟨rfl, (List.forall_mem_cons.2 ⟨rfl, (fun _ h => by cases h)⟩)⟩)⟩)⟩)⟩)⟩)⟩)⟩)⟩)⟩) rfl hB2 rfl ?_)
   intro w13 hu13 hb13
   have hz13 := hu13.size
   replace h0 := h0.upd hu13 fun i h1 h2 h => by have h : i = b2 := h; omega
   replace h1 := h1.upd hu13 fun i h1 h2 h => by have h : i = b2 := h; omega
   replace hU := hU.trans (hu13.mono fun i _ h => by have h : i = b2 := h; show n0 ≤ i; omega)
   replace hB1 := hB1.upd hu13 fun h => by have h : b1 = b2 := h; omega
   replace hq0 := hq0.upd hu13 fun i h1 h2 h => by have h : i = b2 := h; omega
   replace hq1 := hq1.upd hu13 fun i h1 h2 h => by have h : i = b2 := h; omega
   replace hB2 : Blk w13 b2 #[pq.d0.pv, pq.d0.cv, pq.d0.bv, (.bool (pq.d0.off)), pq.d1.pv, pq.d1.cv, pq.d1.bv, (.bool (pq.d1.off)), (.int .i64 (pq.fz)), (.bool (pq.dn))] 29 := hb13
   refine L_op rfl (X_assign (v := (.int .i64 (eq))) rfl ?_)
   refine L_nil ?_
   refine B_n ?_
   refine T_n ?_
   refine W_reg ?_
   refine L_op rfl (X_arith (k := .i64) (a := 0) (b := 1) (r := 1) rfl rfl rfl rfl ?_)
   refine L_op rfl (X_move (v := (.int .i64 (1))) rfl ?_)
   refine L_nil ?_
   refine T_n ?_
   refine Rounds_s (m := 1) ?_
   refine W_seq ?_
   refine W_reg ?_
   refine L_op rfl (X_cmp (k := .i64) (a := 1) (b := 2) (r := true) rfl rfl rfl rfl ?_)
   refine L_nil ?_
   refine T_n ?_
   refine W_seq ?_
   refine W_ct rfl ?_
   refine W_skip ?_
   refine T_n ?_
   refine W_seq ?_
   refine W_block ?_
   refine W_seq ?_
   refine W_reg ?_
   refine L_op rfl (X_move (v := (.int .i64 (1))) rfl ?_)
   refine L_op rfl (X_assign (v := (.int .i64 (1))) rfl ?_)
   refine L_nil ?_
   refine T_n ?_
   refine W_seq ?_
   refine W_reg ?_
   refine L_op rfl (X_move (v := (.int .i64 (eq))) rfl ?_)
   by_cases hc14 : (eq : Int) = 0
   ·refine L_op rfl (X_cmp (k := .i64) (a := (eq)) (b := 0) (r := true) rfl rfl rfl (decide_eq_true (p := (eq : Int) = 0) hc14) ?_)
    refine L_op rfl (X_move (v := (.bool (true))) rfl ?_)
    refine L_gy (dj := 13) rfl rfl rfl (X_move (v := (.int .i64 (1))) rfl ?_)
    refine L_gy (dj := 13) rfl rfl rfl (X_fldP (b := b1) (o := 0) (r := 0) Fd29_0 rfl rfl ?_)
    refine L_gy (dj := 13) rfl rfl rfl (X_idxAP (len := 2) (sz := 4) (b := b1) (o := 0) (k := .i64) (i := 1) (r := 4) Try.underlying27 Z26 rfl rfl (by omega) (by omega) rfl ?_)
    refine L_gy (dj := 13) rfl rfl rfl (X_fldP (b := b1) (o := 4) (r := 7) Fd26_3 rfl rfl ?_)
    rcases Bool.eq_false_or_eq_true (p.d1.off) with hs15 | hs15
    ·refine L_gy (dj := 13) rfl rfl rfl (X_load (p := (ptr b1 (7))) (v := .bool true) T4 rfl (hB1.at1 (by rw [hs15]; rfl)) ?_)
     refine L_gy (dj := 13) rfl rfl rfl (X_not (b := true) (r := false) rfl rfl ?_)
     refine L_op rfl (X_pick (t := true) (v := (.bool (false))) rfl rfl ?_)
     refine L_nil ?_
     refine T_n ?_
     refine W_cf rfl ?_
     refine W_skip ?_
     refine B_n ?_
     refine T_n ?_
     refine W_reg ?_
     refine L_op rfl (X_arith (k := .i64) (a := 1) (b := 1) (r := 2) rfl rfl rfl rfl ?_)
     refine L_op rfl (X_move (v := (.int .i64 (2))) rfl ?_)
     refine L_nil ?_
     refine T_n ?_
     refine Rounds_s (m := 0) ?_
     refine W_seq ?_
     refine W_reg ?_
     refine L_op rfl (X_cmp (k := .i64) (a := 2) (b := 2) (r := false) rfl rfl rfl rfl ?_)
     refine L_nil ?_
     refine T_n ?_
     refine W_seq ?_
     refine W_cf rfl ?_
     refine W_exit ?_
     refine T_e ?_
     refine T_e ?_
     refine B_x ?_
     refine T_n ?_
     refine W_seq ?_
     refine W_reg ?_
     refine L_op rfl (X_loadA (p := (ptr b2 (0))) (xs := [pq.d0.pv, pq.d0.cv, pq.d0.bv, (.bool (pq.d0.off)), pq.d1.pv, pq.d1.cv, pq.d1.bv, (.bool (pq.d1.off)), (.int .i64 (pq.fz)), (.bool (pq.dn))]) A29 rfl hB2.atAll rfl ?_)
     refine L_op rfl (X_move (v := (.int .i64 (eq))) rfl ?_)
     refine L_op0 (X_storeW (b := b2) (ys := [pq.d0.pv, pq.d0.cv, pq.d0.bv, (.bool (pq.d0.off)), pq.d1.pv, pq.d1.cv, pq.d1.bv, (.bool (pq.d1.off)), (.int .i64 (pq.fz)), (.bool (pq.dn))]) A29 rfl rfl (List.forall_mem_cons.2 ⟨(hq0.1.sv.one), (List.forall_mem_cons.2 ⟨(hq0.2.1.sv.one), (List.forall_mem_cons.2 ⟨(hq0.2.2.sv.one), (List.forall_mem_cons.2 ⟨rfl, (List.forall_mem_cons.2 ⟨(hq1.1.sv.one), (List.forall_mem_cons.2 ⟨(hq1.2.1.sv.one), (List.forall_mem_cons.2 ⟨(hq1.2.2.sv.one), (List.forall_mem_cons.2 ⟨rfl, (List.forall_mem_cons.2 ⟨rfl, (List.forall_mem_cons.2 ⟨rfl, (fun _ h => by cases h)⟩)⟩)⟩)⟩)⟩)⟩)⟩)⟩)⟩)⟩) rfl hB2 rfl ?_)
     intro w16 hu16 hb16
     have hz16 := hu16.size
     replace h0 := h0.upd hu16 fun i h1 h2 h => by have h : i = b2 := h; omega
     replace h1 := h1.upd hu16 fun i h1 h2 h => by have h : i = b2 := h; omega
     replace hU := hU.trans (hu16.mono fun i _ h => by have h : i = b2 := h; show n0 ≤ i; omega)
     replace hB1 := hB1.upd hu16 fun h => by have h : b1 = b2 := h; omega
     replace hq0 := hq0.upd hu16 fun i h1 h2 h => by have h : i = b2 := h; omega
     replace hq1 := hq1.upd hu16 fun i h1 h2 h => by have h : i = b2 := h; omega
     replace hB2 : Blk w16 b2 #[pq.d0.pv, pq.d0.cv, pq.d0.bv, (.bool (pq.d0.off)), pq.d1.pv, pq.d1.cv, pq.d1.bv, (.bool (pq.d1.off)), (.int .i64 (pq.fz)), (.bool (pq.dn))] 29 := hb16
     refine L_op rfl (X_assign (v := (.int .i64 (eq))) rfl ?_)
     refine L_nil ?_
     refine T_n ?_
     refine W_ret ?_
     have hS_ : flushS p.da = doesD p.da 0 flD := flush_S ⟨hc5, hs6⟩
     have hS2_ : (flushS p.da).2 = eq := by rw [hS_]; exact heq.symm
     have hD_ : flushD p.da = flushS p.da := flush_Dn (fun h_ => by have h2_ : p.d1.off = false := h_.2; rw [hs15] at h2_; cases h2_)
     rw [hS_] at hD_
     have he_ : eq = (flushD p.da).2 := by rw [hD_]; exact heq
     have hd_ : pq.da = (flushD p.da).1 := by rw [hD_]; exact hdaq
     exact BQ_r (End_2 Try.results11 (RV_A A29 rfl hB2.atAll rfl) (v2 := .int .i64 (eq)) rfl ⟨pq, l0q, u0q, l1q, u1q, by rw [← he_], hq0, hq1, by omega, by omega, hd_, hU.own hn0⟩)
    ·refine L_gy (dj := 13) rfl rfl rfl (X_load (p := (ptr b1 (7))) (v := .bool false) T4 rfl (hB1.at1 (by rw [hs15]; rfl)) ?_)
     refine L_gy (dj := 13) rfl rfl rfl (X_not (b := false) (r := true) rfl rfl ?_)
     refine L_op rfl (X_pick (t := true) (v := (.bool (true))) rfl rfl ?_)
     refine L_nil ?_
     refine T_n ?_
     refine W_ct rfl ?_
     refine W_reg ?_
     refine L_op rfl (X_loadA (p := (ptr b2 (0))) (xs := [pq.d0.pv, pq.d0.cv, pq.d0.bv, (.bool (pq.d0.off)), pq.d1.pv, pq.d1.cv, pq.d1.bv, (.bool (pq.d1.off)), (.int .i64 (pq.fz)), (.bool (pq.dn))]) A29 rfl hB2.atAll rfl ?_)
     refine L_op rfl (X_move (v := (.int .i64 (1))) rfl ?_)
     have hfz_q : pq.fz ≤ 1000000 := by have h_ := does_le p.da 0 flD; rw [← hdaq] at h_; exact Int.le_trans h_ hfz
     have hsz_q := flush_sz (i := 0) hz0 hz1
     rw [← hdaq] at hsz_q
     obtain ⟨sr, hsr⟩ : ∃ n, n = w13.heap.size := ⟨_, rfl⟩
     have hcr_ := c_does1 pq flD 29 [] en29 w13 hfz_q l0q u0q l1q u1q (by omega) (by omega) hq0 hq1 (fun W2 hx_ => c_flushD pq.d1 W2 l1q u1q (by have := hx_.size; omega) (hq1.ext hx_) (hsz_q.2.mono (by decide)))
     refine L_op rfl (X_fn (vs := [(.agg ([pq.d0.pv, pq.d0.cv, pq.d0.bv, (.bool (pq.d0.off)), pq.d1.pv, pq.d1.cv, pq.d1.bv, (.bool (pq.d1.off)), (.int .i64 (pq.fz)), (.bool (pq.dn))]).toArray), (.int .i64 (1)), (.func (.func 29) #[] #[])]) en28 rfl ?_)
     refine CT.mono hcr_ ?_
     clear hcr_
     rintro _ w17 ⟨pr, l0r, u0r, l1r, u1r, rfl, hr0, hr1, hir0, hir1, _, _, hdar, hu17⟩
     have hz17 := hu17.size
     obtain ⟨er, her⟩ : ∃ z, z = (doesD pq.da 1 flD).2 := ⟨_, rfl⟩
     rw [← her]
     obtain ⟨ur, hur⟩ : ∃ n, n = w17.heap.size := ⟨_, rfl⟩
     rw [← hsr, ← hur] at hir0 hir1
     replace h0 := h0.ext hu17
     replace h1 := h1.ext hu17
     replace hU := hU.trans (Ext.upd hu17)
     replace hB1 := hB1.ext hu17
     replace hq0 := hq0.ext hu17
     replace hq1 := hq1.ext hu17
     replace hB2 := hB2.ext hu17
     refine L_op rfl (X_move (v := (.tuple #[(.agg #[pr.d0.pv, pr.d0.cv, pr.d0.bv, (.bool (pr.d0.off)), pr.d1.pv, pr.d1.cv, pr.d1.bv, (.bool (pr.d1.off)), (.int .i64 (pr.fz)), (.bool (pr.dn))]), (.int .i64 (er))])) rfl ?_)
     refine L_op rfl (X_extract (l := [(.agg #[pr.d0.pv, pr.d0.cv, pr.d0.bv, (.bool (pr.d0.off)), pr.d1.pv, pr.d1.cv, pr.d1.bv, (.bool (pr.d1.off)), (.int .i64 (pr.fz)), (.bool (pr.dn))]), (.int .i64 (er))]) (v := (.agg #[pr.d0.pv, pr.d0.cv, pr.d0.bv, (.bool (pr.d0.off)), pr.d1.pv, pr.d1.cv, pr.d1.bv, (.bool (pr.d1.off)), (.int .i64 (pr.fz)), (.bool (pr.dn))])) rfl rfl ?_)
     refine L_op rfl (X_extract (l := [(.agg #[pr.d0.pv, pr.d0.cv, pr.d0.bv, (.bool (pr.d0.off)), pr.d1.pv, pr.d1.cv, pr.d1.bv, (.bool (pr.d1.off)), (.int .i64 (pr.fz)), (.bool (pr.dn))]), (.int .i64 (er))]) (v := (.int .i64 (er))) rfl rfl ?_)
     refine L_op0 (X_storeW (b := b2) (ys := [pr.d0.pv, pr.d0.cv, pr.d0.bv, (.bool (pr.d0.off)), pr.d1.pv, pr.d1.cv, pr.d1.bv, (.bool (pr.d1.off)), (.int .i64 (pr.fz)), (.bool (pr.dn))]) A29 rfl rfl (List.forall_mem_cons.2 ⟨(hr0.1.sv.one), (List.forall_mem_cons.2 ⟨(hr0.2.1.sv.one), (List.forall_mem_cons.2 ⟨(hr0.2.2.sv.one), (List.forall_mem_cons.2 ⟨rfl, (List.forall_mem_cons.2 ⟨(hr1.1.sv.one), (List.forall_mem_cons.2 ⟨(hr1.2.1.sv.one), (List.forall_mem_cons.2 ⟨(hr1.2.2.sv.one), (List.forall_mem_cons.2 ⟨rfl, (List.forall_mem_cons.2 ⟨rfl, (List.forall_mem_cons.2 ⟨rfl, (fun _ h => by cases h)⟩)⟩)⟩)⟩)⟩)⟩)⟩)⟩)⟩)⟩) rfl hB2 rfl ?_)
     intro w18 hu18 hb18
     have hz18 := hu18.size
     replace h0 := h0.upd hu18 fun i h1 h2 h => by have h : i = b2 := h; omega
     replace h1 := h1.upd hu18 fun i h1 h2 h => by have h : i = b2 := h; omega
     replace hU := hU.trans (hu18.mono fun i _ h => by have h : i = b2 := h; show n0 ≤ i; omega)
     replace hB1 := hB1.upd hu18 fun h => by have h : b1 = b2 := h; omega
     replace hq0 := hq0.upd hu18 fun i h1 h2 h => by have h : i = b2 := h; omega
     replace hq1 := hq1.upd hu18 fun i h1 h2 h => by have h : i = b2 := h; omega
     replace hr0 := hr0.upd hu18 fun i h1 h2 h => by have h : i = b2 := h; omega
     replace hr1 := hr1.upd hu18 fun i h1 h2 h => by have h : i = b2 := h; omega
     replace hB2 : Blk w18 b2 #[pr.d0.pv, pr.d0.cv, pr.d0.bv, (.bool (pr.d0.off)), pr.d1.pv, pr.d1.cv, pr.d1.bv, (.bool (pr.d1.off)), (.int .i64 (pr.fz)), (.bool (pr.dn))] 29 := hb18
     refine L_op rfl (X_assign (v := (.int .i64 (er))) rfl ?_)
     refine L_nil ?_
     refine B_n ?_
     refine T_n ?_
     refine W_reg ?_
     refine L_op rfl (X_arith (k := .i64) (a := 1) (b := 1) (r := 2) rfl rfl rfl rfl ?_)
     refine L_op rfl (X_move (v := (.int .i64 (2))) rfl ?_)
     refine L_nil ?_
     refine T_n ?_
     refine Rounds_s (m := 0) ?_
     refine W_seq ?_
     refine W_reg ?_
     refine L_op rfl (X_cmp (k := .i64) (a := 2) (b := 2) (r := false) rfl rfl rfl rfl ?_)
     refine L_nil ?_
     refine T_n ?_
     refine W_seq ?_
     refine W_cf rfl ?_
     refine W_exit ?_
     refine T_e ?_
     refine T_e ?_
     refine B_x ?_
     refine T_n ?_
     refine W_seq ?_
     refine W_reg ?_
     refine L_op rfl (X_loadA (p := (ptr b2 (0))) (xs := [pr.d0.pv, pr.d0.cv, pr.d0.bv, (.bool (pr.d0.off)), pr.d1.pv, pr.d1.cv, pr.d1.bv, (.bool (pr.d1.off)), (.int .i64 (pr.fz)), (.bool (pr.dn))]) A29 rfl hB2.atAll rfl ?_)
     refine L_op rfl (X_move (v := (.int .i64 (er))) rfl ?_)
     refine L_op0 (X_storeW (b := b2) (ys := [pr.d0.pv, pr.d0.cv, pr.d0.bv, (.bool (pr.d0.off)), pr.d1.pv, pr.d1.cv, pr.d1.bv, (.bool (pr.d1.off)), (.int .i64 (pr.fz)), (.bool (pr.dn))]) A29 rfl rfl (List.forall_mem_cons.2 ⟨(hr0.1.sv.one), (List.forall_mem_cons.2 ⟨(hr0.2.1.sv.one), (List.forall_mem_cons.2 ⟨(hr0.2.2.sv.one), (List.forall_mem_cons.2 ⟨rfl, (List.forall_mem_cons.2 ⟨(hr1.1.sv.one), (List.forall_mem_cons.2 ⟨(hr1.2.1.sv.one), (List.forall_mem_cons.2 ⟨(hr1.2.2.sv.one), (List.forall_mem_cons.2 ⟨rfl, (List.forall_mem_cons.2 ⟨rfl, (List.forall_mem_cons.2 ⟨rfl, (fun _ h => by cases h)⟩)⟩)⟩)⟩)⟩)⟩)⟩)⟩)⟩)⟩) rfl hB2 rfl ?_)
     intro w19 hu19 hb19
     have hz19 := hu19.size
     replace h0 := h0.upd hu19 fun i h1 h2 h => by have h : i = b2 := h; omega
     replace h1 := h1.upd hu19 fun i h1 h2 h => by have h : i = b2 := h; omega
     replace hU := hU.trans (hu19.mono fun i _ h => by have h : i = b2 := h; show n0 ≤ i; omega)
     replace hB1 := hB1.upd hu19 fun h => by have h : b1 = b2 := h; omega
     replace hq0 := hq0.upd hu19 fun i h1 h2 h => by have h : i = b2 := h; omega
     replace hq1 := hq1.upd hu19 fun i h1 h2 h => by have h : i = b2 := h; omega
     replace hr0 := hr0.upd hu19 fun i h1 h2 h => by have h : i = b2 := h; omega
     replace hr1 := hr1.upd hu19 fun i h1 h2 h => by have h : i = b2 := h; omega
     replace hB2 : Blk w19 b2 #[pr.d0.pv, pr.d0.cv, pr.d0.bv, (.bool (pr.d0.off)), pr.d1.pv, pr.d1.cv, pr.d1.bv, (.bool (pr.d1.off)), (.int .i64 (pr.fz)), (.bool (pr.dn))] 29 := hb19
     refine L_op rfl (X_assign (v := (.int .i64 (er))) rfl ?_)
     refine L_nil ?_
     refine T_n ?_
     refine W_ret ?_
     have hS_ : flushS p.da = doesD p.da 0 flD := flush_S ⟨hc5, hs6⟩
     have hS2_ : (flushS p.da).2 = eq := by rw [hS_]; exact heq.symm
     have hD_ : flushD p.da = doesD pq.da 1 flD := (flush_D ⟨by rw [hS2_]; exact hc14, hs15⟩).trans (by rw [hS_]; rw [← hdaq])
     have he_ : er = (flushD p.da).2 := by rw [hD_]; exact her
     have hd_ : pr.da = (flushD p.da).1 := by rw [hD_]; exact hdar
     exact BQ_r (End_2 Try.results11 (RV_A A29 rfl hB2.atAll rfl) (v2 := .int .i64 (er)) rfl ⟨pr, l0r, u0r, l1r, u1r, by rw [← he_], hr0, hr1, by omega, by omega, hd_, hU.own hn0⟩)
   ·refine L_op rfl (X_cmp (k := .i64) (a := (eq)) (b := 0) (r := false) rfl rfl rfl (decide_eq_false (p := (eq : Int) = 0) hc14) ?_)
    refine L_op rfl (X_move (v := (.bool (false))) rfl ?_)
    refine L_gn (dj := 13) (t := false) rfl rfl rfl rfl ?_
    refine L_gn (dj := 13) (t := false) rfl rfl rfl rfl ?_
    refine L_gn (dj := 13) (t := false) rfl rfl rfl rfl ?_
    refine L_gn (dj := 13) (t := false) rfl rfl rfl rfl ?_
    refine L_gn (dj := 13) (t := false) rfl rfl rfl rfl ?_
    refine L_gn (dj := 13) (t := false) rfl rfl rfl rfl ?_
    refine L_op rfl (X_pick (t := false) (v := (.bool (false))) rfl rfl ?_)
    refine L_nil ?_
    refine T_n ?_
    refine W_cf rfl ?_
    refine W_skip ?_
    refine B_n ?_
    refine T_n ?_
    refine W_reg ?_
    refine L_op rfl (X_arith (k := .i64) (a := 1) (b := 1) (r := 2) rfl rfl rfl rfl ?_)
    refine L_op rfl (X_move (v := (.int .i64 (2))) rfl ?_)
    refine L_nil ?_
    refine T_n ?_
    refine Rounds_s (m := 0) ?_
    refine W_seq ?_
    refine W_reg ?_
    refine L_op rfl (X_cmp (k := .i64) (a := 2) (b := 2) (r := false) rfl rfl rfl rfl ?_)
    refine L_nil ?_
    refine T_n ?_
    refine W_seq ?_
    refine W_cf rfl ?_
    refine W_exit ?_
    refine T_e ?_
    refine T_e ?_
    refine B_x ?_
    refine T_n ?_
    refine W_seq ?_
    refine W_reg ?_
    refine L_op rfl (X_loadA (p := (ptr b2 (0))) (xs := [pq.d0.pv, pq.d0.cv, pq.d0.bv, (.bool (pq.d0.off)), pq.d1.pv, pq.d1.cv, pq.d1.bv, (.bool (pq.d1.off)), (.int .i64 (pq.fz)), (.bool (pq.dn))]) A29 rfl hB2.atAll rfl ?_)
    refine L_op rfl (X_move (v := (.int .i64 (eq))) rfl ?_)
    refine L_op0 (X_storeW (b := b2) (ys := [pq.d0.pv, pq.d0.cv, pq.d0.bv, (.bool (pq.d0.off)), pq.d1.pv, pq.d1.cv, pq.d1.bv, (.bool (pq.d1.off)), (.int .i64 (pq.fz)), (.bool (pq.dn))]) A29 rfl rfl (List.forall_mem_cons.2 ⟨(hq0.1.sv.one), (List.forall_mem_cons.2 ⟨(hq0.2.1.sv.one), (List.forall_mem_cons.2 ⟨(hq0.2.2.sv.one), (List.forall_mem_cons.2 ⟨rfl, (List.forall_mem_cons.2 ⟨(hq1.1.sv.one), (List.forall_mem_cons.2 ⟨(hq1.2.1.sv.one), (List.forall_mem_cons.2 ⟨(hq1.2.2.sv.one), (List.forall_mem_cons.2 ⟨rfl, (List.forall_mem_cons.2 ⟨rfl, (List.forall_mem_cons.2 ⟨rfl, (fun _ h => by cases h)⟩)⟩)⟩)⟩)⟩)⟩)⟩)⟩)⟩)⟩) rfl hB2 rfl ?_)
    intro w20 hu20 hb20
    have hz20 := hu20.size
    replace h0 := h0.upd hu20 fun i h1 h2 h => by have h : i = b2 := h; omega
    replace h1 := h1.upd hu20 fun i h1 h2 h => by have h : i = b2 := h; omega
    replace hU := hU.trans (hu20.mono fun i _ h => by have h : i = b2 := h; show n0 ≤ i; omega)
    replace hB1 := hB1.upd hu20 fun h => by have h : b1 = b2 := h; omega
    replace hq0 := hq0.upd hu20 fun i h1 h2 h => by have h : i = b2 := h; omega
    replace hq1 := hq1.upd hu20 fun i h1 h2 h => by have h : i = b2 := h; omega
    replace hB2 : Blk w20 b2 #[pq.d0.pv, pq.d0.cv, pq.d0.bv, (.bool (pq.d0.off)), pq.d1.pv, pq.d1.cv, pq.d1.bv, (.bool (pq.d1.off)), (.int .i64 (pq.fz)), (.bool (pq.dn))] 29 := hb20
    refine L_op rfl (X_assign (v := (.int .i64 (eq))) rfl ?_)
    refine L_nil ?_
    refine T_n ?_
    refine W_ret ?_
    have hS_ : flushS p.da = doesD p.da 0 flD := flush_S ⟨hc5, hs6⟩
    have hS2_ : (flushS p.da).2 = eq := by rw [hS_]; exact heq.symm
    have hD_ : flushD p.da = flushS p.da := flush_Dn (fun h_ => hc14 (by rw [← hS2_]; exact h_.1))
    rw [hS_] at hD_
    have he_ : eq = (flushD p.da).2 := by rw [hD_]; exact heq
    have hd_ : pq.da = (flushD p.da).1 := by rw [hD_]; exact hdaq
    exact BQ_r (End_2 Try.results11 (RV_A A29 rfl hB2.atAll rfl) (v2 := .int .i64 (eq)) rfl ⟨pq, l0q, u0q, l1q, u1q, by rw [← he_], hq0, hq1, by omega, by omega, hd_, hU.own hn0⟩)
 ·refine L_op rfl (X_cmp (k := .i64) (a := (readyD p.da)) (b := 0) (r := false) rfl rfl rfl (decide_eq_false (p := (readyD p.da : Int) = 0) hc5) ?_)
  refine L_op rfl (X_move (v := (.bool (false))) rfl ?_)
  refine L_gn (dj := 13) (t := false) rfl rfl rfl rfl ?_
  refine L_gn (dj := 13) (t := false) rfl rfl rfl rfl ?_
  refine L_gn (dj := 13) (t := false) rfl rfl rfl rfl ?_
  refine L_gn (dj := 13) (t := false) rfl rfl rfl rfl ?_
  refine L_gn (dj := 13) (t := false) rfl rfl rfl rfl ?_
  refine L_gn (dj := 13) (t := false) rfl rfl rfl rfl ?_
  refine L_op rfl (X_pick (t := false) (v := (.bool (false))) rfl rfl ?_)
  refine L_nil ?_
  refine T_n ?_
  refine W_cf rfl ?_
  refine W_skip ?_
  refine B_n ?_
  refine T_n ?_
  refine W_reg ?_
  refine L_op rfl (X_arith (k := .i64) (a := 0) (b := 1) (r := 1) rfl rfl rfl rfl ?_)
  refine L_op rfl (X_move (v := (.int .i64 (1))) rfl ?_)
  refine L_nil ?_
  refine T_n ?_
  refine Rounds_s (m := 1) ?_
  refine W_seq ?_
  refine W_reg ?_
  refine L_op rfl (X_cmp (k := .i64) (a := 1) (b := 2) (r := true) rfl rfl rfl rfl ?_)
  refine L_nil ?_
  refine T_n ?_
  refine W_seq ?_
  refine W_ct rfl ?_
  refine W_skip ?_
  refine T_n ?_
  refine W_seq ?_
  refine W_block ?_
  refine W_seq ?_
  refine W_reg ?_
  refine L_op rfl (X_move (v := (.int .i64 (1))) rfl ?_)
  refine L_op rfl (X_assign (v := (.int .i64 (1))) rfl ?_)
  refine L_nil ?_
  refine T_n ?_
  refine W_seq ?_
  refine W_reg ?_
  refine L_op rfl (X_move (v := (.int .i64 (readyD p.da))) rfl ?_)
  refine L_op rfl (X_cmp (k := .i64) (a := (readyD p.da)) (b := 0) (r := false) rfl rfl rfl (decide_eq_false (p := (readyD p.da : Int) = 0) hc5) ?_)
  refine L_op rfl (X_move (v := (.bool (false))) rfl ?_)
  refine L_gn (dj := 13) (t := false) rfl rfl rfl rfl ?_
  refine L_gn (dj := 13) (t := false) rfl rfl rfl rfl ?_
  refine L_gn (dj := 13) (t := false) rfl rfl rfl rfl ?_
  refine L_gn (dj := 13) (t := false) rfl rfl rfl rfl ?_
  refine L_gn (dj := 13) (t := false) rfl rfl rfl rfl ?_
  refine L_gn (dj := 13) (t := false) rfl rfl rfl rfl ?_
  refine L_op rfl (X_pick (t := false) (v := (.bool (false))) rfl rfl ?_)
  refine L_nil ?_
  refine T_n ?_
  refine W_cf rfl ?_
  refine W_skip ?_
  refine B_n ?_
  refine T_n ?_
  refine W_reg ?_
  refine L_op rfl (X_arith (k := .i64) (a := 1) (b := 1) (r := 2) rfl rfl rfl rfl ?_)
  refine L_op rfl (X_move (v := (.int .i64 (2))) rfl ?_)
  refine L_nil ?_
  refine T_n ?_
  refine Rounds_s (m := 0) ?_
  refine W_seq ?_
  refine W_reg ?_
  refine L_op rfl (X_cmp (k := .i64) (a := 2) (b := 2) (r := false) rfl rfl rfl rfl ?_)
  refine L_nil ?_
  refine T_n ?_
  refine W_seq ?_
  refine W_cf rfl ?_
  refine W_exit ?_
  refine T_e ?_
  refine T_e ?_
  refine B_x ?_
  refine T_n ?_
  refine W_seq ?_
  refine W_reg ?_
  refine L_op rfl (X_loadA (p := (ptr b2 (0))) (xs := [p.d0.pv, p.d0.cv, p.d0.bv, (.bool (p.d0.off)), p.d1.pv, p.d1.cv, p.d1.bv, (.bool (p.d1.off)), (.int .i64 (p.fz)), (.bool (p.dn))]) A29 rfl hB2.atAll rfl ?_)
  refine L_op rfl (X_move (v := (.int .i64 (readyD p.da))) rfl ?_)
  refine L_op0 (X_storeW (b := b2) (ys := [p.d0.pv, p.d0.cv, p.d0.bv, (.bool (p.d0.off)), p.d1.pv, p.d1.cv, p.d1.bv, (.bool (p.d1.off)), (.int .i64 (p.fz)), (.bool (p.dn))]) A29 rfl rfl (List.forall_mem_cons.2 ⟨(h0.1.sv.one), (List.forall_mem_cons.2 ⟨(h0.2.1.sv.one), (List.forall_mem_cons.2 ⟨(h0.2.2.sv.one), (List.forall_mem_cons.2 ⟨rfl, (List.forall_mem_cons.2 ⟨(h1.1.sv.one), (List.forall_mem_cons.2 ⟨(h1.2.1.sv.one), (List.forall_mem_cons.2 ⟨(h1.2.2.sv.one), (List.forall_mem_cons.2 ⟨rfl, (List.forall_mem_cons.2 ⟨rfl, (List.forall_mem_cons.2 ⟨rfl, (fun _ h => by cases h)⟩)⟩)⟩)⟩)⟩)⟩)⟩)⟩)⟩)⟩) rfl hB2 rfl ?_)
  intro w21 hu21 hb21
  have hz21 := hu21.size
  replace h0 := h0.upd hu21 fun i h1 h2 h => by have h : i = b2 := h; omega
  replace h1 := h1.upd hu21 fun i h1 h2 h => by have h : i = b2 := h; omega
  replace hU := hU.trans (hu21.mono fun i _ h => by have h : i = b2 := h; show n0 ≤ i; omega)
  replace hB1 := hB1.upd hu21 fun h => by have h : b1 = b2 := h; omega
  replace hB2 : Blk w21 b2 #[p.d0.pv, p.d0.cv, p.d0.bv, (.bool (p.d0.off)), p.d1.pv, p.d1.cv, p.d1.bv, (.bool (p.d1.off)), (.int .i64 (p.fz)), (.bool (p.dn))] 29 := hb21
  refine L_op rfl (X_assign (v := (.int .i64 (readyD p.da))) rfl ?_)
  refine L_nil ?_
  refine T_n ?_
  refine W_ret ?_
  have hS_ : flushS p.da = (p.da, readyD p.da) := flush_Sn (fun h_ => hc5 h_.1)
  have hS2_ : (flushS p.da).2 = readyD p.da := by rw [hS_]
  have hD_ : flushD p.da = flushS p.da := flush_Dn (fun h_ => hc5 (by rw [← hS2_]; exact h_.1))
  rw [hS_] at hD_
  have he_ : readyD p.da = (flushD p.da).2 := by rw [hD_]
  have hd_ : p.da = (flushD p.da).1 := by rw [hD_]
  exact BQ_r (End_2 Try.results11 (RV_A A29 rfl hB2.atAll rfl) (v2 := .int .i64 (readyD p.da)) rfl ⟨p, lo0, up0, lo1, up1, by rw [← he_], h0, h1, .inl ⟨rfl, rfl⟩, .inl ⟨rfl, rfl⟩, hd_, hU.own hn0⟩)
end Go.Proofs.Ytcjfkkoapncnhaa
