/-
 The contracts of chapter 10: writing to a disk, which are attached. (Printed by wip/gen/t10e.py of this repo.)
-/
import Derived.Test.YtcjfkkoapncnhaaMiD
import Derived.Test.YtcjfkkoapncnhaaBaseUN
namespace Go.Proofs.Ytcjfkkoapncnhaa
open Go Go.SL Go.Proofs
set_option linter.unusedVariables false

theorem c_putA0 (p : Pr) (n : Int) (pg : Pg) (w : World) (hfz : p.fz ≤ 1000000) (lo0 up0 lo1 up1 : Nat) (hup0 : up0 ≤ w.heap.size) (hup1 : up1 ≤ w.heap.size) (h0 : p.d0.Rd w lo0 up0) (h1 : p.d1.Rd w lo1 up1) (hz0 : Sz p.d0.da 1048576) : CT Try.prog 21 #[(.agg #[p.d0.pv, p.d0.cv, p.d0.bv, (.bool (p.d0.off)), p.d1.pv, p.d1.cv, p.d1.bv, (.bool (p.d1.off)), (.int .i64 (p.fz)), (.bool (p.dn))]), (.int .i64 (0)), (.int .i64 (n)), (pageV pg)] w fun v w' => ∃ (p2 : Pr) (l0 u0 l1 u1 : Nat), v = .tuple #[.agg #[p2.d0.pv, p2.d0.cv, p2.d0.bv, .bool p2.d0.off, p2.d1.pv, p2.d1.cv, p2.d1.bv, .bool p2.d1.off, .int .i64 p2.fz, .bool p2.dn], .int .i64 (putD p.da 0 n pg).2] ∧ p2.d0.Rd w' l0 u0 ∧ p2.d1.Rd w' l1 u1 ∧ (l0 = lo0 ∧ u0 = up0 ∨ w.heap.size ≤ l0 ∧ u0 ≤ w'.heap.size) ∧ (l1 = lo1 ∧ u1 = up1 ∨ w.heap.size ≤ l1 ∧ u1 ≤ w'.heap.size) ∧ (l0 = lo0 ∧ u0 = up0 ∨ p2.d0.Ow w' l0 u0) ∧ (l1 = lo1 ∧ u1 = up1 ∨ p2.d1.Ow w' l1 u1) ∧ p2.da = (putD p.da 0 n pg).1 ∧ Ext w w' := by
 obtain ⟨n0, hn0⟩ : ∃ n, n = w.heap.size := ⟨_, rfl⟩
 have hU : Upd (fun i => n0 ≤ i) w w := Upd.refl _ _
 rw [← hn0] at hup0 hup1
 refine CT_of Try.func21 rfl rfl rfl ?_
 refine W_seq ?_
 refine W_reg ?_
 refine L_op rfl (X_box (v := (.agg #[p.d0.pv, p.d0.cv, p.d0.bv, (.bool (p.d0.off)), p.d1.pv, p.d1.cv, p.d1.bv, (.bool (p.d1.off)), (.int .i64 (p.fz)), (.bool (p.dn))])) (c := ([p.d0.pv, p.d0.cv, p.d0.bv, (.bool (p.d0.off)), p.d1.pv, p.d1.cv, p.d1.bv, (.bool (p.d1.off)), (.int .i64 (p.fz)), (.bool (p.dn))]).toArray) rfl rfl ?_)
 intro b1 w1 hn1
 have hbn1 := hn1.num; have hbs1 := hn1.size
 replace h0 := h0.ext hn1.ext
 replace h1 := h1.ext hn1.ext
 replace hU := hU.trans (Ext.upd hn1.ext)
 have hB1 := hn1.blk
 refine L_op rfl (X_box (v := (.int .i64 (n))) (c := #[(.int .i64 (n))]) rfl rfl ?_)
 intro b2 w2 hn2
 have hbn2 := hn2.num; have hbs2 := hn2.size
 replace h0 := h0.ext hn2.ext
 replace h1 := h1.ext hn2.ext
 replace hU := hU.trans (Ext.upd hn2.ext)
 replace hB1 := hB1.ext hn2.ext
 have hB2 := hn2.blk
 refine L_op rfl (X_box (v := (pageV pg)) (c := ((pg.1).map byteV).toArray) rfl rfl ?_)
 intro b3 w3 hn3
 have hbn3 := hn3.num; have hbs3 := hn3.size
 replace h0 := h0.ext hn3.ext
 replace h1 := h1.ext hn3.ext
 replace hU := hU.trans (Ext.upd hn3.ext)
 replace hB1 := hB1.ext hn3.ext
 replace hB2 := hB2.ext hn3.ext
 have hB3 := hn3.blk
 refine L_op rfl (X_alloc (z := (.agg #[(.slice none 0 0), (.slice none 0 0), (.slice none 0 0), (.bool (false)), (.slice none 0 0), (.slice none 0 0), (.slice none 0 0), (.bool (false)), (.int .i64 (0)), (.bool (false))])) (c := #[(.slice none 0 0), (.slice none 0 0), (.slice none 0 0), (.bool (false)), (.slice none 0 0), (.slice none 0 0), (.slice none 0 0), (.bool (false)), (.int .i64 (0)), (.bool (false))]) Zv29 rfl ?_)
 intro b4 w4 hn4
 have hbn4 := hn4.num; have hbs4 := hn4.size
 replace h0 := h0.ext hn4.ext
 replace h1 := h1.ext hn4.ext
 replace hU := hU.trans (Ext.upd hn4.ext)
 replace hB1 := hB1.ext hn4.ext
 replace hB2 := hB2.ext hn4.ext
 replace hB3 := hB3.ext hn4.ext
 have hB4 := hn4.blk
 refine L_op rfl (X_assign (v := (.int .i64 (0))) rfl ?_)
 refine L_nil ?_
 refine T_n ?_
 refine W_seq ?_
 refine W_seq ?_
 refine W_reg ?_
 refine L_op rfl (X_move (v := (.int .i64 (0))) rfl ?_)
 refine L_op rfl (X_cmp (k := .i64) (a := 0) (b := 0) (r := false) rfl rfl rfl rfl ?_)
 refine L_op rfl (X_move (v := (.bool (false))) rfl ?_)
 refine L_gy (dj := 12) rfl rfl rfl (X_move (v := (.int .i64 (0))) rfl ?_)
 refine L_gy (dj := 12) rfl rfl rfl (X_cmp (k := .i64) (a := 0) (b := 1) (r := false) rfl rfl rfl rfl ?_)
 refine L_op rfl (X_pick (t := false) (v := (.bool (false))) rfl rfl ?_)
 refine L_nil ?_
 refine T_n ?_
 refine W_cf rfl ?_
 refine W_skip ?_
 refine T_n ?_
 refine W_seq ?_
 refine W_reg ?_
 refine L_op rfl (X_loadA (p := (ptr b1 (0))) (xs := [p.d0.pv, p.d0.cv, p.d0.bv, (.bool (p.d0.off)), p.d1.pv, p.d1.cv, p.d1.bv, (.bool (p.d1.off)), (.int .i64 (p.fz)), (.bool (p.dn))]) A29 rfl hB1.atAll rfl ?_)
 refine L_op rfl (X_move (v := (.int .i64 (0))) rfl ?_)
 refine L_op rfl (X_makeFunc (vs := [(ptr b2 (0)), (ptr b3 (0))]) rfl ?_)
 obtain ⟨sq, hsq⟩ : ∃ n, n = w4.heap.size := ⟨_, rfl⟩
 have hcr_ := c_does0 p (fun d => wrD d n pg) 33 [(ptr b2 (0)), (ptr b3 (0))] en33 w4 hfz lo0 up0 lo1 up1 (by omega) (by omega) h0 h1 (fun W2 hx_ => c_put1 p.d0 n pg b2 b3 W2 lo0 up0 (by have := hx_.size; omega) (h0.ext hx_) hz0 (hB2.ext hx_) (hB3.ext hx_))
 refine L_op rfl (X_fn (vs := [(.agg ([p.d0.pv, p.d0.cv, p.d0.bv, (.bool (p.d0.off)), p.d1.pv, p.d1.cv, p.d1.bv, (.bool (p.d1.off)), (.int .i64 (p.fz)), (.bool (p.dn))]).toArray), (.int .i64 (0)), (.func (.func 33) #[] #[(ptr b2 (0)), (ptr b3 (0))])]) en28 rfl ?_)
 refine CT.mono hcr_ ?_
 clear hcr_
 rintro _ w5 ⟨pq, l0q, u0q, l1q, u1q, rfl, hq0, hq1, hiq0, hiq1, hOq0, hOq1, hdaq, hu5⟩
 have hz5 := hu5.size
 obtain ⟨eq, heq⟩ : ∃ z, z = (doesD p.da 0 (fun d => wrD d n pg)).2 := ⟨_, rfl⟩
 rw [← heq]
 obtain ⟨uq, huq⟩ : ∃ n, n = w5.heap.size := ⟨_, rfl⟩
 rw [← hsq, ← huq] at hiq0 hiq1
 replace h0 := h0.ext hu5
 replace h1 := h1.ext hu5
 replace hU := hU.trans (Ext.upd hu5)
 replace hB1 := hB1.ext hu5
 replace hB2 := hB2.ext hu5
 replace hB3 := hB3.ext hu5
 replace hB4 := hB4.ext hu5
 refine L_op rfl (X_extract (l := [(.agg #[pq.d0.pv, pq.d0.cv, pq.d0.bv, (.bool (pq.d0.off)), pq.d1.pv, pq.d1.cv, pq.d1.bv, (.bool (pq.d1.off)), (.int .i64 (pq.fz)), (.bool (pq.dn))]), (.int .i64 (eq))]) (v := (.agg #[pq.d0.pv, pq.d0.cv, pq.d0.bv, (.bool (pq.d0.off)), pq.d1.pv, pq.d1.cv, pq.d1.bv, (.bool (pq.d1.off)), (.int .i64 (pq.fz)), (.bool (pq.dn))])) rfl rfl ?_)
 refine L_op rfl (X_extract (l := [(.agg #[pq.d0.pv, pq.d0.cv, pq.d0.bv, (.bool (pq.d0.off)), pq.d1.pv, pq.d1.cv, pq.d1.bv, (.bool (pq.d1.off)), (.int .i64 (pq.fz)), (.bool (pq.dn))]), (.int .i64 (eq))]) (v := (.int .i64 (eq))) rfl rfl ?_)
 refine L_op0 (X_storeW (b := b4) (ys := [pq.d0.pv, pq.d0.cv, pq.d0.bv, (.bool (pq.d0.off)), pq.d1.pv, pq.d1.cv, pq.d1.bv, (.bool (pq.d1.off)), (.int .i64 (pq.fz)), (.bool (pq.dn))]) A29 rfl rfl (List.forall_mem_cons.2 ⟨(hq0.1.sv.one), (List.forall_mem_cons.2 ⟨(hq0.2.1.sv.one), (List.forall_mem_cons.2 ⟨(hq0.2.2.sv.one), (List.forall_mem_cons.2 ⟨rfl, (List.forall_mem_cons.2 ⟨(hq1.1.sv.one), (List.forall_mem_cons.2 ⟨(hq1.2.1.sv.one), (List.forall_mem_cons.2 ⟨(hq1.2.2.sv.one), (List.forall_mem_cons.2 ⟨rfl, (List.forall_mem_cons.2 ⟨rfl, (List.forall_mem_cons.2 ⟨rfl, (fun _ h => by cases h)⟩)⟩)⟩)⟩)⟩)⟩)⟩)⟩)⟩)⟩) rfl hB4 rfl ?_)
 intro w6 hu6 hb6
 have hz6 := hu6.size
 replace h0 := h0.upd hu6 fun i h1 h2 h => by have h : i = b4 := h; omega
 replace h1 := h1.upd hu6 fun i h1 h2 h => by have h : i = b4 := h; omega
 replace hU := hU.trans (hu6.mono fun i _ h => by have h : i = b4 := h; show n0 ≤ i; omega)
 replace hB1 := hB1.upd hu6 fun h => by have h : b1 = b4 := h; omega
 replace hB2 := hB2.upd hu6 fun h => by have h : b2 = b4 := h; omega
 replace hB3 := hB3.upd hu6 fun h => by have h : b3 = b4 := h; omega
 replace hq0 := hq0.upd hu6 fun i h1 h2 h => by have h : i = b4 := h; omega
 replace hq1 := hq1.upd hu6 fun i h1 h2 h => by have h : i = b4 := h; omega
 replace hOq0 := hOq0.imp id fun h_ => h_.upd hu6 fun i h1 h2 h => by have h : i = b4 := h; omega
 replace hOq1 := hOq1.imp id fun h_ => h_.upd hu6 fun i h1 h2 h => by have h : i = b4 := h; omega
 replace hB4 : Blk w6 b4 #[pq.d0.pv, pq.d0.cv, pq.d0.bv, (.bool (pq.d0.off)), pq.d1.pv, pq.d1.cv, pq.d1.bv, (.bool (pq.d1.off)), (.int .i64 (pq.fz)), (.bool (pq.dn))] 29 := hb6
 refine L_op rfl (X_assign (v := (.int .i64 (eq))) rfl ?_)
 refine L_nil ?_
 refine T_n ?_
 refine W_ret ?_
 exact BQ_r (End_2 Try.results21 (RV_A A29 rfl hB4.atAll rfl) (v2 := .int .i64 eq) rfl ⟨pq, l0q, u0q, l1q, u1q, by rw [heq] <;> rfl, hq0, hq1, by omega, by omega, hOq0, hOq1, hdaq, hU.own hn0⟩)

theorem c_putA1 (p : Pr) (n : Int) (pg : Pg) (w : World) (hfz : p.fz ≤ 1000000) (lo0 up0 lo1 up1 : Nat) (hup0 : up0 ≤ w.heap.size) (hup1 : up1 ≤ w.heap.size) (h0 : p.d0.Rd w lo0 up0) (h1 : p.d1.Rd w lo1 up1) (hz1 : Sz p.d1.da 1048576) : CT Try.prog 21 #[(.agg #[p.d0.pv, p.d0.cv, p.d0.bv, (.bool (p.d0.off)), p.d1.pv, p.d1.cv, p.d1.bv, (.bool (p.d1.off)), (.int .i64 (p.fz)), (.bool (p.dn))]), (.int .i64 (1)), (.int .i64 (n)), (pageV pg)] w fun v w' => ∃ (p2 : Pr) (l0 u0 l1 u1 : Nat), v = .tuple #[.agg #[p2.d0.pv, p2.d0.cv, p2.d0.bv, .bool p2.d0.off, p2.d1.pv, p2.d1.cv, p2.d1.bv, .bool p2.d1.off, .int .i64 p2.fz, .bool p2.dn], .int .i64 (putD p.da 1 n pg).2] ∧ p2.d0.Rd w' l0 u0 ∧ p2.d1.Rd w' l1 u1 ∧ (l0 = lo0 ∧ u0 = up0 ∨ w.heap.size ≤ l0 ∧ u0 ≤ w'.heap.size) ∧ (l1 = lo1 ∧ u1 = up1 ∨ w.heap.size ≤ l1 ∧ u1 ≤ w'.heap.size) ∧ (l0 = lo0 ∧ u0 = up0 ∨ p2.d0.Ow w' l0 u0) ∧ (l1 = lo1 ∧ u1 = up1 ∨ p2.d1.Ow w' l1 u1) ∧ p2.da = (putD p.da 1 n pg).1 ∧ Ext w w' := by
 obtain ⟨n0, hn0⟩ : ∃ n, n = w.heap.size := ⟨_, rfl⟩
 have hU : Upd (fun i => n0 ≤ i) w w := Upd.refl _ _
 rw [← hn0] at hup0 hup1
 refine CT_of Try.func21 rfl rfl rfl ?_
 refine W_seq ?_
 refine W_reg ?_
 refine L_op rfl (X_box (v := (.agg #[p.d0.pv, p.d0.cv, p.d0.bv, (.bool (p.d0.off)), p.d1.pv, p.d1.cv, p.d1.bv, (.bool (p.d1.off)), (.int .i64 (p.fz)), (.bool (p.dn))])) (c := ([p.d0.pv, p.d0.cv, p.d0.bv, (.bool (p.d0.off)), p.d1.pv, p.d1.cv, p.d1.bv, (.bool (p.d1.off)), (.int .i64 (p.fz)), (.bool (p.dn))]).toArray) rfl rfl ?_)
 intro b1 w1 hn1
 have hbn1 := hn1.num; have hbs1 := hn1.size
 replace h0 := h0.ext hn1.ext
 replace h1 := h1.ext hn1.ext
 replace hU := hU.trans (Ext.upd hn1.ext)
 have hB1 := hn1.blk
 refine L_op rfl (X_box (v := (.int .i64 (n))) (c := #[(.int .i64 (n))]) rfl rfl ?_)
 intro b2 w2 hn2
 have hbn2 := hn2.num; have hbs2 := hn2.size
 replace h0 := h0.ext hn2.ext
 replace h1 := h1.ext hn2.ext
 replace hU := hU.trans (Ext.upd hn2.ext)
 replace hB1 := hB1.ext hn2.ext
 have hB2 := hn2.blk
 refine L_op rfl (X_box (v := (pageV pg)) (c := ((pg.1).map byteV).toArray) rfl rfl ?_)
 intro b3 w3 hn3
 have hbn3 := hn3.num; have hbs3 := hn3.size
 replace h0 := h0.ext hn3.ext
 replace h1 := h1.ext hn3.ext
 replace hU := hU.trans (Ext.upd hn3.ext)
 replace hB1 := hB1.ext hn3.ext
 replace hB2 := hB2.ext hn3.ext
 have hB3 := hn3.blk
 refine L_op rfl (X_alloc (z := (.agg #[(.slice none 0 0), (.slice none 0 0), (.slice none 0 0), (.bool (false)), (.slice none 0 0), (.slice none 0 0), (.slice none 0 0), (.bool (false)), (.int .i64 (0)), (.bool (false))])) (c := #[(.slice none 0 0), (.slice none 0 0), (.slice none 0 0), (.bool (false)), (.slice none 0 0), (.slice none 0 0), (.slice none 0 0), (.bool (false)), (.int .i64 (0)), (.bool (false))]) Zv29 rfl ?_)
 intro b4 w4 hn4
 have hbn4 := hn4.num; have hbs4 := hn4.size
 replace h0 := h0.ext hn4.ext
 replace h1 := h1.ext hn4.ext
 replace hU := hU.trans (Ext.upd hn4.ext)
 replace hB1 := hB1.ext hn4.ext
 replace hB2 := hB2.ext hn4.ext
 replace hB3 := hB3.ext hn4.ext
 have hB4 := hn4.blk
 refine L_op rfl (X_assign (v := (.int .i64 (0))) rfl ?_)
 refine L_nil ?_
 refine T_n ?_
 refine W_seq ?_
 refine W_seq ?_
 refine W_reg ?_
 refine L_op rfl (X_move (v := (.int .i64 (1))) rfl ?_)
 refine L_op rfl (X_cmp (k := .i64) (a := 1) (b := 0) (r := false) rfl rfl rfl rfl ?_)
 refine L_op rfl (X_move (v := (.bool (false))) rfl ?_)
 refine L_gy (dj := 12) rfl rfl rfl (X_move (v := (.int .i64 (1))) rfl ?_)
 refine L_gy (dj := 12) rfl rfl rfl (X_cmp (k := .i64) (a := 1) (b := 1) (r := false) rfl rfl rfl rfl ?_)
 refine L_op rfl (X_pick (t := false) (v := (.bool (false))) rfl rfl ?_)
 refine L_nil ?_
 refine T_n ?_
 refine W_cf rfl ?_
 refine W_skip ?_
 refine T_n ?_
 refine W_seq ?_
 refine W_reg ?_
 refine L_op rfl (X_loadA (p := (ptr b1 (0))) (xs := [p.d0.pv, p.d0.cv, p.d0.bv, (.bool (p.d0.off)), p.d1.pv, p.d1.cv, p.d1.bv, (.bool (p.d1.off)), (.int .i64 (p.fz)), (.bool (p.dn))]) A29 rfl hB1.atAll rfl ?_)
 refine L_op rfl (X_move (v := (.int .i64 (1))) rfl ?_)
 refine L_op rfl (X_makeFunc (vs := [(ptr b2 (0)), (ptr b3 (0))]) rfl ?_)
 obtain ⟨sq, hsq⟩ : ∃ n, n = w4.heap.size := ⟨_, rfl⟩
 have hcr_ := c_does1 p (fun d => wrD d n pg) 33 [(ptr b2 (0)), (ptr b3 (0))] en33 w4 hfz lo0 up0 lo1 up1 (by omega) (by omega) h0 h1 (fun W2 hx_ => c_put1 p.d1 n pg b2 b3 W2 lo1 up1 (by have := hx_.size; omega) (h1.ext hx_) hz1 (hB2.ext hx_) (hB3.ext hx_))
 refine L_op rfl (X_fn (vs := [(.agg ([p.d0.pv, p.d0.cv, p.d0.bv, (.bool (p.d0.off)), p.d1.pv, p.d1.cv, p.d1.bv, (.bool (p.d1.off)), (.int .i64 (p.fz)), (.bool (p.dn))]).toArray), (.int .i64 (1)), (.func (.func 33) #[] #[(ptr b2 (0)), (ptr b3 (0))])]) en28 rfl ?_)
 refine CT.mono hcr_ ?_
 clear hcr_
 rintro _ w5 ⟨pq, l0q, u0q, l1q, u1q, rfl, hq0, hq1, hiq0, hiq1, hOq0, hOq1, hdaq, hu5⟩
 have hz5 := hu5.size
 obtain ⟨eq, heq⟩ : ∃ z, z = (doesD p.da 1 (fun d => wrD d n pg)).2 := ⟨_, rfl⟩
 rw [← heq]
 obtain ⟨uq, huq⟩ : ∃ n, n = w5.heap.size := ⟨_, rfl⟩
 rw [← hsq, ← huq] at hiq0 hiq1
 replace h0 := h0.ext hu5
 replace h1 := h1.ext hu5
 replace hU := hU.trans (Ext.upd hu5)
 replace hB1 := hB1.ext hu5
 replace hB2 := hB2.ext hu5
 replace hB3 := hB3.ext hu5
 replace hB4 := hB4.ext hu5
 refine L_op rfl (X_extract (l := [(.agg #[pq.d0.pv, pq.d0.cv, pq.d0.bv, (.bool (pq.d0.off)), pq.d1.pv, pq.d1.cv, pq.d1.bv, (.bool (pq.d1.off)), (.int .i64 (pq.fz)), (.bool (pq.dn))]), (.int .i64 (eq))]) (v := (.agg #[pq.d0.pv, pq.d0.cv, pq.d0.bv, (.bool (pq.d0.off)), pq.d1.pv, pq.d1.cv, pq.d1.bv, (.bool (pq.d1.off)), (.int .i64 (pq.fz)), (.bool (pq.dn))])) rfl rfl ?_)
 refine L_op rfl (X_extract (l := [(.agg #[pq.d0.pv, pq.d0.cv, pq.d0.bv, (.bool (pq.d0.off)), pq.d1.pv, pq.d1.cv, pq.d1.bv, (.bool (pq.d1.off)), (.int .i64 (pq.fz)), (.bool (pq.dn))]), (.int .i64 (eq))]) (v := (.int .i64 (eq))) rfl rfl ?_)
 refine L_op0 (X_storeW (b := b4) (ys := [pq.d0.pv, pq.d0.cv, pq.d0.bv, (.bool (pq.d0.off)), pq.d1.pv, pq.d1.cv, pq.d1.bv, (.bool (pq.d1.off)), (.int .i64 (pq.fz)), (.bool (pq.dn))]) A29 rfl rfl (List.forall_mem_cons.2 ⟨(hq0.1.sv.one), (List.forall_mem_cons.2 ⟨(hq0.2.1.sv.one), (List.forall_mem_cons.2 ⟨(hq0.2.2.sv.one), (List.forall_mem_cons.2 ⟨rfl, (List.forall_mem_cons.2 ⟨(hq1.1.sv.one), (List.forall_mem_cons.2 ⟨(hq1.2.1.sv.one), (List.forall_mem_cons.2 ⟨(hq1.2.2.sv.one), (List.forall_mem_cons.2 ⟨rfl, (List.forall_mem_cons.2 ⟨rfl, (List.forall_mem_cons.2 ⟨rfl, (fun _ h => by cases h)⟩)⟩)⟩)⟩)⟩)⟩)⟩)⟩)⟩)⟩) rfl hB4 rfl ?_)
 intro w6 hu6 hb6
 have hz6 := hu6.size
 replace h0 := h0.upd hu6 fun i h1 h2 h => by have h : i = b4 := h; omega
 replace h1 := h1.upd hu6 fun i h1 h2 h => by have h : i = b4 := h; omega
 replace hU := hU.trans (hu6.mono fun i _ h => by have h : i = b4 := h; show n0 ≤ i; omega)
 replace hB1 := hB1.upd hu6 fun h => by have h : b1 = b4 := h; omega
 replace hB2 := hB2.upd hu6 fun h => by have h : b2 = b4 := h; omega
 replace hB3 := hB3.upd hu6 fun h => by have h : b3 = b4 := h; omega
 replace hq0 := hq0.upd hu6 fun i h1 h2 h => by have h : i = b4 := h; omega
 replace hq1 := hq1.upd hu6 fun i h1 h2 h => by have h : i = b4 := h; omega
 replace hOq0 := hOq0.imp id fun h_ => h_.upd hu6 fun i h1 h2 h => by have h : i = b4 := h; omega
 replace hOq1 := hOq1.imp id fun h_ => h_.upd hu6 fun i h1 h2 h => by have h : i = b4 := h; omega
 replace hB4 : Blk w6 b4 #[pq.d0.pv, pq.d0.cv, pq.d0.bv, (.bool (pq.d0.off)), pq.d1.pv, pq.d1.cv, pq.d1.bv, (.bool (pq.d1.off)), (.int .i64 (pq.fz)), (.bool (pq.dn))] 29 := hb6
 refine L_op rfl (X_assign (v := (.int .i64 (eq))) rfl ?_)
 refine L_nil ?_
 refine T_n ?_
 refine W_ret ?_
 exact BQ_r (End_2 Try.results21 (RV_A A29 rfl hB4.atAll rfl) (v2 := .int .i64 eq) rfl ⟨pq, l0q, u0q, l1q, u1q, by rw [heq] <;> rfl, hq0, hq1, by omega, by omega, hOq0, hOq1, hdaq, hU.own hn0⟩)

theorem c_put2 (p : Pr) (n : Int) (pg : Pg) (w : World) (lo0 up0 lo1 up1 : Nat) (hup0 : up0 ≤ w.heap.size) (hup1 : up1 ≤ w.heap.size) (h0 : p.d0.Rd w lo0 up0) (h1 : p.d1.Rd w lo1 up1) : CT Try.prog 21 #[(.agg #[p.d0.pv, p.d0.cv, p.d0.bv, (.bool (p.d0.off)), p.d1.pv, p.d1.cv, p.d1.bv, (.bool (p.d1.off)), (.int .i64 (p.fz)), (.bool (p.dn))]), (.int .i64 (2)), (.int .i64 (n)), (pageV pg)] w fun v w' => v = .tuple #[.agg #[p.d0.pv, p.d0.cv, p.d0.bv, .bool p.d0.off, p.d1.pv, p.d1.cv, p.d1.bv, .bool p.d1.off, .int .i64 p.fz, .bool p.dn], .int .i64 2] ∧ Ext w w' := by
 obtain ⟨n0, hn0⟩ : ∃ n, n = w.heap.size := ⟨_, rfl⟩
 have hU : Upd (fun i => n0 ≤ i) w w := Upd.refl _ _
 rw [← hn0] at hup0 hup1
 refine CT_of Try.func21 rfl rfl rfl ?_
 refine W_seq ?_
 refine W_reg ?_
 refine L_op rfl (X_box (v := (.agg #[p.d0.pv, p.d0.cv, p.d0.bv, (.bool (p.d0.off)), p.d1.pv, p.d1.cv, p.d1.bv, (.bool (p.d1.off)), (.int .i64 (p.fz)), (.bool (p.dn))])) (c := ([p.d0.pv, p.d0.cv, p.d0.bv, (.bool (p.d0.off)), p.d1.pv, p.d1.cv, p.d1.bv, (.bool (p.d1.off)), (.int .i64 (p.fz)), (.bool (p.dn))]).toArray) rfl rfl ?_)
 intro b1 w1 hn1
 have hbn1 := hn1.num; have hbs1 := hn1.size
 replace h0 := h0.ext hn1.ext
 replace h1 := h1.ext hn1.ext
 replace hU := hU.trans (Ext.upd hn1.ext)
 have hB1 := hn1.blk
 refine L_op rfl (X_box (v := (.int .i64 (n))) (c := #[(.int .i64 (n))]) rfl rfl ?_)
 intro b2 w2 hn2
 have hbn2 := hn2.num; have hbs2 := hn2.size
 replace h0 := h0.ext hn2.ext
 replace h1 := h1.ext hn2.ext
 replace hU := hU.trans (Ext.upd hn2.ext)
 replace hB1 := hB1.ext hn2.ext
 have hB2 := hn2.blk
 refine L_op rfl (X_box (v := (pageV pg)) (c := ((pg.1).map byteV).toArray) rfl rfl ?_)
 intro b3 w3 hn3
 have hbn3 := hn3.num; have hbs3 := hn3.size
 replace h0 := h0.ext hn3.ext
 replace h1 := h1.ext hn3.ext
 replace hU := hU.trans (Ext.upd hn3.ext)
 replace hB1 := hB1.ext hn3.ext
 replace hB2 := hB2.ext hn3.ext
 have hB3 := hn3.blk
 refine L_op rfl (X_alloc (z := (.agg #[(.slice none 0 0), (.slice none 0 0), (.slice none 0 0), (.bool (false)), (.slice none 0 0), (.slice none 0 0), (.slice none 0 0), (.bool (false)), (.int .i64 (0)), (.bool (false))])) (c := #[(.slice none 0 0), (.slice none 0 0), (.slice none 0 0), (.bool (false)), (.slice none 0 0), (.slice none 0 0), (.slice none 0 0), (.bool (false)), (.int .i64 (0)), (.bool (false))]) Zv29 rfl ?_)
 intro b4 w4 hn4
 have hbn4 := hn4.num; have hbs4 := hn4.size
 replace h0 := h0.ext hn4.ext
 replace h1 := h1.ext hn4.ext
 replace hU := hU.trans (Ext.upd hn4.ext)
 replace hB1 := hB1.ext hn4.ext
 replace hB2 := hB2.ext hn4.ext
 replace hB3 := hB3.ext hn4.ext
 have hB4 := hn4.blk
 refine L_op rfl (X_assign (v := (.int .i64 (0))) rfl ?_)
 refine L_nil ?_
 refine T_n ?_
 refine W_seq ?_
 refine W_seq ?_
 refine W_reg ?_
 refine L_op rfl (X_move (v := (.int .i64 (2))) rfl ?_)
 refine L_op rfl (X_cmp (k := .i64) (a := 2) (b := 0) (r := false) rfl rfl rfl rfl ?_)
 refine L_op rfl (X_move (v := (.bool (false))) rfl ?_)
 refine L_gy (dj := 12) rfl rfl rfl (X_move (v := (.int .i64 (2))) rfl ?_)
 refine L_gy (dj := 12) rfl rfl rfl (X_cmp (k := .i64) (a := 2) (b := 1) (r := true) rfl rfl rfl rfl ?_)
 refine L_op rfl (X_pick (t := false) (v := (.bool (true))) rfl rfl ?_)
 refine L_nil ?_
 refine T_n ?_
 refine W_ct rfl ?_
 refine W_seq ?_
 refine W_reg ?_
 refine L_op rfl (X_loadA (p := (ptr b1 (0))) (xs := [p.d0.pv, p.d0.cv, p.d0.bv, (.bool (p.d0.off)), p.d1.pv, p.d1.cv, p.d1.bv, (.bool (p.d1.off)), (.int .i64 (p.fz)), (.bool (p.dn))]) A29 rfl hB1.atAll rfl ?_)
 refine L_op0 (X_storeW (b := b4) (ys := [p.d0.pv, p.d0.cv, p.d0.bv, (.bool (p.d0.off)), p.d1.pv, p.d1.cv, p.d1.bv, (.bool (p.d1.off)), (.int .i64 (p.fz)), (.bool (p.dn))]) A29 rfl rfl (List.forall_mem_cons.2 ⟨(h0.1.sv.one), (List.forall_mem_cons.2 ⟨(h0.2.1.sv.one), (List.forall_mem_cons.2 ⟨(h0.2.2.sv.one), (List.forall_mem_cons.2 ⟨rfl, (List.forall_mem_cons.2 ⟨(h1.1.sv.one), (List.forall_mem_cons.2 ⟨(h1.2.1.sv.one), (List.forall_mem_cons.2 ⟨(h1.2.2.sv.one), (List.forall_mem_cons.2 ⟨rfl, (List.forall_mem_cons.2 ⟨rfl, (List.forall_mem_cons.2 ⟨rfl, (fun _ h => by cases h)⟩)⟩)⟩)⟩)⟩)⟩)⟩)⟩)⟩)⟩) rfl hB4 rfl ?_)
 intro w5 hu5 hb5
 have hz5 := hu5.size
 replace h0 := h0.upd hu5 fun i h1 h2 h => by have h : i = b4 := h; omega
 replace h1 := h1.upd hu5 fun i h1 h2 h => by have h : i = b4 := h; omega
 replace hU := hU.trans (hu5.mono fun i _ h => by have h : i = b4 := h; show n0 ≤ i; omega)
 replace hB1 := hB1.upd hu5 fun h => by have h : b1 = b4 := h; omega
 replace hB2 := hB2.upd hu5 fun h => by have h : b2 = b4 := h; omega
 replace hB3 := hB3.upd hu5 fun h => by have h : b3 = b4 := h; omega
 replace hB4 : Blk w5 b4 #[p.d0.pv, p.d0.cv, p.d0.bv, (.bool (p.d0.off)), p.d1.pv, p.d1.cv, p.d1.bv, (.bool (p.d1.off)), (.int .i64 (p.fz)), (.bool (p.dn))] 29 := hb5
 refine L_op rfl (X_assign (v := (.int .i64 (2))) rfl ?_)
 refine L_nil ?_
 refine T_n ?_
 refine W_ret ?_
 refine T_r ?_
 exact BQ_r (End_2 Try.results21 (RV_A A29 rfl hB4.atAll rfl) (v2 := .int .i64 2) rfl ⟨rfl, hU.own hn0⟩)

theorem c_live (p : Pr) (w : World) (lo0 up0 lo1 up1 : Nat) (hup0 : up0 ≤ w.heap.size) (hup1 : up1 ≤ w.heap.size) (h0 : p.d0.Rd w lo0 up0) (h1 : p.d1.Rd w lo1 up1) : CT Try.prog 18 #[(.agg #[p.d0.pv, p.d0.cv, p.d0.bv, (.bool (p.d0.off)), p.d1.pv, p.d1.cv, p.d1.bv, (.bool (p.d1.off)), (.int .i64 (p.fz)), (.bool (p.dn))])] w fun v w' => v = .int .u8 (liveD p.da) ∧ Ext w w' := by
 obtain ⟨n0, hn0⟩ : ∃ n, n = w.heap.size := ⟨_, rfl⟩
 have hU : Upd (fun i => n0 ≤ i) w w := Upd.refl _ _
 rw [← hn0] at hup0 hup1
 refine CT_of Try.func18 rfl rfl rfl ?_
 refine W_seq ?_
 refine W_reg ?_
 refine L_op rfl (X_box (v := (.agg #[p.d0.pv, p.d0.cv, p.d0.bv, (.bool (p.d0.off)), p.d1.pv, p.d1.cv, p.d1.bv, (.bool (p.d1.off)), (.int .i64 (p.fz)), (.bool (p.dn))])) (c := ([p.d0.pv, p.d0.cv, p.d0.bv, (.bool (p.d0.off)), p.d1.pv, p.d1.cv, p.d1.bv, (.bool (p.d1.off)), (.int .i64 (p.fz)), (.bool (p.dn))]).toArray) rfl rfl ?_)
 intro b1 w1 hn1
 have hbn1 := hn1.num; have hbs1 := hn1.size
 replace h0 := h0.ext hn1.ext
 replace h1 := h1.ext hn1.ext
 replace hU := hU.trans (Ext.upd hn1.ext)
 have hB1 := hn1.blk
 refine L_op rfl (X_assign (v := (.int .u8 (0))) rfl ?_)
 refine L_nil ?_
 refine T_n ?_
 refine W_seq ?_
 refine W_seq ?_
 refine W_reg ?_
 rcases Bool.eq_false_or_eq_true (p.d0.off) with hs2 | hs2
 ·rcases Bool.eq_false_or_eq_true (p.d1.off) with hs3 | hs3
  ·refine L_op rfl (X_fldP (b := b1) (o := 0) (r := 0) Fd29_0 rfl rfl ?_)
   refine L_op rfl (X_loadA (p := (ptr b1 (0))) (xs := [p.d0.pv, p.d0.cv, p.d0.bv, (.bool (p.d0.off)), p.d1.pv, p.d1.cv, p.d1.bv, (.bool (p.d1.off))]) A27 rfl (hB1.part (o := 0) (n := 8) rfl) rfl ?_)
   refine L_op rfl (X_move (v := (.int .i64 (0))) rfl ?_)
   refine L_nil ?_
   refine T_n ?_
   refine W_block ?_
   refine W_unroll 3 ?_
   refine Rounds_s (m := 2) ?_
   refine W_seq ?_
   refine W_reg ?_
   refine L_op rfl (X_cmp (k := .i64) (a := 0) (b := 2) (r := true) rfl rfl rfl rfl ?_)
   refine L_nil ?_
   refine T_n ?_
   refine W_seq ?_
   refine W_ct rfl ?_
   refine W_skip ?_
   refine T_n ?_
   refine W_seq ?_
   refine W_block ?_
   refine W_seq ?_
   refine W_reg ?_
   refine L_op rfl (X_move (v := (.int .i64 (0))) rfl ?_)
   refine L_op rfl (X_idxVA (n := 2) (sz := 4) (i := 0) (l := [p.d0.pv, p.d0.cv, p.d0.bv, (.bool (p.d0.off)), p.d1.pv, p.d1.cv, p.d1.bv, (.bool (p.d1.off))]) (ys := [p.d0.pv, p.d0.cv, p.d0.bv, (.bool (p.d0.off))]) Try.underlying27 A26 rfl rfl (by decide) rfl ?_)
   refine L_op rfl (X_alloc (z := (.agg #[(.slice none 0 0), (.slice none 0 0), (.slice none 0 0), (.bool (false))])) (c := #[(.slice none 0 0), (.slice none 0 0), (.slice none 0 0), (.bool (false))]) Zv26 rfl ?_)
   intro b4 w4 hn4
   have hbn4 := hn4.num; have hbs4 := hn4.size
   replace h0 := h0.ext hn4.ext
   replace h1 := h1.ext hn4.ext
   replace hU := hU.trans (Ext.upd hn4.ext)
   replace hB1 := hB1.ext hn4.ext
   have hB4 := hn4.blk
   refine L_op rfl (X_assign (v := (.int .i64 (0))) rfl ?_)
   refine L_op0 (X_storeW (b := b4) (ys := [p.d0.pv, p.d0.cv, p.d0.bv, (.bool (p.d0.off))]) A26 rfl rfl (List.forall_mem_cons.2 ⟨(h0.1.sv.one), (List.forall_mem_cons.2 ⟨(h0.2.1.sv.one), (List.forall_mem_cons.2 ⟨(h0.2.2.sv.one), (List.forall_mem_cons.2 ⟨rfl, (fun _ h => by cases h)⟩)⟩)⟩)⟩) rfl hB4 rfl ?_)
   intro w5 hu5 hb5
   have hz5 := hu5.size
   replace h0 := h0.upd hu5 fun i h1 h2 h => by have h : i = b4 := h; omega
   replace h1 := h1.upd hu5 fun i h1 h2 h => by have h : i = b4 := h; omega
   replace hU := hU.trans (hu5.mono fun i _ h => by have h : i = b4 := h; show n0 ≤ i; omega)
   replace hB1 := hB1.upd hu5 fun h => by have h : b1 = b4 := h; omega
   replace hB4 : Blk w5 b4 #[p.d0.pv, p.d0.cv, p.d0.bv, (.bool (p.d0.off))] 26 := hb5
   refine L_nil ?_
   refine T_n ?_
   refine W_seq ?_
   refine W_reg ?_
   refine L_op rfl (X_fldP (b := b4) (o := 0) (r := 3) Fd26_3 rfl rfl ?_)
   refine L_op rfl (X_load (p := (ptr b4 (3))) (v := .bool true) T4 rfl (hB4.at1 (by rw [hs2]; rfl)) ?_)
   refine L_op rfl (X_not (b := true) (r := false) rfl rfl ?_)
   refine L_nil ?_
   refine T_n ?_
   refine W_cf rfl ?_
   refine W_skip ?_
   refine B_n ?_
   refine T_n ?_
   refine W_reg ?_
   refine L_op rfl (X_arith (k := .i64) (a := 0) (b := 1) (r := 1) rfl rfl rfl rfl ?_)
   refine L_op rfl (X_move (v := (.int .i64 (1))) rfl ?_)
   refine L_nil ?_
   refine T_n ?_
   refine Rounds_s (m := 1) ?_
   refine W_seq ?_
   refine W_reg ?_
   refine L_op rfl (X_cmp (k := .i64) (a := 1) (b := 2) (r := true) rfl rfl rfl rfl ?_)
   refine L_nil ?_
   refine T_n ?_
   refine W_seq ?_
   refine W_ct rfl ?_
   refine W_skip ?_
   refine T_n ?_
   refine W_seq ?_
   refine W_block ?_
   refine W_seq ?_
   refine W_reg ?_
   refine L_op rfl (X_move (v := (.int .i64 (1))) rfl ?_)
   refine L_op rfl (X_idxVA (n := 2) (sz := 4) (i := 1) (l := [p.d0.pv, p.d0.cv, p.d0.bv, (.bool (p.d0.off)), p.d1.pv, p.d1.cv, p.d1.bv, (.bool (p.d1.off))]) (ys := [p.d1.pv, p.d1.cv, p.d1.bv, (.bool (p.d1.off))]) Try.underlying27 A26 rfl rfl (by decide) rfl ?_)
   refine L_op rfl (X_alloc (z := (.agg #[(.slice none 0 0), (.slice none 0 0), (.slice none 0 0), (.bool (false))])) (c := #[(.slice none 0 0), (.slice none 0 0), (.slice none 0 0), (.bool (false))]) Zv26 rfl ?_)
   intro b6 w6 hn6
   have hbn6 := hn6.num; have hbs6 := hn6.size
   replace h0 := h0.ext hn6.ext
   replace h1 := h1.ext hn6.ext
   replace hU := hU.trans (Ext.upd hn6.ext)
   replace hB1 := hB1.ext hn6.ext
   replace hB4 := hB4.ext hn6.ext
   have hB6 := hn6.blk
   refine L_op rfl (X_assign (v := (.int .i64 (1))) rfl ?_)
   refine L_op0 (X_storeW (b := b6) (ys := [p.d1.pv, p.d1.cv, p.d1.bv, (.bool (p.d1.off))]) A26 rfl rfl (List.forall_mem_cons.2 ⟨(h1.1.sv.one), (List.forall_mem_cons.2 ⟨(h1.2.1.sv.one), (List.forall_mem_cons.2 ⟨(h1.2.2.sv.one), (List.forall_mem_cons.2 ⟨rfl, (fun _ h => by cases h)⟩)⟩)⟩)⟩) rfl hB6 rfl ?_)
   intro w7 hu7 hb7
   have hz7 := hu7.size
   replace h0 := h0.upd hu7 fun i h1 h2 h => by have h : i = b6 := h; omega
   replace h1 := h1.upd hu7 fun i h1 h2 h => by have h : i = b6 := h; omega
   replace hU := hU.trans (hu7.mono fun i _ h => by have h : i = b6 := h; show n0 ≤ i; omega)
   replace hB1 := hB1.upd hu7 fun h => by have h : b1 = b6 := h; omega
   replace hB4 := hB4.upd hu7 fun h => by have h : b4 = b6 := h; omega
   replace hB6 : Blk w7 b6 #[p.d1.pv, p.d1.cv, p.d1.bv, (.bool (p.d1.off))] 26 := hb7
   refine L_nil ?_
   refine T_n ?_
   refine W_seq ?_
   refine W_reg ?_
   refine L_op rfl (X_fldP (b := b6) (o := 0) (r := 3) Fd26_3 rfl rfl ?_)
   refine L_op rfl (X_load (p := (ptr b6 (3))) (v := .bool true) T4 rfl (hB6.at1 (by rw [hs3]; rfl)) ?_)
   refine L_op rfl (X_not (b := true) (r := false) rfl rfl ?_)
   refine L_nil ?_
   refine T_n ?_
   refine W_cf rfl ?_
   refine W_skip ?_
   refine B_n ?_
   refine T_n ?_
   refine W_reg ?_
   refine L_op rfl (X_arith (k := .i64) (a := 1) (b := 1) (r := 2) rfl rfl rfl rfl ?_)
   refine L_op rfl (X_move (v := (.int .i64 (2))) rfl ?_)
   refine L_nil ?_
   refine T_n ?_
   refine Rounds_s (m := 0) ?_
   refine W_seq ?_
   refine W_reg ?_
   refine L_op rfl (X_cmp (k := .i64) (a := 2) (b := 2) (r := false) rfl rfl rfl rfl ?_)
   refine L_nil ?_
   refine T_n ?_
   refine W_seq ?_
   refine W_cf rfl ?_
   refine W_exit ?_
   refine T_e ?_
   refine T_e ?_
   refine B_x ?_
   refine T_n ?_
   refine W_seq ?_
   refine W_reg ?_
   refine L_op rfl (X_move (v := (.int .u8 (0))) rfl ?_)
   refine L_op rfl (X_assign (v := (.int .u8 (0))) rfl ?_)
   refine L_nil ?_
   refine T_n ?_
   refine W_ret ?_
   have hl_ : liveD p.da = 0 := by unfold liveD; rw [show p.da.a.off = true from hs2, show p.da.b.off = true from hs3] <;> rfl
   exact BQ_r (End_1 Try.results18 (v := .int .u8 0) rfl ⟨by rw [hl_], hU.own hn0⟩)
  ·refine L_op rfl (X_fldP (b := b1) (o := 0) (r := 0) Fd29_0 rfl rfl ?_)
   refine L_op rfl (X_loadA (p := (ptr b1 (0))) (xs := [p.d0.pv, p.d0.cv, p.d0.bv, (.bool (p.d0.off)), p.d1.pv, p.d1.cv, p.d1.bv, (.bool (p.d1.off))]) A27 rfl (hB1.part (o := 0) (n := 8) rfl) rfl ?_)
   refine L_op rfl (X_move (v := (.int .i64 (0))) rfl ?_)
   refine L_nil ?_
   refine T_n ?_
   refine W_block ?_
   refine W_unroll 3 ?_
   refine Rounds_s (m := 2) ?_
   refine W_seq ?_
   refine W_reg ?_
   refine L_op rfl (X_cmp (k := .i64) (a := 0) (b := 2) (r := true) rfl rfl rfl rfl ?_)
   refine L_nil ?_
   refine T_n ?_
   refine W_seq ?_
   refine W_ct rfl ?_
   refine W_skip ?_
   refine T_n ?_
   refine W_seq ?_
   refine W_block ?_
   refine W_seq ?_
   refine W_reg ?_
   refine L_op rfl (X_move (v := (.int .i64 (0))) rfl ?_)
   refine L_op rfl (X_idxVA (n := 2) (sz := 4) (i := 0) (l := [p.d0.pv, p.d0.cv, p.d0.bv, (.bool (p.d0.off)), p.d1.pv, p.d1.cv, p.d1.bv, (.bool (p.d1.off))]) (ys := [p.d0.pv, p.d0.cv, p.d0.bv, (.bool (p.d0.off))]) Try.underlying27 A26 rfl rfl (by decide) rfl ?_)
   refine L_op rfl (X_alloc (z := (.agg #[(.slice none 0 0), (.slice none 0 0), (.slice none 0 0), (.bool (false))])) (c := #[(.slice none 0 0), (.slice none 0 0), (.slice none 0 0), (.bool (false))]) Zv26 rfl ?_)
   intro b8 w8 hn8
   have hbn8 := hn8.num; have hbs8 := hn8.size
   replace h0 := h0.ext hn8.ext
   replace h1 := h1.ext hn8.ext
   replace hU := hU.trans (Ext.upd hn8.ext)
   replace hB1 := hB1.ext hn8.ext
   have hB8 := hn8.blk
   refine L_op rfl (X_assign (v := (.int .i64 (0))) rfl ?_)
   refine L_op0 (X_storeW (b := b8) (ys := [p.d0.pv, p.d0.cv, p.d0.bv, (.bool (p.d0.off))]) A26 rfl rfl (List.forall_mem_cons.2 ⟨(h0.1.sv.one), (List.forall_mem_cons.2 ⟨(h0.2.1.sv.one), (List.forall_mem_cons.2 ⟨(h0.2.2.sv.one), (List.forall_mem_cons.2 ⟨rfl, (fun _ h => by cases h)⟩)⟩)⟩)⟩) rfl hB8 rfl ?_)
   intro w9 hu9 hb9
   have hz9 := hu9.size
   replace h0 := h0.upd hu9 fun i h1 h2 h => by have h : i = b8 := h; omega
   replace h1 := h1.upd hu9 fun i h1 h2 h => by have h : i = b8 := h; omega
   replace hU := hU.trans (hu9.mono fun i _ h => by have h : i = b8 := h; show n0 ≤ i; omega)
   replace hB1 := hB1.upd hu9 fun h => by have h : b1 = b8 := h; omega
   replace hB8 : Blk w9 b8 #[p.d0.pv, p.d0.cv, p.d0.bv, (.bool (p.d0.off))] 26 := hb9
   refine L_nil ?_
   refine T_n ?_
   refine W_seq ?_
   refine W_reg ?_
   refine L_op rfl (X_fldP (b := b8) (o := 0) (r := 3) Fd26_3 rfl rfl ?_)
   refine L_op rfl (X_load (p := (ptr b8 (3))) (v := .bool true) T4 rfl (hB8.at1 (by rw [hs2]; rfl)) ?_)
   refine L_op rfl (X_not (b := true) (r := false) rfl rfl ?_)
   refine L_nil ?_
   refine T_n ?_
   refine W_cf rfl ?_
   refine W_skip ?_
   refine B_n ?_
   refine T_n ?_
   refine W_reg ?_
   refine L_op rfl (X_arith (k := .i64) (a := 0) (b := 1) (r := 1) rfl rfl rfl rfl ?_)
   refine L_op rfl (X_move (v := (.int .i64 (1))) rfl ?_)
   refine L_nil ?_
   refine T_n ?_
   refine Rounds_s (m := 1) ?_
   refine W_seq ?_
   refine W_reg ?_
   refine L_op rfl (X_cmp (k := .i64) (a := 1) (b := 2) (r := true) rfl rfl rfl rfl ?_)
   refine L_nil ?_
   refine T_n ?_
   refine W_seq ?_
   refine W_ct rfl ?_
   refine W_skip ?_
   refine T_n ?_
   refine W_seq ?_
   refine W_block ?_
   refine W_seq ?_
   refine W_reg ?_
   refine L_op rfl (X_move (v := (.int .i64 (1))) rfl ?_)
   refine L_op rfl (X_idxVA (n := 2) (sz := 4) (i := 1) (l := [p.d0.pv, p.d0.cv, p.d0.bv, (.bool (p.d0.off)), p.d1.pv, p.d1.cv, p.d1.bv, (.bool (p.d1.off))]) (ys := [p.d1.pv, p.d1.cv, p.d1.bv, (.bool (p.d1.off))]) Try.underlying27 A26 rfl rfl (by decide) rfl ?_)
   refine L_op rfl (X_alloc (z := (.agg #[(.slice none 0 0), (.slice none 0 0), (.slice none 0 0), (.bool (false))])) (c := #[(.slice none 0 0), (.slice none 0 0), (.slice none 0 0), (.bool (false))]) Zv26 rfl ?_)
   intro b10 w10 hn10
   have hbn10 := hn10.num; have hbs10 := hn10.size
   replace h0 := h0.ext hn10.ext
   replace h1 := h1.ext hn10.ext
   replace hU := hU.trans (Ext.upd hn10.ext)
   replace hB1 := hB1.ext hn10.ext
   replace hB8 := hB8.ext hn10.ext
   have hB10 := hn10.blk
   refine L_op rfl (X_assign (v := (.int .i64 (1))) rfl ?_)
   refine L_op0 (X_storeW (b := b10) (ys := [p.d1.pv, p.d1.cv, p.d1.bv, (.bool (p.d1.off))]) A26 rfl rfl (List.forall_mem_cons.2 ⟨(h1.1.sv.one), (List.forall_mem_cons.2 ⟨(h1.2.1.sv.one), (List.forall_mem_cons.2 ⟨(h1.2.2.sv.one), (List.forall_mem_cons.2 ⟨rfl, (fun _ h => by cases h)⟩)⟩)⟩)⟩) rfl hB10 rfl ?_)
   intro w11 hu11 hb11
   have hz11 := hu11.size
   replace h0 := h0.upd hu11 fun i h1 h2 h => by have h : i = b10 := h; omega
   replace h1 := h1.upd hu11 fun i h1 h2 h => by have h : i = b10 := h; omega
   replace hU := hU.trans (hu11.mono fun i _ h => by have h : i = b10 := h; show n0 ≤ i; omega)
   replace hB1 := hB1.upd hu11 fun h => by have h : b1 = b10 := h; omega
   replace hB8 := hB8.upd hu11 fun h => by have h : b8 = b10 := h; omega
   replace hB10 : Blk w11 b10 #[p.d1.pv, p.d1.cv, p.d1.bv, (.bool (p.d1.off))] 26 := hb11
   refine L_nil ?_
   refine T_n ?_
   refine W_seq ?_
   refine W_reg ?_
   refine L_op rfl (X_fldP (b := b10) (o := 0) (r := 3) Fd26_3 rfl rfl ?_)
   refine L_op rfl (X_load (p := (ptr b10 (3))) (v := .bool false) T4 rfl (hB10.at1 (by rw [hs3]; rfl)) ?_)
   refine L_op rfl (X_not (b := false) (r := true) rfl rfl ?_)
   refine L_nil ?_
   refine T_n ?_
   refine W_ct rfl ?_
   refine W_reg ?_
   refine L_op rfl (X_move (v := (.int .u8 (0))) rfl ?_)
   refine L_op rfl (X_move (v := (.int .i64 (1))) rfl ?_)
   refine L_op rfl (X_shift (k := .u8) (yk := .i64) (a := 1) (b := 1) (r := 2) (.inl ⟨rfl, rfl⟩) (by omega) rfl rfl ?_)
   refine L_op rfl (X_arith (k := .u8) (a := 0) (b := 2) (r := 2) rfl rfl rfl (by rfl) ?_)
   refine L_op rfl (X_assign (v := (.int .u8 (2))) rfl ?_)
   refine L_nil ?_
   refine B_n ?_
   refine T_n ?_
   refine W_reg ?_
   refine L_op rfl (X_arith (k := .i64) (a := 1) (b := 1) (r := 2) rfl rfl rfl rfl ?_)
   refine L_op rfl (X_move (v := (.int .i64 (2))) rfl ?_)
   refine L_nil ?_
   refine T_n ?_
   refine Rounds_s (m := 0) ?_
   refine W_seq ?_
   refine W_reg ?_
   refine L_op rfl (X_cmp (k := .i64) (a := 2) (b := 2) (r := false) rfl rfl rfl rfl ?_)
   refine L_nil ?_
   refine T_n ?_
   refine W_seq ?_
   refine W_cf rfl ?_
   refine W_exit ?_
   refine T_e ?_
   refine T_e ?_
   refine B_x ?_
   refine T_n ?_
   refine W_seq ?_
   refine W_reg ?_
   refine L_op rfl (X_move (v := (.int .u8 (2))) rfl ?_)
   refine L_op rfl (X_assign (v := (.int .u8 (2))) rfl ?_)
   refine L_nil ?_
   refine T_n ?_
   refine W_ret ?_
   have hl_ : liveD p.da = 2 := by unfold liveD; rw [show p.da.a.off = true from hs2, show p.da.b.off = false from hs3] <;> rfl
   exact BQ_r (End_1 Try.results18 (v := .int .u8 2) rfl ⟨by rw [hl_], hU.own hn0⟩)
 ·rcases Bool.eq_false_or_eq_true (p.d1.off) with hs12 | hs12
  ·refine L_op rfl (X_fldP (b := b1) (o := 0) (r := 0) Fd29_0 rfl rfl ?_)
   refine L_op rfl (X_loadA (p := (ptr b1 (0))) (xs := [p.d0.pv, p.d0.cv, p.d0.bv, (.bool (p.d0.off)), p.d1.pv, p.d1.cv, p.d1.bv, (.bool (p.d1.off))]) A27 rfl (hB1.part (o := 0) (n := 8) rfl) rfl ?_)
   refine L_op rfl (X_move (v := (.int .i64 (0))) rfl ?_)
   refine L_nil ?_
   refine T_n ?_
   refine W_block ?_
   refine W_unroll 3 ?_
   refine Rounds_s (m := 2) ?_
   refine W_seq ?_
   refine W_reg ?_
   refine L_op rfl (X_cmp (k := .i64) (a := 0) (b := 2) (r := true) rfl rfl rfl rfl ?_)
   refine L_nil ?_
   refine T_n ?_
   refine W_seq ?_
   refine W_ct rfl ?_
   refine W_skip ?_
   refine T_n ?_
   refine W_seq ?_
   refine W_block ?_
   refine W_seq ?_
   refine W_reg ?_
   refine L_op rfl (X_move (v := (.int .i64 (0))) rfl ?_)
   refine L_op rfl (X_idxVA (n := 2) (sz := 4) (i := 0) (l := [p.d0.pv, p.d0.cv, p.d0.bv, (.bool (p.d0.off)), p.d1.pv, p.d1.cv, p.d1.bv, (.bool (p.d1.off))]) (ys := [p.d0.pv, p.d0.cv, p.d0.bv, (.bool (p.d0.off))]) Try.underlying27 A26 rfl rfl (by decide) rfl ?_)
   refine L_op rfl (X_alloc (z := (.agg #[(.slice none 0 0), (.slice none 0 0), (.slice none 0 0), (.bool (false))])) (c := #[(.slice none 0 0), (.slice none 0 0), (.slice none 0 0), (.bool (false))]) Zv26 rfl ?_)
   intro b13 w13 hn13
   have hbn13 := hn13.num; have hbs13 := hn13.size
   replace h0 := h0.ext hn13.ext
   replace h1 := h1.ext hn13.ext
   replace hU := hU.trans (Ext.upd hn13.ext)
   replace hB1 := hB1.ext hn13.ext
   have hB13 := hn13.blk
   refine L_op rfl (X_assign (v := (.int .i64 (0))) rfl ?_)
   refine L_op0 (X_storeW (b := b13) (ys := [p.d0.pv, p.d0.cv, p.d0.bv, (.bool (p.d0.off))]) A26 rfl rfl (List.forall_mem_cons.2 ⟨(h0.1.sv.one), (List.forall_mem_cons.2 ⟨(h0.2.1.sv.one), (List.forall_mem_cons.2 ⟨(h0.2.2.sv.one), (List.forall_mem_cons.2 ⟨rfl, (fun _ h => by cases h)⟩)⟩)⟩)⟩) rfl hB13 rfl ?_)
   intro w14 hu14 hb14
   have hz14 := hu14.size
   replace h0 := h0.upd hu14 fun i h1 h2 h => by have h : i = b13 := h; omega
   replace h1 := h1.upd hu14 fun i h1 h2 h => by have h : i = b13 := h; omega
   replace hU := hU.trans (hu14.mono fun i _ h => by have h : i = b13 := h; show n0 ≤ i; omega)
   replace hB1 := hB1.upd hu14 fun h => by have h : b1 = b13 := h; omega
   replace hB13 : Blk w14 b13 #[p.d0.pv, p.d0.cv, p.d0.bv, (.bool (p.d0.off))] 26 := hb14
   refine L_nil ?_
   refine T_n ?_
   refine W_seq ?_
   refine W_reg ?_
   refine L_op rfl (X_fldP (b := b13) (o := 0) (r := 3) Fd26_3 rfl rfl ?_)
   refine L_op rfl (X_load (p := (ptr b13 (3))) (v := .bool false) T4 rfl (hB13.at1 (by rw [hs2]; rfl)) ?_)
   refine L_op rfl (X_not (b := false) (r := true) rfl rfl ?_)
   refine L_nil ?_
   refine T_n ?_
   refine W_ct rfl ?_
   refine W_reg ?_
   refine L_op rfl (X_move (v := (.int .u8 (0))) rfl ?_)
   refine L_op rfl (X_move (v := (.int .i64 (0))) rfl ?_)
   refine L_op rfl (X_shift (k := .u8) (yk := .i64) (a := 1) (b := 0) (r := 1) (.inl ⟨rfl, rfl⟩) (by omega) rfl rfl ?_)
   refine L_op rfl (X_arith (k := .u8) (a := 0) (b := 1) (r := 1) rfl rfl rfl (by rfl) ?_)
   refine L_op rfl (X_assign (v := (.int .u8 (1))) rfl ?_)
   refine L_nil ?_
   refine B_n ?_
   refine T_n ?_
   refine W_reg ?_
   refine L_op rfl (X_arith (k := .i64) (a := 0) (b := 1) (r := 1) rfl rfl rfl rfl ?_)
   refine L_op rfl (X_move (v := (.int .i64 (1))) rfl ?_)
   refine L_nil ?_
   refine T_n ?_
   refine Rounds_s (m := 1) ?_
   refine W_seq ?_
   refine W_reg ?_
   refine L_op rfl (X_cmp (k := .i64) (a := 1) (b := 2) (r := true) rfl rfl rfl rfl ?_)
   refine L_nil ?_
   refine T_n ?_
   refine W_seq ?_
   refine W_ct rfl ?_
   refine W_skip ?_
   refine T_n ?_
   refine W_seq ?_
   refine W_block ?_
   refine W_seq ?_
   refine W_reg ?_
   refine L_op rfl (X_move (v := (.int .i64 (1))) rfl ?_)
   refine L_op rfl (X_idxVA (n := 2) (sz := 4) (i := 1) (l := [p.d0.pv, p.d0.cv, p.d0.bv, (.bool (p.d0.off)), p.d1.pv, p.d1.cv, p.d1.bv, (.bool (p.d1.off))]) (ys := [p.d1.pv, p.d1.cv, p.d1.bv, (.bool (p.d1.off))]) Try.underlying27 A26 rfl rfl (by decide) rfl ?_)
   refine L_op rfl (X_alloc (z := (.agg #[(.slice none 0 0), (.slice none 0 0), (.slice none 0 0), (.bool (false))])) (c := #[(.slice none 0 0), (.slice none 0 0), (.slice none 0 0), (.bool (false))]) Zv26 rfl ?_)
   intro b15 w15 hn15
   have hbn15 := hn15.num; have hbs15 := hn15.size
   replace h0 := h0.ext hn15.ext
   replace h1 := h1.ext hn15.ext
   replace hU := hU.trans (Ext.upd hn15.ext)
   replace hB1 := hB1.ext hn15.ext
   replace hB13 := hB13.ext hn15.ext
   have hB15 := hn15.blk
   refine L_op rfl (X_assign (v := (.int .i64 (1))) rfl ?_)
   refine L_op0 (X_storeW (b := b15) (ys := [p.d1.pv, p.d1.cv, p.d1.bv, (.bool (p.d1.off))]) A26 rfl rfl (List.forall_mem_cons.2 ⟨(h1.1.sv.one), (List.forall_mem_cons.2 ⟨(h1.2.1.sv.one), (List.forall_mem_cons.2 ⟨(h1.2.2.sv.one), (List.forall_mem_cons.2 ⟨rfl, (fun _ h => by cases h)⟩)⟩)⟩)⟩) rfl hB15 rfl ?_)
   intro w16 hu16 hb16
   have hz16 := hu16.size
   replace h0 := h0.upd hu16 fun i h1 h2 h => by have h : i = b15 := h; omega
   replace h1 := h1.upd hu16 fun i h1 h2 h => by have h : i = b15 := h; omega
   replace hU := hU.trans (hu16.mono fun i _ h => by have h : i = b15 := h; show n0 ≤ i; omega)
   replace hB1 := hB1.upd hu16 fun h => by have h : b1 = b15 := h; omega
   replace hB13 := hB13.upd hu16 fun h => by have h : b13 = b15 := h; omega
   replace hB15 : Blk w16 b15 #[p.d1.pv, p.d1.cv, p.d1.bv, (.bool (p.d1.off))] 26 := hb16
   refine L_nil ?_
   refine T_n ?_
   refine W_seq ?_
   refine W_reg ?_
   refine L_op rfl (X_fldP (b := b15) (o := 0) (r := 3) Fd26_3 rfl rfl ?_)
   refine L_op rfl (X_load (p := (ptr b15 (3))) (v := .bool true) T4 rfl (hB15.at1 (by rw [hs12]; rfl)) ?_)
   refine L_op rfl (X_not (b := true) (r := false) rfl rfl ?_)
   refine L_nil ?_
   refine T_n ?_
   refine W_cf rfl ?_
   refine W_skip ?_
   refine B_n ?_
   refine T_n ?_
   refine W_reg ?_
   refine L_op rfl (X_arith (k := .i64) (a := 1) (b := 1) (r := 2) rfl rfl rfl rfl ?_)
   refine L_op rfl (X_move (v := (.int .i64 (2))) rfl ?_)
   refine L_nil ?_
   refine T_n ?_
   refine Rounds_s (m := 0) ?_
   refine W_seq ?_
   refine W_reg ?_
   refine L_op rfl (X_cmp (k := .i64) (a := 2) (b := 2) (r := false) rfl rfl rfl rfl ?_)
   refine L_nil ?_
   refine T_n ?_
   refine W_seq ?_
   refine W_cf rfl ?_
   refine W_exit ?_
   refine T_e ?_
   refine T_e ?_
   refine B_x ?_
   refine T_n ?_
   refine W_seq ?_
   refine W_reg ?_
   refine L_op rfl (X_move (v := (.int .u8 (1))) rfl ?_)
   refine L_op rfl (X_assign (v := (.int .u8 (1))) rfl ?_)
   refine L_nil ?_
   refine T_n ?_
   refine W_ret ?_
   have hl_ : liveD p.da = 1 := by unfold liveD; rw [show p.da.a.off = false from hs2, show p.da.b.off = true from hs12] <;> rfl
   exact BQ_r (End_1 Try.results18 (v := .int .u8 1) rfl ⟨by rw [hl_], hU.own hn0⟩)
  ·refine L_op rfl (X_fldP (b := b1) (o := 0) (r := 0) Fd29_0 rfl rfl ?_)
   refine L_op rfl (X_loadA (p := (ptr b1 (0))) (xs := [p.d0.pv, p.d0.cv, p.d0.bv, (.bool (p.d0.off)), p.d1.pv, p.d1.cv, p.d1.bv, (.bool (p.d1.off))]) A27 rfl (hB1.part (o := 0) (n := 8) rfl) rfl ?_)
   refine L_op rfl (X_move (v := (.int .i64 (0))) rfl ?_)
   refine L_nil ?_
   refine T_n ?_
   refine W_block ?_
   refine W_unroll 3 ?_
   refine Rounds_s (m := 2) ?_
   refine W_seq ?_
   refine W_reg ?_
   refine L_op rfl (X_cmp (k := .i64) (a := 0) (b := 2) (r := true) rfl rfl rfl rfl ?_)
   refine L_nil ?_
   refine T_n ?_
   refine W_seq ?_
   refine W_ct rfl ?_
   refine W_skip ?_
   refine T_n ?_
   refine W_seq ?_
   refine W_block ?_
   refine W_seq ?_
   refine W_reg ?_
   refine L_op rfl (X_move (v := (.int .i64 (0))) rfl ?_)
   refine L_op rfl (X_idxVA (n := 2) (sz := 4) (i := 0) (l := [p.d0.pv, p.d0.cv, p.d0.bv, (.bool (p.d0.off)), p.d1.pv, p.d1.cv, p.d1.bv, (.bool (p.d1.off))]) (ys := [p.d0.pv, p.d0.cv, p.d0.bv, (.bool (p.d0.off))]) Try.underlying27 A26 rfl rfl (by decide) rfl ?_)
   refine L_op rfl (X_alloc (z := (.agg #[(.slice none 0 0), (.slice none 0 0), (.slice none 0 0), (.bool (false))])) (c := #[(.slice none 0 0), (.slice none 0 0), (.slice none 0 0), (.bool (false))]) Zv26 rfl ?_)
   intro b17 w17 hn17
   have hbn17 := hn17.num; have hbs17 := hn17.size
   replace h0 := h0.ext hn17.ext
   replace h1 := h1.ext hn17.ext
   replace hU := hU.trans (Ext.upd hn17.ext)
   replace hB1 := hB1.ext hn17.ext
   have hB17 := hn17.blk
   refine L_op rfl (X_assign (v := (.int .i64 (0))) rfl ?_)
   refine L_op0 (X_storeW (b := b17) (ys := [p.d0.pv, p.d0.cv, p.d0.bv, (.bool (p.d0.off))]) A26 rfl rfl (List.forall_mem_cons.2 ⟨(h0.1.sv.one), (List.forall_mem_cons.2 ⟨(h0.2.1.sv.one), (List.forall_mem_cons.2 ⟨(h0.2.2.sv.one), (List.forall_mem_cons.2 ⟨rfl, (fun _ h => by cases h)⟩)⟩)⟩)⟩) rfl hB17 rfl ?_)
   intro w18 hu18 hb18
   have hz18 := hu18.size
   replace h0 := h0.upd hu18 fun i h1 h2 h => by have h : i = b17 := h; omega
   replace h1 := h1.upd hu18 fun i h1 h2 h => by have h : i = b17 := h; omega
   replace hU := hU.trans (hu18.mono fun i _ h => by have h : i = b17 := h; show n0 ≤ i; omega)
   replace hB1 := hB1.upd hu18 fun h => by have h : b1 = b17 := h; omega
   replace hB17 : Blk w18 b17 #[p.d0.pv, p.d0.cv, p.d0.bv, (.bool (p.d0.off))] 26 := hb18
   refine L_nil ?_
   refine T_n ?_
   refine W_seq ?_
   refine W_reg ?_
   refine L_op rfl (X_fldP (b := b17) (o := 0) (r := 3) Fd26_3 rfl rfl ?_)
   refine L_op rfl (X_load (p := (ptr b17 (3))) (v := .bool false) T4 rfl (hB17.at1 (by rw [hs2]; rfl)) ?_)
   refine L_op rfl (X_not (b := false) (r := true) rfl rfl ?_)
   refine L_nil ?_
   refine T_n ?_
   refine W_ct rfl ?_
   refine W_reg ?_
   refine L_op rfl (X_move (v := (.int .u8 (0))) rfl ?_)
   refine L_op rfl (X_move (v := (.int .i64 (0))) rfl ?_)
   refine L_op rfl (X_shift (k := .u8) (yk := .i64) (a := 1) (b := 0) (r := 1) (.inl ⟨rfl, rfl⟩) (by omega) rfl rfl ?_)
   refine L_op rfl (X_arith (k := .u8) (a := 0) (b := 1) (r := 1) rfl rfl rfl (by rfl) ?_)
   refine L_op rfl (X_assign (v := (.int .u8 (1))) rfl ?_)
   refine L_nil ?_
   refine B_n ?_
   refine T_n ?_
   refine W_reg ?_
   refine L_op rfl (X_arith (k := .i64) (a := 0) (b := 1) (r := 1) rfl rfl rfl rfl ?_)
   refine L_op rfl (X_move (v := (.int .i64 (1))) rfl ?_)
   refine L_nil ?_
   refine T_n ?_
   refine Rounds_s (m := 1) ?_
   refine W_seq ?_
   refine W_reg ?_
   refine L_op rfl (X_cmp (k := .i64) (a := 1) (b := 2) (r := true) rfl rfl rfl rfl ?_)
   refine L_nil ?_
   refine T_n ?_
   refine W_seq ?_
   refine W_ct rfl ?_
   refine W_skip ?_
   refine T_n ?_
   refine W_seq ?_
   refine W_block ?_
   refine W_seq ?_
   refine W_reg ?_
   refine L_op rfl (X_move (v := (.int .i64 (1))) rfl ?_)
   refine L_op rfl (X_idxVA (n := 2) (sz := 4) (i := 1) (l := [p.d0.pv, p.d0.cv, p.d0.bv, (.bool (p.d0.off)), p.d1.pv, p.d1.cv, p.d1.bv, (.bool (p.d1.off))]) (ys := [p.d1.pv, p.d1.cv, p.d1.bv, (.bool (p.d1.off))]) Try.underlying27 A26 rfl rfl (by decide) rfl ?_)
   refine L_op rfl (X_alloc (z := (.agg #[(.slice none 0 0), (.slice none 0 0), (.slice none 0 0), (.bool (false))])) (c := #[(.slice none 0 0), (.slice none 0 0), (.slice none 0 0), (.bool (false))]) Zv26 rfl ?_)
   intro b19 w19 hn19
   have hbn19 := hn19.num; have hbs19 := hn19.size
   replace h0 := h0.ext hn19.ext
   replace h1 := h1.ext hn19.ext
   replace hU := hU.trans (Ext.upd hn19.ext)
   replace hB1 := hB1.ext hn19.ext
   replace hB17 := hB17.ext hn19.ext
   have hB19 := hn19.blk
   refine L_op rfl (X_assign (v := (.int .i64 (1))) rfl ?_)
   refine L_op0 (X_storeW (b := b19) (ys := [p.d1.pv, p.d1.cv, p.d1.bv, (.bool (p.d1.off))]) A26 rfl rfl (List.forall_mem_cons.2 ⟨(h1.1.sv.one), (List.forall_mem_cons.2 ⟨(h1.2.1.sv.one), (List.forall_mem_cons.2 ⟨(h1.2.2.sv.one), (List.forall_mem_cons.2 ⟨rfl, (fun _ h => by cases h)⟩)⟩)⟩)⟩) rfl hB19 rfl ?_)
   intro w20 hu20 hb20
   have hz20 := hu20.size
   replace h0 := h0.upd hu20 fun i h1 h2 h => by have h : i = b19 := h; omega
   replace h1 := h1.upd hu20 fun i h1 h2 h => by have h : i = b19 := h; omega
   replace hU := hU.trans (hu20.mono fun i _ h => by have h : i = b19 := h; show n0 ≤ i; omega)
   replace hB1 := hB1.upd hu20 fun h => by have h : b1 = b19 := h; omega
   replace hB17 := hB17.upd hu20 fun h => by have h : b17 = b19 := h; omega
   replace hB19 : Blk w20 b19 #[p.d1.pv, p.d1.cv, p.d1.bv, (.bool (p.d1.off))] 26 := hb20
   refine L_nil ?_
   refine T_n ?_
   refine W_seq ?_
   refine W_reg ?_
   refine L_op rfl (X_fldP (b := b19) (o := 0) (r := 3) Fd26_3 rfl rfl ?_)
   refine L_op rfl (X_load (p := (ptr b19 (3))) (v := .bool false) T4 rfl (hB19.at1 (by rw [hs12]; rfl)) ?_)
   refine L_op rfl (X_not (b := false) (r := true) rfl rfl ?_)
   refine L_nil ?_
   refine T_n ?_
   refine W_ct rfl ?_
   refine W_reg ?_
   refine L_op rfl (X_move (v := (.int .u8 (1))) rfl ?_)
   refine L_op rfl (X_move (v := (.int .i64 (1))) rfl ?_)
   refine L_op rfl (X_shift (k := .u8) (yk := .i64) (a := 1) (b := 1) (r := 2) (.inl ⟨rfl, rfl⟩) (by omega) rfl rfl ?_)
   refine L_op rfl (X_arith (k := .u8) (a := 1) (b := 2) (r := 3) rfl rfl rfl (by rfl) ?_)
   refine L_op rfl (X_assign (v := (.int .u8 (3))) rfl ?_)
   refine L_nil ?_
   refine B_n ?_
   refine T_n ?_
   refine W_reg ?_
   refine L_op rfl (X_arith (k := .i64) (a := 1) (b := 1) (r := 2) rfl rfl rfl rfl ?_)
   refine L_op rfl (X_move (v := (.int .i64 (2))) rfl ?_)
   refine L_nil ?_
   refine T_n ?_
   refine Rounds_s (m := 0) ?_
   refine W_seq ?_
   refine W_reg ?_
   refine L_op rfl (X_cmp (k := .i64) (a := 2) (b := 2) (r := false) rfl rfl rfl rfl ?_)
   refine L_nil ?_
   refine T_n ?_
   refine W_seq ?_
   refine W_cf rfl ?_
   refine W_exit ?_
   refine T_e ?_
   refine T_e ?_
   refine B_x ?_
   refine T_n ?_
   refine W_seq ?_
   refine W_reg ?_
   refine L_op rfl (X_move (v := (.int .u8 (3))) rfl ?_)
   refine L_op rfl (X_assign (v := (.int .u8 (3))) rfl ?_)
   refine L_nil ?_
   refine T_n ?_
   refine W_ret ?_
   have hl_ : liveD p.da = 3 := by unfold liveD; rw [show p.da.a.off = false from hs2, show p.da.b.off = false from hs12] <;> rfl
   exact BQ_r (End_1 Try.results18 (v := .int .u8 3) rfl ⟨by rw [hl_], hU.own hn0⟩)

theorem live_0 {p : PD} (h : p.a.off = true ∧ p.b.off = true) : liveD p = 0 := by unfold liveD; rw [if_pos h.1, if_pos h.2]; rfl
theorem live_n {p : PD} (h : ¬ (p.a.off = true ∧ p.b.off = true)) : liveD p ≠ 0 := by
 unfold liveD
 by_cases h1 : p.a.off = true
 ·rw [if_pos h1, if_neg (fun h2 => h ⟨h1, h2⟩)]; decide
 ·rw [if_neg h1]; split <;> decide
theorem live_r (p : PD) : 0 ≤ liveD p ∧ liveD p ≤ 3 := by unfold liveD; constructor <;> split <;> split <;> decide
theorem ready_dn {p : PD} (h : p.dn = true) : readyD p = 100 := if_pos h
theorem ready_off {p : PD} (h : p.dn = false) (h0 : liveD p = 0) : readyD p = 30 := (if_neg (by rw [h]; decide)).trans (if_pos (by by_cases h1 : p.a.off = true ∧ p.b.off = true; (· exact h1); (· exact absurd h0 (live_n h1))))
theorem ready_ok {p : PD} (h : p.dn = false) (h0 : liveD p ≠ 0) : readyD p = 0 := (if_neg (by rw [h]; decide)).trans (if_neg fun h1 => h0 (live_0 h1))

theorem c_ready (p : Pr) (w : World) (lo0 up0 lo1 up1 : Nat) (hup0 : up0 ≤ w.heap.size) (hup1 : up1 ≤ w.heap.size) (h0 : p.d0.Rd w lo0 up0) (h1 : p.d1.Rd w lo1 up1) : CT Try.prog 26 #[(.agg #[p.d0.pv, p.d0.cv, p.d0.bv, (.bool (p.d0.off)), p.d1.pv, p.d1.cv, p.d1.bv, (.bool (p.d1.off)), (.int .i64 (p.fz)), (.bool (p.dn))])] w fun v w' => v = .int .i64 (readyD p.da) ∧ Ext w w' := by
 obtain ⟨n0, hn0⟩ : ∃ n, n = w.heap.size := ⟨_, rfl⟩
 have hU : Upd (fun i => n0 ≤ i) w w := Upd.refl _ _
 rw [← hn0] at hup0 hup1
 refine CT_of Try.func26 rfl rfl rfl ?_
 refine W_seq ?_
 refine W_reg ?_
 refine L_op rfl (X_box (v := (.agg #[p.d0.pv, p.d0.cv, p.d0.bv, (.bool (p.d0.off)), p.d1.pv, p.d1.cv, p.d1.bv, (.bool (p.d1.off)), (.int .i64 (p.fz)), (.bool (p.dn))])) (c := ([p.d0.pv, p.d0.cv, p.d0.bv, (.bool (p.d0.off)), p.d1.pv, p.d1.cv, p.d1.bv, (.bool (p.d1.off)), (.int .i64 (p.fz)), (.bool (p.dn))]).toArray) rfl rfl ?_)
 intro b1 w1 hn1
 have hbn1 := hn1.num; have hbs1 := hn1.size
 replace h0 := h0.ext hn1.ext
 replace h1 := h1.ext hn1.ext
 replace hU := hU.trans (Ext.upd hn1.ext)
 have hB1 := hn1.blk
 refine L_op rfl (X_assign (v := (.int .i64 (0))) rfl ?_)
 refine L_nil ?_
 refine T_n ?_
 refine W_seq ?_
 refine W_block ?_
 refine W_seq ?_
 refine W_reg ?_
 rcases Bool.eq_false_or_eq_true p.dn with hdn_ | hdn_
 ·have hdn : p.da.dn = true := hdn_
  refine L_op rfl (X_fldP (b := b1) (o := 0) (r := 9) Fd29_2 rfl rfl ?_)
  refine L_op rfl (X_load (p := (ptr b1 (9))) (v := .bool true) T4 rfl (hB1.at1 (by rw [hdn_]; rfl)) ?_)
  refine L_op rfl (X_assign (v := (.bool (true))) rfl ?_)
  refine L_nil ?_
  refine T_n ?_
  refine W_ct rfl ?_
  refine W_seq ?_
  refine W_reg ?_
  refine L_op rfl (X_assign (v := (.int .i64 (100))) rfl ?_)
  refine L_nil ?_
  refine T_n ?_
  refine W_ret ?_
  refine B_r ?_
  refine T_r ?_
  exact BQ_r (End_1 Try.results26 (v := .int .i64 100) rfl ⟨by rw [ready_dn hdn], hU.own hn0⟩)
 ·have hdn : p.da.dn = false := hdn_
  refine L_op rfl (X_fldP (b := b1) (o := 0) (r := 9) Fd29_2 rfl rfl ?_)
  refine L_op rfl (X_load (p := (ptr b1 (9))) (v := .bool false) T4 rfl (hB1.at1 (by rw [hdn_]; rfl)) ?_)
  refine L_op rfl (X_assign (v := (.bool (false))) rfl ?_)
  refine L_nil ?_
  refine T_n ?_
  refine W_cf rfl ?_
  refine W_seq ?_
  refine W_reg ?_
  refine L_op rfl (X_loadA (p := (ptr b1 (0))) (xs := [p.d0.pv, p.d0.cv, p.d0.bv, (.bool (p.d0.off)), p.d1.pv, p.d1.cv, p.d1.bv, (.bool (p.d1.off)), (.int .i64 (p.fz)), (.bool (p.dn))]) A29 rfl hB1.atAll rfl ?_)
  have hcr_ := c_live p w1 lo0 up0 lo1 up1 (by omega) (by omega) h0 h1
  refine L_op rfl (X_fn (vs := [(.agg ([p.d0.pv, p.d0.cv, p.d0.bv, (.bool (p.d0.off)), p.d1.pv, p.d1.cv, p.d1.bv, (.bool (p.d1.off)), (.int .i64 (p.fz)), (.bool (p.dn))]).toArray)]) en18 rfl ?_)
  refine CT.mono hcr_ ?_
  clear hcr_
  rintro _ w2 ⟨rfl, hu2⟩
  have hz2 := hu2.size
  replace h0 := h0.ext hu2
  replace h1 := h1.ext hu2
  replace hU := hU.trans (Ext.upd hu2)
  replace hB1 := hB1.ext hu2
  by_cases hc3 : ((liveD p.da) : Int) = (0)
  ·refine L_op rfl (X_cmp (k := .u8) (a := (liveD p.da)) (b := 0) (r := true) rfl rfl rfl (decide_eq_true (p := (((liveD p.da)) : Int) = ((0) : Int)) (by omega)) ?_)
   refine L_op rfl (X_assign (v := (.bool (true))) rfl ?_)
   refine L_nil ?_
   refine T_n ?_
   refine W_ct rfl ?_
   refine W_seq ?_
   refine W_reg ?_
   refine L_op rfl (X_assign (v := (.int .i64 (30))) rfl ?_)
   refine L_nil ?_
   refine T_n ?_
   refine W_ret ?_
   refine B_r ?_
   refine T_r ?_
   exact BQ_r (End_1 Try.results26 (v := .int .i64 30) rfl ⟨by rw [ready_off hdn (by assumption)], hU.own hn0⟩)
  ·refine L_op rfl (X_cmp (k := .u8) (a := (liveD p.da)) (b := 0) (r := false) rfl rfl rfl (decide_eq_false (p := (((liveD p.da)) : Int) = ((0) : Int)) (by omega)) ?_)
   refine L_op rfl (X_assign (v := (.bool (false))) rfl ?_)
   refine L_nil ?_
   refine T_n ?_
   refine W_cf rfl ?_
   refine W_skip ?_
   refine B_n ?_
   refine T_n ?_
   refine W_seq ?_
   refine W_reg ?_
   refine L_op rfl (X_assign (v := (.int .i64 (0))) rfl ?_)
   refine L_nil ?_
   refine T_n ?_
   refine W_ret ?_
   exact BQ_r (End_1 Try.results26 (v := .int .i64 0) rfl ⟨by rw [ready_ok hdn (by assumption)], hU.own hn0⟩)
end Go.Proofs.Ytcjfkkoapncnhaa
