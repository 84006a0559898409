/-
 The walk of MirrorEach. (Printed by wip/gen/t10l.py of this repo.)
-/
import Derived.Test.YtcjfkkoapncnhaaMirLawB
import Derived.Test.YtcjfkkoapncnhaaBaseWT
namespace Go.Proofs.Ytcjfkkoapncnhaa
open Go Go.SL Go.Proofs
set_option linter.unusedVariables false

structure EachI (p z : PD) (k : Nat) : Prop where
 dn : z.dn = false
 fz : z.fz < 0
 oa : z.a.off = false
 ob : z.b.off = false
 ma : z.a.May
 mb : z.b.May
 la : z.a.cs.length ≤ 64 + k
 lb : z.b.cs.length ≤ 64 + k
 pa : z.a.ps.length = p.a.ps.length
 pb : z.b.ps.length = p.b.ps.length
theorem each_0 {p z : PD} {pg : Pg} {k : Nat} {a : Int} (h : EachI p z k) (hk : k ≤ 4) (h0 : 0 ≤ a) (h1 : a < (p.a.ps.length : Int)) : putD z 0 a pg = (⟨⟨z.a.ps, z.a.cs ++ [(a, pg)], z.a.bs, z.a.off⟩, z.b, z.fz, z.dn⟩, 0) ∧ EachI p (putD z 0 a pg).1 (k + 1) := by
 have hl := h.la
 have hp := put_go (p := z) (i := 0) (n := a) (pg := pg) (by rw [burn_n h.dn h.fz]) h.ma h.oa (by show z.a.cs.length < 2000; omega) h0 (by show a < (z.a.ps.length : Int); rw [h.pa]; exact h1)
 rw [burn_n h.dn h.fz] at hp
 replace hp : putD z 0 a pg = (⟨⟨z.a.ps, z.a.cs ++ [(a, pg)], z.a.bs, z.a.off⟩, z.b, z.fz, z.dn⟩, 0) := hp
 refine ⟨hp, ?_⟩
 rw [hp]
 exact ⟨h.dn, h.fz, h.oa, h.ob, (show MayD z.a.ps.length (z.a.cs ++ [(a, pg)]) z.a.bs z.a.off from mayD_push h.ma h0 (by rw [h.pa]; exact h1) h.oa (by omega)), h.mb, by show (z.a.cs ++ [(a, pg)]).length ≤ _; rw [List.length_append]; show z.a.cs.length + 1 ≤ _; omega, by have := h.lb; show z.b.cs.length ≤ _; omega, h.pa, h.pb⟩
theorem each_1 {p z : PD} {pg : Pg} {k : Nat} {a : Int} (h : EachI p z k) (hk : k ≤ 4) (h0 : 0 ≤ a) (h1 : a < (p.b.ps.length : Int)) : putD z 1 a pg = (⟨z.a, ⟨z.b.ps, z.b.cs ++ [(a, pg)], z.b.bs, z.b.off⟩, z.fz, z.dn⟩, 0) ∧ EachI p (putD z 1 a pg).1 (k + 1) := by
 have hl := h.lb
 have hp := put_go (p := z) (i := 1) (n := a) (pg := pg) (by rw [burn_n h.dn h.fz]) h.mb h.ob (by show z.b.cs.length < 2000; omega) h0 (by show a < (z.b.ps.length : Int); rw [h.pb]; exact h1)
 rw [burn_n h.dn h.fz] at hp
 replace hp : putD z 1 a pg = (⟨z.a, ⟨z.b.ps, z.b.cs ++ [(a, pg)], z.b.bs, z.b.off⟩, z.fz, z.dn⟩, 0) := hp
 refine ⟨hp, ?_⟩
 rw [hp]
 exact ⟨h.dn, h.fz, h.oa, h.ob, h.ma, (show MayD z.b.ps.length (z.b.cs ++ [(a, pg)]) z.b.bs z.b.off from mayD_push h.mb h0 (by rw [h.pb]; exact h1) h.ob (by omega)), by have := h.la; show z.a.cs.length ≤ _; omega, by show (z.b.cs ++ [(a, pg)]).length ≤ _; rw [List.length_append]; show z.b.cs.length + 1 ≤ _; omega, h.pa, h.pb⟩
theorem writeD_run {p : PD} {q : Pt} {pg : Pg} (h : readyD p = 0) : writeD p q pg = runL pg p (copL q) := if_pos h

set_option maxRecDepth 10000 in
set_option maxHeartbeats 2000000 in
theorem c_each (p : Pr) (q : Pt) (pg : Pg) (w : World) (h0 : p.d0.Rd w 0 w.heap.size) (h1 : p.d1.Rd w 0 w.heap.size) (hq : PtOk q) : CT Try.prog 5 #[(.agg #[p.d0.pv, p.d0.cv, p.d0.bv, (.bool (p.d0.off)), p.d1.pv, p.d1.cv, p.d1.bv, (.bool (p.d1.off)), (.int .i64 (p.fz)), (.bool (p.dn))]), (.agg (ptC q).toArray), (pageV pg)] w fun v w' => v = .bool true ∧ Ext w w' := by
 obtain ⟨n0, hn0⟩ : ∃ n, n = w.heap.size := ⟨_, rfl⟩
 have hU : Upd (fun i => n0 ≤ i) w w := Upd.refl _ _
 rw [← hn0] at h0 h1
 obtain ⟨hq1, hq2, hq3, hq4, hq5⟩ := id hq
 obtain ⟨m, hm⟩ : ∃ m, m = min p.d0.ps.length p.d1.ps.length := ⟨_, rfl⟩
 have hlp0 := h0.1.sv.len; have hlp1 := h1.1.sv.len; have hlc0 := h0.2.1.sv.len; have hlc1 := h1.2.1.sv.len
 refine CT_of Try.func5 rfl rfl rfl ?_
 refine W_seq ?_
 refine W_reg ?_
 refine L_op rfl (X_box (v := (.agg #[p.d0.pv, p.d0.cv, p.d0.bv, (.bool (p.d0.off)), p.d1.pv, p.d1.cv, p.d1.bv, (.bool (p.d1.off)), (.int .i64 (p.fz)), (.bool (p.dn))])) (c := ([p.d0.pv, p.d0.cv, p.d0.bv, (.bool (p.d0.off)), p.d1.pv, p.d1.cv, p.d1.bv, (.bool (p.d1.off)), (.int .i64 (p.fz)), (.bool (p.dn))]).toArray) rfl rfl ?_)
 intro b1 w1 hn1
 have hbn1 := hn1.num; have hbs1 := hn1.size
 replace h0 := h0.ext hn1.ext
 replace h1 := h1.ext hn1.ext
 replace hU := hU.trans (Ext.upd hn1.ext)
 have hB1 := hn1.blk
 refine L_op rfl (X_box (v := (.agg (ptC q).toArray)) (c := ((ptC q)).toArray) rfl rfl ?_)
 intro b2 w2 hn2
 have hbn2 := hn2.num; have hbs2 := hn2.size
 replace h0 := h0.ext hn2.ext
 replace h1 := h1.ext hn2.ext
 replace hU := hU.trans (Ext.upd hn2.ext)
 replace hB1 := hB1.ext hn2.ext
 have hB2 := hn2.blk
 refine L_op rfl (X_box (v := (pageV pg)) (c := ((pg.1).map byteV).toArray) rfl rfl ?_)
 intro b3 w3 hn3
 have hbn3 := hn3.num; have hbs3 := hn3.size
 replace h0 := h0.ext hn3.ext
 replace h1 := h1.ext hn3.ext
 replace hU := hU.trans (Ext.upd hn3.ext)
 replace hB1 := hB1.ext hn3.ext
 replace hB2 := hB2.ext hn3.ext
 have hB3 := hn3.blk
 refine L_op rfl (X_assign (v := (.bool (false))) rfl ?_)
 refine L_nil ?_
 refine T_n ?_
 refine W_seq ?_
 refine W_reg ?_
 refine L_op rfl (X_fldP (b := b1) (o := 0) (r := 0) Fd29_0 rfl rfl ?_)
 refine L_op rfl (X_idxAP (len := 2) (sz := 4) (b := b1) (o := 0) (k := .i64) (i := 0) (r := 0) Try.underlying27 Z26 rfl rfl (by omega) (by omega) rfl ?_)
 refine L_op rfl (X_fldP (b := b1) (o := 0) (r := 0) Fd26_0 rfl rfl ?_)
 refine L_op rfl (X_load (p := (ptr b1 (0))) (v := p.d0.pv) T22 rfl (hB1.at1 rfl) ?_)
 refine L_op rfl (X_len (v := p.d0.pv) (n := p.d0.ps.length) Try.underlying22 rfl h0.1.sv ?_)
 refine L_op rfl (X_fldP (b := b1) (o := 0) (r := 0) Fd29_0 rfl rfl ?_)
 refine L_op rfl (X_idxAP (len := 2) (sz := 4) (b := b1) (o := 0) (k := .i64) (i := 1) (r := 4) Try.underlying27 Z26 rfl rfl (by omega) (by omega) rfl ?_)
 refine L_op rfl (X_fldP (b := b1) (o := 4) (r := 4) Fd26_0 rfl rfl ?_)
 refine L_op rfl (X_load (p := (ptr b1 (4))) (v := p.d1.pv) T22 rfl (hB1.at1 rfl) ?_)
 refine L_op rfl (X_len (v := p.d1.pv) (n := p.d1.ps.length) Try.underlying22 rfl h1.1.sv ?_)
 refine L_op rfl (X_min (k := .i64) (a := ((p.d0.ps.length : Nat) : Int)) (b := ((p.d1.ps.length : Nat) : Int)) (r := ((m : Nat) : Int)) rfl rfl (by omega) ?_)
 refine L_op rfl (X_assign (v := (.int .i64 (((m : Nat) : Int)))) rfl ?_)
 refine L_nil ?_
 refine T_n ?_
 refine W_seq ?_
 refine W_seq ?_
 refine W_reg ?_
 refine L_op rfl (X_fldP (b := b1) (o := 0) (r := 0) Fd29_0 rfl rfl ?_)
 refine L_op rfl (X_idxAP (len := 2) (sz := 4) (b := b1) (o := 0) (k := .i64) (i := 0) (r := 0) Try.underlying27 Z26 rfl rfl (by omega) (by omega) rfl ?_)
 refine L_op rfl (X_loadA (p := (ptr b1 (0))) (xs := [p.d0.pv, p.d0.cv, p.d0.bv, (.bool (p.d0.off))]) A26 rfl (hB1.part (o := 0) (n := 4) rfl) rfl ?_)
 have hcr_ := c_mayR p.d0.pv p.d0.cv p.d0.bv p.d0.ps p.d0.cs p.d0.bs p.d0.off w3 0 n0 h0.1 h0.2.1 h0.2.2
 refine L_op rfl (X_fn (vs := [(.agg #[p.d0.pv, p.d0.cv, p.d0.bv, (.bool (p.d0.off))])]) en7 rfl ?_)
 refine CT.mono hcr_ ?_
 clear hcr_
 rintro _ w4 ⟨⟨gA, rfl, hgA⟩, hu4⟩
 have hz4 := hu4.size
 replace h0 := h0.ext hu4
 replace h1 := h1.ext hu4
 replace hU := hU.trans (Ext.upd hu4)
 replace hB1 := hB1.ext hu4
 replace hB2 := hB2.ext hu4
 replace hB3 := hB3.ext hu4
 rcases Bool.eq_false_or_eq_true (gA) with hc5 | hc5
 ·rw [hc5]
  refine L_op rfl (X_not (b := true) (r := false) rfl rfl ?_)
  refine L_op rfl (X_move (v := (.bool (false))) rfl ?_)
  refine L_gy (dj := 31) rfl rfl rfl (X_fldP (b := b1) (o := 0) (r := 0) Fd29_0 rfl rfl ?_)
  refine L_gy (dj := 31) rfl rfl rfl (X_idxAP (len := 2) (sz := 4) (b := b1) (o := 0) (k := .i64) (i := 1) (r := 4) Try.underlying27 Z26 rfl rfl (by omega) (by omega) rfl ?_)
  refine L_gy (dj := 31) rfl rfl rfl (X_loadA (p := (ptr b1 (4))) (xs := [p.d1.pv, p.d1.cv, p.d1.bv, (.bool (p.d1.off))]) A26 rfl (hB1.part (o := 4) (n := 4) rfl) rfl ?_)
  have hcr_ := c_mayR p.d1.pv p.d1.cv p.d1.bv p.d1.ps p.d1.cs p.d1.bs p.d1.off w4 0 n0 h1.1 h1.2.1 h1.2.2
  refine L_gy (dj := 31) rfl rfl rfl (X_fn (vs := [(.agg #[p.d1.pv, p.d1.cv, p.d1.bv, (.bool (p.d1.off))])]) en7 rfl ?_)
  refine CT.mono hcr_ ?_
  clear hcr_
  rintro _ w6 ⟨⟨gB, rfl, hgB⟩, hu6⟩
  have hz6 := hu6.size
  replace h0 := h0.ext hu6
  replace h1 := h1.ext hu6
  replace hU := hU.trans (Ext.upd hu6)
  replace hB1 := hB1.ext hu6
  replace hB2 := hB2.ext hu6
  replace hB3 := hB3.ext hu6
  rcases Bool.eq_false_or_eq_true (gB) with hc7 | hc7
  ·rw [hc7]
   refine L_gy (dj := 31) rfl rfl rfl (X_not (b := true) (r := false) rfl rfl ?_)
   refine L_op rfl (X_pick (t := false) (v := (.bool (false))) rfl rfl ?_)
   refine L_op rfl (X_move (v := (.bool (false))) rfl ?_)
   refine L_gy (dj := 38) rfl rfl rfl (X_fldP (b := b1) (o := 0) (r := 0) Fd29_0 rfl rfl ?_)
   refine L_gy (dj := 38) rfl rfl rfl (X_idxAP (len := 2) (sz := 4) (b := b1) (o := 0) (k := .i64) (i := 0) (r := 0) Try.underlying27 Z26 rfl rfl (by omega) (by omega) rfl ?_)
   refine L_gy (dj := 38) rfl rfl rfl (X_fldP (b := b1) (o := 0) (r := 3) Fd26_3 rfl rfl ?_)
   rcases Bool.eq_false_or_eq_true (p.d0.off) with hs8 | hs8
   ·refine L_gy (dj := 38) rfl rfl rfl (X_load (p := (ptr b1 (3))) (v := .bool true) T4 rfl (hB1.at1 (by rw [hs8]; rfl)) ?_)
    refine L_op rfl (X_pick (t := false) (v := (.bool (true))) rfl rfl ?_)
    refine L_op rfl (X_move (v := (.bool (true))) rfl ?_)
    refine L_gn (dj := 44) (t := true) rfl rfl rfl rfl ?_
    refine L_gn (dj := 44) (t := true) rfl rfl rfl rfl ?_
    refine L_gn (dj := 44) (t := true) rfl rfl rfl rfl ?_
    refine L_gn (dj := 44) (t := true) rfl rfl rfl rfl ?_
    refine L_op rfl (X_pick (t := true) (v := (.bool (true))) rfl rfl ?_)
    refine L_op rfl (X_move (v := (.bool (true))) rfl ?_)
    refine L_gn (dj := 50) (t := true) rfl rfl rfl rfl ?_
    refine L_gn (dj := 50) (t := true) rfl rfl rfl rfl ?_
    refine L_op rfl (X_pick (t := true) (v := (.bool (true))) rfl rfl ?_)
    refine L_op rfl (X_move (v := (.bool (true))) rfl ?_)
    refine L_gn (dj := 54) (t := true) rfl rfl rfl rfl ?_
    refine L_gn (dj := 54) (t := true) rfl rfl rfl rfl ?_
    refine L_gn (dj := 54) (t := true) rfl rfl rfl rfl ?_
    refine L_op rfl (X_pick (t := true) (v := (.bool (true))) rfl rfl ?_)
    refine L_op rfl (X_move (v := (.bool (true))) rfl ?_)
    refine L_gn (dj := 59) (t := true) rfl rfl rfl rfl ?_
    refine L_gn (dj := 59) (t := true) rfl rfl rfl rfl ?_
    refine L_gn (dj := 59) (t := true) rfl rfl rfl rfl ?_
    refine L_gn (dj := 59) (t := true) rfl rfl rfl rfl ?_
    refine L_op rfl (X_pick (t := true) (v := (.bool (true))) rfl rfl ?_)
    refine L_op rfl (X_move (v := (.bool (true))) rfl ?_)
    refine L_gn (dj := 65) (t := true) rfl rfl rfl rfl ?_
    refine L_gn (dj := 65) (t := true) rfl rfl rfl rfl ?_
    refine L_gn (dj := 65) (t := true) rfl rfl rfl rfl ?_
    refine L_op rfl (X_pick (t := true) (v := (.bool (true))) rfl rfl ?_)
    refine L_op rfl (X_move (v := (.bool (true))) rfl ?_)
    refine L_gn (dj := 70) (t := true) rfl rfl rfl rfl ?_
    refine L_gn (dj := 70) (t := true) rfl rfl rfl rfl ?_
    refine L_gn (dj := 70) (t := true) rfl rfl rfl rfl ?_
    refine L_gn (dj := 70) (t := true) rfl rfl rfl rfl ?_
    refine L_gn (dj := 70) (t := true) rfl rfl rfl rfl ?_
    refine L_gn (dj := 70) (t := true) rfl rfl rfl rfl ?_
    refine L_gn (dj := 70) (t := true) rfl rfl rfl rfl ?_
    refine L_gn (dj := 70) (t := true) rfl rfl rfl rfl ?_
    refine L_gn (dj := 70) (t := true) rfl rfl rfl rfl ?_
    refine L_gn (dj := 70) (t := true) rfl rfl rfl rfl ?_
    refine L_gn (dj := 70) (t := true) rfl rfl rfl rfl ?_
    refine L_gn (dj := 70) (t := true) rfl rfl rfl rfl ?_
    refine L_op rfl (X_pick (t := true) (v := (.bool (true))) rfl rfl ?_)
    refine L_nil ?_
    refine T_n ?_
    refine W_ct rfl ?_
    refine W_seq ?_
    refine W_reg ?_
    refine L_op rfl (X_fn (vs := []) en9 rfl (CT.mono (c_wakes _) ?_))
    rintro _ w9 ⟨rfl, hu9⟩
    have hz9 := hu9.size
    replace h0 := h0.ext hu9
    replace h1 := h1.ext hu9
    replace hU := hU.trans (Ext.upd hu9)
    replace hB1 := hB1.ext hu9
    replace hB2 := hB2.ext hu9
    replace hB3 := hB3.ext hu9
    refine L_op rfl (X_assign (v := (.bool (true))) rfl ?_)
    refine L_nil ?_
    refine T_n ?_
    refine W_ret ?_
    refine T_r ?_
    exact BQ_r (End_1 Try.results5 (v := .bool true) rfl ⟨rfl, hU.own hn0⟩)
   ·refine L_gy (dj := 38) rfl rfl rfl (X_load (p := (ptr b1 (3))) (v := .bool false) T4 rfl (hB1.at1 (by rw [hs8]; rfl)) ?_)
    refine L_op rfl (X_pick (t := false) (v := (.bool (false))) rfl rfl ?_)
    refine L_op rfl (X_move (v := (.bool (false))) rfl ?_)
    refine L_gy (dj := 44) rfl rfl rfl (X_fldP (b := b1) (o := 0) (r := 0) Fd29_0 rfl rfl ?_)
    refine L_gy (dj := 44) rfl rfl rfl (X_idxAP (len := 2) (sz := 4) (b := b1) (o := 0) (k := .i64) (i := 1) (r := 4) Try.underlying27 Z26 rfl rfl (by omega) (by omega) rfl ?_)
    refine L_gy (dj := 44) rfl rfl rfl (X_fldP (b := b1) (o := 4) (r := 7) Fd26_3 rfl rfl ?_)
    rcases Bool.eq_false_or_eq_true (p.d1.off) with hs10 | hs10
    ·refine L_gy (dj := 44) rfl rfl rfl (X_load (p := (ptr b1 (7))) (v := .bool true) T4 rfl (hB1.at1 (by rw [hs10]; rfl)) ?_)
     refine L_op rfl (X_pick (t := false) (v := (.bool (true))) rfl rfl ?_)
     refine L_op rfl (X_move (v := (.bool (true))) rfl ?_)
     refine L_gn (dj := 50) (t := true) rfl rfl rfl rfl ?_
     refine L_gn (dj := 50) (t := true) rfl rfl rfl rfl ?_
     refine L_op rfl (X_pick (t := true) (v := (.bool (true))) rfl rfl ?_)
     refine L_op rfl (X_move (v := (.bool (true))) rfl ?_)
     refine L_gn (dj := 54) (t := true) rfl rfl rfl rfl ?_
     refine L_gn (dj := 54) (t := true) rfl rfl rfl rfl ?_
     refine L_gn (dj := 54) (t := true) rfl rfl rfl rfl ?_
     refine L_op rfl (X_pick (t := true) (v := (.bool (true))) rfl rfl ?_)
     refine L_op rfl (X_move (v := (.bool (true))) rfl ?_)
     refine L_gn (dj := 59) (t := true) rfl rfl rfl rfl ?_
     refine L_gn (dj := 59) (t := true) rfl rfl rfl rfl ?_
     refine L_gn (dj := 59) (t := true) rfl rfl rfl rfl ?_
     refine L_gn (dj := 59) (t := true) rfl rfl rfl rfl ?_
     refine L_op rfl (X_pick (t := true) (v := (.bool (true))) rfl rfl ?_)
     refine L_op rfl (X_move (v := (.bool (true))) rfl ?_)
     refine L_gn (dj := 65) (t := true) rfl rfl rfl rfl ?_
     refine L_gn (dj := 65) (t := true) rfl rfl rfl rfl ?_
     refine L_gn (dj := 65) (t := true) rfl rfl rfl rfl ?_
     refine L_op rfl (X_pick (t := true) (v := (.bool (true))) rfl rfl ?_)
     refine L_op rfl (X_move (v := (.bool (true))) rfl ?_)
     refine L_gn (dj := 70) (t := true) rfl rfl rfl rfl ?_
     refine L_gn (dj := 70) (t := true) rfl rfl rfl rfl ?_
     refine L_gn (dj := 70) (t := true) rfl rfl rfl rfl ?_
     refine L_gn (dj := 70) (t := true) rfl rfl rfl rfl ?_
     refine L_gn (dj := 70) (t := true) rfl rfl rfl rfl ?_
     refine L_gn (dj := 70) (t := true) rfl rfl rfl rfl ?_
     refine L_gn (dj := 70) (t := true) rfl rfl rfl rfl ?_
     refine L_gn (dj := 70) (t := true) rfl rfl rfl rfl ?_
     refine L_gn (dj := 70) (t := true) rfl rfl rfl rfl ?_
     refine L_gn (dj := 70) (t := true) rfl rfl rfl rfl ?_
     refine L_gn (dj := 70) (t := true) rfl rfl rfl rfl ?_
     refine L_gn (dj := 70) (t := true) rfl rfl rfl rfl ?_
     refine L_op rfl (X_pick (t := true) (v := (.bool (true))) rfl rfl ?_)
     refine L_nil ?_
     refine T_n ?_
     refine W_ct rfl ?_
     refine W_seq ?_
     refine W_reg ?_
     refine L_op rfl (X_fn (vs := []) en9 rfl (CT.mono (c_wakes _) ?_))
     rintro _ w11 ⟨rfl, hu11⟩
     have hz11 := hu11.size
     replace h0 := h0.ext hu11
     replace h1 := h1.ext hu11
     replace hU := hU.trans (Ext.upd hu11)
     replace hB1 := hB1.ext hu11
     replace hB2 := hB2.ext hu11
     replace hB3 := hB3.ext hu11
     refine L_op rfl (X_assign (v := (.bool (true))) rfl ?_)
     refine L_nil ?_
     refine T_n ?_
     refine W_ret ?_
     refine T_r ?_
     exact BQ_r (End_1 Try.results5 (v := .bool true) rfl ⟨rfl, hU.own hn0⟩)
    ·refine L_gy (dj := 44) rfl rfl rfl (X_load (p := (ptr b1 (7))) (v := .bool false) T4 rfl (hB1.at1 (by rw [hs10]; rfl)) ?_)
     refine L_op rfl (X_pick (t := false) (v := (.bool (false))) rfl rfl ?_)
     refine L_op rfl (X_move (v := (.bool (false))) rfl ?_)
     refine L_gy (dj := 50) rfl rfl rfl (X_fldP (b := b1) (o := 0) (r := 9) Fd29_2 rfl rfl ?_)
     rcases Bool.eq_false_or_eq_true (p.dn) with hs12 | hs12
     ·refine L_gy (dj := 50) rfl rfl rfl (X_load (p := (ptr b1 (9))) (v := .bool true) T4 rfl (hB1.at1 (by rw [hs12]; rfl)) ?_)
      refine L_op rfl (X_pick (t := false) (v := (.bool (true))) rfl rfl ?_)
      refine L_op rfl (X_move (v := (.bool (true))) rfl ?_)
      refine L_gn (dj := 54) (t := true) rfl rfl rfl rfl ?_
      refine L_gn (dj := 54) (t := true) rfl rfl rfl rfl ?_
      refine L_gn (dj := 54) (t := true) rfl rfl rfl rfl ?_
      refine L_op rfl (X_pick (t := true) (v := (.bool (true))) rfl rfl ?_)
      refine L_op rfl (X_move (v := (.bool (true))) rfl ?_)
      refine L_gn (dj := 59) (t := true) rfl rfl rfl rfl ?_
      refine L_gn (dj := 59) (t := true) rfl rfl rfl rfl ?_
      refine L_gn (dj := 59) (t := true) rfl rfl rfl rfl ?_
      refine L_gn (dj := 59) (t := true) rfl rfl rfl rfl ?_
      refine L_op rfl (X_pick (t := true) (v := (.bool (true))) rfl rfl ?_)
      refine L_op rfl (X_move (v := (.bool (true))) rfl ?_)
      refine L_gn (dj := 65) (t := true) rfl rfl rfl rfl ?_
      refine L_gn (dj := 65) (t := true) rfl rfl rfl rfl ?_
      refine L_gn (dj := 65) (t := true) rfl rfl rfl rfl ?_
      refine L_op rfl (X_pick (t := true) (v := (.bool (true))) rfl rfl ?_)
      refine L_op rfl (X_move (v := (.bool (true))) rfl ?_)
      refine L_gn (dj := 70) (t := true) rfl rfl rfl rfl ?_
      refine L_gn (dj := 70) (t := true) rfl rfl rfl rfl ?_
      refine L_gn (dj := 70) (t := true) rfl rfl rfl rfl ?_
      refine L_gn (dj := 70) (t := true) rfl rfl rfl rfl ?_
      refine L_gn (dj := 70) (t := true) rfl rfl rfl rfl ?_
      refine L_gn (dj := 70) (t := true) rfl rfl rfl rfl ?_
      refine L_gn (dj := 70) (t := true) rfl rfl rfl rfl ?_
      refine L_gn (dj := 70) (t := true) rfl rfl rfl rfl ?_
      refine L_gn (dj := 70) (t := true) rfl rfl rfl rfl ?_
      refine L_gn (dj := 70) (t := true) rfl rfl rfl rfl ?_
      refine L_gn (dj := 70) (t := true) rfl rfl rfl rfl ?_
      refine L_gn (dj := 70) (t := true) rfl rfl rfl rfl ?_
      refine L_op rfl (X_pick (t := true) (v := (.bool (true))) rfl rfl ?_)
      refine L_nil ?_
      refine T_n ?_
      refine W_ct rfl ?_
      refine W_seq ?_
      refine W_reg ?_
      refine L_op rfl (X_fn (vs := []) en9 rfl (CT.mono (c_wakes _) ?_))
      rintro _ w13 ⟨rfl, hu13⟩
      have hz13 := hu13.size
      replace h0 := h0.ext hu13
      replace h1 := h1.ext hu13
      replace hU := hU.trans (Ext.upd hu13)
      replace hB1 := hB1.ext hu13
      replace hB2 := hB2.ext hu13
      replace hB3 := hB3.ext hu13
      refine L_op rfl (X_assign (v := (.bool (true))) rfl ?_)
      refine L_nil ?_
      refine T_n ?_
      refine W_ret ?_
      refine T_r ?_
      exact BQ_r (End_1 Try.results5 (v := .bool true) rfl ⟨rfl, hU.own hn0⟩)
     ·refine L_gy (dj := 50) rfl rfl rfl (X_load (p := (ptr b1 (9))) (v := .bool false) T4 rfl (hB1.at1 (by rw [hs12]; rfl)) ?_)
      refine L_op rfl (X_pick (t := false) (v := (.bool (false))) rfl rfl ?_)
      refine L_op rfl (X_move (v := (.bool (false))) rfl ?_)
      refine L_gy (dj := 54) rfl rfl rfl (X_fldP (b := b1) (o := 0) (r := 8) Fd29_1 rfl rfl ?_)
      refine L_gy (dj := 54) rfl rfl rfl (X_load (p := (ptr b1 (8))) (v := (.int .i64 (p.fz))) T3 rfl (hB1.at1 rfl) ?_)
      by_cases hc14 : (p.fz : Int) ≥ (0)
      ·refine L_gy (dj := 54) rfl rfl rfl (X_cmp (k := .i64) (a := p.fz) (b := 0) (r := true) rfl rfl rfl (decide_eq_true (p := ((0) : Int) ≤ ((p.fz) : Int)) (by omega)) ?_)
       refine L_op rfl (X_pick (t := false) (v := (.bool (true))) rfl rfl ?_)
       refine L_op rfl (X_move (v := (.bool (true))) rfl ?_)
       refine L_gn (dj := 59) (t := true) rfl rfl rfl rfl ?_
       refine L_gn (dj := 59) (t := true) rfl rfl rfl rfl ?_
       refine L_gn (dj := 59) (t := true) rfl rfl rfl rfl ?_
       refine L_gn (dj := 59) (t := true) rfl rfl rfl rfl ?_
       refine L_op rfl (X_pick (t := true) (v := (.bool (true))) rfl rfl ?_)
       refine L_op rfl (X_move (v := (.bool (true))) rfl ?_)
       refine L_gn (dj := 65) (t := true) rfl rfl rfl rfl ?_
       refine L_gn (dj := 65) (t := true) rfl rfl rfl rfl ?_
       refine L_gn (dj := 65) (t := true) rfl rfl rfl rfl ?_
       refine L_op rfl (X_pick (t := true) (v := (.bool (true))) rfl rfl ?_)
       refine L_op rfl (X_move (v := (.bool (true))) rfl ?_)
       refine L_gn (dj := 70) (t := true) rfl rfl rfl rfl ?_
       refine L_gn (dj := 70) (t := true) rfl rfl rfl rfl ?_
       refine L_gn (dj := 70) (t := true) rfl rfl rfl rfl ?_
       refine L_gn (dj := 70) (t := true) rfl rfl rfl rfl ?_
       refine L_gn (dj := 70) (t := true) rfl rfl rfl rfl ?_
       refine L_gn (dj := 70) (t := true) rfl rfl rfl rfl ?_
       refine L_gn (dj := 70) (t := true) rfl rfl rfl rfl ?_
       refine L_gn (dj := 70) (t := true) rfl rfl rfl rfl ?_
       refine L_gn (dj := 70) (t := true) rfl rfl rfl rfl ?_
       refine L_gn (dj := 70) (t := true) rfl rfl rfl rfl ?_
       refine L_gn (dj := 70) (t := true) rfl rfl rfl rfl ?_
       refine L_gn (dj := 70) (t := true) rfl rfl rfl rfl ?_
       refine L_op rfl (X_pick (t := true) (v := (.bool (true))) rfl rfl ?_)
       refine L_nil ?_
       refine T_n ?_
       refine W_ct rfl ?_
       refine W_seq ?_
       refine W_reg ?_
       refine L_op rfl (X_fn (vs := []) en9 rfl (CT.mono (c_wakes _) ?_))
       rintro _ w15 ⟨rfl, hu15⟩
       have hz15 := hu15.size
       replace h0 := h0.ext hu15
       replace h1 := h1.ext hu15
       replace hU := hU.trans (Ext.upd hu15)
       replace hB1 := hB1.ext hu15
       replace hB2 := hB2.ext hu15
       replace hB3 := hB3.ext hu15
       refine L_op rfl (X_assign (v := (.bool (true))) rfl ?_)
       refine L_nil ?_
       refine T_n ?_
       refine W_ret ?_
       refine T_r ?_
       exact BQ_r (End_1 Try.results5 (v := .bool true) rfl ⟨rfl, hU.own hn0⟩)
      ·refine L_gy (dj := 54) rfl rfl rfl (X_cmp (k := .i64) (a := p.fz) (b := 0) (r := false) rfl rfl rfl (decide_eq_false (p := ((0) : Int) ≤ ((p.fz) : Int)) (by omega)) ?_)
       refine L_op rfl (X_pick (t := false) (v := (.bool (false))) rfl rfl ?_)
       refine L_op rfl (X_move (v := (.bool (false))) rfl ?_)
       refine L_gy (dj := 59) rfl rfl rfl (X_loadA (p := (ptr b2 (0))) (xs := ptC q) A35 rfl hB2.atAll rfl ?_)
       refine L_gy (dj := 59) rfl rfl rfl (X_move (v := (.int .i64 (((m : Nat) : Int)))) rfl ?_)
       refine L_gy (dj := 59) rfl rfl rfl (X_fn (vs := [(.agg (ptC q).toArray), (.int .i64 (((m : Nat) : Int)))]) en8 rfl (CT.mono (c_rightR q ((m : Nat) : Int) _ hq) ?_))
       rintro _ w16 ⟨rfl, hu16⟩
       have hz16 := hu16.size
       replace h0 := h0.ext hu16
       replace h1 := h1.ext hu16
       replace hU := hU.trans (Ext.upd hu16)
       replace hB1 := hB1.ext hu16
       replace hB2 := hB2.ext hu16
       replace hB3 := hB3.ext hu16
       rcases Bool.eq_false_or_eq_true (decide (RightP q ((m : Nat) : Int))) with hc17 | hc17
       ·rw [hc17]
        refine L_gy (dj := 59) rfl rfl rfl (X_not (b := true) (r := false) rfl rfl ?_)
        refine L_op rfl (X_pick (t := false) (v := (.bool (false))) rfl rfl ?_)
        refine L_op rfl (X_move (v := (.bool (false))) rfl ?_)
        refine L_gy (dj := 65) rfl rfl rfl (X_fldP (b := b2) (o := 0) (r := 0) Fd35_0 rfl rfl ?_)
        refine L_gy (dj := 65) rfl rfl rfl (X_load (p := (ptr b2 (0))) (v := (.int .u8 (q.1))) T5 rfl (hB2.at1 rfl) ?_)
        by_cases hc18 : (q.1 : Int) = (0)
        ·refine L_gy (dj := 65) rfl rfl rfl (X_cmp (k := .u8) (a := q.1) (b := 0) (r := true) rfl rfl rfl (decide_eq_true (p := ((q.1) : Int) = ((0) : Int)) (by omega)) ?_)
         refine L_op rfl (X_pick (t := false) (v := (.bool (true))) rfl rfl ?_)
         refine L_op rfl (X_move (v := (.bool (true))) rfl ?_)
         refine L_gn (dj := 70) (t := true) rfl rfl rfl rfl ?_
         refine L_gn (dj := 70) (t := true) rfl rfl rfl rfl ?_
         refine L_gn (dj := 70) (t := true) rfl rfl rfl rfl ?_
         refine L_gn (dj := 70) (t := true) rfl rfl rfl rfl ?_
         refine L_gn (dj := 70) (t := true) rfl rfl rfl rfl ?_
         refine L_gn (dj := 70) (t := true) rfl rfl rfl rfl ?_
         refine L_gn (dj := 70) (t := true) rfl rfl rfl rfl ?_
         refine L_gn (dj := 70) (t := true) rfl rfl rfl rfl ?_
         refine L_gn (dj := 70) (t := true) rfl rfl rfl rfl ?_
         refine L_gn (dj := 70) (t := true) rfl rfl rfl rfl ?_
         refine L_gn (dj := 70) (t := true) rfl rfl rfl rfl ?_
         refine L_gn (dj := 70) (t := true) rfl rfl rfl rfl ?_
         refine L_op rfl (X_pick (t := true) (v := (.bool (true))) rfl rfl ?_)
         refine L_nil ?_
         refine T_n ?_
         refine W_ct rfl ?_
         refine W_seq ?_
         refine W_reg ?_
         refine L_op rfl (X_fn (vs := []) en9 rfl (CT.mono (c_wakes _) ?_))
         rintro _ w19 ⟨rfl, hu19⟩
         have hz19 := hu19.size
         replace h0 := h0.ext hu19
         replace h1 := h1.ext hu19
         replace hU := hU.trans (Ext.upd hu19)
         replace hB1 := hB1.ext hu19
         replace hB2 := hB2.ext hu19
         replace hB3 := hB3.ext hu19
         refine L_op rfl (X_assign (v := (.bool (true))) rfl ?_)
         refine L_nil ?_
         refine T_n ?_
         refine W_ret ?_
         refine T_r ?_
         exact BQ_r (End_1 Try.results5 (v := .bool true) rfl ⟨rfl, hU.own hn0⟩)
        ·refine L_gy (dj := 65) rfl rfl rfl (X_cmp (k := .u8) (a := q.1) (b := 0) (r := false) rfl rfl rfl (decide_eq_false (p := ((q.1) : Int) = ((0) : Int)) (by omega)) ?_)
         refine L_op rfl (X_pick (t := false) (v := (.bool (false))) rfl rfl ?_)
         refine L_op rfl (X_move (v := (.bool (false))) rfl ?_)
         refine L_gy (dj := 70) rfl rfl rfl (X_fldP (b := b1) (o := 0) (r := 0) Fd29_0 rfl rfl ?_)
         refine L_gy (dj := 70) rfl rfl rfl (X_idxAP (len := 2) (sz := 4) (b := b1) (o := 0) (k := .i64) (i := 0) (r := 0) Try.underlying27 Z26 rfl rfl (by omega) (by omega) rfl ?_)
         refine L_gy (dj := 70) rfl rfl rfl (X_fldP (b := b1) (o := 0) (r := 1) Fd26_1 rfl rfl ?_)
         refine L_gy (dj := 70) rfl rfl rfl (X_load (p := (ptr b1 (1))) (v := p.d0.cv) T23 rfl (hB1.at1 rfl) ?_)
         refine L_gy (dj := 70) rfl rfl rfl (X_len (v := p.d0.cv) (n := p.d0.cs.length) Try.underlying23 rfl h0.2.1.sv ?_)
         refine L_gy (dj := 70) rfl rfl rfl (X_fldP (b := b1) (o := 0) (r := 0) Fd29_0 rfl rfl ?_)
         refine L_gy (dj := 70) rfl rfl rfl (X_idxAP (len := 2) (sz := 4) (b := b1) (o := 0) (k := .i64) (i := 1) (r := 4) Try.underlying27 Z26 rfl rfl (by omega) (by omega) rfl ?_)
         refine L_gy (dj := 70) rfl rfl rfl (X_fldP (b := b1) (o := 4) (r := 5) Fd26_1 rfl rfl ?_)
         refine L_gy (dj := 70) rfl rfl rfl (X_load (p := (ptr b1 (5))) (v := p.d1.cv) T23 rfl (hB1.at1 rfl) ?_)
         refine L_gy (dj := 70) rfl rfl rfl (X_len (v := p.d1.cv) (n := p.d1.cs.length) Try.underlying23 rfl h1.2.1.sv ?_)
         refine L_gy (dj := 70) rfl rfl rfl (X_max (k := .i64) (a := ((p.d0.cs.length : Nat) : Int)) (b := ((p.d1.cs.length : Nat) : Int)) (r := (max (((p.d0.cs.length : Nat) : Int)) (((p.d1.cs.length : Nat) : Int)))) rfl rfl (by omega) ?_)
         by_cases hc20 : ((max (((p.d0.cs.length : Nat) : Int)) (((p.d1.cs.length : Nat) : Int))) : Int) > (64)
         ·refine L_gy (dj := 70) rfl rfl rfl (X_cmp (k := .i64) (a := (max (((p.d0.cs.length : Nat) : Int)) (((p.d1.cs.length : Nat) : Int)))) (b := 64) (r := true) rfl rfl rfl (decide_eq_true (p := ((64) : Int) < (((max (((p.d0.cs.length : Nat) : Int)) (((p.d1.cs.length : Nat) : Int)))) : Int)) (by omega)) ?_)
          refine L_op rfl (X_pick (t := false) (v := (.bool (true))) rfl rfl ?_)
          refine L_nil ?_
          refine T_n ?_
          refine W_ct rfl ?_
          refine W_seq ?_
          refine W_reg ?_
          refine L_op rfl (X_fn (vs := []) en9 rfl (CT.mono (c_wakes _) ?_))
          rintro _ w21 ⟨rfl, hu21⟩
          have hz21 := hu21.size
          replace h0 := h0.ext hu21
          replace h1 := h1.ext hu21
          replace hU := hU.trans (Ext.upd hu21)
          replace hB1 := hB1.ext hu21
          replace hB2 := hB2.ext hu21
          replace hB3 := hB3.ext hu21
          refine L_op rfl (X_assign (v := (.bool (true))) rfl ?_)
          refine L_nil ?_
          refine T_n ?_
          refine W_ret ?_
          refine T_r ?_
          exact BQ_r (End_1 Try.results5 (v := .bool true) rfl ⟨rfl, hU.own hn0⟩)
         ·refine L_gy (dj := 70) rfl rfl rfl (X_cmp (k := .i64) (a := (max (((p.d0.cs.length : Nat) : Int)) (((p.d1.cs.length : Nat) : Int)))) (b := 64) (r := false) rfl rfl rfl (decide_eq_false (p := ((64) : Int) < (((max (((p.d0.cs.length : Nat) : Int)) (((p.d1.cs.length : Nat) : Int)))) : Int)) (by omega)) ?_)
          refine L_op rfl (X_pick (t := false) (v := (.bool (false))) rfl rfl ?_)
          refine L_nil ?_
          refine T_n ?_
          refine W_cf rfl ?_
          refine W_skip ?_
          refine T_n ?_
          refine W_seq ?_
          refine W_reg ?_
          refine L_op rfl (X_loadA (p := (ptr b1 (0))) (xs := [p.d0.pv, p.d0.cv, p.d0.bv, (.bool (p.d0.off)), p.d1.pv, p.d1.cv, p.d1.bv, (.bool (p.d1.off)), (.int .i64 (p.fz)), (.bool (p.dn))]) A29 rfl hB1.atAll rfl ?_)
          refine L_op rfl (X_loadA (p := (ptr b2 (0))) (xs := ptC q) A35 rfl hB2.atAll rfl ?_)
          refine L_op rfl (X_loadA (p := (ptr b3 (0))) (xs := ((pg.1).map byteV)) A37 rfl hB3.atAll (by rw [List.length_map]; exact pg.2) ?_)
          have hMA : p.da.a.May := hgA.1 hc5
          have hMB : p.da.b.May := hgB.1 hc7
          have hdn : p.da.dn = false := hs12
          have hfn : p.da.fz < 0 := by show p.fz < 0; omega
          have hRt := of_decide_eq_true hc17
          have hnoff : ¬ (p.da.a.off = true ∧ p.da.b.off = true) := fun h_ => by have h2_ : p.d0.off = true := h_.1; rw [hs8] at h2_; cases h2_
          have hsA := may_sz hMA; have hsB := may_sz hMB
          have hcA : p.da.a.cs.length ≤ 64 := by show p.d0.cs.length ≤ 64; omega
          have hcB : p.da.b.cs.length ≤ 64 := by show p.d1.cs.length ≤ 64; omega
          have hmA : m ≤ p.da.a.ps.length := by show m ≤ p.d0.ps.length; omega
          have hmB : m ≤ p.da.b.ps.length := by show m ≤ p.d1.ps.length; omega
          have hwl := write_law (pg := pg) hdn hfn hnoff hMA hMB (by omega) (by omega) hmA hmB hRt
          have hasl := (asQ_len q).1
          have hinm := asQ_in hRt
          have hinA : ∀ a ∈ asQ q, 0 ≤ a ∧ a < (p.da.a.ps.length : Int) := fun a ha => ⟨(hinm a ha).1, by have := (hinm a ha).2; omega⟩
          have hinB : ∀ a ∈ asQ q, 0 ≤ a ∧ a < (p.da.b.ps.length : Int) := fun a ha => ⟨(hinm a ha).1, by have := (hinm a ha).2; omega⟩
          obtain ⟨sq, hsq⟩ : ∃ n, n = w16.heap.size := ⟨_, rfl⟩
          have hcr_ := c_writeM q pg p w16 (by omega) 0 n0 0 n0 (by omega) (by omega) h0 h1 hq (hsA.mono (by decide)) (hsB.mono (by decide))
          refine L_op rfl (X_fn (vs := [(.agg ([p.d0.pv, p.d0.cv, p.d0.bv, (.bool (p.d0.off)), p.d1.pv, p.d1.cv, p.d1.bv, (.bool (p.d1.off)), (.int .i64 (p.fz)), (.bool (p.dn))]).toArray), (.agg (ptC q).toArray), (.agg (((pg.1).map byteV)).toArray)]) en10 rfl ?_)
          refine CT.mono hcr_ ?_
          clear hcr_
          rintro _ w22 ⟨pq, l0q, u0q, l1q, u1q, rfl, hq0, hq1, hiq0, hiq1, hdaq, hu22⟩
          have hz22 := hu22.size
          obtain ⟨eq, heq⟩ : ∃ z, z = (writeD p.da q pg).2 := ⟨_, rfl⟩
          rw [← heq]
          obtain ⟨uq, huq⟩ : ∃ n, n = w22.heap.size := ⟨_, rfl⟩
          rw [← hsq, ← huq] at hiq0 hiq1
          replace h0 := h0.ext hu22
          replace h1 := h1.ext hu22
          replace hU := hU.trans (Ext.upd hu22)
          replace hB1 := hB1.ext hu22
          replace hB2 := hB2.ext hu22
          replace hB3 := hB3.ext hu22
          rw [hwl] at heq hdaq
          replace heq : eq = 0 := heq
          subst heq
          replace hdaq : pq.da = wroteD pg q p.da := hdaq
          have hoA : pq.d0.da = addW pg (asQ q) p.d0.da := congrArg PD.a hdaq
          have hoB : pq.d1.da = addW pg (asQ q) p.d1.da := congrArg PD.b hdaq
          have hof : pq.fz = p.fz := congrArg PD.fz hdaq
          have hod : pq.dn = p.dn := congrArg PD.dn hdaq
          have hNA : pq.da.a.May := by rw [hdaq]; exact add_may hMA (by omega) hinA
          have hNB : pq.da.b.May := by rw [hdaq]; exact add_may hMB (by omega) hinB
          refine L_op rfl (X_move (v := (.tuple #[(.agg #[pq.d0.pv, pq.d0.cv, pq.d0.bv, (.bool (pq.d0.off)), pq.d1.pv, pq.d1.cv, pq.d1.bv, (.bool (pq.d1.off)), (.int .i64 (pq.fz)), (.bool (pq.dn))]), (.int .i64 (0))])) rfl ?_)
          refine L_op rfl (X_extract (l := [(.agg #[pq.d0.pv, pq.d0.cv, pq.d0.bv, (.bool (pq.d0.off)), pq.d1.pv, pq.d1.cv, pq.d1.bv, (.bool (pq.d1.off)), (.int .i64 (pq.fz)), (.bool (pq.dn))]), (.int .i64 (0))]) (v := (.agg #[pq.d0.pv, pq.d0.cv, pq.d0.bv, (.bool (pq.d0.off)), pq.d1.pv, pq.d1.cv, pq.d1.bv, (.bool (pq.d1.off)), (.int .i64 (pq.fz)), (.bool (pq.dn))])) rfl rfl ?_)
          refine L_op rfl (X_extract (l := [(.agg #[pq.d0.pv, pq.d0.cv, pq.d0.bv, (.bool (pq.d0.off)), pq.d1.pv, pq.d1.cv, pq.d1.bv, (.bool (pq.d1.off)), (.int .i64 (pq.fz)), (.bool (pq.dn))]), (.int .i64 (0))]) (v := (.int .i64 (0))) rfl rfl ?_)
          refine L_op rfl (X_alloc (z := (.agg #[(.slice none 0 0), (.slice none 0 0), (.slice none 0 0), (.bool (false)), (.slice none 0 0), (.slice none 0 0), (.slice none 0 0), (.bool (false)), (.int .i64 (0)), (.bool (false))])) (c := #[(.slice none 0 0), (.slice none 0 0), (.slice none 0 0), (.bool (false)), (.slice none 0 0), (.slice none 0 0), (.slice none 0 0), (.bool (false)), (.int .i64 (0)), (.bool (false))]) Zv29 rfl ?_)
          intro b23 w23 hn23
          have hbn23 := hn23.num; have hbs23 := hn23.size
          replace h0 := h0.ext hn23.ext
          replace h1 := h1.ext hn23.ext
          replace hU := hU.trans (Ext.upd hn23.ext)
          replace hB1 := hB1.ext hn23.ext
          replace hB2 := hB2.ext hn23.ext
          replace hB3 := hB3.ext hn23.ext
          replace hq0 := hq0.ext hn23.ext
          replace hq1 := hq1.ext hn23.ext
          have hB23 := hn23.blk
          refine L_op0 (X_storeW (b := b23) (ys := [pq.d0.pv, pq.d0.cv, pq.d0.bv, (.bool (pq.d0.off)), pq.d1.pv, pq.d1.cv, pq.d1.bv, (.bool (pq.d1.off)), (.int .i64 (pq.fz)), (.bool (pq.dn))]) A29 rfl rfl (List.forall_mem_cons.2 ⟨(hq0.1.sv.one), (List.forall_mem_cons.2 ⟨(hq0.2.1.sv.one), (List.forall_mem_cons.2 ⟨(hq0.2.2.sv.one), (List.forall_mem_cons.2 ⟨rfl, (List.forall_mem_cons.2 ⟨(hq1.1.sv.one), (List.forall_mem_cons.2 ⟨(hq1.2.1.sv.one), (List.forall_mem_cons.2 ⟨(hq1.2.2.sv.one), (List.forall_mem_cons.2 ⟨rfl, (List.forall_mem_cons.2 ⟨rfl, (List.forall_mem_cons.2 ⟨rfl, (fun _ h => by cases h)⟩)⟩)⟩)⟩)⟩)⟩)⟩)⟩)⟩)⟩) rfl hB23 rfl ?_)
          intro w24 hu24 hb24
          have hz24 := hu24.size
          replace h0 := h0.upd hu24 fun i h1 h2 h => by have h : i = b23 := h; omega
          replace h1 := h1.upd hu24 fun i h1 h2 h => by have h : i = b23 := h; omega
          replace hU := hU.trans (hu24.mono fun i _ h => by have h : i = b23 := h; show n0 ≤ i; omega)
          replace hB1 := hB1.upd hu24 fun h => by have h : b1 = b23 := h; omega
          replace hB2 := hB2.upd hu24 fun h => by have h : b2 = b23 := h; omega
          replace hB3 := hB3.upd hu24 fun h => by have h : b3 = b23 := h; omega
          replace hq0 := hq0.upd hu24 fun i h1 h2 h => by have h : i = b23 := h; omega
          replace hq1 := hq1.upd hu24 fun i h1 h2 h => by have h : i = b23 := h; omega
          replace hB23 : Blk w24 b23 #[pq.d0.pv, pq.d0.cv, pq.d0.bv, (.bool (pq.d0.off)), pq.d1.pv, pq.d1.cv, pq.d1.bv, (.bool (pq.d1.off)), (.int .i64 (pq.fz)), (.bool (pq.dn))] 29 := hb24
          refine L_op rfl (X_assign (v := (.int .i64 (0))) rfl ?_)
          refine L_nil ?_
          refine T_n ?_
          refine W_seq ?_
          refine W_reg ?_
          refine L_op rfl (X_loadA (p := (ptr b1 (0))) (xs := [p.d0.pv, p.d0.cv, p.d0.bv, (.bool (p.d0.off)), p.d1.pv, p.d1.cv, p.d1.bv, (.bool (p.d1.off)), (.int .i64 (p.fz)), (.bool (p.dn))]) A29 rfl hB1.atAll rfl ?_)
          refine L_op rfl (X_alloc (z := (.agg #[(.slice none 0 0), (.slice none 0 0), (.slice none 0 0), (.bool (false)), (.slice none 0 0), (.slice none 0 0), (.slice none 0 0), (.bool (false)), (.int .i64 (0)), (.bool (false))])) (c := #[(.slice none 0 0), (.slice none 0 0), (.slice none 0 0), (.bool (false)), (.slice none 0 0), (.slice none 0 0), (.slice none 0 0), (.bool (false)), (.int .i64 (0)), (.bool (false))]) Zv29 rfl ?_)
          intro b25 w25 hn25
          have hbn25 := hn25.num; have hbs25 := hn25.size
          replace h0 := h0.ext hn25.ext
          replace h1 := h1.ext hn25.ext
          replace hU := hU.trans (Ext.upd hn25.ext)
          replace hB1 := hB1.ext hn25.ext
          replace hB2 := hB2.ext hn25.ext
          replace hB3 := hB3.ext hn25.ext
          replace hq0 := hq0.ext hn25.ext
          replace hq1 := hq1.ext hn25.ext
          replace hB23 := hB23.ext hn25.ext
          have hB25 := hn25.blk
          refine L_op0 (X_storeW (b := b25) (ys := [p.d0.pv, p.d0.cv, p.d0.bv, (.bool (p.d0.off)), p.d1.pv, p.d1.cv, p.d1.bv, (.bool (p.d1.off)), (.int .i64 (p.fz)), (.bool (p.dn))]) A29 rfl rfl (List.forall_mem_cons.2 ⟨(h0.1.sv.one), (List.forall_mem_cons.2 ⟨(h0.2.1.sv.one), (List.forall_mem_cons.2 ⟨(h0.2.2.sv.one), (List.forall_mem_cons.2 ⟨rfl, (List.forall_mem_cons.2 ⟨(h1.1.sv.one), (List.forall_mem_cons.2 ⟨(h1.2.1.sv.one), (List.forall_mem_cons.2 ⟨(h1.2.2.sv.one), (List.forall_mem_cons.2 ⟨rfl, (List.forall_mem_cons.2 ⟨rfl, (List.forall_mem_cons.2 ⟨rfl, (fun _ h => by cases h)⟩)⟩)⟩)⟩)⟩)⟩)⟩)⟩)⟩)⟩) rfl hB25 rfl ?_)
          intro w26 hu26 hb26
          have hz26 := hu26.size
          replace h0 := h0.upd hu26 fun i h1 h2 h => by have h : i = b25 := h; omega
          replace h1 := h1.upd hu26 fun i h1 h2 h => by have h : i = b25 := h; omega
          replace hU := hU.trans (hu26.mono fun i _ h => by have h : i = b25 := h; show n0 ≤ i; omega)
          replace hB1 := hB1.upd hu26 fun h => by have h : b1 = b25 := h; omega
          replace hB2 := hB2.upd hu26 fun h => by have h : b2 = b25 := h; omega
          replace hB3 := hB3.upd hu26 fun h => by have h : b3 = b25 := h; omega
          replace hq0 := hq0.upd hu26 fun i h1 h2 h => by have h : i = b25 := h; omega
          replace hq1 := hq1.upd hu26 fun i h1 h2 h => by have h : i = b25 := h; omega
          replace hB23 := hB23.upd hu26 fun h => by have h : b23 = b25 := h; omega
          replace hB25 : Blk w26 b25 #[p.d0.pv, p.d0.cv, p.d0.bv, (.bool (p.d0.off)), p.d1.pv, p.d1.cv, p.d1.bv, (.bool (p.d1.off)), (.int .i64 (p.fz)), (.bool (p.dn))] 29 := hb26
          refine L_nil ?_
          refine T_n ?_
          refine W_seq ?_
          refine W_reg ?_
          refine L_op rfl (X_loadA (p := (ptr b2 (0))) (xs := ptC q) A35 rfl hB2.atAll rfl ?_)
          obtain ⟨sC, hsC⟩ : ∃ n, n = w26.heap.size := ⟨_, rfl⟩
          have hcr_ := c_copiesM q w26 hq
          refine L_op rfl (X_fn (vs := [(.agg (ptC q).toArray)]) en20 rfl ?_)
          refine CT.mono hcr_ ?_
          clear hcr_
          rintro vC w27 ⟨hC, hu27⟩
          have hz27 := hu27.size
          obtain ⟨uC, huC⟩ : ∃ n, n = w27.heap.size := ⟨_, rfl⟩
          rw [← hsC, ← huC] at hC
          replace h0 := h0.ext hu27
          replace h1 := h1.ext hu27
          replace hU := hU.trans (Ext.upd hu27)
          replace hB1 := hB1.ext hu27
          replace hB2 := hB2.ext hu27
          replace hB3 := hB3.ext hu27
          replace hq0 := hq0.ext hu27
          replace hq1 := hq1.ext hu27
          replace hB23 := hB23.ext hu27
          replace hB25 := hB25.ext hu27
          have hCsv := hC.sv
          have hcl4 := copL_len q
          refine L_op rfl (X_assign (v := vC) rfl ?_)
          refine L_nil ?_
          refine T_n ?_
          refine W_seq ?_
          refine W_seq ?_
          refine W_reg ?_
          refine L_op rfl (X_assign (v := (.int .i64 (0))) rfl ?_)
          refine L_nil ?_
          refine T_n ?_
          refine W_block ?_
          obtain ⟨nL, hnL⟩ : ∃ n, n = w27.heap.size := ⟨_, rfl⟩
          have hltL_hB1 := hB1.lt
          have hltL_hB2 := hB2.lt
          have hltL_hB3 := hB3.lt
          have hltL_hB23 := hB23.lt
          have hltL_hB25 := hB25.lt
          have hrd0 : readyD p.da = 0 := ready_at hdn (.inl hs8)
          have hrunq : runL pg p.da (copL q) = (pq.da, 0) := by rw [← writeD_run hrd0, hwl, hdaq]
          refine W_loop (α := Nat × Pr × Nat × Nat × Nat × Nat) [6, 12, 13, 14, 95, 96, 97, 98, 99, 100, 101, 102, 103, 104, 105, 106, 107, 108, 109, 110, 111, 112, 113, 114, 115, 116, 117, 118, 119, 120, 121, 122, 123, 124, 125, 126, 127, 128, 129, 130, 131, 132, 133, 134, 135, 136, 137, 138, 139, 140, 141, 142, 143, 144, 145, 146, 147, 148, 149, 150, 151, 152, 153, 154, 155] (fun ⟨i, pz, l0z, u0z, l1z, u1z⟩ => [(12, (.int .i64 (((i : Nat) : Int))))]) (fun ⟨i, pz, l0z, u0z, l1z, u1z⟩ w_ => i ≤ (copL q).length ∧ Blk w_ b1 #[p.d0.pv, p.d0.cv, p.d0.bv, (.bool (p.d0.off)), p.d1.pv, p.d1.cv, p.d1.bv, (.bool (p.d1.off)), (.int .i64 (p.fz)), (.bool (p.dn))] 29 ∧ Blk w_ b3 (pg.1.map byteV).toArray 37 ∧ Blk w_ b23 #[pq.d0.pv, pq.d0.cv, pq.d0.bv, (.bool (pq.d0.off)), pq.d1.pv, pq.d1.cv, pq.d1.bv, (.bool (pq.d1.off)), (.int .i64 (pq.fz)), (.bool (pq.dn))] 29 ∧ Blk w_ b25 #[pz.d0.pv, pz.d0.cv, pz.d0.bv, (.bool (pz.d0.off)), pz.d1.pv, pz.d1.cv, pz.d1.bv, (.bool (pz.d1.off)), (.int .i64 (pz.fz)), (.bool (pz.dn))] 29 ∧ p.d0.Rd w_ 0 n0 ∧ p.d1.Rd w_ 0 n0 ∧ pq.d0.Rd w_ l0q u0q ∧ pq.d1.Rd w_ l1q u1q ∧ pz.d0.Rd w_ l0z u0z ∧ pz.d1.Rd w_ l1z u1z ∧ NRd LC w_ sC uC vC (copL q) ∧ Upd (fun i => n0 ≤ i) w w_ ∧ nL ≤ w_.heap.size ∧ (l0z = 0 ∧ u0z = n0 ∨ nL ≤ l0z ∧ u0z ≤ w_.heap.size) ∧ (l1z = 0 ∧ u1z = n0 ∨ nL ≤ l1z ∧ u1z ≤ w_.heap.size) ∧ EachI p.da pz.da i ∧ runL pg p.da (copL q) = runL pg pz.da ((copL q).drop i)) (fun ⟨i, pz, l0z, u0z, l1z, u1z⟩ => (copL q).length - i) ⟨rfl, (0, p, 0, n0, 0, n0), ⟨Nat.zero_le _, hB1, hB3, hB23, hB25, h0, h1, hq0, hq1, h0, h1, hC, hU, by omega, .inl ⟨rfl, rfl⟩, .inl ⟨rfl, rfl⟩, ⟨hdn, hfn, hs8, hs10, hMA, hMB, hcA, hcB, rfl, rfl⟩, rfl⟩, Out.refl _ _, ⟨rfl, trivial⟩⟩ ?_
          rintro ⟨i, pz, l0z, u0z, l1z, u1z⟩ w28 _ ⟨hil, hB1, hB3, hB23, hB25, h0, h1, hq0, hq1, hz0, hz1, hC, hU, hnLw, hiz0, hiz1, hEI, hrun⟩
          have hsz_ := hU.size
          refine W_seq ?_
          refine W_seq ?_
          refine W_reg ?_
          refine L_op rfl (X_move (v := (.int .i64 (((i : Nat) : Int)))) rfl ?_)
          refine L_op rfl (X_move (v := vC) rfl ?_)
          refine L_op rfl (X_len (v := vC) (n := (copL q).length) Try.underlying45 rfl hC.sv ?_)
          by_cases hc29 : (((i : Nat) : Int) : Int) < ((((copL q).length : Nat) : Int))
          ·refine L_op rfl (X_cmp (k := .i64) (a := ((i : Nat) : Int)) (b := (((copL q).length : Nat) : Int)) (r := true) rfl rfl rfl (decide_eq_true (p := ((((i : Nat) : Int)) : Int) < (((((copL q).length : Nat) : Int)) : Int)) (by omega)) ?_)
           have hi : i < (copL q).length := by omega
           obtain ⟨⟨di, a⟩, hat⟩ : ∃ e, (copL q)[i]? = some e := ⟨_, List.getElem?_eq_getElem hi⟩
           obtain ⟨hdi, ha0, ha1⟩ := copL_in hq (List.mem_of_getElem? hat)
           refine L_nil ?_
           refine T_n ?_
           refine W_ct rfl ?_
           refine W_skip ?_
           refine T_n ?_
           refine W_seq ?_
           refine W_block ?_
           refine W_seq ?_
           refine W_seq ?_
           refine W_reg ?_
           refine L_op rfl (X_move (v := vC) rfl ?_)
           refine L_op rfl (X_move (v := (.int .i64 (((i : Nat) : Int)))) rfl ?_)
           refine L_op rfl (X_idx (v := vC) (n := (copL q).length) (k := .i64) (i := ((i : Nat) : Int)) S45 rfl hC.sv rfl (by omega) (by omega) ?_)
           refine L_op rfl (X_idxAS (len := 2) (sz := 1) (v := vC) (o := (((i : Nat) : Int) : Int).toNat * 2) (k := .i64) (i := 0) (r := (((i : Nat) : Int) : Int).toNat * 2 + 0) Try.underlying47 Z3 rfl hC.sv (by omega) rfl (by omega) (by omega) rfl ?_)
           refine L_op rfl (X_load (p := (pof vC ((((i : Nat) : Int) : Int).toNat * 2 + 0))) (v := .int .i64 (di)) T3 rfl (cat0 hC (k := i) (by omega) hat) ?_)
           rcases hdi with rfl | rfl
           ·refine L_op rfl (X_cmp (k := .i64) (a := 0) (b := 0) (r := false) rfl rfl rfl rfl ?_)
            refine L_op rfl (X_move (v := (.bool (false))) rfl ?_)
            refine L_gy (dj := 107) rfl rfl rfl (X_move (v := vC) rfl ?_)
            refine L_gy (dj := 107) rfl rfl rfl (X_move (v := (.int .i64 (((i : Nat) : Int)))) rfl ?_)
            refine L_gy (dj := 107) rfl rfl rfl (X_idx (v := vC) (n := (copL q).length) (k := .i64) (i := ((i : Nat) : Int)) S45 rfl hC.sv rfl (by omega) (by omega) ?_)
            refine L_gy (dj := 107) rfl rfl rfl (X_idxAS (len := 2) (sz := 1) (v := vC) (o := (((i : Nat) : Int) : Int).toNat * 2) (k := .i64) (i := 0) (r := (((i : Nat) : Int) : Int).toNat * 2 + 0) Try.underlying47 Z3 rfl hC.sv (by omega) rfl (by omega) (by omega) rfl ?_)
            refine L_gy (dj := 107) rfl rfl rfl (X_load (p := (pof vC ((((i : Nat) : Int) : Int).toNat * 2 + 0))) (v := .int .i64 (0)) T3 rfl (cat0 hC (k := i) (by omega) hat) ?_)
            refine L_gy (dj := 107) rfl rfl rfl (X_cmp (k := .i64) (a := 0) (b := 1) (r := false) rfl rfl rfl rfl ?_)
            refine L_op rfl (X_pick (t := false) (v := (.bool (false))) rfl rfl ?_)
            refine L_nil ?_
            refine T_n ?_
            refine W_cf rfl ?_
            refine W_skip ?_
            refine T_n ?_
            refine W_seq ?_
            have haQ := cop_mem (List.mem_of_getElem? hat)
            obtain ⟨hput, hEI2⟩ := each_0 (pg := pg) hEI (by omega) (hinA a haQ).1 (hinA a haQ).2
            have hpt2 : (putD pz.da 0 a pg).2 = 0 := by rw [hput]
            have hfzz : pz.fz ≤ 1000000 := by have h_ : pz.fz < 0 := hEI.fz; omega
            obtain ⟨n12, hn12⟩ : ∃ n, n = w28.heap.size := ⟨_, rfl⟩
            have hlt12_hB1 := hB1.lt
            have hlt12_hB3 := hB3.lt
            have hlt12_hB23 := hB23.lt
            have hlt12_hB25 := hB25.lt
            refine W_drawT 18 [[], [], [], [1, 2], [1, 2, 3], [1, 2, 3, 4], [], [], [6, 7], [6, 7, 8], [6, 7, 8, 9], [], [0, 1, 2, 3, 4, 5, 6, 7, 8, 9, 10, 11], [0, 1, 2, 3, 4, 5, 6, 7, 8, 9, 10, 11, 12], [0, 1, 2, 3, 4, 5, 6, 7, 8, 9, 10, 11, 12, 13], [0, 1, 2, 3, 4, 5, 6, 7, 8, 9, 10, 11, 12, 13], [], [0, 1, 2, 3, 4, 5, 6, 7, 8, 9, 10, 11, 12, 13, 14, 16], [0, 1, 2, 3, 4, 5, 6, 7, 8, 9, 10, 11, 12, 13, 14, 15, 16, 17]] [[], [], [], [1, 2], [1, 2, 3], [1, 2, 3, 4], [], [], [6, 7], [6, 7, 8], [6, 7, 8, 9], [], [0, 1, 2, 3, 4, 5, 6, 7, 8, 9, 10, 11], [0, 1, 2, 3, 4, 5, 6, 7, 8, 9, 10, 11, 12], [0, 1, 2, 3, 4, 5, 6, 7, 8, 9, 10, 11, 12, 13], [0, 1, 2, 3, 4, 5, 6, 7, 8, 9, 10, 11, 13], [], [0, 1, 2, 3, 4, 5, 6, 7, 8, 9, 10, 11, 12, 13, 14, 16]] [0, 1, 2, 3, 4, 5, 6, 7, 8, 9, 10, 11, 13, 14, 15, 17] [[], [], [], [], [], [], [], [], [], [], [], [], [], [], [], [], [], [12, 16]] (fun j b => (j = 17 ∧ n12 ≤ b)) mixed (by kernel_rfl) (by decide) ?_
            refine ⟨.det (fun val => (.agg ([pz.d0.pv, pz.d0.cv, pz.d0.bv, (.bool (pz.d0.off)), pz.d1.pv, pz.d1.cv, pz.d1.bv, (.bool (pz.d1.off)), (.int .i64 (pz.fz)), (.bool (pz.dn))]).toArray)), ⟨fun _ _ hv => rfl, fun _ _ _ _ _ => trivial⟩, fun val h_ W hx he => ⟨trivial, ?_⟩, ?_⟩
            ·replace hx := (Upd.drew _ _).trans hx
             replace hx : Upd (fun b => False) w28 W := hx.mono fun b _ h_ => by obtain ⟨j, _, hne, hm_, hS⟩ := h_; obtain ⟨rfl, hS⟩ := hS; exact absurd hm_ (by decide)
             replace hB25 := hB25.ext hx
             have hE := Upd.refl (fun _ => False) W
             refine id (X_loadA (p := (ptr b25 (0))) (xs := [pz.d0.pv, pz.d0.cv, pz.d0.bv, (.bool (pz.d0.off)), pz.d1.pv, pz.d1.cv, pz.d1.bv, (.bool (pz.d1.off)), (.int .i64 (pz.fz)), (.bool (pz.dn))]) A29 rfl hB25.atAll rfl ?_)
             exact ⟨Ext.upd hE, rfl⟩
            refine ⟨.det (fun val => vC), ⟨fun _ _ hv => rfl, fun _ _ _ _ _ => trivial⟩, fun val h_ W hx he => ⟨trivial, ?_⟩, ?_⟩
            ·have hE := Upd.refl (fun _ => False) W
             refine id (X_move (v := vC) rfl ?_)
             exact ⟨Ext.upd hE, rfl⟩
            refine ⟨.det (fun val => (.int .i64 (((i : Nat) : Int)))), ⟨fun _ _ hv => rfl, fun _ _ _ _ _ => trivial⟩, fun val h_ W hx he => ⟨trivial, ?_⟩, ?_⟩
            ·have hE := Upd.refl (fun _ => False) W
             refine id (X_move (v := (.int .i64 (((i : Nat) : Int)))) rfl ?_)
             exact ⟨Ext.upd hE, rfl⟩
            refine ⟨.det (fun val => (pof vC ((((i : Nat) : Int) : Int).toNat * 2))), ⟨fun _ _ hv => rfl, fun _ _ _ _ _ => trivial⟩, fun val h_ W hx he => ⟨trivial, ?_⟩, ?_⟩
            ·replace hx := (Upd.drew _ _).trans hx
             replace hx : Upd (fun b => False) w28 W := hx.mono fun b _ h_ => by obtain ⟨j, _, hne, hm_, hS⟩ := h_; obtain ⟨rfl, hS⟩ := hS; exact absurd hm_ (by decide)
             replace hC := hC.ext hx
             have hE := Upd.refl (fun _ => False) W
             refine id (X_idx (v := vC) (n := (copL q).length) (k := .i64) (i := ((i : Nat) : Int)) S45 rfl hC.sv rfl (by omega) (by omega) ?_)
             exact ⟨Ext.upd hE, rfl⟩
            refine ⟨.det (fun val => (pof vC ((((i : Nat) : Int) : Int).toNat * 2 + 0))), ⟨fun _ _ hv => rfl, fun _ _ _ _ _ => trivial⟩, fun val h_ W hx he => ⟨trivial, ?_⟩, ?_⟩
            ·replace hx := (Upd.drew _ _).trans hx
             replace hx : Upd (fun b => False) w28 W := hx.mono fun b _ h_ => by obtain ⟨j, _, hne, hm_, hS⟩ := h_; obtain ⟨rfl, hS⟩ := hS; exact absurd hm_ (by decide)
             replace hC := hC.ext hx
             have hE := Upd.refl (fun _ => False) W
             refine id (X_idxAS (len := 2) (sz := 1) (v := vC) (o := (((i : Nat) : Int) : Int).toNat * 2) (k := .i64) (i := 0) (r := (((i : Nat) : Int) : Int).toNat * 2 + 0) Try.underlying47 Z3 rfl hC.sv (by omega) rfl (by omega) (by omega) rfl ?_)
             exact ⟨Ext.upd hE, rfl⟩
            refine ⟨.det (fun val => (.int .i64 (0))), ⟨fun _ _ hv => rfl, fun _ _ _ _ _ => trivial⟩, fun val h_ W hx he => ⟨trivial, ?_⟩, ?_⟩
            ·replace hx := (Upd.drew _ _).trans hx
             replace hx : Upd (fun b => False) w28 W := hx.mono fun b _ h_ => by obtain ⟨j, _, hne, hm_, hS⟩ := h_; obtain ⟨rfl, hS⟩ := hS; exact absurd hm_ (by decide)
             replace hC := hC.ext hx
             have hE := Upd.refl (fun _ => False) W
             refine id (X_load (p := (pof vC ((((i : Nat) : Int) : Int).toNat * 2 + 0))) (v := .int .i64 (0)) T3 rfl (cat0 hC (k := i) (by omega) hat) ?_)
             exact ⟨Ext.upd hE, rfl⟩
            refine ⟨.det (fun val => vC), ⟨fun _ _ hv => rfl, fun _ _ _ _ _ => trivial⟩, fun val h_ W hx he => ⟨trivial, ?_⟩, ?_⟩
            ·have hE := Upd.refl (fun _ => False) W
             refine id (X_move (v := vC) rfl ?_)
             exact ⟨Ext.upd hE, rfl⟩
            refine ⟨.det (fun val => (.int .i64 (((i : Nat) : Int)))), ⟨fun _ _ hv => rfl, fun _ _ _ _ _ => trivial⟩, fun val h_ W hx he => ⟨trivial, ?_⟩, ?_⟩
            ·have hE := Upd.refl (fun _ => False) W
             refine id (X_move (v := (.int .i64 (((i : Nat) : Int)))) rfl ?_)
             exact ⟨Ext.upd hE, rfl⟩
            refine ⟨.det (fun val => (pof vC ((((i : Nat) : Int) : Int).toNat * 2))), ⟨fun _ _ hv => rfl, fun _ _ _ _ _ => trivial⟩, fun val h_ W hx he => ⟨trivial, ?_⟩, ?_⟩
            ·replace hx := (Upd.drew _ _).trans hx
             replace hx : Upd (fun b => False) w28 W := hx.mono fun b _ h_ => by obtain ⟨j, _, hne, hm_, hS⟩ := h_; obtain ⟨rfl, hS⟩ := hS; exact absurd hm_ (by decide)
             replace hC := hC.ext hx
             have hE := Upd.refl (fun _ => False) W
             refine id (X_idx (v := vC) (n := (copL q).length) (k := .i64) (i := ((i : Nat) : Int)) S45 rfl hC.sv rfl (by omega) (by omega) ?_)
             exact ⟨Ext.upd hE, rfl⟩
            refine ⟨.det (fun val => (pof vC ((((i : Nat) : Int) : Int).toNat * 2 + 1))), ⟨fun _ _ hv => rfl, fun _ _ _ _ _ => trivial⟩, fun val h_ W hx he => ⟨trivial, ?_⟩, ?_⟩
            ·replace hx := (Upd.drew _ _).trans hx
             replace hx : Upd (fun b => False) w28 W := hx.mono fun b _ h_ => by obtain ⟨j, _, hne, hm_, hS⟩ := h_; obtain ⟨rfl, hS⟩ := hS; exact absurd hm_ (by decide)
             replace hC := hC.ext hx
             have hE := Upd.refl (fun _ => False) W
             refine id (X_idxAS (len := 2) (sz := 1) (v := vC) (o := (((i : Nat) : Int) : Int).toNat * 2) (k := .i64) (i := 1) (r := (((i : Nat) : Int) : Int).toNat * 2 + 1) Try.underlying47 Z3 rfl hC.sv (by omega) rfl (by omega) (by omega) rfl ?_)
             exact ⟨Ext.upd hE, rfl⟩
            refine ⟨.det (fun val => (.int .i64 (a))), ⟨fun _ _ hv => rfl, fun _ _ _ _ _ => trivial⟩, fun val h_ W hx he => ⟨trivial, ?_⟩, ?_⟩
            ·replace hx := (Upd.drew _ _).trans hx
             replace hx : Upd (fun b => False) w28 W := hx.mono fun b _ h_ => by obtain ⟨j, _, hne, hm_, hS⟩ := h_; obtain ⟨rfl, hS⟩ := hS; exact absurd hm_ (by decide)
             replace hC := hC.ext hx
             have hE := Upd.refl (fun _ => False) W
             refine id (X_load (p := (pof vC ((((i : Nat) : Int) : Int).toNat * 2 + 1))) (v := .int .i64 (a)) T3 rfl (cat1 hC (k := i) (by omega) hat) ?_)
             exact ⟨Ext.upd hE, rfl⟩
            refine ⟨.det (fun val => (.agg (((pg.1).map byteV)).toArray)), ⟨fun _ _ hv => rfl, fun _ _ _ _ _ => trivial⟩, fun val h_ W hx he => ⟨trivial, ?_⟩, ?_⟩
            ·replace hx := (Upd.drew _ _).trans hx
             replace hx : Upd (fun b => False) w28 W := hx.mono fun b _ h_ => by obtain ⟨j, _, hne, hm_, hS⟩ := h_; obtain ⟨rfl, hS⟩ := hS; exact absurd hm_ (by decide)
             replace hB3 := hB3.ext hx
             have hE := Upd.refl (fun _ => False) W
             refine id (X_loadA (p := (ptr b3 (0))) (xs := ((pg.1).map byteV)) A37 rfl hB3.atAll (by rw [List.length_map]; exact pg.2) ?_)
             exact ⟨Ext.upd hE, rfl⟩
            refine ⟨.abs (fun _ x_ W_ => ∃ (p9 : Pr) (ra0 rb0 ra1 rb1 : Nat), x_ = .tuple #[.agg #[p9.d0.pv, p9.d0.cv, p9.d0.bv, .bool p9.d0.off, p9.d1.pv, p9.d1.cv, p9.d1.bv, .bool p9.d1.off, .int .i64 p9.fz, .bool p9.dn], .int .i64 0] ∧ p9.d0.Rd W_ ra0 rb0 ∧ p9.d1.Rd W_ ra1 rb1 ∧ (ra0 = l0z ∧ rb0 = u0z ∨ n12 ≤ ra0 ∧ rb0 ≤ W_.heap.size) ∧ (ra1 = l1z ∧ rb1 = u1z ∨ n12 ≤ ra1 ∧ rb1 ≤ W_.heap.size) ∧ (ra0 = l0z ∧ rb0 = u0z ∨ p9.d0.Ow W_ ra0 rb0) ∧ (ra1 = l1z ∧ rb1 = u1z ∨ p9.d1.Ow W_ ra1 rb1) ∧ p9.da = (putD pz.da 0 a pg).1), ⟨fun _ _ _ => rfl, fun _ _ _ _ hu0 h => have hu : Upd (fun b => False) _ _ := hu0.mono fun b _ h_ => (by obtain ⟨j, _, hne, hm_, hk_, hS⟩ := h_; obtain ⟨rfl, hS⟩ := hS; exact absurd hk_ (by decide))
             (by obtain ⟨p9, ra0, rb0, ra1, rb1, e1, e2, e3, e4, e5, e6, e7, e8⟩ := h; have hs_ := hu.size; exact ⟨p9, ra0, rb0, ra1, rb1, e1, e2.ext hu, e3.ext hu, by omega, by omega, e6.imp id fun h_ => h_.ext hu, e7.imp id fun h_ => h_.ext hu, e8⟩)⟩, fun val h_ W hx he => ⟨trivial, ?_⟩, ?_⟩
            ·replace hx := (Upd.drew _ _).trans hx
             replace hx : Upd (fun b => False) w28 W := hx.mono fun b _ h_ => by obtain ⟨j, _, hne, hm_, hS⟩ := h_; obtain ⟨rfl, hS⟩ := hS; exact absurd hm_ (by decide)
             replace hz0 := hz0.ext hx
             replace hz1 := hz1.ext hx
             have hxs := hx.size
             have hcr_ := c_putA0 pz a pg W hfzz l0z u0z l1z u1z (by omega) (by omega) hz0 hz1 ((may_sz hEI.ma).mono (by decide))
             refine X_fn (vs := [(.agg ([pz.d0.pv, pz.d0.cv, pz.d0.bv, (.bool (pz.d0.off)), pz.d1.pv, pz.d1.cv, pz.d1.bv, (.bool (pz.d1.off)), (.int .i64 (pz.fz)), (.bool (pz.dn))]).toArray), (.int .i64 (0)), (.int .i64 (a)), (.agg (((pg.1).map byteV)).toArray)]) en21 rfl ?_
             refine CT.mono hcr_ ?_
             clear hcr_
             rintro _ w9 ⟨p9, ra0, rb0, ra1, rb1, rfl, h90, h91, i90, i91, o90, o91, d9, hu9⟩
             rw [hpt2]
             exact ⟨Ext.upd hu9, p9, ra0, rb0, ra1, rb1, rfl, h90, h91, by omega, by omega, o90, o91, d9⟩
            refine ⟨.abs (fun val x_ _ => x_ = val 12 ∧ ∃ y, x_ = .tuple #[y, .int .i64 0]), ⟨fun _ _ hv => by simp only [hv 12 rfl], fun _ _ _ _ _ h => h⟩, fun val h_ W hx he => ⟨trivial, ?_⟩, ?_⟩
            ·have hE := Upd.refl (fun _ => False) W
             obtain ⟨⟨p9, ra0, rb0, ra1, rb1, e1, _⟩, _⟩ := he
             refine X_move (v := val 12) rfl ?_
             exact ⟨Ext.upd hE, rfl, _, e1⟩
            refine ⟨.abs (fun val x_ _ => ∀ y z, val 13 = .tuple #[y, z] → x_ = y), ⟨fun _ _ hv => by simp only [hv 13 rfl], fun _ _ _ _ _ h => h⟩, fun val h_ W hx he => ⟨trivial, ?_⟩, ?_⟩
            ·have hE := Upd.refl (fun _ => False) W
             obtain ⟨⟨e13, y, f13⟩, _⟩ := he
             refine X_extract (l := [y, .int .i64 0]) (v := y) f13 rfl ?_
             exact ⟨Ext.upd hE, fun y2 z2 h => by rw [f13] at h; cases h; rfl⟩
            refine ⟨.det (fun _ => .int .i64 0), ⟨fun _ _ _ => rfl, fun _ _ _ _ _ => trivial⟩, fun val h_ W hx he => ⟨trivial, ?_⟩, ?_⟩
            ·have hE := Upd.refl (fun _ => False) W
             obtain ⟨⟨e13, y, f13⟩, _⟩ := he
             refine X_extract (l := [y, .int .i64 0]) (v := .int .i64 0) f13 rfl ?_
             exact ⟨Ext.upd hE, rfl⟩
            refine ⟨.abs (fun _ x_ W_ => ∃ b, x_ = ptr b 0 ∧ n12 ≤ b ∧ ∃ c, Blk W_ b c 29 ∧ c.size = 10), ⟨fun _ _ _ => rfl, fun _ _ _ _ hu0 h => have hu : Upd (fun b => False) _ _ := hu0.mono fun b _ h_ => (by obtain ⟨j, _, hne, hm_, hk_, hS⟩ := h_; obtain ⟨rfl, hS⟩ := hS; exact absurd hk_ (by decide))
             (by obtain ⟨b, e1, e2, c, e3, e4⟩ := h; exact ⟨b, e1, e2, c, e3.ext hu, e4⟩)⟩, fun val h_ W hx he => ⟨trivial, ?_⟩, ?_⟩
            ·replace hx := (Upd.drew _ _).trans hx
             replace hx : Upd (fun b => False) w28 W := hx.mono fun b _ h_ => by obtain ⟨j, _, hne, hm_, hS⟩ := h_; obtain ⟨rfl, hS⟩ := hS; exact absurd hm_ (by decide)
             refine X_alloc (z := .agg #[.slice none 0 0, .slice none 0 0, .slice none 0 0, .bool false, .slice none 0 0, .slice none 0 0, .slice none 0 0, .bool false, .int .i64 0, .bool false]) (c := #[.slice none 0 0, .slice none 0 0, .slice none 0 0, .bool false, .slice none 0 0, .slice none 0 0, .slice none 0 0, .bool false, .int .i64 0, .bool false]) Zv29 rfl ?_
             intro b w2 hn
             have hb29 := hn.blk
             have hxs := hx.size
             have hnn := hn.num
             exact ⟨Ext.upd hn.ext, b, rfl, by omega, _, hb29, rfl⟩
            refine ⟨.abs (fun val x_ W_ => ∃ (b : Nat) (p9 : Pr) (ra0 rb0 ra1 rb1 : Nat), val 16 = ptr b 0 ∧ n12 ≤ b ∧ Blk W_ b p9.cel.toArray 29 ∧ p9.d0.Rd W_ ra0 rb0 ∧ p9.d1.Rd W_ ra1 rb1 ∧ (ra0 = l0z ∧ rb0 = u0z ∨ n12 ≤ ra0 ∧ rb0 ≤ W_.heap.size) ∧ (ra1 = l1z ∧ rb1 = u1z ∨ n12 ≤ ra1 ∧ rb1 ≤ W_.heap.size) ∧ p9.da = (putD pz.da 0 a pg).1), ⟨fun _ _ hv => by simp only [hv 16 rfl], fun _ _ _ _ hu0 h => have hu : Upd (fun b => False) _ _ := hu0.mono fun b _ h_ => (by obtain ⟨j, _, hne, hm_, hk_, hS⟩ := h_; obtain ⟨rfl, hS⟩ := hS; exact absurd rfl hne)
             (by obtain ⟨b, p9, ra0, rb0, ra1, rb1, e1, e2, e3, e4, e5, e6, e7, e8⟩ := h; have hs_ := hu.size; exact ⟨b, p9, ra0, rb0, ra1, rb1, e1, e2, e3.ext hu, e4.ext hu, e5.ext hu, by omega, by omega, e8⟩)⟩, fun val h_ W hx he => ⟨trivial, ?_⟩, ?_⟩
            ·replace hx := (Upd.drew _ _).trans hx
             replace hx : Upd (fun b => False) w28 W := hx.mono fun b _ h_ => by obtain ⟨j, _, hne, hm_, hS⟩ := h_; obtain ⟨rfl, hS⟩ := hS; exact absurd rfl hne
             replace h1 := h1.ext hx
             obtain ⟨⟨b9, hb9, hbN9, c9, hB9, hc9⟩, e14, ⟨e13, _⟩, ⟨p9, ra0, rb0, ra1, rb1, e1, e2, e3, e4, e5, e6, e7, e8⟩, _⟩ := he
             have hxs := hx.size
             have h14 := e14 _ _ (e13.trans e1)
             refine X_storeW (b := b9) (ys := p9.cel) A29 hb9 h14 (Pr.one (lo := 0) (hi := rb0 + rb1) ⟨e2.mono (Nat.zero_le _) (Nat.le_add_right _ _), e3.mono (Nat.zero_le _) (Nat.le_add_left _ _)⟩) rfl hB9 hc9 ?_
             intro w7 hu7 hb7
             have hs7 := hu7.size
             have f0 : p9.d0.Rd w7 ra0 rb0 := e6.elim (fun h_ => e2.upd hu7 fun i h1 h2 h => by have h : i = b9 := h; omega) fun h_ => (h_.st hB9 hu7).rd
             have f1 : p9.d1.Rd w7 ra1 rb1 := e7.elim (fun h_ => e3.upd hu7 fun i h1 h2 h => by have h : i = b9 := h; omega) fun h_ => (h_.st hB9 hu7).rd
             exact ⟨hu7.mono fun b _ h => ⟨rfl, by subst h; exact hbN9⟩, b9, p9, ra0, rb0, ra1, rb1, hb9, hbN9, hb7, f0, f1, by omega, by omega, e8⟩
            intro val W30 hx30 he30
            replace hx30 := (Upd.drew _ _).trans hx30
            replace hx30 : Upd (fun b => (n12 ≤ b)) w28 W30 := hx30.mono fun b _ h_ => by obtain ⟨j, _, hS⟩ := h_; obtain ⟨rfl, hS⟩ := hS; exact hS
            have hz30 := hx30.size
            replace hB1 := hB1.upd hx30 fun h => by have h : n12 ≤ b1 := h; omega
            replace hB3 := hB3.upd hx30 fun h => by have h : n12 ≤ b3 := h; omega
            replace hB23 := hB23.upd hx30 fun h => by have h : n12 ≤ b23 := h; omega
            replace hB25 := hB25.upd hx30 fun h => by have h : n12 ≤ b25 := h; omega
            replace h0 := h0.upd hx30 fun i h1 h2 h => by have h : n12 ≤ i := h; omega
            replace h1 := h1.upd hx30 fun i h1 h2 h => by have h : n12 ≤ i := h; omega
            replace hq0 := hq0.upd hx30 fun i h1 h2 h => by have h : n12 ≤ i := h; omega
            replace hq1 := hq1.upd hx30 fun i h1 h2 h => by have h : n12 ≤ i := h; omega
            replace hz0 := hz0.upd hx30 fun i h1 h2 h => by have h : n12 ≤ i := h; omega
            replace hz1 := hz1.upd hx30 fun i h1 h2 h => by have h : n12 ≤ i := h; omega
            replace hC := hC.upd hx30 fun i h1 h2 h => by have h : n12 ≤ i := h; omega
            replace hU := hU.trans (hx30.mono fun i _ h => by have h : n12 ≤ i := h; show n0 ≤ i; omega)
            obtain ⟨⟨b16, p9, ra0, rb0, ra1, rb1, hb16, hbN16, hB16, h90, h91, i90, i91, d9⟩, he30⟩ := he30
            obtain ⟨e14, he30⟩ := he30
            obtain ⟨⟨e13, y13, f13⟩, he30⟩ := he30
            replace hB16 : Blk W30 b16 #[p9.d0.pv, p9.d0.cv, p9.d0.bv, (.bool (p9.d0.off)), p9.d1.pv, p9.d1.cv, p9.d1.bv, (.bool (p9.d1.off)), (.int .i64 (p9.fz)), (.bool (p9.dn))] 29 := hB16
            refine L_op rfl (X_assign (v := (.int .i64 (0))) rfl ?_)
            refine L_nil ?_
            refine T_n ?_
            refine W_seq ?_
            refine W_seq ?_
            refine W_draw 21 [[], [0], [0, 1], [0, 1, 2], [0, 1, 2], [0, 1, 2, 3, 4], [0, 1, 2, 3, 4, 5], [0, 1, 2, 3, 4, 5, 6], [0, 1, 2, 3, 4, 5, 6, 7], [0, 1, 2], [0, 1, 2, 3, 4, 5, 6, 7, 8, 9], [0, 1, 2, 3, 4, 5, 6, 7, 8, 9, 10], [0, 1, 2], [0, 1, 2], [0, 1, 2, 12, 13], [0, 1, 2, 12, 13, 14], [0, 1, 2, 12, 13, 14, 15], [0, 1, 2, 12, 13, 14, 15, 16], [0, 1, 2], [0, 1, 2, 12, 13, 14, 15, 16, 17, 18], [0, 1, 2, 12, 13, 14, 15, 16, 17, 18, 19], [0, 1, 2, 3, 4, 5, 6, 7, 8, 9, 10, 11, 12, 13, 14, 15, 16, 17, 18, 19, 20], [0, 1, 2, 3, 4, 5, 6, 7, 8, 9, 10, 11, 12, 13, 14, 15, 16, 17, 18, 19, 20, 21], [0, 1, 2, 3, 4, 5, 6, 7, 8, 9, 10, 11, 12, 13, 14, 15, 16, 17, 18, 19, 20, 21, 22]] mixed (by kernel_rfl) ?_
            refine ⟨.det (fun val => (.int .i64 (0))), ⟨fun _ _ hv => rfl, fun _ _ _ _ _ => trivial⟩, fun val h_ W hx he => ⟨trivial, ?_⟩, ?_⟩
            ·exact X_move (v := (.int .i64 (0))) rfl ⟨Upd.refl _ _, rfl⟩
            refine ⟨.det (fun val => (.bool (false))), ⟨fun _ _ hv => rfl, fun _ _ _ _ _ => trivial⟩, fun val h_ W hx he => ⟨trivial, ?_⟩, ?_⟩
            ·exact X_cmp (k := .i64) (a := 0) (b := 0) (r := false) rfl rfl rfl rfl ⟨Upd.refl _ _, rfl⟩
            refine ⟨.det (fun val => (.bool (false))), ⟨fun _ _ hv => rfl, fun _ _ _ _ _ => trivial⟩, fun val h_ W hx he => ⟨trivial, ?_⟩, ?_⟩
            ·exact X_move (v := (.bool (false))) rfl ⟨Upd.refl _ _, rfl⟩
            refine ⟨.det (fun val => vC), ⟨fun _ _ hv => rfl, fun _ _ _ _ _ => trivial⟩, fun val h_ W hx he => ⟨⟨133, rfl, rfl⟩, ?_⟩, ?_⟩
            ·exact X_move (v := vC) rfl ⟨Upd.refl _ _, rfl⟩
            refine ⟨.det (fun val => (.int .i64 (((i : Nat) : Int)))), ⟨fun _ _ hv => rfl, fun _ _ _ _ _ => trivial⟩, fun val h_ W hx he => ⟨⟨133, rfl, rfl⟩, ?_⟩, ?_⟩
            ·exact X_move (v := (.int .i64 (((i : Nat) : Int)))) rfl ⟨Upd.refl _ _, rfl⟩
            refine ⟨.det (fun val => (pof vC ((((i : Nat) : Int) : Int).toNat * 2))), ⟨fun _ _ hv => rfl, fun _ _ _ _ _ => trivial⟩, fun val h_ W hx he => ⟨⟨133, rfl, rfl⟩, ?_⟩, ?_⟩
            ·replace hx := (Upd.drew _ _).trans hx
             replace hC := hC.ext hx
             refine id (X_idx (v := vC) (n := (copL q).length) (k := .i64) (i := ((i : Nat) : Int)) S45 rfl hC.sv rfl (by omega) (by omega) ?_)
             exact ⟨Upd.refl _ _, rfl⟩
            refine ⟨.det (fun val => (pof vC ((((i : Nat) : Int) : Int).toNat * 2 + 0))), ⟨fun _ _ hv => rfl, fun _ _ _ _ _ => trivial⟩, fun val h_ W hx he => ⟨⟨133, rfl, rfl⟩, ?_⟩, ?_⟩
            ·replace hx := (Upd.drew _ _).trans hx
             replace hC := hC.ext hx
             refine id (X_idxAS (len := 2) (sz := 1) (v := vC) (o := (((i : Nat) : Int) : Int).toNat * 2) (k := .i64) (i := 0) (r := (((i : Nat) : Int) : Int).toNat * 2 + 0) Try.underlying47 Z3 rfl hC.sv (by omega) rfl (by omega) (by omega) rfl ?_)
             exact ⟨Upd.refl _ _, rfl⟩
            refine ⟨.det (fun val => (.int .i64 (0))), ⟨fun _ _ hv => rfl, fun _ _ _ _ _ => trivial⟩, fun val h_ W hx he => ⟨⟨133, rfl, rfl⟩, ?_⟩, ?_⟩
            ·replace hx := (Upd.drew _ _).trans hx
             replace hC := hC.ext hx
             refine id (X_load (p := (pof vC ((((i : Nat) : Int) : Int).toNat * 2 + 0))) (v := .int .i64 (0)) T3 rfl (cat0 hC (k := i) (by omega) hat) ?_)
             exact ⟨Upd.refl _ _, rfl⟩
            refine ⟨.det (fun val => (.int .i64 (1))), ⟨fun _ _ hv => rfl, fun _ _ _ _ _ => trivial⟩, fun val h_ W hx he => ⟨⟨133, rfl, rfl⟩, ?_⟩, ?_⟩
            ·exact X_arith (k := .i64) (a := 1) (b := 0) (r := 1) rfl rfl rfl rfl ⟨Upd.refl _ _, rfl⟩
            refine ⟨.det (fun val => (ptr b16 (0))), ⟨fun _ _ hv => rfl, fun _ _ _ _ _ => trivial⟩, fun val h_ W hx he => ⟨⟨133, rfl, rfl⟩, ?_⟩, ?_⟩
            ·exact X_fldP (b := b16) (o := 0) (r := 0) Fd29_0 hb16 rfl ⟨Upd.refl _ _, rfl⟩
            refine ⟨.det (fun val => (ptr b16 (4))), ⟨fun _ _ hv => rfl, fun _ _ _ _ _ => trivial⟩, fun val h_ W hx he => ⟨⟨133, rfl, rfl⟩, ?_⟩, ?_⟩
            ·exact X_idxAP (len := 2) (sz := 4) (b := b16) (o := 0) (k := .i64) (i := 1) (r := 4) Try.underlying27 Z26 rfl rfl (by omega) (by omega) rfl ⟨Upd.refl _ _, rfl⟩
            refine ⟨.det (fun val => (.agg #[p9.d1.pv, p9.d1.cv, p9.d1.bv, (.bool (p9.d1.off))])), ⟨fun _ _ hv => rfl, fun _ _ _ _ _ => trivial⟩, fun val h_ W hx he => ⟨⟨133, rfl, rfl⟩, ?_⟩, ?_⟩
            ·replace hx := (Upd.drew _ _).trans hx
             replace hB16 := hB16.ext hx
             refine id (X_loadA (p := (ptr b16 (4))) (xs := [p9.d1.pv, p9.d1.cv, p9.d1.bv, (.bool (p9.d1.off))]) A26 rfl (hB16.part (o := 4) (n := 4) rfl) rfl ?_)
             exact ⟨Upd.refl _ _, rfl⟩
            refine ⟨.det (fun val => vC), ⟨fun _ _ hv => rfl, fun _ _ _ _ _ => trivial⟩, fun val h_ W hx he => ⟨⟨133, rfl, rfl⟩, ?_⟩, ?_⟩
            ·exact X_move (v := vC) rfl ⟨Upd.refl _ _, rfl⟩
            refine ⟨.det (fun val => (.int .i64 (((i : Nat) : Int)))), ⟨fun _ _ hv => rfl, fun _ _ _ _ _ => trivial⟩, fun val h_ W hx he => ⟨⟨133, rfl, rfl⟩, ?_⟩, ?_⟩
            ·exact X_move (v := (.int .i64 (((i : Nat) : Int)))) rfl ⟨Upd.refl _ _, rfl⟩
            refine ⟨.det (fun val => (pof vC ((((i : Nat) : Int) : Int).toNat * 2))), ⟨fun _ _ hv => rfl, fun _ _ _ _ _ => trivial⟩, fun val h_ W hx he => ⟨⟨133, rfl, rfl⟩, ?_⟩, ?_⟩
            ·replace hx := (Upd.drew _ _).trans hx
             replace hC := hC.ext hx
             refine id (X_idx (v := vC) (n := (copL q).length) (k := .i64) (i := ((i : Nat) : Int)) S45 rfl hC.sv rfl (by omega) (by omega) ?_)
             exact ⟨Upd.refl _ _, rfl⟩
            refine ⟨.det (fun val => (pof vC ((((i : Nat) : Int) : Int).toNat * 2 + 0))), ⟨fun _ _ hv => rfl, fun _ _ _ _ _ => trivial⟩, fun val h_ W hx he => ⟨⟨133, rfl, rfl⟩, ?_⟩, ?_⟩
            ·replace hx := (Upd.drew _ _).trans hx
             replace hC := hC.ext hx
             refine id (X_idxAS (len := 2) (sz := 1) (v := vC) (o := (((i : Nat) : Int) : Int).toNat * 2) (k := .i64) (i := 0) (r := (((i : Nat) : Int) : Int).toNat * 2 + 0) Try.underlying47 Z3 rfl hC.sv (by omega) rfl (by omega) (by omega) rfl ?_)
             exact ⟨Upd.refl _ _, rfl⟩
            refine ⟨.det (fun val => (.int .i64 (0))), ⟨fun _ _ hv => rfl, fun _ _ _ _ _ => trivial⟩, fun val h_ W hx he => ⟨⟨133, rfl, rfl⟩, ?_⟩, ?_⟩
            ·replace hx := (Upd.drew _ _).trans hx
             replace hC := hC.ext hx
             refine id (X_load (p := (pof vC ((((i : Nat) : Int) : Int).toNat * 2 + 0))) (v := .int .i64 (0)) T3 rfl (cat0 hC (k := i) (by omega) hat) ?_)
             exact ⟨Upd.refl _ _, rfl⟩
            refine ⟨.det (fun val => (.int .i64 (1))), ⟨fun _ _ hv => rfl, fun _ _ _ _ _ => trivial⟩, fun val h_ W hx he => ⟨⟨133, rfl, rfl⟩, ?_⟩, ?_⟩
            ·exact X_arith (k := .i64) (a := 1) (b := 0) (r := 1) rfl rfl rfl rfl ⟨Upd.refl _ _, rfl⟩
            refine ⟨.det (fun val => (ptr b25 (0))), ⟨fun _ _ hv => rfl, fun _ _ _ _ _ => trivial⟩, fun val h_ W hx he => ⟨⟨133, rfl, rfl⟩, ?_⟩, ?_⟩
            ·exact X_fldP (b := b25) (o := 0) (r := 0) Fd29_0 rfl rfl ⟨Upd.refl _ _, rfl⟩
            refine ⟨.det (fun val => (ptr b25 (4))), ⟨fun _ _ hv => rfl, fun _ _ _ _ _ => trivial⟩, fun val h_ W hx he => ⟨⟨133, rfl, rfl⟩, ?_⟩, ?_⟩
            ·exact X_idxAP (len := 2) (sz := 4) (b := b25) (o := 0) (k := .i64) (i := 1) (r := 4) Try.underlying27 Z26 rfl rfl (by omega) (by omega) rfl ⟨Upd.refl _ _, rfl⟩
            refine ⟨.det (fun val => (.agg #[pz.d1.pv, pz.d1.cv, pz.d1.bv, (.bool (pz.d1.off))])), ⟨fun _ _ hv => rfl, fun _ _ _ _ _ => trivial⟩, fun val h_ W hx he => ⟨⟨133, rfl, rfl⟩, ?_⟩, ?_⟩
            ·replace hx := (Upd.drew _ _).trans hx
             replace hB25 := hB25.ext hx
             refine id (X_loadA (p := (ptr b25 (4))) (xs := [pz.d1.pv, pz.d1.cv, pz.d1.bv, (.bool (pz.d1.off))]) A26 rfl (hB25.part (o := 4) (n := 4) rfl) rfl ?_)
             exact ⟨Upd.refl _ _, rfl⟩
            intro val W31 hx31 he31
            replace hx31 := (Upd.drew _ _).trans hx31
            have hz31 := hx31.size
            replace hB1 := hB1.ext hx31
            replace hB3 := hB3.ext hx31
            replace hB23 := hB23.ext hx31
            replace hB25 := hB25.ext hx31
            replace h0 := h0.ext hx31
            replace h1 := h1.ext hx31
            replace hq0 := hq0.ext hx31
            replace hq1 := hq1.ext hx31
            replace hz0 := hz0.ext hx31
            replace hz1 := hz1.ext hx31
            replace hC := hC.ext hx31
            replace hU := hU.trans (Ext.upd hx31)
            replace hB16 := hB16.ext hx31
            replace h90 := h90.ext hx31
            replace h91 := h91.ext hx31
            have hcr_ := c_sameRD p9.d1 pz.d1 W31 ra1 rb1 l1z u1z h91 hz1
            refine L_gy (dj := 133) rfl rfl rfl (X_fn (vs := [(.agg #[p9.d1.pv, p9.d1.cv, p9.d1.bv, (.bool (p9.d1.off))]), (.agg #[pz.d1.pv, pz.d1.cv, pz.d1.bv, (.bool (pz.d1.off))])]) en13 rfl ?_)
            refine CT.mono hcr_ ?_
            clear hcr_
            rintro _ w32 ⟨⟨g32, rfl, hg32⟩, hu32⟩
            have hz32 := hu32.size
            replace hB1 := hB1.ext hu32
            replace hB3 := hB3.ext hu32
            replace hB23 := hB23.ext hu32
            replace hB25 := hB25.ext hu32
            replace h0 := h0.ext hu32
            replace h1 := h1.ext hu32
            replace hq0 := hq0.ext hu32
            replace hq1 := hq1.ext hu32
            replace hz0 := hz0.ext hu32
            replace hz1 := hz1.ext hu32
            replace hC := hC.ext hu32
            replace hU := hU.trans (Ext.upd hu32)
            replace hB16 := hB16.ext hu32
            replace h90 := h90.ext hu32
            replace h91 := h91.ext hu32
            obtain rfl : g32 = true := hg32.2 (by have h_ : p9.da.b = (putD pz.da 0 a pg).1.b := congrArg PD.b d9; rw [hput] at h_; exact h_)
            refine L_gy (dj := 133) rfl rfl rfl (X_not (b := true) (r := false) rfl rfl ?_)
            refine L_op rfl (X_pick (t := false) (v := (.bool (false))) rfl rfl ?_)
            refine L_nil ?_
            refine T_n ?_
            refine W_cf rfl ?_
            refine W_skip ?_
            refine T_n ?_
            refine W_reg ?_
            refine L_op rfl (X_loadA (xs := [p9.d0.pv, p9.d0.cv, p9.d0.bv, (.bool (p9.d0.off)), p9.d1.pv, p9.d1.cv, p9.d1.bv, (.bool (p9.d1.off)), (.int .i64 (p9.fz)), (.bool (p9.dn))]) A29 hb16 hB16.atAll rfl ?_)
            refine L_op0 (X_storeW (b := b25) (ys := [p9.d0.pv, p9.d0.cv, p9.d0.bv, (.bool (p9.d0.off)), p9.d1.pv, p9.d1.cv, p9.d1.bv, (.bool (p9.d1.off)), (.int .i64 (p9.fz)), (.bool (p9.dn))]) A29 rfl rfl (List.forall_mem_cons.2 ⟨(h90.1.sv.one), (List.forall_mem_cons.2 ⟨(h90.2.1.sv.one), (List.forall_mem_cons.2 ⟨(h90.2.2.sv.one), (List.forall_mem_cons.2 ⟨rfl, (List.forall_mem_cons.2 ⟨(h91.1.sv.one), (List.forall_mem_cons.2 ⟨(h91.2.1.sv.one), (List.forall_mem_cons.2 ⟨(h91.2.2.sv.one), (List.forall_mem_cons.2 ⟨rfl, (List.forall_mem_cons.2 ⟨rfl, (List.forall_mem_cons.2 ⟨rfl, (fun _ h => by cases h)⟩)⟩)⟩)⟩)⟩)⟩)⟩)⟩)⟩)⟩) rfl hB25 rfl ?_)
            intro w33 hu33 hb33
            have hz33 := hu33.size
            replace hB1 := hB1.upd hu33 fun h => by have h : b1 = b25 := h; omega
            replace hB3 := hB3.upd hu33 fun h => by have h : b3 = b25 := h; omega
            replace hB23 := hB23.upd hu33 fun h => by have h : b23 = b25 := h; omega
            replace h0 := h0.upd hu33 fun i h1 h2 h => by have h : i = b25 := h; omega
            replace h1 := h1.upd hu33 fun i h1 h2 h => by have h : i = b25 := h; omega
            replace hq0 := hq0.upd hu33 fun i h1 h2 h => by have h : i = b25 := h; omega
            replace hq1 := hq1.upd hu33 fun i h1 h2 h => by have h : i = b25 := h; omega
            replace hz0 := hz0.upd hu33 fun i h1 h2 h => by have h : i = b25 := h; omega
            replace hz1 := hz1.upd hu33 fun i h1 h2 h => by have h : i = b25 := h; omega
            replace hC := hC.upd hu33 fun i h1 h2 h => by have h : i = b25 := h; omega
            replace hU := hU.trans (hu33.mono fun i _ h => by have h : i = b25 := h; show n0 ≤ i; omega)
            replace hB16 := hB16.upd hu33 fun h => by have h : b16 = b25 := h; omega
            replace h90 := h90.upd hu33 fun i h1 h2 h => by have h : i = b25 := h; omega
            replace h91 := h91.upd hu33 fun i h1 h2 h => by have h : i = b25 := h; omega
            replace hB25 : Blk w33 b25 #[p9.d0.pv, p9.d0.cv, p9.d0.bv, (.bool (p9.d0.off)), p9.d1.pv, p9.d1.cv, p9.d1.bv, (.bool (p9.d1.off)), (.int .i64 (p9.fz)), (.bool (p9.dn))] 29 := hb33
            refine L_nil ?_
            refine B_n ?_
            refine T_n ?_
            refine W_reg ?_
            refine L_op rfl (X_move (v := (.int .i64 (((i : Nat) : Int)))) rfl ?_)
            refine L_op rfl (X_arith (k := .i64) (a := ((i : Nat) : Int)) (b := 1) (r := ((i + 1 : Nat) : Int)) rfl rfl rfl (iadd64 (by omega) (by omega) (by omega)) ?_)
            refine L_op rfl (X_assign (v := (.int .i64 (((i + 1 : Nat) : Int)))) rfl ?_)
            refine L_nil ?_
            refine T_n ?_
            exact ⟨rfl, (i + 1, p9, ra0, rb0, ra1, rb1), ⟨⟨hi, hB1, hB3, hB23, hB25, h0, h1, hq0, hq1, h90, h91, hC, hU, by omega, by omega, by omega, by rw [d9]; exact hEI2, by rw [hrun, drop_at hat, run_ok (show (PD.dk pz.da (Int.toNat 0)).off = false from hEI.oa) (by show (putD pz.da 0 a pg).2 = 0; exact hpt2)]; show runL pg (putD pz.da 0 a pg).1 _ = _; rw [← d9]⟩, (by show (copL q).length - (i + 1) < (copL q).length - i; omega)⟩, (Out.mk rfl), ⟨rfl, trivial⟩⟩
           ·refine L_op rfl (X_cmp (k := .i64) (a := 1) (b := 0) (r := false) rfl rfl rfl rfl ?_)
            refine L_op rfl (X_move (v := (.bool (false))) rfl ?_)
            refine L_gy (dj := 107) rfl rfl rfl (X_move (v := vC) rfl ?_)
            refine L_gy (dj := 107) rfl rfl rfl (X_move (v := (.int .i64 (((i : Nat) : Int)))) rfl ?_)
            refine L_gy (dj := 107) rfl rfl rfl (X_idx (v := vC) (n := (copL q).length) (k := .i64) (i := ((i : Nat) : Int)) S45 rfl hC.sv rfl (by omega) (by omega) ?_)
            refine L_gy (dj := 107) rfl rfl rfl (X_idxAS (len := 2) (sz := 1) (v := vC) (o := (((i : Nat) : Int) : Int).toNat * 2) (k := .i64) (i := 0) (r := (((i : Nat) : Int) : Int).toNat * 2 + 0) Try.underlying47 Z3 rfl hC.sv (by omega) rfl (by omega) (by omega) rfl ?_)
            refine L_gy (dj := 107) rfl rfl rfl (X_load (p := (pof vC ((((i : Nat) : Int) : Int).toNat * 2 + 0))) (v := .int .i64 (1)) T3 rfl (cat0 hC (k := i) (by omega) hat) ?_)
            refine L_gy (dj := 107) rfl rfl rfl (X_cmp (k := .i64) (a := 1) (b := 1) (r := false) rfl rfl rfl rfl ?_)
            refine L_op rfl (X_pick (t := false) (v := (.bool (false))) rfl rfl ?_)
            refine L_nil ?_
            refine T_n ?_
            refine W_cf rfl ?_
            refine W_skip ?_
            refine T_n ?_
            refine W_seq ?_
            have haQ := cop_mem (List.mem_of_getElem? hat)
            obtain ⟨hput, hEI2⟩ := each_1 (pg := pg) hEI (by omega) (hinB a haQ).1 (hinB a haQ).2
            have hpt2 : (putD pz.da 1 a pg).2 = 0 := by rw [hput]
            have hfzz : pz.fz ≤ 1000000 := by have h_ : pz.fz < 0 := hEI.fz; omega
            obtain ⟨n12, hn12⟩ : ∃ n, n = w28.heap.size := ⟨_, rfl⟩
            have hlt12_hB1 := hB1.lt
            have hlt12_hB3 := hB3.lt
            have hlt12_hB23 := hB23.lt
            have hlt12_hB25 := hB25.lt
            refine W_drawT 18 [[], [], [], [1, 2], [1, 2, 3], [1, 2, 3, 4], [], [], [6, 7], [6, 7, 8], [6, 7, 8, 9], [], [0, 1, 2, 3, 4, 5, 6, 7, 8, 9, 10, 11], [0, 1, 2, 3, 4, 5, 6, 7, 8, 9, 10, 11, 12], [0, 1, 2, 3, 4, 5, 6, 7, 8, 9, 10, 11, 12, 13], [0, 1, 2, 3, 4, 5, 6, 7, 8, 9, 10, 11, 12, 13], [], [0, 1, 2, 3, 4, 5, 6, 7, 8, 9, 10, 11, 12, 13, 14, 16], [0, 1, 2, 3, 4, 5, 6, 7, 8, 9, 10, 11, 12, 13, 14, 15, 16, 17]] [[], [], [], [1, 2], [1, 2, 3], [1, 2, 3, 4], [], [], [6, 7], [6, 7, 8], [6, 7, 8, 9], [], [0, 1, 2, 3, 4, 5, 6, 7, 8, 9, 10, 11], [0, 1, 2, 3, 4, 5, 6, 7, 8, 9, 10, 11, 12], [0, 1, 2, 3, 4, 5, 6, 7, 8, 9, 10, 11, 12, 13], [0, 1, 2, 3, 4, 5, 6, 7, 8, 9, 10, 11, 13], [], [0, 1, 2, 3, 4, 5, 6, 7, 8, 9, 10, 11, 12, 13, 14, 16]] [0, 1, 2, 3, 4, 5, 6, 7, 8, 9, 10, 11, 13, 14, 15, 17] [[], [], [], [], [], [], [], [], [], [], [], [], [], [], [], [], [], [12, 16]] (fun j b => (j = 17 ∧ n12 ≤ b)) mixed (by kernel_rfl) (by decide) ?_
            refine ⟨.det (fun val => (.agg ([pz.d0.pv, pz.d0.cv, pz.d0.bv, (.bool (pz.d0.off)), pz.d1.pv, pz.d1.cv, pz.d1.bv, (.bool (pz.d1.off)), (.int .i64 (pz.fz)), (.bool (pz.dn))]).toArray)), ⟨fun _ _ hv => rfl, fun _ _ _ _ _ => trivial⟩, fun val h_ W hx he => ⟨trivial, ?_⟩, ?_⟩
            ·replace hx := (Upd.drew _ _).trans hx
             replace hx : Upd (fun b => False) w28 W := hx.mono fun b _ h_ => by obtain ⟨j, _, hne, hm_, hS⟩ := h_; obtain ⟨rfl, hS⟩ := hS; exact absurd hm_ (by decide)
             replace hB25 := hB25.ext hx
             have hE := Upd.refl (fun _ => False) W
             refine id (X_loadA (p := (ptr b25 (0))) (xs := [pz.d0.pv, pz.d0.cv, pz.d0.bv, (.bool (pz.d0.off)), pz.d1.pv, pz.d1.cv, pz.d1.bv, (.bool (pz.d1.off)), (.int .i64 (pz.fz)), (.bool (pz.dn))]) A29 rfl hB25.atAll rfl ?_)
             exact ⟨Ext.upd hE, rfl⟩
            refine ⟨.det (fun val => vC), ⟨fun _ _ hv => rfl, fun _ _ _ _ _ => trivial⟩, fun val h_ W hx he => ⟨trivial, ?_⟩, ?_⟩
            ·have hE := Upd.refl (fun _ => False) W
             refine id (X_move (v := vC) rfl ?_)
             exact ⟨Ext.upd hE, rfl⟩
            refine ⟨.det (fun val => (.int .i64 (((i : Nat) : Int)))), ⟨fun _ _ hv => rfl, fun _ _ _ _ _ => trivial⟩, fun val h_ W hx he => ⟨trivial, ?_⟩, ?_⟩
            ·have hE := Upd.refl (fun _ => False) W
             refine id (X_move (v := (.int .i64 (((i : Nat) : Int)))) rfl ?_)
             exact ⟨Ext.upd hE, rfl⟩
            refine ⟨.det (fun val => (pof vC ((((i : Nat) : Int) : Int).toNat * 2))), ⟨fun _ _ hv => rfl, fun _ _ _ _ _ => trivial⟩, fun val h_ W hx he => ⟨trivial, ?_⟩, ?_⟩
            ·replace hx := (Upd.drew _ _).trans hx
             replace hx : Upd (fun b => False) w28 W := hx.mono fun b _ h_ => by obtain ⟨j, _, hne, hm_, hS⟩ := h_; obtain ⟨rfl, hS⟩ := hS; exact absurd hm_ (by decide)
             replace hC := hC.ext hx
             have hE := Upd.refl (fun _ => False) W
             refine id (X_idx (v := vC) (n := (copL q).length) (k := .i64) (i := ((i : Nat) : Int)) S45 rfl hC.sv rfl (by omega) (by omega) ?_)
             exact ⟨Ext.upd hE, rfl⟩
            refine ⟨.det (fun val => (pof vC ((((i : Nat) : Int) : Int).toNat * 2 + 0))), ⟨fun _ _ hv => rfl, fun _ _ _ _ _ => trivial⟩, fun val h_ W hx he => ⟨trivial, ?_⟩, ?_⟩
            ·replace hx := (Upd.drew _ _).trans hx
             replace hx : Upd (fun b => False) w28 W := hx.mono fun b _ h_ => by obtain ⟨j, _, hne, hm_, hS⟩ := h_; obtain ⟨rfl, hS⟩ := hS; exact absurd hm_ (by decide)
             replace hC := hC.ext hx
             have hE := Upd.refl (fun _ => False) W
             refine id (X_idxAS (len := 2) (sz := 1) (v := vC) (o := (((i : Nat) : Int) : Int).toNat * 2) (k := .i64) (i := 0) (r := (((i : Nat) : Int) : Int).toNat * 2 + 0) Try.underlying47 Z3 rfl hC.sv (by omega) rfl (by omega) (by omega) rfl ?_)
             exact ⟨Ext.upd hE, rfl⟩
            refine ⟨.det (fun val => (.int .i64 (1))), ⟨fun _ _ hv => rfl, fun _ _ _ _ _ => trivial⟩, fun val h_ W hx he => ⟨trivial, ?_⟩, ?_⟩
            ·replace hx := (Upd.drew _ _).trans hx
             replace hx : Upd (fun b => False) w28 W := hx.mono fun b _ h_ => by obtain ⟨j, _, hne, hm_, hS⟩ := h_; obtain ⟨rfl, hS⟩ := hS; exact absurd hm_ (by decide)
             replace hC := hC.ext hx
             have hE := Upd.refl (fun _ => False) W
             refine id (X_load (p := (pof vC ((((i : Nat) : Int) : Int).toNat * 2 + 0))) (v := .int .i64 (1)) T3 rfl (cat0 hC (k := i) (by omega) hat) ?_)
             exact ⟨Ext.upd hE, rfl⟩
            refine ⟨.det (fun val => vC), ⟨fun _ _ hv => rfl, fun _ _ _ _ _ => trivial⟩, fun val h_ W hx he => ⟨trivial, ?_⟩, ?_⟩
            ·have hE := Upd.refl (fun _ => False) W
             refine id (X_move (v := vC) rfl ?_)
             exact ⟨Ext.upd hE, rfl⟩
            refine ⟨.det (fun val => (.int .i64 (((i : Nat) : Int)))), ⟨fun _ _ hv => rfl, fun _ _ _ _ _ => trivial⟩, fun val h_ W hx he => ⟨trivial, ?_⟩, ?_⟩
            ·have hE := Upd.refl (fun _ => False) W
             refine id (X_move (v := (.int .i64 (((i : Nat) : Int)))) rfl ?_)
             exact ⟨Ext.upd hE, rfl⟩
            refine ⟨.det (fun val => (pof vC ((((i : Nat) : Int) : Int).toNat * 2))), ⟨fun _ _ hv => rfl, fun _ _ _ _ _ => trivial⟩, fun val h_ W hx he => ⟨trivial, ?_⟩, ?_⟩
            ·replace hx := (Upd.drew _ _).trans hx
             replace hx : Upd (fun b => False) w28 W := hx.mono fun b _ h_ => by obtain ⟨j, _, hne, hm_, hS⟩ := h_; obtain ⟨rfl, hS⟩ := hS; exact absurd hm_ (by decide)
             replace hC := hC.ext hx
             have hE := Upd.refl (fun _ => False) W
             refine id (X_idx (v := vC) (n := (copL q).length) (k := .i64) (i := ((i : Nat) : Int)) S45 rfl hC.sv rfl (by omega) (by omega) ?_)
             exact ⟨Ext.upd hE, rfl⟩
            refine ⟨.det (fun val => (pof vC ((((i : Nat) : Int) : Int).toNat * 2 + 1))), ⟨fun _ _ hv => rfl, fun _ _ _ _ _ => trivial⟩, fun val h_ W hx he => ⟨trivial, ?_⟩, ?_⟩
            ·replace hx := (Upd.drew _ _).trans hx
             replace hx : Upd (fun b => False) w28 W := hx.mono fun b _ h_ => by obtain ⟨j, _, hne, hm_, hS⟩ := h_; obtain ⟨rfl, hS⟩ := hS; exact absurd hm_ (by decide)
             replace hC := hC.ext hx
             have hE := Upd.refl (fun _ => False) W
             refine id (X_idxAS (len := 2) (sz := 1) (v := vC) (o := (((i : Nat) : Int) : Int).toNat * 2) (k := .i64) (i := 1) (r := (((i : Nat) : Int) : Int).toNat * 2 + 1) Try.underlying47 Z3 rfl hC.sv (by omega) rfl (by omega) (by omega) rfl ?_)
             exact ⟨Ext.upd hE, rfl⟩
            refine ⟨.det (fun val => (.int .i64 (a))), ⟨fun _ _ hv => rfl, fun _ _ _ _ _ => trivial⟩, fun val h_ W hx he => ⟨trivial, ?_⟩, ?_⟩
            ·replace hx := (Upd.drew _ _).trans hx
             replace hx : Upd (fun b => False) w28 W := hx.mono fun b _ h_ => by obtain ⟨j, _, hne, hm_, hS⟩ := h_; obtain ⟨rfl, hS⟩ := hS; exact absurd hm_ (by decide)
             replace hC := hC.ext hx
             have hE := Upd.refl (fun _ => False) W
             refine id (X_load (p := (pof vC ((((i : Nat) : Int) : Int).toNat * 2 + 1))) (v := .int .i64 (a)) T3 rfl (cat1 hC (k := i) (by omega) hat) ?_)
             exact ⟨Ext.upd hE, rfl⟩
            refine ⟨.det (fun val => (.agg (((pg.1).map byteV)).toArray)), ⟨fun _ _ hv => rfl, fun _ _ _ _ _ => trivial⟩, fun val h_ W hx he => ⟨trivial, ?_⟩, ?_⟩
            ·replace hx := (Upd.drew _ _).trans hx
             replace hx : Upd (fun b => False) w28 W := hx.mono fun b _ h_ => by obtain ⟨j, _, hne, hm_, hS⟩ := h_; obtain ⟨rfl, hS⟩ := hS; exact absurd hm_ (by decide)
             replace hB3 := hB3.ext hx
             have hE := Upd.refl (fun _ => False) W
             refine id (X_loadA (p := (ptr b3 (0))) (xs := ((pg.1).map byteV)) A37 rfl hB3.atAll (by rw [List.length_map]; exact pg.2) ?_)
             exact ⟨Ext.upd hE, rfl⟩
            refine ⟨.abs (fun _ x_ W_ => ∃ (p9 : Pr) (ra0 rb0 ra1 rb1 : Nat), x_ = .tuple #[.agg #[p9.d0.pv, p9.d0.cv, p9.d0.bv, .bool p9.d0.off, p9.d1.pv, p9.d1.cv, p9.d1.bv, .bool p9.d1.off, .int .i64 p9.fz, .bool p9.dn], .int .i64 0] ∧ p9.d0.Rd W_ ra0 rb0 ∧ p9.d1.Rd W_ ra1 rb1 ∧ (ra0 = l0z ∧ rb0 = u0z ∨ n12 ≤ ra0 ∧ rb0 ≤ W_.heap.size) ∧ (ra1 = l1z ∧ rb1 = u1z ∨ n12 ≤ ra1 ∧ rb1 ≤ W_.heap.size) ∧ (ra0 = l0z ∧ rb0 = u0z ∨ p9.d0.Ow W_ ra0 rb0) ∧ (ra1 = l1z ∧ rb1 = u1z ∨ p9.d1.Ow W_ ra1 rb1) ∧ p9.da = (putD pz.da 1 a pg).1), ⟨fun _ _ _ => rfl, fun _ _ _ _ hu0 h => have hu : Upd (fun b => False) _ _ := hu0.mono fun b _ h_ => (by obtain ⟨j, _, hne, hm_, hk_, hS⟩ := h_; obtain ⟨rfl, hS⟩ := hS; exact absurd hk_ (by decide))
             (by obtain ⟨p9, ra0, rb0, ra1, rb1, e1, e2, e3, e4, e5, e6, e7, e8⟩ := h; have hs_ := hu.size; exact ⟨p9, ra0, rb0, ra1, rb1, e1, e2.ext hu, e3.ext hu, by omega, by omega, e6.imp id fun h_ => h_.ext hu, e7.imp id fun h_ => h_.ext hu, e8⟩)⟩, fun val h_ W hx he => ⟨trivial, ?_⟩, ?_⟩
            ·replace hx := (Upd.drew _ _).trans hx
             replace hx : Upd (fun b => False) w28 W := hx.mono fun b _ h_ => by obtain ⟨j, _, hne, hm_, hS⟩ := h_; obtain ⟨rfl, hS⟩ := hS; exact absurd hm_ (by decide)
             replace hz0 := hz0.ext hx
             replace hz1 := hz1.ext hx
             have hxs := hx.size
             have hcr_ := c_putA1 pz a pg W hfzz l0z u0z l1z u1z (by omega) (by omega) hz0 hz1 ((may_sz hEI.mb).mono (by decide))
             refine X_fn (vs := [(.agg ([pz.d0.pv, pz.d0.cv, pz.d0.bv, (.bool (pz.d0.off)), pz.d1.pv, pz.d1.cv, pz.d1.bv, (.bool (pz.d1.off)), (.int .i64 (pz.fz)), (.bool (pz.dn))]).toArray), (.int .i64 (1)), (.int .i64 (a)), (.agg (((pg.1).map byteV)).toArray)]) en21 rfl ?_
             refine CT.mono hcr_ ?_
             clear hcr_
             rintro _ w9 ⟨p9, ra0, rb0, ra1, rb1, rfl, h90, h91, i90, i91, o90, o91, d9, hu9⟩
             rw [hpt2]
             exact ⟨Ext.upd hu9, p9, ra0, rb0, ra1, rb1, rfl, h90, h91, by omega, by omega, o90, o91, d9⟩
            refine ⟨.abs (fun val x_ _ => x_ = val 12 ∧ ∃ y, x_ = .tuple #[y, .int .i64 0]), ⟨fun _ _ hv => by simp only [hv 12 rfl], fun _ _ _ _ _ h => h⟩, fun val h_ W hx he => ⟨trivial, ?_⟩, ?_⟩
            ·have hE := Upd.refl (fun _ => False) W
             obtain ⟨⟨p9, ra0, rb0, ra1, rb1, e1, _⟩, _⟩ := he
             refine X_move (v := val 12) rfl ?_
             exact ⟨Ext.upd hE, rfl, _, e1⟩
            refine ⟨.abs (fun val x_ _ => ∀ y z, val 13 = .tuple #[y, z] → x_ = y), ⟨fun _ _ hv => by simp only [hv 13 rfl], fun _ _ _ _ _ h => h⟩, fun val h_ W hx he => ⟨trivial, ?_⟩, ?_⟩
            ·have hE := Upd.refl (fun _ => False) W
             obtain ⟨⟨e13, y, f13⟩, _⟩ := he
             refine X_extract (l := [y, .int .i64 0]) (v := y) f13 rfl ?_
             exact ⟨Ext.upd hE, fun y2 z2 h => by rw [f13] at h; cases h; rfl⟩
            refine ⟨.det (fun _ => .int .i64 0), ⟨fun _ _ _ => rfl, fun _ _ _ _ _ => trivial⟩, fun val h_ W hx he => ⟨trivial, ?_⟩, ?_⟩
            ·have hE := Upd.refl (fun _ => False) W
             obtain ⟨⟨e13, y, f13⟩, _⟩ := he
             refine X_extract (l := [y, .int .i64 0]) (v := .int .i64 0) f13 rfl ?_
             exact ⟨Ext.upd hE, rfl⟩
            refine ⟨.abs (fun _ x_ W_ => ∃ b, x_ = ptr b 0 ∧ n12 ≤ b ∧ ∃ c, Blk W_ b c 29 ∧ c.size = 10), ⟨fun _ _ _ => rfl, fun _ _ _ _ hu0 h => have hu : Upd (fun b => False) _ _ := hu0.mono fun b _ h_ => (by obtain ⟨j, _, hne, hm_, hk_, hS⟩ := h_; obtain ⟨rfl, hS⟩ := hS; exact absurd hk_ (by decide))
             (by obtain ⟨b, e1, e2, c, e3, e4⟩ := h; exact ⟨b, e1, e2, c, e3.ext hu, e4⟩)⟩, fun val h_ W hx he => ⟨trivial, ?_⟩, ?_⟩
            ·replace hx := (Upd.drew _ _).trans hx
             replace hx : Upd (fun b => False) w28 W := hx.mono fun b _ h_ => by obtain ⟨j, _, hne, hm_, hS⟩ := h_; obtain ⟨rfl, hS⟩ := hS; exact absurd hm_ (by decide)
             refine X_alloc (z := .agg #[.slice none 0 0, .slice none 0 0, .slice none 0 0, .bool false, .slice none 0 0, .slice none 0 0, .slice none 0 0, .bool false, .int .i64 0, .bool false]) (c := #[.slice none 0 0, .slice none 0 0, .slice none 0 0, .bool false, .slice none 0 0, .slice none 0 0, .slice none 0 0, .bool false, .int .i64 0, .bool false]) Zv29 rfl ?_
             intro b w2 hn
             have hb29 := hn.blk
             have hxs := hx.size
             have hnn := hn.num
             exact ⟨Ext.upd hn.ext, b, rfl, by omega, _, hb29, rfl⟩
            refine ⟨.abs (fun val x_ W_ => ∃ (b : Nat) (p9 : Pr) (ra0 rb0 ra1 rb1 : Nat), val 16 = ptr b 0 ∧ n12 ≤ b ∧ Blk W_ b p9.cel.toArray 29 ∧ p9.d0.Rd W_ ra0 rb0 ∧ p9.d1.Rd W_ ra1 rb1 ∧ (ra0 = l0z ∧ rb0 = u0z ∨ n12 ≤ ra0 ∧ rb0 ≤ W_.heap.size) ∧ (ra1 = l1z ∧ rb1 = u1z ∨ n12 ≤ ra1 ∧ rb1 ≤ W_.heap.size) ∧ p9.da = (putD pz.da 1 a pg).1), ⟨fun _ _ hv => by simp only [hv 16 rfl], fun _ _ _ _ hu0 h => have hu : Upd (fun b => False) _ _ := hu0.mono fun b _ h_ => (by obtain ⟨j, _, hne, hm_, hk_, hS⟩ := h_; obtain ⟨rfl, hS⟩ := hS; exact absurd rfl hne)
             (by obtain ⟨b, p9, ra0, rb0, ra1, rb1, e1, e2, e3, e4, e5, e6, e7, e8⟩ := h; have hs_ := hu.size; exact ⟨b, p9, ra0, rb0, ra1, rb1, e1, e2, e3.ext hu, e4.ext hu, e5.ext hu, by omega, by omega, e8⟩)⟩, fun val h_ W hx he => ⟨trivial, ?_⟩, ?_⟩
            ·replace hx := (Upd.drew _ _).trans hx
             replace hx : Upd (fun b => False) w28 W := hx.mono fun b _ h_ => by obtain ⟨j, _, hne, hm_, hS⟩ := h_; obtain ⟨rfl, hS⟩ := hS; exact absurd rfl hne
             replace h1 := h1.ext hx
             obtain ⟨⟨b9, hb9, hbN9, c9, hB9, hc9⟩, e14, ⟨e13, _⟩, ⟨p9, ra0, rb0, ra1, rb1, e1, e2, e3, e4, e5, e6, e7, e8⟩, _⟩ := he
             have hxs := hx.size
             have h14 := e14 _ _ (e13.trans e1)
             refine X_storeW (b := b9) (ys := p9.cel) A29 hb9 h14 (Pr.one (lo := 0) (hi := rb0 + rb1) ⟨e2.mono (Nat.zero_le _) (Nat.le_add_right _ _), e3.mono (Nat.zero_le _) (Nat.le_add_left _ _)⟩) rfl hB9 hc9 ?_
             intro w7 hu7 hb7
             have hs7 := hu7.size
             have f0 : p9.d0.Rd w7 ra0 rb0 := e6.elim (fun h_ => e2.upd hu7 fun i h1 h2 h => by have h : i = b9 := h; omega) fun h_ => (h_.st hB9 hu7).rd
             have f1 : p9.d1.Rd w7 ra1 rb1 := e7.elim (fun h_ => e3.upd hu7 fun i h1 h2 h => by have h : i = b9 := h; omega) fun h_ => (h_.st hB9 hu7).rd
             exact ⟨hu7.mono fun b _ h => ⟨rfl, by subst h; exact hbN9⟩, b9, p9, ra0, rb0, ra1, rb1, hb9, hbN9, hb7, f0, f1, by omega, by omega, e8⟩
            intro val W34 hx34 he34
            replace hx34 := (Upd.drew _ _).trans hx34
            replace hx34 : Upd (fun b => (n12 ≤ b)) w28 W34 := hx34.mono fun b _ h_ => by obtain ⟨j, _, hS⟩ := h_; obtain ⟨rfl, hS⟩ := hS; exact hS
            have hz34 := hx34.size
            replace hB1 := hB1.upd hx34 fun h => by have h : n12 ≤ b1 := h; omega
            replace hB3 := hB3.upd hx34 fun h => by have h : n12 ≤ b3 := h; omega
            replace hB23 := hB23.upd hx34 fun h => by have h : n12 ≤ b23 := h; omega
            replace hB25 := hB25.upd hx34 fun h => by have h : n12 ≤ b25 := h; omega
            replace h0 := h0.upd hx34 fun i h1 h2 h => by have h : n12 ≤ i := h; omega
            replace h1 := h1.upd hx34 fun i h1 h2 h => by have h : n12 ≤ i := h; omega
            replace hq0 := hq0.upd hx34 fun i h1 h2 h => by have h : n12 ≤ i := h; omega
            replace hq1 := hq1.upd hx34 fun i h1 h2 h => by have h : n12 ≤ i := h; omega
            replace hz0 := hz0.upd hx34 fun i h1 h2 h => by have h : n12 ≤ i := h; omega
            replace hz1 := hz1.upd hx34 fun i h1 h2 h => by have h : n12 ≤ i := h; omega
            replace hC := hC.upd hx34 fun i h1 h2 h => by have h : n12 ≤ i := h; omega
            replace hU := hU.trans (hx34.mono fun i _ h => by have h : n12 ≤ i := h; show n0 ≤ i; omega)
            obtain ⟨⟨b16, p9, ra0, rb0, ra1, rb1, hb16, hbN16, hB16, h90, h91, i90, i91, d9⟩, he34⟩ := he34
            obtain ⟨e14, he34⟩ := he34
            obtain ⟨⟨e13, y13, f13⟩, he34⟩ := he34
            replace hB16 : Blk W34 b16 #[p9.d0.pv, p9.d0.cv, p9.d0.bv, (.bool (p9.d0.off)), p9.d1.pv, p9.d1.cv, p9.d1.bv, (.bool (p9.d1.off)), (.int .i64 (p9.fz)), (.bool (p9.dn))] 29 := hB16
            refine L_op rfl (X_assign (v := (.int .i64 (0))) rfl ?_)
            refine L_nil ?_
            refine T_n ?_
            refine W_seq ?_
            refine W_seq ?_
            refine W_draw 21 [[], [0], [0, 1], [0, 1, 2], [0, 1, 2], [0, 1, 2, 3, 4], [0, 1, 2, 3, 4, 5], [0, 1, 2, 3, 4, 5, 6], [0, 1, 2, 3, 4, 5, 6, 7], [0, 1, 2], [0, 1, 2, 3, 4, 5, 6, 7, 8, 9], [0, 1, 2, 3, 4, 5, 6, 7, 8, 9, 10], [0, 1, 2], [0, 1, 2], [0, 1, 2, 12, 13], [0, 1, 2, 12, 13, 14], [0, 1, 2, 12, 13, 14, 15], [0, 1, 2, 12, 13, 14, 15, 16], [0, 1, 2], [0, 1, 2, 12, 13, 14, 15, 16, 17, 18], [0, 1, 2, 12, 13, 14, 15, 16, 17, 18, 19], [0, 1, 2, 3, 4, 5, 6, 7, 8, 9, 10, 11, 12, 13, 14, 15, 16, 17, 18, 19, 20], [0, 1, 2, 3, 4, 5, 6, 7, 8, 9, 10, 11, 12, 13, 14, 15, 16, 17, 18, 19, 20, 21], [0, 1, 2, 3, 4, 5, 6, 7, 8, 9, 10, 11, 12, 13, 14, 15, 16, 17, 18, 19, 20, 21, 22]] mixed (by kernel_rfl) ?_
            refine ⟨.det (fun val => (.int .i64 (0))), ⟨fun _ _ hv => rfl, fun _ _ _ _ _ => trivial⟩, fun val h_ W hx he => ⟨trivial, ?_⟩, ?_⟩
            ·exact X_move (v := (.int .i64 (0))) rfl ⟨Upd.refl _ _, rfl⟩
            refine ⟨.det (fun val => (.bool (false))), ⟨fun _ _ hv => rfl, fun _ _ _ _ _ => trivial⟩, fun val h_ W hx he => ⟨trivial, ?_⟩, ?_⟩
            ·exact X_cmp (k := .i64) (a := 0) (b := 0) (r := false) rfl rfl rfl rfl ⟨Upd.refl _ _, rfl⟩
            refine ⟨.det (fun val => (.bool (false))), ⟨fun _ _ hv => rfl, fun _ _ _ _ _ => trivial⟩, fun val h_ W hx he => ⟨trivial, ?_⟩, ?_⟩
            ·exact X_move (v := (.bool (false))) rfl ⟨Upd.refl _ _, rfl⟩
            refine ⟨.det (fun val => vC), ⟨fun _ _ hv => rfl, fun _ _ _ _ _ => trivial⟩, fun val h_ W hx he => ⟨⟨133, rfl, rfl⟩, ?_⟩, ?_⟩
            ·exact X_move (v := vC) rfl ⟨Upd.refl _ _, rfl⟩
            refine ⟨.det (fun val => (.int .i64 (((i : Nat) : Int)))), ⟨fun _ _ hv => rfl, fun _ _ _ _ _ => trivial⟩, fun val h_ W hx he => ⟨⟨133, rfl, rfl⟩, ?_⟩, ?_⟩
            ·exact X_move (v := (.int .i64 (((i : Nat) : Int)))) rfl ⟨Upd.refl _ _, rfl⟩
            refine ⟨.det (fun val => (pof vC ((((i : Nat) : Int) : Int).toNat * 2))), ⟨fun _ _ hv => rfl, fun _ _ _ _ _ => trivial⟩, fun val h_ W hx he => ⟨⟨133, rfl, rfl⟩, ?_⟩, ?_⟩
            ·replace hx := (Upd.drew _ _).trans hx
             replace hC := hC.ext hx
             refine id (X_idx (v := vC) (n := (copL q).length) (k := .i64) (i := ((i : Nat) : Int)) S45 rfl hC.sv rfl (by omega) (by omega) ?_)
             exact ⟨Upd.refl _ _, rfl⟩
            refine ⟨.det (fun val => (pof vC ((((i : Nat) : Int) : Int).toNat * 2 + 0))), ⟨fun _ _ hv => rfl, fun _ _ _ _ _ => trivial⟩, fun val h_ W hx he => ⟨⟨133, rfl, rfl⟩, ?_⟩, ?_⟩
            ·replace hx := (Upd.drew _ _).trans hx
             replace hC := hC.ext hx
             refine id (X_idxAS (len := 2) (sz := 1) (v := vC) (o := (((i : Nat) : Int) : Int).toNat * 2) (k := .i64) (i := 0) (r := (((i : Nat) : Int) : Int).toNat * 2 + 0) Try.underlying47 Z3 rfl hC.sv (by omega) rfl (by omega) (by omega) rfl ?_)
             exact ⟨Upd.refl _ _, rfl⟩
            refine ⟨.det (fun val => (.int .i64 (1))), ⟨fun _ _ hv => rfl, fun _ _ _ _ _ => trivial⟩, fun val h_ W hx he => ⟨⟨133, rfl, rfl⟩, ?_⟩, ?_⟩
            ·replace hx := (Upd.drew _ _).trans hx
             replace hC := hC.ext hx
             refine id (X_load (p := (pof vC ((((i : Nat) : Int) : Int).toNat * 2 + 0))) (v := .int .i64 (1)) T3 rfl (cat0 hC (k := i) (by omega) hat) ?_)
             exact ⟨Upd.refl _ _, rfl⟩
            refine ⟨.det (fun val => (.int .i64 (0))), ⟨fun _ _ hv => rfl, fun _ _ _ _ _ => trivial⟩, fun val h_ W hx he => ⟨⟨133, rfl, rfl⟩, ?_⟩, ?_⟩
            ·exact X_arith (k := .i64) (a := 1) (b := 1) (r := 0) rfl rfl rfl rfl ⟨Upd.refl _ _, rfl⟩
            refine ⟨.det (fun val => (ptr b16 (0))), ⟨fun _ _ hv => rfl, fun _ _ _ _ _ => trivial⟩, fun val h_ W hx he => ⟨⟨133, rfl, rfl⟩, ?_⟩, ?_⟩
            ·exact X_fldP (b := b16) (o := 0) (r := 0) Fd29_0 hb16 rfl ⟨Upd.refl _ _, rfl⟩
            refine ⟨.det (fun val => (ptr b16 (0))), ⟨fun _ _ hv => rfl, fun _ _ _ _ _ => trivial⟩, fun val h_ W hx he => ⟨⟨133, rfl, rfl⟩, ?_⟩, ?_⟩
            ·exact X_idxAP (len := 2) (sz := 4) (b := b16) (o := 0) (k := .i64) (i := 0) (r := 0) Try.underlying27 Z26 rfl rfl (by omega) (by omega) rfl ⟨Upd.refl _ _, rfl⟩
            refine ⟨.det (fun val => (.agg #[p9.d0.pv, p9.d0.cv, p9.d0.bv, (.bool (p9.d0.off))])), ⟨fun _ _ hv => rfl, fun _ _ _ _ _ => trivial⟩, fun val h_ W hx he => ⟨⟨133, rfl, rfl⟩, ?_⟩, ?_⟩
            ·replace hx := (Upd.drew _ _).trans hx
             replace hB16 := hB16.ext hx
             refine id (X_loadA (p := (ptr b16 (0))) (xs := [p9.d0.pv, p9.d0.cv, p9.d0.bv, (.bool (p9.d0.off))]) A26 rfl (hB16.part (o := 0) (n := 4) rfl) rfl ?_)
             exact ⟨Upd.refl _ _, rfl⟩
            refine ⟨.det (fun val => vC), ⟨fun _ _ hv => rfl, fun _ _ _ _ _ => trivial⟩, fun val h_ W hx he => ⟨⟨133, rfl, rfl⟩, ?_⟩, ?_⟩
            ·exact X_move (v := vC) rfl ⟨Upd.refl _ _, rfl⟩
            refine ⟨.det (fun val => (.int .i64 (((i : Nat) : Int)))), ⟨fun _ _ hv => rfl, fun _ _ _ _ _ => trivial⟩, fun val h_ W hx he => ⟨⟨133, rfl, rfl⟩, ?_⟩, ?_⟩
            ·exact X_move (v := (.int .i64 (((i : Nat) : Int)))) rfl ⟨Upd.refl _ _, rfl⟩
            refine ⟨.det (fun val => (pof vC ((((i : Nat) : Int) : Int).toNat * 2))), ⟨fun _ _ hv => rfl, fun _ _ _ _ _ => trivial⟩, fun val h_ W hx he => ⟨⟨133, rfl, rfl⟩, ?_⟩, ?_⟩
            ·replace hx := (Upd.drew _ _).trans hx
             replace hC := hC.ext hx
             refine id (X_idx (v := vC) (n := (copL q).length) (k := .i64) (i := ((i : Nat) : Int)) S45 rfl hC.sv rfl (by omega) (by omega) ?_)
             exact ⟨Upd.refl _ _, rfl⟩
            refine ⟨.det (fun val => (pof vC ((((i : Nat) : Int) : Int).toNat * 2 + 0))), ⟨fun _ _ hv => rfl, fun _ _ _ _ _ => trivial⟩, fun val h_ W hx he => ⟨⟨133, rfl, rfl⟩, ?_⟩, ?_⟩
            ·replace hx := (Upd.drew _ _).trans hx
             replace hC := hC.ext hx
             refine id (X_idxAS (len := 2) (sz := 1) (v := vC) (o := (((i : Nat) : Int) : Int).toNat * 2) (k := .i64) (i := 0) (r := (((i : Nat) : Int) : Int).toNat * 2 + 0) Try.underlying47 Z3 rfl hC.sv (by omega) rfl (by omega) (by omega) rfl ?_)
             exact ⟨Upd.refl _ _, rfl⟩
            refine ⟨.det (fun val => (.int .i64 (1))), ⟨fun _ _ hv => rfl, fun _ _ _ _ _ => trivial⟩, fun val h_ W hx he => ⟨⟨133, rfl, rfl⟩, ?_⟩, ?_⟩
            ·replace hx := (Upd.drew _ _).trans hx
             replace hC := hC.ext hx
             refine id (X_load (p := (pof vC ((((i : Nat) : Int) : Int).toNat * 2 + 0))) (v := .int .i64 (1)) T3 rfl (cat0 hC (k := i) (by omega) hat) ?_)
             exact ⟨Upd.refl _ _, rfl⟩
            refine ⟨.det (fun val => (.int .i64 (0))), ⟨fun _ _ hv => rfl, fun _ _ _ _ _ => trivial⟩, fun val h_ W hx he => ⟨⟨133, rfl, rfl⟩, ?_⟩, ?_⟩
            ·exact X_arith (k := .i64) (a := 1) (b := 1) (r := 0) rfl rfl rfl rfl ⟨Upd.refl _ _, rfl⟩
            refine ⟨.det (fun val => (ptr b25 (0))), ⟨fun _ _ hv => rfl, fun _ _ _ _ _ => trivial⟩, fun val h_ W hx he => ⟨⟨133, rfl, rfl⟩, ?_⟩, ?_⟩
            ·exact X_fldP (b := b25) (o := 0) (r := 0) Fd29_0 rfl rfl ⟨Upd.refl _ _, rfl⟩
            refine ⟨.det (fun val => (ptr b25 (0))), ⟨fun _ _ hv => rfl, fun _ _ _ _ _ => trivial⟩, fun val h_ W hx he => ⟨⟨133, rfl, rfl⟩, ?_⟩, ?_⟩
            ·exact X_idxAP (len := 2) (sz := 4) (b := b25) (o := 0) (k := .i64) (i := 0) (r := 0) Try.underlying27 Z26 rfl rfl (by omega) (by omega) rfl ⟨Upd.refl _ _, rfl⟩
            refine ⟨.det (fun val => (.agg #[pz.d0.pv, pz.d0.cv, pz.d0.bv, (.bool (pz.d0.off))])), ⟨fun _ _ hv => rfl, fun _ _ _ _ _ => trivial⟩, fun val h_ W hx he => ⟨⟨133, rfl, rfl⟩, ?_⟩, ?_⟩
            ·replace hx := (Upd.drew _ _).trans hx
             replace hB25 := hB25.ext hx
             refine id (X_loadA (p := (ptr b25 (0))) (xs := [pz.d0.pv, pz.d0.cv, pz.d0.bv, (.bool (pz.d0.off))]) A26 rfl (hB25.part (o := 0) (n := 4) rfl) rfl ?_)
             exact ⟨Upd.refl _ _, rfl⟩
            intro val W35 hx35 he35
            replace hx35 := (Upd.drew _ _).trans hx35
            have hz35 := hx35.size
            replace hB1 := hB1.ext hx35
            replace hB3 := hB3.ext hx35
            replace hB23 := hB23.ext hx35
            replace hB25 := hB25.ext hx35
            replace h0 := h0.ext hx35
            replace h1 := h1.ext hx35
            replace hq0 := hq0.ext hx35
            replace hq1 := hq1.ext hx35
            replace hz0 := hz0.ext hx35
            replace hz1 := hz1.ext hx35
            replace hC := hC.ext hx35
            replace hU := hU.trans (Ext.upd hx35)
            replace hB16 := hB16.ext hx35
            replace h90 := h90.ext hx35
            replace h91 := h91.ext hx35
            have hcr_ := c_sameRD p9.d0 pz.d0 W35 ra0 rb0 l0z u0z h90 hz0
            refine L_gy (dj := 133) rfl rfl rfl (X_fn (vs := [(.agg #[p9.d0.pv, p9.d0.cv, p9.d0.bv, (.bool (p9.d0.off))]), (.agg #[pz.d0.pv, pz.d0.cv, pz.d0.bv, (.bool (pz.d0.off))])]) en13 rfl ?_)
            refine CT.mono hcr_ ?_
            clear hcr_
            rintro _ w36 ⟨⟨g36, rfl, hg36⟩, hu36⟩
            have hz36 := hu36.size
            replace hB1 := hB1.ext hu36
            replace hB3 := hB3.ext hu36
            replace hB23 := hB23.ext hu36
            replace hB25 := hB25.ext hu36
            replace h0 := h0.ext hu36
            replace h1 := h1.ext hu36
            replace hq0 := hq0.ext hu36
            replace hq1 := hq1.ext hu36
            replace hz0 := hz0.ext hu36
            replace hz1 := hz1.ext hu36
            replace hC := hC.ext hu36
            replace hU := hU.trans (Ext.upd hu36)
            replace hB16 := hB16.ext hu36
            replace h90 := h90.ext hu36
            replace h91 := h91.ext hu36
            obtain rfl : g36 = true := hg36.2 (by have h_ : p9.da.a = (putD pz.da 1 a pg).1.a := congrArg PD.a d9; rw [hput] at h_; exact h_)
            refine L_gy (dj := 133) rfl rfl rfl (X_not (b := true) (r := false) rfl rfl ?_)
            refine L_op rfl (X_pick (t := false) (v := (.bool (false))) rfl rfl ?_)
            refine L_nil ?_
            refine T_n ?_
            refine W_cf rfl ?_
            refine W_skip ?_
            refine T_n ?_
            refine W_reg ?_
            refine L_op rfl (X_loadA (xs := [p9.d0.pv, p9.d0.cv, p9.d0.bv, (.bool (p9.d0.off)), p9.d1.pv, p9.d1.cv, p9.d1.bv, (.bool (p9.d1.off)), (.int .i64 (p9.fz)), (.bool (p9.dn))]) A29 hb16 hB16.atAll rfl ?_)
            refine L_op0 (X_storeW (b := b25) (ys := [p9.d0.pv, p9.d0.cv, p9.d0.bv, (.bool (p9.d0.off)), p9.d1.pv, p9.d1.cv, p9.d1.bv, (.bool (p9.d1.off)), (.int .i64 (p9.fz)), (.bool (p9.dn))]) A29 rfl rfl (List.forall_mem_cons.2 ⟨(h90.1.sv.one), (List.forall_mem_cons.2 ⟨(h90.2.1.sv.one), (List.forall_mem_cons.2 ⟨(h90.2.2.sv.one), (List.forall_mem_cons.2 ⟨rfl, (List.forall_mem_cons.2 ⟨(h91.1.sv.one), (List.forall_mem_cons.2 ⟨(h91.2.1.sv.one), (List.forall_mem_cons.2 ⟨(h91.2.2.sv.one), (List.forall_mem_cons.2 ⟨rfl, (List.forall_mem_cons.2 ⟨rfl, (List.forall_mem_cons.2 ⟨rfl, (fun _ h => by cases h)⟩)⟩)⟩)⟩)⟩)⟩)⟩)⟩)⟩)⟩) rfl hB25 rfl ?_)
            intro w37 hu37 hb37
            have hz37 := hu37.size
            replace hB1 := hB1.upd hu37 fun h => by have h : b1 = b25 := h; omega
            replace hB3 := hB3.upd hu37 fun h => by have h : b3 = b25 := h; omega
            replace hB23 := hB23.upd hu37 fun h => by have h : b23 = b25 := h; omega
            replace h0 := h0.upd hu37 fun i h1 h2 h => by have h : i = b25 := h; omega
            replace h1 := h1.upd hu37 fun i h1 h2 h => by have h : i = b25 := h; omega
            replace hq0 := hq0.upd hu37 fun i h1 h2 h => by have h : i = b25 := h; omega
            replace hq1 := hq1.upd hu37 fun i h1 h2 h => by have h : i = b25 := h; omega
            replace hz0 := hz0.upd hu37 fun i h1 h2 h => by have h : i = b25 := h; omega
            replace hz1 := hz1.upd hu37 fun i h1 h2 h => by have h : i = b25 := h; omega
            replace hC := hC.upd hu37 fun i h1 h2 h => by have h : i = b25 := h; omega
            replace hU := hU.trans (hu37.mono fun i _ h => by have h : i = b25 := h; show n0 ≤ i; omega)
            replace hB16 := hB16.upd hu37 fun h => by have h : b16 = b25 := h; omega
            replace h90 := h90.upd hu37 fun i h1 h2 h => by have h : i = b25 := h; omega
            replace h91 := h91.upd hu37 fun i h1 h2 h => by have h : i = b25 := h; omega
            replace hB25 : Blk w37 b25 #[p9.d0.pv, p9.d0.cv, p9.d0.bv, (.bool (p9.d0.off)), p9.d1.pv, p9.d1.cv, p9.d1.bv, (.bool (p9.d1.off)), (.int .i64 (p9.fz)), (.bool (p9.dn))] 29 := hb37
            refine L_nil ?_
            refine B_n ?_
            refine T_n ?_
            refine W_reg ?_
            refine L_op rfl (X_move (v := (.int .i64 (((i : Nat) : Int)))) rfl ?_)
            refine L_op rfl (X_arith (k := .i64) (a := ((i : Nat) : Int)) (b := 1) (r := ((i + 1 : Nat) : Int)) rfl rfl rfl (iadd64 (by omega) (by omega) (by omega)) ?_)
            refine L_op rfl (X_assign (v := (.int .i64 (((i + 1 : Nat) : Int)))) rfl ?_)
            refine L_nil ?_
            refine T_n ?_
            exact ⟨rfl, (i + 1, p9, ra0, rb0, ra1, rb1), ⟨⟨hi, hB1, hB3, hB23, hB25, h0, h1, hq0, hq1, h90, h91, hC, hU, by omega, by omega, by omega, by rw [d9]; exact hEI2, by rw [hrun, drop_at hat, run_ok (show (PD.dk pz.da (Int.toNat 1)).off = false from hEI.ob) (by show (putD pz.da 1 a pg).2 = 0; exact hpt2)]; show runL pg (putD pz.da 1 a pg).1 _ = _; rw [← d9]⟩, (by show (copL q).length - (i + 1) < (copL q).length - i; omega)⟩, (Out.mk rfl), ⟨rfl, trivial⟩⟩
          ·refine L_op rfl (X_cmp (k := .i64) (a := ((i : Nat) : Int)) (b := (((copL q).length : Nat) : Int)) (r := false) rfl rfl rfl (decide_eq_false (p := ((((i : Nat) : Int)) : Int) < (((((copL q).length : Nat) : Int)) : Int)) (by omega)) ?_)
           have hie : i = (copL q).length := by omega
           rw [hie, List.drop_length, hrunq] at hrun
           have hzq : pz.da = pq.da := (congrArg Prod.fst hrun).symm
           refine L_nil ?_
           refine T_n ?_
           refine W_cf rfl ?_
           refine W_exit ?_
           refine T_e ?_
           refine T_e ?_
           refine B_x ?_
           refine T_n ?_
           refine W_seq ?_
           refine W_reg ?_
           refine L_op rfl (X_move (v := (.int .i64 (0))) rfl ?_)
           refine L_op rfl (X_cmp (k := .i64) (a := 0) (b := 0) (r := true) rfl rfl rfl rfl ?_)
           refine L_op rfl (X_move (v := (.bool (true))) rfl ?_)
           refine L_gy (dj := 158) rfl rfl rfl (X_loadA (p := (ptr b25 (0))) (xs := [pz.d0.pv, pz.d0.cv, pz.d0.bv, (.bool (pz.d0.off)), pz.d1.pv, pz.d1.cv, pz.d1.bv, (.bool (pz.d1.off)), (.int .i64 (pz.fz)), (.bool (pz.dn))]) A29 rfl hB25.atAll rfl ?_)
           refine L_gy (dj := 158) rfl rfl rfl (X_loadA (p := (ptr b23 (0))) (xs := [pq.d0.pv, pq.d0.cv, pq.d0.bv, (.bool (pq.d0.off)), pq.d1.pv, pq.d1.cv, pq.d1.bv, (.bool (pq.d1.off)), (.int .i64 (pq.fz)), (.bool (pq.dn))]) A29 rfl hB23.atAll rfl ?_)
           have hcr_ := c_sameMR pz pq w28 l0z u0z l1z u1z l0q u0q l1q u1q hz0 hz1 hq0 hq1
           refine L_gy (dj := 158) rfl rfl rfl (X_fn (vs := [(.agg ([pz.d0.pv, pz.d0.cv, pz.d0.bv, (.bool (pz.d0.off)), pz.d1.pv, pz.d1.cv, pz.d1.bv, (.bool (pz.d1.off)), (.int .i64 (pz.fz)), (.bool (pz.dn))]).toArray), (.agg ([pq.d0.pv, pq.d0.cv, pq.d0.bv, (.bool (pq.d0.off)), pq.d1.pv, pq.d1.cv, pq.d1.bv, (.bool (pq.d1.off)), (.int .i64 (pq.fz)), (.bool (pq.dn))]).toArray)]) en19 rfl ?_)
           refine CT.mono hcr_ ?_
           clear hcr_
           rintro _ w38 ⟨⟨g38, rfl, hg38⟩, hu38⟩
           have hz38 := hu38.size
           replace hB1 := hB1.ext hu38
           replace hB3 := hB3.ext hu38
           replace hB23 := hB23.ext hu38
           replace hB25 := hB25.ext hu38
           replace h0 := h0.ext hu38
           replace h1 := h1.ext hu38
           replace hq0 := hq0.ext hu38
           replace hq1 := hq1.ext hu38
           replace hz0 := hz0.ext hu38
           replace hz1 := hz1.ext hu38
           replace hC := hC.ext hu38
           replace hU := hU.trans (Ext.upd hu38)
           obtain rfl : g38 = true := hg38.2 hzq
           refine L_op rfl (X_pick (t := true) (v := (.bool (true))) rfl rfl ?_)
           refine L_op rfl (X_move (v := (.bool (true))) rfl ?_)
           refine L_gy (dj := 163) rfl rfl rfl (X_loadA (p := (ptr b25 (0))) (xs := [pz.d0.pv, pz.d0.cv, pz.d0.bv, (.bool (pz.d0.off)), pz.d1.pv, pz.d1.cv, pz.d1.bv, (.bool (pz.d1.off)), (.int .i64 (pz.fz)), (.bool (pz.dn))]) A29 rfl hB25.atAll rfl ?_)
           refine L_gy (dj := 163) rfl rfl rfl (X_loadA (p := (ptr b23 (0))) (xs := [pq.d0.pv, pq.d0.cv, pq.d0.bv, (.bool (pq.d0.off)), pq.d1.pv, pq.d1.cv, pq.d1.bv, (.bool (pq.d1.off)), (.int .i64 (pq.fz)), (.bool (pq.dn))]) A29 rfl hB23.atAll rfl ?_)
           have hcr_ := c_sameM pz pq w38 l0z u0z l1z u1z l0q u0q l1q u1q hz0 hz1 hq0 hq1
           refine L_gy (dj := 163) rfl rfl rfl (X_fn (vs := [(.agg ([pz.d0.pv, pz.d0.cv, pz.d0.bv, (.bool (pz.d0.off)), pz.d1.pv, pz.d1.cv, pz.d1.bv, (.bool (pz.d1.off)), (.int .i64 (pz.fz)), (.bool (pz.dn))]).toArray), (.agg ([pq.d0.pv, pq.d0.cv, pq.d0.bv, (.bool (pq.d0.off)), pq.d1.pv, pq.d1.cv, pq.d1.bv, (.bool (pq.d1.off)), (.int .i64 (pq.fz)), (.bool (pq.dn))]).toArray)]) en22 rfl ?_)
           refine CT.mono hcr_ ?_
           clear hcr_
           rintro _ w39 ⟨⟨g39, rfl, hg39⟩, hu39⟩
           have hz39 := hu39.size
           replace hB1 := hB1.ext hu39
           replace hB3 := hB3.ext hu39
           replace hB23 := hB23.ext hu39
           replace hB25 := hB25.ext hu39
           replace h0 := h0.ext hu39
           replace h1 := h1.ext hu39
           replace hq0 := hq0.ext hu39
           replace hq1 := hq1.ext hu39
           replace hz0 := hz0.ext hu39
           replace hz1 := hz1.ext hu39
           replace hC := hC.ext hu39
           replace hU := hU.trans (Ext.upd hu39)
           obtain rfl : g39 = true := hg39.2 hzq
           refine L_op rfl (X_pick (t := true) (v := (.bool (true))) rfl rfl ?_)
           refine L_op rfl (X_move (v := (.bool (true))) rfl ?_)
           refine L_gy (dj := 168) rfl rfl rfl (X_loadA (p := (ptr b1 (0))) (xs := [p.d0.pv, p.d0.cv, p.d0.bv, (.bool (p.d0.off)), p.d1.pv, p.d1.cv, p.d1.bv, (.bool (p.d1.off)), (.int .i64 (p.fz)), (.bool (p.dn))]) A29 rfl hB1.atAll rfl ?_)
           have hcr_ := c_live p w39 0 n0 0 n0 (by omega) (by omega) h0 h1
           refine L_gy (dj := 168) rfl rfl rfl (X_fn (vs := [(.agg ([p.d0.pv, p.d0.cv, p.d0.bv, (.bool (p.d0.off)), p.d1.pv, p.d1.cv, p.d1.bv, (.bool (p.d1.off)), (.int .i64 (p.fz)), (.bool (p.dn))]).toArray)]) en18 rfl ?_)
           refine CT.mono hcr_ ?_
           clear hcr_
           rintro _ w40 ⟨rfl, hu40⟩
           have hz40 := hu40.size
           replace hB1 := hB1.ext hu40
           replace hB3 := hB3.ext hu40
           replace hB23 := hB23.ext hu40
           replace hB25 := hB25.ext hu40
           replace h0 := h0.ext hu40
           replace h1 := h1.ext hu40
           replace hq0 := hq0.ext hu40
           replace hq1 := hq1.ext hu40
           replace hz0 := hz0.ext hu40
           replace hz1 := hz1.ext hu40
           replace hC := hC.ext hu40
           replace hU := hU.trans (Ext.upd hu40)
           rw [liveP (p := p.da) hs8 hs10]
           refine L_gy (dj := 168) rfl rfl rfl (X_cmp (k := .u8) (a := 3) (b := 3) (r := true) rfl rfl rfl rfl ?_)
           refine L_op rfl (X_pick (t := true) (v := (.bool (true))) rfl rfl ?_)
           refine L_op rfl (X_move (v := (.bool (true))) rfl ?_)
           refine L_gy (dj := 173) rfl rfl rfl (X_fn (vs := []) en9 rfl (CT.mono (c_wakes _) ?_))
           rintro _ w41 ⟨rfl, hu41⟩
           have hz41 := hu41.size
           replace hB1 := hB1.ext hu41
           replace hB3 := hB3.ext hu41
           replace hB23 := hB23.ext hu41
           replace hB25 := hB25.ext hu41
           replace h0 := h0.ext hu41
           replace h1 := h1.ext hu41
           replace hq0 := hq0.ext hu41
           replace hq1 := hq1.ext hu41
           replace hz0 := hz0.ext hu41
           replace hz1 := hz1.ext hu41
           replace hC := hC.ext hu41
           replace hU := hU.trans (Ext.upd hu41)
           refine L_op rfl (X_pick (t := true) (v := (.bool (true))) rfl rfl ?_)
           refine L_op rfl (X_assign (v := (.bool (true))) rfl ?_)
           refine L_nil ?_
           refine T_n ?_
           refine W_ret ?_
           exact BQ_r (End_1 Try.results5 (v := .bool true) rfl ⟨rfl, hU.own hn0⟩)
       ·rw [hc17]
        refine L_gy (dj := 59) rfl rfl rfl (X_not (b := false) (r := true) rfl rfl ?_)
        refine L_op rfl (X_pick (t := false) (v := (.bool (true))) rfl rfl ?_)
        refine L_op rfl (X_move (v := (.bool (true))) rfl ?_)
        refine L_gn (dj := 65) (t := true) rfl rfl rfl rfl ?_
        refine L_gn (dj := 65) (t := true) rfl rfl rfl rfl ?_
        refine L_gn (dj := 65) (t := true) rfl rfl rfl rfl ?_
        refine L_op rfl (X_pick (t := true) (v := (.bool (true))) rfl rfl ?_)
        refine L_op rfl (X_move (v := (.bool (true))) rfl ?_)
        refine L_gn (dj := 70) (t := true) rfl rfl rfl rfl ?_
        refine L_gn (dj := 70) (t := true) rfl rfl rfl rfl ?_
        refine L_gn (dj := 70) (t := true) rfl rfl rfl rfl ?_
        refine L_gn (dj := 70) (t := true) rfl rfl rfl rfl ?_
        refine L_gn (dj := 70) (t := true) rfl rfl rfl rfl ?_
        refine L_gn (dj := 70) (t := true) rfl rfl rfl rfl ?_
        refine L_gn (dj := 70) (t := true) rfl rfl rfl rfl ?_
        refine L_gn (dj := 70) (t := true) rfl rfl rfl rfl ?_
        refine L_gn (dj := 70) (t := true) rfl rfl rfl rfl ?_
        refine L_gn (dj := 70) (t := true) rfl rfl rfl rfl ?_
        refine L_gn (dj := 70) (t := true) rfl rfl rfl rfl ?_
        refine L_gn (dj := 70) (t := true) rfl rfl rfl rfl ?_
        refine L_op rfl (X_pick (t := true) (v := (.bool (true))) rfl rfl ?_)
        refine L_nil ?_
        refine T_n ?_
        refine W_ct rfl ?_
        refine W_seq ?_
        refine W_reg ?_
        refine L_op rfl (X_fn (vs := []) en9 rfl (CT.mono (c_wakes _) ?_))
        rintro _ w42 ⟨rfl, hu42⟩
        have hz42 := hu42.size
        replace h0 := h0.ext hu42
        replace h1 := h1.ext hu42
        replace hU := hU.trans (Ext.upd hu42)
        replace hB1 := hB1.ext hu42
        replace hB2 := hB2.ext hu42
        replace hB3 := hB3.ext hu42
        refine L_op rfl (X_assign (v := (.bool (true))) rfl ?_)
        refine L_nil ?_
        refine T_n ?_
        refine W_ret ?_
        refine T_r ?_
        exact BQ_r (End_1 Try.results5 (v := .bool true) rfl ⟨rfl, hU.own hn0⟩)
  ·rw [hc7]
   refine L_gy (dj := 31) rfl rfl rfl (X_not (b := false) (r := true) rfl rfl ?_)
   refine L_op rfl (X_pick (t := false) (v := (.bool (true))) rfl rfl ?_)
   refine L_op rfl (X_move (v := (.bool (true))) rfl ?_)
   refine L_gn (dj := 38) (t := true) rfl rfl rfl rfl ?_
   refine L_gn (dj := 38) (t := true) rfl rfl rfl rfl ?_
   refine L_gn (dj := 38) (t := true) rfl rfl rfl rfl ?_
   refine L_gn (dj := 38) (t := true) rfl rfl rfl rfl ?_
   refine L_op rfl (X_pick (t := true) (v := (.bool (true))) rfl rfl ?_)
   refine L_op rfl (X_move (v := (.bool (true))) rfl ?_)
   refine L_gn (dj := 44) (t := true) rfl rfl rfl rfl ?_
   refine L_gn (dj := 44) (t := true) rfl rfl rfl rfl ?_
   refine L_gn (dj := 44) (t := true) rfl rfl rfl rfl ?_
   refine L_gn (dj := 44) (t := true) rfl rfl rfl rfl ?_
   refine L_op rfl (X_pick (t := true) (v := (.bool (true))) rfl rfl ?_)
   refine L_op rfl (X_move (v := (.bool (true))) rfl ?_)
   refine L_gn (dj := 50) (t := true) rfl rfl rfl rfl ?_
   refine L_gn (dj := 50) (t := true) rfl rfl rfl rfl ?_
   refine L_op rfl (X_pick (t := true) (v := (.bool (true))) rfl rfl ?_)
   refine L_op rfl (X_move (v := (.bool (true))) rfl ?_)
   refine L_gn (dj := 54) (t := true) rfl rfl rfl rfl ?_
   refine L_gn (dj := 54) (t := true) rfl rfl rfl rfl ?_
   refine L_gn (dj := 54) (t := true) rfl rfl rfl rfl ?_
   refine L_op rfl (X_pick (t := true) (v := (.bool (true))) rfl rfl ?_)
   refine L_op rfl (X_move (v := (.bool (true))) rfl ?_)
   refine L_gn (dj := 59) (t := true) rfl rfl rfl rfl ?_
   refine L_gn (dj := 59) (t := true) rfl rfl rfl rfl ?_
   refine L_gn (dj := 59) (t := true) rfl rfl rfl rfl ?_
   refine L_gn (dj := 59) (t := true) rfl rfl rfl rfl ?_
   refine L_op rfl (X_pick (t := true) (v := (.bool (true))) rfl rfl ?_)
   refine L_op rfl (X_move (v := (.bool (true))) rfl ?_)
   refine L_gn (dj := 65) (t := true) rfl rfl rfl rfl ?_
   refine L_gn (dj := 65) (t := true) rfl rfl rfl rfl ?_
   refine L_gn (dj := 65) (t := true) rfl rfl rfl rfl ?_
   refine L_op rfl (X_pick (t := true) (v := (.bool (true))) rfl rfl ?_)
   refine L_op rfl (X_move (v := (.bool (true))) rfl ?_)
   refine L_gn (dj := 70) (t := true) rfl rfl rfl rfl ?_
   refine L_gn (dj := 70) (t := true) rfl rfl rfl rfl ?_
   refine L_gn (dj := 70) (t := true) rfl rfl rfl rfl ?_
   refine L_gn (dj := 70) (t := true) rfl rfl rfl rfl ?_
   refine L_gn (dj := 70) (t := true) rfl rfl rfl rfl ?_
   refine L_gn (dj := 70) (t := true) rfl rfl rfl rfl ?_
   refine L_gn (dj := 70) (t := true) rfl rfl rfl rfl ?_
   refine L_gn (dj := 70) (t := true) rfl rfl rfl rfl ?_
   refine L_gn (dj := 70) (t := true) rfl rfl rfl rfl ?_
   refine L_gn (dj := 70) (t := true) rfl rfl rfl rfl ?_
   refine L_gn (dj := 70) (t := true) rfl rfl rfl rfl ?_
   refine L_gn (dj := 70) (t := true) rfl rfl rfl rfl ?_
   refine L_op rfl (X_pick (t := true) (v := (.bool (true))) rfl rfl ?_)
   refine L_nil ?_
   refine T_n ?_
   refine W_ct rfl ?_
   refine W_seq ?_
   refine W_reg ?_
   refine L_op rfl (X_fn (vs := []) en9 rfl (CT.mono (c_wakes _) ?_))
   rintro _ w43 ⟨rfl, hu43⟩
   have hz43 := hu43.size
   replace h0 := h0.ext hu43
   replace h1 := h1.ext hu43
   replace hU := hU.trans (Ext.upd hu43)
   replace hB1 := hB1.ext hu43
   replace hB2 := hB2.ext hu43
   replace hB3 := hB3.ext hu43
   refine L_op rfl (X_assign (v := (.bool (true))) rfl ?_)
   refine L_nil ?_
   refine T_n ?_
   refine W_ret ?_
   refine T_r ?_
   exact BQ_r (End_1 Try.results5 (v := .bool true) rfl ⟨rfl, hU.own hn0⟩)
 ·rw [hc5]
  refine L_op rfl (X_not (b := false) (r := true) rfl rfl ?_)
  refine L_op rfl (X_move (v := (.bool (true))) rfl ?_)
  refine L_gn (dj := 31) (t := true) rfl rfl rfl rfl ?_
  refine L_gn (dj := 31) (t := true) rfl rfl rfl rfl ?_
  refine L_gn (dj := 31) (t := true) rfl rfl rfl rfl ?_
  refine L_gn (dj := 31) (t := true) rfl rfl rfl rfl ?_
  refine L_gn (dj := 31) (t := true) rfl rfl rfl rfl ?_
  refine L_op rfl (X_pick (t := true) (v := (.bool (true))) rfl rfl ?_)
  refine L_op rfl (X_move (v := (.bool (true))) rfl ?_)
  refine L_gn (dj := 38) (t := true) rfl rfl rfl rfl ?_
  refine L_gn (dj := 38) (t := true) rfl rfl rfl rfl ?_
  refine L_gn (dj := 38) (t := true) rfl rfl rfl rfl ?_
  refine L_gn (dj := 38) (t := true) rfl rfl rfl rfl ?_
  refine L_op rfl (X_pick (t := true) (v := (.bool (true))) rfl rfl ?_)
  refine L_op rfl (X_move (v := (.bool (true))) rfl ?_)
  refine L_gn (dj := 44) (t := true) rfl rfl rfl rfl ?_
  refine L_gn (dj := 44) (t := true) rfl rfl rfl rfl ?_
  refine L_gn (dj := 44) (t := true) rfl rfl rfl rfl ?_
  refine L_gn (dj := 44) (t := true) rfl rfl rfl rfl ?_
  refine L_op rfl (X_pick (t := true) (v := (.bool (true))) rfl rfl ?_)
  refine L_op rfl (X_move (v := (.bool (true))) rfl ?_)
  refine L_gn (dj := 50) (t := true) rfl rfl rfl rfl ?_
  refine L_gn (dj := 50) (t := true) rfl rfl rfl rfl ?_
  refine L_op rfl (X_pick (t := true) (v := (.bool (true))) rfl rfl ?_)
  refine L_op rfl (X_move (v := (.bool (true))) rfl ?_)
  refine L_gn (dj := 54) (t := true) rfl rfl rfl rfl ?_
  refine L_gn (dj := 54) (t := true) rfl rfl rfl rfl ?_
  refine L_gn (dj := 54) (t := true) rfl rfl rfl rfl ?_
  refine L_op rfl (X_pick (t := true) (v := (.bool (true))) rfl rfl ?_)
  refine L_op rfl (X_move (v := (.bool (true))) rfl ?_)
  refine L_gn (dj := 59) (t := true) rfl rfl rfl rfl ?_
  refine L_gn (dj := 59) (t := true) rfl rfl rfl rfl ?_
  refine L_gn (dj := 59) (t := true) rfl rfl rfl rfl ?_
  refine L_gn (dj := 59) (t := true) rfl rfl rfl rfl ?_
  refine L_op rfl (X_pick (t := true) (v := (.bool (true))) rfl rfl ?_)
  refine L_op rfl (X_move (v := (.bool (true))) rfl ?_)
  refine L_gn (dj := 65) (t := true) rfl rfl rfl rfl ?_
  refine L_gn (dj := 65) (t := true) rfl rfl rfl rfl ?_
  refine L_gn (dj := 65) (t := true) rfl rfl rfl rfl ?_
  refine L_op rfl (X_pick (t := true) (v := (.bool (true))) rfl rfl ?_)
  refine L_op rfl (X_move (v := (.bool (true))) rfl ?_)
  refine L_gn (dj := 70) (t := true) rfl rfl rfl rfl ?_
  refine L_gn (dj := 70) (t := true) rfl rfl rfl rfl ?_
  refine L_gn (dj := 70) (t := true) rfl rfl rfl rfl ?_
  refine L_gn (dj := 70) (t := true) rfl rfl rfl rfl ?_
  refine L_gn (dj := 70) (t := true) rfl rfl rfl rfl ?_
  refine L_gn (dj := 70) (t := true) rfl rfl rfl rfl ?_
  refine L_gn (dj := 70) (t := true) rfl rfl rfl rfl ?_
  refine L_gn (dj := 70) (t := true) rfl rfl rfl rfl ?_
  refine L_gn (dj := 70) (t := true) rfl rfl rfl rfl ?_
  refine L_gn (dj := 70) (t := true) rfl rfl rfl rfl ?_
  refine L_gn (dj := 70) (t := true) rfl rfl rfl rfl ?_
  refine L_gn (dj := 70) (t := true) rfl rfl rfl rfl ?_
  refine L_op rfl (X_pick (t := true) (v := (.bool (true))) rfl rfl ?_)
  refine L_nil ?_
  refine T_n ?_
  refine W_ct rfl ?_
  refine W_seq ?_
  refine W_reg ?_
  refine L_op rfl (X_fn (vs := []) en9 rfl (CT.mono (c_wakes _) ?_))
  rintro _ w44 ⟨rfl, hu44⟩
  have hz44 := hu44.size
  replace h0 := h0.ext hu44
  replace h1 := h1.ext hu44
  replace hU := hU.trans (Ext.upd hu44)
  replace hB1 := hB1.ext hu44
  replace hB2 := hB2.ext hu44
  replace hB3 := hB3.ext hu44
  refine L_op rfl (X_assign (v := (.bool (true))) rfl ?_)
  refine L_nil ?_
  refine T_n ?_
  refine W_ret ?_
  refine T_r ?_
  exact BQ_r (End_1 Try.results5 (v := .bool true) rfl ⟨rfl, hU.own hn0⟩)
end Go.Proofs.Ytcjfkkoapncnhaa
