/-
 The walk of MirrorOff. (Printed by wip/gen/t10m.py of this repo.)
-/
import Derived.Test.YtcjfkkoapncnhaaMirLawB
import Derived.Test.YtcjfkkoapncnhaaMiC
namespace Go.Proofs.Ytcjfkkoapncnhaa
open Go Go.SL Go.Proofs
set_option linter.unusedVariables false

theorem writeD_run {p : PD} {q : Pt} {pg : Pg} (h : readyD p = 0) : writeD p q pg = runL pg p (copL q) := if_pos h

theorem c_detRD (d : Dk) (w : World) (lo up : Nat) (hup : up ≤ w.heap.size) (h : d.Rd w lo up) (hz : Sz d.da 1048576) : CT Try.prog 15 #[.agg #[d.pv, d.cv, d.bv, .bool d.off]] w fun v w' => ∃ d2 : Dk, v = .agg #[d2.pv, d2.cv, d2.bv, .bool d2.off] ∧ d2.Rd w' w.heap.size w'.heap.size ∧ d2.da = ⟨d.ps, [], d.bs, true⟩ ∧ Ext w w' := by
 refine CT.mono (c_detachR d.pv d.cv d.bv d.ps d.cs d.bs d.off w lo up hup h.1 h.2.1 h.2.2 hz.1 hz.2.1 hz.2.2) ?_
 rintro v w' ⟨p2, i2, rfl, hP, hI, hu⟩
 exact ⟨⟨p2, .slice none 0 0, i2, d.ps, [], d.bs, true⟩, rfl, ⟨hP.rd, NRd.nil _ _ _, hI.rd⟩, rfl, hu⟩
theorem c_attRD (d : Dk) (w : World) (lo up : Nat) (hup : up ≤ w.heap.size) (h : d.Rd w lo up) (hz : Sz d.da 1048576) : CT Try.prog 16 #[.agg #[d.pv, d.cv, d.bv, .bool d.off]] w fun v w' => ∃ d2 : Dk, v = .agg #[d2.pv, d2.cv, d2.bv, .bool d2.off] ∧ d2.Rd w' w.heap.size w'.heap.size ∧ d2.da = ⟨d.ps, d.cs, d.bs, false⟩ ∧ Ext w w' := by
 refine CT.mono (c_attachR d.pv d.cv d.bv d.ps d.cs d.bs d.off w lo up hup h.1 h.2.1 h.2.2 hz.1 hz.2.1 hz.2.2) ?_
 rintro v w' ⟨p2, c2, i2, rfl, hP, hC, hI, hu⟩
 exact ⟨⟨p2, c2, i2, d.ps, d.cs, d.bs, false⟩, rfl, ⟨hP.rd, hC.rd, hI.rd⟩, rfl, hu⟩
theorem run_offs {pg : Pg} {i : Nat} {p : PD} (ho : (p.dk i).off = true) : ∀ (xs : List Int) (r : List (Int × Int)), runL pg p (xs.map (fun a => ((i : Int), a)) ++ r) = runL pg p r
 | [], _ => rfl
 | a :: xs, r => by
  show runL pg p (((i : Int), a) :: (xs.map (fun a => ((i : Int), a)) ++ r)) = _
  rw [run_off (d := (i : Int)) (by rw [Int.toNat_natCast]; exact ho), run_offs ho xs r]
theorem run_fuse (pg : Pg) (a : DD) : ∀ (xs : List Int) (b : DD) (f : Int), (xs.length : Int) ≤ f → b.May → b.off = false → b.cs.length + xs.length ≤ 2000 → (∀ x ∈ xs, 0 ≤ x ∧ x < (b.ps.length : Int)) →
  runL pg ⟨a, b, f, false⟩ (xs.map (fun x => (((1 : Nat) : Int), x)) ++ []) = (⟨a, addW pg xs b, f - xs.length, false⟩, 0)
 | [], b, f, _, _, ho, _, _ => by
  rw [addW_on ho]
  show (_, _) = _
  rw [List.map_nil, List.append_nil]
  show (PD.mk a b f false, (0 : Int)) = (PD.mk a b (f - ((0 : Nat) : Int)) false, 0)
  rw [show f - ((0 : Nat) : Int) = f by omega]
 | x :: xs, b, f, hf, hm, ho, hl, ha => by
  have hf2 : ((xs.length + 1 : Nat) : Int) ≤ f := hf
  have hl2 : b.cs.length + (xs.length + 1) ≤ 2000 := hl
  have hb : burnD ⟨a, b, f, false⟩ = (⟨a, b, f - 1, false⟩, true) := burn_p rfl (by show 0 < f; omega)
  have hp := put_go (p := ⟨a, b, f, false⟩) (i := 1) (n := x) (pg := pg) (by rw [hb]) hm ho (by show b.cs.length < 2000; omega) (ha x (List.mem_cons_self)).1 (ha x (List.mem_cons_self)).2
  rw [hb] at hp
  replace hp : putD ⟨a, b, f, false⟩ 1 x pg = (⟨a, ⟨b.ps, b.cs ++ [(x, pg)], b.bs, b.off⟩, f - 1, false⟩, 0) := hp
  show runL pg ⟨a, b, f, false⟩ ((((1 : Nat) : Int), x) :: (xs.map (fun x => (((1 : Nat) : Int), x)) ++ [])) = _
  rw [run_ok (d := ((1 : Nat) : Int)) (by exact ho) (by rw [Int.toNat_natCast, hp]), Int.toNat_natCast, hp]
  rw [run_fuse pg a xs ⟨b.ps, b.cs ++ [(x, pg)], b.bs, b.off⟩ (f - 1) (by omega) (mayD_push hm (ha x (List.mem_cons_self)).1 (ha x (List.mem_cons_self)).2 ho (by omega)) ho
   (by show (b.cs ++ [(x, pg)]).length + xs.length ≤ 2000; rw [List.length_append]; show b.cs.length + 1 + xs.length ≤ 2000; omega) (fun y hy => ha y (List.mem_cons_of_mem _ hy))]
  rw [addW_on (d := ⟨b.ps, b.cs ++ [(x, pg)], b.bs, b.off⟩) ho, addW_on ho]
  show (PD.mk a ⟨b.ps, b.cs ++ [(x, pg)] ++ xs.map _, b.bs, b.off⟩ (f - 1 - xs.length) false, (0 : Int)) = (PD.mk a ⟨b.ps, b.cs ++ (x, pg) :: xs.map _, b.bs, b.off⟩ (f - ((xs.length + 1 : Nat) : Int)) false, 0)
  rw [List.append_assoc, show f - 1 - (xs.length : Int) = f - ((xs.length + 1 : Nat) : Int) by omega]; rfl
theorem write_one1 {a b : DD} {f : Int} {q : Pt} {pg : Pg} {m : Nat} (ha : a.off = true) (hb : b.off = false) (hm : b.May) (hl : b.cs.length ≤ 1998) (hf : 2 ≤ f) (hmb : m ≤ b.ps.length) (hq : RightP q m) :
  writeD ⟨a, b, f, false⟩ q pg = (⟨a, addW pg (asQ q) b, f - (asQ q).length, false⟩, 0) := by
 have hl2 := (asQ_len q).1
 have hin := asQ_in hq
 rw [writeD_run (ready_at rfl (.inr hb)), copL_as, run_offs (i := 0) (p := ⟨a, b, f, false⟩) ha]
 exact run_fuse pg a _ b f (by omega) hm hb (by omega) fun x hx => ⟨(hin x hx).1, by have := (hin x hx).2; omega⟩
theorem asQ_m {q : Pt} (h : MetaP q) : (asQ q).length = 2 := by unfold asQ; rw [if_pos h]; rfl
theorem asQ_c {q : Pt} (h : ¬ MetaP q) : (asQ q).length = 1 := by unfold asQ; rw [if_neg h]; rfl
theorem ready_none {p : PD} (hd : p.dn = false) (ha : p.a.off = true) (hb : p.b.off = true) : readyD p = 30 := (if_neg (by rw [hd]; decide)).trans (if_pos ⟨ha, hb⟩)
theorem write_none {p : PD} {q : Pt} {pg : Pg} (h : readyD p ≠ 0) : writeD p q pg = (p, readyD p) := if_neg h
theorem flush_none {p : PD} (h : readyD p ≠ 0) : flushD p = (p, readyD p) := by
 have hS := flush_Sn (p := p) fun h1 => h h1.1
 rw [flush_Dn (by rw [hS]; exact fun h1 => h h1.1), hS]
theorem live2 {p : PD} (h0 : p.a.off = true) (h1 : p.b.off = false) : liveD p = 2 := by unfold liveD; rw [h0, h1]; rfl
theorem live0 {p : PD} (h0 : p.a.off = true) (h1 : p.b.off = true) : liveD p = 0 := by unfold liveD; rw [h0, h1]; rfl

set_option maxRecDepth 10000 in
set_option maxHeartbeats 2000000 in
theorem c_off (p : Pr) (q : Pt) (pg : Pg) (f : Int) (w : World) (h0 : p.d0.Rd w 0 w.heap.size) (h1 : p.d1.Rd w 0 w.heap.size) (hq : PtOk q) : CT Try.prog 4 #[(.agg #[p.d0.pv, p.d0.cv, p.d0.bv, (.bool (p.d0.off)), p.d1.pv, p.d1.cv, p.d1.bv, (.bool (p.d1.off)), (.int .i64 (p.fz)), (.bool (p.dn))]), (.agg (ptC q).toArray), (pageV pg), (.int .i64 (f))] w fun v w' => v = .bool true ∧ Ext w w' := by
 obtain ⟨n0, hn0⟩ : ∃ n, n = w.heap.size := ⟨_, rfl⟩
 have hU : Upd (fun i => n0 ≤ i) w w := Upd.refl _ _
 rw [← hn0] at h0 h1
 obtain ⟨hq1, hq2, hq3, hq4, hq5⟩ := id hq
 obtain ⟨m, hm⟩ : ∃ m, m = min p.d0.ps.length p.d1.ps.length := ⟨_, rfl⟩
 have hlp0 := h0.1.sv.len; have hlp1 := h1.1.sv.len; have hlc0 := h0.2.1.sv.len; have hlc1 := h1.2.1.sv.len
 refine CT_of Try.func4 rfl rfl rfl ?_
 refine W_seq ?_
 refine W_reg ?_
 refine L_op rfl (X_box (v := (.agg #[p.d0.pv, p.d0.cv, p.d0.bv, (.bool (p.d0.off)), p.d1.pv, p.d1.cv, p.d1.bv, (.bool (p.d1.off)), (.int .i64 (p.fz)), (.bool (p.dn))])) (c := ([p.d0.pv, p.d0.cv, p.d0.bv, (.bool (p.d0.off)), p.d1.pv, p.d1.cv, p.d1.bv, (.bool (p.d1.off)), (.int .i64 (p.fz)), (.bool (p.dn))]).toArray) rfl rfl ?_)
 intro b1 w1 hn1
 have hbn1 := hn1.num; have hbs1 := hn1.size
 replace h0 := h0.ext hn1.ext
 replace h1 := h1.ext hn1.ext
 replace hU := hU.trans (Ext.upd hn1.ext)
 have hB1 := hn1.blk
 refine L_op rfl (X_box (v := (.agg (ptC q).toArray)) (c := ((ptC q)).toArray) rfl rfl ?_)
 intro b2 w2 hn2
 have hbn2 := hn2.num; have hbs2 := hn2.size
 replace h0 := h0.ext hn2.ext
 replace h1 := h1.ext hn2.ext
 replace hU := hU.trans (Ext.upd hn2.ext)
 replace hB1 := hB1.ext hn2.ext
 have hB2 := hn2.blk
 refine L_op rfl (X_box (v := (pageV pg)) (c := ((pg.1).map byteV).toArray) rfl rfl ?_)
 intro b3 w3 hn3
 have hbn3 := hn3.num; have hbs3 := hn3.size
 replace h0 := h0.ext hn3.ext
 replace h1 := h1.ext hn3.ext
 replace hU := hU.trans (Ext.upd hn3.ext)
 replace hB1 := hB1.ext hn3.ext
 replace hB2 := hB2.ext hn3.ext
 have hB3 := hn3.blk
 refine L_op rfl (X_assign (v := (.bool (false))) rfl ?_)
 refine L_nil ?_
 refine T_n ?_
 refine W_seq ?_
 refine W_reg ?_
 refine L_op rfl (X_fldP (b := b1) (o := 0) (r := 0) Fd29_0 rfl rfl ?_)
 refine L_op rfl (X_idxAP (len := 2) (sz := 4) (b := b1) (o := 0) (k := .i64) (i := 0) (r := 0) Try.underlying27 Z26 rfl rfl (by omega) (by omega) rfl ?_)
 refine L_op rfl (X_fldP (b := b1) (o := 0) (r := 0) Fd26_0 rfl rfl ?_)
 refine L_op rfl (X_load (p := (ptr b1 (0))) (v := p.d0.pv) T22 rfl (hB1.at1 rfl) ?_)
 refine L_op rfl (X_len (v := p.d0.pv) (n := p.d0.ps.length) Try.underlying22 rfl h0.1.sv ?_)
 refine L_op rfl (X_fldP (b := b1) (o := 0) (r := 0) Fd29_0 rfl rfl ?_)
 refine L_op rfl (X_idxAP (len := 2) (sz := 4) (b := b1) (o := 0) (k := .i64) (i := 1) (r := 4) Try.underlying27 Z26 rfl rfl (by omega) (by omega) rfl ?_)
 refine L_op rfl (X_fldP (b := b1) (o := 4) (r := 4) Fd26_0 rfl rfl ?_)
 refine L_op rfl (X_load (p := (ptr b1 (4))) (v := p.d1.pv) T22 rfl (hB1.at1 rfl) ?_)
 refine L_op rfl (X_len (v := p.d1.pv) (n := p.d1.ps.length) Try.underlying22 rfl h1.1.sv ?_)
 refine L_op rfl (X_min (k := .i64) (a := ((p.d0.ps.length : Nat) : Int)) (b := ((p.d1.ps.length : Nat) : Int)) (r := ((m : Nat) : Int)) rfl rfl (by omega) ?_)
 refine L_op rfl (X_assign (v := (.int .i64 (((m : Nat) : Int)))) rfl ?_)
 refine L_nil ?_
 refine T_n ?_
 refine W_seq ?_
 refine W_seq ?_
 refine W_reg ?_
 refine L_op rfl (X_fldP (b := b1) (o := 0) (r := 0) Fd29_0 rfl rfl ?_)
 refine L_op rfl (X_idxAP (len := 2) (sz := 4) (b := b1) (o := 0) (k := .i64) (i := 0) (r := 0) Try.underlying27 Z26 rfl rfl (by omega) (by omega) rfl ?_)
 refine L_op rfl (X_loadA (p := (ptr b1 (0))) (xs := [p.d0.pv, p.d0.cv, p.d0.bv, (.bool (p.d0.off))]) A26 rfl (hB1.part (o := 0) (n := 4) rfl) rfl ?_)
 have hcr_ := c_mayR p.d0.pv p.d0.cv p.d0.bv p.d0.ps p.d0.cs p.d0.bs p.d0.off w3 0 n0 h0.1 h0.2.1 h0.2.2
 refine L_op rfl (X_fn (vs := [(.agg #[p.d0.pv, p.d0.cv, p.d0.bv, (.bool (p.d0.off))])]) en7 rfl ?_)
 refine CT.mono hcr_ ?_
 clear hcr_
 rintro _ w4 ⟨⟨gA, rfl, hgA⟩, hu4⟩
 have hz4 := hu4.size
 replace h0 := h0.ext hu4
 replace h1 := h1.ext hu4
 replace hU := hU.trans (Ext.upd hu4)
 replace hB1 := hB1.ext hu4
 replace hB2 := hB2.ext hu4
 replace hB3 := hB3.ext hu4
 rcases Bool.eq_false_or_eq_true (gA) with hc5 | hc5
 ·rw [hc5]
  refine L_op rfl (X_not (b := true) (r := false) rfl rfl ?_)
  refine L_op rfl (X_move (v := (.bool (false))) rfl ?_)
  refine L_gy (dj := 33) rfl rfl rfl (X_fldP (b := b1) (o := 0) (r := 0) Fd29_0 rfl rfl ?_)
  refine L_gy (dj := 33) rfl rfl rfl (X_idxAP (len := 2) (sz := 4) (b := b1) (o := 0) (k := .i64) (i := 1) (r := 4) Try.underlying27 Z26 rfl rfl (by omega) (by omega) rfl ?_)
  refine L_gy (dj := 33) rfl rfl rfl (X_loadA (p := (ptr b1 (4))) (xs := [p.d1.pv, p.d1.cv, p.d1.bv, (.bool (p.d1.off))]) A26 rfl (hB1.part (o := 4) (n := 4) rfl) rfl ?_)
  have hcr_ := c_mayR p.d1.pv p.d1.cv p.d1.bv p.d1.ps p.d1.cs p.d1.bs p.d1.off w4 0 n0 h1.1 h1.2.1 h1.2.2
  refine L_gy (dj := 33) rfl rfl rfl (X_fn (vs := [(.agg #[p.d1.pv, p.d1.cv, p.d1.bv, (.bool (p.d1.off))])]) en7 rfl ?_)
  refine CT.mono hcr_ ?_
  clear hcr_
  rintro _ w6 ⟨⟨gB, rfl, hgB⟩, hu6⟩
  have hz6 := hu6.size
  replace h0 := h0.ext hu6
  replace h1 := h1.ext hu6
  replace hU := hU.trans (Ext.upd hu6)
  replace hB1 := hB1.ext hu6
  replace hB2 := hB2.ext hu6
  replace hB3 := hB3.ext hu6
  rcases Bool.eq_false_or_eq_true (gB) with hc7 | hc7
  ·rw [hc7]
   refine L_gy (dj := 33) rfl rfl rfl (X_not (b := true) (r := false) rfl rfl ?_)
   refine L_op rfl (X_pick (t := false) (v := (.bool (false))) rfl rfl ?_)
   refine L_op rfl (X_move (v := (.bool (false))) rfl ?_)
   refine L_gy (dj := 40) rfl rfl rfl (X_fldP (b := b1) (o := 0) (r := 9) Fd29_2 rfl rfl ?_)
   rcases Bool.eq_false_or_eq_true (p.dn) with hs8 | hs8
   ·refine L_gy (dj := 40) rfl rfl rfl (X_load (p := (ptr b1 (9))) (v := .bool true) T4 rfl (hB1.at1 (by rw [hs8]; rfl)) ?_)
    refine L_op rfl (X_pick (t := false) (v := (.bool (true))) rfl rfl ?_)
    refine L_op rfl (X_move (v := (.bool (true))) rfl ?_)
    refine L_gn (dj := 44) (t := true) rfl rfl rfl rfl ?_
    refine L_gn (dj := 44) (t := true) rfl rfl rfl rfl ?_
    refine L_op rfl (X_pick (t := true) (v := (.bool (true))) rfl rfl ?_)
    refine L_op rfl (X_move (v := (.bool (true))) rfl ?_)
    refine L_gn (dj := 48) (t := true) rfl rfl rfl rfl ?_
    refine L_gn (dj := 48) (t := true) rfl rfl rfl rfl ?_
    refine L_op rfl (X_pick (t := true) (v := (.bool (true))) rfl rfl ?_)
    refine L_op rfl (X_move (v := (.bool (true))) rfl ?_)
    refine L_gn (dj := 52) (t := true) rfl rfl rfl rfl ?_
    refine L_gn (dj := 52) (t := true) rfl rfl rfl rfl ?_
    refine L_gn (dj := 52) (t := true) rfl rfl rfl rfl ?_
    refine L_gn (dj := 52) (t := true) rfl rfl rfl rfl ?_
    refine L_op rfl (X_pick (t := true) (v := (.bool (true))) rfl rfl ?_)
    refine L_op rfl (X_move (v := (.bool (true))) rfl ?_)
    refine L_gn (dj := 58) (t := true) rfl rfl rfl rfl ?_
    refine L_gn (dj := 58) (t := true) rfl rfl rfl rfl ?_
    refine L_gn (dj := 58) (t := true) rfl rfl rfl rfl ?_
    refine L_op rfl (X_pick (t := true) (v := (.bool (true))) rfl rfl ?_)
    refine L_op rfl (X_move (v := (.bool (true))) rfl ?_)
    refine L_gn (dj := 63) (t := true) rfl rfl rfl rfl ?_
    refine L_gn (dj := 63) (t := true) rfl rfl rfl rfl ?_
    refine L_gn (dj := 63) (t := true) rfl rfl rfl rfl ?_
    refine L_gn (dj := 63) (t := true) rfl rfl rfl rfl ?_
    refine L_gn (dj := 63) (t := true) rfl rfl rfl rfl ?_
    refine L_gn (dj := 63) (t := true) rfl rfl rfl rfl ?_
    refine L_gn (dj := 63) (t := true) rfl rfl rfl rfl ?_
    refine L_gn (dj := 63) (t := true) rfl rfl rfl rfl ?_
    refine L_gn (dj := 63) (t := true) rfl rfl rfl rfl ?_
    refine L_gn (dj := 63) (t := true) rfl rfl rfl rfl ?_
    refine L_gn (dj := 63) (t := true) rfl rfl rfl rfl ?_
    refine L_gn (dj := 63) (t := true) rfl rfl rfl rfl ?_
    refine L_op rfl (X_pick (t := true) (v := (.bool (true))) rfl rfl ?_)
    refine L_nil ?_
    refine T_n ?_
    refine W_ct rfl ?_
    refine W_seq ?_
    refine W_reg ?_
    refine L_op rfl (X_fn (vs := []) en9 rfl (CT.mono (c_wakes _) ?_))
    rintro _ w9 ⟨rfl, hu9⟩
    have hz9 := hu9.size
    replace h0 := h0.ext hu9
    replace h1 := h1.ext hu9
    replace hU := hU.trans (Ext.upd hu9)
    replace hB1 := hB1.ext hu9
    replace hB2 := hB2.ext hu9
    replace hB3 := hB3.ext hu9
    refine L_op rfl (X_assign (v := (.bool (true))) rfl ?_)
    refine L_nil ?_
    refine T_n ?_
    refine W_ret ?_
    refine T_r ?_
    exact BQ_r (End_1 Try.results4 (v := .bool true) rfl ⟨rfl, hU.own hn0⟩)
   ·refine L_gy (dj := 40) rfl rfl rfl (X_load (p := (ptr b1 (9))) (v := .bool false) T4 rfl (hB1.at1 (by rw [hs8]; rfl)) ?_)
    refine L_op rfl (X_pick (t := false) (v := (.bool (false))) rfl rfl ?_)
    refine L_op rfl (X_move (v := (.bool (false))) rfl ?_)
    refine L_gy (dj := 44) rfl rfl rfl (X_move (v := (.int .i64 (f))) rfl ?_)
    by_cases hc10 : (f : Int) < (4)
    ·refine L_gy (dj := 44) rfl rfl rfl (X_cmp (k := .i64) (a := f) (b := 4) (r := true) rfl rfl rfl (decide_eq_true (p := ((f) : Int) < ((4) : Int)) (by omega)) ?_)
     refine L_op rfl (X_pick (t := false) (v := (.bool (true))) rfl rfl ?_)
     refine L_op rfl (X_move (v := (.bool (true))) rfl ?_)
     refine L_gn (dj := 48) (t := true) rfl rfl rfl rfl ?_
     refine L_gn (dj := 48) (t := true) rfl rfl rfl rfl ?_
     refine L_op rfl (X_pick (t := true) (v := (.bool (true))) rfl rfl ?_)
     refine L_op rfl (X_move (v := (.bool (true))) rfl ?_)
     refine L_gn (dj := 52) (t := true) rfl rfl rfl rfl ?_
     refine L_gn (dj := 52) (t := true) rfl rfl rfl rfl ?_
     refine L_gn (dj := 52) (t := true) rfl rfl rfl rfl ?_
     refine L_gn (dj := 52) (t := true) rfl rfl rfl rfl ?_
     refine L_op rfl (X_pick (t := true) (v := (.bool (true))) rfl rfl ?_)
     refine L_op rfl (X_move (v := (.bool (true))) rfl ?_)
     refine L_gn (dj := 58) (t := true) rfl rfl rfl rfl ?_
     refine L_gn (dj := 58) (t := true) rfl rfl rfl rfl ?_
     refine L_gn (dj := 58) (t := true) rfl rfl rfl rfl ?_
     refine L_op rfl (X_pick (t := true) (v := (.bool (true))) rfl rfl ?_)
     refine L_op rfl (X_move (v := (.bool (true))) rfl ?_)
     refine L_gn (dj := 63) (t := true) rfl rfl rfl rfl ?_
     refine L_gn (dj := 63) (t := true) rfl rfl rfl rfl ?_
     refine L_gn (dj := 63) (t := true) rfl rfl rfl rfl ?_
     refine L_gn (dj := 63) (t := true) rfl rfl rfl rfl ?_
     refine L_gn (dj := 63) (t := true) rfl rfl rfl rfl ?_
     refine L_gn (dj := 63) (t := true) rfl rfl rfl rfl ?_
     refine L_gn (dj := 63) (t := true) rfl rfl rfl rfl ?_
     refine L_gn (dj := 63) (t := true) rfl rfl rfl rfl ?_
     refine L_gn (dj := 63) (t := true) rfl rfl rfl rfl ?_
     refine L_gn (dj := 63) (t := true) rfl rfl rfl rfl ?_
     refine L_gn (dj := 63) (t := true) rfl rfl rfl rfl ?_
     refine L_gn (dj := 63) (t := true) rfl rfl rfl rfl ?_
     refine L_op rfl (X_pick (t := true) (v := (.bool (true))) rfl rfl ?_)
     refine L_nil ?_
     refine T_n ?_
     refine W_ct rfl ?_
     refine W_seq ?_
     refine W_reg ?_
     refine L_op rfl (X_fn (vs := []) en9 rfl (CT.mono (c_wakes _) ?_))
     rintro _ w11 ⟨rfl, hu11⟩
     have hz11 := hu11.size
     replace h0 := h0.ext hu11
     replace h1 := h1.ext hu11
     replace hU := hU.trans (Ext.upd hu11)
     replace hB1 := hB1.ext hu11
     replace hB2 := hB2.ext hu11
     replace hB3 := hB3.ext hu11
     refine L_op rfl (X_assign (v := (.bool (true))) rfl ?_)
     refine L_nil ?_
     refine T_n ?_
     refine W_ret ?_
     refine T_r ?_
     exact BQ_r (End_1 Try.results4 (v := .bool true) rfl ⟨rfl, hU.own hn0⟩)
    ·refine L_gy (dj := 44) rfl rfl rfl (X_cmp (k := .i64) (a := f) (b := 4) (r := false) rfl rfl rfl (decide_eq_false (p := ((f) : Int) < ((4) : Int)) (by omega)) ?_)
     refine L_op rfl (X_pick (t := false) (v := (.bool (false))) rfl rfl ?_)
     refine L_op rfl (X_move (v := (.bool (false))) rfl ?_)
     refine L_gy (dj := 48) rfl rfl rfl (X_move (v := (.int .i64 (f))) rfl ?_)
     by_cases hc12 : (f : Int) > (20)
     ·refine L_gy (dj := 48) rfl rfl rfl (X_cmp (k := .i64) (a := f) (b := 20) (r := true) rfl rfl rfl (decide_eq_true (p := ((20) : Int) < ((f) : Int)) (by omega)) ?_)
      refine L_op rfl (X_pick (t := false) (v := (.bool (true))) rfl rfl ?_)
      refine L_op rfl (X_move (v := (.bool (true))) rfl ?_)
      refine L_gn (dj := 52) (t := true) rfl rfl rfl rfl ?_
      refine L_gn (dj := 52) (t := true) rfl rfl rfl rfl ?_
      refine L_gn (dj := 52) (t := true) rfl rfl rfl rfl ?_
      refine L_gn (dj := 52) (t := true) rfl rfl rfl rfl ?_
      refine L_op rfl (X_pick (t := true) (v := (.bool (true))) rfl rfl ?_)
      refine L_op rfl (X_move (v := (.bool (true))) rfl ?_)
      refine L_gn (dj := 58) (t := true) rfl rfl rfl rfl ?_
      refine L_gn (dj := 58) (t := true) rfl rfl rfl rfl ?_
      refine L_gn (dj := 58) (t := true) rfl rfl rfl rfl ?_
      refine L_op rfl (X_pick (t := true) (v := (.bool (true))) rfl rfl ?_)
      refine L_op rfl (X_move (v := (.bool (true))) rfl ?_)
      refine L_gn (dj := 63) (t := true) rfl rfl rfl rfl ?_
      refine L_gn (dj := 63) (t := true) rfl rfl rfl rfl ?_
      refine L_gn (dj := 63) (t := true) rfl rfl rfl rfl ?_
      refine L_gn (dj := 63) (t := true) rfl rfl rfl rfl ?_
      refine L_gn (dj := 63) (t := true) rfl rfl rfl rfl ?_
      refine L_gn (dj := 63) (t := true) rfl rfl rfl rfl ?_
      refine L_gn (dj := 63) (t := true) rfl rfl rfl rfl ?_
      refine L_gn (dj := 63) (t := true) rfl rfl rfl rfl ?_
      refine L_gn (dj := 63) (t := true) rfl rfl rfl rfl ?_
      refine L_gn (dj := 63) (t := true) rfl rfl rfl rfl ?_
      refine L_gn (dj := 63) (t := true) rfl rfl rfl rfl ?_
      refine L_gn (dj := 63) (t := true) rfl rfl rfl rfl ?_
      refine L_op rfl (X_pick (t := true) (v := (.bool (true))) rfl rfl ?_)
      refine L_nil ?_
      refine T_n ?_
      refine W_ct rfl ?_
      refine W_seq ?_
      refine W_reg ?_
      refine L_op rfl (X_fn (vs := []) en9 rfl (CT.mono (c_wakes _) ?_))
      rintro _ w13 ⟨rfl, hu13⟩
      have hz13 := hu13.size
      replace h0 := h0.ext hu13
      replace h1 := h1.ext hu13
      replace hU := hU.trans (Ext.upd hu13)
      replace hB1 := hB1.ext hu13
      replace hB2 := hB2.ext hu13
      replace hB3 := hB3.ext hu13
      refine L_op rfl (X_assign (v := (.bool (true))) rfl ?_)
      refine L_nil ?_
      refine T_n ?_
      refine W_ret ?_
      refine T_r ?_
      exact BQ_r (End_1 Try.results4 (v := .bool true) rfl ⟨rfl, hU.own hn0⟩)
     ·refine L_gy (dj := 48) rfl rfl rfl (X_cmp (k := .i64) (a := f) (b := 20) (r := false) rfl rfl rfl (decide_eq_false (p := ((20) : Int) < ((f) : Int)) (by omega)) ?_)
      refine L_op rfl (X_pick (t := false) (v := (.bool (false))) rfl rfl ?_)
      refine L_op rfl (X_move (v := (.bool (false))) rfl ?_)
      refine L_gy (dj := 52) rfl rfl rfl (X_loadA (p := (ptr b2 (0))) (xs := ptC q) A35 rfl hB2.atAll rfl ?_)
      refine L_gy (dj := 52) rfl rfl rfl (X_move (v := (.int .i64 (((m : Nat) : Int)))) rfl ?_)
      refine L_gy (dj := 52) rfl rfl rfl (X_fn (vs := [(.agg (ptC q).toArray), (.int .i64 (((m : Nat) : Int)))]) en8 rfl (CT.mono (c_rightR q ((m : Nat) : Int) _ hq) ?_))
      rintro _ w14 ⟨rfl, hu14⟩
      have hz14 := hu14.size
      replace h0 := h0.ext hu14
      replace h1 := h1.ext hu14
      replace hU := hU.trans (Ext.upd hu14)
      replace hB1 := hB1.ext hu14
      replace hB2 := hB2.ext hu14
      replace hB3 := hB3.ext hu14
      rcases Bool.eq_false_or_eq_true (decide (RightP q ((m : Nat) : Int))) with hc15 | hc15
      ·rw [hc15]
       refine L_gy (dj := 52) rfl rfl rfl (X_not (b := true) (r := false) rfl rfl ?_)
       refine L_op rfl (X_pick (t := false) (v := (.bool (false))) rfl rfl ?_)
       refine L_op rfl (X_move (v := (.bool (false))) rfl ?_)
       refine L_gy (dj := 58) rfl rfl rfl (X_fldP (b := b2) (o := 0) (r := 0) Fd35_0 rfl rfl ?_)
       refine L_gy (dj := 58) rfl rfl rfl (X_load (p := (ptr b2 (0))) (v := (.int .u8 (q.1))) T5 rfl (hB2.at1 rfl) ?_)
       by_cases hc16 : (q.1 : Int) = (0)
       ·refine L_gy (dj := 58) rfl rfl rfl (X_cmp (k := .u8) (a := q.1) (b := 0) (r := true) rfl rfl rfl (decide_eq_true (p := ((q.1) : Int) = ((0) : Int)) (by omega)) ?_)
        refine L_op rfl (X_pick (t := false) (v := (.bool (true))) rfl rfl ?_)
        refine L_op rfl (X_move (v := (.bool (true))) rfl ?_)
        refine L_gn (dj := 63) (t := true) rfl rfl rfl rfl ?_
        refine L_gn (dj := 63) (t := true) rfl rfl rfl rfl ?_
        refine L_gn (dj := 63) (t := true) rfl rfl rfl rfl ?_
        refine L_gn (dj := 63) (t := true) rfl rfl rfl rfl ?_
        refine L_gn (dj := 63) (t := true) rfl rfl rfl rfl ?_
        refine L_gn (dj := 63) (t := true) rfl rfl rfl rfl ?_
        refine L_gn (dj := 63) (t := true) rfl rfl rfl rfl ?_
        refine L_gn (dj := 63) (t := true) rfl rfl rfl rfl ?_
        refine L_gn (dj := 63) (t := true) rfl rfl rfl rfl ?_
        refine L_gn (dj := 63) (t := true) rfl rfl rfl rfl ?_
        refine L_gn (dj := 63) (t := true) rfl rfl rfl rfl ?_
        refine L_gn (dj := 63) (t := true) rfl rfl rfl rfl ?_
        refine L_op rfl (X_pick (t := true) (v := (.bool (true))) rfl rfl ?_)
        refine L_nil ?_
        refine T_n ?_
        refine W_ct rfl ?_
        refine W_seq ?_
        refine W_reg ?_
        refine L_op rfl (X_fn (vs := []) en9 rfl (CT.mono (c_wakes _) ?_))
        rintro _ w17 ⟨rfl, hu17⟩
        have hz17 := hu17.size
        replace h0 := h0.ext hu17
        replace h1 := h1.ext hu17
        replace hU := hU.trans (Ext.upd hu17)
        replace hB1 := hB1.ext hu17
        replace hB2 := hB2.ext hu17
        replace hB3 := hB3.ext hu17
        refine L_op rfl (X_assign (v := (.bool (true))) rfl ?_)
        refine L_nil ?_
        refine T_n ?_
        refine W_ret ?_
        refine T_r ?_
        exact BQ_r (End_1 Try.results4 (v := .bool true) rfl ⟨rfl, hU.own hn0⟩)
       ·refine L_gy (dj := 58) rfl rfl rfl (X_cmp (k := .u8) (a := q.1) (b := 0) (r := false) rfl rfl rfl (decide_eq_false (p := ((q.1) : Int) = ((0) : Int)) (by omega)) ?_)
        refine L_op rfl (X_pick (t := false) (v := (.bool (false))) rfl rfl ?_)
        refine L_op rfl (X_move (v := (.bool (false))) rfl ?_)
        refine L_gy (dj := 63) rfl rfl rfl (X_fldP (b := b1) (o := 0) (r := 0) Fd29_0 rfl rfl ?_)
        refine L_gy (dj := 63) rfl rfl rfl (X_idxAP (len := 2) (sz := 4) (b := b1) (o := 0) (k := .i64) (i := 0) (r := 0) Try.underlying27 Z26 rfl rfl (by omega) (by omega) rfl ?_)
        refine L_gy (dj := 63) rfl rfl rfl (X_fldP (b := b1) (o := 0) (r := 1) Fd26_1 rfl rfl ?_)
        refine L_gy (dj := 63) rfl rfl rfl (X_load (p := (ptr b1 (1))) (v := p.d0.cv) T23 rfl (hB1.at1 rfl) ?_)
        refine L_gy (dj := 63) rfl rfl rfl (X_len (v := p.d0.cv) (n := p.d0.cs.length) Try.underlying23 rfl h0.2.1.sv ?_)
        refine L_gy (dj := 63) rfl rfl rfl (X_fldP (b := b1) (o := 0) (r := 0) Fd29_0 rfl rfl ?_)
        refine L_gy (dj := 63) rfl rfl rfl (X_idxAP (len := 2) (sz := 4) (b := b1) (o := 0) (k := .i64) (i := 1) (r := 4) Try.underlying27 Z26 rfl rfl (by omega) (by omega) rfl ?_)
        refine L_gy (dj := 63) rfl rfl rfl (X_fldP (b := b1) (o := 4) (r := 5) Fd26_1 rfl rfl ?_)
        refine L_gy (dj := 63) rfl rfl rfl (X_load (p := (ptr b1 (5))) (v := p.d1.cv) T23 rfl (hB1.at1 rfl) ?_)
        refine L_gy (dj := 63) rfl rfl rfl (X_len (v := p.d1.cv) (n := p.d1.cs.length) Try.underlying23 rfl h1.2.1.sv ?_)
        have hcA_ := (hgA.1 hc5).1.2.2.1; have hcB_ := (hgB.1 hc7).1.2.2.1
        refine L_gy (dj := 63) rfl rfl rfl (X_arith (k := .i64) (a := ((p.d0.cs.length : Nat) : Int)) (b := ((p.d1.cs.length : Nat) : Int)) (r := ((p.d0.cs.length + p.d1.cs.length : Nat) : Int)) rfl rfl rfl (iadd64 (by omega) (by omega) (by omega)) ?_)
        by_cases hc18 : (((p.d0.cs.length + p.d1.cs.length : Nat) : Int) : Int) > (0)
        ·refine L_gy (dj := 63) rfl rfl rfl (X_cmp (k := .i64) (a := ((p.d0.cs.length + p.d1.cs.length : Nat) : Int)) (b := 0) (r := true) rfl rfl rfl (decide_eq_true (p := ((0) : Int) < ((((p.d0.cs.length + p.d1.cs.length : Nat) : Int)) : Int)) (by omega)) ?_)
         refine L_op rfl (X_pick (t := false) (v := (.bool (true))) rfl rfl ?_)
         refine L_nil ?_
         refine T_n ?_
         refine W_ct rfl ?_
         refine W_seq ?_
         refine W_reg ?_
         refine L_op rfl (X_fn (vs := []) en9 rfl (CT.mono (c_wakes _) ?_))
         rintro _ w19 ⟨rfl, hu19⟩
         have hz19 := hu19.size
         replace h0 := h0.ext hu19
         replace h1 := h1.ext hu19
         replace hU := hU.trans (Ext.upd hu19)
         replace hB1 := hB1.ext hu19
         replace hB2 := hB2.ext hu19
         replace hB3 := hB3.ext hu19
         refine L_op rfl (X_assign (v := (.bool (true))) rfl ?_)
         refine L_nil ?_
         refine T_n ?_
         refine W_ret ?_
         refine T_r ?_
         exact BQ_r (End_1 Try.results4 (v := .bool true) rfl ⟨rfl, hU.own hn0⟩)
        ·refine L_gy (dj := 63) rfl rfl rfl (X_cmp (k := .i64) (a := ((p.d0.cs.length + p.d1.cs.length : Nat) : Int)) (b := 0) (r := false) rfl rfl rfl (decide_eq_false (p := ((0) : Int) < ((((p.d0.cs.length + p.d1.cs.length : Nat) : Int)) : Int)) (by omega)) ?_)
         refine L_op rfl (X_pick (t := false) (v := (.bool (false))) rfl rfl ?_)
         refine L_nil ?_
         refine T_n ?_
         refine W_cf rfl ?_
         refine W_skip ?_
         refine T_n ?_
         refine W_seq ?_
         have hMA : p.da.a.May := hgA.1 hc5
         have hMB : p.da.b.May := hgB.1 hc7
         have hdn : p.dn = false := hs8
         have hRt := of_decide_eq_true hc15
         have hsA := may_sz hMA; have hsB := may_sz hMB
         have hcsB : p.d1.cs = [] := List.eq_nil_of_length_eq_zero (by omega)
         refine W_reg ?_
         refine L_op rfl (X_move (v := (.int .i64 (f))) rfl ?_)
         refine L_op rfl (X_fldP (b := b1) (o := 0) (r := 8) Fd29_1 rfl rfl ?_)
         refine L_op0 (X_store (b := b1) (o := 8) T3 rfl rfl rfl hB1 (by show (8 : Nat) < 10; decide) ?_)
         intro w20 hu20 hb20
         have hz20 := hu20.size
         replace h0 := h0.upd hu20 fun i h1 h2 h => by have h : i = b1 := h; omega
         replace h1 := h1.upd hu20 fun i h1 h2 h => by have h : i = b1 := h; omega
         replace hU := hU.trans (hu20.mono fun i _ h => by have h : i = b1 := h; show n0 ≤ i; omega)
         replace hB2 := hB2.upd hu20 fun h => by have h : b2 = b1 := h; omega
         replace hB3 := hB3.upd hu20 fun h => by have h : b3 = b1 := h; omega
         replace hB1 : Blk w20 b1 #[p.d0.pv, p.d0.cv, p.d0.bv, (.bool (p.d0.off)), p.d1.pv, p.d1.cv, p.d1.bv, (.bool (p.d1.off)), (.int .i64 (f)), (.bool (p.dn))] 29 := hb20
         refine L_nil ?_
         refine T_n ?_
         refine W_seq ?_
         refine W_reg ?_
         refine L_op rfl (X_fldP (b := b1) (o := 0) (r := 0) Fd29_0 rfl rfl ?_)
         refine L_op rfl (X_idxAP (len := 2) (sz := 4) (b := b1) (o := 0) (k := .i64) (i := 0) (r := 0) Try.underlying27 Z26 rfl rfl (by omega) (by omega) rfl ?_)
         refine L_op rfl (X_loadA (p := (ptr b1 (0))) (xs := [p.d0.pv, p.d0.cv, p.d0.bv, (.bool (p.d0.off))]) A26 rfl (hB1.part (o := 0) (n := 4) rfl) rfl ?_)
         obtain ⟨sdA, hsdA⟩ : ∃ n, n = w20.heap.size := ⟨_, rfl⟩
         have hcr_ := c_detRD p.d0 w20 0 n0 (by omega) h0 (hsA.mono (by decide))
         refine L_op rfl (X_fn (vs := [(.agg #[p.d0.pv, p.d0.cv, p.d0.bv, (.bool (p.d0.off))])]) en15 rfl ?_)
         refine CT.mono hcr_ ?_
         clear hcr_
         rintro _ w21 ⟨dA, rfl, hdA, edA, hu21⟩
         have hz21 := hu21.size
         obtain ⟨udA, husdA⟩ : ∃ n, n = w21.heap.size := ⟨_, rfl⟩
         rw [← hsdA, ← husdA] at hdA
         replace h0 := h0.ext hu21
         replace h1 := h1.ext hu21
         replace hU := hU.trans (Ext.upd hu21)
         replace hB2 := hB2.ext hu21
         replace hB3 := hB3.ext hu21
         replace hB1 := hB1.ext hu21
         have odA : dA.off = true := congrArg DD.off edA
         refine L_op rfl (X_fldP (b := b1) (o := 0) (r := 0) Fd29_0 rfl rfl ?_)
         refine L_op rfl (X_idxAP (len := 2) (sz := 4) (b := b1) (o := 0) (k := .i64) (i := 0) (r := 0) Try.underlying27 Z26 rfl rfl (by omega) (by omega) rfl ?_)
         refine L_op0 (X_storeA (b := b1) (o := 0) (ys := [dA.pv, dA.cv, dA.bv, (.bool (dA.off))]) A26 rfl rfl (List.forall_mem_cons.2 ⟨(hdA.1.sv.one), (List.forall_mem_cons.2 ⟨(hdA.2.1.sv.one), (List.forall_mem_cons.2 ⟨(hdA.2.2.sv.one), (List.forall_mem_cons.2 ⟨rfl, (fun _ h => by cases h)⟩)⟩)⟩)⟩) rfl hB1 (by show 0 + 4 ≤ 10; decide) ?_)
         intro w22 hu22 hb22
         have hz22 := hu22.size
         replace h0 := h0.upd hu22 fun i h1 h2 h => by have h : i = b1 := h; omega
         replace h1 := h1.upd hu22 fun i h1 h2 h => by have h : i = b1 := h; omega
         replace hU := hU.trans (hu22.mono fun i _ h => by have h : i = b1 := h; show n0 ≤ i; omega)
         replace hB2 := hB2.upd hu22 fun h => by have h : b2 = b1 := h; omega
         replace hB3 := hB3.upd hu22 fun h => by have h : b3 = b1 := h; omega
         replace hdA := hdA.upd hu22 fun i h1 h2 h => by have h : i = b1 := h; omega
         replace hB1 : Blk w22 b1 #[dA.pv, dA.cv, dA.bv, (.bool (dA.off)), p.d1.pv, p.d1.cv, p.d1.bv, (.bool (p.d1.off)), (.int .i64 (f)), (.bool (p.dn))] 29 := hb22
         refine L_nil ?_
         refine T_n ?_
         refine W_seq ?_
         refine W_reg ?_
         refine L_op rfl (X_fldP (b := b1) (o := 0) (r := 0) Fd29_0 rfl rfl ?_)
         refine L_op rfl (X_idxAP (len := 2) (sz := 4) (b := b1) (o := 0) (k := .i64) (i := 1) (r := 4) Try.underlying27 Z26 rfl rfl (by omega) (by omega) rfl ?_)
         refine L_op rfl (X_loadA (p := (ptr b1 (4))) (xs := [p.d1.pv, p.d1.cv, p.d1.bv, (.bool (p.d1.off))]) A26 rfl (hB1.part (o := 4) (n := 4) rfl) rfl ?_)
         obtain ⟨sdB, hsdB⟩ : ∃ n, n = w22.heap.size := ⟨_, rfl⟩
         have hcr_ := c_attRD p.d1 w22 0 n0 (by omega) h1 (hsB.mono (by decide))
         refine L_op rfl (X_fn (vs := [(.agg #[p.d1.pv, p.d1.cv, p.d1.bv, (.bool (p.d1.off))])]) en16 rfl ?_)
         refine CT.mono hcr_ ?_
         clear hcr_
         rintro _ w23 ⟨dB, rfl, hdB, edB, hu23⟩
         have hz23 := hu23.size
         obtain ⟨udB, husdB⟩ : ∃ n, n = w23.heap.size := ⟨_, rfl⟩
         rw [← hsdB, ← husdB] at hdB
         replace h0 := h0.ext hu23
         replace h1 := h1.ext hu23
         replace hU := hU.trans (Ext.upd hu23)
         replace hB2 := hB2.ext hu23
         replace hB3 := hB3.ext hu23
         replace hdA := hdA.ext hu23
         replace hB1 := hB1.ext hu23
         have odB : dB.off = false := congrArg DD.off edB
         refine L_op rfl (X_fldP (b := b1) (o := 0) (r := 0) Fd29_0 rfl rfl ?_)
         refine L_op rfl (X_idxAP (len := 2) (sz := 4) (b := b1) (o := 0) (k := .i64) (i := 1) (r := 4) Try.underlying27 Z26 rfl rfl (by omega) (by omega) rfl ?_)
         refine L_op0 (X_storeA (b := b1) (o := 4) (ys := [dB.pv, dB.cv, dB.bv, (.bool (dB.off))]) A26 rfl rfl (List.forall_mem_cons.2 ⟨(hdB.1.sv.one), (List.forall_mem_cons.2 ⟨(hdB.2.1.sv.one), (List.forall_mem_cons.2 ⟨(hdB.2.2.sv.one), (List.forall_mem_cons.2 ⟨rfl, (fun _ h => by cases h)⟩)⟩)⟩)⟩) rfl hB1 (by show 4 + 4 ≤ 10; decide) ?_)
         intro w24 hu24 hb24
         have hz24 := hu24.size
         replace h0 := h0.upd hu24 fun i h1 h2 h => by have h : i = b1 := h; omega
         replace h1 := h1.upd hu24 fun i h1 h2 h => by have h : i = b1 := h; omega
         replace hU := hU.trans (hu24.mono fun i _ h => by have h : i = b1 := h; show n0 ≤ i; omega)
         replace hB2 := hB2.upd hu24 fun h => by have h : b2 = b1 := h; omega
         replace hB3 := hB3.upd hu24 fun h => by have h : b3 = b1 := h; omega
         replace hdA := hdA.upd hu24 fun i h1 h2 h => by have h : i = b1 := h; omega
         replace hdB := hdB.upd hu24 fun i h1 h2 h => by have h : i = b1 := h; omega
         replace hB1 : Blk w24 b1 #[dA.pv, dA.cv, dA.bv, (.bool (dA.off)), dB.pv, dB.cv, dB.bv, (.bool (dB.off)), (.int .i64 (f)), (.bool (p.dn))] 29 := hb24
         refine L_nil ?_
         refine T_n ?_
         refine W_seq ?_
         refine W_reg ?_
         refine L_op rfl (X_loadA (p := (ptr b1 (0))) (xs := [dA.pv, dA.cv, dA.bv, (.bool (dA.off)), dB.pv, dB.cv, dB.bv, (.bool (dB.off)), (.int .i64 (f)), (.bool (p.dn))]) A29 rfl hB1.atAll rfl ?_)
         refine L_op rfl (X_loadA (p := (ptr b2 (0))) (xs := ptC q) A35 rfl hB2.atAll rfl ?_)
         refine L_op rfl (X_loadA (p := (ptr b3 (0))) (xs := ((pg.1).map byteV)) A37 rfl hB3.atAll (by rw [List.length_map]; exact pg.2) ?_)
         have hMb : dB.da.May := by rw [edB]; exact ⟨⟨hMB.1.1, hMB.1.2.1, hMB.1.2.2.1, fun h => by cases h⟩, hMB.2.1, hMB.2.2⟩
         have hMa : dA.da.May := by rw [edA]; exact ⟨⟨hMA.1.1, hMA.1.2.1, Nat.zero_le _, fun _ => rfl⟩, fun j c hj => absurd hj (Nat.not_lt_zero j), hMA.2.2⟩
         have hcb : dB.da.cs.length ≤ 1998 := by rw [edB]; show p.d1.cs.length ≤ 1998; omega
         have hpb : m ≤ dB.da.ps.length := by rw [edB]; show m ≤ p.d1.ps.length; omega
         have hwl : writeD (⟨dA, dB, f, p.dn⟩ : Pr).da q pg = (⟨dA.da, addW pg (asQ q) dB.da, f - (asQ q).length, false⟩, 0) := (congrArg (fun z => writeD ⟨dA.da, dB.da, f, z⟩ q pg) hdn).trans (write_one1 (q := q) (pg := pg) (f := f) odA odB hMb hcb (by omega) hpb hRt)
         obtain ⟨sq, hsq⟩ : ∃ n, n = w24.heap.size := ⟨_, rfl⟩
         have hcr_ := c_writeM q pg (⟨dA, dB, f, p.dn⟩ : Pr) w24 (by show f ≤ 1000000; omega) sdA udA sdB udB (by omega) (by omega) hdA hdB hq ((may_sz hMa).mono (by decide)) ((may_sz hMb).mono (by decide))
         refine L_op rfl (X_fn (vs := [(.agg ([dA.pv, dA.cv, dA.bv, (.bool (dA.off)), dB.pv, dB.cv, dB.bv, (.bool (dB.off)), (.int .i64 (f)), (.bool (p.dn))]).toArray), (.agg (ptC q).toArray), (.agg (((pg.1).map byteV)).toArray)]) en10 rfl ?_)
         refine CT.mono hcr_ ?_
         clear hcr_
         rintro _ w25 ⟨pq, l0q, u0q, l1q, u1q, rfl, hq0, hq1, hiq0, hiq1, hdaq, hu25⟩
         have hz25 := hu25.size
         obtain ⟨eq, heq⟩ : ∃ z, z = (writeD (⟨dA, dB, f, p.dn⟩ : Pr).da q pg).2 := ⟨_, rfl⟩
         rw [← heq]
         obtain ⟨uq, huq⟩ : ∃ n, n = w25.heap.size := ⟨_, rfl⟩
         rw [← hsq, ← huq] at hiq0 hiq1
         replace h0 := h0.ext hu25
         replace h1 := h1.ext hu25
         replace hU := hU.trans (Ext.upd hu25)
         replace hB2 := hB2.ext hu25
         replace hB3 := hB3.ext hu25
         replace hdA := hdA.ext hu25
         replace hdB := hdB.ext hu25
         replace hB1 := hB1.ext hu25
         rw [hwl] at heq hdaq
         replace heq : eq = 0 := heq
         subst heq
         have hof : pq.fz = f - (asQ q).length := congrArg PD.fz hdaq
         have hoA : pq.d0.da = dA.da := congrArg PD.a hdaq
         refine L_op rfl (X_move (v := (.tuple #[(.agg #[pq.d0.pv, pq.d0.cv, pq.d0.bv, (.bool (pq.d0.off)), pq.d1.pv, pq.d1.cv, pq.d1.bv, (.bool (pq.d1.off)), (.int .i64 (pq.fz)), (.bool (pq.dn))]), (.int .i64 (0))])) rfl ?_)
         refine L_op rfl (X_extract (l := [(.agg #[pq.d0.pv, pq.d0.cv, pq.d0.bv, (.bool (pq.d0.off)), pq.d1.pv, pq.d1.cv, pq.d1.bv, (.bool (pq.d1.off)), (.int .i64 (pq.fz)), (.bool (pq.dn))]), (.int .i64 (0))]) (v := (.agg #[pq.d0.pv, pq.d0.cv, pq.d0.bv, (.bool (pq.d0.off)), pq.d1.pv, pq.d1.cv, pq.d1.bv, (.bool (pq.d1.off)), (.int .i64 (pq.fz)), (.bool (pq.dn))])) rfl rfl ?_)
         refine L_op rfl (X_extract (l := [(.agg #[pq.d0.pv, pq.d0.cv, pq.d0.bv, (.bool (pq.d0.off)), pq.d1.pv, pq.d1.cv, pq.d1.bv, (.bool (pq.d1.off)), (.int .i64 (pq.fz)), (.bool (pq.dn))]), (.int .i64 (0))]) (v := (.int .i64 (0))) rfl rfl ?_)
         refine L_op rfl (X_alloc (z := (.agg #[(.slice none 0 0), (.slice none 0 0), (.slice none 0 0), (.bool (false)), (.slice none 0 0), (.slice none 0 0), (.slice none 0 0), (.bool (false)), (.int .i64 (0)), (.bool (false))])) (c := #[(.slice none 0 0), (.slice none 0 0), (.slice none 0 0), (.bool (false)), (.slice none 0 0), (.slice none 0 0), (.slice none 0 0), (.bool (false)), (.int .i64 (0)), (.bool (false))]) Zv29 rfl ?_)
         intro b26 w26 hn26
         have hbn26 := hn26.num; have hbs26 := hn26.size
         replace h0 := h0.ext hn26.ext
         replace h1 := h1.ext hn26.ext
         replace hU := hU.trans (Ext.upd hn26.ext)
         replace hB2 := hB2.ext hn26.ext
         replace hB3 := hB3.ext hn26.ext
         replace hdA := hdA.ext hn26.ext
         replace hdB := hdB.ext hn26.ext
         replace hB1 := hB1.ext hn26.ext
         replace hq0 := hq0.ext hn26.ext
         replace hq1 := hq1.ext hn26.ext
         have hB26 := hn26.blk
         refine L_op0 (X_storeW (b := b26) (ys := [pq.d0.pv, pq.d0.cv, pq.d0.bv, (.bool (pq.d0.off)), pq.d1.pv, pq.d1.cv, pq.d1.bv, (.bool (pq.d1.off)), (.int .i64 (pq.fz)), (.bool (pq.dn))]) A29 rfl rfl (List.forall_mem_cons.2 ⟨(hq0.1.sv.one), (List.forall_mem_cons.2 ⟨(hq0.2.1.sv.one), (List.forall_mem_cons.2 ⟨(hq0.2.2.sv.one), (List.forall_mem_cons.2 ⟨rfl, (List.forall_mem_cons.2 ⟨(hq1.1.sv.one), (List.forall_mem_cons.2 ⟨(hq1.2.1.sv.one), (List.forall_mem_cons.2 ⟨(hq1.2.2.sv.one), (List.forall_mem_cons.2 ⟨rfl, (List.forall_mem_cons.2 ⟨rfl, (List.forall_mem_cons.2 ⟨rfl, (fun _ h => by cases h)⟩)⟩)⟩)⟩)⟩)⟩)⟩)⟩)⟩)⟩) rfl hB26 rfl ?_)
         intro w27 hu27 hb27
         have hz27 := hu27.size
         replace h0 := h0.upd hu27 fun i h1 h2 h => by have h : i = b26 := h; omega
         replace h1 := h1.upd hu27 fun i h1 h2 h => by have h : i = b26 := h; omega
         replace hU := hU.trans (hu27.mono fun i _ h => by have h : i = b26 := h; show n0 ≤ i; omega)
         replace hB2 := hB2.upd hu27 fun h => by have h : b2 = b26 := h; omega
         replace hB3 := hB3.upd hu27 fun h => by have h : b3 = b26 := h; omega
         replace hdA := hdA.upd hu27 fun i h1 h2 h => by have h : i = b26 := h; omega
         replace hdB := hdB.upd hu27 fun i h1 h2 h => by have h : i = b26 := h; omega
         replace hB1 := hB1.upd hu27 fun h => by have h : b1 = b26 := h; omega
         replace hq0 := hq0.upd hu27 fun i h1 h2 h => by have h : i = b26 := h; omega
         replace hq1 := hq1.upd hu27 fun i h1 h2 h => by have h : i = b26 := h; omega
         replace hB26 : Blk w27 b26 #[pq.d0.pv, pq.d0.cv, pq.d0.bv, (.bool (pq.d0.off)), pq.d1.pv, pq.d1.cv, pq.d1.bv, (.bool (pq.d1.off)), (.int .i64 (pq.fz)), (.bool (pq.dn))] 29 := hb27
         refine L_op rfl (X_assign (v := (.int .i64 (0))) rfl ?_)
         refine L_nil ?_
         refine T_n ?_
         refine W_seq ?_
         refine W_reg ?_
         refine L_op rfl (X_assign (v := (.int .i64 (1))) rfl ?_)
         refine L_nil ?_
         refine T_n ?_
         refine W_seq ?_
         refine W_seq ?_
         refine W_reg ?_
         refine L_op rfl (X_loadA (p := (ptr b2 (0))) (xs := ptC q) A35 rfl hB2.atAll rfl ?_)
         refine L_op rfl (X_fn (vs := [(.agg (ptC q).toArray)]) en17 rfl (CT.mono (c_metaR q _) ?_))
         rintro _ w28 ⟨rfl, hu28⟩
         have hz28 := hu28.size
         replace h0 := h0.ext hu28
         replace h1 := h1.ext hu28
         replace hU := hU.trans (Ext.upd hu28)
         replace hB2 := hB2.ext hu28
         replace hB3 := hB3.ext hu28
         replace hdA := hdA.ext hu28
         replace hdB := hdB.ext hu28
         replace hB1 := hB1.ext hu28
         replace hq0 := hq0.ext hu28
         replace hq1 := hq1.ext hu28
         replace hB26 := hB26.ext hu28
         rcases Bool.eq_false_or_eq_true (decide (MetaP q)) with hc29 | hc29
         ·rw [hc29]
          refine L_nil ?_
          refine T_n ?_
          refine W_ct rfl ?_
          refine W_reg ?_
          refine L_op rfl (X_assign (v := (.int .i64 (2))) rfl ?_)
          refine L_nil ?_
          refine T_n ?_
          refine W_seq ?_
          refine W_seq ?_
          refine W_reg ?_
          refine L_op rfl (X_move (v := (.int .i64 (0))) rfl ?_)
          refine L_op rfl (X_cmp (k := .i64) (a := 0) (b := 0) (r := false) rfl rfl rfl rfl ?_)
          refine L_op rfl (X_move (v := (.bool (false))) rfl ?_)
          refine L_gy (dj := 103) rfl rfl rfl (X_fldP (b := b26) (o := 0) (r := 8) Fd29_1 rfl rfl ?_)
          refine L_gy (dj := 103) rfl rfl rfl (X_load (p := (ptr b26 (8))) (v := (.int .i64 (pq.fz))) T3 rfl (hB26.at1 rfl) ?_)
          refine L_gy (dj := 103) rfl rfl rfl (X_move (v := (.int .i64 (f))) rfl ?_)
          refine L_gy (dj := 103) rfl rfl rfl (X_move (v := (.int .i64 (2))) rfl ?_)
          have hqn := asQ_m (of_decide_eq_true hc29)
          refine L_gy (dj := 103) rfl rfl rfl (X_arith (k := .i64) (a := f) (b := 2) (r := (f - 2)) rfl rfl rfl (isub64 rfl (by omega) (by omega)) ?_)
          refine L_gy (dj := 103) rfl rfl rfl (X_cmp (k := .i64) (a := pq.fz) (b := (f - 2)) (r := false) rfl rfl rfl (decide_eq_false (p := ((pq.fz) : Int) ≠ (((f - 2)) : Int)) (by omega)) ?_)
          refine L_op rfl (X_pick (t := false) (v := (.bool (false))) rfl rfl ?_)
          refine L_op rfl (X_move (v := (.bool (false))) rfl ?_)
          refine L_gy (dj := 111) rfl rfl rfl (X_fldP (b := b26) (o := 0) (r := 0) Fd29_0 rfl rfl ?_)
          refine L_gy (dj := 111) rfl rfl rfl (X_idxAP (len := 2) (sz := 4) (b := b26) (o := 0) (k := .i64) (i := 0) (r := 0) Try.underlying27 Z26 rfl rfl (by omega) (by omega) rfl ?_)
          refine L_gy (dj := 111) rfl rfl rfl (X_loadA (p := (ptr b26 (0))) (xs := [pq.d0.pv, pq.d0.cv, pq.d0.bv, (.bool (pq.d0.off))]) A26 rfl (hB26.part (o := 0) (n := 4) rfl) rfl ?_)
          refine L_gy (dj := 111) rfl rfl rfl (X_fldP (b := b1) (o := 0) (r := 0) Fd29_0 rfl rfl ?_)
          refine L_gy (dj := 111) rfl rfl rfl (X_idxAP (len := 2) (sz := 4) (b := b1) (o := 0) (k := .i64) (i := 0) (r := 0) Try.underlying27 Z26 rfl rfl (by omega) (by omega) rfl ?_)
          refine L_gy (dj := 111) rfl rfl rfl (X_loadA (p := (ptr b1 (0))) (xs := [dA.pv, dA.cv, dA.bv, (.bool (dA.off))]) A26 rfl (hB1.part (o := 0) (n := 4) rfl) rfl ?_)
          have hcr_ := c_sameRD pq.d0 dA w28 l0q u0q sdA udA hq0 hdA
          refine L_gy (dj := 111) rfl rfl rfl (X_fn (vs := [(.agg #[pq.d0.pv, pq.d0.cv, pq.d0.bv, (.bool (pq.d0.off))]), (.agg #[dA.pv, dA.cv, dA.bv, (.bool (dA.off))])]) en13 rfl ?_)
          refine CT.mono hcr_ ?_
          clear hcr_
          rintro _ w30 ⟨⟨g30, rfl, hg30⟩, hu30⟩
          have hz30 := hu30.size
          replace h0 := h0.ext hu30
          replace h1 := h1.ext hu30
          replace hU := hU.trans (Ext.upd hu30)
          replace hB2 := hB2.ext hu30
          replace hB3 := hB3.ext hu30
          replace hdA := hdA.ext hu30
          replace hdB := hdB.ext hu30
          replace hB1 := hB1.ext hu30
          replace hq0 := hq0.ext hu30
          replace hq1 := hq1.ext hu30
          replace hB26 := hB26.ext hu30
          obtain rfl : g30 = true := hg30.2 hoA
          refine L_gy (dj := 111) rfl rfl rfl (X_not (b := true) (r := false) rfl rfl ?_)
          refine L_op rfl (X_pick (t := false) (v := (.bool (false))) rfl rfl ?_)
          refine L_op rfl (X_move (v := (.bool (false))) rfl ?_)
          refine L_gy (dj := 121) rfl rfl rfl (X_loadA (p := (ptr b1 (0))) (xs := [dA.pv, dA.cv, dA.bv, (.bool (dA.off)), dB.pv, dB.cv, dB.bv, (.bool (dB.off)), (.int .i64 (f)), (.bool (p.dn))]) A29 rfl hB1.atAll rfl ?_)
          have hcr_ := c_live (⟨dA, dB, f, p.dn⟩ : Pr) w30 sdA udA sdB udB (by omega) (by omega) hdA hdB
          refine L_gy (dj := 121) rfl rfl rfl (X_fn (vs := [(.agg ([dA.pv, dA.cv, dA.bv, (.bool (dA.off)), dB.pv, dB.cv, dB.bv, (.bool (dB.off)), (.int .i64 (f)), (.bool (p.dn))]).toArray)]) en18 rfl ?_)
          refine CT.mono hcr_ ?_
          clear hcr_
          rintro _ w31 ⟨rfl, hu31⟩
          have hz31 := hu31.size
          replace h0 := h0.ext hu31
          replace h1 := h1.ext hu31
          replace hU := hU.trans (Ext.upd hu31)
          replace hB2 := hB2.ext hu31
          replace hB3 := hB3.ext hu31
          replace hdA := hdA.ext hu31
          replace hdB := hdB.ext hu31
          replace hB1 := hB1.ext hu31
          replace hq0 := hq0.ext hu31
          replace hq1 := hq1.ext hu31
          replace hB26 := hB26.ext hu31
          rw [live2 (p := (⟨dA, dB, f, p.dn⟩ : Pr).da) odA odB]
          refine L_gy (dj := 121) rfl rfl rfl (X_cmp (k := .u8) (a := 2) (b := 2) (r := false) rfl rfl rfl rfl ?_)
          refine L_op rfl (X_pick (t := false) (v := (.bool (false))) rfl rfl ?_)
          refine L_nil ?_
          refine T_n ?_
          refine W_cf rfl ?_
          refine W_skip ?_
          refine T_n ?_
          refine W_seq ?_
          refine W_reg ?_
          refine L_op rfl (X_fldP (b := b1) (o := 0) (r := 0) Fd29_0 rfl rfl ?_)
          refine L_op rfl (X_idxAP (len := 2) (sz := 4) (b := b1) (o := 0) (k := .i64) (i := 1) (r := 4) Try.underlying27 Z26 rfl rfl (by omega) (by omega) rfl ?_)
          refine L_op rfl (X_loadA (p := (ptr b1 (4))) (xs := [dB.pv, dB.cv, dB.bv, (.bool (dB.off))]) A26 rfl (hB1.part (o := 4) (n := 4) rfl) rfl ?_)
          obtain ⟨sdC, hsdC⟩ : ∃ n, n = w31.heap.size := ⟨_, rfl⟩
          have hcr_ := c_detRD dB w31 sdB udB (by omega) hdB ((may_sz hMb).mono (by decide))
          refine L_op rfl (X_fn (vs := [(.agg #[dB.pv, dB.cv, dB.bv, (.bool (dB.off))])]) en15 rfl ?_)
          refine CT.mono hcr_ ?_
          clear hcr_
          rintro _ w32 ⟨dC, rfl, hdC, edC, hu32⟩
          have hz32 := hu32.size
          obtain ⟨udC, husdC⟩ : ∃ n, n = w32.heap.size := ⟨_, rfl⟩
          rw [← hsdC, ← husdC] at hdC
          replace h0 := h0.ext hu32
          replace h1 := h1.ext hu32
          replace hU := hU.trans (Ext.upd hu32)
          replace hB2 := hB2.ext hu32
          replace hB3 := hB3.ext hu32
          replace hdA := hdA.ext hu32
          replace hdB := hdB.ext hu32
          replace hB1 := hB1.ext hu32
          replace hq0 := hq0.ext hu32
          replace hq1 := hq1.ext hu32
          replace hB26 := hB26.ext hu32
          have odC : dC.off = true := congrArg DD.off edC
          refine L_op rfl (X_fldP (b := b1) (o := 0) (r := 0) Fd29_0 rfl rfl ?_)
          refine L_op rfl (X_idxAP (len := 2) (sz := 4) (b := b1) (o := 0) (k := .i64) (i := 1) (r := 4) Try.underlying27 Z26 rfl rfl (by omega) (by omega) rfl ?_)
          refine L_op0 (X_storeA (b := b1) (o := 4) (ys := [dC.pv, dC.cv, dC.bv, (.bool (dC.off))]) A26 rfl rfl (List.forall_mem_cons.2 ⟨(hdC.1.sv.one), (List.forall_mem_cons.2 ⟨(hdC.2.1.sv.one), (List.forall_mem_cons.2 ⟨(hdC.2.2.sv.one), (List.forall_mem_cons.2 ⟨rfl, (fun _ h => by cases h)⟩)⟩)⟩)⟩) rfl hB1 (by show 4 + 4 ≤ 10; decide) ?_)
          intro w33 hu33 hb33
          have hz33 := hu33.size
          replace h0 := h0.upd hu33 fun i h1 h2 h => by have h : i = b1 := h; omega
          replace h1 := h1.upd hu33 fun i h1 h2 h => by have h : i = b1 := h; omega
          replace hU := hU.trans (hu33.mono fun i _ h => by have h : i = b1 := h; show n0 ≤ i; omega)
          replace hB2 := hB2.upd hu33 fun h => by have h : b2 = b1 := h; omega
          replace hB3 := hB3.upd hu33 fun h => by have h : b3 = b1 := h; omega
          replace hdA := hdA.upd hu33 fun i h1 h2 h => by have h : i = b1 := h; omega
          replace hdB := hdB.upd hu33 fun i h1 h2 h => by have h : i = b1 := h; omega
          replace hq0 := hq0.upd hu33 fun i h1 h2 h => by have h : i = b1 := h; omega
          replace hq1 := hq1.upd hu33 fun i h1 h2 h => by have h : i = b1 := h; omega
          replace hB26 := hB26.upd hu33 fun h => by have h : b26 = b1 := h; omega
          replace hdC := hdC.upd hu33 fun i h1 h2 h => by have h : i = b1 := h; omega
          replace hB1 : Blk w33 b1 #[dA.pv, dA.cv, dA.bv, (.bool (dA.off)), dC.pv, dC.cv, dC.bv, (.bool (dC.off)), (.int .i64 (f)), (.bool (p.dn))] 29 := hb33
          refine L_nil ?_
          refine T_n ?_
          refine W_seq ?_
          refine W_reg ?_
          refine L_op rfl (X_loadA (p := (ptr b1 (0))) (xs := [dA.pv, dA.cv, dA.bv, (.bool (dA.off)), dC.pv, dC.cv, dC.bv, (.bool (dC.off)), (.int .i64 (f)), (.bool (p.dn))]) A29 rfl hB1.atAll rfl ?_)
          refine L_op rfl (X_loadA (p := (ptr b2 (0))) (xs := ptC q) A35 rfl hB2.atAll rfl ?_)
          refine L_op rfl (X_loadA (p := (ptr b3 (0))) (xs := ((pg.1).map byteV)) A37 rfl hB3.atAll (by rw [List.length_map]; exact pg.2) ?_)
          have hMc : dC.da.May := by rw [edC]; exact ⟨⟨hMb.1.1, hMb.1.2.1, Nat.zero_le _, fun _ => rfl⟩, fun j c hj => absurd hj (Nat.not_lt_zero j), hMb.2.2⟩
          have hr30 := ready_none (p := (⟨dA, dC, f, p.dn⟩ : Pr).da) hdn odA odC
          have hwl2 := write_none (p := (⟨dA, dC, f, p.dn⟩ : Pr).da) (q := q) (pg := pg) (by rw [hr30]; decide)
          have hfl2 := flush_none (p := (⟨dA, dC, f, p.dn⟩ : Pr).da) (by rw [hr30]; decide)
          rw [hr30] at hwl2 hfl2
          obtain ⟨sr, hsr⟩ : ∃ n, n = w33.heap.size := ⟨_, rfl⟩
          have hcr_ := c_writeM q pg (⟨dA, dC, f, p.dn⟩ : Pr) w33 (by show f ≤ 1000000; omega) sdA udA sdC udC (by omega) (by omega) hdA hdC hq ((may_sz hMa).mono (by decide)) ((may_sz hMc).mono (by decide))
          refine L_op rfl (X_fn (vs := [(.agg ([dA.pv, dA.cv, dA.bv, (.bool (dA.off)), dC.pv, dC.cv, dC.bv, (.bool (dC.off)), (.int .i64 (f)), (.bool (p.dn))]).toArray), (.agg (ptC q).toArray), (.agg (((pg.1).map byteV)).toArray)]) en10 rfl ?_)
          refine CT.mono hcr_ ?_
          clear hcr_
          rintro _ w34 ⟨pr, l0r, u0r, l1r, u1r, rfl, hr0, hr1, hir0, hir1, hdar, hu34⟩
          have hz34 := hu34.size
          obtain ⟨er, her⟩ : ∃ z, z = (writeD (⟨dA, dC, f, p.dn⟩ : Pr).da q pg).2 := ⟨_, rfl⟩
          rw [← her]
          obtain ⟨ur, hur⟩ : ∃ n, n = w34.heap.size := ⟨_, rfl⟩
          rw [← hsr, ← hur] at hir0 hir1
          replace h0 := h0.ext hu34
          replace h1 := h1.ext hu34
          replace hU := hU.trans (Ext.upd hu34)
          replace hB2 := hB2.ext hu34
          replace hB3 := hB3.ext hu34
          replace hdA := hdA.ext hu34
          replace hdB := hdB.ext hu34
          replace hq0 := hq0.ext hu34
          replace hq1 := hq1.ext hu34
          replace hB26 := hB26.ext hu34
          replace hdC := hdC.ext hu34
          replace hB1 := hB1.ext hu34
          rw [hwl2] at her hdar
          replace her : er = 30 := her
          subst her
          refine L_op rfl (X_move (v := (.tuple #[(.agg #[pr.d0.pv, pr.d0.cv, pr.d0.bv, (.bool (pr.d0.off)), pr.d1.pv, pr.d1.cv, pr.d1.bv, (.bool (pr.d1.off)), (.int .i64 (pr.fz)), (.bool (pr.dn))]), (.int .i64 (30))])) rfl ?_)
          refine L_op rfl (X_extract (l := [(.agg #[pr.d0.pv, pr.d0.cv, pr.d0.bv, (.bool (pr.d0.off)), pr.d1.pv, pr.d1.cv, pr.d1.bv, (.bool (pr.d1.off)), (.int .i64 (pr.fz)), (.bool (pr.dn))]), (.int .i64 (30))]) (v := (.agg #[pr.d0.pv, pr.d0.cv, pr.d0.bv, (.bool (pr.d0.off)), pr.d1.pv, pr.d1.cv, pr.d1.bv, (.bool (pr.d1.off)), (.int .i64 (pr.fz)), (.bool (pr.dn))])) rfl rfl ?_)
          refine L_op rfl (X_extract (l := [(.agg #[pr.d0.pv, pr.d0.cv, pr.d0.bv, (.bool (pr.d0.off)), pr.d1.pv, pr.d1.cv, pr.d1.bv, (.bool (pr.d1.off)), (.int .i64 (pr.fz)), (.bool (pr.dn))]), (.int .i64 (30))]) (v := (.int .i64 (30))) rfl rfl ?_)
          refine L_op rfl (X_alloc (z := (.agg #[(.slice none 0 0), (.slice none 0 0), (.slice none 0 0), (.bool (false)), (.slice none 0 0), (.slice none 0 0), (.slice none 0 0), (.bool (false)), (.int .i64 (0)), (.bool (false))])) (c := #[(.slice none 0 0), (.slice none 0 0), (.slice none 0 0), (.bool (false)), (.slice none 0 0), (.slice none 0 0), (.slice none 0 0), (.bool (false)), (.int .i64 (0)), (.bool (false))]) Zv29 rfl ?_)
          intro b35 w35 hn35
          have hbn35 := hn35.num; have hbs35 := hn35.size
          replace h0 := h0.ext hn35.ext
          replace h1 := h1.ext hn35.ext
          replace hU := hU.trans (Ext.upd hn35.ext)
          replace hB2 := hB2.ext hn35.ext
          replace hB3 := hB3.ext hn35.ext
          replace hdA := hdA.ext hn35.ext
          replace hdB := hdB.ext hn35.ext
          replace hq0 := hq0.ext hn35.ext
          replace hq1 := hq1.ext hn35.ext
          replace hB26 := hB26.ext hn35.ext
          replace hdC := hdC.ext hn35.ext
          replace hB1 := hB1.ext hn35.ext
          replace hr0 := hr0.ext hn35.ext
          replace hr1 := hr1.ext hn35.ext
          have hB35 := hn35.blk
          refine L_op0 (X_storeW (b := b35) (ys := [pr.d0.pv, pr.d0.cv, pr.d0.bv, (.bool (pr.d0.off)), pr.d1.pv, pr.d1.cv, pr.d1.bv, (.bool (pr.d1.off)), (.int .i64 (pr.fz)), (.bool (pr.dn))]) A29 rfl rfl (List.forall_mem_cons.2 ⟨(hr0.1.sv.one), (List.forall_mem_cons.2 ⟨(hr0.2.1.sv.one), (List.forall_mem_cons.2 ⟨(hr0.2.2.sv.one), (List.forall_mem_cons.2 ⟨rfl, (List.forall_mem_cons.2 ⟨(hr1.1.sv.one), (List.forall_mem_cons.2 ⟨(hr1.2.1.sv.one), (List.forall_mem_cons.2 ⟨(hr1.2.2.sv.one), (List.forall_mem_cons.2 ⟨rfl, (List.forall_mem_cons.2 ⟨rfl, (List.forall_mem_cons.2 ⟨rfl, (fun _ h => by cases h)⟩)⟩)⟩)⟩)⟩)⟩)⟩)⟩)⟩)⟩) rfl hB35 rfl ?_)
          intro w36 hu36 hb36
          have hz36 := hu36.size
          replace h0 := h0.upd hu36 fun i h1 h2 h => by have h : i = b35 := h; omega
          replace h1 := h1.upd hu36 fun i h1 h2 h => by have h : i = b35 := h; omega
          replace hU := hU.trans (hu36.mono fun i _ h => by have h : i = b35 := h; show n0 ≤ i; omega)
          replace hB2 := hB2.upd hu36 fun h => by have h : b2 = b35 := h; omega
          replace hB3 := hB3.upd hu36 fun h => by have h : b3 = b35 := h; omega
          replace hdA := hdA.upd hu36 fun i h1 h2 h => by have h : i = b35 := h; omega
          replace hdB := hdB.upd hu36 fun i h1 h2 h => by have h : i = b35 := h; omega
          replace hq0 := hq0.upd hu36 fun i h1 h2 h => by have h : i = b35 := h; omega
          replace hq1 := hq1.upd hu36 fun i h1 h2 h => by have h : i = b35 := h; omega
          replace hB26 := hB26.upd hu36 fun h => by have h : b26 = b35 := h; omega
          replace hdC := hdC.upd hu36 fun i h1 h2 h => by have h : i = b35 := h; omega
          replace hB1 := hB1.upd hu36 fun h => by have h : b1 = b35 := h; omega
          replace hr0 := hr0.upd hu36 fun i h1 h2 h => by have h : i = b35 := h; omega
          replace hr1 := hr1.upd hu36 fun i h1 h2 h => by have h : i = b35 := h; omega
          replace hB35 : Blk w36 b35 #[pr.d0.pv, pr.d0.cv, pr.d0.bv, (.bool (pr.d0.off)), pr.d1.pv, pr.d1.cv, pr.d1.bv, (.bool (pr.d1.off)), (.int .i64 (pr.fz)), (.bool (pr.dn))] 29 := hb36
          refine L_op rfl (X_assign (v := (.int .i64 (30))) rfl ?_)
          refine L_nil ?_
          refine T_n ?_
          refine W_seq ?_
          refine W_reg ?_
          refine L_op rfl (X_loadA (p := (ptr b1 (0))) (xs := [dA.pv, dA.cv, dA.bv, (.bool (dA.off)), dC.pv, dC.cv, dC.bv, (.bool (dC.off)), (.int .i64 (f)), (.bool (p.dn))]) A29 rfl hB1.atAll rfl ?_)
          obtain ⟨st, hst⟩ : ∃ n, n = w36.heap.size := ⟨_, rfl⟩
          have hcr_ := c_flushM (⟨dA, dC, f, p.dn⟩ : Pr) w36 (by show f ≤ 1000000; omega) sdA udA sdC udC (by omega) (by omega) hdA hdC ((may_sz hMa).mono (by decide)) ((may_sz hMc).mono (by decide))
          refine L_op rfl (X_fn (vs := [(.agg ([dA.pv, dA.cv, dA.bv, (.bool (dA.off)), dC.pv, dC.cv, dC.bv, (.bool (dC.off)), (.int .i64 (f)), (.bool (p.dn))]).toArray)]) en11 rfl ?_)
          refine CT.mono hcr_ ?_
          clear hcr_
          rintro _ w37 ⟨pt, l0t, u0t, l1t, u1t, rfl, ht0, ht1, hit0, hit1, hdat, hu37⟩
          have hz37 := hu37.size
          obtain ⟨et, het⟩ : ∃ z, z = (flushD (⟨dA, dC, f, p.dn⟩ : Pr).da).2 := ⟨_, rfl⟩
          rw [← het]
          obtain ⟨ut, hut⟩ : ∃ n, n = w37.heap.size := ⟨_, rfl⟩
          rw [← hst, ← hut] at hit0 hit1
          replace h0 := h0.ext hu37
          replace h1 := h1.ext hu37
          replace hU := hU.trans (Ext.upd hu37)
          replace hB2 := hB2.ext hu37
          replace hB3 := hB3.ext hu37
          replace hdA := hdA.ext hu37
          replace hdB := hdB.ext hu37
          replace hq0 := hq0.ext hu37
          replace hq1 := hq1.ext hu37
          replace hB26 := hB26.ext hu37
          replace hdC := hdC.ext hu37
          replace hB1 := hB1.ext hu37
          replace hr0 := hr0.ext hu37
          replace hr1 := hr1.ext hu37
          replace hB35 := hB35.ext hu37
          rw [hfl2] at het hdat
          replace het : et = 30 := het
          subst het
          refine L_op rfl (X_move (v := (.tuple #[(.agg #[pt.d0.pv, pt.d0.cv, pt.d0.bv, (.bool (pt.d0.off)), pt.d1.pv, pt.d1.cv, pt.d1.bv, (.bool (pt.d1.off)), (.int .i64 (pt.fz)), (.bool (pt.dn))]), (.int .i64 (30))])) rfl ?_)
          refine L_op rfl (X_extract (l := [(.agg #[pt.d0.pv, pt.d0.cv, pt.d0.bv, (.bool (pt.d0.off)), pt.d1.pv, pt.d1.cv, pt.d1.bv, (.bool (pt.d1.off)), (.int .i64 (pt.fz)), (.bool (pt.dn))]), (.int .i64 (30))]) (v := (.agg #[pt.d0.pv, pt.d0.cv, pt.d0.bv, (.bool (pt.d0.off)), pt.d1.pv, pt.d1.cv, pt.d1.bv, (.bool (pt.d1.off)), (.int .i64 (pt.fz)), (.bool (pt.dn))])) rfl rfl ?_)
          refine L_op rfl (X_extract (l := [(.agg #[pt.d0.pv, pt.d0.cv, pt.d0.bv, (.bool (pt.d0.off)), pt.d1.pv, pt.d1.cv, pt.d1.bv, (.bool (pt.d1.off)), (.int .i64 (pt.fz)), (.bool (pt.dn))]), (.int .i64 (30))]) (v := (.int .i64 (30))) rfl rfl ?_)
          refine L_op rfl (X_alloc (z := (.agg #[(.slice none 0 0), (.slice none 0 0), (.slice none 0 0), (.bool (false)), (.slice none 0 0), (.slice none 0 0), (.slice none 0 0), (.bool (false)), (.int .i64 (0)), (.bool (false))])) (c := #[(.slice none 0 0), (.slice none 0 0), (.slice none 0 0), (.bool (false)), (.slice none 0 0), (.slice none 0 0), (.slice none 0 0), (.bool (false)), (.int .i64 (0)), (.bool (false))]) Zv29 rfl ?_)
          intro b38 w38 hn38
          have hbn38 := hn38.num; have hbs38 := hn38.size
          replace h0 := h0.ext hn38.ext
          replace h1 := h1.ext hn38.ext
          replace hU := hU.trans (Ext.upd hn38.ext)
          replace hB2 := hB2.ext hn38.ext
          replace hB3 := hB3.ext hn38.ext
          replace hdA := hdA.ext hn38.ext
          replace hdB := hdB.ext hn38.ext
          replace hq0 := hq0.ext hn38.ext
          replace hq1 := hq1.ext hn38.ext
          replace hB26 := hB26.ext hn38.ext
          replace hdC := hdC.ext hn38.ext
          replace hB1 := hB1.ext hn38.ext
          replace hr0 := hr0.ext hn38.ext
          replace hr1 := hr1.ext hn38.ext
          replace hB35 := hB35.ext hn38.ext
          replace ht0 := ht0.ext hn38.ext
          replace ht1 := ht1.ext hn38.ext
          have hB38 := hn38.blk
          refine L_op0 (X_storeW (b := b38) (ys := [pt.d0.pv, pt.d0.cv, pt.d0.bv, (.bool (pt.d0.off)), pt.d1.pv, pt.d1.cv, pt.d1.bv, (.bool (pt.d1.off)), (.int .i64 (pt.fz)), (.bool (pt.dn))]) A29 rfl rfl (List.forall_mem_cons.2 ⟨(ht0.1.sv.one), (List.forall_mem_cons.2 ⟨(ht0.2.1.sv.one), (List.forall_mem_cons.2 ⟨(ht0.2.2.sv.one), (List.forall_mem_cons.2 ⟨rfl, (List.forall_mem_cons.2 ⟨(ht1.1.sv.one), (List.forall_mem_cons.2 ⟨(ht1.2.1.sv.one), (List.forall_mem_cons.2 ⟨(ht1.2.2.sv.one), (List.forall_mem_cons.2 ⟨rfl, (List.forall_mem_cons.2 ⟨rfl, (List.forall_mem_cons.2 ⟨rfl, (fun _ h => by cases h)⟩)⟩)⟩)⟩)⟩)⟩)⟩)⟩)⟩)⟩) rfl hB38 rfl ?_)
          intro w39 hu39 hb39
          have hz39 := hu39.size
          replace h0 := h0.upd hu39 fun i h1 h2 h => by have h : i = b38 := h; omega
          replace h1 := h1.upd hu39 fun i h1 h2 h => by have h : i = b38 := h; omega
          replace hU := hU.trans (hu39.mono fun i _ h => by have h : i = b38 := h; show n0 ≤ i; omega)
          replace hB2 := hB2.upd hu39 fun h => by have h : b2 = b38 := h; omega
          replace hB3 := hB3.upd hu39 fun h => by have h : b3 = b38 := h; omega
          replace hdA := hdA.upd hu39 fun i h1 h2 h => by have h : i = b38 := h; omega
          replace hdB := hdB.upd hu39 fun i h1 h2 h => by have h : i = b38 := h; omega
          replace hq0 := hq0.upd hu39 fun i h1 h2 h => by have h : i = b38 := h; omega
          replace hq1 := hq1.upd hu39 fun i h1 h2 h => by have h : i = b38 := h; omega
          replace hB26 := hB26.upd hu39 fun h => by have h : b26 = b38 := h; omega
          replace hdC := hdC.upd hu39 fun i h1 h2 h => by have h : i = b38 := h; omega
          replace hB1 := hB1.upd hu39 fun h => by have h : b1 = b38 := h; omega
          replace hr0 := hr0.upd hu39 fun i h1 h2 h => by have h : i = b38 := h; omega
          replace hr1 := hr1.upd hu39 fun i h1 h2 h => by have h : i = b38 := h; omega
          replace hB35 := hB35.upd hu39 fun h => by have h : b35 = b38 := h; omega
          replace ht0 := ht0.upd hu39 fun i h1 h2 h => by have h : i = b38 := h; omega
          replace ht1 := ht1.upd hu39 fun i h1 h2 h => by have h : i = b38 := h; omega
          replace hB38 : Blk w39 b38 #[pt.d0.pv, pt.d0.cv, pt.d0.bv, (.bool (pt.d0.off)), pt.d1.pv, pt.d1.cv, pt.d1.bv, (.bool (pt.d1.off)), (.int .i64 (pt.fz)), (.bool (pt.dn))] 29 := hb39
          refine L_op rfl (X_assign (v := (.int .i64 (30))) rfl ?_)
          refine L_nil ?_
          refine T_n ?_
          refine W_seq ?_
          refine W_reg ?_
          refine L_op rfl (X_move (v := (.int .i64 (30))) rfl ?_)
          refine L_op rfl (X_cmp (k := .i64) (a := 30) (b := 30) (r := true) rfl rfl rfl rfl ?_)
          refine L_op rfl (X_move (v := (.bool (true))) rfl ?_)
          refine L_gy (dj := 146) rfl rfl rfl (X_move (v := (.int .i64 (30))) rfl ?_)
          refine L_gy (dj := 146) rfl rfl rfl (X_cmp (k := .i64) (a := 30) (b := 30) (r := true) rfl rfl rfl rfl ?_)
          refine L_op rfl (X_pick (t := true) (v := (.bool (true))) rfl rfl ?_)
          refine L_op rfl (X_move (v := (.bool (true))) rfl ?_)
          refine L_gy (dj := 150) rfl rfl rfl (X_loadA (p := (ptr b35 (0))) (xs := [pr.d0.pv, pr.d0.cv, pr.d0.bv, (.bool (pr.d0.off)), pr.d1.pv, pr.d1.cv, pr.d1.bv, (.bool (pr.d1.off)), (.int .i64 (pr.fz)), (.bool (pr.dn))]) A29 rfl hB35.atAll rfl ?_)
          refine L_gy (dj := 150) rfl rfl rfl (X_loadA (p := (ptr b1 (0))) (xs := [dA.pv, dA.cv, dA.bv, (.bool (dA.off)), dC.pv, dC.cv, dC.bv, (.bool (dC.off)), (.int .i64 (f)), (.bool (p.dn))]) A29 rfl hB1.atAll rfl ?_)
          have hcr_ := c_sameMR pr (⟨dA, dC, f, p.dn⟩ : Pr) w39 l0r u0r l1r u1r sdA udA sdC udC hr0 hr1 hdA hdC
          refine L_gy (dj := 150) rfl rfl rfl (X_fn (vs := [(.agg ([pr.d0.pv, pr.d0.cv, pr.d0.bv, (.bool (pr.d0.off)), pr.d1.pv, pr.d1.cv, pr.d1.bv, (.bool (pr.d1.off)), (.int .i64 (pr.fz)), (.bool (pr.dn))]).toArray), (.agg ([dA.pv, dA.cv, dA.bv, (.bool (dA.off)), dC.pv, dC.cv, dC.bv, (.bool (dC.off)), (.int .i64 (f)), (.bool (p.dn))]).toArray)]) en19 rfl ?_)
          refine CT.mono hcr_ ?_
          clear hcr_
          rintro _ w40 ⟨⟨g40, rfl, hg40⟩, hu40⟩
          have hz40 := hu40.size
          replace h0 := h0.ext hu40
          replace h1 := h1.ext hu40
          replace hU := hU.trans (Ext.upd hu40)
          replace hB2 := hB2.ext hu40
          replace hB3 := hB3.ext hu40
          replace hdA := hdA.ext hu40
          replace hdB := hdB.ext hu40
          replace hq0 := hq0.ext hu40
          replace hq1 := hq1.ext hu40
          replace hB26 := hB26.ext hu40
          replace hdC := hdC.ext hu40
          replace hB1 := hB1.ext hu40
          replace hr0 := hr0.ext hu40
          replace hr1 := hr1.ext hu40
          replace hB35 := hB35.ext hu40
          replace ht0 := ht0.ext hu40
          replace ht1 := ht1.ext hu40
          replace hB38 := hB38.ext hu40
          obtain rfl : g40 = true := hg40.2 hdar
          refine L_op rfl (X_pick (t := true) (v := (.bool (true))) rfl rfl ?_)
          refine L_op rfl (X_move (v := (.bool (true))) rfl ?_)
          refine L_gy (dj := 155) rfl rfl rfl (X_loadA (p := (ptr b38 (0))) (xs := [pt.d0.pv, pt.d0.cv, pt.d0.bv, (.bool (pt.d0.off)), pt.d1.pv, pt.d1.cv, pt.d1.bv, (.bool (pt.d1.off)), (.int .i64 (pt.fz)), (.bool (pt.dn))]) A29 rfl hB38.atAll rfl ?_)
          refine L_gy (dj := 155) rfl rfl rfl (X_loadA (p := (ptr b1 (0))) (xs := [dA.pv, dA.cv, dA.bv, (.bool (dA.off)), dC.pv, dC.cv, dC.bv, (.bool (dC.off)), (.int .i64 (f)), (.bool (p.dn))]) A29 rfl hB1.atAll rfl ?_)
          have hcr_ := c_sameMR pt (⟨dA, dC, f, p.dn⟩ : Pr) w40 l0t u0t l1t u1t sdA udA sdC udC ht0 ht1 hdA hdC
          refine L_gy (dj := 155) rfl rfl rfl (X_fn (vs := [(.agg ([pt.d0.pv, pt.d0.cv, pt.d0.bv, (.bool (pt.d0.off)), pt.d1.pv, pt.d1.cv, pt.d1.bv, (.bool (pt.d1.off)), (.int .i64 (pt.fz)), (.bool (pt.dn))]).toArray), (.agg ([dA.pv, dA.cv, dA.bv, (.bool (dA.off)), dC.pv, dC.cv, dC.bv, (.bool (dC.off)), (.int .i64 (f)), (.bool (p.dn))]).toArray)]) en19 rfl ?_)
          refine CT.mono hcr_ ?_
          clear hcr_
          rintro _ w41 ⟨⟨g41, rfl, hg41⟩, hu41⟩
          have hz41 := hu41.size
          replace h0 := h0.ext hu41
          replace h1 := h1.ext hu41
          replace hU := hU.trans (Ext.upd hu41)
          replace hB2 := hB2.ext hu41
          replace hB3 := hB3.ext hu41
          replace hdA := hdA.ext hu41
          replace hdB := hdB.ext hu41
          replace hq0 := hq0.ext hu41
          replace hq1 := hq1.ext hu41
          replace hB26 := hB26.ext hu41
          replace hdC := hdC.ext hu41
          replace hB1 := hB1.ext hu41
          replace hr0 := hr0.ext hu41
          replace hr1 := hr1.ext hu41
          replace hB35 := hB35.ext hu41
          replace ht0 := ht0.ext hu41
          replace ht1 := ht1.ext hu41
          replace hB38 := hB38.ext hu41
          obtain rfl : g41 = true := hg41.2 hdat
          refine L_op rfl (X_pick (t := true) (v := (.bool (true))) rfl rfl ?_)
          refine L_op rfl (X_move (v := (.bool (true))) rfl ?_)
          refine L_gy (dj := 160) rfl rfl rfl (X_loadA (p := (ptr b1 (0))) (xs := [dA.pv, dA.cv, dA.bv, (.bool (dA.off)), dC.pv, dC.cv, dC.bv, (.bool (dC.off)), (.int .i64 (f)), (.bool (p.dn))]) A29 rfl hB1.atAll rfl ?_)
          have hcr_ := c_live (⟨dA, dC, f, p.dn⟩ : Pr) w41 sdA udA sdC udC (by omega) (by omega) hdA hdC
          refine L_gy (dj := 160) rfl rfl rfl (X_fn (vs := [(.agg ([dA.pv, dA.cv, dA.bv, (.bool (dA.off)), dC.pv, dC.cv, dC.bv, (.bool (dC.off)), (.int .i64 (f)), (.bool (p.dn))]).toArray)]) en18 rfl ?_)
          refine CT.mono hcr_ ?_
          clear hcr_
          rintro _ w42 ⟨rfl, hu42⟩
          have hz42 := hu42.size
          replace h0 := h0.ext hu42
          replace h1 := h1.ext hu42
          replace hU := hU.trans (Ext.upd hu42)
          replace hB2 := hB2.ext hu42
          replace hB3 := hB3.ext hu42
          replace hdA := hdA.ext hu42
          replace hdB := hdB.ext hu42
          replace hq0 := hq0.ext hu42
          replace hq1 := hq1.ext hu42
          replace hB26 := hB26.ext hu42
          replace hdC := hdC.ext hu42
          replace hB1 := hB1.ext hu42
          replace hr0 := hr0.ext hu42
          replace hr1 := hr1.ext hu42
          replace hB35 := hB35.ext hu42
          replace ht0 := ht0.ext hu42
          replace ht1 := ht1.ext hu42
          replace hB38 := hB38.ext hu42
          rw [live0 (p := (⟨dA, dC, f, p.dn⟩ : Pr).da) odA odC]
          refine L_gy (dj := 160) rfl rfl rfl (X_cmp (k := .u8) (a := 0) (b := 0) (r := true) rfl rfl rfl rfl ?_)
          refine L_op rfl (X_pick (t := true) (v := (.bool (true))) rfl rfl ?_)
          refine L_op rfl (X_move (v := (.bool (true))) rfl ?_)
          refine L_gy (dj := 165) rfl rfl rfl (X_fn (vs := []) en9 rfl (CT.mono (c_wakes _) ?_))
          rintro _ w43 ⟨rfl, hu43⟩
          have hz43 := hu43.size
          replace h0 := h0.ext hu43
          replace h1 := h1.ext hu43
          replace hU := hU.trans (Ext.upd hu43)
          replace hB2 := hB2.ext hu43
          replace hB3 := hB3.ext hu43
          replace hdA := hdA.ext hu43
          replace hdB := hdB.ext hu43
          replace hq0 := hq0.ext hu43
          replace hq1 := hq1.ext hu43
          replace hB26 := hB26.ext hu43
          replace hdC := hdC.ext hu43
          replace hB1 := hB1.ext hu43
          replace hr0 := hr0.ext hu43
          replace hr1 := hr1.ext hu43
          replace hB35 := hB35.ext hu43
          replace ht0 := ht0.ext hu43
          replace ht1 := ht1.ext hu43
          replace hB38 := hB38.ext hu43
          refine L_op rfl (X_pick (t := true) (v := (.bool (true))) rfl rfl ?_)
          refine L_op rfl (X_assign (v := (.bool (true))) rfl ?_)
          refine L_nil ?_
          refine T_n ?_
          refine W_ret ?_
          exact BQ_r (End_1 Try.results4 (v := .bool true) rfl ⟨rfl, hU.own hn0⟩)
         ·rw [hc29]
          refine L_nil ?_
          refine T_n ?_
          refine W_cf rfl ?_
          refine W_skip ?_
          refine T_n ?_
          refine W_seq ?_
          refine W_seq ?_
          refine W_reg ?_
          refine L_op rfl (X_move (v := (.int .i64 (0))) rfl ?_)
          refine L_op rfl (X_cmp (k := .i64) (a := 0) (b := 0) (r := false) rfl rfl rfl rfl ?_)
          refine L_op rfl (X_move (v := (.bool (false))) rfl ?_)
          refine L_gy (dj := 103) rfl rfl rfl (X_fldP (b := b26) (o := 0) (r := 8) Fd29_1 rfl rfl ?_)
          refine L_gy (dj := 103) rfl rfl rfl (X_load (p := (ptr b26 (8))) (v := (.int .i64 (pq.fz))) T3 rfl (hB26.at1 rfl) ?_)
          refine L_gy (dj := 103) rfl rfl rfl (X_move (v := (.int .i64 (f))) rfl ?_)
          refine L_gy (dj := 103) rfl rfl rfl (X_move (v := (.int .i64 (1))) rfl ?_)
          have hqn := asQ_c (of_decide_eq_false hc29)
          refine L_gy (dj := 103) rfl rfl rfl (X_arith (k := .i64) (a := f) (b := 1) (r := (f - 1)) rfl rfl rfl (isub64 rfl (by omega) (by omega)) ?_)
          refine L_gy (dj := 103) rfl rfl rfl (X_cmp (k := .i64) (a := pq.fz) (b := (f - 1)) (r := false) rfl rfl rfl (decide_eq_false (p := ((pq.fz) : Int) ≠ (((f - 1)) : Int)) (by omega)) ?_)
          refine L_op rfl (X_pick (t := false) (v := (.bool (false))) rfl rfl ?_)
          refine L_op rfl (X_move (v := (.bool (false))) rfl ?_)
          refine L_gy (dj := 111) rfl rfl rfl (X_fldP (b := b26) (o := 0) (r := 0) Fd29_0 rfl rfl ?_)
          refine L_gy (dj := 111) rfl rfl rfl (X_idxAP (len := 2) (sz := 4) (b := b26) (o := 0) (k := .i64) (i := 0) (r := 0) Try.underlying27 Z26 rfl rfl (by omega) (by omega) rfl ?_)
          refine L_gy (dj := 111) rfl rfl rfl (X_loadA (p := (ptr b26 (0))) (xs := [pq.d0.pv, pq.d0.cv, pq.d0.bv, (.bool (pq.d0.off))]) A26 rfl (hB26.part (o := 0) (n := 4) rfl) rfl ?_)
          refine L_gy (dj := 111) rfl rfl rfl (X_fldP (b := b1) (o := 0) (r := 0) Fd29_0 rfl rfl ?_)
          refine L_gy (dj := 111) rfl rfl rfl (X_idxAP (len := 2) (sz := 4) (b := b1) (o := 0) (k := .i64) (i := 0) (r := 0) Try.underlying27 Z26 rfl rfl (by omega) (by omega) rfl ?_)
          refine L_gy (dj := 111) rfl rfl rfl (X_loadA (p := (ptr b1 (0))) (xs := [dA.pv, dA.cv, dA.bv, (.bool (dA.off))]) A26 rfl (hB1.part (o := 0) (n := 4) rfl) rfl ?_)
          have hcr_ := c_sameRD pq.d0 dA w28 l0q u0q sdA udA hq0 hdA
          refine L_gy (dj := 111) rfl rfl rfl (X_fn (vs := [(.agg #[pq.d0.pv, pq.d0.cv, pq.d0.bv, (.bool (pq.d0.off))]), (.agg #[dA.pv, dA.cv, dA.bv, (.bool (dA.off))])]) en13 rfl ?_)
          refine CT.mono hcr_ ?_
          clear hcr_
          rintro _ w44 ⟨⟨g44, rfl, hg44⟩, hu44⟩
          have hz44 := hu44.size
          replace h0 := h0.ext hu44
          replace h1 := h1.ext hu44
          replace hU := hU.trans (Ext.upd hu44)
          replace hB2 := hB2.ext hu44
          replace hB3 := hB3.ext hu44
          replace hdA := hdA.ext hu44
          replace hdB := hdB.ext hu44
          replace hB1 := hB1.ext hu44
          replace hq0 := hq0.ext hu44
          replace hq1 := hq1.ext hu44
          replace hB26 := hB26.ext hu44
          obtain rfl : g44 = true := hg44.2 hoA
          refine L_gy (dj := 111) rfl rfl rfl (X_not (b := true) (r := false) rfl rfl ?_)
          refine L_op rfl (X_pick (t := false) (v := (.bool (false))) rfl rfl ?_)
          refine L_op rfl (X_move (v := (.bool (false))) rfl ?_)
          refine L_gy (dj := 121) rfl rfl rfl (X_loadA (p := (ptr b1 (0))) (xs := [dA.pv, dA.cv, dA.bv, (.bool (dA.off)), dB.pv, dB.cv, dB.bv, (.bool (dB.off)), (.int .i64 (f)), (.bool (p.dn))]) A29 rfl hB1.atAll rfl ?_)
          have hcr_ := c_live (⟨dA, dB, f, p.dn⟩ : Pr) w44 sdA udA sdB udB (by omega) (by omega) hdA hdB
          refine L_gy (dj := 121) rfl rfl rfl (X_fn (vs := [(.agg ([dA.pv, dA.cv, dA.bv, (.bool (dA.off)), dB.pv, dB.cv, dB.bv, (.bool (dB.off)), (.int .i64 (f)), (.bool (p.dn))]).toArray)]) en18 rfl ?_)
          refine CT.mono hcr_ ?_
          clear hcr_
          rintro _ w45 ⟨rfl, hu45⟩
          have hz45 := hu45.size
          replace h0 := h0.ext hu45
          replace h1 := h1.ext hu45
          replace hU := hU.trans (Ext.upd hu45)
          replace hB2 := hB2.ext hu45
          replace hB3 := hB3.ext hu45
          replace hdA := hdA.ext hu45
          replace hdB := hdB.ext hu45
          replace hB1 := hB1.ext hu45
          replace hq0 := hq0.ext hu45
          replace hq1 := hq1.ext hu45
          replace hB26 := hB26.ext hu45
          rw [live2 (p := (⟨dA, dB, f, p.dn⟩ : Pr).da) odA odB]
          refine L_gy (dj := 121) rfl rfl rfl (X_cmp (k := .u8) (a := 2) (b := 2) (r := false) rfl rfl rfl rfl ?_)
          refine L_op rfl (X_pick (t := false) (v := (.bool (false))) rfl rfl ?_)
          refine L_nil ?_
          refine T_n ?_
          refine W_cf rfl ?_
          refine W_skip ?_
          refine T_n ?_
          refine W_seq ?_
          refine W_reg ?_
          refine L_op rfl (X_fldP (b := b1) (o := 0) (r := 0) Fd29_0 rfl rfl ?_)
          refine L_op rfl (X_idxAP (len := 2) (sz := 4) (b := b1) (o := 0) (k := .i64) (i := 1) (r := 4) Try.underlying27 Z26 rfl rfl (by omega) (by omega) rfl ?_)
          refine L_op rfl (X_loadA (p := (ptr b1 (4))) (xs := [dB.pv, dB.cv, dB.bv, (.bool (dB.off))]) A26 rfl (hB1.part (o := 4) (n := 4) rfl) rfl ?_)
          obtain ⟨sdC, hsdC⟩ : ∃ n, n = w45.heap.size := ⟨_, rfl⟩
          have hcr_ := c_detRD dB w45 sdB udB (by omega) hdB ((may_sz hMb).mono (by decide))
          refine L_op rfl (X_fn (vs := [(.agg #[dB.pv, dB.cv, dB.bv, (.bool (dB.off))])]) en15 rfl ?_)
          refine CT.mono hcr_ ?_
          clear hcr_
          rintro _ w46 ⟨dC, rfl, hdC, edC, hu46⟩
          have hz46 := hu46.size
          obtain ⟨udC, husdC⟩ : ∃ n, n = w46.heap.size := ⟨_, rfl⟩
          rw [← hsdC, ← husdC] at hdC
          replace h0 := h0.ext hu46
          replace h1 := h1.ext hu46
          replace hU := hU.trans (Ext.upd hu46)
          replace hB2 := hB2.ext hu46
          replace hB3 := hB3.ext hu46
          replace hdA := hdA.ext hu46
          replace hdB := hdB.ext hu46
          replace hB1 := hB1.ext hu46
          replace hq0 := hq0.ext hu46
          replace hq1 := hq1.ext hu46
          replace hB26 := hB26.ext hu46
          have odC : dC.off = true := congrArg DD.off edC
          refine L_op rfl (X_fldP (b := b1) (o := 0) (r := 0) Fd29_0 rfl rfl ?_)
          refine L_op rfl (X_idxAP (len := 2) (sz := 4) (b := b1) (o := 0) (k := .i64) (i := 1) (r := 4) Try.underlying27 Z26 rfl rfl (by omega) (by omega) rfl ?_)
          refine L_op0 (X_storeA (b := b1) (o := 4) (ys := [dC.pv, dC.cv, dC.bv, (.bool (dC.off))]) A26 rfl rfl (List.forall_mem_cons.2 ⟨(hdC.1.sv.one), (List.forall_mem_cons.2 ⟨(hdC.2.1.sv.one), (List.forall_mem_cons.2 ⟨(hdC.2.2.sv.one), (List.forall_mem_cons.2 ⟨rfl, (fun _ h => by cases h)⟩)⟩)⟩)⟩) rfl hB1 (by show 4 + 4 ≤ 10; decide) ?_)
          intro w47 hu47 hb47
          have hz47 := hu47.size
          replace h0 := h0.upd hu47 fun i h1 h2 h => by have h : i = b1 := h; omega
          replace h1 := h1.upd hu47 fun i h1 h2 h => by have h : i = b1 := h; omega
          replace hU := hU.trans (hu47.mono fun i _ h => by have h : i = b1 := h; show n0 ≤ i; omega)
          replace hB2 := hB2.upd hu47 fun h => by have h : b2 = b1 := h; omega
          replace hB3 := hB3.upd hu47 fun h => by have h : b3 = b1 := h; omega
          replace hdA := hdA.upd hu47 fun i h1 h2 h => by have h : i = b1 := h; omega
          replace hdB := hdB.upd hu47 fun i h1 h2 h => by have h : i = b1 := h; omega
          replace hq0 := hq0.upd hu47 fun i h1 h2 h => by have h : i = b1 := h; omega
          replace hq1 := hq1.upd hu47 fun i h1 h2 h => by have h : i = b1 := h; omega
          replace hB26 := hB26.upd hu47 fun h => by have h : b26 = b1 := h; omega
          replace hdC := hdC.upd hu47 fun i h1 h2 h => by have h : i = b1 := h; omega
          replace hB1 : Blk w47 b1 #[dA.pv, dA.cv, dA.bv, (.bool (dA.off)), dC.pv, dC.cv, dC.bv, (.bool (dC.off)), (.int .i64 (f)), (.bool (p.dn))] 29 := hb47
          refine L_nil ?_
          refine T_n ?_
          refine W_seq ?_
          refine W_reg ?_
          refine L_op rfl (X_loadA (p := (ptr b1 (0))) (xs := [dA.pv, dA.cv, dA.bv, (.bool (dA.off)), dC.pv, dC.cv, dC.bv, (.bool (dC.off)), (.int .i64 (f)), (.bool (p.dn))]) A29 rfl hB1.atAll rfl ?_)
          refine L_op rfl (X_loadA (p := (ptr b2 (0))) (xs := ptC q) A35 rfl hB2.atAll rfl ?_)
          refine L_op rfl (X_loadA (p := (ptr b3 (0))) (xs := ((pg.1).map byteV)) A37 rfl hB3.atAll (by rw [List.length_map]; exact pg.2) ?_)
          have hMc : dC.da.May := by rw [edC]; exact ⟨⟨hMb.1.1, hMb.1.2.1, Nat.zero_le _, fun _ => rfl⟩, fun j c hj => absurd hj (Nat.not_lt_zero j), hMb.2.2⟩
          have hr30 := ready_none (p := (⟨dA, dC, f, p.dn⟩ : Pr).da) hdn odA odC
          have hwl2 := write_none (p := (⟨dA, dC, f, p.dn⟩ : Pr).da) (q := q) (pg := pg) (by rw [hr30]; decide)
          have hfl2 := flush_none (p := (⟨dA, dC, f, p.dn⟩ : Pr).da) (by rw [hr30]; decide)
          rw [hr30] at hwl2 hfl2
          obtain ⟨sr, hsr⟩ : ∃ n, n = w47.heap.size := ⟨_, rfl⟩
          have hcr_ := c_writeM q pg (⟨dA, dC, f, p.dn⟩ : Pr) w47 (by show f ≤ 1000000; omega) sdA udA sdC udC (by omega) (by omega) hdA hdC hq ((may_sz hMa).mono (by decide)) ((may_sz hMc).mono (by decide))
          refine L_op rfl (X_fn (vs := [(.agg ([dA.pv, dA.cv, dA.bv, (.bool (dA.off)), dC.pv, dC.cv, dC.bv, (.bool (dC.off)), (.int .i64 (f)), (.bool (p.dn))]).toArray), (.agg (ptC q).toArray), (.agg (((pg.1).map byteV)).toArray)]) en10 rfl ?_)
          refine CT.mono hcr_ ?_
          clear hcr_
          rintro _ w48 ⟨pr, l0r, u0r, l1r, u1r, rfl, hr0, hr1, hir0, hir1, hdar, hu48⟩
          have hz48 := hu48.size
          obtain ⟨er, her⟩ : ∃ z, z = (writeD (⟨dA, dC, f, p.dn⟩ : Pr).da q pg).2 := ⟨_, rfl⟩
          rw [← her]
          obtain ⟨ur, hur⟩ : ∃ n, n = w48.heap.size := ⟨_, rfl⟩
          rw [← hsr, ← hur] at hir0 hir1
          replace h0 := h0.ext hu48
          replace h1 := h1.ext hu48
          replace hU := hU.trans (Ext.upd hu48)
          replace hB2 := hB2.ext hu48
          replace hB3 := hB3.ext hu48
          replace hdA := hdA.ext hu48
          replace hdB := hdB.ext hu48
          replace hq0 := hq0.ext hu48
          replace hq1 := hq1.ext hu48
          replace hB26 := hB26.ext hu48
          replace hdC := hdC.ext hu48
          replace hB1 := hB1.ext hu48
          rw [hwl2] at her hdar
          replace her : er = 30 := her
          subst her
          refine L_op rfl (X_move (v := (.tuple #[(.agg #[pr.d0.pv, pr.d0.cv, pr.d0.bv, (.bool (pr.d0.off)), pr.d1.pv, pr.d1.cv, pr.d1.bv, (.bool (pr.d1.off)), (.int .i64 (pr.fz)), (.bool (pr.dn))]), (.int .i64 (30))])) rfl ?_)
          refine L_op rfl (X_extract (l := [(.agg #[pr.d0.pv, pr.d0.cv, pr.d0.bv, (.bool (pr.d0.off)), pr.d1.pv, pr.d1.cv, pr.d1.bv, (.bool (pr.d1.off)), (.int .i64 (pr.fz)), (.bool (pr.dn))]), (.int .i64 (30))]) (v := (.agg #[pr.d0.pv, pr.d0.cv, pr.d0.bv, (.bool (pr.d0.off)), pr.d1.pv, pr.d1.cv, pr.d1.bv, (.bool (pr.d1.off)), (.int .i64 (pr.fz)), (.bool (pr.dn))])) rfl rfl ?_)
          refine L_op rfl (X_extract (l := [(.agg #[pr.d0.pv, pr.d0.cv, pr.d0.bv, (.bool (pr.d0.off)), pr.d1.pv, pr.d1.cv, pr.d1.bv, (.bool (pr.d1.off)), (.int .i64 (pr.fz)), (.bool (pr.dn))]), (.int .i64 (30))]) (v := (.int .i64 (30))) rfl rfl ?_)
          refine L_op rfl (X_alloc (z := (.agg #[(.slice none 0 0), (.slice none 0 0), (.slice none 0 0), (.bool (false)), (.slice none 0 0), (.slice none 0 0), (.slice none 0 0), (.bool (false)), (.int .i64 (0)), (.bool (false))])) (c := #[(.slice none 0 0), (.slice none 0 0), (.slice none 0 0), (.bool (false)), (.slice none 0 0), (.slice none 0 0), (.slice none 0 0), (.bool (false)), (.int .i64 (0)), (.bool (false))]) Zv29 rfl ?_)
          intro b49 w49 hn49
          have hbn49 := hn49.num; have hbs49 := hn49.size
          replace h0 := h0.ext hn49.ext
          replace h1 := h1.ext hn49.ext
          replace hU := hU.trans (Ext.upd hn49.ext)
          replace hB2 := hB2.ext hn49.ext
          replace hB3 := hB3.ext hn49.ext
          replace hdA := hdA.ext hn49.ext
          replace hdB := hdB.ext hn49.ext
          replace hq0 := hq0.ext hn49.ext
          replace hq1 := hq1.ext hn49.ext
          replace hB26 := hB26.ext hn49.ext
          replace hdC := hdC.ext hn49.ext
          replace hB1 := hB1.ext hn49.ext
          replace hr0 := hr0.ext hn49.ext
          replace hr1 := hr1.ext hn49.ext
          have hB49 := hn49.blk
          refine L_op0 (X_storeW (b := b49) (ys := [pr.d0.pv, pr.d0.cv, pr.d0.bv, (.bool (pr.d0.off)), pr.d1.pv, pr.d1.cv, pr.d1.bv, (.bool (pr.d1.off)), (.int .i64 (pr.fz)), (.bool (pr.dn))]) A29 rfl rfl (List.forall_mem_cons.2 ⟨(hr0.1.sv.one), (List.forall_mem_cons.2 ⟨(hr0.2.1.sv.one), (List.forall_mem_cons.2 ⟨(hr0.2.2.sv.one), (List.forall_mem_cons.2 ⟨rfl, (List.forall_mem_cons.2 ⟨(hr1.1.sv.one), (List.forall_mem_cons.2 ⟨(hr1.2.1.sv.one), (List.forall_mem_cons.2 ⟨(hr1.2.2.sv.one), (List.forall_mem_cons.2 ⟨rfl, (List.forall_mem_cons.2 ⟨rfl, (List.forall_mem_cons.2 ⟨rfl, (fun _ h => by cases h)⟩)⟩)⟩)⟩)⟩)⟩)⟩)⟩)⟩)⟩) rfl hB49 rfl ?_)
          intro w50 hu50 hb50
          have hz50 := hu50.size
          replace h0 := h0.upd hu50 fun i h1 h2 h => by have h : i = b49 := h; omega
          replace h1 := h1.upd hu50 fun i h1 h2 h => by have h : i = b49 := h; omega
          replace hU := hU.trans (hu50.mono fun i _ h => by have h : i = b49 := h; show n0 ≤ i; omega)
          replace hB2 := hB2.upd hu50 fun h => by have h : b2 = b49 := h; omega
          replace hB3 := hB3.upd hu50 fun h => by have h : b3 = b49 := h; omega
          replace hdA := hdA.upd hu50 fun i h1 h2 h => by have h : i = b49 := h; omega
          replace hdB := hdB.upd hu50 fun i h1 h2 h => by have h : i = b49 := h; omega
          replace hq0 := hq0.upd hu50 fun i h1 h2 h => by have h : i = b49 := h; omega
          replace hq1 := hq1.upd hu50 fun i h1 h2 h => by have h : i = b49 := h; omega
          replace hB26 := hB26.upd hu50 fun h => by have h : b26 = b49 := h; omega
          replace hdC := hdC.upd hu50 fun i h1 h2 h => by have h : i = b49 := h; omega
          replace hB1 := hB1.upd hu50 fun h => by have h : b1 = b49 := h; omega
          replace hr0 := hr0.upd hu50 fun i h1 h2 h => by have h : i = b49 := h; omega
          replace hr1 := hr1.upd hu50 fun i h1 h2 h => by have h : i = b49 := h; omega
          replace hB49 : Blk w50 b49 #[pr.d0.pv, pr.d0.cv, pr.d0.bv, (.bool (pr.d0.off)), pr.d1.pv, pr.d1.cv, pr.d1.bv, (.bool (pr.d1.off)), (.int .i64 (pr.fz)), (.bool (pr.dn))] 29 := hb50
          refine L_op rfl (X_assign (v := (.int .i64 (30))) rfl ?_)
          refine L_nil ?_
          refine T_n ?_
          refine W_seq ?_
          refine W_reg ?_
          refine L_op rfl (X_loadA (p := (ptr b1 (0))) (xs := [dA.pv, dA.cv, dA.bv, (.bool (dA.off)), dC.pv, dC.cv, dC.bv, (.bool (dC.off)), (.int .i64 (f)), (.bool (p.dn))]) A29 rfl hB1.atAll rfl ?_)
          obtain ⟨st, hst⟩ : ∃ n, n = w50.heap.size := ⟨_, rfl⟩
          have hcr_ := c_flushM (⟨dA, dC, f, p.dn⟩ : Pr) w50 (by show f ≤ 1000000; omega) sdA udA sdC udC (by omega) (by omega) hdA hdC ((may_sz hMa).mono (by decide)) ((may_sz hMc).mono (by decide))
          refine L_op rfl (X_fn (vs := [(.agg ([dA.pv, dA.cv, dA.bv, (.bool (dA.off)), dC.pv, dC.cv, dC.bv, (.bool (dC.off)), (.int .i64 (f)), (.bool (p.dn))]).toArray)]) en11 rfl ?_)
          refine CT.mono hcr_ ?_
          clear hcr_
          rintro _ w51 ⟨pt, l0t, u0t, l1t, u1t, rfl, ht0, ht1, hit0, hit1, hdat, hu51⟩
          have hz51 := hu51.size
          obtain ⟨et, het⟩ : ∃ z, z = (flushD (⟨dA, dC, f, p.dn⟩ : Pr).da).2 := ⟨_, rfl⟩
          rw [← het]
          obtain ⟨ut, hut⟩ : ∃ n, n = w51.heap.size := ⟨_, rfl⟩
          rw [← hst, ← hut] at hit0 hit1
          replace h0 := h0.ext hu51
          replace h1 := h1.ext hu51
          replace hU := hU.trans (Ext.upd hu51)
          replace hB2 := hB2.ext hu51
          replace hB3 := hB3.ext hu51
          replace hdA := hdA.ext hu51
          replace hdB := hdB.ext hu51
          replace hq0 := hq0.ext hu51
          replace hq1 := hq1.ext hu51
          replace hB26 := hB26.ext hu51
          replace hdC := hdC.ext hu51
          replace hB1 := hB1.ext hu51
          replace hr0 := hr0.ext hu51
          replace hr1 := hr1.ext hu51
          replace hB49 := hB49.ext hu51
          rw [hfl2] at het hdat
          replace het : et = 30 := het
          subst het
          refine L_op rfl (X_move (v := (.tuple #[(.agg #[pt.d0.pv, pt.d0.cv, pt.d0.bv, (.bool (pt.d0.off)), pt.d1.pv, pt.d1.cv, pt.d1.bv, (.bool (pt.d1.off)), (.int .i64 (pt.fz)), (.bool (pt.dn))]), (.int .i64 (30))])) rfl ?_)
          refine L_op rfl (X_extract (l := [(.agg #[pt.d0.pv, pt.d0.cv, pt.d0.bv, (.bool (pt.d0.off)), pt.d1.pv, pt.d1.cv, pt.d1.bv, (.bool (pt.d1.off)), (.int .i64 (pt.fz)), (.bool (pt.dn))]), (.int .i64 (30))]) (v := (.agg #[pt.d0.pv, pt.d0.cv, pt.d0.bv, (.bool (pt.d0.off)), pt.d1.pv, pt.d1.cv, pt.d1.bv, (.bool (pt.d1.off)), (.int .i64 (pt.fz)), (.bool (pt.dn))])) rfl rfl ?_)
          refine L_op rfl (X_extract (l := [(.agg #[pt.d0.pv, pt.d0.cv, pt.d0.bv, (.bool (pt.d0.off)), pt.d1.pv, pt.d1.cv, pt.d1.bv, (.bool (pt.d1.off)), (.int .i64 (pt.fz)), (.bool (pt.dn))]), (.int .i64 (30))]) (v := (.int .i64 (30))) rfl rfl ?_)
          refine L_op rfl (X_alloc (z := (.agg #[(.slice none 0 0), (.slice none 0 0), (.slice none 0 0), (.bool (false)), (.slice none 0 0), (.slice none 0 0), (.slice none 0 0), (.bool (false)), (.int .i64 (0)), (.bool (false))])) (c := #[(.slice none 0 0), (.slice none 0 0), (.slice none 0 0), (.bool (false)), (.slice none 0 0), (.slice none 0 0), (.slice none 0 0), (.bool (false)), (.int .i64 (0)), (.bool (false))]) Zv29 rfl ?_)
          intro b52 w52 hn52
          have hbn52 := hn52.num; have hbs52 := hn52.size
          replace h0 := h0.ext hn52.ext
          replace h1 := h1.ext hn52.ext
          replace hU := hU.trans (Ext.upd hn52.ext)
          replace hB2 := hB2.ext hn52.ext
          replace hB3 := hB3.ext hn52.ext
          replace hdA := hdA.ext hn52.ext
          replace hdB := hdB.ext hn52.ext
          replace hq0 := hq0.ext hn52.ext
          replace hq1 := hq1.ext hn52.ext
          replace hB26 := hB26.ext hn52.ext
          replace hdC := hdC.ext hn52.ext
          replace hB1 := hB1.ext hn52.ext
          replace hr0 := hr0.ext hn52.ext
          replace hr1 := hr1.ext hn52.ext
          replace hB49 := hB49.ext hn52.ext
          replace ht0 := ht0.ext hn52.ext
          replace ht1 := ht1.ext hn52.ext
          have hB52 := hn52.blk
          refine L_op0 (X_storeW (b := b52) (ys := [pt.d0.pv, pt.d0.cv, pt.d0.bv, (.bool (pt.d0.off)), pt.d1.pv, pt.d1.cv, pt.d1.bv, (.bool (pt.d1.off)), (.int .i64 (pt.fz)), (.bool (pt.dn))]) A29 rfl rfl (List.forall_mem_cons.2 ⟨(ht0.1.sv.one), (List.forall_mem_cons.2 ⟨(ht0.2.1.sv.one), (List.forall_mem_cons.2 ⟨(ht0.2.2.sv.one), (List.forall_mem_cons.2 ⟨rfl, (List.forall_mem_cons.2 ⟨(ht1.1.sv.one), (List.forall_mem_cons.2 ⟨(ht1.2.1.sv.one), (List.forall_mem_cons.2 ⟨(ht1.2.2.sv.one), (List.forall_mem_cons.2 ⟨rfl, (List.forall_mem_cons.2 ⟨rfl, (List.forall_mem_cons.2 ⟨rfl, (fun _ h => by cases h)⟩)⟩)⟩)⟩)⟩)⟩)⟩)⟩)⟩)⟩) rfl hB52 rfl ?_)
          intro w53 hu53 hb53
          have hz53 := hu53.size
          replace h0 := h0.upd hu53 fun i h1 h2 h => by have h : i = b52 := h; omega
          replace h1 := h1.upd hu53 fun i h1 h2 h => by have h : i = b52 := h; omega
          replace hU := hU.trans (hu53.mono fun i _ h => by have h : i = b52 := h; show n0 ≤ i; omega)
          replace hB2 := hB2.upd hu53 fun h => by have h : b2 = b52 := h; omega
          replace hB3 := hB3.upd hu53 fun h => by have h : b3 = b52 := h; omega
          replace hdA := hdA.upd hu53 fun i h1 h2 h => by have h : i = b52 := h; omega
          replace hdB := hdB.upd hu53 fun i h1 h2 h => by have h : i = b52 := h; omega
          replace hq0 := hq0.upd hu53 fun i h1 h2 h => by have h : i = b52 := h; omega
          replace hq1 := hq1.upd hu53 fun i h1 h2 h => by have h : i = b52 := h; omega
          replace hB26 := hB26.upd hu53 fun h => by have h : b26 = b52 := h; omega
          replace hdC := hdC.upd hu53 fun i h1 h2 h => by have h : i = b52 := h; omega
          replace hB1 := hB1.upd hu53 fun h => by have h : b1 = b52 := h; omega
          replace hr0 := hr0.upd hu53 fun i h1 h2 h => by have h : i = b52 := h; omega
          replace hr1 := hr1.upd hu53 fun i h1 h2 h => by have h : i = b52 := h; omega
          replace hB49 := hB49.upd hu53 fun h => by have h : b49 = b52 := h; omega
          replace ht0 := ht0.upd hu53 fun i h1 h2 h => by have h : i = b52 := h; omega
          replace ht1 := ht1.upd hu53 fun i h1 h2 h => by have h : i = b52 := h; omega
          replace hB52 : Blk w53 b52 #[pt.d0.pv, pt.d0.cv, pt.d0.bv, (.bool (pt.d0.off)), pt.d1.pv, pt.d1.cv, pt.d1.bv, (.bool (pt.d1.off)), (.int .i64 (pt.fz)), (.bool (pt.dn))] 29 := hb53
          refine L_op rfl (X_assign (v := (.int .i64 (30))) rfl ?_)
          refine L_nil ?_
          refine T_n ?_
          refine W_seq ?_
          refine W_reg ?_
          refine L_op rfl (X_move (v := (.int .i64 (30))) rfl ?_)
          refine L_op rfl (X_cmp (k := .i64) (a := 30) (b := 30) (r := true) rfl rfl rfl rfl ?_)
          refine L_op rfl (X_move (v := (.bool (true))) rfl ?_)
          refine L_gy (dj := 146) rfl rfl rfl (X_move (v := (.int .i64 (30))) rfl ?_)
          refine L_gy (dj := 146) rfl rfl rfl (X_cmp (k := .i64) (a := 30) (b := 30) (r := true) rfl rfl rfl rfl ?_)
          refine L_op rfl (X_pick (t := true) (v := (.bool (true))) rfl rfl ?_)
          refine L_op rfl (X_move (v := (.bool (true))) rfl ?_)
          refine L_gy (dj := 150) rfl rfl rfl (X_loadA (p := (ptr b49 (0))) (xs := [pr.d0.pv, pr.d0.cv, pr.d0.bv, (.bool (pr.d0.off)), pr.d1.pv, pr.d1.cv, pr.d1.bv, (.bool (pr.d1.off)), (.int .i64 (pr.fz)), (.bool (pr.dn))]) A29 rfl hB49.atAll rfl ?_)
          refine L_gy (dj := 150) rfl rfl rfl (X_loadA (p := (ptr b1 (0))) (xs := [dA.pv, dA.cv, dA.bv, (.bool (dA.off)), dC.pv, dC.cv, dC.bv, (.bool (dC.off)), (.int .i64 (f)), (.bool (p.dn))]) A29 rfl hB1.atAll rfl ?_)
          have hcr_ := c_sameMR pr (⟨dA, dC, f, p.dn⟩ : Pr) w53 l0r u0r l1r u1r sdA udA sdC udC hr0 hr1 hdA hdC
          refine L_gy (dj := 150) rfl rfl rfl (X_fn (vs := [(.agg ([pr.d0.pv, pr.d0.cv, pr.d0.bv, (.bool (pr.d0.off)), pr.d1.pv, pr.d1.cv, pr.d1.bv, (.bool (pr.d1.off)), (.int .i64 (pr.fz)), (.bool (pr.dn))]).toArray), (.agg ([dA.pv, dA.cv, dA.bv, (.bool (dA.off)), dC.pv, dC.cv, dC.bv, (.bool (dC.off)), (.int .i64 (f)), (.bool (p.dn))]).toArray)]) en19 rfl ?_)
          refine CT.mono hcr_ ?_
          clear hcr_
          rintro _ w54 ⟨⟨g54, rfl, hg54⟩, hu54⟩
          have hz54 := hu54.size
          replace h0 := h0.ext hu54
          replace h1 := h1.ext hu54
          replace hU := hU.trans (Ext.upd hu54)
          replace hB2 := hB2.ext hu54
          replace hB3 := hB3.ext hu54
          replace hdA := hdA.ext hu54
          replace hdB := hdB.ext hu54
          replace hq0 := hq0.ext hu54
          replace hq1 := hq1.ext hu54
          replace hB26 := hB26.ext hu54
          replace hdC := hdC.ext hu54
          replace hB1 := hB1.ext hu54
          replace hr0 := hr0.ext hu54
          replace hr1 := hr1.ext hu54
          replace hB49 := hB49.ext hu54
          replace ht0 := ht0.ext hu54
          replace ht1 := ht1.ext hu54
          replace hB52 := hB52.ext hu54
          obtain rfl : g54 = true := hg54.2 hdar
          refine L_op rfl (X_pick (t := true) (v := (.bool (true))) rfl rfl ?_)
          refine L_op rfl (X_move (v := (.bool (true))) rfl ?_)
          refine L_gy (dj := 155) rfl rfl rfl (X_loadA (p := (ptr b52 (0))) (xs := [pt.d0.pv, pt.d0.cv, pt.d0.bv, (.bool (pt.d0.off)), pt.d1.pv, pt.d1.cv, pt.d1.bv, (.bool (pt.d1.off)), (.int .i64 (pt.fz)), (.bool (pt.dn))]) A29 rfl hB52.atAll rfl ?_)
          refine L_gy (dj := 155) rfl rfl rfl (X_loadA (p := (ptr b1 (0))) (xs := [dA.pv, dA.cv, dA.bv, (.bool (dA.off)), dC.pv, dC.cv, dC.bv, (.bool (dC.off)), (.int .i64 (f)), (.bool (p.dn))]) A29 rfl hB1.atAll rfl ?_)
          have hcr_ := c_sameMR pt (⟨dA, dC, f, p.dn⟩ : Pr) w54 l0t u0t l1t u1t sdA udA sdC udC ht0 ht1 hdA hdC
          refine L_gy (dj := 155) rfl rfl rfl (X_fn (vs := [(.agg ([pt.d0.pv, pt.d0.cv, pt.d0.bv, (.bool (pt.d0.off)), pt.d1.pv, pt.d1.cv, pt.d1.bv, (.bool (pt.d1.off)), (.int .i64 (pt.fz)), (.bool (pt.dn))]).toArray), (.agg ([dA.pv, dA.cv, dA.bv, (.bool (dA.off)), dC.pv, dC.cv, dC.bv, (.bool (dC.off)), (.int .i64 (f)), (.bool (p.dn))]).toArray)]) en19 rfl ?_)
          refine CT.mono hcr_ ?_
          clear hcr_
          rintro _ w55 ⟨⟨g55, rfl, hg55⟩, hu55⟩
          have hz55 := hu55.size
          replace h0 := h0.ext hu55
          replace h1 := h1.ext hu55
          replace hU := hU.trans (Ext.upd hu55)
          replace hB2 := hB2.ext hu55
          replace hB3 := hB3.ext hu55
          replace hdA := hdA.ext hu55
          replace hdB := hdB.ext hu55
          replace hq0 := hq0.ext hu55
          replace hq1 := hq1.ext hu55
          replace hB26 := hB26.ext hu55
          replace hdC := hdC.ext hu55
          replace hB1 := hB1.ext hu55
          replace hr0 := hr0.ext hu55
          replace hr1 := hr1.ext hu55
          replace hB49 := hB49.ext hu55
          replace ht0 := ht0.ext hu55
          replace ht1 := ht1.ext hu55
          replace hB52 := hB52.ext hu55
          obtain rfl : g55 = true := hg55.2 hdat
          refine L_op rfl (X_pick (t := true) (v := (.bool (true))) rfl rfl ?_)
          refine L_op rfl (X_move (v := (.bool (true))) rfl ?_)
          refine L_gy (dj := 160) rfl rfl rfl (X_loadA (p := (ptr b1 (0))) (xs := [dA.pv, dA.cv, dA.bv, (.bool (dA.off)), dC.pv, dC.cv, dC.bv, (.bool (dC.off)), (.int .i64 (f)), (.bool (p.dn))]) A29 rfl hB1.atAll rfl ?_)
          have hcr_ := c_live (⟨dA, dC, f, p.dn⟩ : Pr) w55 sdA udA sdC udC (by omega) (by omega) hdA hdC
          refine L_gy (dj := 160) rfl rfl rfl (X_fn (vs := [(.agg ([dA.pv, dA.cv, dA.bv, (.bool (dA.off)), dC.pv, dC.cv, dC.bv, (.bool (dC.off)), (.int .i64 (f)), (.bool (p.dn))]).toArray)]) en18 rfl ?_)
          refine CT.mono hcr_ ?_
          clear hcr_
          rintro _ w56 ⟨rfl, hu56⟩
          have hz56 := hu56.size
          replace h0 := h0.ext hu56
          replace h1 := h1.ext hu56
          replace hU := hU.trans (Ext.upd hu56)
          replace hB2 := hB2.ext hu56
          replace hB3 := hB3.ext hu56
          replace hdA := hdA.ext hu56
          replace hdB := hdB.ext hu56
          replace hq0 := hq0.ext hu56
          replace hq1 := hq1.ext hu56
          replace hB26 := hB26.ext hu56
          replace hdC := hdC.ext hu56
          replace hB1 := hB1.ext hu56
          replace hr0 := hr0.ext hu56
          replace hr1 := hr1.ext hu56
          replace hB49 := hB49.ext hu56
          replace ht0 := ht0.ext hu56
          replace ht1 := ht1.ext hu56
          replace hB52 := hB52.ext hu56
          rw [live0 (p := (⟨dA, dC, f, p.dn⟩ : Pr).da) odA odC]
          refine L_gy (dj := 160) rfl rfl rfl (X_cmp (k := .u8) (a := 0) (b := 0) (r := true) rfl rfl rfl rfl ?_)
          refine L_op rfl (X_pick (t := true) (v := (.bool (true))) rfl rfl ?_)
          refine L_op rfl (X_move (v := (.bool (true))) rfl ?_)
          refine L_gy (dj := 165) rfl rfl rfl (X_fn (vs := []) en9 rfl (CT.mono (c_wakes _) ?_))
          rintro _ w57 ⟨rfl, hu57⟩
          have hz57 := hu57.size
          replace h0 := h0.ext hu57
          replace h1 := h1.ext hu57
          replace hU := hU.trans (Ext.upd hu57)
          replace hB2 := hB2.ext hu57
          replace hB3 := hB3.ext hu57
          replace hdA := hdA.ext hu57
          replace hdB := hdB.ext hu57
          replace hq0 := hq0.ext hu57
          replace hq1 := hq1.ext hu57
          replace hB26 := hB26.ext hu57
          replace hdC := hdC.ext hu57
          replace hB1 := hB1.ext hu57
          replace hr0 := hr0.ext hu57
          replace hr1 := hr1.ext hu57
          replace hB49 := hB49.ext hu57
          replace ht0 := ht0.ext hu57
          replace ht1 := ht1.ext hu57
          replace hB52 := hB52.ext hu57
          refine L_op rfl (X_pick (t := true) (v := (.bool (true))) rfl rfl ?_)
          refine L_op rfl (X_assign (v := (.bool (true))) rfl ?_)
          refine L_nil ?_
          refine T_n ?_
          refine W_ret ?_
          exact BQ_r (End_1 Try.results4 (v := .bool true) rfl ⟨rfl, hU.own hn0⟩)
      ·rw [hc15]
       refine L_gy (dj := 52) rfl rfl rfl (X_not (b := false) (r := true) rfl rfl ?_)
       refine L_op rfl (X_pick (t := false) (v := (.bool (true))) rfl rfl ?_)
       refine L_op rfl (X_move (v := (.bool (true))) rfl ?_)
       refine L_gn (dj := 58) (t := true) rfl rfl rfl rfl ?_
       refine L_gn (dj := 58) (t := true) rfl rfl rfl rfl ?_
       refine L_gn (dj := 58) (t := true) rfl rfl rfl rfl ?_
       refine L_op rfl (X_pick (t := true) (v := (.bool (true))) rfl rfl ?_)
       refine L_op rfl (X_move (v := (.bool (true))) rfl ?_)
       refine L_gn (dj := 63) (t := true) rfl rfl rfl rfl ?_
       refine L_gn (dj := 63) (t := true) rfl rfl rfl rfl ?_
       refine L_gn (dj := 63) (t := true) rfl rfl rfl rfl ?_
       refine L_gn (dj := 63) (t := true) rfl rfl rfl rfl ?_
       refine L_gn (dj := 63) (t := true) rfl rfl rfl rfl ?_
       refine L_gn (dj := 63) (t := true) rfl rfl rfl rfl ?_
       refine L_gn (dj := 63) (t := true) rfl rfl rfl rfl ?_
       refine L_gn (dj := 63) (t := true) rfl rfl rfl rfl ?_
       refine L_gn (dj := 63) (t := true) rfl rfl rfl rfl ?_
       refine L_gn (dj := 63) (t := true) rfl rfl rfl rfl ?_
       refine L_gn (dj := 63) (t := true) rfl rfl rfl rfl ?_
       refine L_gn (dj := 63) (t := true) rfl rfl rfl rfl ?_
       refine L_op rfl (X_pick (t := true) (v := (.bool (true))) rfl rfl ?_)
       refine L_nil ?_
       refine T_n ?_
       refine W_ct rfl ?_
       refine W_seq ?_
       refine W_reg ?_
       refine L_op rfl (X_fn (vs := []) en9 rfl (CT.mono (c_wakes _) ?_))
       rintro _ w58 ⟨rfl, hu58⟩
       have hz58 := hu58.size
       replace h0 := h0.ext hu58
       replace h1 := h1.ext hu58
       replace hU := hU.trans (Ext.upd hu58)
       replace hB1 := hB1.ext hu58
       replace hB2 := hB2.ext hu58
       replace hB3 := hB3.ext hu58
       refine L_op rfl (X_assign (v := (.bool (true))) rfl ?_)
       refine L_nil ?_
       refine T_n ?_
       refine W_ret ?_
       refine T_r ?_
       exact BQ_r (End_1 Try.results4 (v := .bool true) rfl ⟨rfl, hU.own hn0⟩)
  ·rw [hc7]
   refine L_gy (dj := 33) rfl rfl rfl (X_not (b := false) (r := true) rfl rfl ?_)
   refine L_op rfl (X_pick (t := false) (v := (.bool (true))) rfl rfl ?_)
   refine L_op rfl (X_move (v := (.bool (true))) rfl ?_)
   refine L_gn (dj := 40) (t := true) rfl rfl rfl rfl ?_
   refine L_gn (dj := 40) (t := true) rfl rfl rfl rfl ?_
   refine L_op rfl (X_pick (t := true) (v := (.bool (true))) rfl rfl ?_)
   refine L_op rfl (X_move (v := (.bool (true))) rfl ?_)
   refine L_gn (dj := 44) (t := true) rfl rfl rfl rfl ?_
   refine L_gn (dj := 44) (t := true) rfl rfl rfl rfl ?_
   refine L_op rfl (X_pick (t := true) (v := (.bool (true))) rfl rfl ?_)
   refine L_op rfl (X_move (v := (.bool (true))) rfl ?_)
   refine L_gn (dj := 48) (t := true) rfl rfl rfl rfl ?_
   refine L_gn (dj := 48) (t := true) rfl rfl rfl rfl ?_
   refine L_op rfl (X_pick (t := true) (v := (.bool (true))) rfl rfl ?_)
   refine L_op rfl (X_move (v := (.bool (true))) rfl ?_)
   refine L_gn (dj := 52) (t := true) rfl rfl rfl rfl ?_
   refine L_gn (dj := 52) (t := true) rfl rfl rfl rfl ?_
   refine L_gn (dj := 52) (t := true) rfl rfl rfl rfl ?_
   refine L_gn (dj := 52) (t := true) rfl rfl rfl rfl ?_
   refine L_op rfl (X_pick (t := true) (v := (.bool (true))) rfl rfl ?_)
   refine L_op rfl (X_move (v := (.bool (true))) rfl ?_)
   refine L_gn (dj := 58) (t := true) rfl rfl rfl rfl ?_
   refine L_gn (dj := 58) (t := true) rfl rfl rfl rfl ?_
   refine L_gn (dj := 58) (t := true) rfl rfl rfl rfl ?_
   refine L_op rfl (X_pick (t := true) (v := (.bool (true))) rfl rfl ?_)
   refine L_op rfl (X_move (v := (.bool (true))) rfl ?_)
   refine L_gn (dj := 63) (t := true) rfl rfl rfl rfl ?_
   refine L_gn (dj := 63) (t := true) rfl rfl rfl rfl ?_
   refine L_gn (dj := 63) (t := true) rfl rfl rfl rfl ?_
   refine L_gn (dj := 63) (t := true) rfl rfl rfl rfl ?_
   refine L_gn (dj := 63) (t := true) rfl rfl rfl rfl ?_
   refine L_gn (dj := 63) (t := true) rfl rfl rfl rfl ?_
   refine L_gn (dj := 63) (t := true) rfl rfl rfl rfl ?_
   refine L_gn (dj := 63) (t := true) rfl rfl rfl rfl ?_
   refine L_gn (dj := 63) (t := true) rfl rfl rfl rfl ?_
   refine L_gn (dj := 63) (t := true) rfl rfl rfl rfl ?_
   refine L_gn (dj := 63) (t := true) rfl rfl rfl rfl ?_
   refine L_gn (dj := 63) (t := true) rfl rfl rfl rfl ?_
   refine L_op rfl (X_pick (t := true) (v := (.bool (true))) rfl rfl ?_)
   refine L_nil ?_
   refine T_n ?_
   refine W_ct rfl ?_
   refine W_seq ?_
   refine W_reg ?_
   refine L_op rfl (X_fn (vs := []) en9 rfl (CT.mono (c_wakes _) ?_))
   rintro _ w59 ⟨rfl, hu59⟩
   have hz59 := hu59.size
   replace h0 := h0.ext hu59
   replace h1 := h1.ext hu59
   replace hU := hU.trans (Ext.upd hu59)
   replace hB1 := hB1.ext hu59
   replace hB2 := hB2.ext hu59
   replace hB3 := hB3.ext hu59
   refine L_op rfl (X_assign (v := (.bool (true))) rfl ?_)
   refine L_nil ?_
   refine T_n ?_
   refine W_ret ?_
   refine T_r ?_
   exact BQ_r (End_1 Try.results4 (v := .bool true) rfl ⟨rfl, hU.own hn0⟩)
 ·rw [hc5]
  refine L_op rfl (X_not (b := false) (r := true) rfl rfl ?_)
  refine L_op rfl (X_move (v := (.bool (true))) rfl ?_)
  refine L_gn (dj := 33) (t := true) rfl rfl rfl rfl ?_
  refine L_gn (dj := 33) (t := true) rfl rfl rfl rfl ?_
  refine L_gn (dj := 33) (t := true) rfl rfl rfl rfl ?_
  refine L_gn (dj := 33) (t := true) rfl rfl rfl rfl ?_
  refine L_gn (dj := 33) (t := true) rfl rfl rfl rfl ?_
  refine L_op rfl (X_pick (t := true) (v := (.bool (true))) rfl rfl ?_)
  refine L_op rfl (X_move (v := (.bool (true))) rfl ?_)
  refine L_gn (dj := 40) (t := true) rfl rfl rfl rfl ?_
  refine L_gn (dj := 40) (t := true) rfl rfl rfl rfl ?_
  refine L_op rfl (X_pick (t := true) (v := (.bool (true))) rfl rfl ?_)
  refine L_op rfl (X_move (v := (.bool (true))) rfl ?_)
  refine L_gn (dj := 44) (t := true) rfl rfl rfl rfl ?_
  refine L_gn (dj := 44) (t := true) rfl rfl rfl rfl ?_
  refine L_op rfl (X_pick (t := true) (v := (.bool (true))) rfl rfl ?_)
  refine L_op rfl (X_move (v := (.bool (true))) rfl ?_)
  refine L_gn (dj := 48) (t := true) rfl rfl rfl rfl ?_
  refine L_gn (dj := 48) (t := true) rfl rfl rfl rfl ?_
  refine L_op rfl (X_pick (t := true) (v := (.bool (true))) rfl rfl ?_)
  refine L_op rfl (X_move (v := (.bool (true))) rfl ?_)
  refine L_gn (dj := 52) (t := true) rfl rfl rfl rfl ?_
  refine L_gn (dj := 52) (t := true) rfl rfl rfl rfl ?_
  refine L_gn (dj := 52) (t := true) rfl rfl rfl rfl ?_
  refine L_gn (dj := 52) (t := true) rfl rfl rfl rfl ?_
  refine L_op rfl (X_pick (t := true) (v := (.bool (true))) rfl rfl ?_)
  refine L_op rfl (X_move (v := (.bool (true))) rfl ?_)
  refine L_gn (dj := 58) (t := true) rfl rfl rfl rfl ?_
  refine L_gn (dj := 58) (t := true) rfl rfl rfl rfl ?_
  refine L_gn (dj := 58) (t := true) rfl rfl rfl rfl ?_
  refine L_op rfl (X_pick (t := true) (v := (.bool (true))) rfl rfl ?_)
  refine L_op rfl (X_move (v := (.bool (true))) rfl ?_)
  refine L_gn (dj := 63) (t := true) rfl rfl rfl rfl ?_
  refine L_gn (dj := 63) (t := true) rfl rfl rfl rfl ?_
  refine L_gn (dj := 63) (t := true) rfl rfl rfl rfl ?_
  refine L_gn (dj := 63) (t := true) rfl rfl rfl rfl ?_
  refine L_gn (dj := 63) (t := true) rfl rfl rfl rfl ?_
  refine L_gn (dj := 63) (t := true) rfl rfl rfl rfl ?_
  refine L_gn (dj := 63) (t := true) rfl rfl rfl rfl ?_
  refine L_gn (dj := 63) (t := true) rfl rfl rfl rfl ?_
  refine L_gn (dj := 63) (t := true) rfl rfl rfl rfl ?_
  refine L_gn (dj := 63) (t := true) rfl rfl rfl rfl ?_
  refine L_gn (dj := 63) (t := true) rfl rfl rfl rfl ?_
  refine L_gn (dj := 63) (t := true) rfl rfl rfl rfl ?_
  refine L_op rfl (X_pick (t := true) (v := (.bool (true))) rfl rfl ?_)
  refine L_nil ?_
  refine T_n ?_
  refine W_ct rfl ?_
  refine W_seq ?_
  refine W_reg ?_
  refine L_op rfl (X_fn (vs := []) en9 rfl (CT.mono (c_wakes _) ?_))
  rintro _ w60 ⟨rfl, hu60⟩
  have hz60 := hu60.size
  replace h0 := h0.ext hu60
  replace h1 := h1.ext hu60
  replace hU := hU.trans (Ext.upd hu60)
  replace hB1 := hB1.ext hu60
  replace hB2 := hB2.ext hu60
  replace hB3 := hB3.ext hu60
  refine L_op rfl (X_assign (v := (.bool (true))) rfl ?_)
  refine L_nil ?_
  refine T_n ?_
  refine W_ret ?_
  refine T_r ?_
  exact BQ_r (End_1 Try.results4 (v := .bool true) rfl ⟨rfl, hU.own hn0⟩)
end Go.Proofs.Ytcjfkkoapncnhaa
