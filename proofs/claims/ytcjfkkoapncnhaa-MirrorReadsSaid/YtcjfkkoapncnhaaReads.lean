/-
 The walk of MirrorReads. (Printed by wip/gen/t10k.py of this repo.)
-/
import Derived.Test.YtcjfkkoapncnhaaMirLaw
import Derived.Test.YtcjfkkoapncnhaaBaseWT
namespace Go.Proofs.Ytcjfkkoapncnhaa
open Go Go.SL Go.Proofs
set_option linter.unusedVariables false

theorem pw_bound' : ∀ {n : Nat} {bs : List Int}, bs.Pairwise (· < ·) → (∀ a ∈ bs, 0 ≤ a ∧ a < (n : Int)) → bs.length ≤ n
 | n, bs, h, hin => by
  have h1 : ∀ (l : List Int) (lo : Int), l.Pairwise (· < ·) → (∀ a ∈ l, lo ≤ a ∧ a < (n : Int)) → lo ≤ n → (l.length : Int) ≤ n - lo := by
   intro l
   induction l with
   | nil => intro lo _ _ hlo; show ((0 : Nat) : Int) ≤ _; omega
   | cons a r ih =>
    intro lo hp hl hlo
    obtain ⟨ha, hr⟩ := List.pairwise_cons.1 hp
    obtain ⟨h2, h3⟩ := hl a (List.mem_cons_self)
    have h4 := ih (a + 1) hr (fun x hx => ⟨by have := ha x hx; omega, (hl x (List.mem_cons_of_mem _ hx)).2⟩) (by omega)
    rw [List.length_cons]
    omega
  have h2 := h1 bs 0 h hin (by omega)
  omega
theorem may_sz {d : DD} (h : d.May) : Sz d 2000 := by
 have hp := inB_pw.1 h.2.2
 have hb := pw_bound' hp.2 hp.1
 have h1 := h.1
 exact ⟨by have := h1.2.1; omega, h1.2.2.1, by have := h1.2.1; omega⟩
theorem addW_o (pg : Pg) (xs : List Int) (d : DD) : (addW pg xs d).off = d.off := by unfold addW; split <;> rfl
theorem addW_ps (pg : Pg) (xs : List Int) (d : DD) : (addW pg xs d).ps = d.ps := by unfold addW; split <;> rfl
theorem cat0 {w : World} {lo hi : Nat} {v : Value} {es : List (Int × Int)} (h : NRd LC w lo hi v es) {i : Int} {k : Nat} {e : Int × Int} (hik : i.toNat = k) (he : es[k]? = some e) : At w (pof v (i.toNat * 2 + 0)) [.int .i64 e.1] := by
 subst hik; exact h.cell (j := 0) he rfl
theorem cat1 {w : World} {lo hi : Nat} {v : Value} {es : List (Int × Int)} (h : NRd LC w lo hi v es) {i : Int} {k : Nat} {e : Int × Int} (hik : i.toNat = k) (he : es[k]? = some e) : At w (pof v (i.toNat * 2 + 1)) [.int .i64 e.2] := by
 subst hik; exact h.cell (j := 1) he rfl
theorem c_readRD (d : Dk) (n : Int) (w : World) (lo up : Nat) (hup : up ≤ w.heap.size) (h : d.Rd w lo up) : CT Try.prog 14 #[.agg #[d.pv, d.cv, d.bv, .bool d.off], .int .i64 n] w fun v w' => v = .tuple #[pageV (rdD d.da n).1, .int .i64 (rdD d.da n).2] ∧ Ext w w' := c_readR d.pv d.cv d.bv d.ps d.cs d.bs d.off n w lo up hup h.1 h.2.1 h.2.2

set_option maxRecDepth 10000 in
set_option maxHeartbeats 2000000 in
theorem c_reads (p : Pr) (q : Pt) (pg : Pg) (w : World) (h0 : p.d0.Rd w 0 w.heap.size) (h1 : p.d1.Rd w 0 w.heap.size) (hq : PtOk q) : CT Try.prog 3 #[(.agg #[p.d0.pv, p.d0.cv, p.d0.bv, (.bool (p.d0.off)), p.d1.pv, p.d1.cv, p.d1.bv, (.bool (p.d1.off)), (.int .i64 (p.fz)), (.bool (p.dn))]), (.agg (ptC q).toArray), (pageV pg)] w fun v w' => v = .bool true ∧ Ext w w' := by
 obtain ⟨n0, hn0⟩ : ∃ n, n = w.heap.size := ⟨_, rfl⟩
 have hU : Upd (fun i => n0 ≤ i) w w := Upd.refl _ _
 rw [← hn0] at h0 h1
 obtain ⟨hq1, hq2, hq3, hq4, hq5⟩ := id hq
 obtain ⟨m, hm⟩ : ∃ m, m = min p.d0.ps.length p.d1.ps.length := ⟨_, rfl⟩
 have hlp0 := h0.1.sv.len; have hlp1 := h1.1.sv.len; have hlc0 := h0.2.1.sv.len; have hlc1 := h1.2.1.sv.len
 refine CT_of Try.func3 rfl rfl rfl ?_
 refine W_seq ?_
 refine W_reg ?_
 refine L_op rfl (X_box (v := (.agg #[p.d0.pv, p.d0.cv, p.d0.bv, (.bool (p.d0.off)), p.d1.pv, p.d1.cv, p.d1.bv, (.bool (p.d1.off)), (.int .i64 (p.fz)), (.bool (p.dn))])) (c := ([p.d0.pv, p.d0.cv, p.d0.bv, (.bool (p.d0.off)), p.d1.pv, p.d1.cv, p.d1.bv, (.bool (p.d1.off)), (.int .i64 (p.fz)), (.bool (p.dn))]).toArray) rfl rfl ?_)
 intro b1 w1 hn1
 have hbn1 := hn1.num; have hbs1 := hn1.size
 replace h0 := h0.ext hn1.ext
 replace h1 := h1.ext hn1.ext
 replace hU := hU.trans (Ext.upd hn1.ext)
 have hB1 := hn1.blk
 refine L_op rfl (X_box (v := (.agg (ptC q).toArray)) (c := ((ptC q)).toArray) rfl rfl ?_)
 intro b2 w2 hn2
 have hbn2 := hn2.num; have hbs2 := hn2.size
 replace h0 := h0.ext hn2.ext
 replace h1 := h1.ext hn2.ext
 replace hU := hU.trans (Ext.upd hn2.ext)
 replace hB1 := hB1.ext hn2.ext
 have hB2 := hn2.blk
 refine L_op rfl (X_box (v := (pageV pg)) (c := ((pg.1).map byteV).toArray) rfl rfl ?_)
 intro b3 w3 hn3
 have hbn3 := hn3.num; have hbs3 := hn3.size
 replace h0 := h0.ext hn3.ext
 replace h1 := h1.ext hn3.ext
 replace hU := hU.trans (Ext.upd hn3.ext)
 replace hB1 := hB1.ext hn3.ext
 replace hB2 := hB2.ext hn3.ext
 have hB3 := hn3.blk
 refine L_op rfl (X_assign (v := (.bool (false))) rfl ?_)
 refine L_nil ?_
 refine T_n ?_
 refine W_seq ?_
 refine W_reg ?_
 refine L_op rfl (X_fldP (b := b1) (o := 0) (r := 0) Fd29_0 rfl rfl ?_)
 refine L_op rfl (X_idxAP (len := 2) (sz := 4) (b := b1) (o := 0) (k := .i64) (i := 0) (r := 0) Try.underlying27 Z26 rfl rfl (by omega) (by omega) rfl ?_)
 refine L_op rfl (X_fldP (b := b1) (o := 0) (r := 0) Fd26_0 rfl rfl ?_)
 refine L_op rfl (X_load (p := (ptr b1 (0))) (v := p.d0.pv) T22 rfl (hB1.at1 rfl) ?_)
 refine L_op rfl (X_len (v := p.d0.pv) (n := p.d0.ps.length) Try.underlying22 rfl h0.1.sv ?_)
 refine L_op rfl (X_fldP (b := b1) (o := 0) (r := 0) Fd29_0 rfl rfl ?_)
 refine L_op rfl (X_idxAP (len := 2) (sz := 4) (b := b1) (o := 0) (k := .i64) (i := 1) (r := 4) Try.underlying27 Z26 rfl rfl (by omega) (by omega) rfl ?_)
 refine L_op rfl (X_fldP (b := b1) (o := 4) (r := 4) Fd26_0 rfl rfl ?_)
 refine L_op rfl (X_load (p := (ptr b1 (4))) (v := p.d1.pv) T22 rfl (hB1.at1 rfl) ?_)
 refine L_op rfl (X_len (v := p.d1.pv) (n := p.d1.ps.length) Try.underlying22 rfl h1.1.sv ?_)
 refine L_op rfl (X_min (k := .i64) (a := ((p.d0.ps.length : Nat) : Int)) (b := ((p.d1.ps.length : Nat) : Int)) (r := ((m : Nat) : Int)) rfl rfl (by omega) ?_)
 refine L_op rfl (X_assign (v := (.int .i64 (((m : Nat) : Int)))) rfl ?_)
 refine L_nil ?_
 refine T_n ?_
 refine W_seq ?_
 refine W_seq ?_
 refine W_reg ?_
 refine L_op rfl (X_fldP (b := b1) (o := 0) (r := 0) Fd29_0 rfl rfl ?_)
 refine L_op rfl (X_idxAP (len := 2) (sz := 4) (b := b1) (o := 0) (k := .i64) (i := 0) (r := 0) Try.underlying27 Z26 rfl rfl (by omega) (by omega) rfl ?_)
 refine L_op rfl (X_loadA (p := (ptr b1 (0))) (xs := [p.d0.pv, p.d0.cv, p.d0.bv, (.bool (p.d0.off))]) A26 rfl (hB1.part (o := 0) (n := 4) rfl) rfl ?_)
 have hcr_ := c_mayR p.d0.pv p.d0.cv p.d0.bv p.d0.ps p.d0.cs p.d0.bs p.d0.off w3 0 n0 h0.1 h0.2.1 h0.2.2
 refine L_op rfl (X_fn (vs := [(.agg #[p.d0.pv, p.d0.cv, p.d0.bv, (.bool (p.d0.off))])]) en7 rfl ?_)
 refine CT.mono hcr_ ?_
 clear hcr_
 rintro _ w4 ⟨⟨gA, rfl, hgA⟩, hu4⟩
 have hz4 := hu4.size
 replace h0 := h0.ext hu4
 replace h1 := h1.ext hu4
 replace hU := hU.trans (Ext.upd hu4)
 replace hB1 := hB1.ext hu4
 replace hB2 := hB2.ext hu4
 replace hB3 := hB3.ext hu4
 rcases Bool.eq_false_or_eq_true (gA) with hc5 | hc5
 ·rw [hc5]
  refine L_op rfl (X_not (b := true) (r := false) rfl rfl ?_)
  refine L_op rfl (X_move (v := (.bool (false))) rfl ?_)
  refine L_gy (dj := 35) rfl rfl rfl (X_fldP (b := b1) (o := 0) (r := 0) Fd29_0 rfl rfl ?_)
  refine L_gy (dj := 35) rfl rfl rfl (X_idxAP (len := 2) (sz := 4) (b := b1) (o := 0) (k := .i64) (i := 1) (r := 4) Try.underlying27 Z26 rfl rfl (by omega) (by omega) rfl ?_)
  refine L_gy (dj := 35) rfl rfl rfl (X_loadA (p := (ptr b1 (4))) (xs := [p.d1.pv, p.d1.cv, p.d1.bv, (.bool (p.d1.off))]) A26 rfl (hB1.part (o := 4) (n := 4) rfl) rfl ?_)
  have hcr_ := c_mayR p.d1.pv p.d1.cv p.d1.bv p.d1.ps p.d1.cs p.d1.bs p.d1.off w4 0 n0 h1.1 h1.2.1 h1.2.2
  refine L_gy (dj := 35) rfl rfl rfl (X_fn (vs := [(.agg #[p.d1.pv, p.d1.cv, p.d1.bv, (.bool (p.d1.off))])]) en7 rfl ?_)
  refine CT.mono hcr_ ?_
  clear hcr_
  rintro _ w6 ⟨⟨gB, rfl, hgB⟩, hu6⟩
  have hz6 := hu6.size
  replace h0 := h0.ext hu6
  replace h1 := h1.ext hu6
  replace hU := hU.trans (Ext.upd hu6)
  replace hB1 := hB1.ext hu6
  replace hB2 := hB2.ext hu6
  replace hB3 := hB3.ext hu6
  rcases Bool.eq_false_or_eq_true (gB) with hc7 | hc7
  ·rw [hc7]
   refine L_gy (dj := 35) rfl rfl rfl (X_not (b := true) (r := false) rfl rfl ?_)
   refine L_op rfl (X_pick (t := false) (v := (.bool (false))) rfl rfl ?_)
   refine L_op rfl (X_move (v := (.bool (false))) rfl ?_)
   refine L_gy (dj := 42) rfl rfl rfl (X_fldP (b := b1) (o := 0) (r := 0) Fd29_0 rfl rfl ?_)
   refine L_gy (dj := 42) rfl rfl rfl (X_idxAP (len := 2) (sz := 4) (b := b1) (o := 0) (k := .i64) (i := 0) (r := 0) Try.underlying27 Z26 rfl rfl (by omega) (by omega) rfl ?_)
   refine L_gy (dj := 42) rfl rfl rfl (X_fldP (b := b1) (o := 0) (r := 3) Fd26_3 rfl rfl ?_)
   rcases Bool.eq_false_or_eq_true (p.d0.off) with hs8 | hs8
   ·refine L_gy (dj := 42) rfl rfl rfl (X_load (p := (ptr b1 (3))) (v := .bool true) T4 rfl (hB1.at1 (by rw [hs8]; rfl)) ?_)
    refine L_gy (dj := 42) rfl rfl rfl (X_move (v := (.bool (true))) rfl ?_)
    refine L_gy (dj := 47) rfl rfl rfl (X_fldP (b := b1) (o := 0) (r := 0) Fd29_0 rfl rfl ?_)
    refine L_gy (dj := 47) rfl rfl rfl (X_idxAP (len := 2) (sz := 4) (b := b1) (o := 0) (k := .i64) (i := 1) (r := 4) Try.underlying27 Z26 rfl rfl (by omega) (by omega) rfl ?_)
    refine L_gy (dj := 47) rfl rfl rfl (X_fldP (b := b1) (o := 4) (r := 7) Fd26_3 rfl rfl ?_)
    rcases Bool.eq_false_or_eq_true (p.d1.off) with hs9 | hs9
    ·refine L_gy (dj := 47) rfl rfl rfl (X_load (p := (ptr b1 (7))) (v := .bool true) T4 rfl (hB1.at1 (by rw [hs9]; rfl)) ?_)
     refine L_gy (dj := 42) rfl rfl rfl (X_pick (t := true) (v := (.bool (true))) rfl rfl ?_)
     refine L_op rfl (X_pick (t := false) (v := (.bool (true))) rfl rfl ?_)
     refine L_op rfl (X_move (v := (.bool (true))) rfl ?_)
     refine L_gn (dj := 54) (t := true) rfl rfl rfl rfl ?_
     refine L_gn (dj := 54) (t := true) rfl rfl rfl rfl ?_
     refine L_op rfl (X_pick (t := true) (v := (.bool (true))) rfl rfl ?_)
     refine L_op rfl (X_move (v := (.bool (true))) rfl ?_)
     refine L_gn (dj := 58) (t := true) rfl rfl rfl rfl ?_
     refine L_gn (dj := 58) (t := true) rfl rfl rfl rfl ?_
     refine L_gn (dj := 58) (t := true) rfl rfl rfl rfl ?_
     refine L_op rfl (X_pick (t := true) (v := (.bool (true))) rfl rfl ?_)
     refine L_op rfl (X_move (v := (.bool (true))) rfl ?_)
     refine L_gn (dj := 63) (t := true) rfl rfl rfl rfl ?_
     refine L_gn (dj := 63) (t := true) rfl rfl rfl rfl ?_
     refine L_gn (dj := 63) (t := true) rfl rfl rfl rfl ?_
     refine L_gn (dj := 63) (t := true) rfl rfl rfl rfl ?_
     refine L_op rfl (X_pick (t := true) (v := (.bool (true))) rfl rfl ?_)
     refine L_op rfl (X_move (v := (.bool (true))) rfl ?_)
     refine L_gn (dj := 69) (t := true) rfl rfl rfl rfl ?_
     refine L_gn (dj := 69) (t := true) rfl rfl rfl rfl ?_
     refine L_gn (dj := 69) (t := true) rfl rfl rfl rfl ?_
     refine L_op rfl (X_pick (t := true) (v := (.bool (true))) rfl rfl ?_)
     refine L_op rfl (X_move (v := (.bool (true))) rfl ?_)
     refine L_gn (dj := 74) (t := true) rfl rfl rfl rfl ?_
     refine L_gn (dj := 74) (t := true) rfl rfl rfl rfl ?_
     refine L_gn (dj := 74) (t := true) rfl rfl rfl rfl ?_
     refine L_gn (dj := 74) (t := true) rfl rfl rfl rfl ?_
     refine L_gn (dj := 74) (t := true) rfl rfl rfl rfl ?_
     refine L_gn (dj := 74) (t := true) rfl rfl rfl rfl ?_
     refine L_gn (dj := 74) (t := true) rfl rfl rfl rfl ?_
     refine L_gn (dj := 74) (t := true) rfl rfl rfl rfl ?_
     refine L_gn (dj := 74) (t := true) rfl rfl rfl rfl ?_
     refine L_gn (dj := 74) (t := true) rfl rfl rfl rfl ?_
     refine L_gn (dj := 74) (t := true) rfl rfl rfl rfl ?_
     refine L_gn (dj := 74) (t := true) rfl rfl rfl rfl ?_
     refine L_op rfl (X_pick (t := true) (v := (.bool (true))) rfl rfl ?_)
     refine L_nil ?_
     refine T_n ?_
     refine W_ct rfl ?_
     refine W_seq ?_
     refine W_reg ?_
     refine L_op rfl (X_fn (vs := []) en9 rfl (CT.mono (c_wakes _) ?_))
     rintro _ w10 ⟨rfl, hu10⟩
     have hz10 := hu10.size
     replace h0 := h0.ext hu10
     replace h1 := h1.ext hu10
     replace hU := hU.trans (Ext.upd hu10)
     replace hB1 := hB1.ext hu10
     replace hB2 := hB2.ext hu10
     replace hB3 := hB3.ext hu10
     refine L_op rfl (X_assign (v := (.bool (true))) rfl ?_)
     refine L_nil ?_
     refine T_n ?_
     refine W_ret ?_
     refine T_r ?_
     exact BQ_r (End_1 Try.results3 (v := .bool true) rfl ⟨rfl, hU.own hn0⟩)
    ·refine L_gy (dj := 47) rfl rfl rfl (X_load (p := (ptr b1 (7))) (v := .bool false) T4 rfl (hB1.at1 (by rw [hs9]; rfl)) ?_)
     refine L_gy (dj := 42) rfl rfl rfl (X_pick (t := true) (v := (.bool (false))) rfl rfl ?_)
     refine L_op rfl (X_pick (t := false) (v := (.bool (false))) rfl rfl ?_)
     refine L_op rfl (X_move (v := (.bool (false))) rfl ?_)
     refine L_gy (dj := 54) rfl rfl rfl (X_fldP (b := b1) (o := 0) (r := 9) Fd29_2 rfl rfl ?_)
     rcases Bool.eq_false_or_eq_true (p.dn) with hs11 | hs11
     ·refine L_gy (dj := 54) rfl rfl rfl (X_load (p := (ptr b1 (9))) (v := .bool true) T4 rfl (hB1.at1 (by rw [hs11]; rfl)) ?_)
      refine L_op rfl (X_pick (t := false) (v := (.bool (true))) rfl rfl ?_)
      refine L_op rfl (X_move (v := (.bool (true))) rfl ?_)
      refine L_gn (dj := 58) (t := true) rfl rfl rfl rfl ?_
      refine L_gn (dj := 58) (t := true) rfl rfl rfl rfl ?_
      refine L_gn (dj := 58) (t := true) rfl rfl rfl rfl ?_
      refine L_op rfl (X_pick (t := true) (v := (.bool (true))) rfl rfl ?_)
      refine L_op rfl (X_move (v := (.bool (true))) rfl ?_)
      refine L_gn (dj := 63) (t := true) rfl rfl rfl rfl ?_
      refine L_gn (dj := 63) (t := true) rfl rfl rfl rfl ?_
      refine L_gn (dj := 63) (t := true) rfl rfl rfl rfl ?_
      refine L_gn (dj := 63) (t := true) rfl rfl rfl rfl ?_
      refine L_op rfl (X_pick (t := true) (v := (.bool (true))) rfl rfl ?_)
      refine L_op rfl (X_move (v := (.bool (true))) rfl ?_)
      refine L_gn (dj := 69) (t := true) rfl rfl rfl rfl ?_
      refine L_gn (dj := 69) (t := true) rfl rfl rfl rfl ?_
      refine L_gn (dj := 69) (t := true) rfl rfl rfl rfl ?_
      refine L_op rfl (X_pick (t := true) (v := (.bool (true))) rfl rfl ?_)
      refine L_op rfl (X_move (v := (.bool (true))) rfl ?_)
      refine L_gn (dj := 74) (t := true) rfl rfl rfl rfl ?_
      refine L_gn (dj := 74) (t := true) rfl rfl rfl rfl ?_
      refine L_gn (dj := 74) (t := true) rfl rfl rfl rfl ?_
      refine L_gn (dj := 74) (t := true) rfl rfl rfl rfl ?_
      refine L_gn (dj := 74) (t := true) rfl rfl rfl rfl ?_
      refine L_gn (dj := 74) (t := true) rfl rfl rfl rfl ?_
      refine L_gn (dj := 74) (t := true) rfl rfl rfl rfl ?_
      refine L_gn (dj := 74) (t := true) rfl rfl rfl rfl ?_
      refine L_gn (dj := 74) (t := true) rfl rfl rfl rfl ?_
      refine L_gn (dj := 74) (t := true) rfl rfl rfl rfl ?_
      refine L_gn (dj := 74) (t := true) rfl rfl rfl rfl ?_
      refine L_gn (dj := 74) (t := true) rfl rfl rfl rfl ?_
      refine L_op rfl (X_pick (t := true) (v := (.bool (true))) rfl rfl ?_)
      refine L_nil ?_
      refine T_n ?_
      refine W_ct rfl ?_
      refine W_seq ?_
      refine W_reg ?_
      refine L_op rfl (X_fn (vs := []) en9 rfl (CT.mono (c_wakes _) ?_))
      rintro _ w12 ⟨rfl, hu12⟩
      have hz12 := hu12.size
      replace h0 := h0.ext hu12
      replace h1 := h1.ext hu12
      replace hU := hU.trans (Ext.upd hu12)
      replace hB1 := hB1.ext hu12
      replace hB2 := hB2.ext hu12
      replace hB3 := hB3.ext hu12
      refine L_op rfl (X_assign (v := (.bool (true))) rfl ?_)
      refine L_nil ?_
      refine T_n ?_
      refine W_ret ?_
      refine T_r ?_
      exact BQ_r (End_1 Try.results3 (v := .bool true) rfl ⟨rfl, hU.own hn0⟩)
     ·refine L_gy (dj := 54) rfl rfl rfl (X_load (p := (ptr b1 (9))) (v := .bool false) T4 rfl (hB1.at1 (by rw [hs11]; rfl)) ?_)
      refine L_op rfl (X_pick (t := false) (v := (.bool (false))) rfl rfl ?_)
      refine L_op rfl (X_move (v := (.bool (false))) rfl ?_)
      refine L_gy (dj := 58) rfl rfl rfl (X_fldP (b := b1) (o := 0) (r := 8) Fd29_1 rfl rfl ?_)
      refine L_gy (dj := 58) rfl rfl rfl (X_load (p := (ptr b1 (8))) (v := (.int .i64 (p.fz))) T3 rfl (hB1.at1 rfl) ?_)
      by_cases hc13 : (p.fz : Int) ≥ (0)
      ·refine L_gy (dj := 58) rfl rfl rfl (X_cmp (k := .i64) (a := p.fz) (b := 0) (r := true) rfl rfl rfl (decide_eq_true (p := ((0) : Int) ≤ ((p.fz) : Int)) (by omega)) ?_)
       refine L_op rfl (X_pick (t := false) (v := (.bool (true))) rfl rfl ?_)
       refine L_op rfl (X_move (v := (.bool (true))) rfl ?_)
       refine L_gn (dj := 63) (t := true) rfl rfl rfl rfl ?_
       refine L_gn (dj := 63) (t := true) rfl rfl rfl rfl ?_
       refine L_gn (dj := 63) (t := true) rfl rfl rfl rfl ?_
       refine L_gn (dj := 63) (t := true) rfl rfl rfl rfl ?_
       refine L_op rfl (X_pick (t := true) (v := (.bool (true))) rfl rfl ?_)
       refine L_op rfl (X_move (v := (.bool (true))) rfl ?_)
       refine L_gn (dj := 69) (t := true) rfl rfl rfl rfl ?_
       refine L_gn (dj := 69) (t := true) rfl rfl rfl rfl ?_
       refine L_gn (dj := 69) (t := true) rfl rfl rfl rfl ?_
       refine L_op rfl (X_pick (t := true) (v := (.bool (true))) rfl rfl ?_)
       refine L_op rfl (X_move (v := (.bool (true))) rfl ?_)
       refine L_gn (dj := 74) (t := true) rfl rfl rfl rfl ?_
       refine L_gn (dj := 74) (t := true) rfl rfl rfl rfl ?_
       refine L_gn (dj := 74) (t := true) rfl rfl rfl rfl ?_
       refine L_gn (dj := 74) (t := true) rfl rfl rfl rfl ?_
       refine L_gn (dj := 74) (t := true) rfl rfl rfl rfl ?_
       refine L_gn (dj := 74) (t := true) rfl rfl rfl rfl ?_
       refine L_gn (dj := 74) (t := true) rfl rfl rfl rfl ?_
       refine L_gn (dj := 74) (t := true) rfl rfl rfl rfl ?_
       refine L_gn (dj := 74) (t := true) rfl rfl rfl rfl ?_
       refine L_gn (dj := 74) (t := true) rfl rfl rfl rfl ?_
       refine L_gn (dj := 74) (t := true) rfl rfl rfl rfl ?_
       refine L_gn (dj := 74) (t := true) rfl rfl rfl rfl ?_
       refine L_op rfl (X_pick (t := true) (v := (.bool (true))) rfl rfl ?_)
       refine L_nil ?_
       refine T_n ?_
       refine W_ct rfl ?_
       refine W_seq ?_
       refine W_reg ?_
       refine L_op rfl (X_fn (vs := []) en9 rfl (CT.mono (c_wakes _) ?_))
       rintro _ w14 ⟨rfl, hu14⟩
       have hz14 := hu14.size
       replace h0 := h0.ext hu14
       replace h1 := h1.ext hu14
       replace hU := hU.trans (Ext.upd hu14)
       replace hB1 := hB1.ext hu14
       replace hB2 := hB2.ext hu14
       replace hB3 := hB3.ext hu14
       refine L_op rfl (X_assign (v := (.bool (true))) rfl ?_)
       refine L_nil ?_
       refine T_n ?_
       refine W_ret ?_
       refine T_r ?_
       exact BQ_r (End_1 Try.results3 (v := .bool true) rfl ⟨rfl, hU.own hn0⟩)
      ·refine L_gy (dj := 58) rfl rfl rfl (X_cmp (k := .i64) (a := p.fz) (b := 0) (r := false) rfl rfl rfl (decide_eq_false (p := ((0) : Int) ≤ ((p.fz) : Int)) (by omega)) ?_)
       refine L_op rfl (X_pick (t := false) (v := (.bool (false))) rfl rfl ?_)
       refine L_op rfl (X_move (v := (.bool (false))) rfl ?_)
       refine L_gy (dj := 63) rfl rfl rfl (X_loadA (p := (ptr b2 (0))) (xs := ptC q) A35 rfl hB2.atAll rfl ?_)
       refine L_gy (dj := 63) rfl rfl rfl (X_move (v := (.int .i64 (((m : Nat) : Int)))) rfl ?_)
       refine L_gy (dj := 63) rfl rfl rfl (X_fn (vs := [(.agg (ptC q).toArray), (.int .i64 (((m : Nat) : Int)))]) en8 rfl (CT.mono (c_rightR q ((m : Nat) : Int) _ hq) ?_))
       rintro _ w15 ⟨rfl, hu15⟩
       have hz15 := hu15.size
       replace h0 := h0.ext hu15
       replace h1 := h1.ext hu15
       replace hU := hU.trans (Ext.upd hu15)
       replace hB1 := hB1.ext hu15
       replace hB2 := hB2.ext hu15
       replace hB3 := hB3.ext hu15
       rcases Bool.eq_false_or_eq_true (decide (RightP q ((m : Nat) : Int))) with hc16 | hc16
       ·rw [hc16]
        refine L_gy (dj := 63) rfl rfl rfl (X_not (b := true) (r := false) rfl rfl ?_)
        refine L_op rfl (X_pick (t := false) (v := (.bool (false))) rfl rfl ?_)
        refine L_op rfl (X_move (v := (.bool (false))) rfl ?_)
        refine L_gy (dj := 69) rfl rfl rfl (X_fldP (b := b2) (o := 0) (r := 0) Fd35_0 rfl rfl ?_)
        refine L_gy (dj := 69) rfl rfl rfl (X_load (p := (ptr b2 (0))) (v := (.int .u8 (q.1))) T5 rfl (hB2.at1 rfl) ?_)
        by_cases hc17 : (q.1 : Int) = (0)
        ·refine L_gy (dj := 69) rfl rfl rfl (X_cmp (k := .u8) (a := q.1) (b := 0) (r := true) rfl rfl rfl (decide_eq_true (p := ((q.1) : Int) = ((0) : Int)) (by omega)) ?_)
         refine L_op rfl (X_pick (t := false) (v := (.bool (true))) rfl rfl ?_)
         refine L_op rfl (X_move (v := (.bool (true))) rfl ?_)
         refine L_gn (dj := 74) (t := true) rfl rfl rfl rfl ?_
         refine L_gn (dj := 74) (t := true) rfl rfl rfl rfl ?_
         refine L_gn (dj := 74) (t := true) rfl rfl rfl rfl ?_
         refine L_gn (dj := 74) (t := true) rfl rfl rfl rfl ?_
         refine L_gn (dj := 74) (t := true) rfl rfl rfl rfl ?_
         refine L_gn (dj := 74) (t := true) rfl rfl rfl rfl ?_
         refine L_gn (dj := 74) (t := true) rfl rfl rfl rfl ?_
         refine L_gn (dj := 74) (t := true) rfl rfl rfl rfl ?_
         refine L_gn (dj := 74) (t := true) rfl rfl rfl rfl ?_
         refine L_gn (dj := 74) (t := true) rfl rfl rfl rfl ?_
         refine L_gn (dj := 74) (t := true) rfl rfl rfl rfl ?_
         refine L_gn (dj := 74) (t := true) rfl rfl rfl rfl ?_
         refine L_op rfl (X_pick (t := true) (v := (.bool (true))) rfl rfl ?_)
         refine L_nil ?_
         refine T_n ?_
         refine W_ct rfl ?_
         refine W_seq ?_
         refine W_reg ?_
         refine L_op rfl (X_fn (vs := []) en9 rfl (CT.mono (c_wakes _) ?_))
         rintro _ w18 ⟨rfl, hu18⟩
         have hz18 := hu18.size
         replace h0 := h0.ext hu18
         replace h1 := h1.ext hu18
         replace hU := hU.trans (Ext.upd hu18)
         replace hB1 := hB1.ext hu18
         replace hB2 := hB2.ext hu18
         replace hB3 := hB3.ext hu18
         refine L_op rfl (X_assign (v := (.bool (true))) rfl ?_)
         refine L_nil ?_
         refine T_n ?_
         refine W_ret ?_
         refine T_r ?_
         exact BQ_r (End_1 Try.results3 (v := .bool true) rfl ⟨rfl, hU.own hn0⟩)
        ·refine L_gy (dj := 69) rfl rfl rfl (X_cmp (k := .u8) (a := q.1) (b := 0) (r := false) rfl rfl rfl (decide_eq_false (p := ((q.1) : Int) = ((0) : Int)) (by omega)) ?_)
         refine L_op rfl (X_pick (t := false) (v := (.bool (false))) rfl rfl ?_)
         refine L_op rfl (X_move (v := (.bool (false))) rfl ?_)
         refine L_gy (dj := 74) rfl rfl rfl (X_fldP (b := b1) (o := 0) (r := 0) Fd29_0 rfl rfl ?_)
         refine L_gy (dj := 74) rfl rfl rfl (X_idxAP (len := 2) (sz := 4) (b := b1) (o := 0) (k := .i64) (i := 0) (r := 0) Try.underlying27 Z26 rfl rfl (by omega) (by omega) rfl ?_)
         refine L_gy (dj := 74) rfl rfl rfl (X_fldP (b := b1) (o := 0) (r := 1) Fd26_1 rfl rfl ?_)
         refine L_gy (dj := 74) rfl rfl rfl (X_load (p := (ptr b1 (1))) (v := p.d0.cv) T23 rfl (hB1.at1 rfl) ?_)
         refine L_gy (dj := 74) rfl rfl rfl (X_len (v := p.d0.cv) (n := p.d0.cs.length) Try.underlying23 rfl h0.2.1.sv ?_)
         refine L_gy (dj := 74) rfl rfl rfl (X_fldP (b := b1) (o := 0) (r := 0) Fd29_0 rfl rfl ?_)
         refine L_gy (dj := 74) rfl rfl rfl (X_idxAP (len := 2) (sz := 4) (b := b1) (o := 0) (k := .i64) (i := 1) (r := 4) Try.underlying27 Z26 rfl rfl (by omega) (by omega) rfl ?_)
         refine L_gy (dj := 74) rfl rfl rfl (X_fldP (b := b1) (o := 4) (r := 5) Fd26_1 rfl rfl ?_)
         refine L_gy (dj := 74) rfl rfl rfl (X_load (p := (ptr b1 (5))) (v := p.d1.cv) T23 rfl (hB1.at1 rfl) ?_)
         refine L_gy (dj := 74) rfl rfl rfl (X_len (v := p.d1.cv) (n := p.d1.cs.length) Try.underlying23 rfl h1.2.1.sv ?_)
         refine L_gy (dj := 74) rfl rfl rfl (X_max (k := .i64) (a := ((p.d0.cs.length : Nat) : Int)) (b := ((p.d1.cs.length : Nat) : Int)) (r := (max (((p.d0.cs.length : Nat) : Int)) (((p.d1.cs.length : Nat) : Int)))) rfl rfl (by omega) ?_)
         by_cases hc19 : ((max (((p.d0.cs.length : Nat) : Int)) (((p.d1.cs.length : Nat) : Int))) : Int) > (64)
         ·refine L_gy (dj := 74) rfl rfl rfl (X_cmp (k := .i64) (a := (max (((p.d0.cs.length : Nat) : Int)) (((p.d1.cs.length : Nat) : Int)))) (b := 64) (r := true) rfl rfl rfl (decide_eq_true (p := ((64) : Int) < (((max (((p.d0.cs.length : Nat) : Int)) (((p.d1.cs.length : Nat) : Int)))) : Int)) (by omega)) ?_)
          refine L_op rfl (X_pick (t := false) (v := (.bool (true))) rfl rfl ?_)
          refine L_nil ?_
          refine T_n ?_
          refine W_ct rfl ?_
          refine W_seq ?_
          refine W_reg ?_
          refine L_op rfl (X_fn (vs := []) en9 rfl (CT.mono (c_wakes _) ?_))
          rintro _ w20 ⟨rfl, hu20⟩
          have hz20 := hu20.size
          replace h0 := h0.ext hu20
          replace h1 := h1.ext hu20
          replace hU := hU.trans (Ext.upd hu20)
          replace hB1 := hB1.ext hu20
          replace hB2 := hB2.ext hu20
          replace hB3 := hB3.ext hu20
          refine L_op rfl (X_assign (v := (.bool (true))) rfl ?_)
          refine L_nil ?_
          refine T_n ?_
          refine W_ret ?_
          refine T_r ?_
          exact BQ_r (End_1 Try.results3 (v := .bool true) rfl ⟨rfl, hU.own hn0⟩)
         ·refine L_gy (dj := 74) rfl rfl rfl (X_cmp (k := .i64) (a := (max (((p.d0.cs.length : Nat) : Int)) (((p.d1.cs.length : Nat) : Int)))) (b := 64) (r := false) rfl rfl rfl (decide_eq_false (p := ((64) : Int) < (((max (((p.d0.cs.length : Nat) : Int)) (((p.d1.cs.length : Nat) : Int)))) : Int)) (by omega)) ?_)
          refine L_op rfl (X_pick (t := false) (v := (.bool (false))) rfl rfl ?_)
          refine L_nil ?_
          refine T_n ?_
          refine W_cf rfl ?_
          refine W_skip ?_
          refine T_n ?_
          refine W_seq ?_
          refine W_reg ?_
          refine L_op rfl (X_loadA (p := (ptr b1 (0))) (xs := [p.d0.pv, p.d0.cv, p.d0.bv, (.bool (p.d0.off)), p.d1.pv, p.d1.cv, p.d1.bv, (.bool (p.d1.off)), (.int .i64 (p.fz)), (.bool (p.dn))]) A29 rfl hB1.atAll rfl ?_)
          refine L_op rfl (X_loadA (p := (ptr b2 (0))) (xs := ptC q) A35 rfl hB2.atAll rfl ?_)
          refine L_op rfl (X_loadA (p := (ptr b3 (0))) (xs := ((pg.1).map byteV)) A37 rfl hB3.atAll (by rw [List.length_map]; exact pg.2) ?_)
          have hMA : p.da.a.May := hgA.1 hc5
          have hMB : p.da.b.May := hgB.1 hc7
          have hdn : p.da.dn = false := hs11
          have hfn : p.da.fz < 0 := by show p.fz < 0; omega
          have hRt := of_decide_eq_true hc16
          have hnoff : ¬ (p.da.a.off = true ∧ p.da.b.off = true) := fun h_ => by have h2_ : p.d1.off = true := h_.2; rw [hs9] at h2_; cases h2_
          have hsA := may_sz hMA; have hsB := may_sz hMB
          have hcA : p.da.a.cs.length ≤ 64 := by show p.d0.cs.length ≤ 64; omega
          have hcB : p.da.b.cs.length ≤ 64 := by show p.d1.cs.length ≤ 64; omega
          have hmA : m ≤ p.da.a.ps.length := by show m ≤ p.d0.ps.length; omega
          have hmB : m ≤ p.da.b.ps.length := by show m ≤ p.d1.ps.length; omega
          have hwl := write_law (pg := pg) hdn hfn hnoff hMA hMB (by omega) (by omega) hmA hmB hRt
          have hasl := (asQ_len q).1
          have hinm := asQ_in hRt
          have hinA : ∀ a ∈ asQ q, 0 ≤ a ∧ a < (p.da.a.ps.length : Int) := fun a ha => ⟨(hinm a ha).1, by have := (hinm a ha).2; omega⟩
          have hinB : ∀ a ∈ asQ q, 0 ≤ a ∧ a < (p.da.b.ps.length : Int) := fun a ha => ⟨(hinm a ha).1, by have := (hinm a ha).2; omega⟩
          obtain ⟨sq, hsq⟩ : ∃ n, n = w15.heap.size := ⟨_, rfl⟩
          have hcr_ := c_writeM q pg p w15 (by omega) 0 n0 0 n0 (by omega) (by omega) h0 h1 hq (hsA.mono (by decide)) (hsB.mono (by decide))
          refine L_op rfl (X_fn (vs := [(.agg ([p.d0.pv, p.d0.cv, p.d0.bv, (.bool (p.d0.off)), p.d1.pv, p.d1.cv, p.d1.bv, (.bool (p.d1.off)), (.int .i64 (p.fz)), (.bool (p.dn))]).toArray), (.agg (ptC q).toArray), (.agg (((pg.1).map byteV)).toArray)]) en10 rfl ?_)
          refine CT.mono hcr_ ?_
          clear hcr_
          rintro _ w21 ⟨pq, l0q, u0q, l1q, u1q, rfl, hq0, hq1, hiq0, hiq1, hdaq, hu21⟩
          have hz21 := hu21.size
          obtain ⟨eq, heq⟩ : ∃ z, z = (writeD p.da q pg).2 := ⟨_, rfl⟩
          rw [← heq]
          obtain ⟨uq, huq⟩ : ∃ n, n = w21.heap.size := ⟨_, rfl⟩
          rw [← hsq, ← huq] at hiq0 hiq1
          replace h0 := h0.ext hu21
          replace h1 := h1.ext hu21
          replace hU := hU.trans (Ext.upd hu21)
          replace hB1 := hB1.ext hu21
          replace hB2 := hB2.ext hu21
          replace hB3 := hB3.ext hu21
          rw [hwl] at heq hdaq
          replace heq : eq = 0 := heq
          subst heq
          replace hdaq : pq.da = wroteD pg q p.da := hdaq
          have hoA : pq.d0.da = addW pg (asQ q) p.d0.da := congrArg PD.a hdaq
          have hoB : pq.d1.da = addW pg (asQ q) p.d1.da := congrArg PD.b hdaq
          have hof : pq.fz = p.fz := congrArg PD.fz hdaq
          have hod : pq.dn = p.dn := congrArg PD.dn hdaq
          have hNA : pq.da.a.May := by rw [hdaq]; exact add_may hMA (by omega) hinA
          have hNB : pq.da.b.May := by rw [hdaq]; exact add_may hMB (by omega) hinB
          refine L_op rfl (X_move (v := (.tuple #[(.agg #[pq.d0.pv, pq.d0.cv, pq.d0.bv, (.bool (pq.d0.off)), pq.d1.pv, pq.d1.cv, pq.d1.bv, (.bool (pq.d1.off)), (.int .i64 (pq.fz)), (.bool (pq.dn))]), (.int .i64 (0))])) rfl ?_)
          refine L_op rfl (X_extract (l := [(.agg #[pq.d0.pv, pq.d0.cv, pq.d0.bv, (.bool (pq.d0.off)), pq.d1.pv, pq.d1.cv, pq.d1.bv, (.bool (pq.d1.off)), (.int .i64 (pq.fz)), (.bool (pq.dn))]), (.int .i64 (0))]) (v := (.agg #[pq.d0.pv, pq.d0.cv, pq.d0.bv, (.bool (pq.d0.off)), pq.d1.pv, pq.d1.cv, pq.d1.bv, (.bool (pq.d1.off)), (.int .i64 (pq.fz)), (.bool (pq.dn))])) rfl rfl ?_)
          refine L_op rfl (X_extract (l := [(.agg #[pq.d0.pv, pq.d0.cv, pq.d0.bv, (.bool (pq.d0.off)), pq.d1.pv, pq.d1.cv, pq.d1.bv, (.bool (pq.d1.off)), (.int .i64 (pq.fz)), (.bool (pq.dn))]), (.int .i64 (0))]) (v := (.int .i64 (0))) rfl rfl ?_)
          refine L_op rfl (X_alloc (z := (.agg #[(.slice none 0 0), (.slice none 0 0), (.slice none 0 0), (.bool (false)), (.slice none 0 0), (.slice none 0 0), (.slice none 0 0), (.bool (false)), (.int .i64 (0)), (.bool (false))])) (c := #[(.slice none 0 0), (.slice none 0 0), (.slice none 0 0), (.bool (false)), (.slice none 0 0), (.slice none 0 0), (.slice none 0 0), (.bool (false)), (.int .i64 (0)), (.bool (false))]) Zv29 rfl ?_)
          intro b22 w22 hn22
          have hbn22 := hn22.num; have hbs22 := hn22.size
          replace h0 := h0.ext hn22.ext
          replace h1 := h1.ext hn22.ext
          replace hU := hU.trans (Ext.upd hn22.ext)
          replace hB1 := hB1.ext hn22.ext
          replace hB2 := hB2.ext hn22.ext
          replace hB3 := hB3.ext hn22.ext
          replace hq0 := hq0.ext hn22.ext
          replace hq1 := hq1.ext hn22.ext
          have hB22 := hn22.blk
          refine L_op0 (X_storeW (b := b22) (ys := [pq.d0.pv, pq.d0.cv, pq.d0.bv, (.bool (pq.d0.off)), pq.d1.pv, pq.d1.cv, pq.d1.bv, (.bool (pq.d1.off)), (.int .i64 (pq.fz)), (.bool (pq.dn))]) A29 rfl rfl (List.forall_mem_cons.2 ⟨(hq0.1.sv.one), (List.forall_mem_cons.2 ⟨(hq0.2.1.sv.one), (List.forall_mem_cons.2 ⟨(hq0.2.2.sv.one), (List.forall_mem_cons.2 ⟨rfl, (List.forall_mem_cons.2 ⟨(hq1.1.sv.one), (List.forall_mem_cons.2 ⟨(hq1.2.1.sv.one), (List.forall_mem_cons.2 ⟨(hq1.2.2.sv.one), (List.forall_mem_cons.2 ⟨rfl, (List.forall_mem_cons.2 ⟨rfl, (List.forall_mem_cons.2 ⟨rfl, (fun _ h => by cases h)⟩)⟩)⟩)⟩)⟩)⟩)⟩)⟩)⟩)⟩) rfl hB22 rfl ?_)
          intro w23 hu23 hb23
          have hz23 := hu23.size
          replace h0 := h0.upd hu23 fun i h1 h2 h => by have h : i = b22 := h; omega
          replace h1 := h1.upd hu23 fun i h1 h2 h => by have h : i = b22 := h; omega
          replace hU := hU.trans (hu23.mono fun i _ h => by have h : i = b22 := h; show n0 ≤ i; omega)
          replace hB1 := hB1.upd hu23 fun h => by have h : b1 = b22 := h; omega
          replace hB2 := hB2.upd hu23 fun h => by have h : b2 = b22 := h; omega
          replace hB3 := hB3.upd hu23 fun h => by have h : b3 = b22 := h; omega
          replace hq0 := hq0.upd hu23 fun i h1 h2 h => by have h : i = b22 := h; omega
          replace hq1 := hq1.upd hu23 fun i h1 h2 h => by have h : i = b22 := h; omega
          replace hB22 : Blk w23 b22 #[pq.d0.pv, pq.d0.cv, pq.d0.bv, (.bool (pq.d0.off)), pq.d1.pv, pq.d1.cv, pq.d1.bv, (.bool (pq.d1.off)), (.int .i64 (pq.fz)), (.bool (pq.dn))] 29 := hb23
          refine L_op rfl (X_assign (v := (.int .i64 (0))) rfl ?_)
          refine L_nil ?_
          refine T_n ?_
          refine W_seq ?_
          refine W_reg ?_
          refine L_op rfl (X_loadA (p := (ptr b22 (0))) (xs := [pq.d0.pv, pq.d0.cv, pq.d0.bv, (.bool (pq.d0.off)), pq.d1.pv, pq.d1.cv, pq.d1.bv, (.bool (pq.d1.off)), (.int .i64 (pq.fz)), (.bool (pq.dn))]) A29 rfl hB22.atAll rfl ?_)
          have hfl : flushD pq.da = (flushedD pq.da, 0) := flush_law (by rw [hdaq]; exact hdn) (by rw [hdaq]; exact hfn) (by rw [hdaq]; show ¬ ((addW pg (asQ q) p.da.a).off = true ∧ (addW pg (asQ q) p.da.b).off = true); rw [addW_o, addW_o]; exact hnoff) hNA hNB
          obtain ⟨sr, hsr⟩ : ∃ n, n = w23.heap.size := ⟨_, rfl⟩
          have hcr_ := c_flushM pq w23 (by omega) l0q u0q l1q u1q (by omega) (by omega) hq0 hq1 ((may_sz hNA).mono (by decide)) ((may_sz hNB).mono (by decide))
          refine L_op rfl (X_fn (vs := [(.agg ([pq.d0.pv, pq.d0.cv, pq.d0.bv, (.bool (pq.d0.off)), pq.d1.pv, pq.d1.cv, pq.d1.bv, (.bool (pq.d1.off)), (.int .i64 (pq.fz)), (.bool (pq.dn))]).toArray)]) en11 rfl ?_)
          refine CT.mono hcr_ ?_
          clear hcr_
          rintro _ w24 ⟨pr, l0r, u0r, l1r, u1r, rfl, hr0, hr1, hir0, hir1, hdar, hu24⟩
          have hz24 := hu24.size
          obtain ⟨er, her⟩ : ∃ z, z = (flushD pq.da).2 := ⟨_, rfl⟩
          rw [← her]
          obtain ⟨ur, hur⟩ : ∃ n, n = w24.heap.size := ⟨_, rfl⟩
          rw [← hsr, ← hur] at hir0 hir1
          replace h0 := h0.ext hu24
          replace h1 := h1.ext hu24
          replace hU := hU.trans (Ext.upd hu24)
          replace hB1 := hB1.ext hu24
          replace hB2 := hB2.ext hu24
          replace hB3 := hB3.ext hu24
          replace hq0 := hq0.ext hu24
          replace hq1 := hq1.ext hu24
          replace hB22 := hB22.ext hu24
          rw [hfl] at her hdar
          replace her : er = 0 := her
          subst her
          replace hdar : pr.da = flushedD pq.da := hdar
          have hfA : pr.d0.da = flA pq.d0.da := congrArg PD.a hdar
          have hfB : pr.d1.da = flA pq.d1.da := congrArg PD.b hdar
          refine L_op rfl (X_move (v := (.tuple #[(.agg #[pr.d0.pv, pr.d0.cv, pr.d0.bv, (.bool (pr.d0.off)), pr.d1.pv, pr.d1.cv, pr.d1.bv, (.bool (pr.d1.off)), (.int .i64 (pr.fz)), (.bool (pr.dn))]), (.int .i64 (0))])) rfl ?_)
          refine L_op rfl (X_extract (l := [(.agg #[pr.d0.pv, pr.d0.cv, pr.d0.bv, (.bool (pr.d0.off)), pr.d1.pv, pr.d1.cv, pr.d1.bv, (.bool (pr.d1.off)), (.int .i64 (pr.fz)), (.bool (pr.dn))]), (.int .i64 (0))]) (v := (.agg #[pr.d0.pv, pr.d0.cv, pr.d0.bv, (.bool (pr.d0.off)), pr.d1.pv, pr.d1.cv, pr.d1.bv, (.bool (pr.d1.off)), (.int .i64 (pr.fz)), (.bool (pr.dn))])) rfl rfl ?_)
          refine L_op rfl (X_extract (l := [(.agg #[pr.d0.pv, pr.d0.cv, pr.d0.bv, (.bool (pr.d0.off)), pr.d1.pv, pr.d1.cv, pr.d1.bv, (.bool (pr.d1.off)), (.int .i64 (pr.fz)), (.bool (pr.dn))]), (.int .i64 (0))]) (v := (.int .i64 (0))) rfl rfl ?_)
          refine L_op rfl (X_alloc (z := (.agg #[(.slice none 0 0), (.slice none 0 0), (.slice none 0 0), (.bool (false)), (.slice none 0 0), (.slice none 0 0), (.slice none 0 0), (.bool (false)), (.int .i64 (0)), (.bool (false))])) (c := #[(.slice none 0 0), (.slice none 0 0), (.slice none 0 0), (.bool (false)), (.slice none 0 0), (.slice none 0 0), (.slice none 0 0), (.bool (false)), (.int .i64 (0)), (.bool (false))]) Zv29 rfl ?_)
          intro b25 w25 hn25
          have hbn25 := hn25.num; have hbs25 := hn25.size
          replace h0 := h0.ext hn25.ext
          replace h1 := h1.ext hn25.ext
          replace hU := hU.trans (Ext.upd hn25.ext)
          replace hB1 := hB1.ext hn25.ext
          replace hB2 := hB2.ext hn25.ext
          replace hB3 := hB3.ext hn25.ext
          replace hq0 := hq0.ext hn25.ext
          replace hq1 := hq1.ext hn25.ext
          replace hB22 := hB22.ext hn25.ext
          replace hr0 := hr0.ext hn25.ext
          replace hr1 := hr1.ext hn25.ext
          have hB25 := hn25.blk
          refine L_op0 (X_storeW (b := b25) (ys := [pr.d0.pv, pr.d0.cv, pr.d0.bv, (.bool (pr.d0.off)), pr.d1.pv, pr.d1.cv, pr.d1.bv, (.bool (pr.d1.off)), (.int .i64 (pr.fz)), (.bool (pr.dn))]) A29 rfl rfl (List.forall_mem_cons.2 ⟨(hr0.1.sv.one), (List.forall_mem_cons.2 ⟨(hr0.2.1.sv.one), (List.forall_mem_cons.2 ⟨(hr0.2.2.sv.one), (List.forall_mem_cons.2 ⟨rfl, (List.forall_mem_cons.2 ⟨(hr1.1.sv.one), (List.forall_mem_cons.2 ⟨(hr1.2.1.sv.one), (List.forall_mem_cons.2 ⟨(hr1.2.2.sv.one), (List.forall_mem_cons.2 ⟨rfl, (List.forall_mem_cons.2 ⟨rfl, (List.forall_mem_cons.2 ⟨rfl, (fun _ h => by cases h)⟩)⟩)⟩)⟩)⟩)⟩)⟩)⟩)⟩)⟩) rfl hB25 rfl ?_)
          intro w26 hu26 hb26
          have hz26 := hu26.size
          replace h0 := h0.upd hu26 fun i h1 h2 h => by have h : i = b25 := h; omega
          replace h1 := h1.upd hu26 fun i h1 h2 h => by have h : i = b25 := h; omega
          replace hU := hU.trans (hu26.mono fun i _ h => by have h : i = b25 := h; show n0 ≤ i; omega)
          replace hB1 := hB1.upd hu26 fun h => by have h : b1 = b25 := h; omega
          replace hB2 := hB2.upd hu26 fun h => by have h : b2 = b25 := h; omega
          replace hB3 := hB3.upd hu26 fun h => by have h : b3 = b25 := h; omega
          replace hq0 := hq0.upd hu26 fun i h1 h2 h => by have h : i = b25 := h; omega
          replace hq1 := hq1.upd hu26 fun i h1 h2 h => by have h : i = b25 := h; omega
          replace hB22 := hB22.upd hu26 fun h => by have h : b22 = b25 := h; omega
          replace hr0 := hr0.upd hu26 fun i h1 h2 h => by have h : i = b25 := h; omega
          replace hr1 := hr1.upd hu26 fun i h1 h2 h => by have h : i = b25 := h; omega
          replace hB25 : Blk w26 b25 #[pr.d0.pv, pr.d0.cv, pr.d0.bv, (.bool (pr.d0.off)), pr.d1.pv, pr.d1.cv, pr.d1.bv, (.bool (pr.d1.off)), (.int .i64 (pr.fz)), (.bool (pr.dn))] 29 := hb26
          refine L_op rfl (X_assign (v := (.int .i64 (0))) rfl ?_)
          refine L_nil ?_
          refine T_n ?_
          refine W_seq ?_
          refine W_reg ?_
          refine L_op rfl (X_loadA (p := (ptr b2 (0))) (xs := ptC q) A35 rfl hB2.atAll rfl ?_)
          obtain ⟨sC, hsC⟩ : ∃ n, n = w26.heap.size := ⟨_, rfl⟩
          have hcr_ := c_copiesR q w26 hq
          refine L_op rfl (X_fn (vs := [(.agg (ptC q).toArray)]) en12 rfl ?_)
          refine CT.mono hcr_ ?_
          clear hcr_
          rintro vC w27 ⟨hC, hu27⟩
          have hz27 := hu27.size
          obtain ⟨uC, huC⟩ : ∃ n, n = w27.heap.size := ⟨_, rfl⟩
          rw [← hsC, ← huC] at hC
          replace h0 := h0.ext hu27
          replace h1 := h1.ext hu27
          replace hU := hU.trans (Ext.upd hu27)
          replace hB1 := hB1.ext hu27
          replace hB2 := hB2.ext hu27
          replace hB3 := hB3.ext hu27
          replace hq0 := hq0.ext hu27
          replace hq1 := hq1.ext hu27
          replace hB22 := hB22.ext hu27
          replace hr0 := hr0.ext hu27
          replace hr1 := hr1.ext hu27
          replace hB25 := hB25.ext hu27
          have hCsv := hC.sv
          have hcl4 := copL_len q
          refine L_op rfl (X_assign (v := vC) rfl ?_)
          refine L_nil ?_
          refine T_n ?_
          refine W_seq ?_
          refine W_seq ?_
          refine W_reg ?_
          refine L_op rfl (X_move (v := (.int .i64 (0))) rfl ?_)
          refine L_op rfl (X_cmp (k := .i64) (a := 0) (b := 0) (r := false) rfl rfl rfl rfl ?_)
          refine L_op rfl (X_move (v := (.bool (false))) rfl ?_)
          refine L_gy (dj := 105) rfl rfl rfl (X_move (v := (.int .i64 (0))) rfl ?_)
          refine L_gy (dj := 105) rfl rfl rfl (X_cmp (k := .i64) (a := 0) (b := 0) (r := false) rfl rfl rfl rfl ?_)
          refine L_op rfl (X_pick (t := false) (v := (.bool (false))) rfl rfl ?_)
          refine L_nil ?_
          refine T_n ?_
          refine W_cf rfl ?_
          refine W_skip ?_
          refine T_n ?_
          refine W_seq ?_
          refine W_seq ?_
          refine W_reg ?_
          refine L_op rfl (X_assign (v := (.int .i64 (0))) rfl ?_)
          refine L_nil ?_
          refine T_n ?_
          refine W_block ?_
          obtain ⟨nL, hnL⟩ : ∃ n, n = w27.heap.size := ⟨_, rfl⟩
          have hltL_hB1 := hB1.lt
          have hltL_hB2 := hB2.lt
          have hltL_hB3 := hB3.lt
          have hltL_hB22 := hB22.lt
          have hltL_hB25 := hB25.lt
          refine W_loop (α := Nat) [6, 13, 14, 15, 16, 17, 18, 109, 110, 111, 112, 113, 114, 115, 116, 117, 118, 119, 120, 121, 122, 123, 124, 125, 126, 127, 128, 129, 130, 131, 132, 133, 134, 135, 136, 137, 138, 139, 140, 141, 142, 143, 144, 145, 146, 147, 148, 149, 150, 151, 152, 153, 154, 155, 156, 157, 158, 159, 160, 161, 162, 163, 164, 165, 166, 167, 168, 169, 170, 171, 172, 173, 174, 175, 176, 177, 178, 179, 180, 181, 182, 183, 184, 185, 186, 187, 188, 189, 190, 191, 192, 193, 194, 195, 196, 197] (fun i => [(13, (.int .i64 (((i : Nat) : Int))))]) (fun i w_ => i ≤ (copL q).length ∧ Blk w_ b1 #[p.d0.pv, p.d0.cv, p.d0.bv, (.bool (p.d0.off)), p.d1.pv, p.d1.cv, p.d1.bv, (.bool (p.d1.off)), (.int .i64 (p.fz)), (.bool (p.dn))] 29 ∧ Blk w_ b3 (pg.1.map byteV).toArray 37 ∧ Blk w_ b22 #[pq.d0.pv, pq.d0.cv, pq.d0.bv, (.bool (pq.d0.off)), pq.d1.pv, pq.d1.cv, pq.d1.bv, (.bool (pq.d1.off)), (.int .i64 (pq.fz)), (.bool (pq.dn))] 29 ∧ Blk w_ b25 #[pr.d0.pv, pr.d0.cv, pr.d0.bv, (.bool (pr.d0.off)), pr.d1.pv, pr.d1.cv, pr.d1.bv, (.bool (pr.d1.off)), (.int .i64 (pr.fz)), (.bool (pr.dn))] 29 ∧ p.d0.Rd w_ 0 n0 ∧ p.d1.Rd w_ 0 n0 ∧ pq.d0.Rd w_ l0q u0q ∧ pq.d1.Rd w_ l1q u1q ∧ pr.d0.Rd w_ l0r u0r ∧ pr.d1.Rd w_ l1r u1r ∧ NRd LC w_ sC uC vC (copL q) ∧ Upd (fun i => n0 ≤ i) w w_ ∧ nL ≤ w_.heap.size) (fun i => (copL q).length - i) ⟨rfl, 0, ⟨Nat.zero_le _, hB1, hB3, hB22, hB25, h0, h1, hq0, hq1, hr0, hr1, hC, hU, by omega⟩, Out.refl _ _, ⟨rfl, trivial⟩⟩ ?_
          rintro i w28 _ ⟨hil, hB1, hB3, hB22, hB25, h0, h1, hq0, hq1, hr0, hr1, hC, hU, hnLw⟩
          have hsz_ := hU.size
          refine W_seq ?_
          refine W_seq ?_
          refine W_reg ?_
          refine L_op rfl (X_move (v := (.int .i64 (((i : Nat) : Int)))) rfl ?_)
          refine L_op rfl (X_move (v := vC) rfl ?_)
          refine L_op rfl (X_len (v := vC) (n := (copL q).length) Try.underlying45 rfl hC.sv ?_)
          by_cases hc29 : (((i : Nat) : Int) : Int) < ((((copL q).length : Nat) : Int))
          ·refine L_op rfl (X_cmp (k := .i64) (a := ((i : Nat) : Int)) (b := (((copL q).length : Nat) : Int)) (r := true) rfl rfl rfl (decide_eq_true (p := ((((i : Nat) : Int)) : Int) < (((((copL q).length : Nat) : Int)) : Int)) (by omega)) ?_)
           have hi : i < (copL q).length := by omega
           obtain ⟨⟨di, a⟩, hat⟩ : ∃ e, (copL q)[i]? = some e := ⟨_, List.getElem?_eq_getElem hi⟩
           obtain ⟨hdi, ha0, ha1⟩ := copL_in hq (List.mem_of_getElem? hat)
           refine L_nil ?_
           refine T_n ?_
           refine W_ct rfl ?_
           refine W_skip ?_
           refine T_n ?_
           refine W_seq ?_
           refine W_block ?_
           refine W_seq ?_
           refine W_reg ?_
           refine L_op rfl (X_move (v := vC) rfl ?_)
           refine L_op rfl (X_move (v := (.int .i64 (((i : Nat) : Int)))) rfl ?_)
           refine L_op rfl (X_idx (v := vC) (n := (copL q).length) (k := .i64) (i := ((i : Nat) : Int)) S45 rfl hC.sv rfl (by omega) (by omega) ?_)
           refine L_op rfl (X_idxAS (len := 2) (sz := 1) (v := vC) (o := (((i : Nat) : Int) : Int).toNat * 2) (k := .i64) (i := 0) (r := (((i : Nat) : Int) : Int).toNat * 2 + 0) Try.underlying47 Z3 rfl hC.sv (by omega) rfl (by omega) (by omega) rfl ?_)
           refine L_op rfl (X_load (p := (pof vC ((((i : Nat) : Int) : Int).toNat * 2 + 0))) (v := .int .i64 (di)) T3 rfl (cat0 hC (k := i) (by omega) hat) ?_)
           refine L_op rfl (X_assign (v := (.int .i64 (di))) rfl ?_)
           refine L_nil ?_
           refine T_n ?_
           refine W_seq ?_
           refine W_seq ?_
           refine W_reg ?_
           rcases hdi with rfl | rfl
           ·refine L_op rfl (X_move (v := (.int .i64 (0))) rfl ?_)
            refine L_op rfl (X_fldP (b := b1) (o := 0) (r := 0) Fd29_0 rfl rfl ?_)
            refine L_op rfl (X_idxAP (len := 2) (sz := 4) (b := b1) (o := 0) (k := .i64) (i := 0) (r := 0) Try.underlying27 Z26 rfl rfl (by omega) (by omega) rfl ?_)
            refine L_op rfl (X_fldP (b := b1) (o := 0) (r := 3) Fd26_3 rfl rfl ?_)
            refine L_op rfl (X_load (p := (ptr b1 (3))) (v := .bool true) T4 rfl (hB1.at1 (by rw [hs8]; rfl)) ?_)
            refine L_nil ?_
            refine T_n ?_
            refine W_ct rfl ?_
            refine W_seq ?_
            refine W_seq ?_
            refine W_draw 19 [[], [], [0, 1], [0, 1, 2], [], [], [4, 5], [4, 5, 6], [0, 1, 2, 3, 4, 5, 6, 7], [0, 1, 2, 3, 4, 5, 6, 7, 8], [0, 1, 2, 3, 4, 5, 6, 7, 8, 9], [0, 1, 2, 3, 4, 5, 6, 7, 8, 9, 10], [0, 1, 2, 3, 4, 5, 6, 7, 8, 9, 10], [0, 1, 2, 3, 4, 5, 6, 7, 8, 9, 10, 11, 12], [0, 1, 2, 3, 4, 5, 6, 7, 8, 9, 10, 11, 12, 13], [0, 1, 2, 3, 4, 5, 6, 7, 8, 9, 10], [0, 1, 2, 3, 4, 5, 6, 7, 8, 9, 10], [0, 1, 2, 3, 4, 5, 6, 7, 8, 9, 10, 15, 16], [0, 1, 2, 3, 4, 5, 6, 7, 8, 9, 10, 15, 16, 17], [0, 1, 2, 3, 4, 5, 6, 7, 8, 9, 10, 11, 12, 13, 14, 15, 16, 17, 18], [0, 1, 2, 3, 4, 5, 6, 7, 8, 9, 10, 11, 12, 13, 14, 15, 16, 17, 18, 19], [0, 1, 2, 3, 4, 5, 6, 7, 8, 9, 10, 11, 12, 13, 14, 15, 16, 17, 18, 19, 20]] mixed (by kernel_rfl) ?_
            refine ⟨.det (fun val => (.int .i64 (0))), ⟨fun _ _ hv => rfl, fun _ _ _ _ _ => trivial⟩, fun val h_ W hx he => ⟨trivial, ?_⟩, ?_⟩
            ·exact X_move (v := (.int .i64 (0))) rfl ⟨Upd.refl _ _, rfl⟩
            refine ⟨.det (fun val => (ptr b22 (0))), ⟨fun _ _ hv => rfl, fun _ _ _ _ _ => trivial⟩, fun val h_ W hx he => ⟨trivial, ?_⟩, ?_⟩
            ·exact X_fldP (b := b22) (o := 0) (r := 0) Fd29_0 rfl rfl ⟨Upd.refl _ _, rfl⟩
            refine ⟨.det (fun val => (ptr b22 (0))), ⟨fun _ _ hv => rfl, fun _ _ _ _ _ => trivial⟩, fun val h_ W hx he => ⟨trivial, ?_⟩, ?_⟩
            ·exact X_idxAP (len := 2) (sz := 4) (b := b22) (o := 0) (k := .i64) (i := 0) (r := 0) Try.underlying27 Z26 rfl rfl (by omega) (by omega) rfl ⟨Upd.refl _ _, rfl⟩
            refine ⟨.det (fun val => (.agg #[pq.d0.pv, pq.d0.cv, pq.d0.bv, (.bool (pq.d0.off))])), ⟨fun _ _ hv => rfl, fun _ _ _ _ _ => trivial⟩, fun val h_ W hx he => ⟨trivial, ?_⟩, ?_⟩
            ·replace hx := (Upd.drew _ _).trans hx
             replace hB22 := hB22.ext hx
             refine id (X_loadA (p := (ptr b22 (0))) (xs := [pq.d0.pv, pq.d0.cv, pq.d0.bv, (.bool (pq.d0.off))]) A26 rfl (hB22.part (o := 0) (n := 4) rfl) rfl ?_)
             exact ⟨Upd.refl _ _, rfl⟩
            refine ⟨.det (fun val => (.int .i64 (0))), ⟨fun _ _ hv => rfl, fun _ _ _ _ _ => trivial⟩, fun val h_ W hx he => ⟨trivial, ?_⟩, ?_⟩
            ·exact X_move (v := (.int .i64 (0))) rfl ⟨Upd.refl _ _, rfl⟩
            refine ⟨.det (fun val => (ptr b1 (0))), ⟨fun _ _ hv => rfl, fun _ _ _ _ _ => trivial⟩, fun val h_ W hx he => ⟨trivial, ?_⟩, ?_⟩
            ·exact X_fldP (b := b1) (o := 0) (r := 0) Fd29_0 rfl rfl ⟨Upd.refl _ _, rfl⟩
            refine ⟨.det (fun val => (ptr b1 (0))), ⟨fun _ _ hv => rfl, fun _ _ _ _ _ => trivial⟩, fun val h_ W hx he => ⟨trivial, ?_⟩, ?_⟩
            ·exact X_idxAP (len := 2) (sz := 4) (b := b1) (o := 0) (k := .i64) (i := 0) (r := 0) Try.underlying27 Z26 rfl rfl (by omega) (by omega) rfl ⟨Upd.refl _ _, rfl⟩
            refine ⟨.det (fun val => (.agg #[p.d0.pv, p.d0.cv, p.d0.bv, (.bool (p.d0.off))])), ⟨fun _ _ hv => rfl, fun _ _ _ _ _ => trivial⟩, fun val h_ W hx he => ⟨trivial, ?_⟩, ?_⟩
            ·replace hx := (Upd.drew _ _).trans hx
             replace hB1 := hB1.ext hx
             refine id (X_loadA (p := (ptr b1 (0))) (xs := [p.d0.pv, p.d0.cv, p.d0.bv, (.bool (p.d0.off))]) A26 rfl (hB1.part (o := 0) (n := 4) rfl) rfl ?_)
             exact ⟨Upd.refl _ _, rfl⟩
            refine ⟨.det (fun val => (.bool (true))), ⟨fun _ _ hv => rfl, fun _ _ _ _ _ => trivial⟩, fun val h_ W hx he => ⟨trivial, ?_⟩, ?_⟩
            ·replace hx := (Upd.drew _ _).trans hx
             replace hB1 := hB1.ext hx
             replace hB3 := hB3.ext hx
             replace hB22 := hB22.ext hx
             replace hB25 := hB25.ext hx
             replace h0 := h0.ext hx
             replace h1 := h1.ext hx
             replace hq0 := hq0.ext hx
             replace hq1 := hq1.ext hx
             replace hr0 := hr0.ext hx
             replace hr1 := hr1.ext hx
             replace hC := hC.ext hx
             have hE := Upd.refl (fun _ => False) W
             have hxs_ := hx.size
             have hcr_ := c_sameRD pq.d0 p.d0 W l0q u0q 0 n0 hq0 h0
             refine id (X_fn (vs := [(.agg #[pq.d0.pv, pq.d0.cv, pq.d0.bv, (.bool (pq.d0.off))]), (.agg #[p.d0.pv, p.d0.cv, p.d0.bv, (.bool (p.d0.off))])]) en13 rfl ?_)
             refine CT.mono hcr_ ?_
             clear hcr_
             rintro _ w31 ⟨⟨g31, rfl, hg31⟩, hu31⟩
             have hz31 := hu31.size
             replace hB1 := hB1.ext hu31
             replace hB3 := hB3.ext hu31
             replace hB22 := hB22.ext hu31
             replace hB25 := hB25.ext hu31
             replace h0 := h0.ext hu31
             replace h1 := h1.ext hu31
             replace hq0 := hq0.ext hu31
             replace hq1 := hq1.ext hu31
             replace hr0 := hr0.ext hu31
             replace hr1 := hr1.ext hu31
             replace hC := hC.ext hu31
             replace hE := hE.trans (Ext.upd hu31)
             obtain rfl : g31 = true := hg31.2 (by rw [hoA]; exact addW_off hs8)
             exact ⟨hE, rfl⟩
            refine ⟨.det (fun val => (.bool (false))), ⟨fun _ _ hv => rfl, fun _ _ _ _ _ => trivial⟩, fun val h_ W hx he => ⟨trivial, ?_⟩, ?_⟩
            ·exact X_not (b := true) (r := false) rfl rfl ⟨Upd.refl _ _, rfl⟩
            refine ⟨.det (fun val => (.bool (false))), ⟨fun _ _ hv => rfl, fun _ _ _ _ _ => trivial⟩, fun val h_ W hx he => ⟨trivial, ?_⟩, ?_⟩
            ·exact X_move (v := (.bool (false))) rfl ⟨Upd.refl _ _, rfl⟩
            refine ⟨.det (fun val => (.int .i64 (0))), ⟨fun _ _ hv => rfl, fun _ _ _ _ _ => trivial⟩, fun val h_ W hx he => ⟨⟨135, rfl, rfl⟩, ?_⟩, ?_⟩
            ·exact X_move (v := (.int .i64 (0))) rfl ⟨Upd.refl _ _, rfl⟩
            refine ⟨.det (fun val => (ptr b25 (0))), ⟨fun _ _ hv => rfl, fun _ _ _ _ _ => trivial⟩, fun val h_ W hx he => ⟨⟨135, rfl, rfl⟩, ?_⟩, ?_⟩
            ·exact X_fldP (b := b25) (o := 0) (r := 0) Fd29_0 rfl rfl ⟨Upd.refl _ _, rfl⟩
            refine ⟨.det (fun val => (ptr b25 (0))), ⟨fun _ _ hv => rfl, fun _ _ _ _ _ => trivial⟩, fun val h_ W hx he => ⟨⟨135, rfl, rfl⟩, ?_⟩, ?_⟩
            ·exact X_idxAP (len := 2) (sz := 4) (b := b25) (o := 0) (k := .i64) (i := 0) (r := 0) Try.underlying27 Z26 rfl rfl (by omega) (by omega) rfl ⟨Upd.refl _ _, rfl⟩
            refine ⟨.det (fun val => (.agg #[pr.d0.pv, pr.d0.cv, pr.d0.bv, (.bool (pr.d0.off))])), ⟨fun _ _ hv => rfl, fun _ _ _ _ _ => trivial⟩, fun val h_ W hx he => ⟨⟨135, rfl, rfl⟩, ?_⟩, ?_⟩
            ·replace hx := (Upd.drew _ _).trans hx
             replace hB25 := hB25.ext hx
             refine id (X_loadA (p := (ptr b25 (0))) (xs := [pr.d0.pv, pr.d0.cv, pr.d0.bv, (.bool (pr.d0.off))]) A26 rfl (hB25.part (o := 0) (n := 4) rfl) rfl ?_)
             exact ⟨Upd.refl _ _, rfl⟩
            refine ⟨.det (fun val => (.int .i64 (0))), ⟨fun _ _ hv => rfl, fun _ _ _ _ _ => trivial⟩, fun val h_ W hx he => ⟨⟨135, rfl, rfl⟩, ?_⟩, ?_⟩
            ·exact X_move (v := (.int .i64 (0))) rfl ⟨Upd.refl _ _, rfl⟩
            refine ⟨.det (fun val => (ptr b1 (0))), ⟨fun _ _ hv => rfl, fun _ _ _ _ _ => trivial⟩, fun val h_ W hx he => ⟨⟨135, rfl, rfl⟩, ?_⟩, ?_⟩
            ·exact X_fldP (b := b1) (o := 0) (r := 0) Fd29_0 rfl rfl ⟨Upd.refl _ _, rfl⟩
            refine ⟨.det (fun val => (ptr b1 (0))), ⟨fun _ _ hv => rfl, fun _ _ _ _ _ => trivial⟩, fun val h_ W hx he => ⟨⟨135, rfl, rfl⟩, ?_⟩, ?_⟩
            ·exact X_idxAP (len := 2) (sz := 4) (b := b1) (o := 0) (k := .i64) (i := 0) (r := 0) Try.underlying27 Z26 rfl rfl (by omega) (by omega) rfl ⟨Upd.refl _ _, rfl⟩
            refine ⟨.det (fun val => (.agg #[p.d0.pv, p.d0.cv, p.d0.bv, (.bool (p.d0.off))])), ⟨fun _ _ hv => rfl, fun _ _ _ _ _ => trivial⟩, fun val h_ W hx he => ⟨⟨135, rfl, rfl⟩, ?_⟩, ?_⟩
            ·replace hx := (Upd.drew _ _).trans hx
             replace hB1 := hB1.ext hx
             refine id (X_loadA (p := (ptr b1 (0))) (xs := [p.d0.pv, p.d0.cv, p.d0.bv, (.bool (p.d0.off))]) A26 rfl (hB1.part (o := 0) (n := 4) rfl) rfl ?_)
             exact ⟨Upd.refl _ _, rfl⟩
            intro val W30 hx30 he30
            replace hx30 := (Upd.drew _ _).trans hx30
            have hz30 := hx30.size
            replace hB1 := hB1.ext hx30
            replace hB3 := hB3.ext hx30
            replace hB22 := hB22.ext hx30
            replace hB25 := hB25.ext hx30
            replace h0 := h0.ext hx30
            replace h1 := h1.ext hx30
            replace hq0 := hq0.ext hx30
            replace hq1 := hq1.ext hx30
            replace hr0 := hr0.ext hx30
            replace hr1 := hr1.ext hx30
            replace hC := hC.ext hx30
            replace hU := hU.trans (Ext.upd hx30)
            have hcr_ := c_sameRD pr.d0 p.d0 W30 l0r u0r 0 n0 hr0 h0
            refine L_gy (dj := 135) rfl rfl rfl (X_fn (vs := [(.agg #[pr.d0.pv, pr.d0.cv, pr.d0.bv, (.bool (pr.d0.off))]), (.agg #[p.d0.pv, p.d0.cv, p.d0.bv, (.bool (p.d0.off))])]) en13 rfl ?_)
            refine CT.mono hcr_ ?_
            clear hcr_
            rintro _ w32 ⟨⟨g32, rfl, hg32⟩, hu32⟩
            have hz32 := hu32.size
            replace hB1 := hB1.ext hu32
            replace hB3 := hB3.ext hu32
            replace hB22 := hB22.ext hu32
            replace hB25 := hB25.ext hu32
            replace h0 := h0.ext hu32
            replace h1 := h1.ext hu32
            replace hq0 := hq0.ext hu32
            replace hq1 := hq1.ext hu32
            replace hr0 := hr0.ext hu32
            replace hr1 := hr1.ext hu32
            replace hC := hC.ext hu32
            replace hU := hU.trans (Ext.upd hu32)
            obtain rfl : g32 = true := hg32.2 (by rw [hfA, hoA, addW_off (show p.d0.da.off = true from hs8)]; exact flA_off hs8)
            refine L_gy (dj := 135) rfl rfl rfl (X_not (b := true) (r := false) rfl rfl ?_)
            refine L_op rfl (X_pick (t := false) (v := (.bool (false))) rfl rfl ?_)
            refine L_nil ?_
            refine T_n ?_
            refine W_cf rfl ?_
            refine W_skip ?_
            refine T_n ?_
            refine W_exit ?_
            refine T_e ?_
            refine B_x ?_
            refine T_n ?_
            refine W_reg ?_
            refine L_op rfl (X_move (v := (.int .i64 (((i : Nat) : Int)))) rfl ?_)
            refine L_op rfl (X_arith (k := .i64) (a := ((i : Nat) : Int)) (b := 1) (r := ((i + 1 : Nat) : Int)) rfl rfl rfl (iadd64 (by omega) (by omega) (by omega)) ?_)
            refine L_op rfl (X_assign (v := (.int .i64 (((i + 1 : Nat) : Int)))) rfl ?_)
            refine L_nil ?_
            refine T_n ?_
            exact ⟨rfl, i + 1, ⟨⟨hi, hB1, hB3, hB22, hB25, h0, h1, hq0, hq1, hr0, hr1, hC, hU, by omega⟩, (by show (copL q).length - (i + 1) < (copL q).length - i; omega)⟩, (Out.mk rfl), ⟨rfl, trivial⟩⟩
           ·refine L_op rfl (X_move (v := (.int .i64 (1))) rfl ?_)
            refine L_op rfl (X_fldP (b := b1) (o := 0) (r := 0) Fd29_0 rfl rfl ?_)
            refine L_op rfl (X_idxAP (len := 2) (sz := 4) (b := b1) (o := 0) (k := .i64) (i := 1) (r := 4) Try.underlying27 Z26 rfl rfl (by omega) (by omega) rfl ?_)
            refine L_op rfl (X_fldP (b := b1) (o := 4) (r := 7) Fd26_3 rfl rfl ?_)
            refine L_op rfl (X_load (p := (ptr b1 (7))) (v := .bool false) T4 rfl (hB1.at1 (by rw [hs9]; rfl)) ?_)
            refine L_nil ?_
            refine T_n ?_
            refine W_cf rfl ?_
            refine W_skip ?_
            refine T_n ?_
            refine W_seq ?_
            have haQ := cop_mem (List.mem_of_getElem? hat)
            have hre16 : rdD pq.d1.da a = (pg, 0) := by rw [hoB]; exact read_add (d := p.da.b) hMB hs9 (by omega) hinB haQ
            have hre17 : rdD pr.d1.da a = (pg, 0) := by rw [hfB, read_flush (d := pq.d1.da) hNB (by rw [hoB, addW_o]; exact hs9) (hinB a haQ).1 (by rw [hoB, addW_ps]; exact (hinB a haQ).2)]; exact hre16
            have hcz : pr.d1.cs.length = 0 := congrArg List.length (show pr.d1.da.cs = [] from (by rw [hfB, flA_on (by rw [hoB, addW_o]; exact hs9)]))
            obtain ⟨n16, hn16⟩ : ∃ n, n = w28.heap.size := ⟨_, rfl⟩
            have hlt16_hB1 := hB1.lt
            have hlt16_hB3 := hB3.lt
            have hlt16_hB22 := hB22.lt
            have hlt16_hB25 := hB25.lt
            refine W_drawT 15 [[], [], [0, 1], [0, 1, 2], [], [], [4, 5], [4, 5, 6], [4, 5, 6, 7], [0, 1, 2, 3, 4, 5, 6, 7, 8], [0, 1, 2, 3, 4, 5, 6, 7, 8, 9], [0, 1, 2, 3, 4, 5, 6, 7, 8, 9, 10], [0, 1, 2, 3, 4, 5, 6, 7, 8, 9, 10], [], [0, 1, 2, 3, 4, 5, 6, 7, 8, 9, 10, 11, 13], [0, 1, 2, 3, 4, 5, 6, 7, 8, 9, 10, 11, 12, 13, 14]] [[], [], [0, 1], [0, 1, 2], [], [], [4, 5], [4, 5, 6], [4, 5, 6, 7], [0, 1, 2, 3, 4, 5, 6, 7, 8], [0, 1, 2, 3, 4, 5, 6, 7, 8, 9], [0, 1, 2, 3, 4, 5, 6, 7, 8, 9, 10], [0, 1, 2, 3, 4, 5, 6, 7, 8, 9, 10], [], [0, 1, 2, 3, 4, 5, 6, 7, 8, 9, 10, 11, 13]] [0, 1, 2, 3, 4, 5, 6, 7, 8, 9, 10, 11, 12, 14] [[], [], [], [], [], [], [], [], [], [], [], [], [], [], [13]] (fun j b => (j = 14 ∧ n16 ≤ b)) mixed (by kernel_rfl) (by decide) ?_
            refine ⟨.det (fun val => (.int .i64 (1))), ⟨fun _ _ hv => rfl, fun _ _ _ _ _ => trivial⟩, fun val h_ W hx he => ⟨trivial, ?_⟩, ?_⟩
            ·have hE := Upd.refl (fun _ => False) W
             refine id (X_move (v := (.int .i64 (1))) rfl ?_)
             exact ⟨Ext.upd hE, rfl⟩
            refine ⟨.det (fun val => (ptr b22 (0))), ⟨fun _ _ hv => rfl, fun _ _ _ _ _ => trivial⟩, fun val h_ W hx he => ⟨trivial, ?_⟩, ?_⟩
            ·have hE := Upd.refl (fun _ => False) W
             refine id (X_fldP (b := b22) (o := 0) (r := 0) Fd29_0 rfl rfl ?_)
             exact ⟨Ext.upd hE, rfl⟩
            refine ⟨.det (fun val => (ptr b22 (4))), ⟨fun _ _ hv => rfl, fun _ _ _ _ _ => trivial⟩, fun val h_ W hx he => ⟨trivial, ?_⟩, ?_⟩
            ·have hE := Upd.refl (fun _ => False) W
             refine id (X_idxAP (len := 2) (sz := 4) (b := b22) (o := 0) (k := .i64) (i := 1) (r := 4) Try.underlying27 Z26 rfl rfl (by omega) (by omega) rfl ?_)
             exact ⟨Ext.upd hE, rfl⟩
            refine ⟨.det (fun val => (.agg #[pq.d1.pv, pq.d1.cv, pq.d1.bv, (.bool (pq.d1.off))])), ⟨fun _ _ hv => rfl, fun _ _ _ _ _ => trivial⟩, fun val h_ W hx he => ⟨trivial, ?_⟩, ?_⟩
            ·replace hx := (Upd.drew _ _).trans hx
             replace hx : Upd (fun b => False) w28 W := hx.mono fun b _ h_ => by obtain ⟨j, _, hne, hm_, hS⟩ := h_; obtain ⟨rfl, hS⟩ := hS; exact absurd hm_ (by decide)
             replace hB22 := hB22.ext hx
             have hE := Upd.refl (fun _ => False) W
             refine id (X_loadA (p := (ptr b22 (4))) (xs := [pq.d1.pv, pq.d1.cv, pq.d1.bv, (.bool (pq.d1.off))]) A26 rfl (hB22.part (o := 4) (n := 4) rfl) rfl ?_)
             exact ⟨Ext.upd hE, rfl⟩
            refine ⟨.det (fun val => vC), ⟨fun _ _ hv => rfl, fun _ _ _ _ _ => trivial⟩, fun val h_ W hx he => ⟨trivial, ?_⟩, ?_⟩
            ·have hE := Upd.refl (fun _ => False) W
             refine id (X_move (v := vC) rfl ?_)
             exact ⟨Ext.upd hE, rfl⟩
            refine ⟨.det (fun val => (.int .i64 (((i : Nat) : Int)))), ⟨fun _ _ hv => rfl, fun _ _ _ _ _ => trivial⟩, fun val h_ W hx he => ⟨trivial, ?_⟩, ?_⟩
            ·have hE := Upd.refl (fun _ => False) W
             refine id (X_move (v := (.int .i64 (((i : Nat) : Int)))) rfl ?_)
             exact ⟨Ext.upd hE, rfl⟩
            refine ⟨.det (fun val => (pof vC ((((i : Nat) : Int) : Int).toNat * 2))), ⟨fun _ _ hv => rfl, fun _ _ _ _ _ => trivial⟩, fun val h_ W hx he => ⟨trivial, ?_⟩, ?_⟩
            ·replace hx := (Upd.drew _ _).trans hx
             replace hx : Upd (fun b => False) w28 W := hx.mono fun b _ h_ => by obtain ⟨j, _, hne, hm_, hS⟩ := h_; obtain ⟨rfl, hS⟩ := hS; exact absurd hm_ (by decide)
             replace hC := hC.ext hx
             have hE := Upd.refl (fun _ => False) W
             refine id (X_idx (v := vC) (n := (copL q).length) (k := .i64) (i := ((i : Nat) : Int)) S45 rfl hC.sv rfl (by omega) (by omega) ?_)
             exact ⟨Ext.upd hE, rfl⟩
            refine ⟨.det (fun val => (pof vC ((((i : Nat) : Int) : Int).toNat * 2 + 1))), ⟨fun _ _ hv => rfl, fun _ _ _ _ _ => trivial⟩, fun val h_ W hx he => ⟨trivial, ?_⟩, ?_⟩
            ·replace hx := (Upd.drew _ _).trans hx
             replace hx : Upd (fun b => False) w28 W := hx.mono fun b _ h_ => by obtain ⟨j, _, hne, hm_, hS⟩ := h_; obtain ⟨rfl, hS⟩ := hS; exact absurd hm_ (by decide)
             replace hC := hC.ext hx
             have hE := Upd.refl (fun _ => False) W
             refine id (X_idxAS (len := 2) (sz := 1) (v := vC) (o := (((i : Nat) : Int) : Int).toNat * 2) (k := .i64) (i := 1) (r := (((i : Nat) : Int) : Int).toNat * 2 + 1) Try.underlying47 Z3 rfl hC.sv (by omega) rfl (by omega) (by omega) rfl ?_)
             exact ⟨Ext.upd hE, rfl⟩
            refine ⟨.det (fun val => (.int .i64 (a))), ⟨fun _ _ hv => rfl, fun _ _ _ _ _ => trivial⟩, fun val h_ W hx he => ⟨trivial, ?_⟩, ?_⟩
            ·replace hx := (Upd.drew _ _).trans hx
             replace hx : Upd (fun b => False) w28 W := hx.mono fun b _ h_ => by obtain ⟨j, _, hne, hm_, hS⟩ := h_; obtain ⟨rfl, hS⟩ := hS; exact absurd hm_ (by decide)
             replace hC := hC.ext hx
             have hE := Upd.refl (fun _ => False) W
             refine id (X_load (p := (pof vC ((((i : Nat) : Int) : Int).toNat * 2 + 1))) (v := .int .i64 (a)) T3 rfl (cat1 hC (k := i) (by omega) hat) ?_)
             exact ⟨Ext.upd hE, rfl⟩
            refine ⟨.det (fun val => (.tuple #[(pageV pg), (.int .i64 (0))])), ⟨fun _ _ hv => rfl, fun _ _ _ _ _ => trivial⟩, fun val h_ W hx he => ⟨trivial, ?_⟩, ?_⟩
            ·replace hx := (Upd.drew _ _).trans hx
             replace hx : Upd (fun b => False) w28 W := hx.mono fun b _ h_ => by obtain ⟨j, _, hne, hm_, hS⟩ := h_; obtain ⟨rfl, hS⟩ := hS; exact absurd hm_ (by decide)
             replace hB1 := hB1.ext hx
             replace hB3 := hB3.ext hx
             replace hB22 := hB22.ext hx
             replace hB25 := hB25.ext hx
             replace h0 := h0.ext hx
             replace h1 := h1.ext hx
             replace hq0 := hq0.ext hx
             replace hq1 := hq1.ext hx
             replace hr0 := hr0.ext hx
             replace hr1 := hr1.ext hx
             replace hC := hC.ext hx
             have hE := Upd.refl (fun _ => False) W
             have hxs_ := hx.size
             have hcr_ := c_readRD pq.d1 a W l1q u1q (by omega) hq1
             refine id (X_fn (vs := [(.agg #[pq.d1.pv, pq.d1.cv, pq.d1.bv, (.bool (pq.d1.off))]), (.int .i64 (a))]) en14 rfl ?_)
             refine CT.mono hcr_ ?_
             clear hcr_
             rintro _ w34 ⟨rfl, hu34⟩
             have hz34 := hu34.size
             replace hB1 := hB1.ext hu34
             replace hB3 := hB3.ext hu34
             replace hB22 := hB22.ext hu34
             replace hB25 := hB25.ext hu34
             replace h0 := h0.ext hu34
             replace h1 := h1.ext hu34
             replace hq0 := hq0.ext hu34
             replace hq1 := hq1.ext hu34
             replace hr0 := hr0.ext hu34
             replace hr1 := hr1.ext hu34
             replace hC := hC.ext hu34
             replace hE := hE.trans (Ext.upd hu34)
             rw [hre16]
             exact ⟨Ext.upd hE, rfl⟩
            refine ⟨.det (fun val => (.tuple #[(pageV pg), (.int .i64 (0))])), ⟨fun _ _ hv => rfl, fun _ _ _ _ _ => trivial⟩, fun val h_ W hx he => ⟨trivial, ?_⟩, ?_⟩
            ·have hE := Upd.refl (fun _ => False) W
             refine id (X_move (v := (.tuple #[(pageV pg), (.int .i64 (0))])) rfl ?_)
             exact ⟨Ext.upd hE, rfl⟩
            refine ⟨.det (fun val => (pageV pg)), ⟨fun _ _ hv => rfl, fun _ _ _ _ _ => trivial⟩, fun val h_ W hx he => ⟨trivial, ?_⟩, ?_⟩
            ·have hE := Upd.refl (fun _ => False) W
             refine id (X_extract (l := [(pageV pg), (.int .i64 (0))]) (v := (pageV pg)) rfl rfl ?_)
             exact ⟨Ext.upd hE, rfl⟩
            refine ⟨.det (fun val => (.int .i64 (0))), ⟨fun _ _ hv => rfl, fun _ _ _ _ _ => trivial⟩, fun val h_ W hx he => ⟨trivial, ?_⟩, ?_⟩
            ·have hE := Upd.refl (fun _ => False) W
             refine id (X_extract (l := [(pageV pg), (.int .i64 (0))]) (v := (.int .i64 (0))) rfl rfl ?_)
             exact ⟨Ext.upd hE, rfl⟩
            refine ⟨.abs (fun _ x_ W_ => ∃ b, x_ = ptr b 0 ∧ n16 ≤ b ∧ Blk W_ b ((List.replicate 256 (0 : UInt8)).map byteV).toArray 37), ⟨fun _ _ _ => rfl, fun _ _ _ _ hu0 h => have hu : Upd (fun b => False) _ _ := hu0.mono fun b _ h_ => (by obtain ⟨j, _, hne, hm_, hk_, hS⟩ := h_; obtain ⟨rfl, hS⟩ := hS; exact absurd hk_ (by decide))
             (by obtain ⟨b, e1, e2, e3⟩ := h; exact ⟨b, e1, e2, e3.ext hu⟩)⟩, fun val h_ W hx he => ⟨trivial, ?_⟩, ?_⟩
            ·replace hx := (Upd.drew _ _).trans hx
             replace hx : Upd (fun b => False) w28 W := hx.mono fun b _ h_ => by obtain ⟨j, _, hne, hm_, hS⟩ := h_; obtain ⟨rfl, hS⟩ := hS; exact absurd hm_ (by decide)
             refine X_alloc (z := zv37) (c := zc37.toArray) Zv37 rfl ?_
             intro b w2 hn
             have hb37 := hn.blk
             rw [zc37_eq] at hb37
             have hxs := hx.size
             have hnn := hn.num
             exact ⟨Ext.upd hn.ext, b, rfl, by omega, hb37⟩
            refine ⟨.abs (fun val x_ W_ => ∃ b, val 13 = ptr b 0 ∧ n16 ≤ b ∧ Blk W_ b (pg.1.map byteV).toArray 37), ⟨fun _ _ hv => by simp only [hv 13 rfl], fun _ _ _ _ hu0 h => have hu : Upd (fun b => False) _ _ := hu0.mono fun b _ h_ => (by obtain ⟨j, _, hne, hm_, hk_, hS⟩ := h_; obtain ⟨rfl, hS⟩ := hS; exact absurd rfl hne)
             (by obtain ⟨b, e1, e2, e3⟩ := h; exact ⟨b, e1, e2, e3.ext hu⟩)⟩, fun val h_ W hx he => ⟨trivial, ?_⟩, ?_⟩
            ·obtain ⟨⟨b9, hb9, hbN9, hB9⟩, _⟩ := he
             refine X_storeW (b := b9) (ys := pg.1.map byteV) A37 hb9 rfl (byteV_one _) (by rw [List.length_map]; exact pg.2) hB9 (by rw [List.size_toArray, List.length_map]; exact List.length_replicate) ?_
             intro w7 hu7 hb7
             exact ⟨hu7.mono fun b _ h => ⟨rfl, by subst h; exact hbN9⟩, b9, hb9, hbN9, hb7⟩
            intro val W33 hx33 he33
            replace hx33 := (Upd.drew _ _).trans hx33
            replace hx33 : Upd (fun b => (n16 ≤ b)) w28 W33 := hx33.mono fun b _ h_ => by obtain ⟨j, _, hS⟩ := h_; obtain ⟨rfl, hS⟩ := hS; exact hS
            have hz33 := hx33.size
            replace hB1 := hB1.upd hx33 fun h => by have h : n16 ≤ b1 := h; omega
            replace hB3 := hB3.upd hx33 fun h => by have h : n16 ≤ b3 := h; omega
            replace hB22 := hB22.upd hx33 fun h => by have h : n16 ≤ b22 := h; omega
            replace hB25 := hB25.upd hx33 fun h => by have h : n16 ≤ b25 := h; omega
            replace h0 := h0.upd hx33 fun i h1 h2 h => by have h : n16 ≤ i := h; omega
            replace h1 := h1.upd hx33 fun i h1 h2 h => by have h : n16 ≤ i := h; omega
            replace hq0 := hq0.upd hx33 fun i h1 h2 h => by have h : n16 ≤ i := h; omega
            replace hq1 := hq1.upd hx33 fun i h1 h2 h => by have h : n16 ≤ i := h; omega
            replace hr0 := hr0.upd hx33 fun i h1 h2 h => by have h : n16 ≤ i := h; omega
            replace hr1 := hr1.upd hx33 fun i h1 h2 h => by have h : n16 ≤ i := h; omega
            replace hC := hC.upd hx33 fun i h1 h2 h => by have h : n16 ≤ i := h; omega
            replace hU := hU.trans (hx33.mono fun i _ h => by have h : n16 ≤ i := h; show n0 ≤ i; omega)
            obtain ⟨⟨b16, hb16, hbN16, hB16⟩, he33⟩ := he33
            refine L_op rfl (X_assign (v := (.int .i64 (0))) rfl ?_)
            refine L_nil ?_
            refine T_n ?_
            refine W_seq ?_
            obtain ⟨n17, hn17⟩ : ∃ n, n = W33.heap.size := ⟨_, rfl⟩
            have hlt17_hB1 := hB1.lt
            have hlt17_hB3 := hB3.lt
            have hlt17_hB22 := hB22.lt
            have hlt17_hB25 := hB25.lt
            have hlt17_hB16 := hB16.lt
            refine W_drawT 15 [[], [], [0, 1], [0, 1, 2], [], [], [4, 5], [4, 5, 6], [4, 5, 6, 7], [0, 1, 2, 3, 4, 5, 6, 7, 8], [0, 1, 2, 3, 4, 5, 6, 7, 8, 9], [0, 1, 2, 3, 4, 5, 6, 7, 8, 9, 10], [0, 1, 2, 3, 4, 5, 6, 7, 8, 9, 10], [], [0, 1, 2, 3, 4, 5, 6, 7, 8, 9, 10, 11, 13], [0, 1, 2, 3, 4, 5, 6, 7, 8, 9, 10, 11, 12, 13, 14]] [[], [], [0, 1], [0, 1, 2], [], [], [4, 5], [4, 5, 6], [4, 5, 6, 7], [0, 1, 2, 3, 4, 5, 6, 7, 8], [0, 1, 2, 3, 4, 5, 6, 7, 8, 9], [0, 1, 2, 3, 4, 5, 6, 7, 8, 9, 10], [0, 1, 2, 3, 4, 5, 6, 7, 8, 9, 10], [], [0, 1, 2, 3, 4, 5, 6, 7, 8, 9, 10, 11, 13]] [0, 1, 2, 3, 4, 5, 6, 7, 8, 9, 10, 11, 12, 14] [[], [], [], [], [], [], [], [], [], [], [], [], [], [], [13]] (fun j b => (j = 14 ∧ n17 ≤ b)) mixed (by kernel_rfl) (by decide) ?_
            refine ⟨.det (fun val => (.int .i64 (1))), ⟨fun _ _ hv => rfl, fun _ _ _ _ _ => trivial⟩, fun val h_ W hx he => ⟨trivial, ?_⟩, ?_⟩
            ·have hE := Upd.refl (fun _ => False) W
             refine id (X_move (v := (.int .i64 (1))) rfl ?_)
             exact ⟨Ext.upd hE, rfl⟩
            refine ⟨.det (fun val => (ptr b25 (0))), ⟨fun _ _ hv => rfl, fun _ _ _ _ _ => trivial⟩, fun val h_ W hx he => ⟨trivial, ?_⟩, ?_⟩
            ·have hE := Upd.refl (fun _ => False) W
             refine id (X_fldP (b := b25) (o := 0) (r := 0) Fd29_0 rfl rfl ?_)
             exact ⟨Ext.upd hE, rfl⟩
            refine ⟨.det (fun val => (ptr b25 (4))), ⟨fun _ _ hv => rfl, fun _ _ _ _ _ => trivial⟩, fun val h_ W hx he => ⟨trivial, ?_⟩, ?_⟩
            ·have hE := Upd.refl (fun _ => False) W
             refine id (X_idxAP (len := 2) (sz := 4) (b := b25) (o := 0) (k := .i64) (i := 1) (r := 4) Try.underlying27 Z26 rfl rfl (by omega) (by omega) rfl ?_)
             exact ⟨Ext.upd hE, rfl⟩
            refine ⟨.det (fun val => (.agg #[pr.d1.pv, pr.d1.cv, pr.d1.bv, (.bool (pr.d1.off))])), ⟨fun _ _ hv => rfl, fun _ _ _ _ _ => trivial⟩, fun val h_ W hx he => ⟨trivial, ?_⟩, ?_⟩
            ·replace hx := (Upd.drew _ _).trans hx
             replace hx : Upd (fun b => False) W33 W := hx.mono fun b _ h_ => by obtain ⟨j, _, hne, hm_, hS⟩ := h_; obtain ⟨rfl, hS⟩ := hS; exact absurd hm_ (by decide)
             replace hB25 := hB25.ext hx
             have hE := Upd.refl (fun _ => False) W
             refine id (X_loadA (p := (ptr b25 (4))) (xs := [pr.d1.pv, pr.d1.cv, pr.d1.bv, (.bool (pr.d1.off))]) A26 rfl (hB25.part (o := 4) (n := 4) rfl) rfl ?_)
             exact ⟨Ext.upd hE, rfl⟩
            refine ⟨.det (fun val => vC), ⟨fun _ _ hv => rfl, fun _ _ _ _ _ => trivial⟩, fun val h_ W hx he => ⟨trivial, ?_⟩, ?_⟩
            ·have hE := Upd.refl (fun _ => False) W
             refine id (X_move (v := vC) rfl ?_)
             exact ⟨Ext.upd hE, rfl⟩
            refine ⟨.det (fun val => (.int .i64 (((i : Nat) : Int)))), ⟨fun _ _ hv => rfl, fun _ _ _ _ _ => trivial⟩, fun val h_ W hx he => ⟨trivial, ?_⟩, ?_⟩
            ·have hE := Upd.refl (fun _ => False) W
             refine id (X_move (v := (.int .i64 (((i : Nat) : Int)))) rfl ?_)
             exact ⟨Ext.upd hE, rfl⟩
            refine ⟨.det (fun val => (pof vC ((((i : Nat) : Int) : Int).toNat * 2))), ⟨fun _ _ hv => rfl, fun _ _ _ _ _ => trivial⟩, fun val h_ W hx he => ⟨trivial, ?_⟩, ?_⟩
            ·replace hx := (Upd.drew _ _).trans hx
             replace hx : Upd (fun b => False) W33 W := hx.mono fun b _ h_ => by obtain ⟨j, _, hne, hm_, hS⟩ := h_; obtain ⟨rfl, hS⟩ := hS; exact absurd hm_ (by decide)
             replace hC := hC.ext hx
             have hE := Upd.refl (fun _ => False) W
             refine id (X_idx (v := vC) (n := (copL q).length) (k := .i64) (i := ((i : Nat) : Int)) S45 rfl hC.sv rfl (by omega) (by omega) ?_)
             exact ⟨Ext.upd hE, rfl⟩
            refine ⟨.det (fun val => (pof vC ((((i : Nat) : Int) : Int).toNat * 2 + 1))), ⟨fun _ _ hv => rfl, fun _ _ _ _ _ => trivial⟩, fun val h_ W hx he => ⟨trivial, ?_⟩, ?_⟩
            ·replace hx := (Upd.drew _ _).trans hx
             replace hx : Upd (fun b => False) W33 W := hx.mono fun b _ h_ => by obtain ⟨j, _, hne, hm_, hS⟩ := h_; obtain ⟨rfl, hS⟩ := hS; exact absurd hm_ (by decide)
             replace hC := hC.ext hx
             have hE := Upd.refl (fun _ => False) W
             refine id (X_idxAS (len := 2) (sz := 1) (v := vC) (o := (((i : Nat) : Int) : Int).toNat * 2) (k := .i64) (i := 1) (r := (((i : Nat) : Int) : Int).toNat * 2 + 1) Try.underlying47 Z3 rfl hC.sv (by omega) rfl (by omega) (by omega) rfl ?_)
             exact ⟨Ext.upd hE, rfl⟩
            refine ⟨.det (fun val => (.int .i64 (a))), ⟨fun _ _ hv => rfl, fun _ _ _ _ _ => trivial⟩, fun val h_ W hx he => ⟨trivial, ?_⟩, ?_⟩
            ·replace hx := (Upd.drew _ _).trans hx
             replace hx : Upd (fun b => False) W33 W := hx.mono fun b _ h_ => by obtain ⟨j, _, hne, hm_, hS⟩ := h_; obtain ⟨rfl, hS⟩ := hS; exact absurd hm_ (by decide)
             replace hC := hC.ext hx
             have hE := Upd.refl (fun _ => False) W
             refine id (X_load (p := (pof vC ((((i : Nat) : Int) : Int).toNat * 2 + 1))) (v := .int .i64 (a)) T3 rfl (cat1 hC (k := i) (by omega) hat) ?_)
             exact ⟨Ext.upd hE, rfl⟩
            refine ⟨.det (fun val => (.tuple #[(pageV pg), (.int .i64 (0))])), ⟨fun _ _ hv => rfl, fun _ _ _ _ _ => trivial⟩, fun val h_ W hx he => ⟨trivial, ?_⟩, ?_⟩
            ·replace hx := (Upd.drew _ _).trans hx
             replace hx : Upd (fun b => False) W33 W := hx.mono fun b _ h_ => by obtain ⟨j, _, hne, hm_, hS⟩ := h_; obtain ⟨rfl, hS⟩ := hS; exact absurd hm_ (by decide)
             replace hB1 := hB1.ext hx
             replace hB3 := hB3.ext hx
             replace hB22 := hB22.ext hx
             replace hB25 := hB25.ext hx
             replace h0 := h0.ext hx
             replace h1 := h1.ext hx
             replace hq0 := hq0.ext hx
             replace hq1 := hq1.ext hx
             replace hr0 := hr0.ext hx
             replace hr1 := hr1.ext hx
             replace hC := hC.ext hx
             replace hB16 := hB16.ext hx
             have hE := Upd.refl (fun _ => False) W
             have hxs_ := hx.size
             have hcr_ := c_readRD pr.d1 a W l1r u1r (by omega) hr1
             refine id (X_fn (vs := [(.agg #[pr.d1.pv, pr.d1.cv, pr.d1.bv, (.bool (pr.d1.off))]), (.int .i64 (a))]) en14 rfl ?_)
             refine CT.mono hcr_ ?_
             clear hcr_
             rintro _ w36 ⟨rfl, hu36⟩
             have hz36 := hu36.size
             replace hB1 := hB1.ext hu36
             replace hB3 := hB3.ext hu36
             replace hB22 := hB22.ext hu36
             replace hB25 := hB25.ext hu36
             replace h0 := h0.ext hu36
             replace h1 := h1.ext hu36
             replace hq0 := hq0.ext hu36
             replace hq1 := hq1.ext hu36
             replace hr0 := hr0.ext hu36
             replace hr1 := hr1.ext hu36
             replace hC := hC.ext hu36
             replace hB16 := hB16.ext hu36
             replace hE := hE.trans (Ext.upd hu36)
             rw [hre17]
             exact ⟨Ext.upd hE, rfl⟩
            refine ⟨.det (fun val => (.tuple #[(pageV pg), (.int .i64 (0))])), ⟨fun _ _ hv => rfl, fun _ _ _ _ _ => trivial⟩, fun val h_ W hx he => ⟨trivial, ?_⟩, ?_⟩
            ·have hE := Upd.refl (fun _ => False) W
             refine id (X_move (v := (.tuple #[(pageV pg), (.int .i64 (0))])) rfl ?_)
             exact ⟨Ext.upd hE, rfl⟩
            refine ⟨.det (fun val => (pageV pg)), ⟨fun _ _ hv => rfl, fun _ _ _ _ _ => trivial⟩, fun val h_ W hx he => ⟨trivial, ?_⟩, ?_⟩
            ·have hE := Upd.refl (fun _ => False) W
             refine id (X_extract (l := [(pageV pg), (.int .i64 (0))]) (v := (pageV pg)) rfl rfl ?_)
             exact ⟨Ext.upd hE, rfl⟩
            refine ⟨.det (fun val => (.int .i64 (0))), ⟨fun _ _ hv => rfl, fun _ _ _ _ _ => trivial⟩, fun val h_ W hx he => ⟨trivial, ?_⟩, ?_⟩
            ·have hE := Upd.refl (fun _ => False) W
             refine id (X_extract (l := [(pageV pg), (.int .i64 (0))]) (v := (.int .i64 (0))) rfl rfl ?_)
             exact ⟨Ext.upd hE, rfl⟩
            refine ⟨.abs (fun _ x_ W_ => ∃ b, x_ = ptr b 0 ∧ n17 ≤ b ∧ Blk W_ b ((List.replicate 256 (0 : UInt8)).map byteV).toArray 37), ⟨fun _ _ _ => rfl, fun _ _ _ _ hu0 h => have hu : Upd (fun b => False) _ _ := hu0.mono fun b _ h_ => (by obtain ⟨j, _, hne, hm_, hk_, hS⟩ := h_; obtain ⟨rfl, hS⟩ := hS; exact absurd hk_ (by decide))
             (by obtain ⟨b, e1, e2, e3⟩ := h; exact ⟨b, e1, e2, e3.ext hu⟩)⟩, fun val h_ W hx he => ⟨trivial, ?_⟩, ?_⟩
            ·replace hx := (Upd.drew _ _).trans hx
             replace hx : Upd (fun b => False) W33 W := hx.mono fun b _ h_ => by obtain ⟨j, _, hne, hm_, hS⟩ := h_; obtain ⟨rfl, hS⟩ := hS; exact absurd hm_ (by decide)
             refine X_alloc (z := zv37) (c := zc37.toArray) Zv37 rfl ?_
             intro b w2 hn
             have hb37 := hn.blk
             rw [zc37_eq] at hb37
             have hxs := hx.size
             have hnn := hn.num
             exact ⟨Ext.upd hn.ext, b, rfl, by omega, hb37⟩
            refine ⟨.abs (fun val x_ W_ => ∃ b, val 13 = ptr b 0 ∧ n17 ≤ b ∧ Blk W_ b (pg.1.map byteV).toArray 37), ⟨fun _ _ hv => by simp only [hv 13 rfl], fun _ _ _ _ hu0 h => have hu : Upd (fun b => False) _ _ := hu0.mono fun b _ h_ => (by obtain ⟨j, _, hne, hm_, hk_, hS⟩ := h_; obtain ⟨rfl, hS⟩ := hS; exact absurd rfl hne)
             (by obtain ⟨b, e1, e2, e3⟩ := h; exact ⟨b, e1, e2, e3.ext hu⟩)⟩, fun val h_ W hx he => ⟨trivial, ?_⟩, ?_⟩
            ·obtain ⟨⟨b9, hb9, hbN9, hB9⟩, _⟩ := he
             refine X_storeW (b := b9) (ys := pg.1.map byteV) A37 hb9 rfl (byteV_one _) (by rw [List.length_map]; exact pg.2) hB9 (by rw [List.size_toArray, List.length_map]; exact List.length_replicate) ?_
             intro w7 hu7 hb7
             exact ⟨hu7.mono fun b _ h => ⟨rfl, by subst h; exact hbN9⟩, b9, hb9, hbN9, hb7⟩
            intro val W35 hx35 he35
            replace hx35 := (Upd.drew _ _).trans hx35
            replace hx35 : Upd (fun b => (n17 ≤ b)) W33 W35 := hx35.mono fun b _ h_ => by obtain ⟨j, _, hS⟩ := h_; obtain ⟨rfl, hS⟩ := hS; exact hS
            have hz35 := hx35.size
            replace hB1 := hB1.upd hx35 fun h => by have h : n17 ≤ b1 := h; omega
            replace hB3 := hB3.upd hx35 fun h => by have h : n17 ≤ b3 := h; omega
            replace hB22 := hB22.upd hx35 fun h => by have h : n17 ≤ b22 := h; omega
            replace hB25 := hB25.upd hx35 fun h => by have h : n17 ≤ b25 := h; omega
            replace h0 := h0.upd hx35 fun i h1 h2 h => by have h : n17 ≤ i := h; omega
            replace h1 := h1.upd hx35 fun i h1 h2 h => by have h : n17 ≤ i := h; omega
            replace hq0 := hq0.upd hx35 fun i h1 h2 h => by have h : n17 ≤ i := h; omega
            replace hq1 := hq1.upd hx35 fun i h1 h2 h => by have h : n17 ≤ i := h; omega
            replace hr0 := hr0.upd hx35 fun i h1 h2 h => by have h : n17 ≤ i := h; omega
            replace hr1 := hr1.upd hx35 fun i h1 h2 h => by have h : n17 ≤ i := h; omega
            replace hC := hC.upd hx35 fun i h1 h2 h => by have h : n17 ≤ i := h; omega
            replace hU := hU.trans (hx35.mono fun i _ h => by have h : n17 ≤ i := h; show n0 ≤ i; omega)
            replace hB16 := hB16.upd hx35 fun h => by have h : n17 ≤ b16 := h; omega
            obtain ⟨⟨b17, hb17, hbN17, hB17⟩, he35⟩ := he35
            refine L_op rfl (X_assign (v := (.int .i64 (0))) rfl ?_)
            refine L_nil ?_
            refine T_n ?_
            refine W_seq ?_
            refine W_reg ?_
            refine L_op rfl (X_move (v := (.int .i64 (0))) rfl ?_)
            refine L_op rfl (X_cmp (k := .i64) (a := 0) (b := 0) (r := false) rfl rfl rfl rfl ?_)
            refine L_op rfl (X_move (v := (.bool (false))) rfl ?_)
            refine L_gy (dj := 175) rfl rfl rfl (X_move (v := (.int .i64 (0))) rfl ?_)
            refine L_gy (dj := 175) rfl rfl rfl (X_cmp (k := .i64) (a := 0) (b := 0) (r := false) rfl rfl rfl rfl ?_)
            refine L_op rfl (X_pick (t := false) (v := (.bool (false))) rfl rfl ?_)
            refine L_op rfl (X_move (v := (.bool (false))) rfl ?_)
            refine L_gy (dj := 179) rfl rfl rfl (X_loadA (xs := pg.1.map byteV) A37 hb16 hB16.atAll (by rw [List.length_map]; exact pg.2) ?_)
            refine L_gy (dj := 179) rfl rfl rfl (X_loadA (p := (ptr b3 (0))) (xs := ((pg.1).map byteV)) A37 rfl hB3.atAll (by rw [List.length_map]; exact pg.2) ?_)
            refine L_gy (dj := 179) rfl rfl rfl (X_eqA (n := 256) (l := pg.1) (m := pg.1) (r := false) Try.underlying37 Try.underlying5 (by kernel_rfl) (by kernel_rfl) (by kernel_rfl) rfl rfl (pg.2) (pg.2) (.inr ⟨rfl, (by rw [beq_self_eq_true]; rfl)⟩) ?_)
            refine L_op rfl (X_pick (t := false) (v := (.bool (false))) rfl rfl ?_)
            refine L_op rfl (X_move (v := (.bool (false))) rfl ?_)
            refine L_gy (dj := 184) rfl rfl rfl (X_loadA (xs := pg.1.map byteV) A37 hb17 hB17.atAll (by rw [List.length_map]; exact pg.2) ?_)
            refine L_gy (dj := 184) rfl rfl rfl (X_loadA (p := (ptr b3 (0))) (xs := ((pg.1).map byteV)) A37 rfl hB3.atAll (by rw [List.length_map]; exact pg.2) ?_)
            refine L_gy (dj := 184) rfl rfl rfl (X_eqA (n := 256) (l := pg.1) (m := pg.1) (r := false) Try.underlying37 Try.underlying5 (by kernel_rfl) (by kernel_rfl) (by kernel_rfl) rfl rfl (pg.2) (pg.2) (.inr ⟨rfl, (by rw [beq_self_eq_true]; rfl)⟩) ?_)
            refine L_op rfl (X_pick (t := false) (v := (.bool (false))) rfl rfl ?_)
            refine L_op rfl (X_move (v := (.bool (false))) rfl ?_)
            refine L_gy (dj := 189) rfl rfl rfl (X_move (v := (.int .i64 (1))) rfl ?_)
            refine L_gy (dj := 189) rfl rfl rfl (X_fldP (b := b25) (o := 0) (r := 0) Fd29_0 rfl rfl ?_)
            refine L_gy (dj := 189) rfl rfl rfl (X_idxAP (len := 2) (sz := 4) (b := b25) (o := 0) (k := .i64) (i := 1) (r := 4) Try.underlying27 Z26 rfl rfl (by omega) (by omega) rfl ?_)
            refine L_gy (dj := 189) rfl rfl rfl (X_fldP (b := b25) (o := 4) (r := 5) Fd26_1 rfl rfl ?_)
            refine L_gy (dj := 189) rfl rfl rfl (X_load (p := (ptr b25 (5))) (v := pr.d1.cv) T23 rfl (hB25.at1 rfl) ?_)
            refine L_gy (dj := 189) rfl rfl rfl (X_len (v := pr.d1.cv) (n := pr.d1.cs.length) Try.underlying23 rfl hr1.2.1.sv ?_)
            refine L_gy (dj := 189) rfl rfl rfl (X_cmp (k := .i64) (a := ((pr.d1.cs.length : Nat) : Int)) (b := 0) (r := false) rfl rfl rfl (decide_eq_false (p := ((((pr.d1.cs.length : Nat) : Int)) : Int) ≠ ((0) : Int)) (by omega)) ?_)
            refine L_op rfl (X_pick (t := false) (v := (.bool (false))) rfl rfl ?_)
            refine L_nil ?_
            refine T_n ?_
            refine W_cf rfl ?_
            refine W_skip ?_
            refine B_n ?_
            refine T_n ?_
            refine W_reg ?_
            refine L_op rfl (X_move (v := (.int .i64 (((i : Nat) : Int)))) rfl ?_)
            refine L_op rfl (X_arith (k := .i64) (a := ((i : Nat) : Int)) (b := 1) (r := ((i + 1 : Nat) : Int)) rfl rfl rfl (iadd64 (by omega) (by omega) (by omega)) ?_)
            refine L_op rfl (X_assign (v := (.int .i64 (((i + 1 : Nat) : Int)))) rfl ?_)
            refine L_nil ?_
            refine T_n ?_
            exact ⟨rfl, i + 1, ⟨⟨hi, hB1, hB3, hB22, hB25, h0, h1, hq0, hq1, hr0, hr1, hC, hU, by omega⟩, (by show (copL q).length - (i + 1) < (copL q).length - i; omega)⟩, (Out.mk rfl), ⟨rfl, trivial⟩⟩
          ·refine L_op rfl (X_cmp (k := .i64) (a := ((i : Nat) : Int)) (b := (((copL q).length : Nat) : Int)) (r := false) rfl rfl rfl (decide_eq_false (p := ((((i : Nat) : Int)) : Int) < (((((copL q).length : Nat) : Int)) : Int)) (by omega)) ?_)
           refine L_nil ?_
           refine T_n ?_
           refine W_cf rfl ?_
           refine W_exit ?_
           refine T_e ?_
           refine T_e ?_
           refine B_x ?_
           refine T_n ?_
           refine W_seq ?_
           refine W_reg ?_
           refine L_op rfl (X_fn (vs := []) en9 rfl (CT.mono (c_wakes _) ?_))
           rintro _ w37 ⟨rfl, hu37⟩
           have hz37 := hu37.size
           replace hB1 := hB1.ext hu37
           replace hB3 := hB3.ext hu37
           replace hB22 := hB22.ext hu37
           replace hB25 := hB25.ext hu37
           replace h0 := h0.ext hu37
           replace h1 := h1.ext hu37
           replace hq0 := hq0.ext hu37
           replace hq1 := hq1.ext hu37
           replace hr0 := hr0.ext hu37
           replace hr1 := hr1.ext hu37
           replace hC := hC.ext hu37
           replace hU := hU.trans (Ext.upd hu37)
           refine L_op rfl (X_assign (v := (.bool (true))) rfl ?_)
           refine L_nil ?_
           refine T_n ?_
           refine W_ret ?_
           exact BQ_r (End_1 Try.results3 (v := .bool true) rfl ⟨rfl, hU.own hn0⟩)
       ·rw [hc16]
        refine L_gy (dj := 63) rfl rfl rfl (X_not (b := false) (r := true) rfl rfl ?_)
        refine L_op rfl (X_pick (t := false) (v := (.bool (true))) rfl rfl ?_)
        refine L_op rfl (X_move (v := (.bool (true))) rfl ?_)
        refine L_gn (dj := 69) (t := true) rfl rfl rfl rfl ?_
        refine L_gn (dj := 69) (t := true) rfl rfl rfl rfl ?_
        refine L_gn (dj := 69) (t := true) rfl rfl rfl rfl ?_
        refine L_op rfl (X_pick (t := true) (v := (.bool (true))) rfl rfl ?_)
        refine L_op rfl (X_move (v := (.bool (true))) rfl ?_)
        refine L_gn (dj := 74) (t := true) rfl rfl rfl rfl ?_
        refine L_gn (dj := 74) (t := true) rfl rfl rfl rfl ?_
        refine L_gn (dj := 74) (t := true) rfl rfl rfl rfl ?_
        refine L_gn (dj := 74) (t := true) rfl rfl rfl rfl ?_
        refine L_gn (dj := 74) (t := true) rfl rfl rfl rfl ?_
        refine L_gn (dj := 74) (t := true) rfl rfl rfl rfl ?_
        refine L_gn (dj := 74) (t := true) rfl rfl rfl rfl ?_
        refine L_gn (dj := 74) (t := true) rfl rfl rfl rfl ?_
        refine L_gn (dj := 74) (t := true) rfl rfl rfl rfl ?_
        refine L_gn (dj := 74) (t := true) rfl rfl rfl rfl ?_
        refine L_gn (dj := 74) (t := true) rfl rfl rfl rfl ?_
        refine L_gn (dj := 74) (t := true) rfl rfl rfl rfl ?_
        refine L_op rfl (X_pick (t := true) (v := (.bool (true))) rfl rfl ?_)
        refine L_nil ?_
        refine T_n ?_
        refine W_ct rfl ?_
        refine W_seq ?_
        refine W_reg ?_
        refine L_op rfl (X_fn (vs := []) en9 rfl (CT.mono (c_wakes _) ?_))
        rintro _ w38 ⟨rfl, hu38⟩
        have hz38 := hu38.size
        replace h0 := h0.ext hu38
        replace h1 := h1.ext hu38
        replace hU := hU.trans (Ext.upd hu38)
        replace hB1 := hB1.ext hu38
        replace hB2 := hB2.ext hu38
        replace hB3 := hB3.ext hu38
        refine L_op rfl (X_assign (v := (.bool (true))) rfl ?_)
        refine L_nil ?_
        refine T_n ?_
        refine W_ret ?_
        refine T_r ?_
        exact BQ_r (End_1 Try.results3 (v := .bool true) rfl ⟨rfl, hU.own hn0⟩)
   ·refine L_gy (dj := 42) rfl rfl rfl (X_load (p := (ptr b1 (3))) (v := .bool false) T4 rfl (hB1.at1 (by rw [hs8]; rfl)) ?_)
    refine L_gy (dj := 42) rfl rfl rfl (X_move (v := (.bool (false))) rfl ?_)
    refine L_gn (dj := 47) (t := false) rfl rfl rfl rfl ?_
    refine L_gn (dj := 47) (t := false) rfl rfl rfl rfl ?_
    refine L_gn (dj := 47) (t := false) rfl rfl rfl rfl ?_
    refine L_gn (dj := 47) (t := false) rfl rfl rfl rfl ?_
    refine L_gy (dj := 42) rfl rfl rfl (X_pick (t := false) (v := (.bool (false))) rfl rfl ?_)
    refine L_op rfl (X_pick (t := false) (v := (.bool (false))) rfl rfl ?_)
    refine L_op rfl (X_move (v := (.bool (false))) rfl ?_)
    refine L_gy (dj := 54) rfl rfl rfl (X_fldP (b := b1) (o := 0) (r := 9) Fd29_2 rfl rfl ?_)
    rcases Bool.eq_false_or_eq_true (p.dn) with hs39 | hs39
    ·refine L_gy (dj := 54) rfl rfl rfl (X_load (p := (ptr b1 (9))) (v := .bool true) T4 rfl (hB1.at1 (by rw [hs39]; rfl)) ?_)
     refine L_op rfl (X_pick (t := false) (v := (.bool (true))) rfl rfl ?_)
     refine L_op rfl (X_move (v := (.bool (true))) rfl ?_)
     refine L_gn (dj := 58) (t := true) rfl rfl rfl rfl ?_
     refine L_gn (dj := 58) (t := true) rfl rfl rfl rfl ?_
     refine L_gn (dj := 58) (t := true) rfl rfl rfl rfl ?_
     refine L_op rfl (X_pick (t := true) (v := (.bool (true))) rfl rfl ?_)
     refine L_op rfl (X_move (v := (.bool (true))) rfl ?_)
     refine L_gn (dj := 63) (t := true) rfl rfl rfl rfl ?_
     refine L_gn (dj := 63) (t := true) rfl rfl rfl rfl ?_
     refine L_gn (dj := 63) (t := true) rfl rfl rfl rfl ?_
     refine L_gn (dj := 63) (t := true) rfl rfl rfl rfl ?_
     refine L_op rfl (X_pick (t := true) (v := (.bool (true))) rfl rfl ?_)
     refine L_op rfl (X_move (v := (.bool (true))) rfl ?_)
     refine L_gn (dj := 69) (t := true) rfl rfl rfl rfl ?_
     refine L_gn (dj := 69) (t := true) rfl rfl rfl rfl ?_
     refine L_gn (dj := 69) (t := true) rfl rfl rfl rfl ?_
     refine L_op rfl (X_pick (t := true) (v := (.bool (true))) rfl rfl ?_)
     refine L_op rfl (X_move (v := (.bool (true))) rfl ?_)
     refine L_gn (dj := 74) (t := true) rfl rfl rfl rfl ?_
     refine L_gn (dj := 74) (t := true) rfl rfl rfl rfl ?_
     refine L_gn (dj := 74) (t := true) rfl rfl rfl rfl ?_
     refine L_gn (dj := 74) (t := true) rfl rfl rfl rfl ?_
     refine L_gn (dj := 74) (t := true) rfl rfl rfl rfl ?_
     refine L_gn (dj := 74) (t := true) rfl rfl rfl rfl ?_
     refine L_gn (dj := 74) (t := true) rfl rfl rfl rfl ?_
     refine L_gn (dj := 74) (t := true) rfl rfl rfl rfl ?_
     refine L_gn (dj := 74) (t := true) rfl rfl rfl rfl ?_
     refine L_gn (dj := 74) (t := true) rfl rfl rfl rfl ?_
     refine L_gn (dj := 74) (t := true) rfl rfl rfl rfl ?_
     refine L_gn (dj := 74) (t := true) rfl rfl rfl rfl ?_
     refine L_op rfl (X_pick (t := true) (v := (.bool (true))) rfl rfl ?_)
     refine L_nil ?_
     refine T_n ?_
     refine W_ct rfl ?_
     refine W_seq ?_
     refine W_reg ?_
     refine L_op rfl (X_fn (vs := []) en9 rfl (CT.mono (c_wakes _) ?_))
     rintro _ w40 ⟨rfl, hu40⟩
     have hz40 := hu40.size
     replace h0 := h0.ext hu40
     replace h1 := h1.ext hu40
     replace hU := hU.trans (Ext.upd hu40)
     replace hB1 := hB1.ext hu40
     replace hB2 := hB2.ext hu40
     replace hB3 := hB3.ext hu40
     refine L_op rfl (X_assign (v := (.bool (true))) rfl ?_)
     refine L_nil ?_
     refine T_n ?_
     refine W_ret ?_
     refine T_r ?_
     exact BQ_r (End_1 Try.results3 (v := .bool true) rfl ⟨rfl, hU.own hn0⟩)
    ·refine L_gy (dj := 54) rfl rfl rfl (X_load (p := (ptr b1 (9))) (v := .bool false) T4 rfl (hB1.at1 (by rw [hs39]; rfl)) ?_)
     refine L_op rfl (X_pick (t := false) (v := (.bool (false))) rfl rfl ?_)
     refine L_op rfl (X_move (v := (.bool (false))) rfl ?_)
     refine L_gy (dj := 58) rfl rfl rfl (X_fldP (b := b1) (o := 0) (r := 8) Fd29_1 rfl rfl ?_)
     refine L_gy (dj := 58) rfl rfl rfl (X_load (p := (ptr b1 (8))) (v := (.int .i64 (p.fz))) T3 rfl (hB1.at1 rfl) ?_)
     by_cases hc41 : (p.fz : Int) ≥ (0)
     ·refine L_gy (dj := 58) rfl rfl rfl (X_cmp (k := .i64) (a := p.fz) (b := 0) (r := true) rfl rfl rfl (decide_eq_true (p := ((0) : Int) ≤ ((p.fz) : Int)) (by omega)) ?_)
      refine L_op rfl (X_pick (t := false) (v := (.bool (true))) rfl rfl ?_)
      refine L_op rfl (X_move (v := (.bool (true))) rfl ?_)
      refine L_gn (dj := 63) (t := true) rfl rfl rfl rfl ?_
      refine L_gn (dj := 63) (t := true) rfl rfl rfl rfl ?_
      refine L_gn (dj := 63) (t := true) rfl rfl rfl rfl ?_
      refine L_gn (dj := 63) (t := true) rfl rfl rfl rfl ?_
      refine L_op rfl (X_pick (t := true) (v := (.bool (true))) rfl rfl ?_)
      refine L_op rfl (X_move (v := (.bool (true))) rfl ?_)
      refine L_gn (dj := 69) (t := true) rfl rfl rfl rfl ?_
      refine L_gn (dj := 69) (t := true) rfl rfl rfl rfl ?_
      refine L_gn (dj := 69) (t := true) rfl rfl rfl rfl ?_
      refine L_op rfl (X_pick (t := true) (v := (.bool (true))) rfl rfl ?_)
      refine L_op rfl (X_move (v := (.bool (true))) rfl ?_)
      refine L_gn (dj := 74) (t := true) rfl rfl rfl rfl ?_
      refine L_gn (dj := 74) (t := true) rfl rfl rfl rfl ?_
      refine L_gn (dj := 74) (t := true) rfl rfl rfl rfl ?_
      refine L_gn (dj := 74) (t := true) rfl rfl rfl rfl ?_
      refine L_gn (dj := 74) (t := true) rfl rfl rfl rfl ?_
      refine L_gn (dj := 74) (t := true) rfl rfl rfl rfl ?_
      refine L_gn (dj := 74) (t := true) rfl rfl rfl rfl ?_
      refine L_gn (dj := 74) (t := true) rfl rfl rfl rfl ?_
      refine L_gn (dj := 74) (t := true) rfl rfl rfl rfl ?_
      refine L_gn (dj := 74) (t := true) rfl rfl rfl rfl ?_
      refine L_gn (dj := 74) (t := true) rfl rfl rfl rfl ?_
      refine L_gn (dj := 74) (t := true) rfl rfl rfl rfl ?_
      refine L_op rfl (X_pick (t := true) (v := (.bool (true))) rfl rfl ?_)
      refine L_nil ?_
      refine T_n ?_
      refine W_ct rfl ?_
      refine W_seq ?_
      refine W_reg ?_
      refine L_op rfl (X_fn (vs := []) en9 rfl (CT.mono (c_wakes _) ?_))
      rintro _ w42 ⟨rfl, hu42⟩
      have hz42 := hu42.size
      replace h0 := h0.ext hu42
      replace h1 := h1.ext hu42
      replace hU := hU.trans (Ext.upd hu42)
      replace hB1 := hB1.ext hu42
      replace hB2 := hB2.ext hu42
      replace hB3 := hB3.ext hu42
      refine L_op rfl (X_assign (v := (.bool (true))) rfl ?_)
      refine L_nil ?_
      refine T_n ?_
      refine W_ret ?_
      refine T_r ?_
      exact BQ_r (End_1 Try.results3 (v := .bool true) rfl ⟨rfl, hU.own hn0⟩)
     ·refine L_gy (dj := 58) rfl rfl rfl (X_cmp (k := .i64) (a := p.fz) (b := 0) (r := false) rfl rfl rfl (decide_eq_false (p := ((0) : Int) ≤ ((p.fz) : Int)) (by omega)) ?_)
      refine L_op rfl (X_pick (t := false) (v := (.bool (false))) rfl rfl ?_)
      refine L_op rfl (X_move (v := (.bool (false))) rfl ?_)
      refine L_gy (dj := 63) rfl rfl rfl (X_loadA (p := (ptr b2 (0))) (xs := ptC q) A35 rfl hB2.atAll rfl ?_)
      refine L_gy (dj := 63) rfl rfl rfl (X_move (v := (.int .i64 (((m : Nat) : Int)))) rfl ?_)
      refine L_gy (dj := 63) rfl rfl rfl (X_fn (vs := [(.agg (ptC q).toArray), (.int .i64 (((m : Nat) : Int)))]) en8 rfl (CT.mono (c_rightR q ((m : Nat) : Int) _ hq) ?_))
      rintro _ w43 ⟨rfl, hu43⟩
      have hz43 := hu43.size
      replace h0 := h0.ext hu43
      replace h1 := h1.ext hu43
      replace hU := hU.trans (Ext.upd hu43)
      replace hB1 := hB1.ext hu43
      replace hB2 := hB2.ext hu43
      replace hB3 := hB3.ext hu43
      rcases Bool.eq_false_or_eq_true (decide (RightP q ((m : Nat) : Int))) with hc44 | hc44
      ·rw [hc44]
       refine L_gy (dj := 63) rfl rfl rfl (X_not (b := true) (r := false) rfl rfl ?_)
       refine L_op rfl (X_pick (t := false) (v := (.bool (false))) rfl rfl ?_)
       refine L_op rfl (X_move (v := (.bool (false))) rfl ?_)
       refine L_gy (dj := 69) rfl rfl rfl (X_fldP (b := b2) (o := 0) (r := 0) Fd35_0 rfl rfl ?_)
       refine L_gy (dj := 69) rfl rfl rfl (X_load (p := (ptr b2 (0))) (v := (.int .u8 (q.1))) T5 rfl (hB2.at1 rfl) ?_)
       by_cases hc45 : (q.1 : Int) = (0)
       ·refine L_gy (dj := 69) rfl rfl rfl (X_cmp (k := .u8) (a := q.1) (b := 0) (r := true) rfl rfl rfl (decide_eq_true (p := ((q.1) : Int) = ((0) : Int)) (by omega)) ?_)
        refine L_op rfl (X_pick (t := false) (v := (.bool (true))) rfl rfl ?_)
        refine L_op rfl (X_move (v := (.bool (true))) rfl ?_)
        refine L_gn (dj := 74) (t := true) rfl rfl rfl rfl ?_
        refine L_gn (dj := 74) (t := true) rfl rfl rfl rfl ?_
        refine L_gn (dj := 74) (t := true) rfl rfl rfl rfl ?_
        refine L_gn (dj := 74) (t := true) rfl rfl rfl rfl ?_
        refine L_gn (dj := 74) (t := true) rfl rfl rfl rfl ?_
        refine L_gn (dj := 74) (t := true) rfl rfl rfl rfl ?_
        refine L_gn (dj := 74) (t := true) rfl rfl rfl rfl ?_
        refine L_gn (dj := 74) (t := true) rfl rfl rfl rfl ?_
        refine L_gn (dj := 74) (t := true) rfl rfl rfl rfl ?_
        refine L_gn (dj := 74) (t := true) rfl rfl rfl rfl ?_
        refine L_gn (dj := 74) (t := true) rfl rfl rfl rfl ?_
        refine L_gn (dj := 74) (t := true) rfl rfl rfl rfl ?_
        refine L_op rfl (X_pick (t := true) (v := (.bool (true))) rfl rfl ?_)
        refine L_nil ?_
        refine T_n ?_
        refine W_ct rfl ?_
        refine W_seq ?_
        refine W_reg ?_
        refine L_op rfl (X_fn (vs := []) en9 rfl (CT.mono (c_wakes _) ?_))
        rintro _ w46 ⟨rfl, hu46⟩
        have hz46 := hu46.size
        replace h0 := h0.ext hu46
        replace h1 := h1.ext hu46
        replace hU := hU.trans (Ext.upd hu46)
        replace hB1 := hB1.ext hu46
        replace hB2 := hB2.ext hu46
        replace hB3 := hB3.ext hu46
        refine L_op rfl (X_assign (v := (.bool (true))) rfl ?_)
        refine L_nil ?_
        refine T_n ?_
        refine W_ret ?_
        refine T_r ?_
        exact BQ_r (End_1 Try.results3 (v := .bool true) rfl ⟨rfl, hU.own hn0⟩)
       ·refine L_gy (dj := 69) rfl rfl rfl (X_cmp (k := .u8) (a := q.1) (b := 0) (r := false) rfl rfl rfl (decide_eq_false (p := ((q.1) : Int) = ((0) : Int)) (by omega)) ?_)
        refine L_op rfl (X_pick (t := false) (v := (.bool (false))) rfl rfl ?_)
        refine L_op rfl (X_move (v := (.bool (false))) rfl ?_)
        refine L_gy (dj := 74) rfl rfl rfl (X_fldP (b := b1) (o := 0) (r := 0) Fd29_0 rfl rfl ?_)
        refine L_gy (dj := 74) rfl rfl rfl (X_idxAP (len := 2) (sz := 4) (b := b1) (o := 0) (k := .i64) (i := 0) (r := 0) Try.underlying27 Z26 rfl rfl (by omega) (by omega) rfl ?_)
        refine L_gy (dj := 74) rfl rfl rfl (X_fldP (b := b1) (o := 0) (r := 1) Fd26_1 rfl rfl ?_)
        refine L_gy (dj := 74) rfl rfl rfl (X_load (p := (ptr b1 (1))) (v := p.d0.cv) T23 rfl (hB1.at1 rfl) ?_)
        refine L_gy (dj := 74) rfl rfl rfl (X_len (v := p.d0.cv) (n := p.d0.cs.length) Try.underlying23 rfl h0.2.1.sv ?_)
        refine L_gy (dj := 74) rfl rfl rfl (X_fldP (b := b1) (o := 0) (r := 0) Fd29_0 rfl rfl ?_)
        refine L_gy (dj := 74) rfl rfl rfl (X_idxAP (len := 2) (sz := 4) (b := b1) (o := 0) (k := .i64) (i := 1) (r := 4) Try.underlying27 Z26 rfl rfl (by omega) (by omega) rfl ?_)
        refine L_gy (dj := 74) rfl rfl rfl (X_fldP (b := b1) (o := 4) (r := 5) Fd26_1 rfl rfl ?_)
        refine L_gy (dj := 74) rfl rfl rfl (X_load (p := (ptr b1 (5))) (v := p.d1.cv) T23 rfl (hB1.at1 rfl) ?_)
        refine L_gy (dj := 74) rfl rfl rfl (X_len (v := p.d1.cv) (n := p.d1.cs.length) Try.underlying23 rfl h1.2.1.sv ?_)
        refine L_gy (dj := 74) rfl rfl rfl (X_max (k := .i64) (a := ((p.d0.cs.length : Nat) : Int)) (b := ((p.d1.cs.length : Nat) : Int)) (r := (max (((p.d0.cs.length : Nat) : Int)) (((p.d1.cs.length : Nat) : Int)))) rfl rfl (by omega) ?_)
        by_cases hc47 : ((max (((p.d0.cs.length : Nat) : Int)) (((p.d1.cs.length : Nat) : Int))) : Int) > (64)
        ·refine L_gy (dj := 74) rfl rfl rfl (X_cmp (k := .i64) (a := (max (((p.d0.cs.length : Nat) : Int)) (((p.d1.cs.length : Nat) : Int)))) (b := 64) (r := true) rfl rfl rfl (decide_eq_true (p := ((64) : Int) < (((max (((p.d0.cs.length : Nat) : Int)) (((p.d1.cs.length : Nat) : Int)))) : Int)) (by omega)) ?_)
         refine L_op rfl (X_pick (t := false) (v := (.bool (true))) rfl rfl ?_)
         refine L_nil ?_
         refine T_n ?_
         refine W_ct rfl ?_
         refine W_seq ?_
         refine W_reg ?_
         refine L_op rfl (X_fn (vs := []) en9 rfl (CT.mono (c_wakes _) ?_))
         rintro _ w48 ⟨rfl, hu48⟩
         have hz48 := hu48.size
         replace h0 := h0.ext hu48
         replace h1 := h1.ext hu48
         replace hU := hU.trans (Ext.upd hu48)
         replace hB1 := hB1.ext hu48
         replace hB2 := hB2.ext hu48
         replace hB3 := hB3.ext hu48
         refine L_op rfl (X_assign (v := (.bool (true))) rfl ?_)
         refine L_nil ?_
         refine T_n ?_
         refine W_ret ?_
         refine T_r ?_
         exact BQ_r (End_1 Try.results3 (v := .bool true) rfl ⟨rfl, hU.own hn0⟩)
        ·refine L_gy (dj := 74) rfl rfl rfl (X_cmp (k := .i64) (a := (max (((p.d0.cs.length : Nat) : Int)) (((p.d1.cs.length : Nat) : Int)))) (b := 64) (r := false) rfl rfl rfl (decide_eq_false (p := ((64) : Int) < (((max (((p.d0.cs.length : Nat) : Int)) (((p.d1.cs.length : Nat) : Int)))) : Int)) (by omega)) ?_)
         refine L_op rfl (X_pick (t := false) (v := (.bool (false))) rfl rfl ?_)
         refine L_nil ?_
         refine T_n ?_
         refine W_cf rfl ?_
         refine W_skip ?_
         refine T_n ?_
         refine W_seq ?_
         refine W_reg ?_
         refine L_op rfl (X_loadA (p := (ptr b1 (0))) (xs := [p.d0.pv, p.d0.cv, p.d0.bv, (.bool (p.d0.off)), p.d1.pv, p.d1.cv, p.d1.bv, (.bool (p.d1.off)), (.int .i64 (p.fz)), (.bool (p.dn))]) A29 rfl hB1.atAll rfl ?_)
         refine L_op rfl (X_loadA (p := (ptr b2 (0))) (xs := ptC q) A35 rfl hB2.atAll rfl ?_)
         refine L_op rfl (X_loadA (p := (ptr b3 (0))) (xs := ((pg.1).map byteV)) A37 rfl hB3.atAll (by rw [List.length_map]; exact pg.2) ?_)
         have hMA : p.da.a.May := hgA.1 hc5
         have hMB : p.da.b.May := hgB.1 hc7
         have hdn : p.da.dn = false := hs39
         have hfn : p.da.fz < 0 := by show p.fz < 0; omega
         have hRt := of_decide_eq_true hc44
         have hnoff : ¬ (p.da.a.off = true ∧ p.da.b.off = true) := fun h_ => by have h2_ : p.d0.off = true := h_.1; rw [hs8] at h2_; cases h2_
         have hsA := may_sz hMA; have hsB := may_sz hMB
         have hcA : p.da.a.cs.length ≤ 64 := by show p.d0.cs.length ≤ 64; omega
         have hcB : p.da.b.cs.length ≤ 64 := by show p.d1.cs.length ≤ 64; omega
         have hmA : m ≤ p.da.a.ps.length := by show m ≤ p.d0.ps.length; omega
         have hmB : m ≤ p.da.b.ps.length := by show m ≤ p.d1.ps.length; omega
         have hwl := write_law (pg := pg) hdn hfn hnoff hMA hMB (by omega) (by omega) hmA hmB hRt
         have hasl := (asQ_len q).1
         have hinm := asQ_in hRt
         have hinA : ∀ a ∈ asQ q, 0 ≤ a ∧ a < (p.da.a.ps.length : Int) := fun a ha => ⟨(hinm a ha).1, by have := (hinm a ha).2; omega⟩
         have hinB : ∀ a ∈ asQ q, 0 ≤ a ∧ a < (p.da.b.ps.length : Int) := fun a ha => ⟨(hinm a ha).1, by have := (hinm a ha).2; omega⟩
         obtain ⟨sq, hsq⟩ : ∃ n, n = w43.heap.size := ⟨_, rfl⟩
         have hcr_ := c_writeM q pg p w43 (by omega) 0 n0 0 n0 (by omega) (by omega) h0 h1 hq (hsA.mono (by decide)) (hsB.mono (by decide))
         refine L_op rfl (X_fn (vs := [(.agg ([p.d0.pv, p.d0.cv, p.d0.bv, (.bool (p.d0.off)), p.d1.pv, p.d1.cv, p.d1.bv, (.bool (p.d1.off)), (.int .i64 (p.fz)), (.bool (p.dn))]).toArray), (.agg (ptC q).toArray), (.agg (((pg.1).map byteV)).toArray)]) en10 rfl ?_)
         refine CT.mono hcr_ ?_
         clear hcr_
         rintro _ w49 ⟨pq, l0q, u0q, l1q, u1q, rfl, hq0, hq1, hiq0, hiq1, hdaq, hu49⟩
         have hz49 := hu49.size
         obtain ⟨eq, heq⟩ : ∃ z, z = (writeD p.da q pg).2 := ⟨_, rfl⟩
         rw [← heq]
         obtain ⟨uq, huq⟩ : ∃ n, n = w49.heap.size := ⟨_, rfl⟩
         rw [← hsq, ← huq] at hiq0 hiq1
         replace h0 := h0.ext hu49
         replace h1 := h1.ext hu49
         replace hU := hU.trans (Ext.upd hu49)
         replace hB1 := hB1.ext hu49
         replace hB2 := hB2.ext hu49
         replace hB3 := hB3.ext hu49
         rw [hwl] at heq hdaq
         replace heq : eq = 0 := heq
         subst heq
         replace hdaq : pq.da = wroteD pg q p.da := hdaq
         have hoA : pq.d0.da = addW pg (asQ q) p.d0.da := congrArg PD.a hdaq
         have hoB : pq.d1.da = addW pg (asQ q) p.d1.da := congrArg PD.b hdaq
         have hof : pq.fz = p.fz := congrArg PD.fz hdaq
         have hod : pq.dn = p.dn := congrArg PD.dn hdaq
         have hNA : pq.da.a.May := by rw [hdaq]; exact add_may hMA (by omega) hinA
         have hNB : pq.da.b.May := by rw [hdaq]; exact add_may hMB (by omega) hinB
         refine L_op rfl (X_move (v := (.tuple #[(.agg #[pq.d0.pv, pq.d0.cv, pq.d0.bv, (.bool (pq.d0.off)), pq.d1.pv, pq.d1.cv, pq.d1.bv, (.bool (pq.d1.off)), (.int .i64 (pq.fz)), (.bool (pq.dn))]), (.int .i64 (0))])) rfl ?_)
         refine L_op rfl (X_extract (l := [(.agg #[pq.d0.pv, pq.d0.cv, pq.d0.bv, (.bool (pq.d0.off)), pq.d1.pv, pq.d1.cv, pq.d1.bv, (.bool (pq.d1.off)), (.int .i64 (pq.fz)), (.bool (pq.dn))]), (.int .i64 (0))]) (v := (.agg #[pq.d0.pv, pq.d0.cv, pq.d0.bv, (.bool (pq.d0.off)), pq.d1.pv, pq.d1.cv, pq.d1.bv, (.bool (pq.d1.off)), (.int .i64 (pq.fz)), (.bool (pq.dn))])) rfl rfl ?_)
         refine L_op rfl (X_extract (l := [(.agg #[pq.d0.pv, pq.d0.cv, pq.d0.bv, (.bool (pq.d0.off)), pq.d1.pv, pq.d1.cv, pq.d1.bv, (.bool (pq.d1.off)), (.int .i64 (pq.fz)), (.bool (pq.dn))]), (.int .i64 (0))]) (v := (.int .i64 (0))) rfl rfl ?_)
         refine L_op rfl (X_alloc (z := (.agg #[(.slice none 0 0), (.slice none 0 0), (.slice none 0 0), (.bool (false)), (.slice none 0 0), (.slice none 0 0), (.slice none 0 0), (.bool (false)), (.int .i64 (0)), (.bool (false))])) (c := #[(.slice none 0 0), (.slice none 0 0), (.slice none 0 0), (.bool (false)), (.slice none 0 0), (.slice none 0 0), (.slice none 0 0), (.bool (false)), (.int .i64 (0)), (.bool (false))]) Zv29 rfl ?_)
         intro b50 w50 hn50
         have hbn50 := hn50.num; have hbs50 := hn50.size
         replace h0 := h0.ext hn50.ext
         replace h1 := h1.ext hn50.ext
         replace hU := hU.trans (Ext.upd hn50.ext)
         replace hB1 := hB1.ext hn50.ext
         replace hB2 := hB2.ext hn50.ext
         replace hB3 := hB3.ext hn50.ext
         replace hq0 := hq0.ext hn50.ext
         replace hq1 := hq1.ext hn50.ext
         have hB50 := hn50.blk
         refine L_op0 (X_storeW (b := b50) (ys := [pq.d0.pv, pq.d0.cv, pq.d0.bv, (.bool (pq.d0.off)), pq.d1.pv, pq.d1.cv, pq.d1.bv, (.bool (pq.d1.off)), (.int .i64 (pq.fz)), (.bool (pq.dn))]) A29 rfl rfl (List.forall_mem_cons.2 ⟨(hq0.1.sv.one), (List.forall_mem_cons.2 ⟨(hq0.2.1.sv.one), (List.forall_mem_cons.2 ⟨(hq0.2.2.sv.one), (List.forall_mem_cons.2 ⟨rfl, (List.forall_mem_cons.2 ⟨(hq1.1.sv.one), (List.forall_mem_cons.2 ⟨(hq1.2.1.sv.one), (List.forall_mem_cons.2 ⟨(hq1.2.2.sv.one), (List.forall_mem_cons.2 ⟨rfl, (List.forall_mem_cons.2 ⟨rfl, (List.forall_mem_cons.2 ⟨rfl, (fun _ h => by cases h)⟩)⟩)⟩)⟩)⟩)⟩)⟩)⟩)⟩)⟩) rfl hB50 rfl ?_)
         intro w51 hu51 hb51
         have hz51 := hu51.size
         replace h0 := h0.upd hu51 fun i h1 h2 h => by have h : i = b50 := h; omega
         replace h1 := h1.upd hu51 fun i h1 h2 h => by have h : i = b50 := h; omega
         replace hU := hU.trans (hu51.mono fun i _ h => by have h : i = b50 := h; show n0 ≤ i; omega)
         replace hB1 := hB1.upd hu51 fun h => by have h : b1 = b50 := h; omega
         replace hB2 := hB2.upd hu51 fun h => by have h : b2 = b50 := h; omega
         replace hB3 := hB3.upd hu51 fun h => by have h : b3 = b50 := h; omega
         replace hq0 := hq0.upd hu51 fun i h1 h2 h => by have h : i = b50 := h; omega
         replace hq1 := hq1.upd hu51 fun i h1 h2 h => by have h : i = b50 := h; omega
         replace hB50 : Blk w51 b50 #[pq.d0.pv, pq.d0.cv, pq.d0.bv, (.bool (pq.d0.off)), pq.d1.pv, pq.d1.cv, pq.d1.bv, (.bool (pq.d1.off)), (.int .i64 (pq.fz)), (.bool (pq.dn))] 29 := hb51
         refine L_op rfl (X_assign (v := (.int .i64 (0))) rfl ?_)
         refine L_nil ?_
         refine T_n ?_
         refine W_seq ?_
         refine W_reg ?_
         refine L_op rfl (X_loadA (p := (ptr b50 (0))) (xs := [pq.d0.pv, pq.d0.cv, pq.d0.bv, (.bool (pq.d0.off)), pq.d1.pv, pq.d1.cv, pq.d1.bv, (.bool (pq.d1.off)), (.int .i64 (pq.fz)), (.bool (pq.dn))]) A29 rfl hB50.atAll rfl ?_)
         have hfl : flushD pq.da = (flushedD pq.da, 0) := flush_law (by rw [hdaq]; exact hdn) (by rw [hdaq]; exact hfn) (by rw [hdaq]; show ¬ ((addW pg (asQ q) p.da.a).off = true ∧ (addW pg (asQ q) p.da.b).off = true); rw [addW_o, addW_o]; exact hnoff) hNA hNB
         obtain ⟨sr, hsr⟩ : ∃ n, n = w51.heap.size := ⟨_, rfl⟩
         have hcr_ := c_flushM pq w51 (by omega) l0q u0q l1q u1q (by omega) (by omega) hq0 hq1 ((may_sz hNA).mono (by decide)) ((may_sz hNB).mono (by decide))
         refine L_op rfl (X_fn (vs := [(.agg ([pq.d0.pv, pq.d0.cv, pq.d0.bv, (.bool (pq.d0.off)), pq.d1.pv, pq.d1.cv, pq.d1.bv, (.bool (pq.d1.off)), (.int .i64 (pq.fz)), (.bool (pq.dn))]).toArray)]) en11 rfl ?_)
         refine CT.mono hcr_ ?_
         clear hcr_
         rintro _ w52 ⟨pr, l0r, u0r, l1r, u1r, rfl, hr0, hr1, hir0, hir1, hdar, hu52⟩
         have hz52 := hu52.size
         obtain ⟨er, her⟩ : ∃ z, z = (flushD pq.da).2 := ⟨_, rfl⟩
         rw [← her]
         obtain ⟨ur, hur⟩ : ∃ n, n = w52.heap.size := ⟨_, rfl⟩
         rw [← hsr, ← hur] at hir0 hir1
         replace h0 := h0.ext hu52
         replace h1 := h1.ext hu52
         replace hU := hU.trans (Ext.upd hu52)
         replace hB1 := hB1.ext hu52
         replace hB2 := hB2.ext hu52
         replace hB3 := hB3.ext hu52
         replace hq0 := hq0.ext hu52
         replace hq1 := hq1.ext hu52
         replace hB50 := hB50.ext hu52
         rw [hfl] at her hdar
         replace her : er = 0 := her
         subst her
         replace hdar : pr.da = flushedD pq.da := hdar
         have hfA : pr.d0.da = flA pq.d0.da := congrArg PD.a hdar
         have hfB : pr.d1.da = flA pq.d1.da := congrArg PD.b hdar
         refine L_op rfl (X_move (v := (.tuple #[(.agg #[pr.d0.pv, pr.d0.cv, pr.d0.bv, (.bool (pr.d0.off)), pr.d1.pv, pr.d1.cv, pr.d1.bv, (.bool (pr.d1.off)), (.int .i64 (pr.fz)), (.bool (pr.dn))]), (.int .i64 (0))])) rfl ?_)
         refine L_op rfl (X_extract (l := [(.agg #[pr.d0.pv, pr.d0.cv, pr.d0.bv, (.bool (pr.d0.off)), pr.d1.pv, pr.d1.cv, pr.d1.bv, (.bool (pr.d1.off)), (.int .i64 (pr.fz)), (.bool (pr.dn))]), (.int .i64 (0))]) (v := (.agg #[pr.d0.pv, pr.d0.cv, pr.d0.bv, (.bool (pr.d0.off)), pr.d1.pv, pr.d1.cv, pr.d1.bv, (.bool (pr.d1.off)), (.int .i64 (pr.fz)), (.bool (pr.dn))])) rfl rfl ?_)
         refine L_op rfl (X_extract (l := [(.agg #[pr.d0.pv, pr.d0.cv, pr.d0.bv, (.bool (pr.d0.off)), pr.d1.pv, pr.d1.cv, pr.d1.bv, (.bool (pr.d1.off)), (.int .i64 (pr.fz)), (.bool (pr.dn))]), (.int .i64 (0))]) (v := (.int .i64 (0))) rfl rfl ?_)
         refine L_op rfl (X_alloc (z := (.agg #[(.slice none 0 0), (.slice none 0 0), (.slice none 0 0), (.bool (false)), (.slice none 0 0), (.slice none 0 0), (.slice none 0 0), (.bool (false)), (.int .i64 (0)), (.bool (false))])) (c := #[(.slice none 0 0), (.slice none 0 0), (.slice none 0 0), (.bool (false)), (.slice none 0 0), (.slice none 0 0), (.slice none 0 0), (.bool (false)), (.int .i64 (0)), (.bool (false))]) Zv29 rfl ?_)
         intro b53 w53 hn53
         have hbn53 := hn53.num; have hbs53 := hn53.size
         replace h0 := h0.ext hn53.ext
         replace h1 := h1.ext hn53.ext
         replace hU := hU.trans (Ext.upd hn53.ext)
         replace hB1 := hB1.ext hn53.ext
         replace hB2 := hB2.ext hn53.ext
         replace hB3 := hB3.ext hn53.ext
         replace hq0 := hq0.ext hn53.ext
         replace hq1 := hq1.ext hn53.ext
         replace hB50 := hB50.ext hn53.ext
         replace hr0 := hr0.ext hn53.ext
         replace hr1 := hr1.ext hn53.ext
         have hB53 := hn53.blk
         refine L_op0 (X_storeW (b := b53) (ys := [pr.d0.pv, pr.d0.cv, pr.d0.bv, (.bool (pr.d0.off)), pr.d1.pv, pr.d1.cv, pr.d1.bv, (.bool (pr.d1.off)), (.int .i64 (pr.fz)), (.bool (pr.dn))]) A29 rfl rfl (List.forall_mem_cons.2 ⟨(hr0.1.sv.one), (List.forall_mem_cons.2 ⟨(hr0.2.1.sv.one), (List.forall_mem_cons.2 ⟨(hr0.2.2.sv.one), (List.forall_mem_cons.2 ⟨rfl, (List.forall_mem_cons.2 ⟨(hr1.1.sv.one), (List.forall_mem_cons.2 ⟨(hr1.2.1.sv.one), (List.forall_mem_cons.2 ⟨(hr1.2.2.sv.one), (List.forall_mem_cons.2 ⟨rfl, (List.forall_mem_cons.2 ⟨rfl, (List.forall_mem_cons.2 ⟨rfl, (fun _ h => by cases h)⟩)⟩)⟩)⟩)⟩)⟩)⟩)⟩)⟩)⟩) rfl hB53 rfl ?_)
         intro w54 hu54 hb54
         have hz54 := hu54.size
         replace h0 := h0.upd hu54 fun i h1 h2 h => by have h : i = b53 := h; omega
         replace h1 := h1.upd hu54 fun i h1 h2 h => by have h : i = b53 := h; omega
         replace hU := hU.trans (hu54.mono fun i _ h => by have h : i = b53 := h; show n0 ≤ i; omega)
         replace hB1 := hB1.upd hu54 fun h => by have h : b1 = b53 := h; omega
         replace hB2 := hB2.upd hu54 fun h => by have h : b2 = b53 := h; omega
         replace hB3 := hB3.upd hu54 fun h => by have h : b3 = b53 := h; omega
         replace hq0 := hq0.upd hu54 fun i h1 h2 h => by have h : i = b53 := h; omega
         replace hq1 := hq1.upd hu54 fun i h1 h2 h => by have h : i = b53 := h; omega
         replace hB50 := hB50.upd hu54 fun h => by have h : b50 = b53 := h; omega
         replace hr0 := hr0.upd hu54 fun i h1 h2 h => by have h : i = b53 := h; omega
         replace hr1 := hr1.upd hu54 fun i h1 h2 h => by have h : i = b53 := h; omega
         replace hB53 : Blk w54 b53 #[pr.d0.pv, pr.d0.cv, pr.d0.bv, (.bool (pr.d0.off)), pr.d1.pv, pr.d1.cv, pr.d1.bv, (.bool (pr.d1.off)), (.int .i64 (pr.fz)), (.bool (pr.dn))] 29 := hb54
         refine L_op rfl (X_assign (v := (.int .i64 (0))) rfl ?_)
         refine L_nil ?_
         refine T_n ?_
         refine W_seq ?_
         refine W_reg ?_
         refine L_op rfl (X_loadA (p := (ptr b2 (0))) (xs := ptC q) A35 rfl hB2.atAll rfl ?_)
         obtain ⟨sC, hsC⟩ : ∃ n, n = w54.heap.size := ⟨_, rfl⟩
         have hcr_ := c_copiesR q w54 hq
         refine L_op rfl (X_fn (vs := [(.agg (ptC q).toArray)]) en12 rfl ?_)
         refine CT.mono hcr_ ?_
         clear hcr_
         rintro vC w55 ⟨hC, hu55⟩
         have hz55 := hu55.size
         obtain ⟨uC, huC⟩ : ∃ n, n = w55.heap.size := ⟨_, rfl⟩
         rw [← hsC, ← huC] at hC
         replace h0 := h0.ext hu55
         replace h1 := h1.ext hu55
         replace hU := hU.trans (Ext.upd hu55)
         replace hB1 := hB1.ext hu55
         replace hB2 := hB2.ext hu55
         replace hB3 := hB3.ext hu55
         replace hq0 := hq0.ext hu55
         replace hq1 := hq1.ext hu55
         replace hB50 := hB50.ext hu55
         replace hr0 := hr0.ext hu55
         replace hr1 := hr1.ext hu55
         replace hB53 := hB53.ext hu55
         have hCsv := hC.sv
         have hcl4 := copL_len q
         refine L_op rfl (X_assign (v := vC) rfl ?_)
         refine L_nil ?_
         refine T_n ?_
         refine W_seq ?_
         refine W_seq ?_
         refine W_reg ?_
         refine L_op rfl (X_move (v := (.int .i64 (0))) rfl ?_)
         refine L_op rfl (X_cmp (k := .i64) (a := 0) (b := 0) (r := false) rfl rfl rfl rfl ?_)
         refine L_op rfl (X_move (v := (.bool (false))) rfl ?_)
         refine L_gy (dj := 105) rfl rfl rfl (X_move (v := (.int .i64 (0))) rfl ?_)
         refine L_gy (dj := 105) rfl rfl rfl (X_cmp (k := .i64) (a := 0) (b := 0) (r := false) rfl rfl rfl rfl ?_)
         refine L_op rfl (X_pick (t := false) (v := (.bool (false))) rfl rfl ?_)
         refine L_nil ?_
         refine T_n ?_
         refine W_cf rfl ?_
         refine W_skip ?_
         refine T_n ?_
         refine W_seq ?_
         refine W_seq ?_
         refine W_reg ?_
         refine L_op rfl (X_assign (v := (.int .i64 (0))) rfl ?_)
         refine L_nil ?_
         refine T_n ?_
         refine W_block ?_
         obtain ⟨nL, hnL⟩ : ∃ n, n = w55.heap.size := ⟨_, rfl⟩
         have hltL_hB1 := hB1.lt
         have hltL_hB2 := hB2.lt
         have hltL_hB3 := hB3.lt
         have hltL_hB50 := hB50.lt
         have hltL_hB53 := hB53.lt
         refine W_loop (α := Nat) [6, 13, 14, 15, 16, 17, 18, 109, 110, 111, 112, 113, 114, 115, 116, 117, 118, 119, 120, 121, 122, 123, 124, 125, 126, 127, 128, 129, 130, 131, 132, 133, 134, 135, 136, 137, 138, 139, 140, 141, 142, 143, 144, 145, 146, 147, 148, 149, 150, 151, 152, 153, 154, 155, 156, 157, 158, 159, 160, 161, 162, 163, 164, 165, 166, 167, 168, 169, 170, 171, 172, 173, 174, 175, 176, 177, 178, 179, 180, 181, 182, 183, 184, 185, 186, 187, 188, 189, 190, 191, 192, 193, 194, 195, 196, 197] (fun i => [(13, (.int .i64 (((i : Nat) : Int))))]) (fun i w_ => i ≤ (copL q).length ∧ Blk w_ b1 #[p.d0.pv, p.d0.cv, p.d0.bv, (.bool (p.d0.off)), p.d1.pv, p.d1.cv, p.d1.bv, (.bool (p.d1.off)), (.int .i64 (p.fz)), (.bool (p.dn))] 29 ∧ Blk w_ b3 (pg.1.map byteV).toArray 37 ∧ Blk w_ b50 #[pq.d0.pv, pq.d0.cv, pq.d0.bv, (.bool (pq.d0.off)), pq.d1.pv, pq.d1.cv, pq.d1.bv, (.bool (pq.d1.off)), (.int .i64 (pq.fz)), (.bool (pq.dn))] 29 ∧ Blk w_ b53 #[pr.d0.pv, pr.d0.cv, pr.d0.bv, (.bool (pr.d0.off)), pr.d1.pv, pr.d1.cv, pr.d1.bv, (.bool (pr.d1.off)), (.int .i64 (pr.fz)), (.bool (pr.dn))] 29 ∧ p.d0.Rd w_ 0 n0 ∧ p.d1.Rd w_ 0 n0 ∧ pq.d0.Rd w_ l0q u0q ∧ pq.d1.Rd w_ l1q u1q ∧ pr.d0.Rd w_ l0r u0r ∧ pr.d1.Rd w_ l1r u1r ∧ NRd LC w_ sC uC vC (copL q) ∧ Upd (fun i => n0 ≤ i) w w_ ∧ nL ≤ w_.heap.size) (fun i => (copL q).length - i) ⟨rfl, 0, ⟨Nat.zero_le _, hB1, hB3, hB50, hB53, h0, h1, hq0, hq1, hr0, hr1, hC, hU, by omega⟩, Out.refl _ _, ⟨rfl, trivial⟩⟩ ?_
         rintro i w56 _ ⟨hil, hB1, hB3, hB50, hB53, h0, h1, hq0, hq1, hr0, hr1, hC, hU, hnLw⟩
         have hsz_ := hU.size
         refine W_seq ?_
         refine W_seq ?_
         refine W_reg ?_
         refine L_op rfl (X_move (v := (.int .i64 (((i : Nat) : Int)))) rfl ?_)
         refine L_op rfl (X_move (v := vC) rfl ?_)
         refine L_op rfl (X_len (v := vC) (n := (copL q).length) Try.underlying45 rfl hC.sv ?_)
         by_cases hc57 : (((i : Nat) : Int) : Int) < ((((copL q).length : Nat) : Int))
         ·refine L_op rfl (X_cmp (k := .i64) (a := ((i : Nat) : Int)) (b := (((copL q).length : Nat) : Int)) (r := true) rfl rfl rfl (decide_eq_true (p := ((((i : Nat) : Int)) : Int) < (((((copL q).length : Nat) : Int)) : Int)) (by omega)) ?_)
          have hi : i < (copL q).length := by omega
          obtain ⟨⟨di, a⟩, hat⟩ : ∃ e, (copL q)[i]? = some e := ⟨_, List.getElem?_eq_getElem hi⟩
          obtain ⟨hdi, ha0, ha1⟩ := copL_in hq (List.mem_of_getElem? hat)
          refine L_nil ?_
          refine T_n ?_
          refine W_ct rfl ?_
          refine W_skip ?_
          refine T_n ?_
          refine W_seq ?_
          refine W_block ?_
          refine W_seq ?_
          refine W_reg ?_
          refine L_op rfl (X_move (v := vC) rfl ?_)
          refine L_op rfl (X_move (v := (.int .i64 (((i : Nat) : Int)))) rfl ?_)
          refine L_op rfl (X_idx (v := vC) (n := (copL q).length) (k := .i64) (i := ((i : Nat) : Int)) S45 rfl hC.sv rfl (by omega) (by omega) ?_)
          refine L_op rfl (X_idxAS (len := 2) (sz := 1) (v := vC) (o := (((i : Nat) : Int) : Int).toNat * 2) (k := .i64) (i := 0) (r := (((i : Nat) : Int) : Int).toNat * 2 + 0) Try.underlying47 Z3 rfl hC.sv (by omega) rfl (by omega) (by omega) rfl ?_)
          refine L_op rfl (X_load (p := (pof vC ((((i : Nat) : Int) : Int).toNat * 2 + 0))) (v := .int .i64 (di)) T3 rfl (cat0 hC (k := i) (by omega) hat) ?_)
          refine L_op rfl (X_assign (v := (.int .i64 (di))) rfl ?_)
          refine L_nil ?_
          refine T_n ?_
          refine W_seq ?_
          refine W_seq ?_
          refine W_reg ?_
          rcases hdi with rfl | rfl
          ·refine L_op rfl (X_move (v := (.int .i64 (0))) rfl ?_)
           refine L_op rfl (X_fldP (b := b1) (o := 0) (r := 0) Fd29_0 rfl rfl ?_)
           refine L_op rfl (X_idxAP (len := 2) (sz := 4) (b := b1) (o := 0) (k := .i64) (i := 0) (r := 0) Try.underlying27 Z26 rfl rfl (by omega) (by omega) rfl ?_)
           refine L_op rfl (X_fldP (b := b1) (o := 0) (r := 3) Fd26_3 rfl rfl ?_)
           refine L_op rfl (X_load (p := (ptr b1 (3))) (v := .bool false) T4 rfl (hB1.at1 (by rw [hs8]; rfl)) ?_)
           refine L_nil ?_
           refine T_n ?_
           refine W_cf rfl ?_
           refine W_skip ?_
           refine T_n ?_
           refine W_seq ?_
           have haQ := cop_mem (List.mem_of_getElem? hat)
           have hre16 : rdD pq.d0.da a = (pg, 0) := by rw [hoA]; exact read_add (d := p.da.a) hMA hs8 (by omega) hinA haQ
           have hre17 : rdD pr.d0.da a = (pg, 0) := by rw [hfA, read_flush (d := pq.d0.da) hNA (by rw [hoA, addW_o]; exact hs8) (hinA a haQ).1 (by rw [hoA, addW_ps]; exact (hinA a haQ).2)]; exact hre16
           have hcz : pr.d0.cs.length = 0 := congrArg List.length (show pr.d0.da.cs = [] from (by rw [hfA, flA_on (by rw [hoA, addW_o]; exact hs8)]))
           obtain ⟨n16, hn16⟩ : ∃ n, n = w56.heap.size := ⟨_, rfl⟩
           have hlt16_hB1 := hB1.lt
           have hlt16_hB3 := hB3.lt
           have hlt16_hB50 := hB50.lt
           have hlt16_hB53 := hB53.lt
           refine W_drawT 15 [[], [], [0, 1], [0, 1, 2], [], [], [4, 5], [4, 5, 6], [4, 5, 6, 7], [0, 1, 2, 3, 4, 5, 6, 7, 8], [0, 1, 2, 3, 4, 5, 6, 7, 8, 9], [0, 1, 2, 3, 4, 5, 6, 7, 8, 9, 10], [0, 1, 2, 3, 4, 5, 6, 7, 8, 9, 10], [], [0, 1, 2, 3, 4, 5, 6, 7, 8, 9, 10, 11, 13], [0, 1, 2, 3, 4, 5, 6, 7, 8, 9, 10, 11, 12, 13, 14]] [[], [], [0, 1], [0, 1, 2], [], [], [4, 5], [4, 5, 6], [4, 5, 6, 7], [0, 1, 2, 3, 4, 5, 6, 7, 8], [0, 1, 2, 3, 4, 5, 6, 7, 8, 9], [0, 1, 2, 3, 4, 5, 6, 7, 8, 9, 10], [0, 1, 2, 3, 4, 5, 6, 7, 8, 9, 10], [], [0, 1, 2, 3, 4, 5, 6, 7, 8, 9, 10, 11, 13]] [0, 1, 2, 3, 4, 5, 6, 7, 8, 9, 10, 11, 12, 14] [[], [], [], [], [], [], [], [], [], [], [], [], [], [], [13]] (fun j b => (j = 14 ∧ n16 ≤ b)) mixed (by kernel_rfl) (by decide) ?_
           refine ⟨.det (fun val => (.int .i64 (0))), ⟨fun _ _ hv => rfl, fun _ _ _ _ _ => trivial⟩, fun val h_ W hx he => ⟨trivial, ?_⟩, ?_⟩
           ·have hE := Upd.refl (fun _ => False) W
            refine id (X_move (v := (.int .i64 (0))) rfl ?_)
            exact ⟨Ext.upd hE, rfl⟩
           refine ⟨.det (fun val => (ptr b50 (0))), ⟨fun _ _ hv => rfl, fun _ _ _ _ _ => trivial⟩, fun val h_ W hx he => ⟨trivial, ?_⟩, ?_⟩
           ·have hE := Upd.refl (fun _ => False) W
            refine id (X_fldP (b := b50) (o := 0) (r := 0) Fd29_0 rfl rfl ?_)
            exact ⟨Ext.upd hE, rfl⟩
           refine ⟨.det (fun val => (ptr b50 (0))), ⟨fun _ _ hv => rfl, fun _ _ _ _ _ => trivial⟩, fun val h_ W hx he => ⟨trivial, ?_⟩, ?_⟩
           ·have hE := Upd.refl (fun _ => False) W
            refine id (X_idxAP (len := 2) (sz := 4) (b := b50) (o := 0) (k := .i64) (i := 0) (r := 0) Try.underlying27 Z26 rfl rfl (by omega) (by omega) rfl ?_)
            exact ⟨Ext.upd hE, rfl⟩
           refine ⟨.det (fun val => (.agg #[pq.d0.pv, pq.d0.cv, pq.d0.bv, (.bool (pq.d0.off))])), ⟨fun _ _ hv => rfl, fun _ _ _ _ _ => trivial⟩, fun val h_ W hx he => ⟨trivial, ?_⟩, ?_⟩
           ·replace hx := (Upd.drew _ _).trans hx
            replace hx : Upd (fun b => False) w56 W := hx.mono fun b _ h_ => by obtain ⟨j, _, hne, hm_, hS⟩ := h_; obtain ⟨rfl, hS⟩ := hS; exact absurd hm_ (by decide)
            replace hB50 := hB50.ext hx
            have hE := Upd.refl (fun _ => False) W
            refine id (X_loadA (p := (ptr b50 (0))) (xs := [pq.d0.pv, pq.d0.cv, pq.d0.bv, (.bool (pq.d0.off))]) A26 rfl (hB50.part (o := 0) (n := 4) rfl) rfl ?_)
            exact ⟨Ext.upd hE, rfl⟩
           refine ⟨.det (fun val => vC), ⟨fun _ _ hv => rfl, fun _ _ _ _ _ => trivial⟩, fun val h_ W hx he => ⟨trivial, ?_⟩, ?_⟩
           ·have hE := Upd.refl (fun _ => False) W
            refine id (X_move (v := vC) rfl ?_)
            exact ⟨Ext.upd hE, rfl⟩
           refine ⟨.det (fun val => (.int .i64 (((i : Nat) : Int)))), ⟨fun _ _ hv => rfl, fun _ _ _ _ _ => trivial⟩, fun val h_ W hx he => ⟨trivial, ?_⟩, ?_⟩
           ·have hE := Upd.refl (fun _ => False) W
            refine id (X_move (v := (.int .i64 (((i : Nat) : Int)))) rfl ?_)
            exact ⟨Ext.upd hE, rfl⟩
           refine ⟨.det (fun val => (pof vC ((((i : Nat) : Int) : Int).toNat * 2))), ⟨fun _ _ hv => rfl, fun _ _ _ _ _ => trivial⟩, fun val h_ W hx he => ⟨trivial, ?_⟩, ?_⟩
           ·replace hx := (Upd.drew _ _).trans hx
            replace hx : Upd (fun b => False) w56 W := hx.mono fun b _ h_ => by obtain ⟨j, _, hne, hm_, hS⟩ := h_; obtain ⟨rfl, hS⟩ := hS; exact absurd hm_ (by decide)
            replace hC := hC.ext hx
            have hE := Upd.refl (fun _ => False) W
            refine id (X_idx (v := vC) (n := (copL q).length) (k := .i64) (i := ((i : Nat) : Int)) S45 rfl hC.sv rfl (by omega) (by omega) ?_)
            exact ⟨Ext.upd hE, rfl⟩
           refine ⟨.det (fun val => (pof vC ((((i : Nat) : Int) : Int).toNat * 2 + 1))), ⟨fun _ _ hv => rfl, fun _ _ _ _ _ => trivial⟩, fun val h_ W hx he => ⟨trivial, ?_⟩, ?_⟩
           ·replace hx := (Upd.drew _ _).trans hx
            replace hx : Upd (fun b => False) w56 W := hx.mono fun b _ h_ => by obtain ⟨j, _, hne, hm_, hS⟩ := h_; obtain ⟨rfl, hS⟩ := hS; exact absurd hm_ (by decide)
            replace hC := hC.ext hx
            have hE := Upd.refl (fun _ => False) W
            refine id (X_idxAS (len := 2) (sz := 1) (v := vC) (o := (((i : Nat) : Int) : Int).toNat * 2) (k := .i64) (i := 1) (r := (((i : Nat) : Int) : Int).toNat * 2 + 1) Try.underlying47 Z3 rfl hC.sv (by omega) rfl (by omega) (by omega) rfl ?_)
            exact ⟨Ext.upd hE, rfl⟩
           refine ⟨.det (fun val => (.int .i64 (a))), ⟨fun _ _ hv => rfl, fun _ _ _ _ _ => trivial⟩, fun val h_ W hx he => ⟨trivial, ?_⟩, ?_⟩
           ·replace hx := (Upd.drew _ _).trans hx
            replace hx : Upd (fun b => False) w56 W := hx.mono fun b _ h_ => by obtain ⟨j, _, hne, hm_, hS⟩ := h_; obtain ⟨rfl, hS⟩ := hS; exact absurd hm_ (by decide)
            replace hC := hC.ext hx
            have hE := Upd.refl (fun _ => False) W
            refine id (X_load (p := (pof vC ((((i : Nat) : Int) : Int).toNat * 2 + 1))) (v := .int .i64 (a)) T3 rfl (cat1 hC (k := i) (by omega) hat) ?_)
            exact ⟨Ext.upd hE, rfl⟩
           refine ⟨.det (fun val => (.tuple #[(pageV pg), (.int .i64 (0))])), ⟨fun _ _ hv => rfl, fun _ _ _ _ _ => trivial⟩, fun val h_ W hx he => ⟨trivial, ?_⟩, ?_⟩
           ·replace hx := (Upd.drew _ _).trans hx
            replace hx : Upd (fun b => False) w56 W := hx.mono fun b _ h_ => by obtain ⟨j, _, hne, hm_, hS⟩ := h_; obtain ⟨rfl, hS⟩ := hS; exact absurd hm_ (by decide)
            replace hB1 := hB1.ext hx
            replace hB3 := hB3.ext hx
            replace hB50 := hB50.ext hx
            replace hB53 := hB53.ext hx
            replace h0 := h0.ext hx
            replace h1 := h1.ext hx
            replace hq0 := hq0.ext hx
            replace hq1 := hq1.ext hx
            replace hr0 := hr0.ext hx
            replace hr1 := hr1.ext hx
            replace hC := hC.ext hx
            have hE := Upd.refl (fun _ => False) W
            have hxs_ := hx.size
            have hcr_ := c_readRD pq.d0 a W l0q u0q (by omega) hq0
            refine id (X_fn (vs := [(.agg #[pq.d0.pv, pq.d0.cv, pq.d0.bv, (.bool (pq.d0.off))]), (.int .i64 (a))]) en14 rfl ?_)
            refine CT.mono hcr_ ?_
            clear hcr_
            rintro _ w59 ⟨rfl, hu59⟩
            have hz59 := hu59.size
            replace hB1 := hB1.ext hu59
            replace hB3 := hB3.ext hu59
            replace hB50 := hB50.ext hu59
            replace hB53 := hB53.ext hu59
            replace h0 := h0.ext hu59
            replace h1 := h1.ext hu59
            replace hq0 := hq0.ext hu59
            replace hq1 := hq1.ext hu59
            replace hr0 := hr0.ext hu59
            replace hr1 := hr1.ext hu59
            replace hC := hC.ext hu59
            replace hE := hE.trans (Ext.upd hu59)
            rw [hre16]
            exact ⟨Ext.upd hE, rfl⟩
           refine ⟨.det (fun val => (.tuple #[(pageV pg), (.int .i64 (0))])), ⟨fun _ _ hv => rfl, fun _ _ _ _ _ => trivial⟩, fun val h_ W hx he => ⟨trivial, ?_⟩, ?_⟩
           ·have hE := Upd.refl (fun _ => False) W
            refine id (X_move (v := (.tuple #[(pageV pg), (.int .i64 (0))])) rfl ?_)
            exact ⟨Ext.upd hE, rfl⟩
           refine ⟨.det (fun val => (pageV pg)), ⟨fun _ _ hv => rfl, fun _ _ _ _ _ => trivial⟩, fun val h_ W hx he => ⟨trivial, ?_⟩, ?_⟩
           ·have hE := Upd.refl (fun _ => False) W
            refine id (X_extract (l := [(pageV pg), (.int .i64 (0))]) (v := (pageV pg)) rfl rfl ?_)
            exact ⟨Ext.upd hE, rfl⟩
           refine ⟨.det (fun val => (.int .i64 (0))), ⟨fun _ _ hv => rfl, fun _ _ _ _ _ => trivial⟩, fun val h_ W hx he => ⟨trivial, ?_⟩, ?_⟩
           ·have hE := Upd.refl (fun _ => False) W
            refine id (X_extract (l := [(pageV pg), (.int .i64 (0))]) (v := (.int .i64 (0))) rfl rfl ?_)
            exact ⟨Ext.upd hE, rfl⟩
           refine ⟨.abs (fun _ x_ W_ => ∃ b, x_ = ptr b 0 ∧ n16 ≤ b ∧ Blk W_ b ((List.replicate 256 (0 : UInt8)).map byteV).toArray 37), ⟨fun _ _ _ => rfl, fun _ _ _ _ hu0 h => have hu : Upd (fun b => False) _ _ := hu0.mono fun b _ h_ => (by obtain ⟨j, _, hne, hm_, hk_, hS⟩ := h_; obtain ⟨rfl, hS⟩ := hS; exact absurd hk_ (by decide))
            (by obtain ⟨b, e1, e2, e3⟩ := h; exact ⟨b, e1, e2, e3.ext hu⟩)⟩, fun val h_ W hx he => ⟨trivial, ?_⟩, ?_⟩
           ·replace hx := (Upd.drew _ _).trans hx
            replace hx : Upd (fun b => False) w56 W := hx.mono fun b _ h_ => by obtain ⟨j, _, hne, hm_, hS⟩ := h_; obtain ⟨rfl, hS⟩ := hS; exact absurd hm_ (by decide)
            refine X_alloc (z := zv37) (c := zc37.toArray) Zv37 rfl ?_
            intro b w2 hn
            have hb37 := hn.blk
            rw [zc37_eq] at hb37
            have hxs := hx.size
            have hnn := hn.num
            exact ⟨Ext.upd hn.ext, b, rfl, by omega, hb37⟩
           refine ⟨.abs (fun val x_ W_ => ∃ b, val 13 = ptr b 0 ∧ n16 ≤ b ∧ Blk W_ b (pg.1.map byteV).toArray 37), ⟨fun _ _ hv => by simp only [hv 13 rfl], fun _ _ _ _ hu0 h => have hu : Upd (fun b => False) _ _ := hu0.mono fun b _ h_ => (by obtain ⟨j, _, hne, hm_, hk_, hS⟩ := h_; obtain ⟨rfl, hS⟩ := hS; exact absurd rfl hne)
            (by obtain ⟨b, e1, e2, e3⟩ := h; exact ⟨b, e1, e2, e3.ext hu⟩)⟩, fun val h_ W hx he => ⟨trivial, ?_⟩, ?_⟩
           ·obtain ⟨⟨b9, hb9, hbN9, hB9⟩, _⟩ := he
            refine X_storeW (b := b9) (ys := pg.1.map byteV) A37 hb9 rfl (byteV_one _) (by rw [List.length_map]; exact pg.2) hB9 (by rw [List.size_toArray, List.length_map]; exact List.length_replicate) ?_
            intro w7 hu7 hb7
            exact ⟨hu7.mono fun b _ h => ⟨rfl, by subst h; exact hbN9⟩, b9, hb9, hbN9, hb7⟩
           intro val W58 hx58 he58
           replace hx58 := (Upd.drew _ _).trans hx58
           replace hx58 : Upd (fun b => (n16 ≤ b)) w56 W58 := hx58.mono fun b _ h_ => by obtain ⟨j, _, hS⟩ := h_; obtain ⟨rfl, hS⟩ := hS; exact hS
           have hz58 := hx58.size
           replace hB1 := hB1.upd hx58 fun h => by have h : n16 ≤ b1 := h; omega
           replace hB3 := hB3.upd hx58 fun h => by have h : n16 ≤ b3 := h; omega
           replace hB50 := hB50.upd hx58 fun h => by have h : n16 ≤ b50 := h; omega
           replace hB53 := hB53.upd hx58 fun h => by have h : n16 ≤ b53 := h; omega
           replace h0 := h0.upd hx58 fun i h1 h2 h => by have h : n16 ≤ i := h; omega
           replace h1 := h1.upd hx58 fun i h1 h2 h => by have h : n16 ≤ i := h; omega
           replace hq0 := hq0.upd hx58 fun i h1 h2 h => by have h : n16 ≤ i := h; omega
           replace hq1 := hq1.upd hx58 fun i h1 h2 h => by have h : n16 ≤ i := h; omega
           replace hr0 := hr0.upd hx58 fun i h1 h2 h => by have h : n16 ≤ i := h; omega
           replace hr1 := hr1.upd hx58 fun i h1 h2 h => by have h : n16 ≤ i := h; omega
           replace hC := hC.upd hx58 fun i h1 h2 h => by have h : n16 ≤ i := h; omega
           replace hU := hU.trans (hx58.mono fun i _ h => by have h : n16 ≤ i := h; show n0 ≤ i; omega)
           obtain ⟨⟨b16, hb16, hbN16, hB16⟩, he58⟩ := he58
           refine L_op rfl (X_assign (v := (.int .i64 (0))) rfl ?_)
           refine L_nil ?_
           refine T_n ?_
           refine W_seq ?_
           obtain ⟨n17, hn17⟩ : ∃ n, n = W58.heap.size := ⟨_, rfl⟩
           have hlt17_hB1 := hB1.lt
           have hlt17_hB3 := hB3.lt
           have hlt17_hB50 := hB50.lt
           have hlt17_hB53 := hB53.lt
           have hlt17_hB16 := hB16.lt
           refine W_drawT 15 [[], [], [0, 1], [0, 1, 2], [], [], [4, 5], [4, 5, 6], [4, 5, 6, 7], [0, 1, 2, 3, 4, 5, 6, 7, 8], [0, 1, 2, 3, 4, 5, 6, 7, 8, 9], [0, 1, 2, 3, 4, 5, 6, 7, 8, 9, 10], [0, 1, 2, 3, 4, 5, 6, 7, 8, 9, 10], [], [0, 1, 2, 3, 4, 5, 6, 7, 8, 9, 10, 11, 13], [0, 1, 2, 3, 4, 5, 6, 7, 8, 9, 10, 11, 12, 13, 14]] [[], [], [0, 1], [0, 1, 2], [], [], [4, 5], [4, 5, 6], [4, 5, 6, 7], [0, 1, 2, 3, 4, 5, 6, 7, 8], [0, 1, 2, 3, 4, 5, 6, 7, 8, 9], [0, 1, 2, 3, 4, 5, 6, 7, 8, 9, 10], [0, 1, 2, 3, 4, 5, 6, 7, 8, 9, 10], [], [0, 1, 2, 3, 4, 5, 6, 7, 8, 9, 10, 11, 13]] [0, 1, 2, 3, 4, 5, 6, 7, 8, 9, 10, 11, 12, 14] [[], [], [], [], [], [], [], [], [], [], [], [], [], [], [13]] (fun j b => (j = 14 ∧ n17 ≤ b)) mixed (by kernel_rfl) (by decide) ?_
           refine ⟨.det (fun val => (.int .i64 (0))), ⟨fun _ _ hv => rfl, fun _ _ _ _ _ => trivial⟩, fun val h_ W hx he => ⟨trivial, ?_⟩, ?_⟩
           ·have hE := Upd.refl (fun _ => False) W
            refine id (X_move (v := (.int .i64 (0))) rfl ?_)
            exact ⟨Ext.upd hE, rfl⟩
           refine ⟨.det (fun val => (ptr b53 (0))), ⟨fun _ _ hv => rfl, fun _ _ _ _ _ => trivial⟩, fun val h_ W hx he => ⟨trivial, ?_⟩, ?_⟩
           ·have hE := Upd.refl (fun _ => False) W
            refine id (X_fldP (b := b53) (o := 0) (r := 0) Fd29_0 rfl rfl ?_)
            exact ⟨Ext.upd hE, rfl⟩
           refine ⟨.det (fun val => (ptr b53 (0))), ⟨fun _ _ hv => rfl, fun _ _ _ _ _ => trivial⟩, fun val h_ W hx he => ⟨trivial, ?_⟩, ?_⟩
           ·have hE := Upd.refl (fun _ => False) W
            refine id (X_idxAP (len := 2) (sz := 4) (b := b53) (o := 0) (k := .i64) (i := 0) (r := 0) Try.underlying27 Z26 rfl rfl (by omega) (by omega) rfl ?_)
            exact ⟨Ext.upd hE, rfl⟩
           refine ⟨.det (fun val => (.agg #[pr.d0.pv, pr.d0.cv, pr.d0.bv, (.bool (pr.d0.off))])), ⟨fun _ _ hv => rfl, fun _ _ _ _ _ => trivial⟩, fun val h_ W hx he => ⟨trivial, ?_⟩, ?_⟩
           ·replace hx := (Upd.drew _ _).trans hx
            replace hx : Upd (fun b => False) W58 W := hx.mono fun b _ h_ => by obtain ⟨j, _, hne, hm_, hS⟩ := h_; obtain ⟨rfl, hS⟩ := hS; exact absurd hm_ (by decide)
            replace hB53 := hB53.ext hx
            have hE := Upd.refl (fun _ => False) W
            refine id (X_loadA (p := (ptr b53 (0))) (xs := [pr.d0.pv, pr.d0.cv, pr.d0.bv, (.bool (pr.d0.off))]) A26 rfl (hB53.part (o := 0) (n := 4) rfl) rfl ?_)
            exact ⟨Ext.upd hE, rfl⟩
           refine ⟨.det (fun val => vC), ⟨fun _ _ hv => rfl, fun _ _ _ _ _ => trivial⟩, fun val h_ W hx he => ⟨trivial, ?_⟩, ?_⟩
           ·have hE := Upd.refl (fun _ => False) W
            refine id (X_move (v := vC) rfl ?_)
            exact ⟨Ext.upd hE, rfl⟩
           refine ⟨.det (fun val => (.int .i64 (((i : Nat) : Int)))), ⟨fun _ _ hv => rfl, fun _ _ _ _ _ => trivial⟩, fun val h_ W hx he => ⟨trivial, ?_⟩, ?_⟩
           ·have hE := Upd.refl (fun _ => False) W
            refine id (X_move (v := (.int .i64 (((i : Nat) : Int)))) rfl ?_)
            exact ⟨Ext.upd hE, rfl⟩
           refine ⟨.det (fun val => (pof vC ((((i : Nat) : Int) : Int).toNat * 2))), ⟨fun _ _ hv => rfl, fun _ _ _ _ _ => trivial⟩, fun val h_ W hx he => ⟨trivial, ?_⟩, ?_⟩
           ·replace hx := (Upd.drew _ _).trans hx
            replace hx : Upd (fun b => False) W58 W := hx.mono fun b _ h_ => by obtain ⟨j, _, hne, hm_, hS⟩ := h_; obtain ⟨rfl, hS⟩ := hS; exact absurd hm_ (by decide)
            replace hC := hC.ext hx
            have hE := Upd.refl (fun _ => False) W
            refine id (X_idx (v := vC) (n := (copL q).length) (k := .i64) (i := ((i : Nat) : Int)) S45 rfl hC.sv rfl (by omega) (by omega) ?_)
            exact ⟨Ext.upd hE, rfl⟩
           refine ⟨.det (fun val => (pof vC ((((i : Nat) : Int) : Int).toNat * 2 + 1))), ⟨fun _ _ hv => rfl, fun _ _ _ _ _ => trivial⟩, fun val h_ W hx he => ⟨trivial, ?_⟩, ?_⟩
           ·replace hx := (Upd.drew _ _).trans hx
            replace hx : Upd (fun b => False) W58 W := hx.mono fun b _ h_ => by obtain ⟨j, _, hne, hm_, hS⟩ := h_; obtain ⟨rfl, hS⟩ := hS; exact absurd hm_ (by decide)
            replace hC := hC.ext hx
            have hE := Upd.refl (fun _ => False) W
            refine id (X_idxAS (len := 2) (sz := 1) (v := vC) (o := (((i : Nat) : Int) : Int).toNat * 2) (k := .i64) (i := 1) (r := (((i : Nat) : Int) : Int).toNat * 2 + 1) Try.underlying47 Z3 rfl hC.sv (by omega) rfl (by omega) (by omega) rfl ?_)
            exact ⟨Ext.upd hE, rfl⟩
           refine ⟨.det (fun val => (.int .i64 (a))), ⟨fun _ _ hv => rfl, fun _ _ _ _ _ => trivial⟩, fun val h_ W hx he => ⟨trivial, ?_⟩, ?_⟩
           ·replace hx := (Upd.drew _ _).trans hx
            replace hx : Upd (fun b => False) W58 W := hx.mono fun b _ h_ => by obtain ⟨j, _, hne, hm_, hS⟩ := h_; obtain ⟨rfl, hS⟩ := hS; exact absurd hm_ (by decide)
            replace hC := hC.ext hx
            have hE := Upd.refl (fun _ => False) W
            refine id (X_load (p := (pof vC ((((i : Nat) : Int) : Int).toNat * 2 + 1))) (v := .int .i64 (a)) T3 rfl (cat1 hC (k := i) (by omega) hat) ?_)
            exact ⟨Ext.upd hE, rfl⟩
           refine ⟨.det (fun val => (.tuple #[(pageV pg), (.int .i64 (0))])), ⟨fun _ _ hv => rfl, fun _ _ _ _ _ => trivial⟩, fun val h_ W hx he => ⟨trivial, ?_⟩, ?_⟩
           ·replace hx := (Upd.drew _ _).trans hx
            replace hx : Upd (fun b => False) W58 W := hx.mono fun b _ h_ => by obtain ⟨j, _, hne, hm_, hS⟩ := h_; obtain ⟨rfl, hS⟩ := hS; exact absurd hm_ (by decide)
            replace hB1 := hB1.ext hx
            replace hB3 := hB3.ext hx
            replace hB50 := hB50.ext hx
            replace hB53 := hB53.ext hx
            replace h0 := h0.ext hx
            replace h1 := h1.ext hx
            replace hq0 := hq0.ext hx
            replace hq1 := hq1.ext hx
            replace hr0 := hr0.ext hx
            replace hr1 := hr1.ext hx
            replace hC := hC.ext hx
            replace hB16 := hB16.ext hx
            have hE := Upd.refl (fun _ => False) W
            have hxs_ := hx.size
            have hcr_ := c_readRD pr.d0 a W l0r u0r (by omega) hr0
            refine id (X_fn (vs := [(.agg #[pr.d0.pv, pr.d0.cv, pr.d0.bv, (.bool (pr.d0.off))]), (.int .i64 (a))]) en14 rfl ?_)
            refine CT.mono hcr_ ?_
            clear hcr_
            rintro _ w61 ⟨rfl, hu61⟩
            have hz61 := hu61.size
            replace hB1 := hB1.ext hu61
            replace hB3 := hB3.ext hu61
            replace hB50 := hB50.ext hu61
            replace hB53 := hB53.ext hu61
            replace h0 := h0.ext hu61
            replace h1 := h1.ext hu61
            replace hq0 := hq0.ext hu61
            replace hq1 := hq1.ext hu61
            replace hr0 := hr0.ext hu61
            replace hr1 := hr1.ext hu61
            replace hC := hC.ext hu61
            replace hB16 := hB16.ext hu61
            replace hE := hE.trans (Ext.upd hu61)
            rw [hre17]
            exact ⟨Ext.upd hE, rfl⟩
           refine ⟨.det (fun val => (.tuple #[(pageV pg), (.int .i64 (0))])), ⟨fun _ _ hv => rfl, fun _ _ _ _ _ => trivial⟩, fun val h_ W hx he => ⟨trivial, ?_⟩, ?_⟩
           ·have hE := Upd.refl (fun _ => False) W
            refine id (X_move (v := (.tuple #[(pageV pg), (.int .i64 (0))])) rfl ?_)
            exact ⟨Ext.upd hE, rfl⟩
           refine ⟨.det (fun val => (pageV pg)), ⟨fun _ _ hv => rfl, fun _ _ _ _ _ => trivial⟩, fun val h_ W hx he => ⟨trivial, ?_⟩, ?_⟩
           ·have hE := Upd.refl (fun _ => False) W
            refine id (X_extract (l := [(pageV pg), (.int .i64 (0))]) (v := (pageV pg)) rfl rfl ?_)
            exact ⟨Ext.upd hE, rfl⟩
           refine ⟨.det (fun val => (.int .i64 (0))), ⟨fun _ _ hv => rfl, fun _ _ _ _ _ => trivial⟩, fun val h_ W hx he => ⟨trivial, ?_⟩, ?_⟩
           ·have hE := Upd.refl (fun _ => False) W
            refine id (X_extract (l := [(pageV pg), (.int .i64 (0))]) (v := (.int .i64 (0))) rfl rfl ?_)
            exact ⟨Ext.upd hE, rfl⟩
           refine ⟨.abs (fun _ x_ W_ => ∃ b, x_ = ptr b 0 ∧ n17 ≤ b ∧ Blk W_ b ((List.replicate 256 (0 : UInt8)).map byteV).toArray 37), ⟨fun _ _ _ => rfl, fun _ _ _ _ hu0 h => have hu : Upd (fun b => False) _ _ := hu0.mono fun b _ h_ => (by obtain ⟨j, _, hne, hm_, hk_, hS⟩ := h_; obtain ⟨rfl, hS⟩ := hS; exact absurd hk_ (by decide))
            (by obtain ⟨b, e1, e2, e3⟩ := h; exact ⟨b, e1, e2, e3.ext hu⟩)⟩, fun val h_ W hx he => ⟨trivial, ?_⟩, ?_⟩
           ·replace hx := (Upd.drew _ _).trans hx
            replace hx : Upd (fun b => False) W58 W := hx.mono fun b _ h_ => by obtain ⟨j, _, hne, hm_, hS⟩ := h_; obtain ⟨rfl, hS⟩ := hS; exact absurd hm_ (by decide)
            refine X_alloc (z := zv37) (c := zc37.toArray) Zv37 rfl ?_
            intro b w2 hn
            have hb37 := hn.blk
            rw [zc37_eq] at hb37
            have hxs := hx.size
            have hnn := hn.num
            exact ⟨Ext.upd hn.ext, b, rfl, by omega, hb37⟩
           refine ⟨.abs (fun val x_ W_ => ∃ b, val 13 = ptr b 0 ∧ n17 ≤ b ∧ Blk W_ b (pg.1.map byteV).toArray 37), ⟨fun _ _ hv => by simp only [hv 13 rfl], fun _ _ _ _ hu0 h => have hu : Upd (fun b => False) _ _ := hu0.mono fun b _ h_ => (by obtain ⟨j, _, hne, hm_, hk_, hS⟩ := h_; obtain ⟨rfl, hS⟩ := hS; exact absurd rfl hne)
            (by obtain ⟨b, e1, e2, e3⟩ := h; exact ⟨b, e1, e2, e3.ext hu⟩)⟩, fun val h_ W hx he => ⟨trivial, ?_⟩, ?_⟩
           ·obtain ⟨⟨b9, hb9, hbN9, hB9⟩, _⟩ := he
            refine X_storeW (b := b9) (ys := pg.1.map byteV) A37 hb9 rfl (byteV_one _) (by rw [List.length_map]; exact pg.2) hB9 (by rw [List.size_toArray, List.length_map]; exact List.length_replicate) ?_
            intro w7 hu7 hb7
            exact ⟨hu7.mono fun b _ h => ⟨rfl, by subst h; exact hbN9⟩, b9, hb9, hbN9, hb7⟩
           intro val W60 hx60 he60
           replace hx60 := (Upd.drew _ _).trans hx60
           replace hx60 : Upd (fun b => (n17 ≤ b)) W58 W60 := hx60.mono fun b _ h_ => by obtain ⟨j, _, hS⟩ := h_; obtain ⟨rfl, hS⟩ := hS; exact hS
           have hz60 := hx60.size
           replace hB1 := hB1.upd hx60 fun h => by have h : n17 ≤ b1 := h; omega
           replace hB3 := hB3.upd hx60 fun h => by have h : n17 ≤ b3 := h; omega
           replace hB50 := hB50.upd hx60 fun h => by have h : n17 ≤ b50 := h; omega
           replace hB53 := hB53.upd hx60 fun h => by have h : n17 ≤ b53 := h; omega
           replace h0 := h0.upd hx60 fun i h1 h2 h => by have h : n17 ≤ i := h; omega
           replace h1 := h1.upd hx60 fun i h1 h2 h => by have h : n17 ≤ i := h; omega
           replace hq0 := hq0.upd hx60 fun i h1 h2 h => by have h : n17 ≤ i := h; omega
           replace hq1 := hq1.upd hx60 fun i h1 h2 h => by have h : n17 ≤ i := h; omega
           replace hr0 := hr0.upd hx60 fun i h1 h2 h => by have h : n17 ≤ i := h; omega
           replace hr1 := hr1.upd hx60 fun i h1 h2 h => by have h : n17 ≤ i := h; omega
           replace hC := hC.upd hx60 fun i h1 h2 h => by have h : n17 ≤ i := h; omega
           replace hU := hU.trans (hx60.mono fun i _ h => by have h : n17 ≤ i := h; show n0 ≤ i; omega)
           replace hB16 := hB16.upd hx60 fun h => by have h : n17 ≤ b16 := h; omega
           obtain ⟨⟨b17, hb17, hbN17, hB17⟩, he60⟩ := he60
           refine L_op rfl (X_assign (v := (.int .i64 (0))) rfl ?_)
           refine L_nil ?_
           refine T_n ?_
           refine W_seq ?_
           refine W_reg ?_
           refine L_op rfl (X_move (v := (.int .i64 (0))) rfl ?_)
           refine L_op rfl (X_cmp (k := .i64) (a := 0) (b := 0) (r := false) rfl rfl rfl rfl ?_)
           refine L_op rfl (X_move (v := (.bool (false))) rfl ?_)
           refine L_gy (dj := 175) rfl rfl rfl (X_move (v := (.int .i64 (0))) rfl ?_)
           refine L_gy (dj := 175) rfl rfl rfl (X_cmp (k := .i64) (a := 0) (b := 0) (r := false) rfl rfl rfl rfl ?_)
           refine L_op rfl (X_pick (t := false) (v := (.bool (false))) rfl rfl ?_)
           refine L_op rfl (X_move (v := (.bool (false))) rfl ?_)
           refine L_gy (dj := 179) rfl rfl rfl (X_loadA (xs := pg.1.map byteV) A37 hb16 hB16.atAll (by rw [List.length_map]; exact pg.2) ?_)
           refine L_gy (dj := 179) rfl rfl rfl (X_loadA (p := (ptr b3 (0))) (xs := ((pg.1).map byteV)) A37 rfl hB3.atAll (by rw [List.length_map]; exact pg.2) ?_)
           refine L_gy (dj := 179) rfl rfl rfl (X_eqA (n := 256) (l := pg.1) (m := pg.1) (r := false) Try.underlying37 Try.underlying5 (by kernel_rfl) (by kernel_rfl) (by kernel_rfl) rfl rfl (pg.2) (pg.2) (.inr ⟨rfl, (by rw [beq_self_eq_true]; rfl)⟩) ?_)
           refine L_op rfl (X_pick (t := false) (v := (.bool (false))) rfl rfl ?_)
           refine L_op rfl (X_move (v := (.bool (false))) rfl ?_)
           refine L_gy (dj := 184) rfl rfl rfl (X_loadA (xs := pg.1.map byteV) A37 hb17 hB17.atAll (by rw [List.length_map]; exact pg.2) ?_)
           refine L_gy (dj := 184) rfl rfl rfl (X_loadA (p := (ptr b3 (0))) (xs := ((pg.1).map byteV)) A37 rfl hB3.atAll (by rw [List.length_map]; exact pg.2) ?_)
           refine L_gy (dj := 184) rfl rfl rfl (X_eqA (n := 256) (l := pg.1) (m := pg.1) (r := false) Try.underlying37 Try.underlying5 (by kernel_rfl) (by kernel_rfl) (by kernel_rfl) rfl rfl (pg.2) (pg.2) (.inr ⟨rfl, (by rw [beq_self_eq_true]; rfl)⟩) ?_)
           refine L_op rfl (X_pick (t := false) (v := (.bool (false))) rfl rfl ?_)
           refine L_op rfl (X_move (v := (.bool (false))) rfl ?_)
           refine L_gy (dj := 189) rfl rfl rfl (X_move (v := (.int .i64 (0))) rfl ?_)
           refine L_gy (dj := 189) rfl rfl rfl (X_fldP (b := b53) (o := 0) (r := 0) Fd29_0 rfl rfl ?_)
           refine L_gy (dj := 189) rfl rfl rfl (X_idxAP (len := 2) (sz := 4) (b := b53) (o := 0) (k := .i64) (i := 0) (r := 0) Try.underlying27 Z26 rfl rfl (by omega) (by omega) rfl ?_)
           refine L_gy (dj := 189) rfl rfl rfl (X_fldP (b := b53) (o := 0) (r := 1) Fd26_1 rfl rfl ?_)
           refine L_gy (dj := 189) rfl rfl rfl (X_load (p := (ptr b53 (1))) (v := pr.d0.cv) T23 rfl (hB53.at1 rfl) ?_)
           refine L_gy (dj := 189) rfl rfl rfl (X_len (v := pr.d0.cv) (n := pr.d0.cs.length) Try.underlying23 rfl hr0.2.1.sv ?_)
           refine L_gy (dj := 189) rfl rfl rfl (X_cmp (k := .i64) (a := ((pr.d0.cs.length : Nat) : Int)) (b := 0) (r := false) rfl rfl rfl (decide_eq_false (p := ((((pr.d0.cs.length : Nat) : Int)) : Int) ≠ ((0) : Int)) (by omega)) ?_)
           refine L_op rfl (X_pick (t := false) (v := (.bool (false))) rfl rfl ?_)
           refine L_nil ?_
           refine T_n ?_
           refine W_cf rfl ?_
           refine W_skip ?_
           refine B_n ?_
           refine T_n ?_
           refine W_reg ?_
           refine L_op rfl (X_move (v := (.int .i64 (((i : Nat) : Int)))) rfl ?_)
           refine L_op rfl (X_arith (k := .i64) (a := ((i : Nat) : Int)) (b := 1) (r := ((i + 1 : Nat) : Int)) rfl rfl rfl (iadd64 (by omega) (by omega) (by omega)) ?_)
           refine L_op rfl (X_assign (v := (.int .i64 (((i + 1 : Nat) : Int)))) rfl ?_)
           refine L_nil ?_
           refine T_n ?_
           exact ⟨rfl, i + 1, ⟨⟨hi, hB1, hB3, hB50, hB53, h0, h1, hq0, hq1, hr0, hr1, hC, hU, by omega⟩, (by show (copL q).length - (i + 1) < (copL q).length - i; omega)⟩, (Out.mk rfl), ⟨rfl, trivial⟩⟩
          ·refine L_op rfl (X_move (v := (.int .i64 (1))) rfl ?_)
           refine L_op rfl (X_fldP (b := b1) (o := 0) (r := 0) Fd29_0 rfl rfl ?_)
           refine L_op rfl (X_idxAP (len := 2) (sz := 4) (b := b1) (o := 0) (k := .i64) (i := 1) (r := 4) Try.underlying27 Z26 rfl rfl (by omega) (by omega) rfl ?_)
           refine L_op rfl (X_fldP (b := b1) (o := 4) (r := 7) Fd26_3 rfl rfl ?_)
           rcases Bool.eq_false_or_eq_true (p.d1.off) with hs62 | hs62
           ·refine L_op rfl (X_load (p := (ptr b1 (7))) (v := .bool true) T4 rfl (hB1.at1 (by rw [hs62]; rfl)) ?_)
            refine L_nil ?_
            refine T_n ?_
            refine W_ct rfl ?_
            refine W_seq ?_
            refine W_seq ?_
            refine W_draw 19 [[], [], [0, 1], [0, 1, 2], [], [], [4, 5], [4, 5, 6], [0, 1, 2, 3, 4, 5, 6, 7], [0, 1, 2, 3, 4, 5, 6, 7, 8], [0, 1, 2, 3, 4, 5, 6, 7, 8, 9], [0, 1, 2, 3, 4, 5, 6, 7, 8, 9, 10], [0, 1, 2, 3, 4, 5, 6, 7, 8, 9, 10], [0, 1, 2, 3, 4, 5, 6, 7, 8, 9, 10, 11, 12], [0, 1, 2, 3, 4, 5, 6, 7, 8, 9, 10, 11, 12, 13], [0, 1, 2, 3, 4, 5, 6, 7, 8, 9, 10], [0, 1, 2, 3, 4, 5, 6, 7, 8, 9, 10], [0, 1, 2, 3, 4, 5, 6, 7, 8, 9, 10, 15, 16], [0, 1, 2, 3, 4, 5, 6, 7, 8, 9, 10, 15, 16, 17], [0, 1, 2, 3, 4, 5, 6, 7, 8, 9, 10, 11, 12, 13, 14, 15, 16, 17, 18], [0, 1, 2, 3, 4, 5, 6, 7, 8, 9, 10, 11, 12, 13, 14, 15, 16, 17, 18, 19], [0, 1, 2, 3, 4, 5, 6, 7, 8, 9, 10, 11, 12, 13, 14, 15, 16, 17, 18, 19, 20]] mixed (by kernel_rfl) ?_
            refine ⟨.det (fun val => (.int .i64 (1))), ⟨fun _ _ hv => rfl, fun _ _ _ _ _ => trivial⟩, fun val h_ W hx he => ⟨trivial, ?_⟩, ?_⟩
            ·exact X_move (v := (.int .i64 (1))) rfl ⟨Upd.refl _ _, rfl⟩
            refine ⟨.det (fun val => (ptr b50 (0))), ⟨fun _ _ hv => rfl, fun _ _ _ _ _ => trivial⟩, fun val h_ W hx he => ⟨trivial, ?_⟩, ?_⟩
            ·exact X_fldP (b := b50) (o := 0) (r := 0) Fd29_0 rfl rfl ⟨Upd.refl _ _, rfl⟩
            refine ⟨.det (fun val => (ptr b50 (4))), ⟨fun _ _ hv => rfl, fun _ _ _ _ _ => trivial⟩, fun val h_ W hx he => ⟨trivial, ?_⟩, ?_⟩
            ·exact X_idxAP (len := 2) (sz := 4) (b := b50) (o := 0) (k := .i64) (i := 1) (r := 4) Try.underlying27 Z26 rfl rfl (by omega) (by omega) rfl ⟨Upd.refl _ _, rfl⟩
            refine ⟨.det (fun val => (.agg #[pq.d1.pv, pq.d1.cv, pq.d1.bv, (.bool (pq.d1.off))])), ⟨fun _ _ hv => rfl, fun _ _ _ _ _ => trivial⟩, fun val h_ W hx he => ⟨trivial, ?_⟩, ?_⟩
            ·replace hx := (Upd.drew _ _).trans hx
             replace hB50 := hB50.ext hx
             refine id (X_loadA (p := (ptr b50 (4))) (xs := [pq.d1.pv, pq.d1.cv, pq.d1.bv, (.bool (pq.d1.off))]) A26 rfl (hB50.part (o := 4) (n := 4) rfl) rfl ?_)
             exact ⟨Upd.refl _ _, rfl⟩
            refine ⟨.det (fun val => (.int .i64 (1))), ⟨fun _ _ hv => rfl, fun _ _ _ _ _ => trivial⟩, fun val h_ W hx he => ⟨trivial, ?_⟩, ?_⟩
            ·exact X_move (v := (.int .i64 (1))) rfl ⟨Upd.refl _ _, rfl⟩
            refine ⟨.det (fun val => (ptr b1 (0))), ⟨fun _ _ hv => rfl, fun _ _ _ _ _ => trivial⟩, fun val h_ W hx he => ⟨trivial, ?_⟩, ?_⟩
            ·exact X_fldP (b := b1) (o := 0) (r := 0) Fd29_0 rfl rfl ⟨Upd.refl _ _, rfl⟩
            refine ⟨.det (fun val => (ptr b1 (4))), ⟨fun _ _ hv => rfl, fun _ _ _ _ _ => trivial⟩, fun val h_ W hx he => ⟨trivial, ?_⟩, ?_⟩
            ·exact X_idxAP (len := 2) (sz := 4) (b := b1) (o := 0) (k := .i64) (i := 1) (r := 4) Try.underlying27 Z26 rfl rfl (by omega) (by omega) rfl ⟨Upd.refl _ _, rfl⟩
            refine ⟨.det (fun val => (.agg #[p.d1.pv, p.d1.cv, p.d1.bv, (.bool (p.d1.off))])), ⟨fun _ _ hv => rfl, fun _ _ _ _ _ => trivial⟩, fun val h_ W hx he => ⟨trivial, ?_⟩, ?_⟩
            ·replace hx := (Upd.drew _ _).trans hx
             replace hB1 := hB1.ext hx
             refine id (X_loadA (p := (ptr b1 (4))) (xs := [p.d1.pv, p.d1.cv, p.d1.bv, (.bool (p.d1.off))]) A26 rfl (hB1.part (o := 4) (n := 4) rfl) rfl ?_)
             exact ⟨Upd.refl _ _, rfl⟩
            refine ⟨.det (fun val => (.bool (true))), ⟨fun _ _ hv => rfl, fun _ _ _ _ _ => trivial⟩, fun val h_ W hx he => ⟨trivial, ?_⟩, ?_⟩
            ·replace hx := (Upd.drew _ _).trans hx
             replace hB1 := hB1.ext hx
             replace hB3 := hB3.ext hx
             replace hB50 := hB50.ext hx
             replace hB53 := hB53.ext hx
             replace h0 := h0.ext hx
             replace h1 := h1.ext hx
             replace hq0 := hq0.ext hx
             replace hq1 := hq1.ext hx
             replace hr0 := hr0.ext hx
             replace hr1 := hr1.ext hx
             replace hC := hC.ext hx
             have hE := Upd.refl (fun _ => False) W
             have hxs_ := hx.size
             have hcr_ := c_sameRD pq.d1 p.d1 W l1q u1q 0 n0 hq1 h1
             refine id (X_fn (vs := [(.agg #[pq.d1.pv, pq.d1.cv, pq.d1.bv, (.bool (pq.d1.off))]), (.agg #[p.d1.pv, p.d1.cv, p.d1.bv, (.bool (p.d1.off))])]) en13 rfl ?_)
             refine CT.mono hcr_ ?_
             clear hcr_
             rintro _ w64 ⟨⟨g64, rfl, hg64⟩, hu64⟩
             have hz64 := hu64.size
             replace hB1 := hB1.ext hu64
             replace hB3 := hB3.ext hu64
             replace hB50 := hB50.ext hu64
             replace hB53 := hB53.ext hu64
             replace h0 := h0.ext hu64
             replace h1 := h1.ext hu64
             replace hq0 := hq0.ext hu64
             replace hq1 := hq1.ext hu64
             replace hr0 := hr0.ext hu64
             replace hr1 := hr1.ext hu64
             replace hC := hC.ext hu64
             replace hE := hE.trans (Ext.upd hu64)
             obtain rfl : g64 = true := hg64.2 (by rw [hoB]; exact addW_off hs62)
             exact ⟨hE, rfl⟩
            refine ⟨.det (fun val => (.bool (false))), ⟨fun _ _ hv => rfl, fun _ _ _ _ _ => trivial⟩, fun val h_ W hx he => ⟨trivial, ?_⟩, ?_⟩
            ·exact X_not (b := true) (r := false) rfl rfl ⟨Upd.refl _ _, rfl⟩
            refine ⟨.det (fun val => (.bool (false))), ⟨fun _ _ hv => rfl, fun _ _ _ _ _ => trivial⟩, fun val h_ W hx he => ⟨trivial, ?_⟩, ?_⟩
            ·exact X_move (v := (.bool (false))) rfl ⟨Upd.refl _ _, rfl⟩
            refine ⟨.det (fun val => (.int .i64 (1))), ⟨fun _ _ hv => rfl, fun _ _ _ _ _ => trivial⟩, fun val h_ W hx he => ⟨⟨135, rfl, rfl⟩, ?_⟩, ?_⟩
            ·exact X_move (v := (.int .i64 (1))) rfl ⟨Upd.refl _ _, rfl⟩
            refine ⟨.det (fun val => (ptr b53 (0))), ⟨fun _ _ hv => rfl, fun _ _ _ _ _ => trivial⟩, fun val h_ W hx he => ⟨⟨135, rfl, rfl⟩, ?_⟩, ?_⟩
            ·exact X_fldP (b := b53) (o := 0) (r := 0) Fd29_0 rfl rfl ⟨Upd.refl _ _, rfl⟩
            refine ⟨.det (fun val => (ptr b53 (4))), ⟨fun _ _ hv => rfl, fun _ _ _ _ _ => trivial⟩, fun val h_ W hx he => ⟨⟨135, rfl, rfl⟩, ?_⟩, ?_⟩
            ·exact X_idxAP (len := 2) (sz := 4) (b := b53) (o := 0) (k := .i64) (i := 1) (r := 4) Try.underlying27 Z26 rfl rfl (by omega) (by omega) rfl ⟨Upd.refl _ _, rfl⟩
            refine ⟨.det (fun val => (.agg #[pr.d1.pv, pr.d1.cv, pr.d1.bv, (.bool (pr.d1.off))])), ⟨fun _ _ hv => rfl, fun _ _ _ _ _ => trivial⟩, fun val h_ W hx he => ⟨⟨135, rfl, rfl⟩, ?_⟩, ?_⟩
            ·replace hx := (Upd.drew _ _).trans hx
             replace hB53 := hB53.ext hx
             refine id (X_loadA (p := (ptr b53 (4))) (xs := [pr.d1.pv, pr.d1.cv, pr.d1.bv, (.bool (pr.d1.off))]) A26 rfl (hB53.part (o := 4) (n := 4) rfl) rfl ?_)
             exact ⟨Upd.refl _ _, rfl⟩
            refine ⟨.det (fun val => (.int .i64 (1))), ⟨fun _ _ hv => rfl, fun _ _ _ _ _ => trivial⟩, fun val h_ W hx he => ⟨⟨135, rfl, rfl⟩, ?_⟩, ?_⟩
            ·exact X_move (v := (.int .i64 (1))) rfl ⟨Upd.refl _ _, rfl⟩
            refine ⟨.det (fun val => (ptr b1 (0))), ⟨fun _ _ hv => rfl, fun _ _ _ _ _ => trivial⟩, fun val h_ W hx he => ⟨⟨135, rfl, rfl⟩, ?_⟩, ?_⟩
            ·exact X_fldP (b := b1) (o := 0) (r := 0) Fd29_0 rfl rfl ⟨Upd.refl _ _, rfl⟩
            refine ⟨.det (fun val => (ptr b1 (4))), ⟨fun _ _ hv => rfl, fun _ _ _ _ _ => trivial⟩, fun val h_ W hx he => ⟨⟨135, rfl, rfl⟩, ?_⟩, ?_⟩
            ·exact X_idxAP (len := 2) (sz := 4) (b := b1) (o := 0) (k := .i64) (i := 1) (r := 4) Try.underlying27 Z26 rfl rfl (by omega) (by omega) rfl ⟨Upd.refl _ _, rfl⟩
            refine ⟨.det (fun val => (.agg #[p.d1.pv, p.d1.cv, p.d1.bv, (.bool (p.d1.off))])), ⟨fun _ _ hv => rfl, fun _ _ _ _ _ => trivial⟩, fun val h_ W hx he => ⟨⟨135, rfl, rfl⟩, ?_⟩, ?_⟩
            ·replace hx := (Upd.drew _ _).trans hx
             replace hB1 := hB1.ext hx
             refine id (X_loadA (p := (ptr b1 (4))) (xs := [p.d1.pv, p.d1.cv, p.d1.bv, (.bool (p.d1.off))]) A26 rfl (hB1.part (o := 4) (n := 4) rfl) rfl ?_)
             exact ⟨Upd.refl _ _, rfl⟩
            intro val W63 hx63 he63
            replace hx63 := (Upd.drew _ _).trans hx63
            have hz63 := hx63.size
            replace hB1 := hB1.ext hx63
            replace hB3 := hB3.ext hx63
            replace hB50 := hB50.ext hx63
            replace hB53 := hB53.ext hx63
            replace h0 := h0.ext hx63
            replace h1 := h1.ext hx63
            replace hq0 := hq0.ext hx63
            replace hq1 := hq1.ext hx63
            replace hr0 := hr0.ext hx63
            replace hr1 := hr1.ext hx63
            replace hC := hC.ext hx63
            replace hU := hU.trans (Ext.upd hx63)
            have hcr_ := c_sameRD pr.d1 p.d1 W63 l1r u1r 0 n0 hr1 h1
            refine L_gy (dj := 135) rfl rfl rfl (X_fn (vs := [(.agg #[pr.d1.pv, pr.d1.cv, pr.d1.bv, (.bool (pr.d1.off))]), (.agg #[p.d1.pv, p.d1.cv, p.d1.bv, (.bool (p.d1.off))])]) en13 rfl ?_)
            refine CT.mono hcr_ ?_
            clear hcr_
            rintro _ w65 ⟨⟨g65, rfl, hg65⟩, hu65⟩
            have hz65 := hu65.size
            replace hB1 := hB1.ext hu65
            replace hB3 := hB3.ext hu65
            replace hB50 := hB50.ext hu65
            replace hB53 := hB53.ext hu65
            replace h0 := h0.ext hu65
            replace h1 := h1.ext hu65
            replace hq0 := hq0.ext hu65
            replace hq1 := hq1.ext hu65
            replace hr0 := hr0.ext hu65
            replace hr1 := hr1.ext hu65
            replace hC := hC.ext hu65
            replace hU := hU.trans (Ext.upd hu65)
            obtain rfl : g65 = true := hg65.2 (by rw [hfB, hoB, addW_off (show p.d1.da.off = true from hs62)]; exact flA_off hs62)
            refine L_gy (dj := 135) rfl rfl rfl (X_not (b := true) (r := false) rfl rfl ?_)
            refine L_op rfl (X_pick (t := false) (v := (.bool (false))) rfl rfl ?_)
            refine L_nil ?_
            refine T_n ?_
            refine W_cf rfl ?_
            refine W_skip ?_
            refine T_n ?_
            refine W_exit ?_
            refine T_e ?_
            refine B_x ?_
            refine T_n ?_
            refine W_reg ?_
            refine L_op rfl (X_move (v := (.int .i64 (((i : Nat) : Int)))) rfl ?_)
            refine L_op rfl (X_arith (k := .i64) (a := ((i : Nat) : Int)) (b := 1) (r := ((i + 1 : Nat) : Int)) rfl rfl rfl (iadd64 (by omega) (by omega) (by omega)) ?_)
            refine L_op rfl (X_assign (v := (.int .i64 (((i + 1 : Nat) : Int)))) rfl ?_)
            refine L_nil ?_
            refine T_n ?_
            exact ⟨rfl, i + 1, ⟨⟨hi, hB1, hB3, hB50, hB53, h0, h1, hq0, hq1, hr0, hr1, hC, hU, by omega⟩, (by show (copL q).length - (i + 1) < (copL q).length - i; omega)⟩, (Out.mk rfl), ⟨rfl, trivial⟩⟩
           ·refine L_op rfl (X_load (p := (ptr b1 (7))) (v := .bool false) T4 rfl (hB1.at1 (by rw [hs62]; rfl)) ?_)
            refine L_nil ?_
            refine T_n ?_
            refine W_cf rfl ?_
            refine W_skip ?_
            refine T_n ?_
            refine W_seq ?_
            have haQ := cop_mem (List.mem_of_getElem? hat)
            have hre16 : rdD pq.d1.da a = (pg, 0) := by rw [hoB]; exact read_add (d := p.da.b) hMB hs62 (by omega) hinB haQ
            have hre17 : rdD pr.d1.da a = (pg, 0) := by rw [hfB, read_flush (d := pq.d1.da) hNB (by rw [hoB, addW_o]; exact hs62) (hinB a haQ).1 (by rw [hoB, addW_ps]; exact (hinB a haQ).2)]; exact hre16
            have hcz : pr.d1.cs.length = 0 := congrArg List.length (show pr.d1.da.cs = [] from (by rw [hfB, flA_on (by rw [hoB, addW_o]; exact hs62)]))
            obtain ⟨n16, hn16⟩ : ∃ n, n = w56.heap.size := ⟨_, rfl⟩
            have hlt16_hB1 := hB1.lt
            have hlt16_hB3 := hB3.lt
            have hlt16_hB50 := hB50.lt
            have hlt16_hB53 := hB53.lt
            refine W_drawT 15 [[], [], [0, 1], [0, 1, 2], [], [], [4, 5], [4, 5, 6], [4, 5, 6, 7], [0, 1, 2, 3, 4, 5, 6, 7, 8], [0, 1, 2, 3, 4, 5, 6, 7, 8, 9], [0, 1, 2, 3, 4, 5, 6, 7, 8, 9, 10], [0, 1, 2, 3, 4, 5, 6, 7, 8, 9, 10], [], [0, 1, 2, 3, 4, 5, 6, 7, 8, 9, 10, 11, 13], [0, 1, 2, 3, 4, 5, 6, 7, 8, 9, 10, 11, 12, 13, 14]] [[], [], [0, 1], [0, 1, 2], [], [], [4, 5], [4, 5, 6], [4, 5, 6, 7], [0, 1, 2, 3, 4, 5, 6, 7, 8], [0, 1, 2, 3, 4, 5, 6, 7, 8, 9], [0, 1, 2, 3, 4, 5, 6, 7, 8, 9, 10], [0, 1, 2, 3, 4, 5, 6, 7, 8, 9, 10], [], [0, 1, 2, 3, 4, 5, 6, 7, 8, 9, 10, 11, 13]] [0, 1, 2, 3, 4, 5, 6, 7, 8, 9, 10, 11, 12, 14] [[], [], [], [], [], [], [], [], [], [], [], [], [], [], [13]] (fun j b => (j = 14 ∧ n16 ≤ b)) mixed (by kernel_rfl) (by decide) ?_
            refine ⟨.det (fun val => (.int .i64 (1))), ⟨fun _ _ hv => rfl, fun _ _ _ _ _ => trivial⟩, fun val h_ W hx he => ⟨trivial, ?_⟩, ?_⟩
            ·have hE := Upd.refl (fun _ => False) W
             refine id (X_move (v := (.int .i64 (1))) rfl ?_)
             exact ⟨Ext.upd hE, rfl⟩
            refine ⟨.det (fun val => (ptr b50 (0))), ⟨fun _ _ hv => rfl, fun _ _ _ _ _ => trivial⟩, fun val h_ W hx he => ⟨trivial, ?_⟩, ?_⟩
            ·have hE := Upd.refl (fun _ => False) W
             refine id (X_fldP (b := b50) (o := 0) (r := 0) Fd29_0 rfl rfl ?_)
             exact ⟨Ext.upd hE, rfl⟩
            refine ⟨.det (fun val => (ptr b50 (4))), ⟨fun _ _ hv => rfl, fun _ _ _ _ _ => trivial⟩, fun val h_ W hx he => ⟨trivial, ?_⟩, ?_⟩
            ·have hE := Upd.refl (fun _ => False) W
             refine id (X_idxAP (len := 2) (sz := 4) (b := b50) (o := 0) (k := .i64) (i := 1) (r := 4) Try.underlying27 Z26 rfl rfl (by omega) (by omega) rfl ?_)
             exact ⟨Ext.upd hE, rfl⟩
            refine ⟨.det (fun val => (.agg #[pq.d1.pv, pq.d1.cv, pq.d1.bv, (.bool (pq.d1.off))])), ⟨fun _ _ hv => rfl, fun _ _ _ _ _ => trivial⟩, fun val h_ W hx he => ⟨trivial, ?_⟩, ?_⟩
            ·replace hx := (Upd.drew _ _).trans hx
             replace hx : Upd (fun b => False) w56 W := hx.mono fun b _ h_ => by obtain ⟨j, _, hne, hm_, hS⟩ := h_; obtain ⟨rfl, hS⟩ := hS; exact absurd hm_ (by decide)
             replace hB50 := hB50.ext hx
             have hE := Upd.refl (fun _ => False) W
             refine id (X_loadA (p := (ptr b50 (4))) (xs := [pq.d1.pv, pq.d1.cv, pq.d1.bv, (.bool (pq.d1.off))]) A26 rfl (hB50.part (o := 4) (n := 4) rfl) rfl ?_)
             exact ⟨Ext.upd hE, rfl⟩
            refine ⟨.det (fun val => vC), ⟨fun _ _ hv => rfl, fun _ _ _ _ _ => trivial⟩, fun val h_ W hx he => ⟨trivial, ?_⟩, ?_⟩
            ·have hE := Upd.refl (fun _ => False) W
             refine id (X_move (v := vC) rfl ?_)
             exact ⟨Ext.upd hE, rfl⟩
            refine ⟨.det (fun val => (.int .i64 (((i : Nat) : Int)))), ⟨fun _ _ hv => rfl, fun _ _ _ _ _ => trivial⟩, fun val h_ W hx he => ⟨trivial, ?_⟩, ?_⟩
            ·have hE := Upd.refl (fun _ => False) W
             refine id (X_move (v := (.int .i64 (((i : Nat) : Int)))) rfl ?_)
             exact ⟨Ext.upd hE, rfl⟩
            refine ⟨.det (fun val => (pof vC ((((i : Nat) : Int) : Int).toNat * 2))), ⟨fun _ _ hv => rfl, fun _ _ _ _ _ => trivial⟩, fun val h_ W hx he => ⟨trivial, ?_⟩, ?_⟩
            ·replace hx := (Upd.drew _ _).trans hx
             replace hx : Upd (fun b => False) w56 W := hx.mono fun b _ h_ => by obtain ⟨j, _, hne, hm_, hS⟩ := h_; obtain ⟨rfl, hS⟩ := hS; exact absurd hm_ (by decide)
             replace hC := hC.ext hx
             have hE := Upd.refl (fun _ => False) W
             refine id (X_idx (v := vC) (n := (copL q).length) (k := .i64) (i := ((i : Nat) : Int)) S45 rfl hC.sv rfl (by omega) (by omega) ?_)
             exact ⟨Ext.upd hE, rfl⟩
            refine ⟨.det (fun val => (pof vC ((((i : Nat) : Int) : Int).toNat * 2 + 1))), ⟨fun _ _ hv => rfl, fun _ _ _ _ _ => trivial⟩, fun val h_ W hx he => ⟨trivial, ?_⟩, ?_⟩
            ·replace hx := (Upd.drew _ _).trans hx
             replace hx : Upd (fun b => False) w56 W := hx.mono fun b _ h_ => by obtain ⟨j, _, hne, hm_, hS⟩ := h_; obtain ⟨rfl, hS⟩ := hS; exact absurd hm_ (by decide)
             replace hC := hC.ext hx
             have hE := Upd.refl (fun _ => False) W
             refine id (X_idxAS (len := 2) (sz := 1) (v := vC) (o := (((i : Nat) : Int) : Int).toNat * 2) (k := .i64) (i := 1) (r := (((i : Nat) : Int) : Int).toNat * 2 + 1) Try.underlying47 Z3 rfl hC.sv (by omega) rfl (by omega) (by omega) rfl ?_)
             exact ⟨Ext.upd hE, rfl⟩
            refine ⟨.det (fun val => (.int .i64 (a))), ⟨fun _ _ hv => rfl, fun _ _ _ _ _ => trivial⟩, fun val h_ W hx he => ⟨trivial, ?_⟩, ?_⟩
            ·replace hx := (Upd.drew _ _).trans hx
             replace hx : Upd (fun b => False) w56 W := hx.mono fun b _ h_ => by obtain ⟨j, _, hne, hm_, hS⟩ := h_; obtain ⟨rfl, hS⟩ := hS; exact absurd hm_ (by decide)
             replace hC := hC.ext hx
             have hE := Upd.refl (fun _ => False) W
             refine id (X_load (p := (pof vC ((((i : Nat) : Int) : Int).toNat * 2 + 1))) (v := .int .i64 (a)) T3 rfl (cat1 hC (k := i) (by omega) hat) ?_)
             exact ⟨Ext.upd hE, rfl⟩
            refine ⟨.det (fun val => (.tuple #[(pageV pg), (.int .i64 (0))])), ⟨fun _ _ hv => rfl, fun _ _ _ _ _ => trivial⟩, fun val h_ W hx he => ⟨trivial, ?_⟩, ?_⟩
            ·replace hx := (Upd.drew _ _).trans hx
             replace hx : Upd (fun b => False) w56 W := hx.mono fun b _ h_ => by obtain ⟨j, _, hne, hm_, hS⟩ := h_; obtain ⟨rfl, hS⟩ := hS; exact absurd hm_ (by decide)
             replace hB1 := hB1.ext hx
             replace hB3 := hB3.ext hx
             replace hB50 := hB50.ext hx
             replace hB53 := hB53.ext hx
             replace h0 := h0.ext hx
             replace h1 := h1.ext hx
             replace hq0 := hq0.ext hx
             replace hq1 := hq1.ext hx
             replace hr0 := hr0.ext hx
             replace hr1 := hr1.ext hx
             replace hC := hC.ext hx
             have hE := Upd.refl (fun _ => False) W
             have hxs_ := hx.size
             have hcr_ := c_readRD pq.d1 a W l1q u1q (by omega) hq1
             refine id (X_fn (vs := [(.agg #[pq.d1.pv, pq.d1.cv, pq.d1.bv, (.bool (pq.d1.off))]), (.int .i64 (a))]) en14 rfl ?_)
             refine CT.mono hcr_ ?_
             clear hcr_
             rintro _ w67 ⟨rfl, hu67⟩
             have hz67 := hu67.size
             replace hB1 := hB1.ext hu67
             replace hB3 := hB3.ext hu67
             replace hB50 := hB50.ext hu67
             replace hB53 := hB53.ext hu67
             replace h0 := h0.ext hu67
             replace h1 := h1.ext hu67
             replace hq0 := hq0.ext hu67
             replace hq1 := hq1.ext hu67
             replace hr0 := hr0.ext hu67
             replace hr1 := hr1.ext hu67
             replace hC := hC.ext hu67
             replace hE := hE.trans (Ext.upd hu67)
             rw [hre16]
             exact ⟨Ext.upd hE, rfl⟩
            refine ⟨.det (fun val => (.tuple #[(pageV pg), (.int .i64 (0))])), ⟨fun _ _ hv => rfl, fun _ _ _ _ _ => trivial⟩, fun val h_ W hx he => ⟨trivial, ?_⟩, ?_⟩
            ·have hE := Upd.refl (fun _ => False) W
             refine id (X_move (v := (.tuple #[(pageV pg), (.int .i64 (0))])) rfl ?_)
             exact ⟨Ext.upd hE, rfl⟩
            refine ⟨.det (fun val => (pageV pg)), ⟨fun _ _ hv => rfl, fun _ _ _ _ _ => trivial⟩, fun val h_ W hx he => ⟨trivial, ?_⟩, ?_⟩
            ·have hE := Upd.refl (fun _ => False) W
             refine id (X_extract (l := [(pageV pg), (.int .i64 (0))]) (v := (pageV pg)) rfl rfl ?_)
             exact ⟨Ext.upd hE, rfl⟩
            refine ⟨.det (fun val => (.int .i64 (0))), ⟨fun _ _ hv => rfl, fun _ _ _ _ _ => trivial⟩, fun val h_ W hx he => ⟨trivial, ?_⟩, ?_⟩
            ·have hE := Upd.refl (fun _ => False) W
             refine id (X_extract (l := [(pageV pg), (.int .i64 (0))]) (v := (.int .i64 (0))) rfl rfl ?_)
             exact ⟨Ext.upd hE, rfl⟩
            refine ⟨.abs (fun _ x_ W_ => ∃ b, x_ = ptr b 0 ∧ n16 ≤ b ∧ Blk W_ b ((List.replicate 256 (0 : UInt8)).map byteV).toArray 37), ⟨fun _ _ _ => rfl, fun _ _ _ _ hu0 h => have hu : Upd (fun b => False) _ _ := hu0.mono fun b _ h_ => (by obtain ⟨j, _, hne, hm_, hk_, hS⟩ := h_; obtain ⟨rfl, hS⟩ := hS; exact absurd hk_ (by decide))
             (by obtain ⟨b, e1, e2, e3⟩ := h; exact ⟨b, e1, e2, e3.ext hu⟩)⟩, fun val h_ W hx he => ⟨trivial, ?_⟩, ?_⟩
            ·replace hx := (Upd.drew _ _).trans hx
             replace hx : Upd (fun b => False) w56 W := hx.mono fun b _ h_ => by obtain ⟨j, _, hne, hm_, hS⟩ := h_; obtain ⟨rfl, hS⟩ := hS; exact absurd hm_ (by decide)
             refine X_alloc (z := zv37) (c := zc37.toArray) Zv37 rfl ?_
             intro b w2 hn
             have hb37 := hn.blk
             rw [zc37_eq] at hb37
             have hxs := hx.size
             have hnn := hn.num
             exact ⟨Ext.upd hn.ext, b, rfl, by omega, hb37⟩
            refine ⟨.abs (fun val x_ W_ => ∃ b, val 13 = ptr b 0 ∧ n16 ≤ b ∧ Blk W_ b (pg.1.map byteV).toArray 37), ⟨fun _ _ hv => by simp only [hv 13 rfl], fun _ _ _ _ hu0 h => have hu : Upd (fun b => False) _ _ := hu0.mono fun b _ h_ => (by obtain ⟨j, _, hne, hm_, hk_, hS⟩ := h_; obtain ⟨rfl, hS⟩ := hS; exact absurd rfl hne)
             (by obtain ⟨b, e1, e2, e3⟩ := h; exact ⟨b, e1, e2, e3.ext hu⟩)⟩, fun val h_ W hx he => ⟨trivial, ?_⟩, ?_⟩
            ·obtain ⟨⟨b9, hb9, hbN9, hB9⟩, _⟩ := he
             refine X_storeW (b := b9) (ys := pg.1.map byteV) A37 hb9 rfl (byteV_one _) (by rw [List.length_map]; exact pg.2) hB9 (by rw [List.size_toArray, List.length_map]; exact List.length_replicate) ?_
             intro w7 hu7 hb7
             exact ⟨hu7.mono fun b _ h => ⟨rfl, by subst h; exact hbN9⟩, b9, hb9, hbN9, hb7⟩
            intro val W66 hx66 he66
            replace hx66 := (Upd.drew _ _).trans hx66
            replace hx66 : Upd (fun b => (n16 ≤ b)) w56 W66 := hx66.mono fun b _ h_ => by obtain ⟨j, _, hS⟩ := h_; obtain ⟨rfl, hS⟩ := hS; exact hS
            have hz66 := hx66.size
            replace hB1 := hB1.upd hx66 fun h => by have h : n16 ≤ b1 := h; omega
            replace hB3 := hB3.upd hx66 fun h => by have h : n16 ≤ b3 := h; omega
            replace hB50 := hB50.upd hx66 fun h => by have h : n16 ≤ b50 := h; omega
            replace hB53 := hB53.upd hx66 fun h => by have h : n16 ≤ b53 := h; omega
            replace h0 := h0.upd hx66 fun i h1 h2 h => by have h : n16 ≤ i := h; omega
            replace h1 := h1.upd hx66 fun i h1 h2 h => by have h : n16 ≤ i := h; omega
            replace hq0 := hq0.upd hx66 fun i h1 h2 h => by have h : n16 ≤ i := h; omega
            replace hq1 := hq1.upd hx66 fun i h1 h2 h => by have h : n16 ≤ i := h; omega
            replace hr0 := hr0.upd hx66 fun i h1 h2 h => by have h : n16 ≤ i := h; omega
            replace hr1 := hr1.upd hx66 fun i h1 h2 h => by have h : n16 ≤ i := h; omega
            replace hC := hC.upd hx66 fun i h1 h2 h => by have h : n16 ≤ i := h; omega
            replace hU := hU.trans (hx66.mono fun i _ h => by have h : n16 ≤ i := h; show n0 ≤ i; omega)
            obtain ⟨⟨b16, hb16, hbN16, hB16⟩, he66⟩ := he66
            refine L_op rfl (X_assign (v := (.int .i64 (0))) rfl ?_)
            refine L_nil ?_
            refine T_n ?_
            refine W_seq ?_
            obtain ⟨n17, hn17⟩ : ∃ n, n = W66.heap.size := ⟨_, rfl⟩
            have hlt17_hB1 := hB1.lt
            have hlt17_hB3 := hB3.lt
            have hlt17_hB50 := hB50.lt
            have hlt17_hB53 := hB53.lt
            have hlt17_hB16 := hB16.lt
            refine W_drawT 15 [[], [], [0, 1], [0, 1, 2], [], [], [4, 5], [4, 5, 6], [4, 5, 6, 7], [0, 1, 2, 3, 4, 5, 6, 7, 8], [0, 1, 2, 3, 4, 5, 6, 7, 8, 9], [0, 1, 2, 3, 4, 5, 6, 7, 8, 9, 10], [0, 1, 2, 3, 4, 5, 6, 7, 8, 9, 10], [], [0, 1, 2, 3, 4, 5, 6, 7, 8, 9, 10, 11, 13], [0, 1, 2, 3, 4, 5, 6, 7, 8, 9, 10, 11, 12, 13, 14]] [[], [], [0, 1], [0, 1, 2], [], [], [4, 5], [4, 5, 6], [4, 5, 6, 7], [0, 1, 2, 3, 4, 5, 6, 7, 8], [0, 1, 2, 3, 4, 5, 6, 7, 8, 9], [0, 1, 2, 3, 4, 5, 6, 7, 8, 9, 10], [0, 1, 2, 3, 4, 5, 6, 7, 8, 9, 10], [], [0, 1, 2, 3, 4, 5, 6, 7, 8, 9, 10, 11, 13]] [0, 1, 2, 3, 4, 5, 6, 7, 8, 9, 10, 11, 12, 14] [[], [], [], [], [], [], [], [], [], [], [], [], [], [], [13]] (fun j b => (j = 14 ∧ n17 ≤ b)) mixed (by kernel_rfl) (by decide) ?_
            refine ⟨.det (fun val => (.int .i64 (1))), ⟨fun _ _ hv => rfl, fun _ _ _ _ _ => trivial⟩, fun val h_ W hx he => ⟨trivial, ?_⟩, ?_⟩
            ·have hE := Upd.refl (fun _ => False) W
             refine id (X_move (v := (.int .i64 (1))) rfl ?_)
             exact ⟨Ext.upd hE, rfl⟩
            refine ⟨.det (fun val => (ptr b53 (0))), ⟨fun _ _ hv => rfl, fun _ _ _ _ _ => trivial⟩, fun val h_ W hx he => ⟨trivial, ?_⟩, ?_⟩
            ·have hE := Upd.refl (fun _ => False) W
             refine id (X_fldP (b := b53) (o := 0) (r := 0) Fd29_0 rfl rfl ?_)
             exact ⟨Ext.upd hE, rfl⟩
            refine ⟨.det (fun val => (ptr b53 (4))), ⟨fun _ _ hv => rfl, fun _ _ _ _ _ => trivial⟩, fun val h_ W hx he => ⟨trivial, ?_⟩, ?_⟩
            ·have hE := Upd.refl (fun _ => False) W
             refine id (X_idxAP (len := 2) (sz := 4) (b := b53) (o := 0) (k := .i64) (i := 1) (r := 4) Try.underlying27 Z26 rfl rfl (by omega) (by omega) rfl ?_)
             exact ⟨Ext.upd hE, rfl⟩
            refine ⟨.det (fun val => (.agg #[pr.d1.pv, pr.d1.cv, pr.d1.bv, (.bool (pr.d1.off))])), ⟨fun _ _ hv => rfl, fun _ _ _ _ _ => trivial⟩, fun val h_ W hx he => ⟨trivial, ?_⟩, ?_⟩
            ·replace hx := (Upd.drew _ _).trans hx
             replace hx : Upd (fun b => False) W66 W := hx.mono fun b _ h_ => by obtain ⟨j, _, hne, hm_, hS⟩ := h_; obtain ⟨rfl, hS⟩ := hS; exact absurd hm_ (by decide)
             replace hB53 := hB53.ext hx
             have hE := Upd.refl (fun _ => False) W
             refine id (X_loadA (p := (ptr b53 (4))) (xs := [pr.d1.pv, pr.d1.cv, pr.d1.bv, (.bool (pr.d1.off))]) A26 rfl (hB53.part (o := 4) (n := 4) rfl) rfl ?_)
             exact ⟨Ext.upd hE, rfl⟩
            refine ⟨.det (fun val => vC), ⟨fun _ _ hv => rfl, fun _ _ _ _ _ => trivial⟩, fun val h_ W hx he => ⟨trivial, ?_⟩, ?_⟩
            ·have hE := Upd.refl (fun _ => False) W
             refine id (X_move (v := vC) rfl ?_)
             exact ⟨Ext.upd hE, rfl⟩
            refine ⟨.det (fun val => (.int .i64 (((i : Nat) : Int)))), ⟨fun _ _ hv => rfl, fun _ _ _ _ _ => trivial⟩, fun val h_ W hx he => ⟨trivial, ?_⟩, ?_⟩
            ·have hE := Upd.refl (fun _ => False) W
             refine id (X_move (v := (.int .i64 (((i : Nat) : Int)))) rfl ?_)
             exact ⟨Ext.upd hE, rfl⟩
            refine ⟨.det (fun val => (pof vC ((((i : Nat) : Int) : Int).toNat * 2))), ⟨fun _ _ hv => rfl, fun _ _ _ _ _ => trivial⟩, fun val h_ W hx he => ⟨trivial, ?_⟩, ?_⟩
            ·replace hx := (Upd.drew _ _).trans hx
             replace hx : Upd (fun b => False) W66 W := hx.mono fun b _ h_ => by obtain ⟨j, _, hne, hm_, hS⟩ := h_; obtain ⟨rfl, hS⟩ := hS; exact absurd hm_ (by decide)
             replace hC := hC.ext hx
             have hE := Upd.refl (fun _ => False) W
             refine id (X_idx (v := vC) (n := (copL q).length) (k := .i64) (i := ((i : Nat) : Int)) S45 rfl hC.sv rfl (by omega) (by omega) ?_)
             exact ⟨Ext.upd hE, rfl⟩
            refine ⟨.det (fun val => (pof vC ((((i : Nat) : Int) : Int).toNat * 2 + 1))), ⟨fun _ _ hv => rfl, fun _ _ _ _ _ => trivial⟩, fun val h_ W hx he => ⟨trivial, ?_⟩, ?_⟩
            ·replace hx := (Upd.drew _ _).trans hx
             replace hx : Upd (fun b => False) W66 W := hx.mono fun b _ h_ => by obtain ⟨j, _, hne, hm_, hS⟩ := h_; obtain ⟨rfl, hS⟩ := hS; exact absurd hm_ (by decide)
             replace hC := hC.ext hx
             have hE := Upd.refl (fun _ => False) W
             refine id (X_idxAS (len := 2) (sz := 1) (v := vC) (o := (((i : Nat) : Int) : Int).toNat * 2) (k := .i64) (i := 1) (r := (((i : Nat) : Int) : Int).toNat * 2 + 1) Try.underlying47 Z3 rfl hC.sv (by omega) rfl (by omega) (by omega) rfl ?_)
             exact ⟨Ext.upd hE, rfl⟩
            refine ⟨.det (fun val => (.int .i64 (a))), ⟨fun _ _ hv => rfl, fun _ _ _ _ _ => trivial⟩, fun val h_ W hx he => ⟨trivial, ?_⟩, ?_⟩
            ·replace hx := (Upd.drew _ _).trans hx
             replace hx : Upd (fun b => False) W66 W := hx.mono fun b _ h_ => by obtain ⟨j, _, hne, hm_, hS⟩ := h_; obtain ⟨rfl, hS⟩ := hS; exact absurd hm_ (by decide)
             replace hC := hC.ext hx
             have hE := Upd.refl (fun _ => False) W
             refine id (X_load (p := (pof vC ((((i : Nat) : Int) : Int).toNat * 2 + 1))) (v := .int .i64 (a)) T3 rfl (cat1 hC (k := i) (by omega) hat) ?_)
             exact ⟨Ext.upd hE, rfl⟩
            refine ⟨.det (fun val => (.tuple #[(pageV pg), (.int .i64 (0))])), ⟨fun _ _ hv => rfl, fun _ _ _ _ _ => trivial⟩, fun val h_ W hx he => ⟨trivial, ?_⟩, ?_⟩
            ·replace hx := (Upd.drew _ _).trans hx
             replace hx : Upd (fun b => False) W66 W := hx.mono fun b _ h_ => by obtain ⟨j, _, hne, hm_, hS⟩ := h_; obtain ⟨rfl, hS⟩ := hS; exact absurd hm_ (by decide)
             replace hB1 := hB1.ext hx
             replace hB3 := hB3.ext hx
             replace hB50 := hB50.ext hx
             replace hB53 := hB53.ext hx
             replace h0 := h0.ext hx
             replace h1 := h1.ext hx
             replace hq0 := hq0.ext hx
             replace hq1 := hq1.ext hx
             replace hr0 := hr0.ext hx
             replace hr1 := hr1.ext hx
             replace hC := hC.ext hx
             replace hB16 := hB16.ext hx
             have hE := Upd.refl (fun _ => False) W
             have hxs_ := hx.size
             have hcr_ := c_readRD pr.d1 a W l1r u1r (by omega) hr1
             refine id (X_fn (vs := [(.agg #[pr.d1.pv, pr.d1.cv, pr.d1.bv, (.bool (pr.d1.off))]), (.int .i64 (a))]) en14 rfl ?_)
             refine CT.mono hcr_ ?_
             clear hcr_
             rintro _ w69 ⟨rfl, hu69⟩
             have hz69 := hu69.size
             replace hB1 := hB1.ext hu69
             replace hB3 := hB3.ext hu69
             replace hB50 := hB50.ext hu69
             replace hB53 := hB53.ext hu69
             replace h0 := h0.ext hu69
             replace h1 := h1.ext hu69
             replace hq0 := hq0.ext hu69
             replace hq1 := hq1.ext hu69
             replace hr0 := hr0.ext hu69
             replace hr1 := hr1.ext hu69
             replace hC := hC.ext hu69
             replace hB16 := hB16.ext hu69
             replace hE := hE.trans (Ext.upd hu69)
             rw [hre17]
             exact ⟨Ext.upd hE, rfl⟩
            refine ⟨.det (fun val => (.tuple #[(pageV pg), (.int .i64 (0))])), ⟨fun _ _ hv => rfl, fun _ _ _ _ _ => trivial⟩, fun val h_ W hx he => ⟨trivial, ?_⟩, ?_⟩
            ·have hE := Upd.refl (fun _ => False) W
             refine id (X_move (v := (.tuple #[(pageV pg), (.int .i64 (0))])) rfl ?_)
             exact ⟨Ext.upd hE, rfl⟩
            refine ⟨.det (fun val => (pageV pg)), ⟨fun _ _ hv => rfl, fun _ _ _ _ _ => trivial⟩, fun val h_ W hx he => ⟨trivial, ?_⟩, ?_⟩
            ·have hE := Upd.refl (fun _ => False) W
             refine id (X_extract (l := [(pageV pg), (.int .i64 (0))]) (v := (pageV pg)) rfl rfl ?_)
             exact ⟨Ext.upd hE, rfl⟩
            refine ⟨.det (fun val => (.int .i64 (0))), ⟨fun _ _ hv => rfl, fun _ _ _ _ _ => trivial⟩, fun val h_ W hx he => ⟨trivial, ?_⟩, ?_⟩
            ·have hE := Upd.refl (fun _ => False) W
             refine id (X_extract (l := [(pageV pg), (.int .i64 (0))]) (v := (.int .i64 (0))) rfl rfl ?_)
             exact ⟨Ext.upd hE, rfl⟩
            refine ⟨.abs (fun _ x_ W_ => ∃ b, x_ = ptr b 0 ∧ n17 ≤ b ∧ Blk W_ b ((List.replicate 256 (0 : UInt8)).map byteV).toArray 37), ⟨fun _ _ _ => rfl, fun _ _ _ _ hu0 h => have hu : Upd (fun b => False) _ _ := hu0.mono fun b _ h_ => (by obtain ⟨j, _, hne, hm_, hk_, hS⟩ := h_; obtain ⟨rfl, hS⟩ := hS; exact absurd hk_ (by decide))
             (by obtain ⟨b, e1, e2, e3⟩ := h; exact ⟨b, e1, e2, e3.ext hu⟩)⟩, fun val h_ W hx he => ⟨trivial, ?_⟩, ?_⟩
            ·replace hx := (Upd.drew _ _).trans hx
             replace hx : Upd (fun b => False) W66 W := hx.mono fun b _ h_ => by obtain ⟨j, _, hne, hm_, hS⟩ := h_; obtain ⟨rfl, hS⟩ := hS; exact absurd hm_ (by decide)
             refine X_alloc (z := zv37) (c := zc37.toArray) Zv37 rfl ?_
             intro b w2 hn
             have hb37 := hn.blk
             rw [zc37_eq] at hb37
             have hxs := hx.size
             have hnn := hn.num
             exact ⟨Ext.upd hn.ext, b, rfl, by omega, hb37⟩
            refine ⟨.abs (fun val x_ W_ => ∃ b, val 13 = ptr b 0 ∧ n17 ≤ b ∧ Blk W_ b (pg.1.map byteV).toArray 37), ⟨fun _ _ hv => by simp only [hv 13 rfl], fun _ _ _ _ hu0 h => have hu : Upd (fun b => False) _ _ := hu0.mono fun b _ h_ => (by obtain ⟨j, _, hne, hm_, hk_, hS⟩ := h_; obtain ⟨rfl, hS⟩ := hS; exact absurd rfl hne)
             (by obtain ⟨b, e1, e2, e3⟩ := h; exact ⟨b, e1, e2, e3.ext hu⟩)⟩, fun val h_ W hx he => ⟨trivial, ?_⟩, ?_⟩
            ·obtain ⟨⟨b9, hb9, hbN9, hB9⟩, _⟩ := he
             refine X_storeW (b := b9) (ys := pg.1.map byteV) A37 hb9 rfl (byteV_one _) (by rw [List.length_map]; exact pg.2) hB9 (by rw [List.size_toArray, List.length_map]; exact List.length_replicate) ?_
             intro w7 hu7 hb7
             exact ⟨hu7.mono fun b _ h => ⟨rfl, by subst h; exact hbN9⟩, b9, hb9, hbN9, hb7⟩
            intro val W68 hx68 he68
            replace hx68 := (Upd.drew _ _).trans hx68
            replace hx68 : Upd (fun b => (n17 ≤ b)) W66 W68 := hx68.mono fun b _ h_ => by obtain ⟨j, _, hS⟩ := h_; obtain ⟨rfl, hS⟩ := hS; exact hS
            have hz68 := hx68.size
            replace hB1 := hB1.upd hx68 fun h => by have h : n17 ≤ b1 := h; omega
            replace hB3 := hB3.upd hx68 fun h => by have h : n17 ≤ b3 := h; omega
            replace hB50 := hB50.upd hx68 fun h => by have h : n17 ≤ b50 := h; omega
            replace hB53 := hB53.upd hx68 fun h => by have h : n17 ≤ b53 := h; omega
            replace h0 := h0.upd hx68 fun i h1 h2 h => by have h : n17 ≤ i := h; omega
            replace h1 := h1.upd hx68 fun i h1 h2 h => by have h : n17 ≤ i := h; omega
            replace hq0 := hq0.upd hx68 fun i h1 h2 h => by have h : n17 ≤ i := h; omega
            replace hq1 := hq1.upd hx68 fun i h1 h2 h => by have h : n17 ≤ i := h; omega
            replace hr0 := hr0.upd hx68 fun i h1 h2 h => by have h : n17 ≤ i := h; omega
            replace hr1 := hr1.upd hx68 fun i h1 h2 h => by have h : n17 ≤ i := h; omega
            replace hC := hC.upd hx68 fun i h1 h2 h => by have h : n17 ≤ i := h; omega
            replace hU := hU.trans (hx68.mono fun i _ h => by have h : n17 ≤ i := h; show n0 ≤ i; omega)
            replace hB16 := hB16.upd hx68 fun h => by have h : n17 ≤ b16 := h; omega
            obtain ⟨⟨b17, hb17, hbN17, hB17⟩, he68⟩ := he68
            refine L_op rfl (X_assign (v := (.int .i64 (0))) rfl ?_)
            refine L_nil ?_
            refine T_n ?_
            refine W_seq ?_
            refine W_reg ?_
            refine L_op rfl (X_move (v := (.int .i64 (0))) rfl ?_)
            refine L_op rfl (X_cmp (k := .i64) (a := 0) (b := 0) (r := false) rfl rfl rfl rfl ?_)
            refine L_op rfl (X_move (v := (.bool (false))) rfl ?_)
            refine L_gy (dj := 175) rfl rfl rfl (X_move (v := (.int .i64 (0))) rfl ?_)
            refine L_gy (dj := 175) rfl rfl rfl (X_cmp (k := .i64) (a := 0) (b := 0) (r := false) rfl rfl rfl rfl ?_)
            refine L_op rfl (X_pick (t := false) (v := (.bool (false))) rfl rfl ?_)
            refine L_op rfl (X_move (v := (.bool (false))) rfl ?_)
            refine L_gy (dj := 179) rfl rfl rfl (X_loadA (xs := pg.1.map byteV) A37 hb16 hB16.atAll (by rw [List.length_map]; exact pg.2) ?_)
            refine L_gy (dj := 179) rfl rfl rfl (X_loadA (p := (ptr b3 (0))) (xs := ((pg.1).map byteV)) A37 rfl hB3.atAll (by rw [List.length_map]; exact pg.2) ?_)
            refine L_gy (dj := 179) rfl rfl rfl (X_eqA (n := 256) (l := pg.1) (m := pg.1) (r := false) Try.underlying37 Try.underlying5 (by kernel_rfl) (by kernel_rfl) (by kernel_rfl) rfl rfl (pg.2) (pg.2) (.inr ⟨rfl, (by rw [beq_self_eq_true]; rfl)⟩) ?_)
            refine L_op rfl (X_pick (t := false) (v := (.bool (false))) rfl rfl ?_)
            refine L_op rfl (X_move (v := (.bool (false))) rfl ?_)
            refine L_gy (dj := 184) rfl rfl rfl (X_loadA (xs := pg.1.map byteV) A37 hb17 hB17.atAll (by rw [List.length_map]; exact pg.2) ?_)
            refine L_gy (dj := 184) rfl rfl rfl (X_loadA (p := (ptr b3 (0))) (xs := ((pg.1).map byteV)) A37 rfl hB3.atAll (by rw [List.length_map]; exact pg.2) ?_)
            refine L_gy (dj := 184) rfl rfl rfl (X_eqA (n := 256) (l := pg.1) (m := pg.1) (r := false) Try.underlying37 Try.underlying5 (by kernel_rfl) (by kernel_rfl) (by kernel_rfl) rfl rfl (pg.2) (pg.2) (.inr ⟨rfl, (by rw [beq_self_eq_true]; rfl)⟩) ?_)
            refine L_op rfl (X_pick (t := false) (v := (.bool (false))) rfl rfl ?_)
            refine L_op rfl (X_move (v := (.bool (false))) rfl ?_)
            refine L_gy (dj := 189) rfl rfl rfl (X_move (v := (.int .i64 (1))) rfl ?_)
            refine L_gy (dj := 189) rfl rfl rfl (X_fldP (b := b53) (o := 0) (r := 0) Fd29_0 rfl rfl ?_)
            refine L_gy (dj := 189) rfl rfl rfl (X_idxAP (len := 2) (sz := 4) (b := b53) (o := 0) (k := .i64) (i := 1) (r := 4) Try.underlying27 Z26 rfl rfl (by omega) (by omega) rfl ?_)
            refine L_gy (dj := 189) rfl rfl rfl (X_fldP (b := b53) (o := 4) (r := 5) Fd26_1 rfl rfl ?_)
            refine L_gy (dj := 189) rfl rfl rfl (X_load (p := (ptr b53 (5))) (v := pr.d1.cv) T23 rfl (hB53.at1 rfl) ?_)
            refine L_gy (dj := 189) rfl rfl rfl (X_len (v := pr.d1.cv) (n := pr.d1.cs.length) Try.underlying23 rfl hr1.2.1.sv ?_)
            refine L_gy (dj := 189) rfl rfl rfl (X_cmp (k := .i64) (a := ((pr.d1.cs.length : Nat) : Int)) (b := 0) (r := false) rfl rfl rfl (decide_eq_false (p := ((((pr.d1.cs.length : Nat) : Int)) : Int) ≠ ((0) : Int)) (by omega)) ?_)
            refine L_op rfl (X_pick (t := false) (v := (.bool (false))) rfl rfl ?_)
            refine L_nil ?_
            refine T_n ?_
            refine W_cf rfl ?_
            refine W_skip ?_
            refine B_n ?_
            refine T_n ?_
            refine W_reg ?_
            refine L_op rfl (X_move (v := (.int .i64 (((i : Nat) : Int)))) rfl ?_)
            refine L_op rfl (X_arith (k := .i64) (a := ((i : Nat) : Int)) (b := 1) (r := ((i + 1 : Nat) : Int)) rfl rfl rfl (iadd64 (by omega) (by omega) (by omega)) ?_)
            refine L_op rfl (X_assign (v := (.int .i64 (((i + 1 : Nat) : Int)))) rfl ?_)
            refine L_nil ?_
            refine T_n ?_
            exact ⟨rfl, i + 1, ⟨⟨hi, hB1, hB3, hB50, hB53, h0, h1, hq0, hq1, hr0, hr1, hC, hU, by omega⟩, (by show (copL q).length - (i + 1) < (copL q).length - i; omega)⟩, (Out.mk rfl), ⟨rfl, trivial⟩⟩
         ·refine L_op rfl (X_cmp (k := .i64) (a := ((i : Nat) : Int)) (b := (((copL q).length : Nat) : Int)) (r := false) rfl rfl rfl (decide_eq_false (p := ((((i : Nat) : Int)) : Int) < (((((copL q).length : Nat) : Int)) : Int)) (by omega)) ?_)
          refine L_nil ?_
          refine T_n ?_
          refine W_cf rfl ?_
          refine W_exit ?_
          refine T_e ?_
          refine T_e ?_
          refine B_x ?_
          refine T_n ?_
          refine W_seq ?_
          refine W_reg ?_
          refine L_op rfl (X_fn (vs := []) en9 rfl (CT.mono (c_wakes _) ?_))
          rintro _ w70 ⟨rfl, hu70⟩
          have hz70 := hu70.size
          replace hB1 := hB1.ext hu70
          replace hB3 := hB3.ext hu70
          replace hB50 := hB50.ext hu70
          replace hB53 := hB53.ext hu70
          replace h0 := h0.ext hu70
          replace h1 := h1.ext hu70
          replace hq0 := hq0.ext hu70
          replace hq1 := hq1.ext hu70
          replace hr0 := hr0.ext hu70
          replace hr1 := hr1.ext hu70
          replace hC := hC.ext hu70
          replace hU := hU.trans (Ext.upd hu70)
          refine L_op rfl (X_assign (v := (.bool (true))) rfl ?_)
          refine L_nil ?_
          refine T_n ?_
          refine W_ret ?_
          exact BQ_r (End_1 Try.results3 (v := .bool true) rfl ⟨rfl, hU.own hn0⟩)
      ·rw [hc44]
       refine L_gy (dj := 63) rfl rfl rfl (X_not (b := false) (r := true) rfl rfl ?_)
       refine L_op rfl (X_pick (t := false) (v := (.bool (true))) rfl rfl ?_)
       refine L_op rfl (X_move (v := (.bool (true))) rfl ?_)
       refine L_gn (dj := 69) (t := true) rfl rfl rfl rfl ?_
       refine L_gn (dj := 69) (t := true) rfl rfl rfl rfl ?_
       refine L_gn (dj := 69) (t := true) rfl rfl rfl rfl ?_
       refine L_op rfl (X_pick (t := true) (v := (.bool (true))) rfl rfl ?_)
       refine L_op rfl (X_move (v := (.bool (true))) rfl ?_)
       refine L_gn (dj := 74) (t := true) rfl rfl rfl rfl ?_
       refine L_gn (dj := 74) (t := true) rfl rfl rfl rfl ?_
       refine L_gn (dj := 74) (t := true) rfl rfl rfl rfl ?_
       refine L_gn (dj := 74) (t := true) rfl rfl rfl rfl ?_
       refine L_gn (dj := 74) (t := true) rfl rfl rfl rfl ?_
       refine L_gn (dj := 74) (t := true) rfl rfl rfl rfl ?_
       refine L_gn (dj := 74) (t := true) rfl rfl rfl rfl ?_
       refine L_gn (dj := 74) (t := true) rfl rfl rfl rfl ?_
       refine L_gn (dj := 74) (t := true) rfl rfl rfl rfl ?_
       refine L_gn (dj := 74) (t := true) rfl rfl rfl rfl ?_
       refine L_gn (dj := 74) (t := true) rfl rfl rfl rfl ?_
       refine L_gn (dj := 74) (t := true) rfl rfl rfl rfl ?_
       refine L_op rfl (X_pick (t := true) (v := (.bool (true))) rfl rfl ?_)
       refine L_nil ?_
       refine T_n ?_
       refine W_ct rfl ?_
       refine W_seq ?_
       refine W_reg ?_
       refine L_op rfl (X_fn (vs := []) en9 rfl (CT.mono (c_wakes _) ?_))
       rintro _ w71 ⟨rfl, hu71⟩
       have hz71 := hu71.size
       replace h0 := h0.ext hu71
       replace h1 := h1.ext hu71
       replace hU := hU.trans (Ext.upd hu71)
       replace hB1 := hB1.ext hu71
       replace hB2 := hB2.ext hu71
       replace hB3 := hB3.ext hu71
       refine L_op rfl (X_assign (v := (.bool (true))) rfl ?_)
       refine L_nil ?_
       refine T_n ?_
       refine W_ret ?_
       refine T_r ?_
       exact BQ_r (End_1 Try.results3 (v := .bool true) rfl ⟨rfl, hU.own hn0⟩)
  ·rw [hc7]
   refine L_gy (dj := 35) rfl rfl rfl (X_not (b := false) (r := true) rfl rfl ?_)
   refine L_op rfl (X_pick (t := false) (v := (.bool (true))) rfl rfl ?_)
   refine L_op rfl (X_move (v := (.bool (true))) rfl ?_)
   refine L_gn (dj := 42) (t := true) rfl rfl rfl rfl ?_
   refine L_gn (dj := 42) (t := true) rfl rfl rfl rfl ?_
   refine L_gn (dj := 42) (t := true) rfl rfl rfl rfl ?_
   refine L_gn (dj := 42) (t := true) rfl rfl rfl rfl ?_
   refine L_gn (dj := 42) (t := true) rfl rfl rfl rfl ?_
   refine L_gu (dj := 47) rfl rfl rfl ?_
   refine L_gu (dj := 47) rfl rfl rfl ?_
   refine L_gu (dj := 47) rfl rfl rfl ?_
   refine L_gu (dj := 47) rfl rfl rfl ?_
   refine L_gn (dj := 42) (t := true) rfl rfl rfl rfl ?_
   refine L_op rfl (X_pick (t := true) (v := (.bool (true))) rfl rfl ?_)
   refine L_op rfl (X_move (v := (.bool (true))) rfl ?_)
   refine L_gn (dj := 54) (t := true) rfl rfl rfl rfl ?_
   refine L_gn (dj := 54) (t := true) rfl rfl rfl rfl ?_
   refine L_op rfl (X_pick (t := true) (v := (.bool (true))) rfl rfl ?_)
   refine L_op rfl (X_move (v := (.bool (true))) rfl ?_)
   refine L_gn (dj := 58) (t := true) rfl rfl rfl rfl ?_
   refine L_gn (dj := 58) (t := true) rfl rfl rfl rfl ?_
   refine L_gn (dj := 58) (t := true) rfl rfl rfl rfl ?_
   refine L_op rfl (X_pick (t := true) (v := (.bool (true))) rfl rfl ?_)
   refine L_op rfl (X_move (v := (.bool (true))) rfl ?_)
   refine L_gn (dj := 63) (t := true) rfl rfl rfl rfl ?_
   refine L_gn (dj := 63) (t := true) rfl rfl rfl rfl ?_
   refine L_gn (dj := 63) (t := true) rfl rfl rfl rfl ?_
   refine L_gn (dj := 63) (t := true) rfl rfl rfl rfl ?_
   refine L_op rfl (X_pick (t := true) (v := (.bool (true))) rfl rfl ?_)
   refine L_op rfl (X_move (v := (.bool (true))) rfl ?_)
   refine L_gn (dj := 69) (t := true) rfl rfl rfl rfl ?_
   refine L_gn (dj := 69) (t := true) rfl rfl rfl rfl ?_
   refine L_gn (dj := 69) (t := true) rfl rfl rfl rfl ?_
   refine L_op rfl (X_pick (t := true) (v := (.bool (true))) rfl rfl ?_)
   refine L_op rfl (X_move (v := (.bool (true))) rfl ?_)
   refine L_gn (dj := 74) (t := true) rfl rfl rfl rfl ?_
   refine L_gn (dj := 74) (t := true) rfl rfl rfl rfl ?_
   refine L_gn (dj := 74) (t := true) rfl rfl rfl rfl ?_
   refine L_gn (dj := 74) (t := true) rfl rfl rfl rfl ?_
   refine L_gn (dj := 74) (t := true) rfl rfl rfl rfl ?_
   refine L_gn (dj := 74) (t := true) rfl rfl rfl rfl ?_
   refine L_gn (dj := 74) (t := true) rfl rfl rfl rfl ?_
   refine L_gn (dj := 74) (t := true) rfl rfl rfl rfl ?_
   refine L_gn (dj := 74) (t := true) rfl rfl rfl rfl ?_
   refine L_gn (dj := 74) (t := true) rfl rfl rfl rfl ?_
   refine L_gn (dj := 74) (t := true) rfl rfl rfl rfl ?_
   refine L_gn (dj := 74) (t := true) rfl rfl rfl rfl ?_
   refine L_op rfl (X_pick (t := true) (v := (.bool (true))) rfl rfl ?_)
   refine L_nil ?_
   refine T_n ?_
   refine W_ct rfl ?_
   refine W_seq ?_
   refine W_reg ?_
   refine L_op rfl (X_fn (vs := []) en9 rfl (CT.mono (c_wakes _) ?_))
   rintro _ w72 ⟨rfl, hu72⟩
   have hz72 := hu72.size
   replace h0 := h0.ext hu72
   replace h1 := h1.ext hu72
   replace hU := hU.trans (Ext.upd hu72)
   replace hB1 := hB1.ext hu72
   replace hB2 := hB2.ext hu72
   replace hB3 := hB3.ext hu72
   refine L_op rfl (X_assign (v := (.bool (true))) rfl ?_)
   refine L_nil ?_
   refine T_n ?_
   refine W_ret ?_
   refine T_r ?_
   exact BQ_r (End_1 Try.results3 (v := .bool true) rfl ⟨rfl, hU.own hn0⟩)
 ·rw [hc5]
  refine L_op rfl (X_not (b := false) (r := true) rfl rfl ?_)
  refine L_op rfl (X_move (v := (.bool (true))) rfl ?_)
  refine L_gn (dj := 35) (t := true) rfl rfl rfl rfl ?_
  refine L_gn (dj := 35) (t := true) rfl rfl rfl rfl ?_
  refine L_gn (dj := 35) (t := true) rfl rfl rfl rfl ?_
  refine L_gn (dj := 35) (t := true) rfl rfl rfl rfl ?_
  refine L_gn (dj := 35) (t := true) rfl rfl rfl rfl ?_
  refine L_op rfl (X_pick (t := true) (v := (.bool (true))) rfl rfl ?_)
  refine L_op rfl (X_move (v := (.bool (true))) rfl ?_)
  refine L_gn (dj := 42) (t := true) rfl rfl rfl rfl ?_
  refine L_gn (dj := 42) (t := true) rfl rfl rfl rfl ?_
  refine L_gn (dj := 42) (t := true) rfl rfl rfl rfl ?_
  refine L_gn (dj := 42) (t := true) rfl rfl rfl rfl ?_
  refine L_gn (dj := 42) (t := true) rfl rfl rfl rfl ?_
  refine L_gu (dj := 47) rfl rfl rfl ?_
  refine L_gu (dj := 47) rfl rfl rfl ?_
  refine L_gu (dj := 47) rfl rfl rfl ?_
  refine L_gu (dj := 47) rfl rfl rfl ?_
  refine L_gn (dj := 42) (t := true) rfl rfl rfl rfl ?_
  refine L_op rfl (X_pick (t := true) (v := (.bool (true))) rfl rfl ?_)
  refine L_op rfl (X_move (v := (.bool (true))) rfl ?_)
  refine L_gn (dj := 54) (t := true) rfl rfl rfl rfl ?_
  refine L_gn (dj := 54) (t := true) rfl rfl rfl rfl ?_
  refine L_op rfl (X_pick (t := true) (v := (.bool (true))) rfl rfl ?_)
  refine L_op rfl (X_move (v := (.bool (true))) rfl ?_)
  refine L_gn (dj := 58) (t := true) rfl rfl rfl rfl ?_
  refine L_gn (dj := 58) (t := true) rfl rfl rfl rfl ?_
  refine L_gn (dj := 58) (t := true) rfl rfl rfl rfl ?_
  refine L_op rfl (X_pick (t := true) (v := (.bool (true))) rfl rfl ?_)
  refine L_op rfl (X_move (v := (.bool (true))) rfl ?_)
  refine L_gn (dj := 63) (t := true) rfl rfl rfl rfl ?_
  refine L_gn (dj := 63) (t := true) rfl rfl rfl rfl ?_
  refine L_gn (dj := 63) (t := true) rfl rfl rfl rfl ?_
  refine L_gn (dj := 63) (t := true) rfl rfl rfl rfl ?_
  refine L_op rfl (X_pick (t := true) (v := (.bool (true))) rfl rfl ?_)
  refine L_op rfl (X_move (v := (.bool (true))) rfl ?_)
  refine L_gn (dj := 69) (t := true) rfl rfl rfl rfl ?_
  refine L_gn (dj := 69) (t := true) rfl rfl rfl rfl ?_
  refine L_gn (dj := 69) (t := true) rfl rfl rfl rfl ?_
  refine L_op rfl (X_pick (t := true) (v := (.bool (true))) rfl rfl ?_)
  refine L_op rfl (X_move (v := (.bool (true))) rfl ?_)
  refine L_gn (dj := 74) (t := true) rfl rfl rfl rfl ?_
  refine L_gn (dj := 74) (t := true) rfl rfl rfl rfl ?_
  refine L_gn (dj := 74) (t := true) rfl rfl rfl rfl ?_
  refine L_gn (dj := 74) (t := true) rfl rfl rfl rfl ?_
  refine L_gn (dj := 74) (t := true) rfl rfl rfl rfl ?_
  refine L_gn (dj := 74) (t := true) rfl rfl rfl rfl ?_
  refine L_gn (dj := 74) (t := true) rfl rfl rfl rfl ?_
  refine L_gn (dj := 74) (t := true) rfl rfl rfl rfl ?_
  refine L_gn (dj := 74) (t := true) rfl rfl rfl rfl ?_
  refine L_gn (dj := 74) (t := true) rfl rfl rfl rfl ?_
  refine L_gn (dj := 74) (t := true) rfl rfl rfl rfl ?_
  refine L_gn (dj := 74) (t := true) rfl rfl rfl rfl ?_
  refine L_op rfl (X_pick (t := true) (v := (.bool (true))) rfl rfl ?_)
  refine L_nil ?_
  refine T_n ?_
  refine W_ct rfl ?_
  refine W_seq ?_
  refine W_reg ?_
  refine L_op rfl (X_fn (vs := []) en9 rfl (CT.mono (c_wakes _) ?_))
  rintro _ w73 ⟨rfl, hu73⟩
  have hz73 := hu73.size
  replace h0 := h0.ext hu73
  replace h1 := h1.ext hu73
  replace hU := hU.trans (Ext.upd hu73)
  replace hB1 := hB1.ext hu73
  replace hB2 := hB2.ext hu73
  replace hB3 := hB3.ext hu73
  refine L_op rfl (X_assign (v := (.bool (true))) rfl ?_)
  refine L_nil ?_
  refine T_n ?_
  refine W_ret ?_
  refine T_r ?_
  exact BQ_r (End_1 Try.results3 (v := .bool true) rfl ⟨rfl, hU.own hn0⟩)
end Go.Proofs.Ytcjfkkoapncnhaa
