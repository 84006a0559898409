/-
 The contracts of chapter 10: Same, Make, wakes. (Printed by wip/gen/t10i.py of this repo.)
-/
import Derived.Test.YtcjfkkoapncnhaaMiH
namespace Go.Proofs.Ytcjfkkoapncnhaa
open Go Go.SL Go.Proofs
set_option linter.unusedVariables false

theorem DD.ext_iff {a b : DD} : a = b ↔ a.ps = b.ps ∧ a.cs = b.cs ∧ a.bs = b.bs ∧ a.off = b.off := by cases a; cases b; simp
theorem c_sameRD (d e : Dk) (w : World) (lo up lo2 up2 : Nat) (h : d.Rd w lo up) (h2 : e.Rd w lo2 up2) : CT Try.prog 13 #[.agg #[d.pv, d.cv, d.bv, .bool d.off], .agg #[e.pv, e.cv, e.bv, .bool e.off]] w fun v w' => (∃ g, v = .bool g ∧ (g = true ↔ d.da = e.da)) ∧ Ext w w' := by
 refine CT.mono (c_sameR d.pv d.cv d.bv d.ps d.cs d.bs d.off e.pv e.cv e.bv e.ps e.cs e.bs e.off w lo up lo2 up2 h.1 h.2.1 h.2.2 h2.1 h2.2.1 h2.2.2) ?_
 rintro v w' ⟨⟨g, rfl, hg⟩, hu⟩
 exact ⟨⟨g, rfl, hg.trans (DD.ext_iff (a := d.da) (b := e.da)).symm⟩, hu⟩
theorem c_sameVD (d e : Dk) (w : World) (lo up lo2 up2 : Nat) (h : d.Rd w lo up) (h2 : e.Rd w lo2 up2) : CT Try.prog 35 #[.agg #[d.pv, d.cv, d.bv, .bool d.off], .agg #[e.pv, e.cv, e.bv, .bool e.off]] w fun v w' => (∃ g, v = .bool g ∧ (g = true ↔ d.da = e.da)) ∧ Ext w w' := by
 refine CT.mono (c_sameV d.pv d.cv d.bv d.ps d.cs d.bs d.off e.pv e.cv e.bv e.ps e.cs e.bs e.off w lo up lo2 up2 h.1 h.2.1 h.2.2 h2.1 h2.2.1 h2.2.2) ?_
 rintro v w' ⟨⟨g, rfl, hg⟩, hu⟩
 exact ⟨⟨g, rfl, hg.trans (DD.ext_iff (a := d.da) (b := e.da)).symm⟩, hu⟩
def DZ : DD := ⟨List.replicate 32 (default : Pg), [], [], false⟩
theorem liveP {p : PD} (h0 : p.a.off = false) (h1 : p.b.off = false) : liveD p = 3 := by unfold liveD; rw [h0, h1]; rfl
theorem flush_wake {p : PD} (h0 : p.a.off = false) (h1 : p.b.off = false) (hf : p.fz = 0) (hd : p.dn = false) : flushD p = ({ p with dn := true }, 100) := by
 have hS : flushS p = ({ p with dn := true }, 100) := (flush_S ⟨ready_at hd (.inl h0), h0⟩).trans ((does_f (by rw [burn_0 hd hf])).trans (by rw [burn_0 hd hf]))
 rw [flush_Dn (by rw [hS]; rintro ⟨h, _⟩; exact absurd (show (100 : Int) = 0 from h) (by decide)), hS]

theorem c_sameM (p q : Pr) (w : World) (lo0 up0 lo1 up1 l2 u2 l3 u3 : Nat) (h0 : p.d0.Rd w lo0 up0) (h1 : p.d1.Rd w lo1 up1) (k0 : q.d0.Rd w l2 u2) (k1 : q.d1.Rd w l3 u3) : CT Try.prog 22 #[(.agg #[p.d0.pv, p.d0.cv, p.d0.bv, (.bool (p.d0.off)), p.d1.pv, p.d1.cv, p.d1.bv, (.bool (p.d1.off)), (.int .i64 (p.fz)), (.bool (p.dn))]), (.agg #[q.d0.pv, q.d0.cv, q.d0.bv, (.bool (q.d0.off)), q.d1.pv, q.d1.cv, q.d1.bv, (.bool (q.d1.off)), (.int .i64 (q.fz)), (.bool (q.dn))])] w fun v w' => (∃ g, v = .bool g ∧ (g = true ↔ p.da = q.da)) ∧ Ext w w' := by
 obtain ⟨n0, hn0⟩ : ∃ n, n = w.heap.size := ⟨_, rfl⟩
 have hU : Upd (fun i => n0 ≤ i) w w := Upd.refl _ _
 refine CT_of Try.func22 rfl rfl rfl ?_
 refine W_seq ?_
 refine W_reg ?_
 refine L_op rfl (X_box (v := (.agg #[p.d0.pv, p.d0.cv, p.d0.bv, (.bool (p.d0.off)), p.d1.pv, p.d1.cv, p.d1.bv, (.bool (p.d1.off)), (.int .i64 (p.fz)), (.bool (p.dn))])) (c := ([p.d0.pv, p.d0.cv, p.d0.bv, (.bool (p.d0.off)), p.d1.pv, p.d1.cv, p.d1.bv, (.bool (p.d1.off)), (.int .i64 (p.fz)), (.bool (p.dn))]).toArray) rfl rfl ?_)
 intro b1 w1 hn1
 have hbn1 := hn1.num; have hbs1 := hn1.size
 replace h0 := h0.ext hn1.ext
 replace h1 := h1.ext hn1.ext
 replace k0 := k0.ext hn1.ext
 replace k1 := k1.ext hn1.ext
 replace hU := hU.trans (Ext.upd hn1.ext)
 have hB1 := hn1.blk
 refine L_op rfl (X_box (v := (.agg #[q.d0.pv, q.d0.cv, q.d0.bv, (.bool (q.d0.off)), q.d1.pv, q.d1.cv, q.d1.bv, (.bool (q.d1.off)), (.int .i64 (q.fz)), (.bool (q.dn))])) (c := ([q.d0.pv, q.d0.cv, q.d0.bv, (.bool (q.d0.off)), q.d1.pv, q.d1.cv, q.d1.bv, (.bool (q.d1.off)), (.int .i64 (q.fz)), (.bool (q.dn))]).toArray) rfl rfl ?_)
 intro b2 w2 hn2
 have hbn2 := hn2.num; have hbs2 := hn2.size
 replace h0 := h0.ext hn2.ext
 replace h1 := h1.ext hn2.ext
 replace k0 := k0.ext hn2.ext
 replace k1 := k1.ext hn2.ext
 replace hU := hU.trans (Ext.upd hn2.ext)
 replace hB1 := hB1.ext hn2.ext
 have hB2 := hn2.blk
 refine L_op rfl (X_assign (v := (.bool (false))) rfl ?_)
 refine L_nil ?_
 refine T_n ?_
 refine W_seq ?_
 refine W_reg ?_
 refine L_op rfl (X_fldP (b := b1) (o := 0) (r := 8) Fd29_1 rfl rfl ?_)
 refine L_op rfl (X_load (p := (ptr b1 (8))) (v := (.int .i64 (p.fz))) T3 rfl (hB1.at1 rfl) ?_)
 refine L_op rfl (X_fldP (b := b2) (o := 0) (r := 8) Fd29_1 rfl rfl ?_)
 refine L_op rfl (X_load (p := (ptr b2 (8))) (v := (.int .i64 (q.fz))) T3 rfl (hB2.at1 rfl) ?_)
 by_cases hc3 : (p.fz : Int) = (q.fz)
 ·refine L_op rfl (X_cmp (k := .i64) (a := p.fz) (b := q.fz) (r := true) rfl rfl rfl (decide_eq_true (p := ((p.fz) : Int) = ((q.fz) : Int)) (by omega)) ?_)
  refine L_op rfl (X_move (v := (.bool (true))) rfl ?_)
  refine L_gy (dj := 10) rfl rfl rfl (X_fldP (b := b1) (o := 0) (r := 9) Fd29_2 rfl rfl ?_)
  rcases Bool.eq_false_or_eq_true (p.dn) with hs4 | hs4
  ·rcases Bool.eq_false_or_eq_true (q.dn) with hs5 | hs5
   ·refine L_gy (dj := 10) rfl rfl rfl (X_load (p := (ptr b1 (9))) (v := .bool true) T4 rfl (hB1.at1 (by rw [hs4]; rfl)) ?_)
    refine L_gy (dj := 10) rfl rfl rfl (X_fldP (b := b2) (o := 0) (r := 9) Fd29_2 rfl rfl ?_)
    refine L_gy (dj := 10) rfl rfl rfl (X_load (p := (ptr b2 (9))) (v := .bool true) T4 rfl (hB2.at1 (by rw [hs5]; rfl)) ?_)
    refine L_gy (dj := 10) rfl rfl rfl (X_cmpBool (a := true) (b := true) (r := true) Try.underlying4 rfl rfl (.inl ⟨rfl, rfl⟩) ?_)
    refine L_op rfl (X_pick (t := true) (v := (.bool (true))) rfl rfl ?_)
    refine L_op rfl (X_move (v := (.bool (true))) rfl ?_)
    refine L_gy (dj := 17) rfl rfl rfl (X_fldP (b := b1) (o := 0) (r := 0) Fd29_0 rfl rfl ?_)
    refine L_gy (dj := 17) rfl rfl rfl (X_idxAP (len := 2) (sz := 4) (b := b1) (o := 0) (k := .i64) (i := 0) (r := 0) Try.underlying27 Z26 rfl rfl (by omega) (by omega) rfl ?_)
    refine L_gy (dj := 17) rfl rfl rfl (X_loadA (p := (ptr b1 (0))) (xs := [p.d0.pv, p.d0.cv, p.d0.bv, (.bool (p.d0.off))]) A26 rfl (hB1.part (o := 0) (n := 4) rfl) rfl ?_)
    refine L_gy (dj := 17) rfl rfl rfl (X_fldP (b := b2) (o := 0) (r := 0) Fd29_0 rfl rfl ?_)
    refine L_gy (dj := 17) rfl rfl rfl (X_idxAP (len := 2) (sz := 4) (b := b2) (o := 0) (k := .i64) (i := 0) (r := 0) Try.underlying27 Z26 rfl rfl (by omega) (by omega) rfl ?_)
    refine L_gy (dj := 17) rfl rfl rfl (X_loadA (p := (ptr b2 (0))) (xs := [q.d0.pv, q.d0.cv, q.d0.bv, (.bool (q.d0.off))]) A26 rfl (hB2.part (o := 0) (n := 4) rfl) rfl ?_)
    have hcr_ := c_sameVD p.d0 q.d0 w2 lo0 up0 l2 u2 h0 k0
    refine L_gy (dj := 17) rfl rfl rfl (X_fn (vs := [(.agg #[p.d0.pv, p.d0.cv, p.d0.bv, (.bool (p.d0.off))]), (.agg #[q.d0.pv, q.d0.cv, q.d0.bv, (.bool (q.d0.off))])]) en35 rfl ?_)
    refine CT.mono hcr_ ?_
    clear hcr_
    rintro _ w6 ⟨⟨g6, rfl, hg6⟩, hu6⟩
    have hz6 := hu6.size
    replace h0 := h0.ext hu6
    replace h1 := h1.ext hu6
    replace k0 := k0.ext hu6
    replace k1 := k1.ext hu6
    replace hU := hU.trans (Ext.upd hu6)
    replace hB1 := hB1.ext hu6
    replace hB2 := hB2.ext hu6
    rcases Bool.eq_false_or_eq_true (g6) with hc7 | hc7
    ·rw [hc7]
     refine L_op rfl (X_pick (t := true) (v := (.bool (true))) rfl rfl ?_)
     refine L_op rfl (X_move (v := (.bool (true))) rfl ?_)
     refine L_gy (dj := 26) rfl rfl rfl (X_fldP (b := b1) (o := 0) (r := 0) Fd29_0 rfl rfl ?_)
     refine L_gy (dj := 26) rfl rfl rfl (X_idxAP (len := 2) (sz := 4) (b := b1) (o := 0) (k := .i64) (i := 1) (r := 4) Try.underlying27 Z26 rfl rfl (by omega) (by omega) rfl ?_)
     refine L_gy (dj := 26) rfl rfl rfl (X_loadA (p := (ptr b1 (4))) (xs := [p.d1.pv, p.d1.cv, p.d1.bv, (.bool (p.d1.off))]) A26 rfl (hB1.part (o := 4) (n := 4) rfl) rfl ?_)
     refine L_gy (dj := 26) rfl rfl rfl (X_fldP (b := b2) (o := 0) (r := 0) Fd29_0 rfl rfl ?_)
     refine L_gy (dj := 26) rfl rfl rfl (X_idxAP (len := 2) (sz := 4) (b := b2) (o := 0) (k := .i64) (i := 1) (r := 4) Try.underlying27 Z26 rfl rfl (by omega) (by omega) rfl ?_)
     refine L_gy (dj := 26) rfl rfl rfl (X_loadA (p := (ptr b2 (4))) (xs := [q.d1.pv, q.d1.cv, q.d1.bv, (.bool (q.d1.off))]) A26 rfl (hB2.part (o := 4) (n := 4) rfl) rfl ?_)
     have hcr_ := c_sameVD p.d1 q.d1 w6 lo1 up1 l3 u3 h1 k1
     refine L_gy (dj := 26) rfl rfl rfl (X_fn (vs := [(.agg #[p.d1.pv, p.d1.cv, p.d1.bv, (.bool (p.d1.off))]), (.agg #[q.d1.pv, q.d1.cv, q.d1.bv, (.bool (q.d1.off))])]) en35 rfl ?_)
     refine CT.mono hcr_ ?_
     clear hcr_
     rintro _ w8 ⟨⟨g8, rfl, hg8⟩, hu8⟩
     have hz8 := hu8.size
     replace h0 := h0.ext hu8
     replace h1 := h1.ext hu8
     replace k0 := k0.ext hu8
     replace k1 := k1.ext hu8
     replace hU := hU.trans (Ext.upd hu8)
     replace hB1 := hB1.ext hu8
     replace hB2 := hB2.ext hu8
     rcases Bool.eq_false_or_eq_true (g8) with hc9 | hc9
     ·rw [hc9]
      refine L_op rfl (X_pick (t := true) (v := (.bool (true))) rfl rfl ?_)
      refine L_op rfl (X_assign (v := (.bool (true))) rfl ?_)
      refine L_nil ?_
      refine T_n ?_
      refine W_ret ?_
      have e0_ : p.da.fz = p.fz := rfl
      have e1_ : q.da.fz = q.fz := rfl
      exact BQ_r (End_1 Try.results22 (v := .bool true) rfl ⟨⟨true, rfl, ⟨fun _ => PD.ext (hg6.1 hc7) (hg8.1 hc9) (show p.fz = q.fz by omega) (show p.dn = q.dn by rw [hs4, hs5]), fun _ => rfl⟩⟩, hU.own hn0⟩)
     ·rw [hc9]
      refine L_op rfl (X_pick (t := true) (v := (.bool (false))) rfl rfl ?_)
      refine L_op rfl (X_assign (v := (.bool (false))) rfl ?_)
      refine L_nil ?_
      refine T_n ?_
      refine W_ret ?_
      have e0_ : p.da.fz = p.fz := rfl
      have e1_ : q.da.fz = q.fz := rfl
      exact BQ_r (End_1 Try.results22 (v := .bool false) rfl ⟨⟨false, rfl, ⟨fun h_ => (by cases h_), fun h_ => (by have h2_ := hg8.2 (congrArg PD.b h_); rw [hc9] at h2_; cases h2_)⟩⟩, hU.own hn0⟩)
    ·rw [hc7]
     refine L_op rfl (X_pick (t := true) (v := (.bool (false))) rfl rfl ?_)
     refine L_op rfl (X_move (v := (.bool (false))) rfl ?_)
     refine L_gn (dj := 26) (t := false) rfl rfl rfl rfl ?_
     refine L_gn (dj := 26) (t := false) rfl rfl rfl rfl ?_
     refine L_gn (dj := 26) (t := false) rfl rfl rfl rfl ?_
     refine L_gn (dj := 26) (t := false) rfl rfl rfl rfl ?_
     refine L_gn (dj := 26) (t := false) rfl rfl rfl rfl ?_
     refine L_gn (dj := 26) (t := false) rfl rfl rfl rfl ?_
     refine L_gn (dj := 26) (t := false) rfl rfl rfl rfl ?_
     refine L_op rfl (X_pick (t := false) (v := (.bool (false))) rfl rfl ?_)
     refine L_op rfl (X_assign (v := (.bool (false))) rfl ?_)
     refine L_nil ?_
     refine T_n ?_
     refine W_ret ?_
     have e0_ : p.da.fz = p.fz := rfl
     have e1_ : q.da.fz = q.fz := rfl
     exact BQ_r (End_1 Try.results22 (v := .bool false) rfl ⟨⟨false, rfl, ⟨fun h_ => (by cases h_), fun h_ => (by have h2_ := hg6.2 (congrArg PD.a h_); rw [hc7] at h2_; cases h2_)⟩⟩, hU.own hn0⟩)
   ·refine L_gy (dj := 10) rfl rfl rfl (X_load (p := (ptr b1 (9))) (v := .bool true) T4 rfl (hB1.at1 (by rw [hs4]; rfl)) ?_)
    refine L_gy (dj := 10) rfl rfl rfl (X_fldP (b := b2) (o := 0) (r := 9) Fd29_2 rfl rfl ?_)
    refine L_gy (dj := 10) rfl rfl rfl (X_load (p := (ptr b2 (9))) (v := .bool false) T4 rfl (hB2.at1 (by rw [hs5]; rfl)) ?_)
    refine L_gy (dj := 10) rfl rfl rfl (X_cmpBool (a := true) (b := false) (r := false) Try.underlying4 rfl rfl (.inl ⟨rfl, rfl⟩) ?_)
    refine L_op rfl (X_pick (t := true) (v := (.bool (false))) rfl rfl ?_)
    refine L_op rfl (X_move (v := (.bool (false))) rfl ?_)
    refine L_gn (dj := 17) (t := false) rfl rfl rfl rfl ?_
    refine L_gn (dj := 17) (t := false) rfl rfl rfl rfl ?_
    refine L_gn (dj := 17) (t := false) rfl rfl rfl rfl ?_
    refine L_gn (dj := 17) (t := false) rfl rfl rfl rfl ?_
    refine L_gn (dj := 17) (t := false) rfl rfl rfl rfl ?_
    refine L_gn (dj := 17) (t := false) rfl rfl rfl rfl ?_
    refine L_gn (dj := 17) (t := false) rfl rfl rfl rfl ?_
    refine L_op rfl (X_pick (t := false) (v := (.bool (false))) rfl rfl ?_)
    refine L_op rfl (X_move (v := (.bool (false))) rfl ?_)
    refine L_gn (dj := 26) (t := false) rfl rfl rfl rfl ?_
    refine L_gn (dj := 26) (t := false) rfl rfl rfl rfl ?_
    refine L_gn (dj := 26) (t := false) rfl rfl rfl rfl ?_
    refine L_gn (dj := 26) (t := false) rfl rfl rfl rfl ?_
    refine L_gn (dj := 26) (t := false) rfl rfl rfl rfl ?_
    refine L_gn (dj := 26) (t := false) rfl rfl rfl rfl ?_
    refine L_gn (dj := 26) (t := false) rfl rfl rfl rfl ?_
    refine L_op rfl (X_pick (t := false) (v := (.bool (false))) rfl rfl ?_)
    refine L_op rfl (X_assign (v := (.bool (false))) rfl ?_)
    refine L_nil ?_
    refine T_n ?_
    refine W_ret ?_
    have e0_ : p.da.fz = p.fz := rfl
    have e1_ : q.da.fz = q.fz := rfl
    exact BQ_r (End_1 Try.results22 (v := .bool false) rfl ⟨⟨false, rfl, ⟨fun h_ => (by cases h_), fun h_ => (by have h2_ : p.dn = q.dn := congrArg PD.dn h_; rw [hs4, hs5] at h2_; cases h2_)⟩⟩, hU.own hn0⟩)
  ·rcases Bool.eq_false_or_eq_true (q.dn) with hs10 | hs10
   ·refine L_gy (dj := 10) rfl rfl rfl (X_load (p := (ptr b1 (9))) (v := .bool false) T4 rfl (hB1.at1 (by rw [hs4]; rfl)) ?_)
    refine L_gy (dj := 10) rfl rfl rfl (X_fldP (b := b2) (o := 0) (r := 9) Fd29_2 rfl rfl ?_)
    refine L_gy (dj := 10) rfl rfl rfl (X_load (p := (ptr b2 (9))) (v := .bool true) T4 rfl (hB2.at1 (by rw [hs10]; rfl)) ?_)
    refine L_gy (dj := 10) rfl rfl rfl (X_cmpBool (a := false) (b := true) (r := false) Try.underlying4 rfl rfl (.inl ⟨rfl, rfl⟩) ?_)
    refine L_op rfl (X_pick (t := true) (v := (.bool (false))) rfl rfl ?_)
    refine L_op rfl (X_move (v := (.bool (false))) rfl ?_)
    refine L_gn (dj := 17) (t := false) rfl rfl rfl rfl ?_
    refine L_gn (dj := 17) (t := false) rfl rfl rfl rfl ?_
    refine L_gn (dj := 17) (t := false) rfl rfl rfl rfl ?_
    refine L_gn (dj := 17) (t := false) rfl rfl rfl rfl ?_
    refine L_gn (dj := 17) (t := false) rfl rfl rfl rfl ?_
    refine L_gn (dj := 17) (t := false) rfl rfl rfl rfl ?_
    refine L_gn (dj := 17) (t := false) rfl rfl rfl rfl ?_
    refine L_op rfl (X_pick (t := false) (v := (.bool (false))) rfl rfl ?_)
    refine L_op rfl (X_move (v := (.bool (false))) rfl ?_)
    refine L_gn (dj := 26) (t := false) rfl rfl rfl rfl ?_
    refine L_gn (dj := 26) (t := false) rfl rfl rfl rfl ?_
    refine L_gn (dj := 26) (t := false) rfl rfl rfl rfl ?_
    refine L_gn (dj := 26) (t := false) rfl rfl rfl rfl ?_
    refine L_gn (dj := 26) (t := false) rfl rfl rfl rfl ?_
    refine L_gn (dj := 26) (t := false) rfl rfl rfl rfl ?_
    refine L_gn (dj := 26) (t := false) rfl rfl rfl rfl ?_
    refine L_op rfl (X_pick (t := false) (v := (.bool (false))) rfl rfl ?_)
    refine L_op rfl (X_assign (v := (.bool (false))) rfl ?_)
    refine L_nil ?_
    refine T_n ?_
    refine W_ret ?_
    have e0_ : p.da.fz = p.fz := rfl
    have e1_ : q.da.fz = q.fz := rfl
    exact BQ_r (End_1 Try.results22 (v := .bool false) rfl ⟨⟨false, rfl, ⟨fun h_ => (by cases h_), fun h_ => (by have h2_ : p.dn = q.dn := congrArg PD.dn h_; rw [hs4, hs10] at h2_; cases h2_)⟩⟩, hU.own hn0⟩)
   ·refine L_gy (dj := 10) rfl rfl rfl (X_load (p := (ptr b1 (9))) (v := .bool false) T4 rfl (hB1.at1 (by rw [hs4]; rfl)) ?_)
    refine L_gy (dj := 10) rfl rfl rfl (X_fldP (b := b2) (o := 0) (r := 9) Fd29_2 rfl rfl ?_)
    refine L_gy (dj := 10) rfl rfl rfl (X_load (p := (ptr b2 (9))) (v := .bool false) T4 rfl (hB2.at1 (by rw [hs10]; rfl)) ?_)
    refine L_gy (dj := 10) rfl rfl rfl (X_cmpBool (a := false) (b := false) (r := true) Try.underlying4 rfl rfl (.inl ⟨rfl, rfl⟩) ?_)
    refine L_op rfl (X_pick (t := true) (v := (.bool (true))) rfl rfl ?_)
    refine L_op rfl (X_move (v := (.bool (true))) rfl ?_)
    refine L_gy (dj := 17) rfl rfl rfl (X_fldP (b := b1) (o := 0) (r := 0) Fd29_0 rfl rfl ?_)
    refine L_gy (dj := 17) rfl rfl rfl (X_idxAP (len := 2) (sz := 4) (b := b1) (o := 0) (k := .i64) (i := 0) (r := 0) Try.underlying27 Z26 rfl rfl (by omega) (by omega) rfl ?_)
    refine L_gy (dj := 17) rfl rfl rfl (X_loadA (p := (ptr b1 (0))) (xs := [p.d0.pv, p.d0.cv, p.d0.bv, (.bool (p.d0.off))]) A26 rfl (hB1.part (o := 0) (n := 4) rfl) rfl ?_)
    refine L_gy (dj := 17) rfl rfl rfl (X_fldP (b := b2) (o := 0) (r := 0) Fd29_0 rfl rfl ?_)
    refine L_gy (dj := 17) rfl rfl rfl (X_idxAP (len := 2) (sz := 4) (b := b2) (o := 0) (k := .i64) (i := 0) (r := 0) Try.underlying27 Z26 rfl rfl (by omega) (by omega) rfl ?_)
    refine L_gy (dj := 17) rfl rfl rfl (X_loadA (p := (ptr b2 (0))) (xs := [q.d0.pv, q.d0.cv, q.d0.bv, (.bool (q.d0.off))]) A26 rfl (hB2.part (o := 0) (n := 4) rfl) rfl ?_)
    have hcr_ := c_sameVD p.d0 q.d0 w2 lo0 up0 l2 u2 h0 k0
    refine L_gy (dj := 17) rfl rfl rfl (X_fn (vs := [(.agg #[p.d0.pv, p.d0.cv, p.d0.bv, (.bool (p.d0.off))]), (.agg #[q.d0.pv, q.d0.cv, q.d0.bv, (.bool (q.d0.off))])]) en35 rfl ?_)
    refine CT.mono hcr_ ?_
    clear hcr_
    rintro _ w11 ⟨⟨g11, rfl, hg11⟩, hu11⟩
    have hz11 := hu11.size
    replace h0 := h0.ext hu11
    replace h1 := h1.ext hu11
    replace k0 := k0.ext hu11
    replace k1 := k1.ext hu11
    replace hU := hU.trans (Ext.upd hu11)
    replace hB1 := hB1.ext hu11
    replace hB2 := hB2.ext hu11
    rcases Bool.eq_false_or_eq_true (g11) with hc12 | hc12
    ·rw [hc12]
     refine L_op rfl (X_pick (t := true) (v := (.bool (true))) rfl rfl ?_)
     refine L_op rfl (X_move (v := (.bool (true))) rfl ?_)
     refine L_gy (dj := 26) rfl rfl rfl (X_fldP (b := b1) (o := 0) (r := 0) Fd29_0 rfl rfl ?_)
     refine L_gy (dj := 26) rfl rfl rfl (X_idxAP (len := 2) (sz := 4) (b := b1) (o := 0) (k := .i64) (i := 1) (r := 4) Try.underlying27 Z26 rfl rfl (by omega) (by omega) rfl ?_)
     refine L_gy (dj := 26) rfl rfl rfl (X_loadA (p := (ptr b1 (4))) (xs := [p.d1.pv, p.d1.cv, p.d1.bv, (.bool (p.d1.off))]) A26 rfl (hB1.part (o := 4) (n := 4) rfl) rfl ?_)
     refine L_gy (dj := 26) rfl rfl rfl (X_fldP (b := b2) (o := 0) (r := 0) Fd29_0 rfl rfl ?_)
     refine L_gy (dj := 26) rfl rfl rfl (X_idxAP (len := 2) (sz := 4) (b := b2) (o := 0) (k := .i64) (i := 1) (r := 4) Try.underlying27 Z26 rfl rfl (by omega) (by omega) rfl ?_)
     refine L_gy (dj := 26) rfl rfl rfl (X_loadA (p := (ptr b2 (4))) (xs := [q.d1.pv, q.d1.cv, q.d1.bv, (.bool (q.d1.off))]) A26 rfl (hB2.part (o := 4) (n := 4) rfl) rfl ?_)
     have hcr_ := c_sameVD p.d1 q.d1 w11 lo1 up1 l3 u3 h1 k1
     refine L_gy (dj := 26) rfl rfl rfl (X_fn (vs := [(.agg #[p.d1.pv, p.d1.cv, p.d1.bv, (.bool (p.d1.off))]), (.agg #[q.d1.pv, q.d1.cv, q.d1.bv, (.bool (q.d1.off))])]) en35 rfl ?_)
     refine CT.mono hcr_ ?_
     clear hcr_
     rintro _ w13 ⟨⟨g13, rfl, hg13⟩, hu13⟩
     have hz13 := hu13.size
     replace h0 := h0.ext hu13
     replace h1 := h1.ext hu13
     replace k0 := k0.ext hu13
     replace k1 := k1.ext hu13
     replace hU := hU.trans (Ext.upd hu13)
     replace hB1 := hB1.ext hu13
     replace hB2 := hB2.ext hu13
     rcases Bool.eq_false_or_eq_true (g13) with hc14 | hc14
     ·rw [hc14]
      refine L_op rfl (X_pick (t := true) (v := (.bool (true))) rfl rfl ?_)
      refine L_op rfl (X_assign (v := (.bool (true))) rfl ?_)
      refine L_nil ?_
      refine T_n ?_
      refine W_ret ?_
      have e0_ : p.da.fz = p.fz := rfl
      have e1_ : q.da.fz = q.fz := rfl
      exact BQ_r (End_1 Try.results22 (v := .bool true) rfl ⟨⟨true, rfl, ⟨fun _ => PD.ext (hg11.1 hc12) (hg13.1 hc14) (show p.fz = q.fz by omega) (show p.dn = q.dn by rw [hs4, hs10]), fun _ => rfl⟩⟩, hU.own hn0⟩)
     ·rw [hc14]
      refine L_op rfl (X_pick (t := true) (v := (.bool (false))) rfl rfl ?_)
      refine L_op rfl (X_assign (v := (.bool (false))) rfl ?_)
      refine L_nil ?_
      refine T_n ?_
      refine W_ret ?_
      have e0_ : p.da.fz = p.fz := rfl
      have e1_ : q.da.fz = q.fz := rfl
      exact BQ_r (End_1 Try.results22 (v := .bool false) rfl ⟨⟨false, rfl, ⟨fun h_ => (by cases h_), fun h_ => (by have h2_ := hg13.2 (congrArg PD.b h_); rw [hc14] at h2_; cases h2_)⟩⟩, hU.own hn0⟩)
    ·rw [hc12]
     refine L_op rfl (X_pick (t := true) (v := (.bool (false))) rfl rfl ?_)
     refine L_op rfl (X_move (v := (.bool (false))) rfl ?_)
     refine L_gn (dj := 26) (t := false) rfl rfl rfl rfl ?_
     refine L_gn (dj := 26) (t := false) rfl rfl rfl rfl ?_
     refine L_gn (dj := 26) (t := false) rfl rfl rfl rfl ?_
     refine L_gn (dj := 26) (t := false) rfl rfl rfl rfl ?_
     refine L_gn (dj := 26) (t := false) rfl rfl rfl rfl ?_
     refine L_gn (dj := 26) (t := false) rfl rfl rfl rfl ?_
     refine L_gn (dj := 26) (t := false) rfl rfl rfl rfl ?_
     refine L_op rfl (X_pick (t := false) (v := (.bool (false))) rfl rfl ?_)
     refine L_op rfl (X_assign (v := (.bool (false))) rfl ?_)
     refine L_nil ?_
     refine T_n ?_
     refine W_ret ?_
     have e0_ : p.da.fz = p.fz := rfl
     have e1_ : q.da.fz = q.fz := rfl
     exact BQ_r (End_1 Try.results22 (v := .bool false) rfl ⟨⟨false, rfl, ⟨fun h_ => (by cases h_), fun h_ => (by have h2_ := hg11.2 (congrArg PD.a h_); rw [hc12] at h2_; cases h2_)⟩⟩, hU.own hn0⟩)
 ·refine L_op rfl (X_cmp (k := .i64) (a := p.fz) (b := q.fz) (r := false) rfl rfl rfl (decide_eq_false (p := ((p.fz) : Int) = ((q.fz) : Int)) (by omega)) ?_)
  refine L_op rfl (X_move (v := (.bool (false))) rfl ?_)
  refine L_gn (dj := 10) (t := false) rfl rfl rfl rfl ?_
  refine L_gn (dj := 10) (t := false) rfl rfl rfl rfl ?_
  refine L_gn (dj := 10) (t := false) rfl rfl rfl rfl ?_
  refine L_gn (dj := 10) (t := false) rfl rfl rfl rfl ?_
  refine L_gn (dj := 10) (t := false) rfl rfl rfl rfl ?_
  refine L_op rfl (X_pick (t := false) (v := (.bool (false))) rfl rfl ?_)
  refine L_op rfl (X_move (v := (.bool (false))) rfl ?_)
  refine L_gn (dj := 17) (t := false) rfl rfl rfl rfl ?_
  refine L_gn (dj := 17) (t := false) rfl rfl rfl rfl ?_
  refine L_gn (dj := 17) (t := false) rfl rfl rfl rfl ?_
  refine L_gn (dj := 17) (t := false) rfl rfl rfl rfl ?_
  refine L_gn (dj := 17) (t := false) rfl rfl rfl rfl ?_
  refine L_gn (dj := 17) (t := false) rfl rfl rfl rfl ?_
  refine L_gn (dj := 17) (t := false) rfl rfl rfl rfl ?_
  refine L_op rfl (X_pick (t := false) (v := (.bool (false))) rfl rfl ?_)
  refine L_op rfl (X_move (v := (.bool (false))) rfl ?_)
  refine L_gn (dj := 26) (t := false) rfl rfl rfl rfl ?_
  refine L_gn (dj := 26) (t := false) rfl rfl rfl rfl ?_
  refine L_gn (dj := 26) (t := false) rfl rfl rfl rfl ?_
  refine L_gn (dj := 26) (t := false) rfl rfl rfl rfl ?_
  refine L_gn (dj := 26) (t := false) rfl rfl rfl rfl ?_
  refine L_gn (dj := 26) (t := false) rfl rfl rfl rfl ?_
  refine L_gn (dj := 26) (t := false) rfl rfl rfl rfl ?_
  refine L_op rfl (X_pick (t := false) (v := (.bool (false))) rfl rfl ?_)
  refine L_op rfl (X_assign (v := (.bool (false))) rfl ?_)
  refine L_nil ?_
  refine T_n ?_
  refine W_ret ?_
  have e0_ : p.da.fz = p.fz := rfl
  have e1_ : q.da.fz = q.fz := rfl
  exact BQ_r (End_1 Try.results22 (v := .bool false) rfl ⟨⟨false, rfl, ⟨fun h_ => (by cases h_), fun h_ => (by have h2_ : p.fz = q.fz := congrArg PD.fz h_; omega)⟩⟩, hU.own hn0⟩)

theorem c_sameMR (p q : Pr) (w : World) (lo0 up0 lo1 up1 l2 u2 l3 u3 : Nat) (h0 : p.d0.Rd w lo0 up0) (h1 : p.d1.Rd w lo1 up1) (k0 : q.d0.Rd w l2 u2) (k1 : q.d1.Rd w l3 u3) : CT Try.prog 19 #[(.agg #[p.d0.pv, p.d0.cv, p.d0.bv, (.bool (p.d0.off)), p.d1.pv, p.d1.cv, p.d1.bv, (.bool (p.d1.off)), (.int .i64 (p.fz)), (.bool (p.dn))]), (.agg #[q.d0.pv, q.d0.cv, q.d0.bv, (.bool (q.d0.off)), q.d1.pv, q.d1.cv, q.d1.bv, (.bool (q.d1.off)), (.int .i64 (q.fz)), (.bool (q.dn))])] w fun v w' => (∃ g, v = .bool g ∧ (g = true ↔ p.da = q.da)) ∧ Ext w w' := by
 obtain ⟨n0, hn0⟩ : ∃ n, n = w.heap.size := ⟨_, rfl⟩
 have hU : Upd (fun i => n0 ≤ i) w w := Upd.refl _ _
 refine CT_of Try.func19 rfl rfl rfl ?_
 refine W_seq ?_
 refine W_reg ?_
 refine L_op rfl (X_box (v := (.agg #[p.d0.pv, p.d0.cv, p.d0.bv, (.bool (p.d0.off)), p.d1.pv, p.d1.cv, p.d1.bv, (.bool (p.d1.off)), (.int .i64 (p.fz)), (.bool (p.dn))])) (c := ([p.d0.pv, p.d0.cv, p.d0.bv, (.bool (p.d0.off)), p.d1.pv, p.d1.cv, p.d1.bv, (.bool (p.d1.off)), (.int .i64 (p.fz)), (.bool (p.dn))]).toArray) rfl rfl ?_)
 intro b1 w1 hn1
 have hbn1 := hn1.num; have hbs1 := hn1.size
 replace h0 := h0.ext hn1.ext
 replace h1 := h1.ext hn1.ext
 replace k0 := k0.ext hn1.ext
 replace k1 := k1.ext hn1.ext
 replace hU := hU.trans (Ext.upd hn1.ext)
 have hB1 := hn1.blk
 refine L_op rfl (X_box (v := (.agg #[q.d0.pv, q.d0.cv, q.d0.bv, (.bool (q.d0.off)), q.d1.pv, q.d1.cv, q.d1.bv, (.bool (q.d1.off)), (.int .i64 (q.fz)), (.bool (q.dn))])) (c := ([q.d0.pv, q.d0.cv, q.d0.bv, (.bool (q.d0.off)), q.d1.pv, q.d1.cv, q.d1.bv, (.bool (q.d1.off)), (.int .i64 (q.fz)), (.bool (q.dn))]).toArray) rfl rfl ?_)
 intro b2 w2 hn2
 have hbn2 := hn2.num; have hbs2 := hn2.size
 replace h0 := h0.ext hn2.ext
 replace h1 := h1.ext hn2.ext
 replace k0 := k0.ext hn2.ext
 replace k1 := k1.ext hn2.ext
 replace hU := hU.trans (Ext.upd hn2.ext)
 replace hB1 := hB1.ext hn2.ext
 have hB2 := hn2.blk
 refine L_op rfl (X_assign (v := (.bool (false))) rfl ?_)
 refine L_nil ?_
 refine T_n ?_
 refine W_seq ?_
 refine W_reg ?_
 refine L_op rfl (X_fldP (b := b1) (o := 0) (r := 8) Fd29_1 rfl rfl ?_)
 refine L_op rfl (X_load (p := (ptr b1 (8))) (v := (.int .i64 (p.fz))) T3 rfl (hB1.at1 rfl) ?_)
 refine L_op rfl (X_fldP (b := b2) (o := 0) (r := 8) Fd29_1 rfl rfl ?_)
 refine L_op rfl (X_load (p := (ptr b2 (8))) (v := (.int .i64 (q.fz))) T3 rfl (hB2.at1 rfl) ?_)
 by_cases hc3 : (p.fz : Int) = (q.fz)
 ·refine L_op rfl (X_cmp (k := .i64) (a := p.fz) (b := q.fz) (r := true) rfl rfl rfl (decide_eq_true (p := ((p.fz) : Int) = ((q.fz) : Int)) (by omega)) ?_)
  refine L_op rfl (X_move (v := (.bool (true))) rfl ?_)
  refine L_gy (dj := 10) rfl rfl rfl (X_fldP (b := b1) (o := 0) (r := 9) Fd29_2 rfl rfl ?_)
  rcases Bool.eq_false_or_eq_true (p.dn) with hs4 | hs4
  ·rcases Bool.eq_false_or_eq_true (q.dn) with hs5 | hs5
   ·refine L_gy (dj := 10) rfl rfl rfl (X_load (p := (ptr b1 (9))) (v := .bool true) T4 rfl (hB1.at1 (by rw [hs4]; rfl)) ?_)
    refine L_gy (dj := 10) rfl rfl rfl (X_fldP (b := b2) (o := 0) (r := 9) Fd29_2 rfl rfl ?_)
    refine L_gy (dj := 10) rfl rfl rfl (X_load (p := (ptr b2 (9))) (v := .bool true) T4 rfl (hB2.at1 (by rw [hs5]; rfl)) ?_)
    refine L_gy (dj := 10) rfl rfl rfl (X_cmpBool (a := true) (b := true) (r := true) Try.underlying4 rfl rfl (.inl ⟨rfl, rfl⟩) ?_)
    refine L_op rfl (X_pick (t := true) (v := (.bool (true))) rfl rfl ?_)
    refine L_op rfl (X_move (v := (.bool (true))) rfl ?_)
    refine L_gy (dj := 17) rfl rfl rfl (X_fldP (b := b1) (o := 0) (r := 0) Fd29_0 rfl rfl ?_)
    refine L_gy (dj := 17) rfl rfl rfl (X_idxAP (len := 2) (sz := 4) (b := b1) (o := 0) (k := .i64) (i := 0) (r := 0) Try.underlying27 Z26 rfl rfl (by omega) (by omega) rfl ?_)
    refine L_gy (dj := 17) rfl rfl rfl (X_loadA (p := (ptr b1 (0))) (xs := [p.d0.pv, p.d0.cv, p.d0.bv, (.bool (p.d0.off))]) A26 rfl (hB1.part (o := 0) (n := 4) rfl) rfl ?_)
    refine L_gy (dj := 17) rfl rfl rfl (X_fldP (b := b2) (o := 0) (r := 0) Fd29_0 rfl rfl ?_)
    refine L_gy (dj := 17) rfl rfl rfl (X_idxAP (len := 2) (sz := 4) (b := b2) (o := 0) (k := .i64) (i := 0) (r := 0) Try.underlying27 Z26 rfl rfl (by omega) (by omega) rfl ?_)
    refine L_gy (dj := 17) rfl rfl rfl (X_loadA (p := (ptr b2 (0))) (xs := [q.d0.pv, q.d0.cv, q.d0.bv, (.bool (q.d0.off))]) A26 rfl (hB2.part (o := 0) (n := 4) rfl) rfl ?_)
    have hcr_ := c_sameRD p.d0 q.d0 w2 lo0 up0 l2 u2 h0 k0
    refine L_gy (dj := 17) rfl rfl rfl (X_fn (vs := [(.agg #[p.d0.pv, p.d0.cv, p.d0.bv, (.bool (p.d0.off))]), (.agg #[q.d0.pv, q.d0.cv, q.d0.bv, (.bool (q.d0.off))])]) en13 rfl ?_)
    refine CT.mono hcr_ ?_
    clear hcr_
    rintro _ w6 ⟨⟨g6, rfl, hg6⟩, hu6⟩
    have hz6 := hu6.size
    replace h0 := h0.ext hu6
    replace h1 := h1.ext hu6
    replace k0 := k0.ext hu6
    replace k1 := k1.ext hu6
    replace hU := hU.trans (Ext.upd hu6)
    replace hB1 := hB1.ext hu6
    replace hB2 := hB2.ext hu6
    rcases Bool.eq_false_or_eq_true (g6) with hc7 | hc7
    ·rw [hc7]
     refine L_op rfl (X_pick (t := true) (v := (.bool (true))) rfl rfl ?_)
     refine L_op rfl (X_move (v := (.bool (true))) rfl ?_)
     refine L_gy (dj := 26) rfl rfl rfl (X_fldP (b := b1) (o := 0) (r := 0) Fd29_0 rfl rfl ?_)
     refine L_gy (dj := 26) rfl rfl rfl (X_idxAP (len := 2) (sz := 4) (b := b1) (o := 0) (k := .i64) (i := 1) (r := 4) Try.underlying27 Z26 rfl rfl (by omega) (by omega) rfl ?_)
     refine L_gy (dj := 26) rfl rfl rfl (X_loadA (p := (ptr b1 (4))) (xs := [p.d1.pv, p.d1.cv, p.d1.bv, (.bool (p.d1.off))]) A26 rfl (hB1.part (o := 4) (n := 4) rfl) rfl ?_)
     refine L_gy (dj := 26) rfl rfl rfl (X_fldP (b := b2) (o := 0) (r := 0) Fd29_0 rfl rfl ?_)
     refine L_gy (dj := 26) rfl rfl rfl (X_idxAP (len := 2) (sz := 4) (b := b2) (o := 0) (k := .i64) (i := 1) (r := 4) Try.underlying27 Z26 rfl rfl (by omega) (by omega) rfl ?_)
     refine L_gy (dj := 26) rfl rfl rfl (X_loadA (p := (ptr b2 (4))) (xs := [q.d1.pv, q.d1.cv, q.d1.bv, (.bool (q.d1.off))]) A26 rfl (hB2.part (o := 4) (n := 4) rfl) rfl ?_)
     have hcr_ := c_sameRD p.d1 q.d1 w6 lo1 up1 l3 u3 h1 k1
     refine L_gy (dj := 26) rfl rfl rfl (X_fn (vs := [(.agg #[p.d1.pv, p.d1.cv, p.d1.bv, (.bool (p.d1.off))]), (.agg #[q.d1.pv, q.d1.cv, q.d1.bv, (.bool (q.d1.off))])]) en13 rfl ?_)
     refine CT.mono hcr_ ?_
     clear hcr_
     rintro _ w8 ⟨⟨g8, rfl, hg8⟩, hu8⟩
     have hz8 := hu8.size
     replace h0 := h0.ext hu8
     replace h1 := h1.ext hu8
     replace k0 := k0.ext hu8
     replace k1 := k1.ext hu8
     replace hU := hU.trans (Ext.upd hu8)
     replace hB1 := hB1.ext hu8
     replace hB2 := hB2.ext hu8
     rcases Bool.eq_false_or_eq_true (g8) with hc9 | hc9
     ·rw [hc9]
      refine L_op rfl (X_pick (t := true) (v := (.bool (true))) rfl rfl ?_)
      refine L_op rfl (X_assign (v := (.bool (true))) rfl ?_)
      refine L_nil ?_
      refine T_n ?_
      refine W_ret ?_
      have e0_ : p.da.fz = p.fz := rfl
      have e1_ : q.da.fz = q.fz := rfl
      exact BQ_r (End_1 Try.results19 (v := .bool true) rfl ⟨⟨true, rfl, ⟨fun _ => PD.ext (hg6.1 hc7) (hg8.1 hc9) (show p.fz = q.fz by omega) (show p.dn = q.dn by rw [hs4, hs5]), fun _ => rfl⟩⟩, hU.own hn0⟩)
     ·rw [hc9]
      refine L_op rfl (X_pick (t := true) (v := (.bool (false))) rfl rfl ?_)
      refine L_op rfl (X_assign (v := (.bool (false))) rfl ?_)
      refine L_nil ?_
      refine T_n ?_
      refine W_ret ?_
      have e0_ : p.da.fz = p.fz := rfl
      have e1_ : q.da.fz = q.fz := rfl
      exact BQ_r (End_1 Try.results19 (v := .bool false) rfl ⟨⟨false, rfl, ⟨fun h_ => (by cases h_), fun h_ => (by have h2_ := hg8.2 (congrArg PD.b h_); rw [hc9] at h2_; cases h2_)⟩⟩, hU.own hn0⟩)
    ·rw [hc7]
     refine L_op rfl (X_pick (t := true) (v := (.bool (false))) rfl rfl ?_)
     refine L_op rfl (X_move (v := (.bool (false))) rfl ?_)
     refine L_gn (dj := 26) (t := false) rfl rfl rfl rfl ?_
     refine L_gn (dj := 26) (t := false) rfl rfl rfl rfl ?_
     refine L_gn (dj := 26) (t := false) rfl rfl rfl rfl ?_
     refine L_gn (dj := 26) (t := false) rfl rfl rfl rfl ?_
     refine L_gn (dj := 26) (t := false) rfl rfl rfl rfl ?_
     refine L_gn (dj := 26) (t := false) rfl rfl rfl rfl ?_
     refine L_gn (dj := 26) (t := false) rfl rfl rfl rfl ?_
     refine L_op rfl (X_pick (t := false) (v := (.bool (false))) rfl rfl ?_)
     refine L_op rfl (X_assign (v := (.bool (false))) rfl ?_)
     refine L_nil ?_
     refine T_n ?_
     refine W_ret ?_
     have e0_ : p.da.fz = p.fz := rfl
     have e1_ : q.da.fz = q.fz := rfl
     exact BQ_r (End_1 Try.results19 (v := .bool false) rfl ⟨⟨false, rfl, ⟨fun h_ => (by cases h_), fun h_ => (by have h2_ := hg6.2 (congrArg PD.a h_); rw [hc7] at h2_; cases h2_)⟩⟩, hU.own hn0⟩)
   ·refine L_gy (dj := 10) rfl rfl rfl (X_load (p := (ptr b1 (9))) (v := .bool true) T4 rfl (hB1.at1 (by rw [hs4]; rfl)) ?_)
    refine L_gy (dj := 10) rfl rfl rfl (X_fldP (b := b2) (o := 0) (r := 9) Fd29_2 rfl rfl ?_)
    refine L_gy (dj := 10) rfl rfl rfl (X_load (p := (ptr b2 (9))) (v := .bool false) T4 rfl (hB2.at1 (by rw [hs5]; rfl)) ?_)
    refine L_gy (dj := 10) rfl rfl rfl (X_cmpBool (a := true) (b := false) (r := false) Try.underlying4 rfl rfl (.inl ⟨rfl, rfl⟩) ?_)
    refine L_op rfl (X_pick (t := true) (v := (.bool (false))) rfl rfl ?_)
    refine L_op rfl (X_move (v := (.bool (false))) rfl ?_)
    refine L_gn (dj := 17) (t := false) rfl rfl rfl rfl ?_
    refine L_gn (dj := 17) (t := false) rfl rfl rfl rfl ?_
    refine L_gn (dj := 17) (t := false) rfl rfl rfl rfl ?_
    refine L_gn (dj := 17) (t := false) rfl rfl rfl rfl ?_
    refine L_gn (dj := 17) (t := false) rfl rfl rfl rfl ?_
    refine L_gn (dj := 17) (t := false) rfl rfl rfl rfl ?_
    refine L_gn (dj := 17) (t := false) rfl rfl rfl rfl ?_
    refine L_op rfl (X_pick (t := false) (v := (.bool (false))) rfl rfl ?_)
    refine L_op rfl (X_move (v := (.bool (false))) rfl ?_)
    refine L_gn (dj := 26) (t := false) rfl rfl rfl rfl ?_
    refine L_gn (dj := 26) (t := false) rfl rfl rfl rfl ?_
    refine L_gn (dj := 26) (t := false) rfl rfl rfl rfl ?_
    refine L_gn (dj := 26) (t := false) rfl rfl rfl rfl ?_
    refine L_gn (dj := 26) (t := false) rfl rfl rfl rfl ?_
    refine L_gn (dj := 26) (t := false) rfl rfl rfl rfl ?_
    refine L_gn (dj := 26) (t := false) rfl rfl rfl rfl ?_
    refine L_op rfl (X_pick (t := false) (v := (.bool (false))) rfl rfl ?_)
    refine L_op rfl (X_assign (v := (.bool (false))) rfl ?_)
    refine L_nil ?_
    refine T_n ?_
    refine W_ret ?_
    have e0_ : p.da.fz = p.fz := rfl
    have e1_ : q.da.fz = q.fz := rfl
    exact BQ_r (End_1 Try.results19 (v := .bool false) rfl ⟨⟨false, rfl, ⟨fun h_ => (by cases h_), fun h_ => (by have h2_ : p.dn = q.dn := congrArg PD.dn h_; rw [hs4, hs5] at h2_; cases h2_)⟩⟩, hU.own hn0⟩)
  ·rcases Bool.eq_false_or_eq_true (q.dn) with hs10 | hs10
   ·refine L_gy (dj := 10) rfl rfl rfl (X_load (p := (ptr b1 (9))) (v := .bool false) T4 rfl (hB1.at1 (by rw [hs4]; rfl)) ?_)
    refine L_gy (dj := 10) rfl rfl rfl (X_fldP (b := b2) (o := 0) (r := 9) Fd29_2 rfl rfl ?_)
    refine L_gy (dj := 10) rfl rfl rfl (X_load (p := (ptr b2 (9))) (v := .bool true) T4 rfl (hB2.at1 (by rw [hs10]; rfl)) ?_)
    refine L_gy (dj := 10) rfl rfl rfl (X_cmpBool (a := false) (b := true) (r := false) Try.underlying4 rfl rfl (.inl ⟨rfl, rfl⟩) ?_)
    refine L_op rfl (X_pick (t := true) (v := (.bool (false))) rfl rfl ?_)
    refine L_op rfl (X_move (v := (.bool (false))) rfl ?_)
    refine L_gn (dj := 17) (t := false) rfl rfl rfl rfl ?_
    refine L_gn (dj := 17) (t := false) rfl rfl rfl rfl ?_
    refine L_gn (dj := 17) (t := false) rfl rfl rfl rfl ?_
    refine L_gn (dj := 17) (t := false) rfl rfl rfl rfl ?_
    refine L_gn (dj := 17) (t := false) rfl rfl rfl rfl ?_
    refine L_gn (dj := 17) (t := false) rfl rfl rfl rfl ?_
    refine L_gn (dj := 17) (t := false) rfl rfl rfl rfl ?_
    refine L_op rfl (X_pick (t := false) (v := (.bool (false))) rfl rfl ?_)
    refine L_op rfl (X_move (v := (.bool (false))) rfl ?_)
    refine L_gn (dj := 26) (t := false) rfl rfl rfl rfl ?_
    refine L_gn (dj := 26) (t := false) rfl rfl rfl rfl ?_
    refine L_gn (dj := 26) (t := false) rfl rfl rfl rfl ?_
    refine L_gn (dj := 26) (t := false) rfl rfl rfl rfl ?_
    refine L_gn (dj := 26) (t := false) rfl rfl rfl rfl ?_
    refine L_gn (dj := 26) (t := false) rfl rfl rfl rfl ?_
    refine L_gn (dj := 26) (t := false) rfl rfl rfl rfl ?_
    refine L_op rfl (X_pick (t := false) (v := (.bool (false))) rfl rfl ?_)
    refine L_op rfl (X_assign (v := (.bool (false))) rfl ?_)
    refine L_nil ?_
    refine T_n ?_
    refine W_ret ?_
    have e0_ : p.da.fz = p.fz := rfl
    have e1_ : q.da.fz = q.fz := rfl
    exact BQ_r (End_1 Try.results19 (v := .bool false) rfl ⟨⟨false, rfl, ⟨fun h_ => (by cases h_), fun h_ => (by have h2_ : p.dn = q.dn := congrArg PD.dn h_; rw [hs4, hs10] at h2_; cases h2_)⟩⟩, hU.own hn0⟩)
   ·refine L_gy (dj := 10) rfl rfl rfl (X_load (p := (ptr b1 (9))) (v := .bool false) T4 rfl (hB1.at1 (by rw [hs4]; rfl)) ?_)
    refine L_gy (dj := 10) rfl rfl rfl (X_fldP (b := b2) (o := 0) (r := 9) Fd29_2 rfl rfl ?_)
    refine L_gy (dj := 10) rfl rfl rfl (X_load (p := (ptr b2 (9))) (v := .bool false) T4 rfl (hB2.at1 (by rw [hs10]; rfl)) ?_)
    refine L_gy (dj := 10) rfl rfl rfl (X_cmpBool (a := false) (b := false) (r := true) Try.underlying4 rfl rfl (.inl ⟨rfl, rfl⟩) ?_)
    refine L_op rfl (X_pick (t := true) (v := (.bool (true))) rfl rfl ?_)
    refine L_op rfl (X_move (v := (.bool (true))) rfl ?_)
    refine L_gy (dj := 17) rfl rfl rfl (X_fldP (b := b1) (o := 0) (r := 0) Fd29_0 rfl rfl ?_)
    refine L_gy (dj := 17) rfl rfl rfl (X_idxAP (len := 2) (sz := 4) (b := b1) (o := 0) (k := .i64) (i := 0) (r := 0) Try.underlying27 Z26 rfl rfl (by omega) (by omega) rfl ?_)
    refine L_gy (dj := 17) rfl rfl rfl (X_loadA (p := (ptr b1 (0))) (xs := [p.d0.pv, p.d0.cv, p.d0.bv, (.bool (p.d0.off))]) A26 rfl (hB1.part (o := 0) (n := 4) rfl) rfl ?_)
    refine L_gy (dj := 17) rfl rfl rfl (X_fldP (b := b2) (o := 0) (r := 0) Fd29_0 rfl rfl ?_)
    refine L_gy (dj := 17) rfl rfl rfl (X_idxAP (len := 2) (sz := 4) (b := b2) (o := 0) (k := .i64) (i := 0) (r := 0) Try.underlying27 Z26 rfl rfl (by omega) (by omega) rfl ?_)
    refine L_gy (dj := 17) rfl rfl rfl (X_loadA (p := (ptr b2 (0))) (xs := [q.d0.pv, q.d0.cv, q.d0.bv, (.bool (q.d0.off))]) A26 rfl (hB2.part (o := 0) (n := 4) rfl) rfl ?_)
    have hcr_ := c_sameRD p.d0 q.d0 w2 lo0 up0 l2 u2 h0 k0
    refine L_gy (dj := 17) rfl rfl rfl (X_fn (vs := [(.agg #[p.d0.pv, p.d0.cv, p.d0.bv, (.bool (p.d0.off))]), (.agg #[q.d0.pv, q.d0.cv, q.d0.bv, (.bool (q.d0.off))])]) en13 rfl ?_)
    refine CT.mono hcr_ ?_
    clear hcr_
    rintro _ w11 ⟨⟨g11, rfl, hg11⟩, hu11⟩
    have hz11 := hu11.size
    replace h0 := h0.ext hu11
    replace h1 := h1.ext hu11
    replace k0 := k0.ext hu11
    replace k1 := k1.ext hu11
    replace hU := hU.trans (Ext.upd hu11)
    replace hB1 := hB1.ext hu11
    replace hB2 := hB2.ext hu11
    rcases Bool.eq_false_or_eq_true (g11) with hc12 | hc12
    ·rw [hc12]
     refine L_op rfl (X_pick (t := true) (v := (.bool (true))) rfl rfl ?_)
     refine L_op rfl (X_move (v := (.bool (true))) rfl ?_)
     refine L_gy (dj := 26) rfl rfl rfl (X_fldP (b := b1) (o := 0) (r := 0) Fd29_0 rfl rfl ?_)
     refine L_gy (dj := 26) rfl rfl rfl (X_idxAP (len := 2) (sz := 4) (b := b1) (o := 0) (k := .i64) (i := 1) (r := 4) Try.underlying27 Z26 rfl rfl (by omega) (by omega) rfl ?_)
     refine L_gy (dj := 26) rfl rfl rfl (X_loadA (p := (ptr b1 (4))) (xs := [p.d1.pv, p.d1.cv, p.d1.bv, (.bool (p.d1.off))]) A26 rfl (hB1.part (o := 4) (n := 4) rfl) rfl ?_)
     refine L_gy (dj := 26) rfl rfl rfl (X_fldP (b := b2) (o := 0) (r := 0) Fd29_0 rfl rfl ?_)
     refine L_gy (dj := 26) rfl rfl rfl (X_idxAP (len := 2) (sz := 4) (b := b2) (o := 0) (k := .i64) (i := 1) (r := 4) Try.underlying27 Z26 rfl rfl (by omega) (by omega) rfl ?_)
     refine L_gy (dj := 26) rfl rfl rfl (X_loadA (p := (ptr b2 (4))) (xs := [q.d1.pv, q.d1.cv, q.d1.bv, (.bool (q.d1.off))]) A26 rfl (hB2.part (o := 4) (n := 4) rfl) rfl ?_)
     have hcr_ := c_sameRD p.d1 q.d1 w11 lo1 up1 l3 u3 h1 k1
     refine L_gy (dj := 26) rfl rfl rfl (X_fn (vs := [(.agg #[p.d1.pv, p.d1.cv, p.d1.bv, (.bool (p.d1.off))]), (.agg #[q.d1.pv, q.d1.cv, q.d1.bv, (.bool (q.d1.off))])]) en13 rfl ?_)
     refine CT.mono hcr_ ?_
     clear hcr_
     rintro _ w13 ⟨⟨g13, rfl, hg13⟩, hu13⟩
     have hz13 := hu13.size
     replace h0 := h0.ext hu13
     replace h1 := h1.ext hu13
     replace k0 := k0.ext hu13
     replace k1 := k1.ext hu13
     replace hU := hU.trans (Ext.upd hu13)
     replace hB1 := hB1.ext hu13
     replace hB2 := hB2.ext hu13
     rcases Bool.eq_false_or_eq_true (g13) with hc14 | hc14
     ·rw [hc14]
      refine L_op rfl (X_pick (t := true) (v := (.bool (true))) rfl rfl ?_)
      refine L_op rfl (X_assign (v := (.bool (true))) rfl ?_)
      refine L_nil ?_
      refine T_n ?_
      refine W_ret ?_
      have e0_ : p.da.fz = p.fz := rfl
      have e1_ : q.da.fz = q.fz := rfl
      exact BQ_r (End_1 Try.results19 (v := .bool true) rfl ⟨⟨true, rfl, ⟨fun _ => PD.ext (hg11.1 hc12) (hg13.1 hc14) (show p.fz = q.fz by omega) (show p.dn = q.dn by rw [hs4, hs10]), fun _ => rfl⟩⟩, hU.own hn0⟩)
     ·rw [hc14]
      refine L_op rfl (X_pick (t := true) (v := (.bool (false))) rfl rfl ?_)
      refine L_op rfl (X_assign (v := (.bool (false))) rfl ?_)
      refine L_nil ?_
      refine T_n ?_
      refine W_ret ?_
      have e0_ : p.da.fz = p.fz := rfl
      have e1_ : q.da.fz = q.fz := rfl
      exact BQ_r (End_1 Try.results19 (v := .bool false) rfl ⟨⟨false, rfl, ⟨fun h_ => (by cases h_), fun h_ => (by have h2_ := hg13.2 (congrArg PD.b h_); rw [hc14] at h2_; cases h2_)⟩⟩, hU.own hn0⟩)
    ·rw [hc12]
     refine L_op rfl (X_pick (t := true) (v := (.bool (false))) rfl rfl ?_)
     refine L_op rfl (X_move (v := (.bool (false))) rfl ?_)
     refine L_gn (dj := 26) (t := false) rfl rfl rfl rfl ?_
     refine L_gn (dj := 26) (t := false) rfl rfl rfl rfl ?_
     refine L_gn (dj := 26) (t := false) rfl rfl rfl rfl ?_
     refine L_gn (dj := 26) (t := false) rfl rfl rfl rfl ?_
     refine L_gn (dj := 26) (t := false) rfl rfl rfl rfl ?_
     refine L_gn (dj := 26) (t := false) rfl rfl rfl rfl ?_
     refine L_gn (dj := 26) (t := false) rfl rfl rfl rfl ?_
     refine L_op rfl (X_pick (t := false) (v := (.bool (false))) rfl rfl ?_)
     refine L_op rfl (X_assign (v := (.bool (false))) rfl ?_)
     refine L_nil ?_
     refine T_n ?_
     refine W_ret ?_
     have e0_ : p.da.fz = p.fz := rfl
     have e1_ : q.da.fz = q.fz := rfl
     exact BQ_r (End_1 Try.results19 (v := .bool false) rfl ⟨⟨false, rfl, ⟨fun h_ => (by cases h_), fun h_ => (by have h2_ := hg11.2 (congrArg PD.a h_); rw [hc12] at h2_; cases h2_)⟩⟩, hU.own hn0⟩)
 ·refine L_op rfl (X_cmp (k := .i64) (a := p.fz) (b := q.fz) (r := false) rfl rfl rfl (decide_eq_false (p := ((p.fz) : Int) = ((q.fz) : Int)) (by omega)) ?_)
  refine L_op rfl (X_move (v := (.bool (false))) rfl ?_)
  refine L_gn (dj := 10) (t := false) rfl rfl rfl rfl ?_
  refine L_gn (dj := 10) (t := false) rfl rfl rfl rfl ?_
  refine L_gn (dj := 10) (t := false) rfl rfl rfl rfl ?_
  refine L_gn (dj := 10) (t := false) rfl rfl rfl rfl ?_
  refine L_gn (dj := 10) (t := false) rfl rfl rfl rfl ?_
  refine L_op rfl (X_pick (t := false) (v := (.bool (false))) rfl rfl ?_)
  refine L_op rfl (X_move (v := (.bool (false))) rfl ?_)
  refine L_gn (dj := 17) (t := false) rfl rfl rfl rfl ?_
  refine L_gn (dj := 17) (t := false) rfl rfl rfl rfl ?_
  refine L_gn (dj := 17) (t := false) rfl rfl rfl rfl ?_
  refine L_gn (dj := 17) (t := false) rfl rfl rfl rfl ?_
  refine L_gn (dj := 17) (t := false) rfl rfl rfl rfl ?_
  refine L_gn (dj := 17) (t := false) rfl rfl rfl rfl ?_
  refine L_gn (dj := 17) (t := false) rfl rfl rfl rfl ?_
  refine L_op rfl (X_pick (t := false) (v := (.bool (false))) rfl rfl ?_)
  refine L_op rfl (X_move (v := (.bool (false))) rfl ?_)
  refine L_gn (dj := 26) (t := false) rfl rfl rfl rfl ?_
  refine L_gn (dj := 26) (t := false) rfl rfl rfl rfl ?_
  refine L_gn (dj := 26) (t := false) rfl rfl rfl rfl ?_
  refine L_gn (dj := 26) (t := false) rfl rfl rfl rfl ?_
  refine L_gn (dj := 26) (t := false) rfl rfl rfl rfl ?_
  refine L_gn (dj := 26) (t := false) rfl rfl rfl rfl ?_
  refine L_gn (dj := 26) (t := false) rfl rfl rfl rfl ?_
  refine L_op rfl (X_pick (t := false) (v := (.bool (false))) rfl rfl ?_)
  refine L_op rfl (X_assign (v := (.bool (false))) rfl ?_)
  refine L_nil ?_
  refine T_n ?_
  refine W_ret ?_
  have e0_ : p.da.fz = p.fz := rfl
  have e1_ : q.da.fz = q.fz := rfl
  exact BQ_r (End_1 Try.results19 (v := .bool false) rfl ⟨⟨false, rfl, ⟨fun h_ => (by cases h_), fun h_ => (by have h2_ : p.fz = q.fz := congrArg PD.fz h_; omega)⟩⟩, hU.own hn0⟩)

theorem c_make32 (w : World) : CT Try.prog 25 #[(.int .i64 (32))] w fun v w' => ∃ d0 d1 : Dk, v = .tuple #[.agg #[d0.pv, d0.cv, d0.bv, .bool d0.off, d1.pv, d1.cv, d1.bv, .bool d1.off, .int .i64 (-1), .bool false], .int .i64 0] ∧ d0.Rd w' w.heap.size w'.heap.size ∧ d1.Rd w' w.heap.size w'.heap.size ∧ d0.da = DZ ∧ d1.da = DZ ∧ Ext w w' := by
 obtain ⟨n0, hn0⟩ : ∃ n, n = w.heap.size := ⟨_, rfl⟩
 have hU : Upd (fun i => n0 ≤ i) w w := Upd.refl _ _
 refine CT_of Try.func25 rfl rfl rfl ?_
 refine W_seq ?_
 refine W_reg ?_
 refine L_op rfl (X_alloc (z := (.agg #[(.slice none 0 0), (.slice none 0 0), (.slice none 0 0), (.bool (false)), (.slice none 0 0), (.slice none 0 0), (.slice none 0 0), (.bool (false)), (.int .i64 (0)), (.bool (false))])) (c := #[(.slice none 0 0), (.slice none 0 0), (.slice none 0 0), (.bool (false)), (.slice none 0 0), (.slice none 0 0), (.slice none 0 0), (.bool (false)), (.int .i64 (0)), (.bool (false))]) Zv29 rfl ?_)
 intro b1 w1 hn1
 have hbn1 := hn1.num; have hbs1 := hn1.size
 replace hU := hU.trans (Ext.upd hn1.ext)
 have hB1 := hn1.blk
 refine L_op rfl (X_assign (v := (.int .i64 (0))) rfl ?_)
 refine L_nil ?_
 refine T_n ?_
 refine W_seq ?_
 refine W_seq ?_
 refine W_reg ?_
 refine L_op rfl (X_move (v := (.int .i64 (0))) rfl ?_)
 refine L_nil ?_
 refine T_n ?_
 refine W_block ?_
 refine W_unroll 3 ?_
 refine Rounds_s (m := 2) ?_
 refine W_seq ?_
 refine W_reg ?_
 refine L_op rfl (X_cmp (k := .i64) (a := 0) (b := 2) (r := true) rfl rfl rfl rfl ?_)
 refine L_nil ?_
 refine T_n ?_
 refine W_seq ?_
 refine W_ct rfl ?_
 refine W_skip ?_
 refine T_n ?_
 refine W_seq ?_
 refine W_block ?_
 refine W_seq ?_
 refine W_reg ?_
 refine L_op rfl (X_move (v := (.int .i64 (0))) rfl ?_)
 refine L_op rfl (X_assign (v := (.int .i64 (0))) rfl ?_)
 refine L_nil ?_
 refine T_n ?_
 refine W_seq ?_
 refine W_reg ?_
 refine L_op rfl (X_move (v := (.int .i64 (0))) rfl ?_)
 refine L_op rfl (X_move (v := (.int .i64 (32))) rfl ?_)
 have hcr_ := c_new 32 w1
 refine L_op rfl (X_fn (vs := [(.int .i64 (32))]) en39 rfl ?_)
 refine CT.mono hcr_ ?_
 clear hcr_
 obtain ⟨s2, hs2⟩ : ∃ n, n = w1.heap.size := ⟨_, rfl⟩
 rintro _ w2 ⟨_, hq_, hu2⟩
 obtain ⟨a0, rfl, hN0⟩ := hq_ ⟨by decide, by decide⟩
 replace hN0 := hN0.rd
 have hz2 := hu2.size
 obtain ⟨u2, hus2⟩ : ∃ n, n = w2.heap.size := ⟨_, rfl⟩
 rw [← hs2, ← hus2] at hN0
 replace hU := hU.trans (Ext.upd hu2)
 replace hB1 := hB1.ext hu2
 refine L_op rfl (X_move (v := (.tuple #[(.agg #[a0, (.slice none 0 0), (.slice none 0 0), (.bool (false))]), (.int .i64 (0))])) rfl ?_)
 refine L_op rfl (X_extract (l := [(.agg #[a0, (.slice none 0 0), (.slice none 0 0), (.bool (false))]), (.int .i64 (0))]) (v := (.agg #[a0, (.slice none 0 0), (.slice none 0 0), (.bool (false))])) rfl rfl ?_)
 refine L_op rfl (X_extract (l := [(.agg #[a0, (.slice none 0 0), (.slice none 0 0), (.bool (false))]), (.int .i64 (0))]) (v := (.int .i64 (0))) rfl rfl ?_)
 refine L_op rfl (X_fldP (b := b1) (o := 0) (r := 0) Fd29_0 rfl rfl ?_)
 refine L_op rfl (X_idxAP (len := 2) (sz := 4) (b := b1) (o := 0) (k := .i64) (i := 0) (r := 0) Try.underlying27 Z26 rfl rfl (by omega) (by omega) rfl ?_)
 refine L_op0 (X_storeA (b := b1) (o := 0) (ys := [a0, (.slice none 0 0), (.slice none 0 0), (.bool (false))]) A26 rfl rfl (List.forall_mem_cons.2 ⟨(hN0.sv.one), (List.forall_mem_cons.2 ⟨rfl, (List.forall_mem_cons.2 ⟨rfl, (List.forall_mem_cons.2 ⟨rfl, (fun _ h => by cases h)⟩)⟩)⟩)⟩) rfl hB1 (by show 0 + 4 ≤ 10; decide) ?_)
 intro w3 hu3 hb3
 have hz3 := hu3.size
 replace hU := hU.trans (hu3.mono fun i _ h => by have h : i = b1 := h; show n0 ≤ i; omega)
 replace hN0 := hN0.upd hu3 fun i h1 h2 h => by have h : i = b1 := h; omega
 replace hB1 : Blk w3 b1 #[a0, (.slice none 0 0), (.slice none 0 0), (.bool (false)), (.slice none 0 0), (.slice none 0 0), (.slice none 0 0), (.bool (false)), (.int .i64 (0)), (.bool (false))] 29 := hb3
 refine L_op rfl (X_assign (v := (.int .i64 (0))) rfl ?_)
 refine L_nil ?_
 refine T_n ?_
 refine W_seq ?_
 refine W_reg ?_
 refine L_op rfl (X_move (v := (.int .i64 (0))) rfl ?_)
 refine L_op rfl (X_cmp (k := .i64) (a := 0) (b := 0) (r := false) rfl rfl rfl rfl ?_)
 refine L_nil ?_
 refine T_n ?_
 refine W_cf rfl ?_
 refine W_skip ?_
 refine B_n ?_
 refine T_n ?_
 refine W_reg ?_
 refine L_op rfl (X_arith (k := .i64) (a := 0) (b := 1) (r := 1) rfl rfl rfl rfl ?_)
 refine L_op rfl (X_move (v := (.int .i64 (1))) rfl ?_)
 refine L_nil ?_
 refine T_n ?_
 refine Rounds_s (m := 1) ?_
 refine W_seq ?_
 refine W_reg ?_
 refine L_op rfl (X_cmp (k := .i64) (a := 1) (b := 2) (r := true) rfl rfl rfl rfl ?_)
 refine L_nil ?_
 refine T_n ?_
 refine W_seq ?_
 refine W_ct rfl ?_
 refine W_skip ?_
 refine T_n ?_
 refine W_seq ?_
 refine W_block ?_
 refine W_seq ?_
 refine W_reg ?_
 refine L_op rfl (X_move (v := (.int .i64 (1))) rfl ?_)
 refine L_op rfl (X_assign (v := (.int .i64 (1))) rfl ?_)
 refine L_nil ?_
 refine T_n ?_
 refine W_seq ?_
 refine W_reg ?_
 refine L_op rfl (X_move (v := (.int .i64 (1))) rfl ?_)
 refine L_op rfl (X_move (v := (.int .i64 (32))) rfl ?_)
 have hcr_ := c_new 32 w3
 refine L_op rfl (X_fn (vs := [(.int .i64 (32))]) en39 rfl ?_)
 refine CT.mono hcr_ ?_
 clear hcr_
 obtain ⟨s4, hs4⟩ : ∃ n, n = w3.heap.size := ⟨_, rfl⟩
 rintro _ w4 ⟨_, hq_, hu4⟩
 obtain ⟨a1, rfl, hN1⟩ := hq_ ⟨by decide, by decide⟩
 replace hN1 := hN1.rd
 have hz4 := hu4.size
 obtain ⟨u4, hus4⟩ : ∃ n, n = w4.heap.size := ⟨_, rfl⟩
 rw [← hs4, ← hus4] at hN1
 replace hU := hU.trans (Ext.upd hu4)
 replace hN0 := hN0.ext hu4
 replace hB1 := hB1.ext hu4
 refine L_op rfl (X_move (v := (.tuple #[(.agg #[a1, (.slice none 0 0), (.slice none 0 0), (.bool (false))]), (.int .i64 (0))])) rfl ?_)
 refine L_op rfl (X_extract (l := [(.agg #[a1, (.slice none 0 0), (.slice none 0 0), (.bool (false))]), (.int .i64 (0))]) (v := (.agg #[a1, (.slice none 0 0), (.slice none 0 0), (.bool (false))])) rfl rfl ?_)
 refine L_op rfl (X_extract (l := [(.agg #[a1, (.slice none 0 0), (.slice none 0 0), (.bool (false))]), (.int .i64 (0))]) (v := (.int .i64 (0))) rfl rfl ?_)
 refine L_op rfl (X_fldP (b := b1) (o := 0) (r := 0) Fd29_0 rfl rfl ?_)
 refine L_op rfl (X_idxAP (len := 2) (sz := 4) (b := b1) (o := 0) (k := .i64) (i := 1) (r := 4) Try.underlying27 Z26 rfl rfl (by omega) (by omega) rfl ?_)
 refine L_op0 (X_storeA (b := b1) (o := 4) (ys := [a1, (.slice none 0 0), (.slice none 0 0), (.bool (false))]) A26 rfl rfl (List.forall_mem_cons.2 ⟨(hN1.sv.one), (List.forall_mem_cons.2 ⟨rfl, (List.forall_mem_cons.2 ⟨rfl, (List.forall_mem_cons.2 ⟨rfl, (fun _ h => by cases h)⟩)⟩)⟩)⟩) rfl hB1 (by show 4 + 4 ≤ 10; decide) ?_)
 intro w5 hu5 hb5
 have hz5 := hu5.size
 replace hU := hU.trans (hu5.mono fun i _ h => by have h : i = b1 := h; show n0 ≤ i; omega)
 replace hN0 := hN0.upd hu5 fun i h1 h2 h => by have h : i = b1 := h; omega
 replace hN1 := hN1.upd hu5 fun i h1 h2 h => by have h : i = b1 := h; omega
 replace hB1 : Blk w5 b1 #[a0, (.slice none 0 0), (.slice none 0 0), (.bool (false)), a1, (.slice none 0 0), (.slice none 0 0), (.bool (false)), (.int .i64 (0)), (.bool (false))] 29 := hb5
 refine L_op rfl (X_assign (v := (.int .i64 (0))) rfl ?_)
 refine L_nil ?_
 refine T_n ?_
 refine W_seq ?_
 refine W_reg ?_
 refine L_op rfl (X_move (v := (.int .i64 (0))) rfl ?_)
 refine L_op rfl (X_cmp (k := .i64) (a := 0) (b := 0) (r := false) rfl rfl rfl rfl ?_)
 refine L_nil ?_
 refine T_n ?_
 refine W_cf rfl ?_
 refine W_skip ?_
 refine B_n ?_
 refine T_n ?_
 refine W_reg ?_
 refine L_op rfl (X_arith (k := .i64) (a := 1) (b := 1) (r := 2) rfl rfl rfl rfl ?_)
 refine L_op rfl (X_move (v := (.int .i64 (2))) rfl ?_)
 refine L_nil ?_
 refine T_n ?_
 refine Rounds_s (m := 0) ?_
 refine W_seq ?_
 refine W_reg ?_
 refine L_op rfl (X_cmp (k := .i64) (a := 2) (b := 2) (r := false) rfl rfl rfl rfl ?_)
 refine L_nil ?_
 refine T_n ?_
 refine W_seq ?_
 refine W_cf rfl ?_
 refine W_exit ?_
 refine T_e ?_
 refine T_e ?_
 refine B_x ?_
 refine T_n ?_
 refine W_seq ?_
 refine W_reg ?_
 refine L_op rfl (X_fldP (b := b1) (o := 0) (r := 8) Fd29_1 rfl rfl ?_)
 refine L_op0 (X_store (b := b1) (o := 8) T3 rfl rfl rfl hB1 (by show (8 : Nat) < 10; decide) ?_)
 intro w6 hu6 hb6
 have hz6 := hu6.size
 replace hU := hU.trans (hu6.mono fun i _ h => by have h : i = b1 := h; show n0 ≤ i; omega)
 replace hN0 := hN0.upd hu6 fun i h1 h2 h => by have h : i = b1 := h; omega
 replace hN1 := hN1.upd hu6 fun i h1 h2 h => by have h : i = b1 := h; omega
 replace hB1 : Blk w6 b1 #[a0, (.slice none 0 0), (.slice none 0 0), (.bool (false)), a1, (.slice none 0 0), (.slice none 0 0), (.bool (false)), (.int .i64 (-1)), (.bool (false))] 29 := hb6
 refine L_nil ?_
 refine T_n ?_
 refine W_seq ?_
 refine W_reg ?_
 refine L_op rfl (X_loadA (p := (ptr b1 (0))) (xs := [a0, (.slice none 0 0), (.slice none 0 0), (.bool (false)), a1, (.slice none 0 0), (.slice none 0 0), (.bool (false)), (.int .i64 (-1)), (.bool (false))]) A29 rfl hB1.atAll rfl ?_)
 refine L_op0 (X_storeW (b := b1) (ys := [a0, (.slice none 0 0), (.slice none 0 0), (.bool (false)), a1, (.slice none 0 0), (.slice none 0 0), (.bool (false)), (.int .i64 (-1)), (.bool (false))]) A29 rfl rfl (List.forall_mem_cons.2 ⟨(hN0.sv.one), (List.forall_mem_cons.2 ⟨rfl, (List.forall_mem_cons.2 ⟨rfl, (List.forall_mem_cons.2 ⟨rfl, (List.forall_mem_cons.2 ⟨(hN1.sv.one), (List.forall_mem_cons.2 ⟨rfl, (List.forall_mem_cons.2 ⟨rfl, (List.forall_mem_cons.2 ⟨rfl, (List.forall_mem_cons.2 ⟨rfl, (List.forall_mem_cons.2 ⟨rfl, (fun _ h => by cases h)⟩)⟩)⟩)⟩)⟩)⟩)⟩)⟩)⟩)⟩) rfl hB1 rfl ?_)
 intro w7 hu7 hb7
 have hz7 := hu7.size
 replace hU := hU.trans (hu7.mono fun i _ h => by have h : i = b1 := h; show n0 ≤ i; omega)
 replace hN0 := hN0.upd hu7 fun i h1 h2 h => by have h : i = b1 := h; omega
 replace hN1 := hN1.upd hu7 fun i h1 h2 h => by have h : i = b1 := h; omega
 replace hB1 : Blk w7 b1 #[a0, (.slice none 0 0), (.slice none 0 0), (.bool (false)), a1, (.slice none 0 0), (.slice none 0 0), (.bool (false)), (.int .i64 (-1)), (.bool (false))] 29 := hb7
 refine L_op rfl (X_assign (v := (.int .i64 (0))) rfl ?_)
 refine L_nil ?_
 refine T_n ?_
 refine W_ret ?_
 exact BQ_r (End_2 Try.results25 (RV_A A29 rfl hB1.atAll rfl) (v2 := .int .i64 0) rfl ⟨⟨a0, .slice none 0 0, .slice none 0 0, List.replicate 32 (default : Pg), [], [], false⟩, ⟨a1, .slice none 0 0, .slice none 0 0, List.replicate 32 (default : Pg), [], [], false⟩, rfl, ⟨hN0.mono (by omega) (by omega), NRd.nil _ _ _, NRd.nil _ _ _⟩, ⟨hN1.mono (by omega) (by omega), NRd.nil _ _ _, NRd.nil _ _ _⟩, rfl, rfl, hU.own hn0⟩)

theorem c_make31 (w : World) : CT Try.prog 25 #[(.int .i64 (31))] w fun v w' => v = .tuple #[.agg #[.slice none 0 0, .slice none 0 0, .slice none 0 0, .bool false, .slice none 0 0, .slice none 0 0, .slice none 0 0, .bool false, .int .i64 0, .bool false], .int .i64 2] ∧ Ext w w' := by
 obtain ⟨n0, hn0⟩ : ∃ n, n = w.heap.size := ⟨_, rfl⟩
 have hU : Upd (fun i => n0 ≤ i) w w := Upd.refl _ _
 refine CT_of Try.func25 rfl rfl rfl ?_
 refine W_seq ?_
 refine W_reg ?_
 refine L_op rfl (X_alloc (z := (.agg #[(.slice none 0 0), (.slice none 0 0), (.slice none 0 0), (.bool (false)), (.slice none 0 0), (.slice none 0 0), (.slice none 0 0), (.bool (false)), (.int .i64 (0)), (.bool (false))])) (c := #[(.slice none 0 0), (.slice none 0 0), (.slice none 0 0), (.bool (false)), (.slice none 0 0), (.slice none 0 0), (.slice none 0 0), (.bool (false)), (.int .i64 (0)), (.bool (false))]) Zv29 rfl ?_)
 intro b1 w1 hn1
 have hbn1 := hn1.num; have hbs1 := hn1.size
 replace hU := hU.trans (Ext.upd hn1.ext)
 have hB1 := hn1.blk
 refine L_op rfl (X_assign (v := (.int .i64 (0))) rfl ?_)
 refine L_nil ?_
 refine T_n ?_
 refine W_seq ?_
 refine W_seq ?_
 refine W_reg ?_
 refine L_op rfl (X_move (v := (.int .i64 (0))) rfl ?_)
 refine L_nil ?_
 refine T_n ?_
 refine W_block ?_
 refine W_unroll 3 ?_
 refine Rounds_s (m := 2) ?_
 refine W_seq ?_
 refine W_reg ?_
 refine L_op rfl (X_cmp (k := .i64) (a := 0) (b := 2) (r := true) rfl rfl rfl rfl ?_)
 refine L_nil ?_
 refine T_n ?_
 refine W_seq ?_
 refine W_ct rfl ?_
 refine W_skip ?_
 refine T_n ?_
 refine W_seq ?_
 refine W_block ?_
 refine W_seq ?_
 refine W_reg ?_
 refine L_op rfl (X_move (v := (.int .i64 (0))) rfl ?_)
 refine L_op rfl (X_assign (v := (.int .i64 (0))) rfl ?_)
 refine L_nil ?_
 refine T_n ?_
 refine W_seq ?_
 refine W_reg ?_
 refine L_op rfl (X_move (v := (.int .i64 (0))) rfl ?_)
 refine L_op rfl (X_move (v := (.int .i64 (31))) rfl ?_)
 have hcr_ := c_new 31 w1
 refine L_op rfl (X_fn (vs := [(.int .i64 (31))]) en39 rfl ?_)
 refine CT.mono hcr_ ?_
 clear hcr_
 rintro _ w2 ⟨hq_, _, hu2⟩
 obtain rfl := hq_ (.inl (by decide))
 have hz2 := hu2.size
 replace hU := hU.trans (Ext.upd hu2)
 replace hB1 := hB1.ext hu2
 refine L_op rfl (X_move (v := (.tuple #[(.agg #[(.slice none 0 0), (.slice none 0 0), (.slice none 0 0), (.bool (false))]), (.int .i64 (2))])) rfl ?_)
 refine L_op rfl (X_extract (l := [(.agg #[(.slice none 0 0), (.slice none 0 0), (.slice none 0 0), (.bool (false))]), (.int .i64 (2))]) (v := (.agg #[(.slice none 0 0), (.slice none 0 0), (.slice none 0 0), (.bool (false))])) rfl rfl ?_)
 refine L_op rfl (X_extract (l := [(.agg #[(.slice none 0 0), (.slice none 0 0), (.slice none 0 0), (.bool (false))]), (.int .i64 (2))]) (v := (.int .i64 (2))) rfl rfl ?_)
 refine L_op rfl (X_fldP (b := b1) (o := 0) (r := 0) Fd29_0 rfl rfl ?_)
 refine L_op rfl (X_idxAP (len := 2) (sz := 4) (b := b1) (o := 0) (k := .i64) (i := 0) (r := 0) Try.underlying27 Z26 rfl rfl (by omega) (by omega) rfl ?_)
 refine L_op0 (X_storeA (b := b1) (o := 0) (ys := [(.slice none 0 0), (.slice none 0 0), (.slice none 0 0), (.bool (false))]) A26 rfl rfl (List.forall_mem_cons.2 ⟨rfl, (List.forall_mem_cons.2 ⟨rfl, (List.forall_mem_cons.2 ⟨rfl, (List.forall_mem_cons.2 ⟨rfl, (fun _ h => by cases h)⟩)⟩)⟩)⟩) rfl hB1 (by show 0 + 4 ≤ 10; decide) ?_)
 intro w3 hu3 hb3
 have hz3 := hu3.size
 replace hU := hU.trans (hu3.mono fun i _ h => by have h : i = b1 := h; show n0 ≤ i; omega)
 replace hB1 : Blk w3 b1 #[(.slice none 0 0), (.slice none 0 0), (.slice none 0 0), (.bool (false)), (.slice none 0 0), (.slice none 0 0), (.slice none 0 0), (.bool (false)), (.int .i64 (0)), (.bool (false))] 29 := hb3
 refine L_op rfl (X_assign (v := (.int .i64 (2))) rfl ?_)
 refine L_nil ?_
 refine T_n ?_
 refine W_seq ?_
 refine W_reg ?_
 refine L_op rfl (X_move (v := (.int .i64 (2))) rfl ?_)
 refine L_op rfl (X_cmp (k := .i64) (a := 2) (b := 0) (r := true) rfl rfl rfl rfl ?_)
 refine L_nil ?_
 refine T_n ?_
 refine W_ct rfl ?_
 refine W_seq ?_
 refine W_reg ?_
 refine L_op rfl (X_build (c := ([(.slice none 0 0), (.slice none 0 0), (.slice none 0 0), (.bool (false)), (.slice none 0 0), (.slice none 0 0), (.slice none 0 0), (.bool (false)), (.int .i64 (0)), (.bool (false))]).toArray) rfl ?_)
 refine L_op rfl (X_move (v := (.int .i64 (2))) rfl ?_)
 refine L_op0 (X_storeW (b := b1) (ys := [(.slice none 0 0), (.slice none 0 0), (.slice none 0 0), (.bool (false)), (.slice none 0 0), (.slice none 0 0), (.slice none 0 0), (.bool (false)), (.int .i64 (0)), (.bool (false))]) A29 rfl rfl (List.forall_mem_cons.2 ⟨rfl, (List.forall_mem_cons.2 ⟨rfl, (List.forall_mem_cons.2 ⟨rfl, (List.forall_mem_cons.2 ⟨rfl, (List.forall_mem_cons.2 ⟨rfl, (List.forall_mem_cons.2 ⟨rfl, (List.forall_mem_cons.2 ⟨rfl, (List.forall_mem_cons.2 ⟨rfl, (List.forall_mem_cons.2 ⟨rfl, (List.forall_mem_cons.2 ⟨rfl, (fun _ h => by cases h)⟩)⟩)⟩)⟩)⟩)⟩)⟩)⟩)⟩)⟩) rfl hB1 rfl ?_)
 intro w4 hu4 hb4
 have hz4 := hu4.size
 replace hU := hU.trans (hu4.mono fun i _ h => by have h : i = b1 := h; show n0 ≤ i; omega)
 replace hB1 : Blk w4 b1 #[(.slice none 0 0), (.slice none 0 0), (.slice none 0 0), (.bool (false)), (.slice none 0 0), (.slice none 0 0), (.slice none 0 0), (.bool (false)), (.int .i64 (0)), (.bool (false))] 29 := hb4
 refine L_op rfl (X_assign (v := (.int .i64 (2))) rfl ?_)
 refine L_nil ?_
 refine T_n ?_
 refine W_ret ?_
 refine B_r ?_
 refine T_r ?_
 refine T_r ?_
 refine B_r ?_
 refine T_r ?_
 exact BQ_r (End_2 Try.results25 (RV_A A29 rfl hB1.atAll rfl) (v2 := .int .i64 2) rfl ⟨rfl, hU.own hn0⟩)

theorem built37d : Try.prog.built 37 [] = some (((default : Pg)).1.map byteV).toArray := by
 have h : Try.prog.built 37 [] = some (List.replicate 256 (Value.int .u8 0)).toArray := by kernel_rfl
 rw [h]
 show _ = some ((List.replicate 256 (0 : UInt8)).map byteV).toArray
 rw [List.map_replicate]; rfl

theorem c_wakes (w : World) : CT Try.prog 9 #[] w fun v w' => v = .bool true ∧ Ext w w' := by
 obtain ⟨n0, hn0⟩ : ∃ n, n = w.heap.size := ⟨_, rfl⟩
 have hU : Upd (fun i => n0 ≤ i) w w := Upd.refl _ _
 refine CT_of Try.func9 rfl rfl rfl ?_
 refine W_seq ?_
 refine W_reg ?_
 refine L_op rfl (X_assign (v := (.bool (false))) rfl ?_)
 refine L_nil ?_
 refine T_n ?_
 refine W_seq ?_
 refine W_reg ?_
 obtain ⟨s0, hs0⟩ : ∃ n, n = w.heap.size := ⟨_, rfl⟩
 have hcr_ := c_make32 w
 refine L_op rfl (X_fn (vs := [.int .i64 32]) en25 rfl ?_)
 refine CT.mono hcr_ ?_
 clear hcr_
 rintro _ w1 ⟨d0, d1, rfl, h0, h1, e0, e1, hu1⟩
 have hz1 := hu1.size
 obtain ⟨u0, hus0⟩ : ∃ n, n = w1.heap.size := ⟨_, rfl⟩
 rw [← hs0, ← hus0] at h0 h1
 replace hU := hU.trans (Ext.upd hu1)
 have o0 : d0.off = false := congrArg DD.off e0
 have o1 : d1.off = false := congrArg DD.off e1
 have l1 : d1.ps.length = 32 := (congrArg (fun d => d.ps.length) e1).trans (List.length_replicate)
 have z0 : Sz d0.da 1000100 := by rw [e0]; exact ⟨by show (List.replicate 32 (default : Pg)).length ≤ _; rw [List.length_replicate]; decide, Nat.zero_le _, Nat.zero_le _⟩
 have z1 : Sz d1.da 1000100 := by rw [e1]; exact ⟨by show (List.replicate 32 (default : Pg)).length ≤ _; rw [List.length_replicate]; decide, Nat.zero_le _, Nat.zero_le _⟩
 refine L_op rfl (X_move (v := (.tuple #[(.agg #[d0.pv, d0.cv, d0.bv, (.bool (d0.off)), d1.pv, d1.cv, d1.bv, (.bool (d1.off)), (.int .i64 (-1)), (.bool (false))]), (.int .i64 (0))])) rfl ?_)
 refine L_op rfl (X_extract (l := [(.agg #[d0.pv, d0.cv, d0.bv, (.bool (d0.off)), d1.pv, d1.cv, d1.bv, (.bool (d1.off)), (.int .i64 (-1)), (.bool (false))]), (.int .i64 (0))]) (v := (.agg #[d0.pv, d0.cv, d0.bv, (.bool (d0.off)), d1.pv, d1.cv, d1.bv, (.bool (d1.off)), (.int .i64 (-1)), (.bool (false))])) rfl rfl ?_)
 refine L_op rfl (X_extract (l := [(.agg #[d0.pv, d0.cv, d0.bv, (.bool (d0.off)), d1.pv, d1.cv, d1.bv, (.bool (d1.off)), (.int .i64 (-1)), (.bool (false))]), (.int .i64 (0))]) (v := (.int .i64 (0))) rfl rfl ?_)
 refine L_op rfl (X_alloc (z := (.agg #[(.slice none 0 0), (.slice none 0 0), (.slice none 0 0), (.bool (false)), (.slice none 0 0), (.slice none 0 0), (.slice none 0 0), (.bool (false)), (.int .i64 (0)), (.bool (false))])) (c := #[(.slice none 0 0), (.slice none 0 0), (.slice none 0 0), (.bool (false)), (.slice none 0 0), (.slice none 0 0), (.slice none 0 0), (.bool (false)), (.int .i64 (0)), (.bool (false))]) Zv29 rfl ?_)
 intro b2 w2 hn2
 have hbn2 := hn2.num; have hbs2 := hn2.size
 replace hU := hU.trans (Ext.upd hn2.ext)
 replace h0 := h0.ext hn2.ext
 replace h1 := h1.ext hn2.ext
 have hB2 := hn2.blk
 refine L_op0 (X_storeW (b := b2) (ys := [d0.pv, d0.cv, d0.bv, (.bool (d0.off)), d1.pv, d1.cv, d1.bv, (.bool (d1.off)), (.int .i64 (-1)), (.bool (false))]) A29 rfl rfl (List.forall_mem_cons.2 ⟨(h0.1.sv.one), (List.forall_mem_cons.2 ⟨(h0.2.1.sv.one), (List.forall_mem_cons.2 ⟨(h0.2.2.sv.one), (List.forall_mem_cons.2 ⟨rfl, (List.forall_mem_cons.2 ⟨(h1.1.sv.one), (List.forall_mem_cons.2 ⟨(h1.2.1.sv.one), (List.forall_mem_cons.2 ⟨(h1.2.2.sv.one), (List.forall_mem_cons.2 ⟨rfl, (List.forall_mem_cons.2 ⟨rfl, (List.forall_mem_cons.2 ⟨rfl, (fun _ h => by cases h)⟩)⟩)⟩)⟩)⟩)⟩)⟩)⟩)⟩)⟩) rfl hB2 rfl ?_)
 intro w3 hu3 hb3
 have hz3 := hu3.size
 replace hU := hU.trans (hu3.mono fun i _ h => by have h : i = b2 := h; show n0 ≤ i; omega)
 replace h0 := h0.upd hu3 fun i h1 h2 h => by have h : i = b2 := h; omega
 replace h1 := h1.upd hu3 fun i h1 h2 h => by have h : i = b2 := h; omega
 replace hB2 : Blk w3 b2 #[d0.pv, d0.cv, d0.bv, (.bool (d0.off)), d1.pv, d1.cv, d1.bv, (.bool (d1.off)), (.int .i64 (-1)), (.bool (false))] 29 := hb3
 refine L_op rfl (X_assign (v := (.int .i64 (0))) rfl ?_)
 refine L_nil ?_
 refine T_n ?_
 refine W_seq ?_
 refine W_reg ?_
 refine L_op rfl (X_fn (vs := [(.int .i64 (31))]) en25 rfl (CT.mono (c_make31 w3) ?_))
 rintro _ w4 ⟨rfl, hu4⟩
 have hz4 := hu4.size
 replace hU := hU.trans (Ext.upd hu4)
 replace h0 := h0.ext hu4
 replace h1 := h1.ext hu4
 replace hB2 := hB2.ext hu4
 refine L_op rfl (X_move (v := (.tuple #[(.agg #[(.slice none 0 0), (.slice none 0 0), (.slice none 0 0), (.bool (false)), (.slice none 0 0), (.slice none 0 0), (.slice none 0 0), (.bool (false)), (.int .i64 (0)), (.bool (false))]), (.int .i64 (2))])) rfl ?_)
 refine L_op rfl (X_extract (l := [(.agg #[(.slice none 0 0), (.slice none 0 0), (.slice none 0 0), (.bool (false)), (.slice none 0 0), (.slice none 0 0), (.slice none 0 0), (.bool (false)), (.int .i64 (0)), (.bool (false))]), (.int .i64 (2))]) (v := (.agg #[(.slice none 0 0), (.slice none 0 0), (.slice none 0 0), (.bool (false)), (.slice none 0 0), (.slice none 0 0), (.slice none 0 0), (.bool (false)), (.int .i64 (0)), (.bool (false))])) rfl rfl ?_)
 refine L_op rfl (X_extract (l := [(.agg #[(.slice none 0 0), (.slice none 0 0), (.slice none 0 0), (.bool (false)), (.slice none 0 0), (.slice none 0 0), (.slice none 0 0), (.bool (false)), (.int .i64 (0)), (.bool (false))]), (.int .i64 (2))]) (v := (.int .i64 (2))) rfl rfl ?_)
 refine L_op rfl (X_alloc (z := (.agg #[(.slice none 0 0), (.slice none 0 0), (.slice none 0 0), (.bool (false)), (.slice none 0 0), (.slice none 0 0), (.slice none 0 0), (.bool (false)), (.int .i64 (0)), (.bool (false))])) (c := #[(.slice none 0 0), (.slice none 0 0), (.slice none 0 0), (.bool (false)), (.slice none 0 0), (.slice none 0 0), (.slice none 0 0), (.bool (false)), (.int .i64 (0)), (.bool (false))]) Zv29 rfl ?_)
 intro b5 w5 hn5
 have hbn5 := hn5.num; have hbs5 := hn5.size
 replace hU := hU.trans (Ext.upd hn5.ext)
 replace h0 := h0.ext hn5.ext
 replace h1 := h1.ext hn5.ext
 replace hB2 := hB2.ext hn5.ext
 have hB5 := hn5.blk
 refine L_op0 (X_storeW (b := b5) (ys := [(.slice none 0 0), (.slice none 0 0), (.slice none 0 0), (.bool (false)), (.slice none 0 0), (.slice none 0 0), (.slice none 0 0), (.bool (false)), (.int .i64 (0)), (.bool (false))]) A29 rfl rfl (List.forall_mem_cons.2 ⟨rfl, (List.forall_mem_cons.2 ⟨rfl, (List.forall_mem_cons.2 ⟨rfl, (List.forall_mem_cons.2 ⟨rfl, (List.forall_mem_cons.2 ⟨rfl, (List.forall_mem_cons.2 ⟨rfl, (List.forall_mem_cons.2 ⟨rfl, (List.forall_mem_cons.2 ⟨rfl, (List.forall_mem_cons.2 ⟨rfl, (List.forall_mem_cons.2 ⟨rfl, (fun _ h => by cases h)⟩)⟩)⟩)⟩)⟩)⟩)⟩)⟩)⟩)⟩) rfl hB5 rfl ?_)
 intro w6 hu6 hb6
 have hz6 := hu6.size
 replace hU := hU.trans (hu6.mono fun i _ h => by have h : i = b5 := h; show n0 ≤ i; omega)
 replace h0 := h0.upd hu6 fun i h1 h2 h => by have h : i = b5 := h; omega
 replace h1 := h1.upd hu6 fun i h1 h2 h => by have h : i = b5 := h; omega
 replace hB2 := hB2.upd hu6 fun h => by have h : b2 = b5 := h; omega
 replace hB5 : Blk w6 b5 #[(.slice none 0 0), (.slice none 0 0), (.slice none 0 0), (.bool (false)), (.slice none 0 0), (.slice none 0 0), (.slice none 0 0), (.bool (false)), (.int .i64 (0)), (.bool (false))] 29 := hb6
 refine L_op rfl (X_assign (v := (.int .i64 (2))) rfl ?_)
 refine L_nil ?_
 refine T_n ?_
 refine W_seq ?_
 refine W_reg ?_
 refine L_op rfl (X_fldP (b := b2) (o := 0) (r := 8) Fd29_1 rfl rfl ?_)
 refine L_op0 (X_store (b := b2) (o := 8) T3 rfl rfl rfl hB2 (by show (8 : Nat) < 10; decide) ?_)
 intro w7 hu7 hb7
 have hz7 := hu7.size
 replace hU := hU.trans (hu7.mono fun i _ h => by have h : i = b2 := h; show n0 ≤ i; omega)
 replace h0 := h0.upd hu7 fun i h1 h2 h => by have h : i = b2 := h; omega
 replace h1 := h1.upd hu7 fun i h1 h2 h => by have h : i = b2 := h; omega
 replace hB5 := hB5.upd hu7 fun h => by have h : b5 = b2 := h; omega
 replace hB2 : Blk w7 b2 #[d0.pv, d0.cv, d0.bv, (.bool (d0.off)), d1.pv, d1.cv, d1.bv, (.bool (d1.off)), (.int .i64 (0)), (.bool (false))] 29 := hb7
 refine L_nil ?_
 refine T_n ?_
 refine W_seq ?_
 refine W_reg ?_
 refine L_op rfl (X_loadA (p := (ptr b2 (0))) (xs := [d0.pv, d0.cv, d0.bv, (.bool (d0.off)), d1.pv, d1.cv, d1.bv, (.bool (d1.off)), (.int .i64 (0)), (.bool (false))]) A29 rfl hB2.atAll rfl ?_)
 obtain ⟨sq, hsq⟩ : ∃ n, n = w7.heap.size := ⟨_, rfl⟩
 have hcr_ := c_flushM (⟨d0, d1, 0, false⟩ : Pr) w7 (by show (0 : Int) ≤ 1000000; decide) s0 u0 s0 u0 (by omega) (by omega) h0 h1 z0 z1
 refine L_op rfl (X_fn (vs := [(.agg ([d0.pv, d0.cv, d0.bv, (.bool (d0.off)), d1.pv, d1.cv, d1.bv, (.bool (d1.off)), (.int .i64 (0)), (.bool (false))]).toArray)]) en11 rfl ?_)
 refine CT.mono hcr_ ?_
 clear hcr_
 rintro _ w8 ⟨pq, l0q, u0q, l1q, u1q, rfl, hq0, hq1, hiq0, hiq1, hdaq, hu8⟩
 have hz8 := hu8.size
 obtain ⟨eq, heq⟩ : ∃ z, z = (flushD (⟨d0, d1, 0, false⟩ : Pr).da).2 := ⟨_, rfl⟩
 rw [← heq]
 obtain ⟨uq, huq⟩ : ∃ n, n = w8.heap.size := ⟨_, rfl⟩
 rw [← hsq, ← huq] at hiq0 hiq1
 replace hU := hU.trans (Ext.upd hu8)
 replace h0 := h0.ext hu8
 replace h1 := h1.ext hu8
 replace hB5 := hB5.ext hu8
 replace hB2 := hB2.ext hu8
 have hfw := flush_wake (p := (⟨d0, d1, 0, false⟩ : Pr).da) o0 o1 rfl rfl
 rw [hfw] at heq hdaq
 subst heq
 have hdn : pq.dn = true := congrArg PD.dn hdaq
 refine L_op rfl (X_move (v := (.tuple #[(.agg #[pq.d0.pv, pq.d0.cv, pq.d0.bv, (.bool (pq.d0.off)), pq.d1.pv, pq.d1.cv, pq.d1.bv, (.bool (pq.d1.off)), (.int .i64 (pq.fz)), (.bool (pq.dn))]), (.int .i64 (100))])) rfl ?_)
 refine L_op rfl (X_extract (l := [(.agg #[pq.d0.pv, pq.d0.cv, pq.d0.bv, (.bool (pq.d0.off)), pq.d1.pv, pq.d1.cv, pq.d1.bv, (.bool (pq.d1.off)), (.int .i64 (pq.fz)), (.bool (pq.dn))]), (.int .i64 (100))]) (v := (.agg #[pq.d0.pv, pq.d0.cv, pq.d0.bv, (.bool (pq.d0.off)), pq.d1.pv, pq.d1.cv, pq.d1.bv, (.bool (pq.d1.off)), (.int .i64 (pq.fz)), (.bool (pq.dn))])) rfl rfl ?_)
 refine L_op rfl (X_extract (l := [(.agg #[pq.d0.pv, pq.d0.cv, pq.d0.bv, (.bool (pq.d0.off)), pq.d1.pv, pq.d1.cv, pq.d1.bv, (.bool (pq.d1.off)), (.int .i64 (pq.fz)), (.bool (pq.dn))]), (.int .i64 (100))]) (v := (.int .i64 (100))) rfl rfl ?_)
 refine L_op rfl (X_alloc (z := (.agg #[(.slice none 0 0), (.slice none 0 0), (.slice none 0 0), (.bool (false)), (.slice none 0 0), (.slice none 0 0), (.slice none 0 0), (.bool (false)), (.int .i64 (0)), (.bool (false))])) (c := #[(.slice none 0 0), (.slice none 0 0), (.slice none 0 0), (.bool (false)), (.slice none 0 0), (.slice none 0 0), (.slice none 0 0), (.bool (false)), (.int .i64 (0)), (.bool (false))]) Zv29 rfl ?_)
 intro b9 w9 hn9
 have hbn9 := hn9.num; have hbs9 := hn9.size
 replace hU := hU.trans (Ext.upd hn9.ext)
 replace h0 := h0.ext hn9.ext
 replace h1 := h1.ext hn9.ext
 replace hB5 := hB5.ext hn9.ext
 replace hB2 := hB2.ext hn9.ext
 replace hq0 := hq0.ext hn9.ext
 replace hq1 := hq1.ext hn9.ext
 have hB9 := hn9.blk
 refine L_op0 (X_storeW (b := b9) (ys := [pq.d0.pv, pq.d0.cv, pq.d0.bv, (.bool (pq.d0.off)), pq.d1.pv, pq.d1.cv, pq.d1.bv, (.bool (pq.d1.off)), (.int .i64 (pq.fz)), (.bool (pq.dn))]) A29 rfl rfl (List.forall_mem_cons.2 ⟨(hq0.1.sv.one), (List.forall_mem_cons.2 ⟨(hq0.2.1.sv.one), (List.forall_mem_cons.2 ⟨(hq0.2.2.sv.one), (List.forall_mem_cons.2 ⟨rfl, (List.forall_mem_cons.2 ⟨(hq1.1.sv.one), (List.forall_mem_cons.2 ⟨(hq1.2.1.sv.one), (List.forall_mem_cons.2 ⟨(hq1.2.2.sv.one), (List.forall_mem_cons.2 ⟨rfl, (List.forall_mem_cons.2 ⟨rfl, (List.forall_mem_cons.2 ⟨rfl, (fun _ h => by cases h)⟩)⟩)⟩)⟩)⟩)⟩)⟩)⟩)⟩)⟩) rfl hB9 rfl ?_)
 intro w10 hu10 hb10
 have hz10 := hu10.size
 replace hU := hU.trans (hu10.mono fun i _ h => by have h : i = b9 := h; show n0 ≤ i; omega)
 replace h0 := h0.upd hu10 fun i h1 h2 h => by have h : i = b9 := h; omega
 replace h1 := h1.upd hu10 fun i h1 h2 h => by have h : i = b9 := h; omega
 replace hB5 := hB5.upd hu10 fun h => by have h : b5 = b9 := h; omega
 replace hB2 := hB2.upd hu10 fun h => by have h : b2 = b9 := h; omega
 replace hq0 := hq0.upd hu10 fun i h1 h2 h => by have h : i = b9 := h; omega
 replace hq1 := hq1.upd hu10 fun i h1 h2 h => by have h : i = b9 := h; omega
 replace hB9 : Blk w10 b9 #[pq.d0.pv, pq.d0.cv, pq.d0.bv, (.bool (pq.d0.off)), pq.d1.pv, pq.d1.cv, pq.d1.bv, (.bool (pq.d1.off)), (.int .i64 (pq.fz)), (.bool (pq.dn))] 29 := hb10
 refine L_op rfl (X_assign (v := (.int .i64 (100))) rfl ?_)
 refine L_nil ?_
 refine T_n ?_
 refine W_seq ?_
 refine W_reg ?_
 refine L_op rfl (X_loadA (p := (ptr b2 (0))) (xs := [d0.pv, d0.cv, d0.bv, (.bool (d0.off)), d1.pv, d1.cv, d1.bv, (.bool (d1.off)), (.int .i64 (0)), (.bool (false))]) A29 rfl hB2.atAll rfl ?_)
 refine L_op rfl (X_build (c := (((default : Pg)).1.map byteV).toArray) built37d ?_)
 refine L_op rfl (X_fn (vs := [(.agg ([d0.pv, d0.cv, d0.bv, (.bool (d0.off)), d1.pv, d1.cv, d1.bv, (.bool (d1.off)), (.int .i64 (0)), (.bool (false))]).toArray), (.int .i64 (2)), (.int .i64 (0)), (pageV (default : Pg))]) en21 rfl (CT.mono (c_put2 (⟨d0, d1, 0, false⟩ : Pr) 0 default w10 s0 u0 s0 u0 (by omega) (by omega) h0 h1) ?_))
 rintro _ w11 ⟨rfl, hu11⟩
 have hz11 := hu11.size
 replace hU := hU.trans (Ext.upd hu11)
 replace h0 := h0.ext hu11
 replace h1 := h1.ext hu11
 replace hB5 := hB5.ext hu11
 replace hB2 := hB2.ext hu11
 replace hq0 := hq0.ext hu11
 replace hq1 := hq1.ext hu11
 replace hB9 := hB9.ext hu11
 refine L_op rfl (X_move (v := (.tuple #[(.agg ([d0.pv, d0.cv, d0.bv, (.bool (d0.off)), d1.pv, d1.cv, d1.bv, (.bool (d1.off)), (.int .i64 (0)), (.bool (false))]).toArray), (.int .i64 (2))])) rfl ?_)
 refine L_op rfl (X_extract (l := [(.agg ([d0.pv, d0.cv, d0.bv, (.bool (d0.off)), d1.pv, d1.cv, d1.bv, (.bool (d1.off)), (.int .i64 (0)), (.bool (false))]).toArray), (.int .i64 (2))]) (v := (.agg ([d0.pv, d0.cv, d0.bv, (.bool (d0.off)), d1.pv, d1.cv, d1.bv, (.bool (d1.off)), (.int .i64 (0)), (.bool (false))]).toArray)) rfl rfl ?_)
 refine L_op rfl (X_extract (l := [(.agg ([d0.pv, d0.cv, d0.bv, (.bool (d0.off)), d1.pv, d1.cv, d1.bv, (.bool (d1.off)), (.int .i64 (0)), (.bool (false))]).toArray), (.int .i64 (2))]) (v := (.int .i64 (2))) rfl rfl ?_)
 refine L_op rfl (X_alloc (z := (.agg #[(.slice none 0 0), (.slice none 0 0), (.slice none 0 0), (.bool (false)), (.slice none 0 0), (.slice none 0 0), (.slice none 0 0), (.bool (false)), (.int .i64 (0)), (.bool (false))])) (c := #[(.slice none 0 0), (.slice none 0 0), (.slice none 0 0), (.bool (false)), (.slice none 0 0), (.slice none 0 0), (.slice none 0 0), (.bool (false)), (.int .i64 (0)), (.bool (false))]) Zv29 rfl ?_)
 intro b12 w12 hn12
 have hbn12 := hn12.num; have hbs12 := hn12.size
 replace hU := hU.trans (Ext.upd hn12.ext)
 replace h0 := h0.ext hn12.ext
 replace h1 := h1.ext hn12.ext
 replace hB5 := hB5.ext hn12.ext
 replace hB2 := hB2.ext hn12.ext
 replace hq0 := hq0.ext hn12.ext
 replace hq1 := hq1.ext hn12.ext
 replace hB9 := hB9.ext hn12.ext
 have hB12 := hn12.blk
 refine L_op0 (X_storeW (b := b12) (ys := [d0.pv, d0.cv, d0.bv, (.bool (d0.off)), d1.pv, d1.cv, d1.bv, (.bool (d1.off)), (.int .i64 (0)), (.bool (false))]) A29 rfl rfl (List.forall_mem_cons.2 ⟨(h0.1.sv.one), (List.forall_mem_cons.2 ⟨(h0.2.1.sv.one), (List.forall_mem_cons.2 ⟨(h0.2.2.sv.one), (List.forall_mem_cons.2 ⟨rfl, (List.forall_mem_cons.2 ⟨(h1.1.sv.one), (List.forall_mem_cons.2 ⟨(h1.2.1.sv.one), (List.forall_mem_cons.2 ⟨(h1.2.2.sv.one), (List.forall_mem_cons.2 ⟨rfl, (List.forall_mem_cons.2 ⟨rfl, (List.forall_mem_cons.2 ⟨rfl, (fun _ h => by cases h)⟩)⟩)⟩)⟩)⟩)⟩)⟩)⟩)⟩)⟩) rfl hB12 rfl ?_)
 intro w13 hu13 hb13
 have hz13 := hu13.size
 replace hU := hU.trans (hu13.mono fun i _ h => by have h : i = b12 := h; show n0 ≤ i; omega)
 replace h0 := h0.upd hu13 fun i h1 h2 h => by have h : i = b12 := h; omega
 replace h1 := h1.upd hu13 fun i h1 h2 h => by have h : i = b12 := h; omega
 replace hB5 := hB5.upd hu13 fun h => by have h : b5 = b12 := h; omega
 replace hB2 := hB2.upd hu13 fun h => by have h : b2 = b12 := h; omega
 replace hq0 := hq0.upd hu13 fun i h1 h2 h => by have h : i = b12 := h; omega
 replace hq1 := hq1.upd hu13 fun i h1 h2 h => by have h : i = b12 := h; omega
 replace hB9 := hB9.upd hu13 fun h => by have h : b9 = b12 := h; omega
 replace hB12 : Blk w13 b12 #[d0.pv, d0.cv, d0.bv, (.bool (d0.off)), d1.pv, d1.cv, d1.bv, (.bool (d1.off)), (.int .i64 (0)), (.bool (false))] 29 := hb13
 refine L_op rfl (X_assign (v := (.int .i64 (2))) rfl ?_)
 refine L_nil ?_
 refine T_n ?_
 refine W_seq ?_
 refine W_reg ?_
 refine L_op rfl (X_move (v := (.int .i64 (0))) rfl ?_)
 refine L_op rfl (X_cmp (k := .i64) (a := 0) (b := 0) (r := true) rfl rfl rfl rfl ?_)
 refine L_op rfl (X_move (v := (.bool (true))) rfl ?_)
 refine L_gy (dj := 31) rfl rfl rfl (X_move (v := (.int .i64 (2))) rfl ?_)
 refine L_gy (dj := 31) rfl rfl rfl (X_cmp (k := .i64) (a := 2) (b := 2) (r := true) rfl rfl rfl rfl ?_)
 refine L_op rfl (X_pick (t := true) (v := (.bool (true))) rfl rfl ?_)
 refine L_op rfl (X_move (v := (.bool (true))) rfl ?_)
 refine L_gy (dj := 35) rfl rfl rfl (X_move (v := (.int .i64 (100))) rfl ?_)
 refine L_gy (dj := 35) rfl rfl rfl (X_cmp (k := .i64) (a := 100) (b := 100) (r := true) rfl rfl rfl rfl ?_)
 refine L_op rfl (X_pick (t := true) (v := (.bool (true))) rfl rfl ?_)
 refine L_op rfl (X_move (v := (.bool (true))) rfl ?_)
 refine L_gy (dj := 39) rfl rfl rfl (X_fldP (b := b9) (o := 0) (r := 9) Fd29_2 rfl rfl ?_)
 refine L_gy (dj := 39) rfl rfl rfl (X_load (p := (ptr b9 (9))) (v := .bool true) T4 rfl (hB9.at1 (by rw [hdn]; rfl)) ?_)
 refine L_op rfl (X_pick (t := true) (v := (.bool (true))) rfl rfl ?_)
 refine L_op rfl (X_move (v := (.bool (true))) rfl ?_)
 refine L_gy (dj := 43) rfl rfl rfl (X_move (v := (.int .i64 (2))) rfl ?_)
 refine L_gy (dj := 43) rfl rfl rfl (X_cmp (k := .i64) (a := 2) (b := 2) (r := true) rfl rfl rfl rfl ?_)
 refine L_op rfl (X_pick (t := true) (v := (.bool (true))) rfl rfl ?_)
 refine L_op rfl (X_move (v := (.bool (true))) rfl ?_)
 refine L_gy (dj := 47) rfl rfl rfl (X_loadA (p := (ptr b2 (0))) (xs := [d0.pv, d0.cv, d0.bv, (.bool (d0.off)), d1.pv, d1.cv, d1.bv, (.bool (d1.off)), (.int .i64 (0)), (.bool (false))]) A29 rfl hB2.atAll rfl ?_)
 have hcr_ := c_live (⟨d0, d1, 0, false⟩ : Pr) w13 s0 u0 s0 u0 (by omega) (by omega) h0 h1
 refine L_gy (dj := 47) rfl rfl rfl (X_fn (vs := [(.agg ([d0.pv, d0.cv, d0.bv, (.bool (d0.off)), d1.pv, d1.cv, d1.bv, (.bool (d1.off)), (.int .i64 (0)), (.bool (false))]).toArray)]) en18 rfl ?_)
 refine CT.mono hcr_ ?_
 clear hcr_
 rintro _ w14 ⟨rfl, hu14⟩
 have hz14 := hu14.size
 replace hU := hU.trans (Ext.upd hu14)
 replace h0 := h0.ext hu14
 replace h1 := h1.ext hu14
 replace hB5 := hB5.ext hu14
 replace hB2 := hB2.ext hu14
 replace hq0 := hq0.ext hu14
 replace hq1 := hq1.ext hu14
 replace hB9 := hB9.ext hu14
 replace hB12 := hB12.ext hu14
 rw [liveP (p := (⟨d0, d1, 0, false⟩ : Pr).da) o0 o1]
 refine L_gy (dj := 47) rfl rfl rfl (X_cmp (k := .u8) (a := 3) (b := 3) (r := true) rfl rfl rfl rfl ?_)
 refine L_op rfl (X_pick (t := true) (v := (.bool (true))) rfl rfl ?_)
 refine L_op rfl (X_move (v := (.bool (true))) rfl ?_)
 refine L_gy (dj := 52) rfl rfl rfl (X_fldP (b := b2) (o := 0) (r := 0) Fd29_0 rfl rfl ?_)
 refine L_gy (dj := 52) rfl rfl rfl (X_idxAP (len := 2) (sz := 4) (b := b2) (o := 0) (k := .i64) (i := 1) (r := 4) Try.underlying27 Z26 rfl rfl (by omega) (by omega) rfl ?_)
 refine L_gy (dj := 52) rfl rfl rfl (X_fldP (b := b2) (o := 4) (r := 4) Fd26_0 rfl rfl ?_)
 refine L_gy (dj := 52) rfl rfl rfl (X_load (p := (ptr b2 (4))) (v := d1.pv) T22 rfl (hB2.at1 rfl) ?_)
 refine L_gy (dj := 52) rfl rfl rfl (X_len (v := d1.pv) (n := d1.ps.length) Try.underlying22 rfl h1.1.sv ?_)
 refine L_gy (dj := 52) rfl rfl rfl (X_cmp (k := .i64) (a := ((d1.ps.length : Nat) : Int)) (b := 32) (r := true) rfl rfl rfl (decide_eq_true (p := ((((d1.ps.length : Nat) : Int)) : Int) = ((32) : Int)) (by omega)) ?_)
 refine L_op rfl (X_pick (t := true) (v := (.bool (true))) rfl rfl ?_)
 refine L_op rfl (X_move (v := (.bool (true))) rfl ?_)
 refine L_gy (dj := 60) rfl rfl rfl (X_build (c := ([(.int .u8 (1)), (.int .u16 (0)), (.int .u16 (0)), (.int .u32 (0)), (.int .u64 (0))]).toArray) rfl ?_)
 obtain ⟨sc15, hsc15⟩ : ∃ n, n = w14.heap.size := ⟨_, rfl⟩
 have hcr_ := c_copiesM (1, 0, 0, 0, 0) w14 (by unfold PtOk; decide)
 refine L_gy (dj := 60) rfl rfl rfl (X_fn (vs := [(.agg ([(.int .u8 (1)), (.int .u16 (0)), (.int .u16 (0)), (.int .u32 (0)), (.int .u64 (0))]).toArray)]) en20 rfl ?_)
 refine CT.mono hcr_ ?_
 clear hcr_
 rintro v15 w15 ⟨hc15, hu15⟩
 have hz15 := hu15.size
 replace hU := hU.trans (Ext.upd hu15)
 replace h0 := h0.ext hu15
 replace h1 := h1.ext hu15
 replace hB5 := hB5.ext hu15
 replace hB2 := hB2.ext hu15
 replace hq0 := hq0.ext hu15
 replace hq1 := hq1.ext hu15
 replace hB9 := hB9.ext hu15
 replace hB12 := hB12.ext hu15
 have hl15 : (copL (1, 0, 0, 0, 0)).length = 4 := by decide
 have hcs15 := hc15.sv
 rw [hl15] at hcs15
 refine L_gy (dj := 60) rfl rfl rfl (X_len (v := v15) (n := 4) Try.underlying45 rfl hcs15 ?_)
 refine L_gy (dj := 60) rfl rfl rfl (X_cmp (k := .i64) (a := 4) (b := 4) (r := true) rfl rfl rfl rfl ?_)
 refine L_op rfl (X_pick (t := true) (v := (.bool (true))) rfl rfl ?_)
 refine L_op rfl (X_move (v := (.bool (true))) rfl ?_)
 refine L_gy (dj := 66) rfl rfl rfl (X_build (c := ([(.int .u8 (3)), (.int .u16 (0)), (.int .u16 (0)), (.int .u32 (0)), (.int .u64 (0))]).toArray) rfl ?_)
 obtain ⟨sc16, hsc16⟩ : ∃ n, n = w15.heap.size := ⟨_, rfl⟩
 have hcr_ := c_copiesM (3, 0, 0, 0, 0) w15 (by unfold PtOk; decide)
 refine L_gy (dj := 66) rfl rfl rfl (X_fn (vs := [(.agg ([(.int .u8 (3)), (.int .u16 (0)), (.int .u16 (0)), (.int .u32 (0)), (.int .u64 (0))]).toArray)]) en20 rfl ?_)
 refine CT.mono hcr_ ?_
 clear hcr_
 rintro v16 w16 ⟨hc16, hu16⟩
 have hz16 := hu16.size
 replace hU := hU.trans (Ext.upd hu16)
 replace h0 := h0.ext hu16
 replace h1 := h1.ext hu16
 replace hB5 := hB5.ext hu16
 replace hB2 := hB2.ext hu16
 replace hq0 := hq0.ext hu16
 replace hq1 := hq1.ext hu16
 replace hB9 := hB9.ext hu16
 replace hB12 := hB12.ext hu16
 have hl16 : (copL (3, 0, 0, 0, 0)).length = 2 := by decide
 have hcs16 := hc16.sv
 rw [hl16] at hcs16
 refine L_gy (dj := 66) rfl rfl rfl (X_len (v := v16) (n := 2) Try.underlying45 rfl hcs16 ?_)
 refine L_gy (dj := 66) rfl rfl rfl (X_cmp (k := .i64) (a := 2) (b := 2) (r := true) rfl rfl rfl rfl ?_)
 refine L_op rfl (X_pick (t := true) (v := (.bool (true))) rfl rfl ?_)
 refine L_op rfl (X_assign (v := (.bool (true))) rfl ?_)
 refine L_nil ?_
 refine T_n ?_
 refine W_ret ?_
 exact BQ_r (End_1 Try.results9 (v := .bool true) rfl ⟨rfl, hU.own hn0⟩)
end Go.Proofs.Ytcjfkkoapncnhaa
