/-
 Spaces: new ones, which pages are held. (Printed by wip/gen/t13h.py of this repo.)
-/
import Derived.Test.YtmaikcnjgkoghaaSpG
namespace Go.Proofs.Ytmaikcnjgkoghaa
open Go Go.SL Go.Proofs
set_option linter.unusedVariables false

theorem may_rise {sz : Int} {us : List Bool} {ls : List La} (h : MayS sz us ls) : RiseL ls := by
 obtain ⟨⟨⟨h1, h2, h3⟩, _⟩, hin⟩ := h
 refine ⟨fun x hx => ?_, ?_⟩
 ·obtain ⟨j, hj, rfl⟩ := List.getElem_of_mem hx
  have := hin j _ hj (List.getElem?_eq_getElem hj)
  omega
 ·intro j k
  induction k with
  | zero => intro x y h0; omega
  | succ k ih =>
   intro x y hjk hx hy
   have hk := (List.getElem?_eq_some_iff.1 hy).1
   obtain ⟨z, hz⟩ : ∃ z, ls[k]? = some z := ⟨_, List.getElem?_eq_getElem (by omega)⟩
   have h4 := (hin (k + 1) y hk hy).2.2.2 z (by omega) hz
   rcases Nat.lt_or_ge j k with h5 | h5
   ·have := ih x z h5 hx hz; omega
   ·obtain rfl : j = k := by omega
    rw [hx] at hz; cases hz; exact h4
def HeldS (s : Sp) (n : Int) : Prop := MayS s.sz s.us s.ls ∧ 4 ≤ n ∧ n < s.sz ∧ s.us[n.toNat]? = some true ∧ (s.ls.any fun x => decide (x.1 = n)) = false
def setAll (us : List Bool) (l : List Int) : List Bool := l.foldl (fun q a => q.set a.toNat true) us
theorem setAll_len (us : List Bool) (l : List Int) : (setAll us l).length = us.length := by
 unfold setAll
 induction l generalizing us with
 | nil => rfl
 | cons a r ih => rw [List.foldl_cons, ih, List.length_set]
theorem setAll_step {us : List Bool} {l : List Int} {i : Nat} {a : Int} (h : l[i]? = some a) : setAll us (l.take (i + 1)) = (setAll us (l.take i)).set a.toNat true := by
 unfold setAll
 rw [List.take_add_one, h, List.foldl_append]; rfl
theorem built25 {u : Value} {n : Nat} (h : SV u n) (z : Int) : Try.prog.built 25 [(0, .int .i64 z), (1, u)] = some #[.int .i64 z, u, .slice none 0 0] := by
 obtain ⟨a, c, rfl, _⟩ := h
 kernel_rfl
theorem iat {w : World} {lo hi : Nat} {v : Value} {es : List Int} (h : NRd LI w lo hi v es) {i : Int} {k : Nat} {e : Int} (hik : i.toNat = k) (he : es[k]? = some e) : At w (pof v (i.toNat * 1)) [.int .i64 e] := by
 subst hik; exact h.cell (j := 0) he rfl

theorem c_place (s : Sp) (n : Int) (w : World) (lo up : Nat) (hs : s.Rd w lo up) (hri : RiseL s.ls) (hn : 0 ≤ n ∧ n ≤ 1000) : CT Try.prog 18 #[(.agg #[(.int .i64 (s.sz)), s.uv, s.lv]), (.int .i64 (n))] w fun v w' => ∃ k : Nat, v = .tuple #[.int .i64 ((k : Nat) : Int), .bool (s.ls.any fun x => decide (x.1 = n))] ∧ PosL s.ls n k ∧ Ext w w' := by
 obtain ⟨n0, hn0⟩ : ∃ n, n = w.heap.size := ⟨_, rfl⟩
 have hU : Upd (fun i => n0 ≤ i) w w := Upd.refl _ _
 have hul := hs.1.sv.len; have hll := hs.2.sv.len
 refine CT_of Try.func18 rfl rfl rfl ?_
 refine W_seq ?_
 refine W_reg ?_
 refine L_op rfl (X_box (v := (.agg #[(.int .i64 (s.sz)), s.uv, s.lv])) (c := ([(.int .i64 (s.sz)), s.uv, s.lv]).toArray) rfl rfl ?_)
 intro b1 w1 hn1
 have hbn1 := hn1.num; have hbs1 := hn1.size
 replace hs := hs.ext hn1.ext
 replace hU := hU.trans (Ext.upd hn1.ext)
 have hB1 := hn1.blk
 refine L_op rfl (X_assign (v := (.int .i64 (0))) rfl ?_)
 refine L_op rfl (X_assign (v := (.bool (false))) rfl ?_)
 refine L_nil ?_
 refine T_n ?_
 refine W_seq ?_
 refine W_reg ?_
 refine L_op rfl (X_fldP (b := b1) (o := 0) (r := 2) Fd25_2 rfl rfl ?_)
 refine L_op rfl (X_load (p := (ptr b1 (2))) (v := s.lv) T23 rfl (hB1.at1 rfl) ?_)
 refine L_op rfl (X_move (v := (.int .i64 (n))) rfl ?_)
 have hcr_ := c_bsf s.lv s.ls n w1 lo up hs.2 hri hn
 refine L_op rfl (X_fn (vs := [s.lv, (.int .i64 (n)), (.func (.func 26) #[] #[])]) en25 rfl ?_)
 refine CT.mono hcr_ ?_
 clear hcr_
 rintro _ w2 ⟨k_, rfl, hpos, hu2⟩
 have hz2 := hu2.size
 replace hs := hs.ext hu2
 replace hU := hU.trans (Ext.upd hu2)
 replace hB1 := hB1.ext hu2
 obtain ⟨gy, hgy⟩ : ∃ g, g = (s.ls.any fun x => decide (x.1 = n)) := ⟨_, rfl⟩
 rw [← hgy]
 refine L_op rfl (X_extract (l := [(.int .i64 (((k_ : Nat) : Int))), (.bool (gy))]) (v := (.int .i64 (((k_ : Nat) : Int)))) rfl rfl ?_)
 refine L_op rfl (X_extract (l := [(.int .i64 (((k_ : Nat) : Int))), (.bool (gy))]) (v := (.bool (gy))) rfl rfl ?_)
 refine L_op rfl (X_assign (v := (.int .i64 (((k_ : Nat) : Int)))) rfl ?_)
 refine L_op rfl (X_assign (v := (.bool (gy))) rfl ?_)
 refine L_nil ?_
 refine T_n ?_
 refine W_ret ?_
 exact BQ_r (End_2 Try.results18 (v1 := .int .i64 ((k_ : Nat) : Int)) (v2 := .bool gy) rfl rfl ⟨k_, by rw [hgy], hpos, hU.own hn0⟩)

theorem c_held (s : Sp) (n : Int) (w : World) (lo up : Nat) (hup : up ≤ w.heap.size) (hs : s.Rd w lo up) : CT Try.prog 17 #[(.agg #[(.int .i64 (s.sz)), s.uv, s.lv]), (.int .i64 (n))] w fun v w' => (∃ g, v = .bool g ∧ (g = true ↔ HeldS s n)) ∧ Ext w w' := by
 obtain ⟨n0, hn0⟩ : ∃ n, n = w.heap.size := ⟨_, rfl⟩
 have hU : Upd (fun i => n0 ≤ i) w w := Upd.refl _ _
 have hul := hs.1.sv.len; have hll := hs.2.sv.len
 rw [← hn0] at hup
 refine CT_of Try.func17 rfl rfl rfl ?_
 refine W_seq ?_
 refine W_reg ?_
 refine L_op rfl (X_box (v := (.agg #[(.int .i64 (s.sz)), s.uv, s.lv])) (c := ([(.int .i64 (s.sz)), s.uv, s.lv]).toArray) rfl rfl ?_)
 intro b1 w1 hn1
 have hbn1 := hn1.num; have hbs1 := hn1.size
 replace hs := hs.ext hn1.ext
 replace hU := hU.trans (Ext.upd hn1.ext)
 have hB1 := hn1.blk
 refine L_op rfl (X_assign (v := (.bool (false))) rfl ?_)
 refine L_nil ?_
 refine T_n ?_
 refine W_seq ?_
 refine W_seq ?_
 refine W_reg ?_
 refine L_op rfl (X_loadA (p := (ptr b1 (0))) (xs := [(.int .i64 (s.sz)), s.uv, s.lv]) A25 rfl hB1.atAll rfl ?_)
 have hcr_ := c_may s w1 lo up (by omega) hs
 refine L_op rfl (X_fn (vs := [(.agg ([(.int .i64 (s.sz)), s.uv, s.lv]).toArray)]) en11 rfl ?_)
 refine CT.mono hcr_ ?_
 clear hcr_
 rintro _ w2 ⟨⟨g_, rfl, hg_⟩, hu2⟩
 have hz2 := hu2.size
 replace hs := hs.ext hu2
 replace hU := hU.trans (Ext.upd hu2)
 replace hB1 := hB1.ext hu2
 rcases Bool.eq_false_or_eq_true (g_) with hc3 | hc3
 ·rw [hc3]
  have hM0 := (hg_.1 hc3).1.1
  refine L_op rfl (X_not (b := true) (r := false) rfl rfl ?_)
  refine L_op rfl (X_move (v := (.bool (false))) rfl ?_)
  refine L_gy (dj := 10) rfl rfl rfl (X_move (v := (.int .i64 (n))) rfl ?_)
  by_cases hc4 : (n : Int) < (4)
  ·refine L_gy (dj := 10) rfl rfl rfl (X_cmp (k := .i64) (a := n) (b := 4) (r := true) rfl rfl rfl (decide_eq_true (p := ((n) : Int) < ((4) : Int)) (by omega)) ?_)
   refine L_op rfl (X_pick (t := false) (v := (.bool (true))) rfl rfl ?_)
   refine L_op rfl (X_move (v := (.bool (true))) rfl ?_)
   refine L_gn (dj := 14) (t := true) rfl rfl rfl rfl ?_
   refine L_gn (dj := 14) (t := true) rfl rfl rfl rfl ?_
   refine L_gn (dj := 14) (t := true) rfl rfl rfl rfl ?_
   refine L_gn (dj := 14) (t := true) rfl rfl rfl rfl ?_
   refine L_op rfl (X_pick (t := true) (v := (.bool (true))) rfl rfl ?_)
   refine L_op rfl (X_move (v := (.bool (true))) rfl ?_)
   refine L_gn (dj := 20) (t := true) rfl rfl rfl rfl ?_
   refine L_gn (dj := 20) (t := true) rfl rfl rfl rfl ?_
   refine L_gn (dj := 20) (t := true) rfl rfl rfl rfl ?_
   refine L_gn (dj := 20) (t := true) rfl rfl rfl rfl ?_
   refine L_gn (dj := 20) (t := true) rfl rfl rfl rfl ?_
   refine L_gn (dj := 20) (t := true) rfl rfl rfl rfl ?_
   refine L_op rfl (X_pick (t := true) (v := (.bool (true))) rfl rfl ?_)
   refine L_nil ?_
   refine T_n ?_
   refine W_ct rfl ?_
   refine W_seq ?_
   refine W_reg ?_
   refine L_op rfl (X_assign (v := (.bool (false))) rfl ?_)
   refine L_nil ?_
   refine T_n ?_
   refine W_ret ?_
   refine T_r ?_
   exact BQ_r (End_1 Try.results17 (v := .bool false) rfl ⟨⟨false, rfl, ⟨fun h_ => (by cases h_), fun h_ => (by have h2_ := h_.2.1; omega)⟩⟩, hU.own hn0⟩)
  ·refine L_gy (dj := 10) rfl rfl rfl (X_cmp (k := .i64) (a := n) (b := 4) (r := false) rfl rfl rfl (decide_eq_false (p := ((n) : Int) < ((4) : Int)) (by omega)) ?_)
   refine L_op rfl (X_pick (t := false) (v := (.bool (false))) rfl rfl ?_)
   refine L_op rfl (X_move (v := (.bool (false))) rfl ?_)
   refine L_gy (dj := 14) rfl rfl rfl (X_move (v := (.int .i64 (n))) rfl ?_)
   refine L_gy (dj := 14) rfl rfl rfl (X_fldP (b := b1) (o := 0) (r := 0) Fd25_0 rfl rfl ?_)
   refine L_gy (dj := 14) rfl rfl rfl (X_load (p := (ptr b1 (0))) (v := (.int .i64 (s.sz))) T3 rfl (hB1.at1 rfl) ?_)
   by_cases hc5 : (n : Int) ≥ (s.sz)
   ·refine L_gy (dj := 14) rfl rfl rfl (X_cmp (k := .i64) (a := n) (b := s.sz) (r := true) rfl rfl rfl (decide_eq_true (p := ((s.sz) : Int) ≤ ((n) : Int)) (by omega)) ?_)
    refine L_op rfl (X_pick (t := false) (v := (.bool (true))) rfl rfl ?_)
    refine L_op rfl (X_move (v := (.bool (true))) rfl ?_)
    refine L_gn (dj := 20) (t := true) rfl rfl rfl rfl ?_
    refine L_gn (dj := 20) (t := true) rfl rfl rfl rfl ?_
    refine L_gn (dj := 20) (t := true) rfl rfl rfl rfl ?_
    refine L_gn (dj := 20) (t := true) rfl rfl rfl rfl ?_
    refine L_gn (dj := 20) (t := true) rfl rfl rfl rfl ?_
    refine L_gn (dj := 20) (t := true) rfl rfl rfl rfl ?_
    refine L_op rfl (X_pick (t := true) (v := (.bool (true))) rfl rfl ?_)
    refine L_nil ?_
    refine T_n ?_
    refine W_ct rfl ?_
    refine W_seq ?_
    refine W_reg ?_
    refine L_op rfl (X_assign (v := (.bool (false))) rfl ?_)
    refine L_nil ?_
    refine T_n ?_
    refine W_ret ?_
    refine T_r ?_
    exact BQ_r (End_1 Try.results17 (v := .bool false) rfl ⟨⟨false, rfl, ⟨fun h_ => (by cases h_), fun h_ => (by have h2_ := h_.2.2.1; omega)⟩⟩, hU.own hn0⟩)
   ·refine L_gy (dj := 14) rfl rfl rfl (X_cmp (k := .i64) (a := n) (b := s.sz) (r := false) rfl rfl rfl (decide_eq_false (p := ((s.sz) : Int) ≤ ((n) : Int)) (by omega)) ?_)
    refine L_op rfl (X_pick (t := false) (v := (.bool (false))) rfl rfl ?_)
    refine L_op rfl (X_move (v := (.bool (false))) rfl ?_)
    refine L_gy (dj := 20) rfl rfl rfl (X_fldP (b := b1) (o := 0) (r := 1) Fd25_1 rfl rfl ?_)
    refine L_gy (dj := 20) rfl rfl rfl (X_load (p := (ptr b1 (1))) (v := s.uv) T22 rfl (hB1.at1 rfl) ?_)
    refine L_gy (dj := 20) rfl rfl rfl (X_move (v := (.int .i64 (n))) rfl ?_)
    refine L_gy (dj := 20) rfl rfl rfl (X_idx (v := s.uv) (n := s.us.length) (k := .i64) (i := n) S22 rfl hs.1.sv rfl (by omega) (by omega) ?_)
    obtain ⟨bn, hbn⟩ : ∃ b, s.us[n.toNat]? = some b := ⟨_, List.getElem?_eq_getElem (by omega)⟩
    rcases Bool.eq_false_or_eq_true bn with rfl | rfl
    ·refine L_gy (dj := 20) rfl rfl rfl (X_load (p := (pof s.uv ((n : Int).toNat * 1))) (v := .bool true) T4 rfl (bat hs.1 rfl hbn) ?_)
     refine L_gy (dj := 20) rfl rfl rfl (X_not (b := true) (r := false) rfl rfl ?_)
     refine L_op rfl (X_pick (t := false) (v := (.bool (false))) rfl rfl ?_)
     refine L_nil ?_
     refine T_n ?_
     refine W_cf rfl ?_
     refine W_skip ?_
     refine T_n ?_
     refine W_seq ?_
     refine W_reg ?_
     refine L_op rfl (X_loadA (p := (ptr b1 (0))) (xs := [(.int .i64 (s.sz)), s.uv, s.lv]) A25 rfl hB1.atAll rfl ?_)
     refine L_op rfl (X_move (v := (.int .i64 (n))) rfl ?_)
     have hM := hg_.1 hc3
     have hcr_ := c_place s n w2 lo up hs (may_rise hM) (by have := hM.1.1; omega)
     refine L_op rfl (X_fn (vs := [(.agg ([(.int .i64 (s.sz)), s.uv, s.lv]).toArray), (.int .i64 (n))]) en18 rfl ?_)
     refine CT.mono hcr_ ?_
     clear hcr_
     rintro _ w6 ⟨k_, rfl, hpos, hu6⟩
     have hz6 := hu6.size
     replace hs := hs.ext hu6
     replace hU := hU.trans (Ext.upd hu6)
     replace hB1 := hB1.ext hu6
     obtain ⟨gy, hgy⟩ : ∃ g, g = (s.ls.any fun x => decide (x.1 = n)) := ⟨_, rfl⟩
     rw [← hgy]
     rcases Bool.eq_false_or_eq_true gy with hy_ | hy_
     ·rw [hy_]
      rw [hy_] at hgy
      refine L_op rfl (X_move (v := (.tuple #[(.int .i64 (((k_ : Nat) : Int))), (.bool (true))])) rfl ?_)
      refine L_op rfl (X_extract (l := [(.int .i64 (((k_ : Nat) : Int))), (.bool (true))]) (v := (.int .i64 (((k_ : Nat) : Int)))) rfl rfl ?_)
      refine L_op rfl (X_extract (l := [(.int .i64 (((k_ : Nat) : Int))), (.bool (true))]) (v := (.bool (true))) rfl rfl ?_)
      refine L_op rfl (X_assign (v := (.int .i64 (((k_ : Nat) : Int)))) rfl ?_)
      refine L_op rfl (X_assign (v := (.bool (true))) rfl ?_)
      refine L_nil ?_
      refine T_n ?_
      refine W_seq ?_
      refine W_reg ?_
      refine L_op rfl (X_move (v := (.bool (true))) rfl ?_)
      refine L_op rfl (X_not (b := true) (r := false) rfl rfl ?_)
      refine L_op rfl (X_assign (v := (.bool (false))) rfl ?_)
      refine L_nil ?_
      refine T_n ?_
      refine W_ret ?_
      exact BQ_r (End_1 Try.results17 (v := .bool false) rfl ⟨⟨false, rfl, ⟨fun h_ => (by cases h_), fun h_ => (by rw [h_.2.2.2.2] at hgy; cases hgy)⟩⟩, hU.own hn0⟩)
     ·rw [hy_]
      rw [hy_] at hgy
      refine L_op rfl (X_move (v := (.tuple #[(.int .i64 (((k_ : Nat) : Int))), (.bool (false))])) rfl ?_)
      refine L_op rfl (X_extract (l := [(.int .i64 (((k_ : Nat) : Int))), (.bool (false))]) (v := (.int .i64 (((k_ : Nat) : Int)))) rfl rfl ?_)
      refine L_op rfl (X_extract (l := [(.int .i64 (((k_ : Nat) : Int))), (.bool (false))]) (v := (.bool (false))) rfl rfl ?_)
      refine L_op rfl (X_assign (v := (.int .i64 (((k_ : Nat) : Int)))) rfl ?_)
      refine L_op rfl (X_assign (v := (.bool (false))) rfl ?_)
      refine L_nil ?_
      refine T_n ?_
      refine W_seq ?_
      refine W_reg ?_
      refine L_op rfl (X_move (v := (.bool (false))) rfl ?_)
      refine L_op rfl (X_not (b := false) (r := true) rfl rfl ?_)
      refine L_op rfl (X_assign (v := (.bool (true))) rfl ?_)
      refine L_nil ?_
      refine T_n ?_
      refine W_ret ?_
      exact BQ_r (End_1 Try.results17 (v := .bool true) rfl ⟨⟨true, rfl, ⟨fun _ => ⟨hM, by omega, by omega, hbn, hgy.symm⟩, fun _ => rfl⟩⟩, hU.own hn0⟩)
    ·refine L_gy (dj := 20) rfl rfl rfl (X_load (p := (pof s.uv ((n : Int).toNat * 1))) (v := .bool false) T4 rfl (bat hs.1 rfl hbn) ?_)
     refine L_gy (dj := 20) rfl rfl rfl (X_not (b := false) (r := true) rfl rfl ?_)
     refine L_op rfl (X_pick (t := false) (v := (.bool (true))) rfl rfl ?_)
     refine L_nil ?_
     refine T_n ?_
     refine W_ct rfl ?_
     refine W_seq ?_
     refine W_reg ?_
     refine L_op rfl (X_assign (v := (.bool (false))) rfl ?_)
     refine L_nil ?_
     refine T_n ?_
     refine W_ret ?_
     refine T_r ?_
     exact BQ_r (End_1 Try.results17 (v := .bool false) rfl ⟨⟨false, rfl, ⟨fun h_ => (by cases h_), fun h_ => (by have h2_ := h_.2.2.2.1; rw [hbn] at h2_; cases h2_)⟩⟩, hU.own hn0⟩)
 ·rw [hc3]
  refine L_op rfl (X_not (b := false) (r := true) rfl rfl ?_)
  refine L_op rfl (X_move (v := (.bool (true))) rfl ?_)
  refine L_gn (dj := 10) (t := true) rfl rfl rfl rfl ?_
  refine L_gn (dj := 10) (t := true) rfl rfl rfl rfl ?_
  refine L_op rfl (X_pick (t := true) (v := (.bool (true))) rfl rfl ?_)
  refine L_op rfl (X_move (v := (.bool (true))) rfl ?_)
  refine L_gn (dj := 14) (t := true) rfl rfl rfl rfl ?_
  refine L_gn (dj := 14) (t := true) rfl rfl rfl rfl ?_
  refine L_gn (dj := 14) (t := true) rfl rfl rfl rfl ?_
  refine L_gn (dj := 14) (t := true) rfl rfl rfl rfl ?_
  refine L_op rfl (X_pick (t := true) (v := (.bool (true))) rfl rfl ?_)
  refine L_op rfl (X_move (v := (.bool (true))) rfl ?_)
  refine L_gn (dj := 20) (t := true) rfl rfl rfl rfl ?_
  refine L_gn (dj := 20) (t := true) rfl rfl rfl rfl ?_
  refine L_gn (dj := 20) (t := true) rfl rfl rfl rfl ?_
  refine L_gn (dj := 20) (t := true) rfl rfl rfl rfl ?_
  refine L_gn (dj := 20) (t := true) rfl rfl rfl rfl ?_
  refine L_gn (dj := 20) (t := true) rfl rfl rfl rfl ?_
  refine L_op rfl (X_pick (t := true) (v := (.bool (true))) rfl rfl ?_)
  refine L_nil ?_
  refine T_n ?_
  refine W_ct rfl ?_
  refine W_seq ?_
  refine W_reg ?_
  refine L_op rfl (X_assign (v := (.bool (false))) rfl ?_)
  refine L_nil ?_
  refine T_n ?_
  refine W_ret ?_
  refine T_r ?_
  exact BQ_r (End_1 Try.results17 (v := .bool false) rfl ⟨⟨false, rfl, ⟨fun h_ => (by cases h_), fun h_ => (by have h2_ := hg_.2 h_.1; rw [hc3] at h2_; cases h2_)⟩⟩, hU.own hn0⟩)

theorem lit_rd {w : World} {b : Nat} {x : La} {t : TypeId} (h : Blk w b #[.int .i64 x.1, .int .u32 x.2] t) : Rd w 2 (.slice (some ⟨b, 0, none⟩) 1 1) 1 (LL.cel x) := h.rd (o := 0) (n := 1) (c := 1) (sz := 2) (by decide) (by decide) rfl (fun j u hj => by rw [Nat.zero_add]; simpa [LL] using hj)

theorem c_insertE (u : Value) (ls : List La) (x : La) (bx : Nat) (w : World) (lo up : Nat) (hlo : lo ≤ w.heap.size) (hlen : ls.length ≤ 100000) (hN : NOwn LL w 44 5 lo up u ls) (hx : Blk w bx #[.int .i64 x.1, .int .u32 x.2] 44) : CT Try.prog 19 #[u, (.int .i64 (((ls.length : Nat) : Int))), (.slice (some ⟨bx, 0, none⟩) 1 1)] w fun v w' => NOwn LL w' 44 5 lo w'.heap.size v (ls ++ [x]) ∧ Upd (fun b => obk u = some b) w w' := by
 have hxs := (lit_rd hx).sv
 have hmx := hN.1.sv.len
 refine CT_of Try.func19 rfl rfl rfl ?_
 refine W_seq ?_
 refine W_reg ?_
 refine L_op rfl (X_assign (v := (.slice none 0 0)) rfl ?_)
 refine L_nil ?_
 refine T_n ?_
 refine W_seq ?_
 refine W_reg ?_
 refine L_op rfl (X_move (v := u) rfl ?_)
 refine L_op rfl (X_move (v := (.int .i64 (((ls.length : Nat) : Int)))) rfl ?_)
 refine L_op rfl (X_slice (n := ls.length) (l := ls.length) (h' := ls.length) (kl := .i64) (kh := .i64) S23 rfl hN.1.sv rfl rfl (by omega) (by omega) ?_)
 refine L_nil ?_
 refine T_n ?_
 refine W_seq ?_
 refine W_reg ?_
 refine L_op rfl (X_move (v := (.slice (some ⟨bx, 0, none⟩) 1 1)) rfl ?_)
 refine L_op rfl (X_len (v := (.slice (some ⟨bx, 0, none⟩) 1 1)) (n := 1) Try.underlying23 rfl hxs ?_)
 refine L_op rfl (X_assign (v := (.int .i64 (1))) rfl ?_)
 refine L_nil ?_
 refine T_n ?_
 refine W_seq ?_
 refine W_seq ?_
 refine W_reg ?_
 refine L_op rfl (X_move (v := (.int .i64 (1))) rfl ?_)
 refine L_op rfl (X_cmp (k := .i64) (a := 1) (b := 0) (r := false) rfl rfl rfl rfl ?_)
 refine L_nil ?_
 refine T_n ?_
 refine W_cf rfl ?_
 refine W_skip ?_
 refine T_n ?_
 refine W_seq ?_
 refine W_reg ?_
 refine L_op rfl (X_move (v := u) rfl ?_)
 refine L_op rfl (X_len (v := u) (n := ls.length) Try.underlying23 rfl hN.1.sv ?_)
 refine L_op rfl (X_assign (v := (.int .i64 (((ls.length : Nat) : Int)))) rfl ?_)
 refine L_nil ?_
 refine T_n ?_
 refine W_seq ?_
 refine W_seq ?_
 refine W_reg ?_
 refine L_op rfl (X_move (v := (.int .i64 (((ls.length : Nat) : Int)))) rfl ?_)
 refine L_op rfl (X_move (v := (.int .i64 (((ls.length : Nat) : Int)))) rfl ?_)
 refine L_op rfl (X_cmp (k := .i64) (a := ((ls.length : Nat) : Int)) (b := ((ls.length : Nat) : Int)) (r := true) rfl rfl rfl (decide_eq_true rfl) ?_)
 refine L_nil ?_
 refine T_n ?_
 refine W_ct rfl ?_
 refine W_seq ?_
 refine W_reg ?_
 refine L_op rfl (X_move (v := u) rfl ?_)
 refine L_op rfl (X_move (v := (.slice (some ⟨bx, 0, none⟩) 1 1)) rfl ?_)
 refine L_op rfl (X_append (B := lo) (n := ls.length) (s := u) (x := .slice (some ⟨bx, 0, none⟩) 1 1) S23 ⟨_, Try.underlying23⟩ rfl rfl hN.1 (m := 1) (ys := LL.cel x) (lit_rd hx) (LL.one x (fun _ h => by cases h)) (by unfold maxLen; omega) (by omega) (by omega) ?_)
 intro v5 w5 hO5 hu5 _
 have hz5 := hu5.size
 have hN5 : NOwn LL w5 44 5 lo w5.heap.size v5 (ls ++ [x]) := NOwn.of (fun _ => rfl) (hO5.eq (by rw [List.length_append]; rfl) (by rw [List.flatMap_append]; simp)) fun b hb => (hO5.lt hb).2
 refine L_op rfl (X_assign (v := v5) rfl ?_)
 refine L_nil ?_
 refine T_n ?_
 refine W_ret ?_
 refine T_r ?_
 exact BQ_r (End_1 Try.results19 (v := v5) rfl ⟨hN5, hu5⟩)

theorem c_new (n : Int) (dv : Value) (ds : List Int) (w : World) (lo up : Nat) (hup : up ≤ w.heap.size) (hd : NRd LI w lo up dv ds) (hdl : ds.length ≤ 100000) : CT Try.prog 14 #[(.int .i64 (n)), dv] w fun v w' => ((n < 32 ∨ 256 < n ∨ ∃ a ∈ ds, ¬ (0 ≤ a ∧ a < n)) → v = .tuple #[.agg #[.int .i64 0, .slice none 0 0, .slice none 0 0], .int .i64 2]) ∧ ((32 ≤ n ∧ n ≤ 256 ∧ ∀ a ∈ ds, 0 ≤ a ∧ a < n) → ∃ u2, v = .tuple #[.agg #[.int .i64 n, u2, .slice none 0 0], .int .i64 0] ∧ NOwn LBo w' 4 5 w.heap.size w'.heap.size u2 (setAll (List.replicate n.toNat false) ([0, 1, 2, 3] ++ ds))) ∧ Ext w w' := by
 obtain ⟨n0, hn0⟩ : ∃ n, n = w.heap.size := ⟨_, rfl⟩
 have hU : Upd (fun i => n0 ≤ i) w w := Upd.refl _ _
 rw [← hn0] at hup
 have hdm := hd.sv.len
 refine CT_of Try.func14 rfl rfl rfl ?_
 refine W_seq ?_
 refine W_reg ?_
 refine L_op rfl (X_alloc (z := (.agg #[(.int .i64 (0)), (.slice none 0 0), (.slice none 0 0)])) (c := #[(.int .i64 (0)), (.slice none 0 0), (.slice none 0 0)]) Zv25 rfl ?_)
 intro b1 w1 hn1
 have hbn1 := hn1.num; have hbs1 := hn1.size
 replace hd := hd.ext hn1.ext
 replace hU := hU.trans (Ext.upd hn1.ext)
 have hB1 := hn1.blk
 refine L_op rfl (X_assign (v := (.int .i64 (0))) rfl ?_)
 refine L_nil ?_
 refine T_n ?_
 refine W_seq ?_
 refine W_seq ?_
 refine W_reg ?_
 refine L_op rfl (X_move (v := (.int .i64 (n))) rfl ?_)
 by_cases hc2 : (n : Int) < (32)
 ·refine L_op rfl (X_cmp (k := .i64) (a := n) (b := 32) (r := true) rfl rfl rfl (decide_eq_true (p := ((n) : Int) < ((32) : Int)) (by omega)) ?_)
  refine L_op rfl (X_move (v := (.bool (true))) rfl ?_)
  refine L_gn (dj := 11) (t := true) rfl rfl rfl rfl ?_
  refine L_gn (dj := 11) (t := true) rfl rfl rfl rfl ?_
  refine L_op rfl (X_pick (t := true) (v := (.bool (true))) rfl rfl ?_)
  refine L_nil ?_
  refine T_n ?_
  refine W_ct rfl ?_
  refine W_seq ?_
  refine W_reg ?_
  refine L_op rfl (X_loadA (p := (ptr b1 (0))) (xs := [(.int .i64 (0)), (.slice none 0 0), (.slice none 0 0)]) A25 rfl hB1.atAll rfl ?_)
  refine L_op0 (X_storeW (b := b1) (ys := [(.int .i64 (0)), (.slice none 0 0), (.slice none 0 0)]) A25 rfl rfl (List.forall_mem_cons.2 ⟨rfl, (List.forall_mem_cons.2 ⟨rfl, (List.forall_mem_cons.2 ⟨rfl, (fun _ h => by cases h)⟩)⟩)⟩) rfl hB1 rfl ?_)
  intro w3 hu3 hb3
  have hz3 := hu3.size
  replace hd := hd.upd hu3 fun i h1 h2 h => by have h : i = b1 := h; omega
  replace hU := hU.trans (hu3.mono fun i _ h => by have h : i = b1 := h; show n0 ≤ i; omega)
  replace hB1 : Blk w3 b1 #[(.int .i64 (0)), (.slice none 0 0), (.slice none 0 0)] 25 := hb3
  refine L_op rfl (X_assign (v := (.int .i64 (2))) rfl ?_)
  refine L_nil ?_
  refine T_n ?_
  refine W_ret ?_
  refine T_r ?_
  exact BQ_r (End_2 Try.results14 (RV_A A25 rfl hB1.atAll rfl) (v2 := .int .i64 2) rfl ⟨fun _ => rfl, fun h_ => by omega, hU.own hn0⟩)
 ·refine L_op rfl (X_cmp (k := .i64) (a := n) (b := 32) (r := false) rfl rfl rfl (decide_eq_false (p := ((n) : Int) < ((32) : Int)) (by omega)) ?_)
  refine L_op rfl (X_move (v := (.bool (false))) rfl ?_)
  refine L_gy (dj := 11) rfl rfl rfl (X_move (v := (.int .i64 (n))) rfl ?_)
  by_cases hc4 : (n : Int) > (256)
  ·refine L_gy (dj := 11) rfl rfl rfl (X_cmp (k := .i64) (a := n) (b := 256) (r := true) rfl rfl rfl (decide_eq_true (p := ((256) : Int) < ((n) : Int)) (by omega)) ?_)
   refine L_op rfl (X_pick (t := false) (v := (.bool (true))) rfl rfl ?_)
   refine L_nil ?_
   refine T_n ?_
   refine W_ct rfl ?_
   refine W_seq ?_
   refine W_reg ?_
   refine L_op rfl (X_loadA (p := (ptr b1 (0))) (xs := [(.int .i64 (0)), (.slice none 0 0), (.slice none 0 0)]) A25 rfl hB1.atAll rfl ?_)
   refine L_op0 (X_storeW (b := b1) (ys := [(.int .i64 (0)), (.slice none 0 0), (.slice none 0 0)]) A25 rfl rfl (List.forall_mem_cons.2 ⟨rfl, (List.forall_mem_cons.2 ⟨rfl, (List.forall_mem_cons.2 ⟨rfl, (fun _ h => by cases h)⟩)⟩)⟩) rfl hB1 rfl ?_)
   intro w5 hu5 hb5
   have hz5 := hu5.size
   replace hd := hd.upd hu5 fun i h1 h2 h => by have h : i = b1 := h; omega
   replace hU := hU.trans (hu5.mono fun i _ h => by have h : i = b1 := h; show n0 ≤ i; omega)
   replace hB1 : Blk w5 b1 #[(.int .i64 (0)), (.slice none 0 0), (.slice none 0 0)] 25 := hb5
   refine L_op rfl (X_assign (v := (.int .i64 (2))) rfl ?_)
   refine L_nil ?_
   refine T_n ?_
   refine W_ret ?_
   refine T_r ?_
   exact BQ_r (End_2 Try.results14 (RV_A A25 rfl hB1.atAll rfl) (v2 := .int .i64 2) rfl ⟨fun _ => rfl, fun h_ => by omega, hU.own hn0⟩)
  ·refine L_gy (dj := 11) rfl rfl rfl (X_cmp (k := .i64) (a := n) (b := 256) (r := false) rfl rfl rfl (decide_eq_false (p := ((256) : Int) < ((n) : Int)) (by omega)) ?_)
   refine L_op rfl (X_pick (t := false) (v := (.bool (false))) rfl rfl ?_)
   refine L_nil ?_
   refine T_n ?_
   refine W_cf rfl ?_
   refine W_skip ?_
   refine T_n ?_
   refine W_seq ?_
   refine W_reg ?_
   refine L_op rfl (X_move (v := (.int .i64 (n))) rfl ?_)
   obtain ⟨s_m, hs_m⟩ : ∃ n, n = w1.heap.size := ⟨_, rfl⟩
   obtain ⟨m, hm⟩ : ∃ m : Nat, n = ((m : Nat) : Int) := ⟨n.toNat, by omega⟩
   subst hm
   refine L_op rfl (X_makeSliceL (n := m) LBo false S22 rfl rfl rfl (by omega) (by omega) (by decide) ?_)
   intro bm wm hnm
   have hbnm := hnm.num; have hbsm := hnm.size
   replace hd := hd.ext hnm.ext
   replace hU := hU.trans (Ext.upd hnm.ext)
   replace hB1 := hB1.ext hnm.ext
   have hBm := hnm.blk
   have hmM : ((List.replicate m false).flatMap LBo.cel).length = m * 1 := by rw [flat_len, List.length_replicate]; rfl
   have hM : Own wm s_m 4 1 (.slice (some ⟨bm, 0, none⟩) m m) m ((List.replicate m false).flatMap LBo.cel) := ⟨hmM, _, _, rfl, Nat.le_refl _, by unfold maxLen; omega, .inr ⟨bm, _, rfl, by omega, hBm, by rw [List.size_toArray, hmM]; exact Nat.le_refl _, by rw [List.take_of_length_le (Nat.le_of_eq hmM)]⟩⟩
   have hA : NOwn LBo wm 4 5 s_m wm.heap.size (.slice (some ⟨bm, 0, none⟩) m m) (List.replicate m false) := NOwn.of (fun _ => rfl) (hM.eq (by rw [List.length_replicate]) rfl) (fun b hb => (hM.lt hb).2)
   obtain ⟨u_m, hum⟩ : ∃ n, n = wm.heap.size := ⟨_, rfl⟩
   rw [← hum] at hA
   refine L_op rfl (X_assign (v := (.slice (some ⟨bm, 0, none⟩) m m)) rfl ?_)
   refine L_nil ?_
   refine T_n ?_
   refine W_seq ?_
   refine W_seq ?_
   obtain ⟨s_4, hs_4⟩ : ∃ n, n = wm.heap.size := ⟨_, rfl⟩
   refine W_reg ?_
   refine L_op rfl (X_buildSlice1 (vs := [(.int .i64 (0)), (.int .i64 (1)), (.int .i64 (2)), (.int .i64 (3))]) S37 (by decide) rfl rfl (List.forall_mem_cons.2 ⟨rfl, (List.forall_mem_cons.2 ⟨rfl, (List.forall_mem_cons.2 ⟨rfl, (List.forall_mem_cons.2 ⟨rfl, (fun _ h => by cases h)⟩)⟩)⟩)⟩) ?_)
   intro b6 w6 hn6
   have hbn6 := hn6.num; have hbs6 := hn6.size
   replace hd := hd.ext hn6.ext
   replace hU := hU.trans (Ext.upd hn6.ext)
   replace hB1 := hB1.ext hn6.ext
   replace hA := hA.ext hn6.ext
   have hB6 := hn6.blk
   refine L_op rfl (X_move (v := dv) rfl ?_)
   have hO4 : Own w6 s_4 3 1 (.slice (some ⟨b6, 0, none⟩) 4 4) 4 ([(0 : Int), 1, 2, 3].flatMap LI.cel) := hB6.own (B := s_4) (n := 4) (c := 4) (sz := 1) (by omega) (Nat.le_refl _) (by decide) (Nat.le_refl 4)
   refine L_op rfl (X_append (B := s_4) (n := 4) (s := (.slice (some ⟨b6, 0, none⟩) 4 4)) (x := dv) S37 ⟨_, Try.underlying37⟩ rfl rfl hO4 hd.1 (NRd.sub_one hd) (by unfold maxLen; omega) (by omega) (by omega) ?_)
   intro v5 w5 hO5 hu5 _
   have hz5 := hu5.size
   have hL : NOwn LI w5 3 5 s_4 w5.heap.size v5 ([0, 1, 2, 3] ++ ds) := NOwn.of (fun _ => rfl) (hO5.eq (by rw [List.length_append]; show 4 + ds.length = [(0 : Int), 1, 2, 3].length + ds.length; rfl) (by rw [List.flatMap_append])) fun b hb => (hO5.lt hb).2
   replace hd := hd.upd hu5 fun i h1 h2 h => by have h := hO4.lt h; omega
   replace hU := hU.trans (hu5.mono fun i _ h => by have h := hO4.lt h; show n0 ≤ i; omega)
   replace hB1 := hB1.upd hu5 fun h => by have h := hO4.lt h; omega
   replace hA := hA.upd hu5 fun i h1 h2 h => by have h := hO4.lt h; omega
   obtain ⟨u_5, hu5_⟩ : ∃ n, n = w5.heap.size := ⟨_, rfl⟩
   rw [← hu5_] at hL
   obtain ⟨l4, hl4⟩ : ∃ l, l = ([0, 1, 2, 3] ++ ds : List Int) := ⟨_, rfl⟩
   rw [← hl4] at hL
   have hl4n : l4.length = 4 + ds.length := by rw [hl4, List.length_append]; rfl
   refine L_op rfl (X_len (v := v5) (n := l4.length) Try.underlying37 rfl hL.1.sv ?_)
   refine L_op rfl (X_move (v := (.int .i64 (0))) rfl ?_)
   refine L_nil ?_
   refine T_n ?_
   refine W_block ?_
   have hb4l := hB1.lt
   refine W_loop (α := Nat × List Bool) [5, 8, 22, 23, 24, 25, 26, 27, 28, 29, 30, 31, 32, 33, 34, 35, 36, 37] (fun ⟨i, xs⟩ => [(22, (.int .i64 (((i : Nat) : Int))))]) (fun ⟨i, xs⟩ w_ => i ≤ l4.length ∧ xs = setAll (List.replicate m false) (l4.take i) ∧ (∀ (j : Nat) (a : Int), j < i → l4[j]? = some a → 0 ≤ a ∧ a < (m : Int)) ∧ NOwn LBo w_ 4 5 s_m u_m (.slice (some ⟨bm, 0, none⟩) m m) xs ∧ NOwn LI w_ 3 5 s_4 u_5 v5 l4 ∧ Blk w_ b1 #[.int .i64 0, .slice none 0 0, .slice none 0 0] 25 ∧ Upd (fun i => n0 ≤ i) w w_ ∧ u_5 ≤ w_.heap.size) (fun ⟨i, xs⟩ => l4.length - i) ⟨rfl, (0, List.replicate m false), ⟨Nat.zero_le _, rfl, fun j _ h => absurd h (Nat.not_lt_zero j), hA, hL, hB1, hU, by omega⟩, Out.refl _ _, ⟨rfl, trivial⟩⟩ ?_
   rintro ⟨i, xs⟩ w7 _ ⟨hil, hxs, hrg, hA, hL, hB1, hU, hu5w⟩
   have hsz_ := hU.size
   have hb4l := hB1.lt
   have hxn : xs.length = m := by rw [hxs, setAll_len, List.length_replicate]
   have hMs := hA.1.sv
   refine W_seq ?_
   refine W_reg ?_
   by_cases hc8 : (((i : Nat) : Int) : Int) < (((l4.length : Nat) : Int))
   ·refine L_op rfl (X_cmp (k := .i64) (a := ((i : Nat) : Int)) (b := ((l4.length : Nat) : Int)) (r := true) rfl rfl rfl (decide_eq_true (p := ((((i : Nat) : Int)) : Int) < ((((l4.length : Nat) : Int)) : Int)) (by omega)) ?_)
    refine L_nil ?_
    refine T_n ?_
    refine W_seq ?_
    refine W_ct rfl ?_
    refine W_skip ?_
    refine T_n ?_
    refine W_seq ?_
    refine W_block ?_
    refine W_seq ?_
    refine W_reg ?_
    refine L_op rfl (X_idx (v := v5) (n := l4.length) (k := .i64) (i := ((i : Nat) : Int)) S37 rfl hL.1.sv rfl (by omega) (by omega) ?_)
    obtain ⟨a, ha⟩ : ∃ a, l4[i]? = some a := ⟨_, List.getElem?_eq_getElem (by omega)⟩
    refine L_op rfl (X_load (p := (pof v5 ((((i : Nat) : Int) : Int).toNat * 1))) (v := .int .i64 a) T3 rfl (iat hL.rd (Int.toNat_natCast _) ha) ?_)
    refine L_op rfl (X_assign (v := (.int .i64 (a))) rfl ?_)
    refine L_nil ?_
    refine T_n ?_
    refine W_seq ?_
    refine W_seq ?_
    refine W_reg ?_
    refine L_op rfl (X_move (v := (.int .i64 (a))) rfl ?_)
    by_cases hc9 : (a : Int) < (0)
    ·refine L_op rfl (X_cmp (k := .i64) (a := a) (b := 0) (r := true) rfl rfl rfl (decide_eq_true (p := ((a) : Int) < ((0) : Int)) (by omega)) ?_)
     refine L_op rfl (X_move (v := (.bool (true))) rfl ?_)
     refine L_gn (dj := 28) (t := true) rfl rfl rfl rfl ?_
     refine L_gn (dj := 28) (t := true) rfl rfl rfl rfl ?_
     refine L_gn (dj := 28) (t := true) rfl rfl rfl rfl ?_
     refine L_op rfl (X_pick (t := true) (v := (.bool (true))) rfl rfl ?_)
     refine L_nil ?_
     refine T_n ?_
     refine W_ct rfl ?_
     refine W_seq ?_
     refine W_reg ?_
     refine L_op rfl (X_loadA (p := (ptr b1 (0))) (xs := [(.int .i64 (0)), (.slice none 0 0), (.slice none 0 0)]) A25 rfl hB1.atAll rfl ?_)
     refine L_op0 (X_storeW (b := b1) (ys := [(.int .i64 (0)), (.slice none 0 0), (.slice none 0 0)]) A25 rfl rfl (List.forall_mem_cons.2 ⟨rfl, (List.forall_mem_cons.2 ⟨rfl, (List.forall_mem_cons.2 ⟨rfl, (fun _ h => by cases h)⟩)⟩)⟩) rfl hB1 rfl ?_)
     intro w10 hu10 hb10
     have hz10 := hu10.size
     replace hA := hA.upd hu10 fun i h1 h2 h => by have h : i = b1 := h; omega
     replace hL := hL.upd hu10 fun i h1 h2 h => by have h : i = b1 := h; omega
     replace hU := hU.trans (hu10.mono fun i _ h => by have h : i = b1 := h; show n0 ≤ i; omega)
     replace hB1 : Blk w10 b1 #[(.int .i64 (0)), (.slice none 0 0), (.slice none 0 0)] 25 := hb10
     refine L_op rfl (X_assign (v := (.int .i64 (2))) rfl ?_)
     refine L_nil ?_
     refine T_n ?_
     refine W_ret ?_
     refine T_r ?_
     refine B_r ?_
     refine T_r ?_
     refine T_r ?_
     refine B_r ?_
     refine T_r ?_
     have hbad : ¬ ∀ a ∈ ds, 0 ≤ a ∧ a < ((m : Nat) : Int) := fun h_ => by have h2_ := List.mem_of_getElem? ha; rw [hl4] at h2_; simp only [List.mem_append, List.mem_cons, List.not_mem_nil, or_false] at h2_; rcases h2_ with (h2_ | h2_ | h2_ | h2_) | h2_ <;> first | omega | (have := h_ a h2_; omega)
     exact BQ_r (End_2 Try.results14 (RV_A A25 rfl hB1.atAll rfl) (v2 := .int .i64 2) rfl ⟨fun _ => rfl, fun h_ => absurd h_.2.2 hbad, hU.own hn0⟩)
    ·refine L_op rfl (X_cmp (k := .i64) (a := a) (b := 0) (r := false) rfl rfl rfl (decide_eq_false (p := ((a) : Int) < ((0) : Int)) (by omega)) ?_)
     refine L_op rfl (X_move (v := (.bool (false))) rfl ?_)
     refine L_gy (dj := 28) rfl rfl rfl (X_move (v := (.int .i64 (a))) rfl ?_)
     refine L_gy (dj := 28) rfl rfl rfl (X_move (v := (.int .i64 (((m : Nat) : Int)))) rfl ?_)
     by_cases hc11 : (a : Int) ≥ (((m : Nat) : Int))
     ·refine L_gy (dj := 28) rfl rfl rfl (X_cmp (k := .i64) (a := a) (b := ((m : Nat) : Int)) (r := true) rfl rfl rfl (decide_eq_true (p := ((((m : Nat) : Int)) : Int) ≤ ((a) : Int)) (by omega)) ?_)
      refine L_op rfl (X_pick (t := false) (v := (.bool (true))) rfl rfl ?_)
      refine L_nil ?_
      refine T_n ?_
      refine W_ct rfl ?_
      refine W_seq ?_
      refine W_reg ?_
      refine L_op rfl (X_loadA (p := (ptr b1 (0))) (xs := [(.int .i64 (0)), (.slice none 0 0), (.slice none 0 0)]) A25 rfl hB1.atAll rfl ?_)
      refine L_op0 (X_storeW (b := b1) (ys := [(.int .i64 (0)), (.slice none 0 0), (.slice none 0 0)]) A25 rfl rfl (List.forall_mem_cons.2 ⟨rfl, (List.forall_mem_cons.2 ⟨rfl, (List.forall_mem_cons.2 ⟨rfl, (fun _ h => by cases h)⟩)⟩)⟩) rfl hB1 rfl ?_)
      intro w12 hu12 hb12
      have hz12 := hu12.size
      replace hA := hA.upd hu12 fun i h1 h2 h => by have h : i = b1 := h; omega
      replace hL := hL.upd hu12 fun i h1 h2 h => by have h : i = b1 := h; omega
      replace hU := hU.trans (hu12.mono fun i _ h => by have h : i = b1 := h; show n0 ≤ i; omega)
      replace hB1 : Blk w12 b1 #[(.int .i64 (0)), (.slice none 0 0), (.slice none 0 0)] 25 := hb12
      refine L_op rfl (X_assign (v := (.int .i64 (2))) rfl ?_)
      refine L_nil ?_
      refine T_n ?_
      refine W_ret ?_
      refine T_r ?_
      refine B_r ?_
      refine T_r ?_
      refine T_r ?_
      refine B_r ?_
      refine T_r ?_
      have hbad : ¬ ∀ a ∈ ds, 0 ≤ a ∧ a < ((m : Nat) : Int) := fun h_ => by have h2_ := List.mem_of_getElem? ha; rw [hl4] at h2_; simp only [List.mem_append, List.mem_cons, List.not_mem_nil, or_false] at h2_; rcases h2_ with (h2_ | h2_ | h2_ | h2_) | h2_ <;> first | omega | (have := h_ a h2_; omega)
      exact BQ_r (End_2 Try.results14 (RV_A A25 rfl hB1.atAll rfl) (v2 := .int .i64 2) rfl ⟨fun _ => rfl, fun h_ => absurd h_.2.2 hbad, hU.own hn0⟩)
     ·refine L_gy (dj := 28) rfl rfl rfl (X_cmp (k := .i64) (a := a) (b := ((m : Nat) : Int)) (r := false) rfl rfl rfl (decide_eq_false (p := ((((m : Nat) : Int)) : Int) ≤ ((a) : Int)) (by omega)) ?_)
      refine L_op rfl (X_pick (t := false) (v := (.bool (false))) rfl rfl ?_)
      refine L_nil ?_
      refine T_n ?_
      refine W_cf rfl ?_
      refine W_skip ?_
      refine T_n ?_
      refine W_reg ?_
      refine L_op rfl (X_move (v := (.slice (some ⟨bm, 0, none⟩) m m)) rfl ?_)
      refine L_op rfl (X_move (v := (.int .i64 (a))) rfl ?_)
      refine L_op rfl (X_idx (v := (.slice (some ⟨bm, 0, none⟩) m m)) (n := xs.length) (k := .i64) (i := a) S22 rfl hMs rfl (by omega) (by omega) ?_)
      obtain ⟨bn_, hbn_⟩ : ∃ b, xs[a.toNat]? = some b := ⟨_, List.getElem?_eq_getElem (by omega)⟩
      refine L_op0 (X_storeOwnC (i := a.toNat * 1) (v := .slice (some ⟨bm, 0, none⟩) m m) (u := .bool true) T4 hA.1 (by show _ < xs.length * 1; omega) rfl rfl rfl ?_)
      intro w6 hO6 hu6
      have hz6_ := hu6.size
      rw [show a.toNat * 1 = a.toNat by omega, lbo_set hbn_] at hO6
      have hA6 : NOwn LBo w6 4 5 s_m u_m (.slice (some ⟨bm, 0, none⟩) m m) (xs.set a.toNat true) := NOwn.of (fun _ => rfl) (hO6.eq (by rw [List.length_set]) rfl) hA.2.1
      replace hL := hL.upd hu6 fun i h1 h2 h => by have h1_ := hA.1.lt h; have h2_ := hA.2.1 _ h; omega
      replace hB1 := hB1.upd hu6 fun h => by have h1_ := hA.1.lt h; have h2_ := hA.2.1 _ h; omega
      replace hU := hU.trans (hu6.mono fun i _ h => by have h1_ := hA.1.lt h; have h2_ := hA.2.1 _ h; show n0 ≤ i; omega)
      replace hA := hA6
      refine L_nil ?_
      refine B_n ?_
      refine T_n ?_
      refine W_reg ?_
      refine L_op rfl (X_arith (k := .i64) (a := ((i : Nat) : Int)) (b := 1) (r := ((i + 1 : Nat) : Int)) rfl rfl rfl (iadd64 (by omega) (by omega) (by omega)) ?_)
      refine L_op rfl (X_move (v := (.int .i64 (((i + 1 : Nat) : Int)))) rfl ?_)
      refine L_nil ?_
      refine T_n ?_
      exact ⟨rfl, (i + 1, xs.set a.toNat true), ⟨⟨by omega, by rw [hxs, setAll_step ha], fun j y hj hy => (Nat.lt_or_ge j i).elim (fun h1 => hrg j y h1 hy) fun h1 => by obtain rfl : j = i := by { omega }; rw [ha] at hy; cases hy; omega, hA, hL, hB1, hU, by omega⟩, (by show l4.length - (i + 1) < l4.length - i; omega)⟩, (Out.mk rfl), ⟨rfl, trivial⟩⟩
   ·refine L_op rfl (X_cmp (k := .i64) (a := ((i : Nat) : Int)) (b := ((l4.length : Nat) : Int)) (r := false) rfl rfl rfl (decide_eq_false (p := ((((i : Nat) : Int)) : Int) < ((((l4.length : Nat) : Int)) : Int)) (by omega)) ?_)
    refine L_nil ?_
    refine T_n ?_
    refine W_seq ?_
    refine W_cf rfl ?_
    refine W_exit ?_
    refine T_e ?_
    refine T_e ?_
    refine B_x ?_
    refine T_n ?_
    refine W_seq ?_
    refine W_reg ?_
    refine L_op rfl (X_move (v := (.int .i64 (((m : Nat) : Int)))) rfl ?_)
    refine L_op rfl (X_move (v := (.slice (some ⟨bm, 0, none⟩) m m)) rfl ?_)
    refine L_op rfl (X_build (built25 hMs _) ?_)
    refine L_op0 (X_storeW (b := b1) (ys := [(.int .i64 (((m : Nat) : Int))), (.slice (some ⟨bm, 0, none⟩) m m), (.slice none 0 0)]) A25 rfl rfl (List.forall_mem_cons.2 ⟨rfl, (List.forall_mem_cons.2 ⟨rfl, (List.forall_mem_cons.2 ⟨rfl, (fun _ h => by cases h)⟩)⟩)⟩) rfl hB1 rfl ?_)
    intro w13 hu13 hb13
    have hz13 := hu13.size
    replace hA := hA.upd hu13 fun i h1 h2 h => by have h : i = b1 := h; omega
    replace hL := hL.upd hu13 fun i h1 h2 h => by have h : i = b1 := h; omega
    replace hU := hU.trans (hu13.mono fun i _ h => by have h : i = b1 := h; show n0 ≤ i; omega)
    replace hB1 : Blk w13 b1 #[(.int .i64 (((m : Nat) : Int))), (.slice (some ⟨bm, 0, none⟩) m m), (.slice none 0 0)] 25 := hb13
    refine L_op rfl (X_assign (v := (.int .i64 (0))) rfl ?_)
    refine L_nil ?_
    refine T_n ?_
    refine W_ret ?_
    have hie : i = l4.length := by omega
    rw [hie, List.take_length] at hxs
    have hgood : ∀ a ∈ l4, 0 ≤ a ∧ a < ((m : Nat) : Int) := fun a h_ => by obtain ⟨j, hj, rfl⟩ := List.getElem_of_mem h_; exact hrg j _ (by omega) (List.getElem?_eq_getElem hj)
    exact BQ_r (End_2 Try.results14 (RV_A A25 rfl hB1.atAll rfl) (v2 := .int .i64 0) rfl ⟨fun h_ => by rcases h_ with h_ | h_ | ⟨a, h_, h2_⟩; (· omega); (· omega); (· exact absurd (hgood a (by rw [hl4]; exact List.mem_append.2 (.inr h_))) h2_), fun _ => ⟨_, rfl, by rw [Int.toNat_natCast, ← hl4, ← hxs]; exact hA.mono (by omega) (by omega)⟩, hU.own hn0⟩)
end Go.Proofs.Ytmaikcnjgkoghaa
