/-
  Contracts of chapter 04: copies, what is the same, halves. (Printed by wip/gen/t04b.py of this repo.)
-/
import Derived.Test.YtfmgjkchhajpmaaDk
import Derived.Test.YtfmgjkchhajpmaaBaseS
namespace Go.Proofs.Ytfmgjkchhajpmaa
open Go Go.SL Go.Proofs
set_option linter.unusedVariables false

theorem c_copied22 (v : Value) (es : List Pg) (w : World) (lo up : Nat) (hl : NRd LP w lo up v es) (hlen : es.length ≤ 1048576) : CT Try.prog 37 #[v] w fun v w' => NOwn LP w' 33 5 w.heap.size w'.heap.size v es ∧ Ext w w' := by
  obtain ⟨a, c, rfl, hnil⟩ := hl.1.parts
  obtain ⟨n0, hn0⟩ : ∃ n, n = w.heap.size := ⟨_, rfl⟩
  have hU : Upd (fun i => n0 ≤ i) w w := Upd.refl _ _
  refine CT_of Try.func37 rfl rfl rfl ?_
  refine W_seq ?_
  refine W_reg ?_
  refine L_op rfl (X_assign (v := (.slice none 0 0)) rfl ?_)
  refine L_nil ?_
  refine T_n ?_
  refine W_seq ?_
  refine W_seq ?_
  refine W_reg ?_
  refine L_op rfl (X_move (v := (.slice a es.length c)) rfl ?_)
  rcases Bool.eq_false_or_eq_true a.isNone with ha | ha
  · refine L_op rfl (X_nilS (a := a) (r := true) Try.underlying22 rfl (.inl ⟨rfl, ha⟩) ?_)
    refine L_nil ?_
    refine T_n ?_
    refine W_ct rfl ?_
    refine W_seq ?_
    refine W_reg ?_
    refine L_op rfl (X_assign (v := (.slice none 0 0)) rfl ?_)
    refine L_nil ?_
    refine T_n ?_
    refine W_ret ?_
    refine T_r ?_
    exact BQ_r (End_1 Try.results37 (v := .slice none 0 0) rfl ⟨by rw [List.eq_nil_of_length_eq_zero (hnil ha)]; exact NOwn.nil _ _ _ _ _, hU.own hn0⟩)
  · refine L_op rfl (X_nilS (a := a) (r := false) Try.underlying22 rfl (.inl ⟨rfl, ha⟩) ?_)
    refine L_nil ?_
    refine T_n ?_
    refine W_cf rfl ?_
    refine W_skip ?_
    refine T_n ?_
    refine W_seq ?_
    refine W_reg ?_
    refine L_op rfl (X_buildSliceL (vs := []) (c := []) S22 (by decide) rfl rfl (fun _ h => by cases h) rfl ?_)
    intro b1 w1 hn1
    have hbn1 := hn1.num; have hbs1 := hn1.size
    replace hl := hl.ext hn1.ext
    replace hU := hU.trans (Ext.upd hn1.ext)
    have hB1 := hn1.blk
    refine L_op rfl (X_move (v := (.slice a es.length c)) rfl ?_)
    refine L_op rfl (X_append (B := n0) (n := 0) (s := (.slice (some ⟨b1, 0, none⟩) 0 0)) (x := .slice a es.length c) S22 ⟨_, Try.underlying22⟩ rfl rfl (Own.zero _ _ _ _ _) hl.1 hl.sub_one (by unfold maxLen; omega) (by omega) (by omega) ?_)
    intro v5 w5 hO hu5 _
    replace hO := hO.eq (Nat.zero_add _) (List.nil_append _)
    replace hl := hl.ext hu5.nobk
    replace hU := hU.trans (Ext.upd hu5.nobk)
    replace hB1 := hB1.ext hu5.nobk
    refine L_op rfl (X_assign (v := v5) rfl ?_)
    refine L_nil ?_
    refine T_n ?_
    refine W_ret ?_
    exact BQ_r (End_1 Try.results37 (v := v5) rfl ⟨NOwn.of (fun _ => rfl) (hO.more (by omega)) (fun b hb => (hO.lt hb).2), hU.own hn0⟩)

theorem c_copied23 (v : Value) (es : List Wr) (w : World) (lo up : Nat) (hl : NRd LW w lo up v es) (hlen : es.length ≤ 1048576) : CT Try.prog 38 #[v] w fun v w' => NOwn LW w' 35 5 w.heap.size w'.heap.size v es ∧ Ext w w' := by
  obtain ⟨a, c, rfl, hnil⟩ := hl.1.parts
  obtain ⟨n0, hn0⟩ : ∃ n, n = w.heap.size := ⟨_, rfl⟩
  have hU : Upd (fun i => n0 ≤ i) w w := Upd.refl _ _
  refine CT_of Try.func38 rfl rfl rfl ?_
  refine W_seq ?_
  refine W_reg ?_
  refine L_op rfl (X_assign (v := (.slice none 0 0)) rfl ?_)
  refine L_nil ?_
  refine T_n ?_
  refine W_seq ?_
  refine W_seq ?_
  refine W_reg ?_
  refine L_op rfl (X_move (v := (.slice a es.length c)) rfl ?_)
  rcases Bool.eq_false_or_eq_true a.isNone with ha | ha
  · refine L_op rfl (X_nilS (a := a) (r := true) Try.underlying23 rfl (.inl ⟨rfl, ha⟩) ?_)
    refine L_nil ?_
    refine T_n ?_
    refine W_ct rfl ?_
    refine W_seq ?_
    refine W_reg ?_
    refine L_op rfl (X_assign (v := (.slice none 0 0)) rfl ?_)
    refine L_nil ?_
    refine T_n ?_
    refine W_ret ?_
    refine T_r ?_
    exact BQ_r (End_1 Try.results38 (v := .slice none 0 0) rfl ⟨by rw [List.eq_nil_of_length_eq_zero (hnil ha)]; exact NOwn.nil _ _ _ _ _, hU.own hn0⟩)
  · refine L_op rfl (X_nilS (a := a) (r := false) Try.underlying23 rfl (.inl ⟨rfl, ha⟩) ?_)
    refine L_nil ?_
    refine T_n ?_
    refine W_cf rfl ?_
    refine W_skip ?_
    refine T_n ?_
    refine W_seq ?_
    refine W_reg ?_
    refine L_op rfl (X_buildSliceL (vs := []) (c := []) S23 (by decide) rfl rfl (fun _ h => by cases h) rfl ?_)
    intro b1 w1 hn1
    have hbn1 := hn1.num; have hbs1 := hn1.size
    replace hl := hl.ext hn1.ext
    replace hU := hU.trans (Ext.upd hn1.ext)
    have hB1 := hn1.blk
    refine L_op rfl (X_move (v := (.slice a es.length c)) rfl ?_)
    refine L_op rfl (X_append (B := n0) (n := 0) (s := (.slice (some ⟨b1, 0, none⟩) 0 0)) (x := .slice a es.length c) S23 ⟨_, Try.underlying23⟩ rfl rfl (Own.zero _ _ _ _ _) hl.1 hl.sub_one (by unfold maxLen; omega) (by omega) (by omega) ?_)
    intro v5 w5 hO hu5 _
    replace hO := hO.eq (Nat.zero_add _) (List.nil_append _)
    replace hl := hl.ext hu5.nobk
    replace hU := hU.trans (Ext.upd hu5.nobk)
    replace hB1 := hB1.ext hu5.nobk
    refine L_op rfl (X_assign (v := v5) rfl ?_)
    refine L_nil ?_
    refine T_n ?_
    refine W_ret ?_
    exact BQ_r (End_1 Try.results38 (v := v5) rfl ⟨NOwn.of (fun _ => rfl) (hO.more (by omega)) (fun b hb => (hO.lt hb).2), hU.own hn0⟩)

theorem c_copied24 (v : Value) (es : List Int) (w : World) (lo up : Nat) (hl : NRd LI w lo up v es) (hlen : es.length ≤ 1048576) : CT Try.prog 39 #[v] w fun v w' => NOwn LI w' 3 5 w.heap.size w'.heap.size v es ∧ Ext w w' := by
  obtain ⟨a, c, rfl, hnil⟩ := hl.1.parts
  obtain ⟨n0, hn0⟩ : ∃ n, n = w.heap.size := ⟨_, rfl⟩
  have hU : Upd (fun i => n0 ≤ i) w w := Upd.refl _ _
  refine CT_of Try.func39 rfl rfl rfl ?_
  refine W_seq ?_
  refine W_reg ?_
  refine L_op rfl (X_assign (v := (.slice none 0 0)) rfl ?_)
  refine L_nil ?_
  refine T_n ?_
  refine W_seq ?_
  refine W_seq ?_
  refine W_reg ?_
  refine L_op rfl (X_move (v := (.slice a es.length c)) rfl ?_)
  rcases Bool.eq_false_or_eq_true a.isNone with ha | ha
  · refine L_op rfl (X_nilS (a := a) (r := true) Try.underlying24 rfl (.inl ⟨rfl, ha⟩) ?_)
    refine L_nil ?_
    refine T_n ?_
    refine W_ct rfl ?_
    refine W_seq ?_
    refine W_reg ?_
    refine L_op rfl (X_assign (v := (.slice none 0 0)) rfl ?_)
    refine L_nil ?_
    refine T_n ?_
    refine W_ret ?_
    refine T_r ?_
    exact BQ_r (End_1 Try.results39 (v := .slice none 0 0) rfl ⟨by rw [List.eq_nil_of_length_eq_zero (hnil ha)]; exact NOwn.nil _ _ _ _ _, hU.own hn0⟩)
  · refine L_op rfl (X_nilS (a := a) (r := false) Try.underlying24 rfl (.inl ⟨rfl, ha⟩) ?_)
    refine L_nil ?_
    refine T_n ?_
    refine W_cf rfl ?_
    refine W_skip ?_
    refine T_n ?_
    refine W_seq ?_
    refine W_reg ?_
    refine L_op rfl (X_buildSlice1 (vs := []) S24 (by decide) rfl rfl (fun _ h => by cases h) ?_)
    intro b1 w1 hn1
    have hbn1 := hn1.num; have hbs1 := hn1.size
    replace hl := hl.ext hn1.ext
    replace hU := hU.trans (Ext.upd hn1.ext)
    have hB1 := hn1.blk
    refine L_op rfl (X_move (v := (.slice a es.length c)) rfl ?_)
    refine L_op rfl (X_append (B := n0) (n := 0) (s := (.slice (some ⟨b1, 0, none⟩) 0 0)) (x := .slice a es.length c) S24 ⟨_, Try.underlying24⟩ rfl rfl (Own.zero _ _ _ _ _) hl.1 hl.sub_one (by unfold maxLen; omega) (by omega) (by omega) ?_)
    intro v5 w5 hO hu5 _
    replace hO := hO.eq (Nat.zero_add _) (List.nil_append _)
    replace hl := hl.ext hu5.nobk
    replace hU := hU.trans (Ext.upd hu5.nobk)
    replace hB1 := hB1.ext hu5.nobk
    refine L_op rfl (X_assign (v := v5) rfl ?_)
    refine L_nil ?_
    refine T_n ?_
    refine W_ret ?_
    exact BQ_r (End_1 Try.results39 (v := v5) rfl ⟨NOwn.of (fun _ => rfl) (hO.more (by omega)) (fun b hb => (hO.lt hb).2), hU.own hn0⟩)

theorem c_own (pv cv bv : Value) (ps : List Pg) (cs : List Wr) (bs : List Int) (off : Bool) (w : World) (lo up : Nat) (hup : up ≤ w.heap.size) (hp : NRd LP w lo up pv ps) (hc : NRd LW w lo up cv cs) (hb : NRd LI w lo up bv bs) (hpL : ps.length ≤ 1048576) (hcL : cs.length ≤ 1048576) (hbL : bs.length ≤ 1048576) : CT Try.prog 25 #[(.agg #[pv, cv, bv, (.bool (off))])] w fun v w' => ∃ p2 c2 b2, v = .agg #[p2, c2, b2, .bool off] ∧ NOwn LP w' 33 5 w.heap.size w'.heap.size p2 ps ∧ NOwn LW w' 35 5 w.heap.size w'.heap.size c2 cs ∧ NOwn LI w' 3 5 w.heap.size w'.heap.size b2 bs ∧ Ext w w' := by
  obtain ⟨n0, hn0⟩ : ∃ n, n = w.heap.size := ⟨_, rfl⟩
  have hU : Upd (fun i => n0 ≤ i) w w := Upd.refl _ _
  have hpl := hp.sv.len
  have hcl := hc.sv.len
  have hbl := hb.sv.len
  rw [← hn0] at hup
  refine CT_of Try.func25 rfl rfl rfl ?_
  refine W_seq ?_
  refine W_reg ?_
  refine L_op rfl (X_box (v := (.agg #[pv, cv, bv, (.bool (off))])) (c := ([pv, cv, bv, (.bool (off))]).toArray) rfl rfl ?_)
  intro b1 w1 hn1
  have hbn1 := hn1.num; have hbs1 := hn1.size
  replace hp := hp.ext hn1.ext
  replace hc := hc.ext hn1.ext
  replace hb := hb.ext hn1.ext
  replace hU := hU.trans (Ext.upd hn1.ext)
  have hB1 := hn1.blk
  refine L_op rfl (X_alloc (z := (.agg #[(.slice none 0 0), (.slice none 0 0), (.slice none 0 0), (.bool (false))])) (c := #[(.slice none 0 0), (.slice none 0 0), (.slice none 0 0), (.bool (false))]) Zv26 rfl ?_)
  intro b2 w2 hn2
  have hbn2 := hn2.num; have hbs2 := hn2.size
  replace hp := hp.ext hn2.ext
  replace hc := hc.ext hn2.ext
  replace hb := hb.ext hn2.ext
  replace hU := hU.trans (Ext.upd hn2.ext)
  replace hB1 := hB1.ext hn2.ext
  have hB2 := hn2.blk
  refine L_nil ?_
  refine T_n ?_
  refine W_seq ?_
  obtain ⟨s0, hs0⟩ : ∃ n, n = w2.heap.size := ⟨_, rfl⟩
  refine W_draw 10 [[], [0], [0, 1], [], [3], [0, 1, 2, 3, 4], [], [6], [0, 1, 2, 3, 4, 5, 6, 7], [0, 1, 2, 3, 4, 6, 7], [0, 1, 2, 3, 4, 5, 6, 7, 8, 9], [0, 1, 2, 3, 4, 5, 6, 7, 8, 9, 10], [0, 1, 2, 3, 4, 5, 6, 7, 8, 9, 10, 11], [0, 1, 2, 3, 4, 5, 6, 7, 8, 9, 10, 11, 12], [0, 1, 2, 3, 4, 5, 6, 7, 8, 9, 10, 11, 12, 13]] mixed (by kernel_rfl) ?_
  refine ⟨.det (fun val => (ptr b1 (0))), ⟨fun _ _ hv => rfl, fun _ _ _ _ _ => trivial⟩, fun val h_ W hx he => ⟨trivial, ?_⟩, ?_⟩
  · replace hx := (Upd.drew _ _).trans hx
    replace hp := hp.ext hx
    replace hc := hc.ext hx
    replace hb := hb.ext hx
    replace hB1 := hB1.ext hx
    replace hB2 := hB2.ext hx
    have hE := Upd.refl (fun _ => False) W
    refine id (X_fldP (b := b1) (o := 0) (r := 0) Fd26_0 rfl rfl ?_)
    exact ⟨hE, rfl⟩
  refine ⟨.det (fun val => pv), ⟨fun _ _ hv => rfl, fun _ _ _ _ _ => trivial⟩, fun val h_ W hx he => ⟨trivial, ?_⟩, ?_⟩
  · replace hx := (Upd.drew _ _).trans hx
    replace hp := hp.ext hx
    replace hc := hc.ext hx
    replace hb := hb.ext hx
    replace hB1 := hB1.ext hx
    replace hB2 := hB2.ext hx
    have hE := Upd.refl (fun _ => False) W
    refine id (X_load (p := (ptr b1 (0))) (v := pv) T22 rfl (hB1.at1 rfl) ?_)
    exact ⟨hE, rfl⟩
  refine ⟨.abs (fun _ x_ W_ => ∃ u, u ≤ W_.heap.size ∧ NOwn LP W_ 33 5 s0 u x_ ps), ⟨fun _ _ _ => rfl, fun _ _ _ _ hu h => (by obtain ⟨u, h1, h2⟩ := h; exact ⟨u, Nat.le_trans h1 hu.size, h2.ext hu⟩)⟩, fun val h_ W hx he => ⟨trivial, ?_⟩, ?_⟩
  · replace hx := (Upd.drew _ _).trans hx
    replace hp := hp.ext hx
    replace hc := hc.ext hx
    replace hb := hb.ext hx
    replace hB1 := hB1.ext hx
    replace hB2 := hB2.ext hx
    have hE := Upd.refl (fun _ => False) W
    have hxs := hx.size
    refine X_fn (vs := [pv]) en37 rfl (CT.mono (c_copied22 pv ps _ lo up hp hpL) ?_)
    rintro v9 w9 ⟨hN9, hu9⟩
    exact ⟨hu9, _, Nat.le_refl _, hN9.mono (by omega) (Nat.le_refl _)⟩
  refine ⟨.det (fun val => (ptr b1 (1))), ⟨fun _ _ hv => rfl, fun _ _ _ _ _ => trivial⟩, fun val h_ W hx he => ⟨trivial, ?_⟩, ?_⟩
  · replace hx := (Upd.drew _ _).trans hx
    replace hp := hp.ext hx
    replace hc := hc.ext hx
    replace hb := hb.ext hx
    replace hB1 := hB1.ext hx
    replace hB2 := hB2.ext hx
    have hE := Upd.refl (fun _ => False) W
    refine id (X_fldP (b := b1) (o := 0) (r := 1) Fd26_1 rfl rfl ?_)
    exact ⟨hE, rfl⟩
  refine ⟨.det (fun val => cv), ⟨fun _ _ hv => rfl, fun _ _ _ _ _ => trivial⟩, fun val h_ W hx he => ⟨trivial, ?_⟩, ?_⟩
  · replace hx := (Upd.drew _ _).trans hx
    replace hp := hp.ext hx
    replace hc := hc.ext hx
    replace hb := hb.ext hx
    replace hB1 := hB1.ext hx
    replace hB2 := hB2.ext hx
    have hE := Upd.refl (fun _ => False) W
    refine id (X_load (p := (ptr b1 (1))) (v := cv) T23 rfl (hB1.at1 rfl) ?_)
    exact ⟨hE, rfl⟩
  refine ⟨.abs (fun _ x_ W_ => ∃ u, u ≤ W_.heap.size ∧ NOwn LW W_ 35 5 s0 u x_ cs), ⟨fun _ _ _ => rfl, fun _ _ _ _ hu h => (by obtain ⟨u, h1, h2⟩ := h; exact ⟨u, Nat.le_trans h1 hu.size, h2.ext hu⟩)⟩, fun val h_ W hx he => ⟨trivial, ?_⟩, ?_⟩
  · replace hx := (Upd.drew _ _).trans hx
    replace hp := hp.ext hx
    replace hc := hc.ext hx
    replace hb := hb.ext hx
    replace hB1 := hB1.ext hx
    replace hB2 := hB2.ext hx
    have hE := Upd.refl (fun _ => False) W
    have hxs := hx.size
    refine X_fn (vs := [cv]) en38 rfl (CT.mono (c_copied23 cv cs _ lo up hc hcL) ?_)
    rintro v9 w9 ⟨hN9, hu9⟩
    exact ⟨hu9, _, Nat.le_refl _, hN9.mono (by omega) (Nat.le_refl _)⟩
  refine ⟨.det (fun val => (ptr b1 (2))), ⟨fun _ _ hv => rfl, fun _ _ _ _ _ => trivial⟩, fun val h_ W hx he => ⟨trivial, ?_⟩, ?_⟩
  · replace hx := (Upd.drew _ _).trans hx
    replace hp := hp.ext hx
    replace hc := hc.ext hx
    replace hb := hb.ext hx
    replace hB1 := hB1.ext hx
    replace hB2 := hB2.ext hx
    have hE := Upd.refl (fun _ => False) W
    refine id (X_fldP (b := b1) (o := 0) (r := 2) Fd26_2 rfl rfl ?_)
    exact ⟨hE, rfl⟩
  refine ⟨.det (fun val => bv), ⟨fun _ _ hv => rfl, fun _ _ _ _ _ => trivial⟩, fun val h_ W hx he => ⟨trivial, ?_⟩, ?_⟩
  · replace hx := (Upd.drew _ _).trans hx
    replace hp := hp.ext hx
    replace hc := hc.ext hx
    replace hb := hb.ext hx
    replace hB1 := hB1.ext hx
    replace hB2 := hB2.ext hx
    have hE := Upd.refl (fun _ => False) W
    refine id (X_load (p := (ptr b1 (2))) (v := bv) T24 rfl (hB1.at1 rfl) ?_)
    exact ⟨hE, rfl⟩
  refine ⟨.abs (fun _ x_ W_ => ∃ u, u ≤ W_.heap.size ∧ NOwn LI W_ 3 5 s0 u x_ bs), ⟨fun _ _ _ => rfl, fun _ _ _ _ hu h => (by obtain ⟨u, h1, h2⟩ := h; exact ⟨u, Nat.le_trans h1 hu.size, h2.ext hu⟩)⟩, fun val h_ W hx he => ⟨trivial, ?_⟩, ?_⟩
  · replace hx := (Upd.drew _ _).trans hx
    replace hp := hp.ext hx
    replace hc := hc.ext hx
    replace hb := hb.ext hx
    replace hB1 := hB1.ext hx
    replace hB2 := hB2.ext hx
    have hE := Upd.refl (fun _ => False) W
    have hxs := hx.size
    refine X_fn (vs := [bv]) en39 rfl (CT.mono (c_copied24 bv bs _ lo up hb hbL) ?_)
    rintro v9 w9 ⟨hN9, hu9⟩
    exact ⟨hu9, _, Nat.le_refl _, hN9.mono (by omega) (Nat.le_refl _)⟩
  refine ⟨.det (fun val => (ptr b1 (0))), ⟨fun _ _ hv => rfl, fun _ _ _ _ _ => trivial⟩, fun val h_ W hx he => ⟨trivial, ?_⟩, ?_⟩
  · replace hx := (Upd.drew _ _).trans hx
    replace hp := hp.ext hx
    replace hc := hc.ext hx
    replace hb := hb.ext hx
    replace hB1 := hB1.ext hx
    replace hB2 := hB2.ext hx
    have hE := Upd.refl (fun _ => False) W
    obtain ⟨⟨u2, hu2, hN2⟩, he⟩ := he
    refine id (X_fldP (b := b1) (o := 0) (r := 0) Fd26_0 rfl rfl ?_)
    exact ⟨hE, rfl⟩
  intro val W3 hx3 he3
  replace hx3 := (Upd.drew _ _).trans hx3
  have hz3 := hx3.size
  replace hp := hp.ext hx3
  replace hc := hc.ext hx3
  replace hb := hb.ext hx3
  replace hU := hU.trans (Ext.upd hx3)
  replace hB1 := hB1.ext hx3
  replace hB2 := hB2.ext hx3
  obtain ⟨⟨u8, hu8, hN8⟩, he3⟩ := he3
  obtain ⟨⟨u5, hu5, hN5⟩, he3⟩ := he3
  obtain ⟨⟨u2, hu2, hN2⟩, he3⟩ := he3
  refine L_op0 (X_store (b := b1) (o := 0) T22 rfl rfl (hN2.1.sv.one) hB1 (by show (0 : Nat) < 4; decide) ?_)
  intro w4 hu4 hb4
  have hz4 := hu4.size
  replace hp := hp.upd hu4 fun i h1 h2 h => by have h : i = b1 := h; omega
  replace hc := hc.upd hu4 fun i h1 h2 h => by have h : i = b1 := h; omega
  replace hb := hb.upd hu4 fun i h1 h2 h => by have h : i = b1 := h; omega
  replace hU := hU.trans (hu4.mono fun i _ h => by have h : i = b1 := h; show n0 ≤ i; omega)
  replace hB2 := hB2.upd hu4 fun h => by have h : b2 = b1 := h; omega
  replace hN2 := hN2.upd hu4 fun i h1 h2 h => by have h : i = b1 := h; omega
  replace hN5 := hN5.upd hu4 fun i h1 h2 h => by have h : i = b1 := h; omega
  replace hN8 := hN8.upd hu4 fun i h1 h2 h => by have h : i = b1 := h; omega
  replace hB1 : Blk w4 b1 #[(val 2), cv, bv, (.bool (off))] 26 := hb4
  refine L_op rfl (X_fldP (b := b1) (o := 0) (r := 1) Fd26_1 rfl rfl ?_)
  refine L_op0 (X_store (b := b1) (o := 1) T23 rfl rfl (hN5.1.sv.one) hB1 (by show (1 : Nat) < 4; decide) ?_)
  intro w5 hu5 hb5
  have hz5 := hu5.size
  replace hp := hp.upd hu5 fun i h1 h2 h => by have h : i = b1 := h; omega
  replace hc := hc.upd hu5 fun i h1 h2 h => by have h : i = b1 := h; omega
  replace hb := hb.upd hu5 fun i h1 h2 h => by have h : i = b1 := h; omega
  replace hU := hU.trans (hu5.mono fun i _ h => by have h : i = b1 := h; show n0 ≤ i; omega)
  replace hB2 := hB2.upd hu5 fun h => by have h : b2 = b1 := h; omega
  replace hN2 := hN2.upd hu5 fun i h1 h2 h => by have h : i = b1 := h; omega
  replace hN5 := hN5.upd hu5 fun i h1 h2 h => by have h : i = b1 := h; omega
  replace hN8 := hN8.upd hu5 fun i h1 h2 h => by have h : i = b1 := h; omega
  replace hB1 : Blk w5 b1 #[(val 2), (val 5), bv, (.bool (off))] 26 := hb5
  refine L_op rfl (X_fldP (b := b1) (o := 0) (r := 2) Fd26_2 rfl rfl ?_)
  refine L_op0 (X_store (b := b1) (o := 2) T24 rfl rfl (hN8.1.sv.one) hB1 (by show (2 : Nat) < 4; decide) ?_)
  intro w6 hu6 hb6
  have hz6 := hu6.size
  replace hp := hp.upd hu6 fun i h1 h2 h => by have h : i = b1 := h; omega
  replace hc := hc.upd hu6 fun i h1 h2 h => by have h : i = b1 := h; omega
  replace hb := hb.upd hu6 fun i h1 h2 h => by have h : i = b1 := h; omega
  replace hU := hU.trans (hu6.mono fun i _ h => by have h : i = b1 := h; show n0 ≤ i; omega)
  replace hB2 := hB2.upd hu6 fun h => by have h : b2 = b1 := h; omega
  replace hN2 := hN2.upd hu6 fun i h1 h2 h => by have h : i = b1 := h; omega
  replace hN5 := hN5.upd hu6 fun i h1 h2 h => by have h : i = b1 := h; omega
  replace hN8 := hN8.upd hu6 fun i h1 h2 h => by have h : i = b1 := h; omega
  replace hB1 : Blk w6 b1 #[(val 2), (val 5), (val 8), (.bool (off))] 26 := hb6
  refine L_nil ?_
  refine T_n ?_
  refine W_seq ?_
  refine W_reg ?_
  refine L_op rfl (X_loadA (p := (ptr b1 (0))) (xs := [(val 2), (val 5), (val 8), (.bool (off))]) A26 rfl hB1.atAll rfl ?_)
  refine L_op0 (X_storeW (b := b2) (ys := [(val 2), (val 5), (val 8), (.bool (off))]) A26 rfl rfl (List.forall_mem_cons.2 ⟨(hN2.1.sv.one), (List.forall_mem_cons.2 ⟨(hN5.1.sv.one), (List.forall_mem_cons.2 ⟨(hN8.1.sv.one), (List.forall_mem_cons.2 ⟨rfl, (fun _ h => by cases h)⟩)⟩)⟩)⟩) rfl hB2 rfl ?_)
  intro w7 hu7 hb7
  have hz7 := hu7.size
  replace hp := hp.upd hu7 fun i h1 h2 h => by have h : i = b2 := h; omega
  replace hc := hc.upd hu7 fun i h1 h2 h => by have h : i = b2 := h; omega
  replace hb := hb.upd hu7 fun i h1 h2 h => by have h : i = b2 := h; omega
  replace hU := hU.trans (hu7.mono fun i _ h => by have h : i = b2 := h; show n0 ≤ i; omega)
  replace hN2 := hN2.upd hu7 fun i h1 h2 h => by have h : i = b2 := h; omega
  replace hN5 := hN5.upd hu7 fun i h1 h2 h => by have h : i = b2 := h; omega
  replace hN8 := hN8.upd hu7 fun i h1 h2 h => by have h : i = b2 := h; omega
  replace hB1 := hB1.upd hu7 fun h => by have h : b1 = b2 := h; omega
  replace hB2 : Blk w7 b2 #[(val 2), (val 5), (val 8), (.bool (off))] 26 := hb7
  refine L_nil ?_
  refine T_n ?_
  refine W_ret ?_
  have hU2 := hU.own hn0
  exact BQ_r (End_1 Try.results25 (RV_A A26 rfl hB2.atAll rfl) ⟨_, _, _, rfl, hN2.mono (by omega) (by omega), hN5.mono (by omega) (by omega), hN8.mono (by omega) (by omega), hU2⟩)

theorem built26o (o : Bool) : Try.prog.built 26 [(3, .bool o)] = some #[.slice none 0 0, .slice none 0 0, .slice none 0 0, .bool o] := by kernel_rfl

theorem c_ownR (pv cv bv : Value) (ps : List Pg) (cs : List Wr) (bs : List Int) (off : Bool) (w : World) (lo up : Nat) (hup : up ≤ w.heap.size) (hp : NRd LP w lo up pv ps) (hc : NRd LW w lo up cv cs) (hb : NRd LI w lo up bv bs) (hpL : ps.length ≤ 1048576) (hcL : cs.length ≤ 1048576) (hbL : bs.length ≤ 1048576) : CT Try.prog 12 #[(.agg #[pv, cv, bv, (.bool (off))])] w fun v w' => ∃ p2 c2 b2, v = .agg #[p2, c2, b2, .bool off] ∧ NOwn LP w' 33 5 w.heap.size w'.heap.size p2 ps ∧ NOwn LW w' 35 5 w.heap.size w'.heap.size c2 cs ∧ NOwn LI w' 3 5 w.heap.size w'.heap.size b2 bs ∧ Ext w w' := by
  obtain ⟨n0, hn0⟩ : ∃ n, n = w.heap.size := ⟨_, rfl⟩
  have hU : Upd (fun i => n0 ≤ i) w w := Upd.refl _ _
  have hpl := hp.sv.len
  have hcl := hc.sv.len
  have hbl := hb.sv.len
  rw [← hn0] at hup
  refine CT_of Try.func12 rfl rfl rfl ?_
  refine W_seq ?_
  refine W_reg ?_
  refine L_op rfl (X_box (v := (.agg #[pv, cv, bv, (.bool (off))])) (c := ([pv, cv, bv, (.bool (off))]).toArray) rfl rfl ?_)
  intro b1 w1 hn1
  have hbn1 := hn1.num; have hbs1 := hn1.size
  replace hp := hp.ext hn1.ext
  replace hc := hc.ext hn1.ext
  replace hb := hb.ext hn1.ext
  replace hU := hU.trans (Ext.upd hn1.ext)
  have hB1 := hn1.blk
  refine L_op rfl (X_alloc (z := (.agg #[(.slice none 0 0), (.slice none 0 0), (.slice none 0 0), (.bool (false))])) (c := #[(.slice none 0 0), (.slice none 0 0), (.slice none 0 0), (.bool (false))]) Zv26 rfl ?_)
  intro b2 w2 hn2
  have hbn2 := hn2.num; have hbs2 := hn2.size
  replace hp := hp.ext hn2.ext
  replace hc := hc.ext hn2.ext
  replace hb := hb.ext hn2.ext
  replace hU := hU.trans (Ext.upd hn2.ext)
  replace hB1 := hB1.ext hn2.ext
  have hB2 := hn2.blk
  refine L_nil ?_
  refine T_n ?_
  refine W_seq ?_
  refine W_reg ?_
  refine L_op rfl (X_fldP (b := b1) (o := 0) (r := 3) Fd26_3 rfl rfl ?_)
  refine L_op rfl (X_load (p := (ptr b1 (3))) (v := (.bool (off))) T4 rfl (hB1.at1 rfl) ?_)
  refine L_op rfl (X_build (built26o off) ?_)
  refine L_op rfl (X_alloc (z := (.agg #[(.slice none 0 0), (.slice none 0 0), (.slice none 0 0), (.bool (false))])) (c := #[(.slice none 0 0), (.slice none 0 0), (.slice none 0 0), (.bool (false))]) Zv26 rfl ?_)
  intro b3 w3 hn3
  have hbn3 := hn3.num; have hbs3 := hn3.size
  replace hp := hp.ext hn3.ext
  replace hc := hc.ext hn3.ext
  replace hb := hb.ext hn3.ext
  replace hU := hU.trans (Ext.upd hn3.ext)
  replace hB1 := hB1.ext hn3.ext
  replace hB2 := hB2.ext hn3.ext
  have hB3 := hn3.blk
  refine L_op0 (X_storeW (b := b3) (ys := [(.slice none 0 0), (.slice none 0 0), (.slice none 0 0), (.bool (off))]) A26 rfl rfl (List.forall_mem_cons.2 ⟨rfl, (List.forall_mem_cons.2 ⟨rfl, (List.forall_mem_cons.2 ⟨rfl, (List.forall_mem_cons.2 ⟨rfl, (fun _ h => by cases h)⟩)⟩)⟩)⟩) rfl hB3 rfl ?_)
  intro w4 hu4 hb4
  have hz4 := hu4.size
  replace hp := hp.upd hu4 fun i h1 h2 h => by have h : i = b3 := h; omega
  replace hc := hc.upd hu4 fun i h1 h2 h => by have h : i = b3 := h; omega
  replace hb := hb.upd hu4 fun i h1 h2 h => by have h : i = b3 := h; omega
  replace hU := hU.trans (hu4.mono fun i _ h => by have h : i = b3 := h; show n0 ≤ i; omega)
  replace hB1 := hB1.upd hu4 fun h => by have h : b1 = b3 := h; omega
  replace hB2 := hB2.upd hu4 fun h => by have h : b2 = b3 := h; omega
  replace hB3 : Blk w4 b3 #[(.slice none 0 0), (.slice none 0 0), (.slice none 0 0), (.bool (off))] 26 := hb4
  refine L_nil ?_
  refine T_n ?_
  refine W_seq ?_
  refine W_reg ?_
  refine L_op rfl (X_fldP (b := b3) (o := 0) (r := 0) Fd26_0 rfl rfl ?_)
  refine L_op rfl (X_load (p := (ptr b3 (0))) (v := (.slice none 0 0)) T22 rfl (hB3.at1 rfl) ?_)
  refine L_op rfl (X_fldP (b := b1) (o := 0) (r := 0) Fd26_0 rfl rfl ?_)
  refine L_op rfl (X_load (p := (ptr b1 (0))) (v := pv) T22 rfl (hB1.at1 rfl) ?_)
  obtain ⟨s_a, hs_a⟩ : ∃ n, n = w4.heap.size := ⟨_, rfl⟩
  refine L_op rfl (X_append (B := s_a) (n := 0) (s := .slice none 0 0) (x := pv) S22 ⟨_, Try.underlying22⟩ rfl rfl (xs := []) (Own.nil _ _ _ _) hp.1 hp.sub_one (by unfold maxLen; omega) (by omega) (by omega) ?_)
  intro v_a w_a hO_a hu_a _
  replace hO_a := hO_a.eq (Nat.zero_add _) (List.nil_append _)
  replace hu_a := hu_a.nobk
  have hz_a := hu_a.size
  replace hp := hp.ext hu_a
  replace hc := hc.ext hu_a
  replace hb := hb.ext hu_a
  replace hU := hU.trans (Ext.upd hu_a)
  replace hB1 := hB1.ext hu_a
  replace hB2 := hB2.ext hu_a
  replace hB3 := hB3.ext hu_a
  have hN_a : NOwn LP w_a 33 5 s_a w_a.heap.size v_a ps := NOwn.of (fun _ => rfl) hO_a fun b hb => (hO_a.lt hb).2
  obtain ⟨u_a, hu__a⟩ : ∃ n, n = w_a.heap.size := ⟨_, rfl⟩
  rw [← hu__a] at hN_a
  refine L_op rfl (X_fldP (b := b3) (o := 0) (r := 0) Fd26_0 rfl rfl ?_)
  refine L_op0 (X_store (b := b3) (o := 0) T22 rfl rfl (hN_a.1.sv.one) hB3 (by show (0 : Nat) < 4; decide) ?_)
  intro w5 hu5 hb5
  have hz5 := hu5.size
  replace hp := hp.upd hu5 fun i h1 h2 h => by have h : i = b3 := h; omega
  replace hc := hc.upd hu5 fun i h1 h2 h => by have h : i = b3 := h; omega
  replace hb := hb.upd hu5 fun i h1 h2 h => by have h : i = b3 := h; omega
  replace hU := hU.trans (hu5.mono fun i _ h => by have h : i = b3 := h; show n0 ≤ i; omega)
  replace hB1 := hB1.upd hu5 fun h => by have h : b1 = b3 := h; omega
  replace hB2 := hB2.upd hu5 fun h => by have h : b2 = b3 := h; omega
  replace hN_a := hN_a.upd hu5 fun i h1 h2 h => by have h : i = b3 := h; omega
  replace hB3 : Blk w5 b3 #[v_a, (.slice none 0 0), (.slice none 0 0), (.bool (off))] 26 := hb5
  refine L_nil ?_
  refine T_n ?_
  refine W_seq ?_
  refine W_reg ?_
  refine L_op rfl (X_fldP (b := b3) (o := 0) (r := 1) Fd26_1 rfl rfl ?_)
  refine L_op rfl (X_load (p := (ptr b3 (1))) (v := (.slice none 0 0)) T23 rfl (hB3.at1 rfl) ?_)
  refine L_op rfl (X_fldP (b := b1) (o := 0) (r := 1) Fd26_1 rfl rfl ?_)
  refine L_op rfl (X_load (p := (ptr b1 (1))) (v := cv) T23 rfl (hB1.at1 rfl) ?_)
  obtain ⟨s_b, hs_b⟩ : ∃ n, n = w5.heap.size := ⟨_, rfl⟩
  refine L_op rfl (X_append (B := s_b) (n := 0) (s := .slice none 0 0) (x := cv) S23 ⟨_, Try.underlying23⟩ rfl rfl (xs := []) (Own.nil _ _ _ _) hc.1 hc.sub_one (by unfold maxLen; omega) (by omega) (by omega) ?_)
  intro v_b w_b hO_b hu_b _
  replace hO_b := hO_b.eq (Nat.zero_add _) (List.nil_append _)
  replace hu_b := hu_b.nobk
  have hz_b := hu_b.size
  replace hp := hp.ext hu_b
  replace hc := hc.ext hu_b
  replace hb := hb.ext hu_b
  replace hU := hU.trans (Ext.upd hu_b)
  replace hB1 := hB1.ext hu_b
  replace hB2 := hB2.ext hu_b
  replace hN_a := hN_a.ext hu_b
  replace hB3 := hB3.ext hu_b
  have hN_b : NOwn LW w_b 35 5 s_b w_b.heap.size v_b cs := NOwn.of (fun _ => rfl) hO_b fun b hb => (hO_b.lt hb).2
  obtain ⟨u_b, hu__b⟩ : ∃ n, n = w_b.heap.size := ⟨_, rfl⟩
  rw [← hu__b] at hN_b
  refine L_op rfl (X_fldP (b := b3) (o := 0) (r := 1) Fd26_1 rfl rfl ?_)
  refine L_op0 (X_store (b := b3) (o := 1) T23 rfl rfl (hN_b.1.sv.one) hB3 (by show (1 : Nat) < 4; decide) ?_)
  intro w6 hu6 hb6
  have hz6 := hu6.size
  replace hp := hp.upd hu6 fun i h1 h2 h => by have h : i = b3 := h; omega
  replace hc := hc.upd hu6 fun i h1 h2 h => by have h : i = b3 := h; omega
  replace hb := hb.upd hu6 fun i h1 h2 h => by have h : i = b3 := h; omega
  replace hU := hU.trans (hu6.mono fun i _ h => by have h : i = b3 := h; show n0 ≤ i; omega)
  replace hB1 := hB1.upd hu6 fun h => by have h : b1 = b3 := h; omega
  replace hB2 := hB2.upd hu6 fun h => by have h : b2 = b3 := h; omega
  replace hN_a := hN_a.upd hu6 fun i h1 h2 h => by have h : i = b3 := h; omega
  replace hN_b := hN_b.upd hu6 fun i h1 h2 h => by have h : i = b3 := h; omega
  replace hB3 : Blk w6 b3 #[v_a, v_b, (.slice none 0 0), (.bool (off))] 26 := hb6
  refine L_nil ?_
  refine T_n ?_
  refine W_seq ?_
  refine W_reg ?_
  refine L_op rfl (X_fldP (b := b3) (o := 0) (r := 2) Fd26_2 rfl rfl ?_)
  refine L_op rfl (X_load (p := (ptr b3 (2))) (v := (.slice none 0 0)) T24 rfl (hB3.at1 rfl) ?_)
  refine L_op rfl (X_fldP (b := b1) (o := 0) (r := 2) Fd26_2 rfl rfl ?_)
  refine L_op rfl (X_load (p := (ptr b1 (2))) (v := bv) T24 rfl (hB1.at1 rfl) ?_)
  obtain ⟨s_c, hs_c⟩ : ∃ n, n = w6.heap.size := ⟨_, rfl⟩
  refine L_op rfl (X_append (B := s_c) (n := 0) (s := .slice none 0 0) (x := bv) S24 ⟨_, Try.underlying24⟩ rfl rfl (xs := []) (Own.nil _ _ _ _) hb.1 hb.sub_one (by unfold maxLen; omega) (by omega) (by omega) ?_)
  intro v_c w_c hO_c hu_c _
  replace hO_c := hO_c.eq (Nat.zero_add _) (List.nil_append _)
  replace hu_c := hu_c.nobk
  have hz_c := hu_c.size
  replace hp := hp.ext hu_c
  replace hc := hc.ext hu_c
  replace hb := hb.ext hu_c
  replace hU := hU.trans (Ext.upd hu_c)
  replace hB1 := hB1.ext hu_c
  replace hB2 := hB2.ext hu_c
  replace hN_a := hN_a.ext hu_c
  replace hN_b := hN_b.ext hu_c
  replace hB3 := hB3.ext hu_c
  have hN_c : NOwn LI w_c 3 5 s_c w_c.heap.size v_c bs := NOwn.of (fun _ => rfl) hO_c fun b hb => (hO_c.lt hb).2
  obtain ⟨u_c, hu__c⟩ : ∃ n, n = w_c.heap.size := ⟨_, rfl⟩
  rw [← hu__c] at hN_c
  refine L_op rfl (X_fldP (b := b3) (o := 0) (r := 2) Fd26_2 rfl rfl ?_)
  refine L_op0 (X_store (b := b3) (o := 2) T24 rfl rfl (hN_c.1.sv.one) hB3 (by show (2 : Nat) < 4; decide) ?_)
  intro w7 hu7 hb7
  have hz7 := hu7.size
  replace hp := hp.upd hu7 fun i h1 h2 h => by have h : i = b3 := h; omega
  replace hc := hc.upd hu7 fun i h1 h2 h => by have h : i = b3 := h; omega
  replace hb := hb.upd hu7 fun i h1 h2 h => by have h : i = b3 := h; omega
  replace hU := hU.trans (hu7.mono fun i _ h => by have h : i = b3 := h; show n0 ≤ i; omega)
  replace hB1 := hB1.upd hu7 fun h => by have h : b1 = b3 := h; omega
  replace hB2 := hB2.upd hu7 fun h => by have h : b2 = b3 := h; omega
  replace hN_a := hN_a.upd hu7 fun i h1 h2 h => by have h : i = b3 := h; omega
  replace hN_b := hN_b.upd hu7 fun i h1 h2 h => by have h : i = b3 := h; omega
  replace hN_c := hN_c.upd hu7 fun i h1 h2 h => by have h : i = b3 := h; omega
  replace hB3 : Blk w7 b3 #[v_a, v_b, v_c, (.bool (off))] 26 := hb7
  refine L_nil ?_
  refine T_n ?_
  refine W_seq ?_
  refine W_reg ?_
  refine L_op rfl (X_loadA (p := (ptr b3 (0))) (xs := [v_a, v_b, v_c, (.bool (off))]) A26 rfl hB3.atAll rfl ?_)
  refine L_op0 (X_storeW (b := b2) (ys := [v_a, v_b, v_c, (.bool (off))]) A26 rfl rfl (List.forall_mem_cons.2 ⟨(hN_a.1.sv.one), (List.forall_mem_cons.2 ⟨(hN_b.1.sv.one), (List.forall_mem_cons.2 ⟨(hN_c.1.sv.one), (List.forall_mem_cons.2 ⟨rfl, (fun _ h => by cases h)⟩)⟩)⟩)⟩) rfl hB2 rfl ?_)
  intro w8 hu8 hb8
  have hz8 := hu8.size
  replace hp := hp.upd hu8 fun i h1 h2 h => by have h : i = b2 := h; omega
  replace hc := hc.upd hu8 fun i h1 h2 h => by have h : i = b2 := h; omega
  replace hb := hb.upd hu8 fun i h1 h2 h => by have h : i = b2 := h; omega
  replace hU := hU.trans (hu8.mono fun i _ h => by have h : i = b2 := h; show n0 ≤ i; omega)
  replace hB1 := hB1.upd hu8 fun h => by have h : b1 = b2 := h; omega
  replace hN_a := hN_a.upd hu8 fun i h1 h2 h => by have h : i = b2 := h; omega
  replace hN_b := hN_b.upd hu8 fun i h1 h2 h => by have h : i = b2 := h; omega
  replace hN_c := hN_c.upd hu8 fun i h1 h2 h => by have h : i = b2 := h; omega
  replace hB3 := hB3.upd hu8 fun h => by have h : b3 = b2 := h; omega
  replace hB2 : Blk w8 b2 #[v_a, v_b, v_c, (.bool (off))] 26 := hb8
  refine L_nil ?_
  refine T_n ?_
  refine W_ret ?_
  have hU2 := hU.own hn0
  exact BQ_r (End_1 Try.results12 (RV_A A26 rfl hB2.atAll rfl) ⟨_, _, _, rfl, hN_a.mono (by omega) (by omega), hN_b.mono (by omega) (by omega), hN_c.mono (by omega) (by omega), hU2⟩)

def RiseI (bs : List Int) : Prop := ∀ (j : Nat) (a b : Int), bs[j]? = some a → bs[j + 1]? = some b → a < b

theorem c_great4 (pv cv bv : Value) (ps : List Pg) (cs : List Wr) (bs : List Int) (off : Bool) (w : World) (lo up : Nat) (hp : NRd LP w lo up pv ps) (hc : NRd LW w lo up cv cs) (hb : NRd LI w lo up bv bs) : CT Try.prog 7 #[(.agg #[pv, cv, bv, (.bool (off))])] w fun v w' => (∃ g, v = .bool g ∧ (g = false → RiseI bs ∧ ps.length ≤ 256 ∧ cs.length ≤ 64 ∧ bs.length ≤ 64)) ∧ Ext w w' := by
  obtain ⟨n0, hn0⟩ : ∃ n, n = w.heap.size := ⟨_, rfl⟩
  have hU : Upd (fun i => n0 ≤ i) w w := Upd.refl _ _
  have hpl := hp.sv.len
  have hcl := hc.sv.len
  have hbl := hb.sv.len
  refine CT_of Try.func7 rfl rfl rfl ?_
  refine W_seq ?_
  refine W_reg ?_
  refine L_op rfl (X_box (v := (.agg #[pv, cv, bv, (.bool (off))])) (c := ([pv, cv, bv, (.bool (off))]).toArray) rfl rfl ?_)
  intro b1 w1 hn1
  have hbn1 := hn1.num; have hbs1 := hn1.size
  replace hp := hp.ext hn1.ext
  replace hc := hc.ext hn1.ext
  replace hb := hb.ext hn1.ext
  replace hU := hU.trans (Ext.upd hn1.ext)
  have hB1 := hn1.blk
  refine L_op rfl (X_assign (v := (.bool (false))) rfl ?_)
  refine L_nil ?_
  refine T_n ?_
  refine W_seq ?_
  refine W_seq ?_
  refine W_reg ?_
  refine L_op rfl (X_assign (v := (.int .i64 (1))) rfl ?_)
  refine L_nil ?_
  refine T_n ?_
  refine W_block ?_
  refine W_loop (α := Nat) [2, 3, 4, 5, 6, 7, 8, 9, 10, 11, 12, 13, 14, 15, 16, 17, 18, 19, 20, 21, 22] (fun i => [(3, (.int .i64 (((i : Nat) : Int))))]) (fun i w_ => 1 ≤ i ∧ (i = 1 ∨ i ≤ bs.length) ∧ NRd LI w_ lo up bv bs ∧ Blk w_ b1 #[pv, cv, bv, .bool off] 26 ∧ Upd (fun i => n0 ≤ i) w w_ ∧ (∀ (j : Nat) (a b : Int), j + 1 < i → bs[j]? = some a → bs[j + 1]? = some b → a < b)) (fun i => bs.length - i) ⟨rfl, 1, ⟨Nat.le_refl _, .inl rfl, hb, hB1, hU, fun j a b h => absurd h (by omega)⟩, Out.refl _ _, ⟨rfl, trivial⟩⟩ ?_
  rintro i w2 _ ⟨hi1, hil, hb, hB1, hU, hz⟩
  refine W_seq ?_
  refine W_seq ?_
  refine W_reg ?_
  refine L_op rfl (X_move (v := (.int .i64 (((i : Nat) : Int)))) rfl ?_)
  refine L_op rfl (X_fldP (b := b1) (o := 0) (r := 2) Fd26_2 rfl rfl ?_)
  refine L_op rfl (X_load (p := (ptr b1 (2))) (v := bv) T24 rfl (hB1.at1 rfl) ?_)
  refine L_op rfl (X_len (v := bv) (n := bs.length) Try.underlying24 rfl hb.sv ?_)
  by_cases hc3 : (((i : Nat) : Int) : Int) < (((bs.length : Nat) : Int))
  · refine L_op rfl (X_cmp (k := .i64) (a := ((i : Nat) : Int)) (b := ((bs.length : Nat) : Int)) (r := true) rfl rfl rfl (decide_eq_true (p := ((((i : Nat) : Int)) : Int) < ((((bs.length : Nat) : Int)) : Int)) (by omega)) ?_)
    have hi : i < bs.length := by omega
    obtain ⟨a, hai⟩ : ∃ a, bs[i - 1]? = some a := ⟨_, List.getElem?_eq_getElem (by omega)⟩
    obtain ⟨b, hbi⟩ : ∃ b, bs[i]? = some b := ⟨_, List.getElem?_eq_getElem hi⟩
    refine L_nil ?_
    refine T_n ?_
    refine W_ct rfl ?_
    refine W_skip ?_
    refine T_n ?_
    refine W_seq ?_
    refine W_block ?_
    refine W_seq ?_
    rcases Bool.eq_false_or_eq_true (decide (b ≤ a)) with hs4 | hs4
    · refine W_draw 11 [[], [0], [], [2], [0, 1, 2, 3], [0, 1, 2, 3, 4], [], [6], [], [6, 7, 8], [6, 7, 8, 9], [0, 1, 2, 3, 4, 5, 6, 7, 8, 9, 10]] mixed (by kernel_rfl) ?_
      refine ⟨.det (fun val => (ptr b1 (2))), ⟨fun _ _ hv => rfl, fun _ _ _ _ _ => trivial⟩, fun val h_ W hx he => ⟨trivial, ?_⟩, ?_⟩
      · replace hx := (Upd.drew _ _).trans hx
        replace hb := hb.ext hx
        replace hB1 := hB1.ext hx
        have hE := Upd.refl (fun _ => False) W
        refine id (X_fldP (b := b1) (o := 0) (r := 2) Fd26_2 rfl rfl ?_)
        exact ⟨hE, rfl⟩
      refine ⟨.det (fun val => bv), ⟨fun _ _ hv => rfl, fun _ _ _ _ _ => trivial⟩, fun val h_ W hx he => ⟨trivial, ?_⟩, ?_⟩
      · replace hx := (Upd.drew _ _).trans hx
        replace hb := hb.ext hx
        replace hB1 := hB1.ext hx
        have hE := Upd.refl (fun _ => False) W
        refine id (X_load (p := (ptr b1 (2))) (v := bv) T24 rfl (hB1.at1 rfl) ?_)
        exact ⟨hE, rfl⟩
      refine ⟨.det (fun val => (.int .i64 (((i : Nat) : Int)))), ⟨fun _ _ hv => rfl, fun _ _ _ _ _ => trivial⟩, fun val h_ W hx he => ⟨trivial, ?_⟩, ?_⟩
      · replace hx := (Upd.drew _ _).trans hx
        replace hb := hb.ext hx
        replace hB1 := hB1.ext hx
        have hE := Upd.refl (fun _ => False) W
        refine id (X_move (v := (.int .i64 (((i : Nat) : Int)))) rfl ?_)
        exact ⟨hE, rfl⟩
      refine ⟨.det (fun val => (.int .i64 (((i - 1 : Nat) : Int)))), ⟨fun _ _ hv => rfl, fun _ _ _ _ _ => trivial⟩, fun val h_ W hx he => ⟨trivial, ?_⟩, ?_⟩
      · replace hx := (Upd.drew _ _).trans hx
        replace hb := hb.ext hx
        replace hB1 := hB1.ext hx
        have hE := Upd.refl (fun _ => False) W
        refine id (X_arith (k := .i64) (a := ((i : Nat) : Int)) (b := 1) (r := ((i - 1 : Nat) : Int)) rfl rfl rfl (isub64 (by omega) (by omega) (by omega)) ?_)
        exact ⟨hE, rfl⟩
      refine ⟨.det (fun val => (pof bv ((((i - 1 : Nat) : Int) : Int).toNat * 1))), ⟨fun _ _ hv => rfl, fun _ _ _ _ _ => trivial⟩, fun val h_ W hx he => ⟨trivial, ?_⟩, ?_⟩
      · replace hx := (Upd.drew _ _).trans hx
        replace hb := hb.ext hx
        replace hB1 := hB1.ext hx
        have hE := Upd.refl (fun _ => False) W
        refine id (X_idx (v := bv) (n := bs.length) (k := .i64) (i := ((i - 1 : Nat) : Int)) S24 rfl hb.sv rfl (by omega) (by omega) ?_)
        exact ⟨hE, rfl⟩
      refine ⟨.det (fun val => (.int .i64 (a))), ⟨fun _ _ hv => rfl, fun _ _ _ _ _ => trivial⟩, fun val h_ W hx he => ⟨trivial, ?_⟩, ?_⟩
      · replace hx := (Upd.drew _ _).trans hx
        replace hb := hb.ext hx
        replace hB1 := hB1.ext hx
        have hE := Upd.refl (fun _ => False) W
        refine id (X_load (v := .int .i64 a) T3 rfl (iat hb (Int.toNat_natCast _) hai) ?_)
        exact ⟨hE, rfl⟩
      refine ⟨.det (fun val => (ptr b1 (2))), ⟨fun _ _ hv => rfl, fun _ _ _ _ _ => trivial⟩, fun val h_ W hx he => ⟨trivial, ?_⟩, ?_⟩
      · replace hx := (Upd.drew _ _).trans hx
        replace hb := hb.ext hx
        replace hB1 := hB1.ext hx
        have hE := Upd.refl (fun _ => False) W
        refine id (X_fldP (b := b1) (o := 0) (r := 2) Fd26_2 rfl rfl ?_)
        exact ⟨hE, rfl⟩
      refine ⟨.det (fun val => bv), ⟨fun _ _ hv => rfl, fun _ _ _ _ _ => trivial⟩, fun val h_ W hx he => ⟨trivial, ?_⟩, ?_⟩
      · replace hx := (Upd.drew _ _).trans hx
        replace hb := hb.ext hx
        replace hB1 := hB1.ext hx
        have hE := Upd.refl (fun _ => False) W
        refine id (X_load (p := (ptr b1 (2))) (v := bv) T24 rfl (hB1.at1 rfl) ?_)
        exact ⟨hE, rfl⟩
      refine ⟨.det (fun val => (.int .i64 (((i : Nat) : Int)))), ⟨fun _ _ hv => rfl, fun _ _ _ _ _ => trivial⟩, fun val h_ W hx he => ⟨trivial, ?_⟩, ?_⟩
      · replace hx := (Upd.drew _ _).trans hx
        replace hb := hb.ext hx
        replace hB1 := hB1.ext hx
        have hE := Upd.refl (fun _ => False) W
        refine id (X_move (v := (.int .i64 (((i : Nat) : Int)))) rfl ?_)
        exact ⟨hE, rfl⟩
      refine ⟨.det (fun val => (pof bv ((((i : Nat) : Int) : Int).toNat * 1))), ⟨fun _ _ hv => rfl, fun _ _ _ _ _ => trivial⟩, fun val h_ W hx he => ⟨trivial, ?_⟩, ?_⟩
      · replace hx := (Upd.drew _ _).trans hx
        replace hb := hb.ext hx
        replace hB1 := hB1.ext hx
        have hE := Upd.refl (fun _ => False) W
        refine id (X_idx (v := bv) (n := bs.length) (k := .i64) (i := ((i : Nat) : Int)) S24 rfl hb.sv rfl (by omega) (by omega) ?_)
        exact ⟨hE, rfl⟩
      refine ⟨.det (fun val => (.int .i64 (b))), ⟨fun _ _ hv => rfl, fun _ _ _ _ _ => trivial⟩, fun val h_ W hx he => ⟨trivial, ?_⟩, ?_⟩
      · replace hx := (Upd.drew _ _).trans hx
        replace hb := hb.ext hx
        replace hB1 := hB1.ext hx
        have hE := Upd.refl (fun _ => False) W
        refine id (X_load (v := .int .i64 b) T3 rfl (iat hb (Int.toNat_natCast _) hbi) ?_)
        exact ⟨hE, rfl⟩
      intro val W5 hx5 he5
      replace hx5 := (Upd.drew _ _).trans hx5
      have hz5 := hx5.size
      replace hb := hb.ext hx5
      replace hU := hU.trans (Ext.upd hx5)
      replace hB1 := hB1.ext hx5
      refine L_op rfl (X_cmp (k := .i64) (a := a) (b := b) (r := true) rfl rfl rfl hs4 ?_)
      refine L_nil ?_
      refine T_n ?_
      refine W_ct rfl ?_
      refine W_seq ?_
      refine W_reg ?_
      refine L_op rfl (X_assign (v := (.bool (true))) rfl ?_)
      refine L_nil ?_
      refine T_n ?_
      refine W_ret ?_
      refine B_r ?_
      refine T_r ?_
      refine T_r ?_
      refine B_r ?_
      refine T_r ?_
      exact BQ_r (End_1 Try.results7 (v := .bool true) rfl ⟨⟨_, rfl, fun h => by cases h⟩, hU.own hn0⟩)
    · refine W_draw 11 [[], [0], [], [2], [0, 1, 2, 3], [0, 1, 2, 3, 4], [], [6], [], [6, 7, 8], [6, 7, 8, 9], [0, 1, 2, 3, 4, 5, 6, 7, 8, 9, 10]] mixed (by kernel_rfl) ?_
      refine ⟨.det (fun val => (ptr b1 (2))), ⟨fun _ _ hv => rfl, fun _ _ _ _ _ => trivial⟩, fun val h_ W hx he => ⟨trivial, ?_⟩, ?_⟩
      · replace hx := (Upd.drew _ _).trans hx
        replace hb := hb.ext hx
        replace hB1 := hB1.ext hx
        have hE := Upd.refl (fun _ => False) W
        refine id (X_fldP (b := b1) (o := 0) (r := 2) Fd26_2 rfl rfl ?_)
        exact ⟨hE, rfl⟩
      refine ⟨.det (fun val => bv), ⟨fun _ _ hv => rfl, fun _ _ _ _ _ => trivial⟩, fun val h_ W hx he => ⟨trivial, ?_⟩, ?_⟩
      · replace hx := (Upd.drew _ _).trans hx
        replace hb := hb.ext hx
        replace hB1 := hB1.ext hx
        have hE := Upd.refl (fun _ => False) W
        refine id (X_load (p := (ptr b1 (2))) (v := bv) T24 rfl (hB1.at1 rfl) ?_)
        exact ⟨hE, rfl⟩
      refine ⟨.det (fun val => (.int .i64 (((i : Nat) : Int)))), ⟨fun _ _ hv => rfl, fun _ _ _ _ _ => trivial⟩, fun val h_ W hx he => ⟨trivial, ?_⟩, ?_⟩
      · replace hx := (Upd.drew _ _).trans hx
        replace hb := hb.ext hx
        replace hB1 := hB1.ext hx
        have hE := Upd.refl (fun _ => False) W
        refine id (X_move (v := (.int .i64 (((i : Nat) : Int)))) rfl ?_)
        exact ⟨hE, rfl⟩
      refine ⟨.det (fun val => (.int .i64 (((i - 1 : Nat) : Int)))), ⟨fun _ _ hv => rfl, fun _ _ _ _ _ => trivial⟩, fun val h_ W hx he => ⟨trivial, ?_⟩, ?_⟩
      · replace hx := (Upd.drew _ _).trans hx
        replace hb := hb.ext hx
        replace hB1 := hB1.ext hx
        have hE := Upd.refl (fun _ => False) W
        refine id (X_arith (k := .i64) (a := ((i : Nat) : Int)) (b := 1) (r := ((i - 1 : Nat) : Int)) rfl rfl rfl (isub64 (by omega) (by omega) (by omega)) ?_)
        exact ⟨hE, rfl⟩
      refine ⟨.det (fun val => (pof bv ((((i - 1 : Nat) : Int) : Int).toNat * 1))), ⟨fun _ _ hv => rfl, fun _ _ _ _ _ => trivial⟩, fun val h_ W hx he => ⟨trivial, ?_⟩, ?_⟩
      · replace hx := (Upd.drew _ _).trans hx
        replace hb := hb.ext hx
        replace hB1 := hB1.ext hx
        have hE := Upd.refl (fun _ => False) W
        refine id (X_idx (v := bv) (n := bs.length) (k := .i64) (i := ((i - 1 : Nat) : Int)) S24 rfl hb.sv rfl (by omega) (by omega) ?_)
        exact ⟨hE, rfl⟩
      refine ⟨.det (fun val => (.int .i64 (a))), ⟨fun _ _ hv => rfl, fun _ _ _ _ _ => trivial⟩, fun val h_ W hx he => ⟨trivial, ?_⟩, ?_⟩
      · replace hx := (Upd.drew _ _).trans hx
        replace hb := hb.ext hx
        replace hB1 := hB1.ext hx
        have hE := Upd.refl (fun _ => False) W
        refine id (X_load (v := .int .i64 a) T3 rfl (iat hb (Int.toNat_natCast _) hai) ?_)
        exact ⟨hE, rfl⟩
      refine ⟨.det (fun val => (ptr b1 (2))), ⟨fun _ _ hv => rfl, fun _ _ _ _ _ => trivial⟩, fun val h_ W hx he => ⟨trivial, ?_⟩, ?_⟩
      · replace hx := (Upd.drew _ _).trans hx
        replace hb := hb.ext hx
        replace hB1 := hB1.ext hx
        have hE := Upd.refl (fun _ => False) W
        refine id (X_fldP (b := b1) (o := 0) (r := 2) Fd26_2 rfl rfl ?_)
        exact ⟨hE, rfl⟩
      refine ⟨.det (fun val => bv), ⟨fun _ _ hv => rfl, fun _ _ _ _ _ => trivial⟩, fun val h_ W hx he => ⟨trivial, ?_⟩, ?_⟩
      · replace hx := (Upd.drew _ _).trans hx
        replace hb := hb.ext hx
        replace hB1 := hB1.ext hx
        have hE := Upd.refl (fun _ => False) W
        refine id (X_load (p := (ptr b1 (2))) (v := bv) T24 rfl (hB1.at1 rfl) ?_)
        exact ⟨hE, rfl⟩
      refine ⟨.det (fun val => (.int .i64 (((i : Nat) : Int)))), ⟨fun _ _ hv => rfl, fun _ _ _ _ _ => trivial⟩, fun val h_ W hx he => ⟨trivial, ?_⟩, ?_⟩
      · replace hx := (Upd.drew _ _).trans hx
        replace hb := hb.ext hx
        replace hB1 := hB1.ext hx
        have hE := Upd.refl (fun _ => False) W
        refine id (X_move (v := (.int .i64 (((i : Nat) : Int)))) rfl ?_)
        exact ⟨hE, rfl⟩
      refine ⟨.det (fun val => (pof bv ((((i : Nat) : Int) : Int).toNat * 1))), ⟨fun _ _ hv => rfl, fun _ _ _ _ _ => trivial⟩, fun val h_ W hx he => ⟨trivial, ?_⟩, ?_⟩
      · replace hx := (Upd.drew _ _).trans hx
        replace hb := hb.ext hx
        replace hB1 := hB1.ext hx
        have hE := Upd.refl (fun _ => False) W
        refine id (X_idx (v := bv) (n := bs.length) (k := .i64) (i := ((i : Nat) : Int)) S24 rfl hb.sv rfl (by omega) (by omega) ?_)
        exact ⟨hE, rfl⟩
      refine ⟨.det (fun val => (.int .i64 (b))), ⟨fun _ _ hv => rfl, fun _ _ _ _ _ => trivial⟩, fun val h_ W hx he => ⟨trivial, ?_⟩, ?_⟩
      · replace hx := (Upd.drew _ _).trans hx
        replace hb := hb.ext hx
        replace hB1 := hB1.ext hx
        have hE := Upd.refl (fun _ => False) W
        refine id (X_load (v := .int .i64 b) T3 rfl (iat hb (Int.toNat_natCast _) hbi) ?_)
        exact ⟨hE, rfl⟩
      intro val W6 hx6 he6
      replace hx6 := (Upd.drew _ _).trans hx6
      have hz6 := hx6.size
      replace hb := hb.ext hx6
      replace hU := hU.trans (Ext.upd hx6)
      replace hB1 := hB1.ext hx6
      refine L_op rfl (X_cmp (k := .i64) (a := a) (b := b) (r := false) rfl rfl rfl hs4 ?_)
      refine L_nil ?_
      refine T_n ?_
      refine W_cf rfl ?_
      refine W_skip ?_
      refine B_n ?_
      refine T_n ?_
      refine W_reg ?_
      refine L_op rfl (X_move (v := (.int .i64 (((i : Nat) : Int)))) rfl ?_)
      refine L_op rfl (X_arith (k := .i64) (a := ((i : Nat) : Int)) (b := 1) (r := ((i + 1 : Nat) : Int)) rfl rfl rfl (iadd64 (by omega) (by omega) (by omega)) ?_)
      refine L_op rfl (X_assign (v := (.int .i64 (((i + 1 : Nat) : Int)))) rfl ?_)
      refine L_nil ?_
      refine T_n ?_
      exact ⟨rfl, i + 1, ⟨⟨by omega, .inr hi, hb, hB1, hU, fun j a_ b_ hj h1 h2 => (Nat.lt_or_ge (j + 1) i).elim (fun h3 => hz j a_ b_ h3 h1 h2) fun h3 => by obtain rfl : i = j + 1 := by { omega }; rw [Nat.add_sub_cancel] at hai; rw [h1] at hai; rw [h2] at hbi; cases hai; cases hbi; have := of_decide_eq_false hs4; omega⟩, (by show bs.length - (i + 1) < bs.length - i; omega)⟩, (Out.mk rfl), ⟨rfl, trivial⟩⟩
  · refine L_op rfl (X_cmp (k := .i64) (a := ((i : Nat) : Int)) (b := ((bs.length : Nat) : Int)) (r := false) rfl rfl rfl (decide_eq_false (p := ((((i : Nat) : Int)) : Int) < ((((bs.length : Nat) : Int)) : Int)) (by omega)) ?_)
    refine L_nil ?_
    refine T_n ?_
    refine W_cf rfl ?_
    refine W_exit ?_
    refine T_e ?_
    refine T_e ?_
    refine B_x ?_
    refine T_n ?_
    refine W_seq ?_
    refine W_reg ?_
    refine L_op rfl (X_fldP (b := b1) (o := 0) (r := 0) Fd26_0 rfl rfl ?_)
    refine L_op rfl (X_load (p := (ptr b1 (0))) (v := pv) T22 rfl (hB1.at1 rfl) ?_)
    refine L_op rfl (X_len (v := pv) (n := ps.length) Try.underlying22 rfl hp.sv ?_)
    by_cases hc7 : (((ps.length : Nat) : Int) : Int) > (256)
    · refine L_op rfl (X_cmp (k := .i64) (a := ((ps.length : Nat) : Int)) (b := 256) (r := true) rfl rfl rfl (decide_eq_true (p := ((256) : Int) < ((((ps.length : Nat) : Int)) : Int)) (by omega)) ?_)
      refine L_op rfl (X_move (v := (.bool (true))) rfl ?_)
      refine L_gn (dj := 27) (t := true) rfl rfl rfl rfl ?_
      refine L_gn (dj := 27) (t := true) rfl rfl rfl rfl ?_
      refine L_gn (dj := 27) (t := true) rfl rfl rfl rfl ?_
      refine L_gn (dj := 27) (t := true) rfl rfl rfl rfl ?_
      refine L_op rfl (X_pick (t := true) (v := (.bool (true))) rfl rfl ?_)
      refine L_op rfl (X_move (v := (.bool (true))) rfl ?_)
      refine L_gn (dj := 33) (t := true) rfl rfl rfl rfl ?_
      refine L_gn (dj := 33) (t := true) rfl rfl rfl rfl ?_
      refine L_gn (dj := 33) (t := true) rfl rfl rfl rfl ?_
      refine L_gn (dj := 33) (t := true) rfl rfl rfl rfl ?_
      refine L_op rfl (X_pick (t := true) (v := (.bool (true))) rfl rfl ?_)
      refine L_op rfl (X_assign (v := (.bool (true))) rfl ?_)
      refine L_nil ?_
      refine T_n ?_
      refine W_ret ?_
      exact BQ_r (End_1 Try.results7 (v := .bool true) rfl ⟨⟨_, rfl, fun h => by cases h⟩, hU.own hn0⟩)
    · refine L_op rfl (X_cmp (k := .i64) (a := ((ps.length : Nat) : Int)) (b := 256) (r := false) rfl rfl rfl (decide_eq_false (p := ((256) : Int) < ((((ps.length : Nat) : Int)) : Int)) (by omega)) ?_)
      refine L_op rfl (X_move (v := (.bool (false))) rfl ?_)
      refine L_gy (dj := 27) rfl rfl rfl (X_fldP (b := b1) (o := 0) (r := 1) Fd26_1 rfl rfl ?_)
      refine L_gy (dj := 27) rfl rfl rfl (X_load (p := (ptr b1 (1))) (v := cv) T23 rfl (hB1.at1 rfl) ?_)
      refine L_gy (dj := 27) rfl rfl rfl (X_len (v := cv) (n := cs.length) Try.underlying23 rfl hc.sv ?_)
      by_cases hc8 : (((cs.length : Nat) : Int) : Int) > (64)
      · refine L_gy (dj := 27) rfl rfl rfl (X_cmp (k := .i64) (a := ((cs.length : Nat) : Int)) (b := 64) (r := true) rfl rfl rfl (decide_eq_true (p := ((64) : Int) < ((((cs.length : Nat) : Int)) : Int)) (by omega)) ?_)
        refine L_op rfl (X_pick (t := false) (v := (.bool (true))) rfl rfl ?_)
        refine L_op rfl (X_move (v := (.bool (true))) rfl ?_)
        refine L_gn (dj := 33) (t := true) rfl rfl rfl rfl ?_
        refine L_gn (dj := 33) (t := true) rfl rfl rfl rfl ?_
        refine L_gn (dj := 33) (t := true) rfl rfl rfl rfl ?_
        refine L_gn (dj := 33) (t := true) rfl rfl rfl rfl ?_
        refine L_op rfl (X_pick (t := true) (v := (.bool (true))) rfl rfl ?_)
        refine L_op rfl (X_assign (v := (.bool (true))) rfl ?_)
        refine L_nil ?_
        refine T_n ?_
        refine W_ret ?_
        exact BQ_r (End_1 Try.results7 (v := .bool true) rfl ⟨⟨_, rfl, fun h => by cases h⟩, hU.own hn0⟩)
      · refine L_gy (dj := 27) rfl rfl rfl (X_cmp (k := .i64) (a := ((cs.length : Nat) : Int)) (b := 64) (r := false) rfl rfl rfl (decide_eq_false (p := ((64) : Int) < ((((cs.length : Nat) : Int)) : Int)) (by omega)) ?_)
        refine L_op rfl (X_pick (t := false) (v := (.bool (false))) rfl rfl ?_)
        refine L_op rfl (X_move (v := (.bool (false))) rfl ?_)
        refine L_gy (dj := 33) rfl rfl rfl (X_fldP (b := b1) (o := 0) (r := 2) Fd26_2 rfl rfl ?_)
        refine L_gy (dj := 33) rfl rfl rfl (X_load (p := (ptr b1 (2))) (v := bv) T24 rfl (hB1.at1 rfl) ?_)
        refine L_gy (dj := 33) rfl rfl rfl (X_len (v := bv) (n := bs.length) Try.underlying24 rfl hb.sv ?_)
        by_cases hc9 : (((bs.length : Nat) : Int) : Int) > (64)
        · refine L_gy (dj := 33) rfl rfl rfl (X_cmp (k := .i64) (a := ((bs.length : Nat) : Int)) (b := 64) (r := true) rfl rfl rfl (decide_eq_true (p := ((64) : Int) < ((((bs.length : Nat) : Int)) : Int)) (by omega)) ?_)
          refine L_op rfl (X_pick (t := false) (v := (.bool (true))) rfl rfl ?_)
          refine L_op rfl (X_assign (v := (.bool (true))) rfl ?_)
          refine L_nil ?_
          refine T_n ?_
          refine W_ret ?_
          exact BQ_r (End_1 Try.results7 (v := .bool true) rfl ⟨⟨_, rfl, fun h => by cases h⟩, hU.own hn0⟩)
        · refine L_gy (dj := 33) rfl rfl rfl (X_cmp (k := .i64) (a := ((bs.length : Nat) : Int)) (b := 64) (r := false) rfl rfl rfl (decide_eq_false (p := ((64) : Int) < ((((bs.length : Nat) : Int)) : Int)) (by omega)) ?_)
          refine L_op rfl (X_pick (t := false) (v := (.bool (false))) rfl rfl ?_)
          refine L_op rfl (X_assign (v := (.bool (false))) rfl ?_)
          refine L_nil ?_
          refine T_n ?_
          refine W_ret ?_
          exact BQ_r (End_1 Try.results7 (v := .bool false) rfl ⟨⟨_, rfl, fun _ => ⟨fun j a b h1 h2 => hz j a b (by have := (List.getElem?_eq_some_iff.1 h2).1; omega) h1 h2, by omega, by omega, by omega⟩⟩, hU.own hn0⟩)

theorem c_same4 (pv cv bv : Value) (ps : List Pg) (cs : List Wr) (bs : List Int) (off : Bool) (pv2 cv2 bv2 : Value) (ps2 : List Pg) (cs2 : List Wr) (bs2 : List Int) (off2 : Bool) (w : World) (lo up lo2 up2 : Nat) (hp : NRd LP w lo up pv ps) (hc : NRd LW w lo up cv cs) (hb : NRd LI w lo up bv bs) (hp2 : NRd LP w lo2 up2 pv2 ps2) (hc2 : NRd LW w lo2 up2 cv2 cs2) (hb2 : NRd LI w lo2 up2 bv2 bs2) : CT Try.prog 11 #[(.agg #[pv, cv, bv, (.bool (off))]), (.agg #[pv2, cv2, bv2, (.bool (off2))])] w fun v w' => (∃ g, v = .bool g ∧ (g = true ↔ ps = ps2 ∧ cs = cs2 ∧ bs = bs2 ∧ off = off2)) ∧ Ext w w' := by
  obtain ⟨n0, hn0⟩ : ∃ n, n = w.heap.size := ⟨_, rfl⟩
  have hU : Upd (fun i => n0 ≤ i) w w := Upd.refl _ _
  have hpl := hp.sv.len
  have hcl := hc.sv.len
  have hbl := hb.sv.len
  have hpl2 := hp2.sv.len
  have hcl2 := hc2.sv.len
  have hbl2 := hb2.sv.len
  refine CT_of Try.func11 rfl rfl rfl ?_
  refine W_seq ?_
  refine W_reg ?_
  refine L_op rfl (X_box (v := (.agg #[pv, cv, bv, (.bool (off))])) (c := ([pv, cv, bv, (.bool (off))]).toArray) rfl rfl ?_)
  intro b1 w1 hn1
  have hbn1 := hn1.num; have hbs1 := hn1.size
  replace hp := hp.ext hn1.ext
  replace hc := hc.ext hn1.ext
  replace hb := hb.ext hn1.ext
  replace hp2 := hp2.ext hn1.ext
  replace hc2 := hc2.ext hn1.ext
  replace hb2 := hb2.ext hn1.ext
  replace hU := hU.trans (Ext.upd hn1.ext)
  have hB1 := hn1.blk
  refine L_op rfl (X_box (v := (.agg #[pv2, cv2, bv2, (.bool (off2))])) (c := ([pv2, cv2, bv2, (.bool (off2))]).toArray) rfl rfl ?_)
  intro b2 w2 hn2
  have hbn2 := hn2.num; have hbs2 := hn2.size
  replace hp := hp.ext hn2.ext
  replace hc := hc.ext hn2.ext
  replace hb := hb.ext hn2.ext
  replace hp2 := hp2.ext hn2.ext
  replace hc2 := hc2.ext hn2.ext
  replace hb2 := hb2.ext hn2.ext
  replace hU := hU.trans (Ext.upd hn2.ext)
  replace hB1 := hB1.ext hn2.ext
  have hB2 := hn2.blk
  refine L_op rfl (X_assign (v := (.bool (false))) rfl ?_)
  refine L_nil ?_
  refine T_n ?_
  refine W_seq ?_
  refine W_seq ?_
  refine W_reg ?_
  refine L_op rfl (X_fldP (b := b1) (o := 0) (r := 3) Fd26_3 rfl rfl ?_)
  refine L_op rfl (X_load (p := (ptr b1 (3))) (v := (.bool (off))) T4 rfl (hB1.at1 rfl) ?_)
  refine L_op rfl (X_fldP (b := b2) (o := 0) (r := 3) Fd26_3 rfl rfl ?_)
  refine L_op rfl (X_load (p := (ptr b2 (3))) (v := (.bool (off2))) T4 rfl (hB2.at1 rfl) ?_)
  rcases Bool.eq_false_or_eq_true (off == off2) with hoo | hoo
  · refine L_op rfl (X_cmpBool (a := off) (b := off2) (r := false) Try.underlying4 rfl rfl (.inr ⟨rfl, by rw [hoo]; rfl⟩) ?_)
    refine L_op rfl (X_move (v := (.bool (false))) rfl ?_)
    refine L_gy (dj := 13) rfl rfl rfl (X_fldP (b := b1) (o := 0) (r := 0) Fd26_0 rfl rfl ?_)
    refine L_gy (dj := 13) rfl rfl rfl (X_load (p := (ptr b1 (0))) (v := pv) T22 rfl (hB1.at1 rfl) ?_)
    refine L_gy (dj := 13) rfl rfl rfl (X_len (v := pv) (n := ps.length) Try.underlying22 rfl hp.sv ?_)
    refine L_gy (dj := 13) rfl rfl rfl (X_fldP (b := b2) (o := 0) (r := 0) Fd26_0 rfl rfl ?_)
    refine L_gy (dj := 13) rfl rfl rfl (X_load (p := (ptr b2 (0))) (v := pv2) T22 rfl (hB2.at1 rfl) ?_)
    refine L_gy (dj := 13) rfl rfl rfl (X_len (v := pv2) (n := ps2.length) Try.underlying22 rfl hp2.sv ?_)
    by_cases hc3 : (((ps.length : Nat) : Int) : Int) ≠ (((ps2.length : Nat) : Int))
    · refine L_gy (dj := 13) rfl rfl rfl (X_cmp (k := .i64) (a := ((ps.length : Nat) : Int)) (b := ((ps2.length : Nat) : Int)) (r := true) rfl rfl rfl (decide_eq_true (p := ((((ps.length : Nat) : Int)) : Int) ≠ ((((ps2.length : Nat) : Int)) : Int)) (by omega)) ?_)
      refine L_op rfl (X_pick (t := false) (v := (.bool (true))) rfl rfl ?_)
      refine L_op rfl (X_move (v := (.bool (true))) rfl ?_)
      refine L_gn (dj := 22) (t := true) rfl rfl rfl rfl ?_
      refine L_gn (dj := 22) (t := true) rfl rfl rfl rfl ?_
      refine L_gn (dj := 22) (t := true) rfl rfl rfl rfl ?_
      refine L_gn (dj := 22) (t := true) rfl rfl rfl rfl ?_
      refine L_gn (dj := 22) (t := true) rfl rfl rfl rfl ?_
      refine L_gn (dj := 22) (t := true) rfl rfl rfl rfl ?_
      refine L_gn (dj := 22) (t := true) rfl rfl rfl rfl ?_
      refine L_op rfl (X_pick (t := true) (v := (.bool (true))) rfl rfl ?_)
      refine L_op rfl (X_move (v := (.bool (true))) rfl ?_)
      refine L_gn (dj := 31) (t := true) rfl rfl rfl rfl ?_
      refine L_gn (dj := 31) (t := true) rfl rfl rfl rfl ?_
      refine L_gn (dj := 31) (t := true) rfl rfl rfl rfl ?_
      refine L_gn (dj := 31) (t := true) rfl rfl rfl rfl ?_
      refine L_gn (dj := 31) (t := true) rfl rfl rfl rfl ?_
      refine L_gn (dj := 31) (t := true) rfl rfl rfl rfl ?_
      refine L_gn (dj := 31) (t := true) rfl rfl rfl rfl ?_
      refine L_op rfl (X_pick (t := true) (v := (.bool (true))) rfl rfl ?_)
      refine L_nil ?_
      refine T_n ?_
      refine W_ct rfl ?_
      refine W_seq ?_
      refine W_reg ?_
      refine L_op rfl (X_assign (v := (.bool (false))) rfl ?_)
      refine L_nil ?_
      refine T_n ?_
      refine W_ret ?_
      refine T_r ?_
      exact BQ_r (End_1 Try.results11 (v := .bool false) rfl ⟨⟨false, rfl, ⟨fun h => (by cases h), fun h => (by have h1 := congrArg List.length h.1; have h2 := congrArg List.length h.2.1; have h3 := congrArg List.length h.2.2.1; omega)⟩⟩, hU.own hn0⟩)
    · refine L_gy (dj := 13) rfl rfl rfl (X_cmp (k := .i64) (a := ((ps.length : Nat) : Int)) (b := ((ps2.length : Nat) : Int)) (r := false) rfl rfl rfl (decide_eq_false (p := ((((ps.length : Nat) : Int)) : Int) ≠ ((((ps2.length : Nat) : Int)) : Int)) (by omega)) ?_)
      refine L_op rfl (X_pick (t := false) (v := (.bool (false))) rfl rfl ?_)
      refine L_op rfl (X_move (v := (.bool (false))) rfl ?_)
      refine L_gy (dj := 22) rfl rfl rfl (X_fldP (b := b1) (o := 0) (r := 1) Fd26_1 rfl rfl ?_)
      refine L_gy (dj := 22) rfl rfl rfl (X_load (p := (ptr b1 (1))) (v := cv) T23 rfl (hB1.at1 rfl) ?_)
      refine L_gy (dj := 22) rfl rfl rfl (X_len (v := cv) (n := cs.length) Try.underlying23 rfl hc.sv ?_)
      refine L_gy (dj := 22) rfl rfl rfl (X_fldP (b := b2) (o := 0) (r := 1) Fd26_1 rfl rfl ?_)
      refine L_gy (dj := 22) rfl rfl rfl (X_load (p := (ptr b2 (1))) (v := cv2) T23 rfl (hB2.at1 rfl) ?_)
      refine L_gy (dj := 22) rfl rfl rfl (X_len (v := cv2) (n := cs2.length) Try.underlying23 rfl hc2.sv ?_)
      by_cases hc4 : (((cs.length : Nat) : Int) : Int) ≠ (((cs2.length : Nat) : Int))
      · refine L_gy (dj := 22) rfl rfl rfl (X_cmp (k := .i64) (a := ((cs.length : Nat) : Int)) (b := ((cs2.length : Nat) : Int)) (r := true) rfl rfl rfl (decide_eq_true (p := ((((cs.length : Nat) : Int)) : Int) ≠ ((((cs2.length : Nat) : Int)) : Int)) (by omega)) ?_)
        refine L_op rfl (X_pick (t := false) (v := (.bool (true))) rfl rfl ?_)
        refine L_op rfl (X_move (v := (.bool (true))) rfl ?_)
        refine L_gn (dj := 31) (t := true) rfl rfl rfl rfl ?_
        refine L_gn (dj := 31) (t := true) rfl rfl rfl rfl ?_
        refine L_gn (dj := 31) (t := true) rfl rfl rfl rfl ?_
        refine L_gn (dj := 31) (t := true) rfl rfl rfl rfl ?_
        refine L_gn (dj := 31) (t := true) rfl rfl rfl rfl ?_
        refine L_gn (dj := 31) (t := true) rfl rfl rfl rfl ?_
        refine L_gn (dj := 31) (t := true) rfl rfl rfl rfl ?_
        refine L_op rfl (X_pick (t := true) (v := (.bool (true))) rfl rfl ?_)
        refine L_nil ?_
        refine T_n ?_
        refine W_ct rfl ?_
        refine W_seq ?_
        refine W_reg ?_
        refine L_op rfl (X_assign (v := (.bool (false))) rfl ?_)
        refine L_nil ?_
        refine T_n ?_
        refine W_ret ?_
        refine T_r ?_
        exact BQ_r (End_1 Try.results11 (v := .bool false) rfl ⟨⟨false, rfl, ⟨fun h => (by cases h), fun h => (by have h1 := congrArg List.length h.1; have h2 := congrArg List.length h.2.1; have h3 := congrArg List.length h.2.2.1; omega)⟩⟩, hU.own hn0⟩)
      · refine L_gy (dj := 22) rfl rfl rfl (X_cmp (k := .i64) (a := ((cs.length : Nat) : Int)) (b := ((cs2.length : Nat) : Int)) (r := false) rfl rfl rfl (decide_eq_false (p := ((((cs.length : Nat) : Int)) : Int) ≠ ((((cs2.length : Nat) : Int)) : Int)) (by omega)) ?_)
        refine L_op rfl (X_pick (t := false) (v := (.bool (false))) rfl rfl ?_)
        refine L_op rfl (X_move (v := (.bool (false))) rfl ?_)
        refine L_gy (dj := 31) rfl rfl rfl (X_fldP (b := b1) (o := 0) (r := 2) Fd26_2 rfl rfl ?_)
        refine L_gy (dj := 31) rfl rfl rfl (X_load (p := (ptr b1 (2))) (v := bv) T24 rfl (hB1.at1 rfl) ?_)
        refine L_gy (dj := 31) rfl rfl rfl (X_len (v := bv) (n := bs.length) Try.underlying24 rfl hb.sv ?_)
        refine L_gy (dj := 31) rfl rfl rfl (X_fldP (b := b2) (o := 0) (r := 2) Fd26_2 rfl rfl ?_)
        refine L_gy (dj := 31) rfl rfl rfl (X_load (p := (ptr b2 (2))) (v := bv2) T24 rfl (hB2.at1 rfl) ?_)
        refine L_gy (dj := 31) rfl rfl rfl (X_len (v := bv2) (n := bs2.length) Try.underlying24 rfl hb2.sv ?_)
        by_cases hc5 : (((bs.length : Nat) : Int) : Int) ≠ (((bs2.length : Nat) : Int))
        · refine L_gy (dj := 31) rfl rfl rfl (X_cmp (k := .i64) (a := ((bs.length : Nat) : Int)) (b := ((bs2.length : Nat) : Int)) (r := true) rfl rfl rfl (decide_eq_true (p := ((((bs.length : Nat) : Int)) : Int) ≠ ((((bs2.length : Nat) : Int)) : Int)) (by omega)) ?_)
          refine L_op rfl (X_pick (t := false) (v := (.bool (true))) rfl rfl ?_)
          refine L_nil ?_
          refine T_n ?_
          refine W_ct rfl ?_
          refine W_seq ?_
          refine W_reg ?_
          refine L_op rfl (X_assign (v := (.bool (false))) rfl ?_)
          refine L_nil ?_
          refine T_n ?_
          refine W_ret ?_
          refine T_r ?_
          exact BQ_r (End_1 Try.results11 (v := .bool false) rfl ⟨⟨false, rfl, ⟨fun h => (by cases h), fun h => (by have h1 := congrArg List.length h.1; have h2 := congrArg List.length h.2.1; have h3 := congrArg List.length h.2.2.1; omega)⟩⟩, hU.own hn0⟩)
        · refine L_gy (dj := 31) rfl rfl rfl (X_cmp (k := .i64) (a := ((bs.length : Nat) : Int)) (b := ((bs2.length : Nat) : Int)) (r := false) rfl rfl rfl (decide_eq_false (p := ((((bs.length : Nat) : Int)) : Int) ≠ ((((bs2.length : Nat) : Int)) : Int)) (by omega)) ?_)
          refine L_op rfl (X_pick (t := false) (v := (.bool (false))) rfl rfl ?_)
          refine L_nil ?_
          refine T_n ?_
          refine W_cf rfl ?_
          refine W_skip ?_
          refine T_n ?_
          refine W_seq ?_
          refine W_seq ?_
          refine W_reg ?_
          refine L_op rfl (X_assign (v := (.int .i64 (0))) rfl ?_)
          refine L_nil ?_
          refine T_n ?_
          refine W_block ?_
          refine W_loop (α := Nat) [4, 5, 40, 41, 42, 43, 44, 45, 46, 47, 48, 49, 50, 51, 52, 53, 54, 55, 56, 57] (fun i => [(5, (.int .i64 (((i : Nat) : Int))))]) (fun i w_ => i ≤ ps.length ∧ NRd LP w_ lo up pv ps ∧ NRd LP w_ lo2 up2 pv2 ps2 ∧ NRd LW w_ lo up cv cs ∧ NRd LW w_ lo2 up2 cv2 cs2 ∧ Blk w_ b1 #[pv, cv, bv, .bool off] 26 ∧ Blk w_ b2 #[pv2, cv2, bv2, .bool off2] 26 ∧ Upd (fun i => n0 ≤ i) w w_ ∧ NRd LI w_ lo up bv bs ∧ NRd LI w_ lo2 up2 bv2 bs2 ∧ ps.take i = ps2.take i) (fun i => ps.length - i) ⟨rfl, 0, ⟨Nat.zero_le _, hp, hp2, hc, hc2, hB1, hB2, hU, hb, hb2, rfl⟩, Out.refl _ _, ⟨rfl, trivial⟩⟩ ?_
          rintro i w6 _ ⟨hil, hp, hp2, hc, hc2, hB1, hB2, hU, hb, hb2, hzp⟩
          refine W_seq ?_
          refine W_seq ?_
          refine W_reg ?_
          refine L_op rfl (X_move (v := (.int .i64 (((i : Nat) : Int)))) rfl ?_)
          refine L_op rfl (X_fldP (b := b1) (o := 0) (r := 0) Fd26_0 rfl rfl ?_)
          refine L_op rfl (X_load (p := (ptr b1 (0))) (v := pv) T22 rfl (hB1.at1 rfl) ?_)
          refine L_op rfl (X_len (v := pv) (n := ps.length) Try.underlying22 rfl hp.sv ?_)
          by_cases hc7 : (((i : Nat) : Int) : Int) < (((ps.length : Nat) : Int))
          · refine L_op rfl (X_cmp (k := .i64) (a := ((i : Nat) : Int)) (b := ((ps.length : Nat) : Int)) (r := true) rfl rfl rfl (decide_eq_true (p := ((((i : Nat) : Int)) : Int) < ((((ps.length : Nat) : Int)) : Int)) (by omega)) ?_)
            have hi : i < ps.length := by omega
            obtain ⟨a, hai⟩ : ∃ a, ps[i]? = some a := ⟨_, List.getElem?_eq_getElem hi⟩
            obtain ⟨b, hbi⟩ : ∃ b, ps2[i]? = some b := ⟨_, List.getElem?_eq_getElem (by omega)⟩
            refine L_nil ?_
            refine T_n ?_
            refine W_ct rfl ?_
            refine W_skip ?_
            refine T_n ?_
            refine W_seq ?_
            refine W_block ?_
            refine W_seq ?_
            rcases Bool.eq_false_or_eq_true ((a.1 == b.1)) with hs8 | hs8
            · refine W_draw 10 [[], [0], [], [0, 1, 2], [0, 1, 2, 3], [], [5], [], [5, 6, 7], [5, 6, 7, 8], [0, 1, 2, 3, 4, 5, 6, 7, 8, 9]] mixed (by kernel_rfl) ?_
              refine ⟨.det (fun val => (ptr b1 (0))), ⟨fun _ _ hv => rfl, fun _ _ _ _ _ => trivial⟩, fun val h_ W hx he => ⟨trivial, ?_⟩, ?_⟩
              · replace hx := (Upd.drew _ _).trans hx
                replace hp := hp.ext hx
                replace hp2 := hp2.ext hx
                replace hc := hc.ext hx
                replace hc2 := hc2.ext hx
                replace hB1 := hB1.ext hx
                replace hB2 := hB2.ext hx
                replace hb := hb.ext hx
                replace hb2 := hb2.ext hx
                have hE := Upd.refl (fun _ => False) W
                refine id (X_fldP (b := b1) (o := 0) (r := 0) Fd26_0 rfl rfl ?_)
                exact ⟨hE, rfl⟩
              refine ⟨.det (fun val => pv), ⟨fun _ _ hv => rfl, fun _ _ _ _ _ => trivial⟩, fun val h_ W hx he => ⟨trivial, ?_⟩, ?_⟩
              · replace hx := (Upd.drew _ _).trans hx
                replace hp := hp.ext hx
                replace hp2 := hp2.ext hx
                replace hc := hc.ext hx
                replace hc2 := hc2.ext hx
                replace hB1 := hB1.ext hx
                replace hB2 := hB2.ext hx
                replace hb := hb.ext hx
                replace hb2 := hb2.ext hx
                have hE := Upd.refl (fun _ => False) W
                refine id (X_load (p := (ptr b1 (0))) (v := pv) T22 rfl (hB1.at1 rfl) ?_)
                exact ⟨hE, rfl⟩
              refine ⟨.det (fun val => (.int .i64 (((i : Nat) : Int)))), ⟨fun _ _ hv => rfl, fun _ _ _ _ _ => trivial⟩, fun val h_ W hx he => ⟨trivial, ?_⟩, ?_⟩
              · replace hx := (Upd.drew _ _).trans hx
                replace hp := hp.ext hx
                replace hp2 := hp2.ext hx
                replace hc := hc.ext hx
                replace hc2 := hc2.ext hx
                replace hB1 := hB1.ext hx
                replace hB2 := hB2.ext hx
                replace hb := hb.ext hx
                replace hb2 := hb2.ext hx
                have hE := Upd.refl (fun _ => False) W
                refine id (X_move (v := (.int .i64 (((i : Nat) : Int)))) rfl ?_)
                exact ⟨hE, rfl⟩
              refine ⟨.det (fun val => (pof pv ((((i : Nat) : Int) : Int).toNat * 256))), ⟨fun _ _ hv => rfl, fun _ _ _ _ _ => trivial⟩, fun val h_ W hx he => ⟨trivial, ?_⟩, ?_⟩
              · replace hx := (Upd.drew _ _).trans hx
                replace hp := hp.ext hx
                replace hp2 := hp2.ext hx
                replace hc := hc.ext hx
                replace hc2 := hc2.ext hx
                replace hB1 := hB1.ext hx
                replace hB2 := hB2.ext hx
                replace hb := hb.ext hx
                replace hb2 := hb2.ext hx
                have hE := Upd.refl (fun _ => False) W
                refine id (X_idx (v := pv) (n := ps.length) (k := .i64) (i := ((i : Nat) : Int)) S22 rfl hp.sv rfl (by omega) (by omega) ?_)
                exact ⟨hE, rfl⟩
              refine ⟨.det (fun val => (.agg (((a.1).map byteV)).toArray)), ⟨fun _ _ hv => rfl, fun _ _ _ _ _ => trivial⟩, fun val h_ W hx he => ⟨trivial, ?_⟩, ?_⟩
              · replace hx := (Upd.drew _ _).trans hx
                replace hp := hp.ext hx
                replace hp2 := hp2.ext hx
                replace hc := hc.ext hx
                replace hc2 := hc2.ext hx
                replace hB1 := hB1.ext hx
                replace hB2 := hB2.ext hx
                replace hb := hb.ext hx
                replace hb2 := hb2.ext hx
                have hE := Upd.refl (fun _ => False) W
                refine id (X_loadA (xs := a.1.map byteV) A33 rfl (pall hp (Int.toNat_natCast _) hai) (by rw [List.length_map]; exact a.2) ?_)
                exact ⟨hE, rfl⟩
              refine ⟨.det (fun val => (ptr b2 (0))), ⟨fun _ _ hv => rfl, fun _ _ _ _ _ => trivial⟩, fun val h_ W hx he => ⟨trivial, ?_⟩, ?_⟩
              · replace hx := (Upd.drew _ _).trans hx
                replace hp := hp.ext hx
                replace hp2 := hp2.ext hx
                replace hc := hc.ext hx
                replace hc2 := hc2.ext hx
                replace hB1 := hB1.ext hx
                replace hB2 := hB2.ext hx
                replace hb := hb.ext hx
                replace hb2 := hb2.ext hx
                have hE := Upd.refl (fun _ => False) W
                refine id (X_fldP (b := b2) (o := 0) (r := 0) Fd26_0 rfl rfl ?_)
                exact ⟨hE, rfl⟩
              refine ⟨.det (fun val => pv2), ⟨fun _ _ hv => rfl, fun _ _ _ _ _ => trivial⟩, fun val h_ W hx he => ⟨trivial, ?_⟩, ?_⟩
              · replace hx := (Upd.drew _ _).trans hx
                replace hp := hp.ext hx
                replace hp2 := hp2.ext hx
                replace hc := hc.ext hx
                replace hc2 := hc2.ext hx
                replace hB1 := hB1.ext hx
                replace hB2 := hB2.ext hx
                replace hb := hb.ext hx
                replace hb2 := hb2.ext hx
                have hE := Upd.refl (fun _ => False) W
                refine id (X_load (p := (ptr b2 (0))) (v := pv2) T22 rfl (hB2.at1 rfl) ?_)
                exact ⟨hE, rfl⟩
              refine ⟨.det (fun val => (.int .i64 (((i : Nat) : Int)))), ⟨fun _ _ hv => rfl, fun _ _ _ _ _ => trivial⟩, fun val h_ W hx he => ⟨trivial, ?_⟩, ?_⟩
              · replace hx := (Upd.drew _ _).trans hx
                replace hp := hp.ext hx
                replace hp2 := hp2.ext hx
                replace hc := hc.ext hx
                replace hc2 := hc2.ext hx
                replace hB1 := hB1.ext hx
                replace hB2 := hB2.ext hx
                replace hb := hb.ext hx
                replace hb2 := hb2.ext hx
                have hE := Upd.refl (fun _ => False) W
                refine id (X_move (v := (.int .i64 (((i : Nat) : Int)))) rfl ?_)
                exact ⟨hE, rfl⟩
              refine ⟨.det (fun val => (pof pv2 ((((i : Nat) : Int) : Int).toNat * 256))), ⟨fun _ _ hv => rfl, fun _ _ _ _ _ => trivial⟩, fun val h_ W hx he => ⟨trivial, ?_⟩, ?_⟩
              · replace hx := (Upd.drew _ _).trans hx
                replace hp := hp.ext hx
                replace hp2 := hp2.ext hx
                replace hc := hc.ext hx
                replace hc2 := hc2.ext hx
                replace hB1 := hB1.ext hx
                replace hB2 := hB2.ext hx
                replace hb := hb.ext hx
                replace hb2 := hb2.ext hx
                have hE := Upd.refl (fun _ => False) W
                refine id (X_idx (v := pv2) (n := ps2.length) (k := .i64) (i := ((i : Nat) : Int)) S22 rfl hp2.sv rfl (by omega) (by omega) ?_)
                exact ⟨hE, rfl⟩
              refine ⟨.det (fun val => (.agg (((b.1).map byteV)).toArray)), ⟨fun _ _ hv => rfl, fun _ _ _ _ _ => trivial⟩, fun val h_ W hx he => ⟨trivial, ?_⟩, ?_⟩
              · replace hx := (Upd.drew _ _).trans hx
                replace hp := hp.ext hx
                replace hp2 := hp2.ext hx
                replace hc := hc.ext hx
                replace hc2 := hc2.ext hx
                replace hB1 := hB1.ext hx
                replace hB2 := hB2.ext hx
                replace hb := hb.ext hx
                replace hb2 := hb2.ext hx
                have hE := Upd.refl (fun _ => False) W
                refine id (X_loadA (xs := b.1.map byteV) A33 rfl (pall hp2 (Int.toNat_natCast _) hbi) (by rw [List.length_map]; exact b.2) ?_)
                exact ⟨hE, rfl⟩
              intro val W9 hx9 he9
              replace hx9 := (Upd.drew _ _).trans hx9
              have hz9 := hx9.size
              replace hp := hp.ext hx9
              replace hp2 := hp2.ext hx9
              replace hc := hc.ext hx9
              replace hc2 := hc2.ext hx9
              replace hU := hU.trans (Ext.upd hx9)
              replace hB1 := hB1.ext hx9
              replace hB2 := hB2.ext hx9
              replace hb := hb.ext hx9
              replace hb2 := hb2.ext hx9
              refine L_op rfl (X_eqA (n := 256) (l := a.1) (m := b.1) (r := false) Try.underlying33 Try.underlying5 (by kernel_rfl) (by kernel_rfl) (by kernel_rfl) rfl rfl (a.2) (b.2) (.inr ⟨rfl, (by rw [hs8]; rfl)⟩) ?_)
              refine L_nil ?_
              refine T_n ?_
              refine W_cf rfl ?_
              refine W_skip ?_
              refine B_n ?_
              refine T_n ?_
              refine W_reg ?_
              refine L_op rfl (X_move (v := (.int .i64 (((i : Nat) : Int)))) rfl ?_)
              refine L_op rfl (X_arith (k := .i64) (a := ((i : Nat) : Int)) (b := 1) (r := ((i + 1 : Nat) : Int)) rfl rfl rfl (iadd64 (by omega) (by omega) (by omega)) ?_)
              refine L_op rfl (X_assign (v := (.int .i64 (((i + 1 : Nat) : Int)))) rfl ?_)
              refine L_nil ?_
              refine T_n ?_
              exact ⟨rfl, i + 1, ⟨⟨hi, hp, hp2, hc, hc2, hB1, hB2, hU, hb, hb2, take_same hai hbi hzp (Subtype.ext (beq_iff_eq.1 hs8))⟩, (by show ps.length - (i + 1) < ps.length - i; omega)⟩, (Out.mk rfl), ⟨rfl, trivial⟩⟩
            · refine W_draw 10 [[], [0], [], [0, 1, 2], [0, 1, 2, 3], [], [5], [], [5, 6, 7], [5, 6, 7, 8], [0, 1, 2, 3, 4, 5, 6, 7, 8, 9]] mixed (by kernel_rfl) ?_
              refine ⟨.det (fun val => (ptr b1 (0))), ⟨fun _ _ hv => rfl, fun _ _ _ _ _ => trivial⟩, fun val h_ W hx he => ⟨trivial, ?_⟩, ?_⟩
              · replace hx := (Upd.drew _ _).trans hx
                replace hp := hp.ext hx
                replace hp2 := hp2.ext hx
                replace hc := hc.ext hx
                replace hc2 := hc2.ext hx
                replace hB1 := hB1.ext hx
                replace hB2 := hB2.ext hx
                replace hb := hb.ext hx
                replace hb2 := hb2.ext hx
                have hE := Upd.refl (fun _ => False) W
                refine id (X_fldP (b := b1) (o := 0) (r := 0) Fd26_0 rfl rfl ?_)
                exact ⟨hE, rfl⟩
              refine ⟨.det (fun val => pv), ⟨fun _ _ hv => rfl, fun _ _ _ _ _ => trivial⟩, fun val h_ W hx he => ⟨trivial, ?_⟩, ?_⟩
              · replace hx := (Upd.drew _ _).trans hx
                replace hp := hp.ext hx
                replace hp2 := hp2.ext hx
                replace hc := hc.ext hx
                replace hc2 := hc2.ext hx
                replace hB1 := hB1.ext hx
                replace hB2 := hB2.ext hx
                replace hb := hb.ext hx
                replace hb2 := hb2.ext hx
                have hE := Upd.refl (fun _ => False) W
                refine id (X_load (p := (ptr b1 (0))) (v := pv) T22 rfl (hB1.at1 rfl) ?_)
                exact ⟨hE, rfl⟩
              refine ⟨.det (fun val => (.int .i64 (((i : Nat) : Int)))), ⟨fun _ _ hv => rfl, fun _ _ _ _ _ => trivial⟩, fun val h_ W hx he => ⟨trivial, ?_⟩, ?_⟩
              · replace hx := (Upd.drew _ _).trans hx
                replace hp := hp.ext hx
                replace hp2 := hp2.ext hx
                replace hc := hc.ext hx
                replace hc2 := hc2.ext hx
                replace hB1 := hB1.ext hx
                replace hB2 := hB2.ext hx
                replace hb := hb.ext hx
                replace hb2 := hb2.ext hx
                have hE := Upd.refl (fun _ => False) W
                refine id (X_move (v := (.int .i64 (((i : Nat) : Int)))) rfl ?_)
                exact ⟨hE, rfl⟩
              refine ⟨.det (fun val => (pof pv ((((i : Nat) : Int) : Int).toNat * 256))), ⟨fun _ _ hv => rfl, fun _ _ _ _ _ => trivial⟩, fun val h_ W hx he => ⟨trivial, ?_⟩, ?_⟩
              · replace hx := (Upd.drew _ _).trans hx
                replace hp := hp.ext hx
                replace hp2 := hp2.ext hx
                replace hc := hc.ext hx
                replace hc2 := hc2.ext hx
                replace hB1 := hB1.ext hx
                replace hB2 := hB2.ext hx
                replace hb := hb.ext hx
                replace hb2 := hb2.ext hx
                have hE := Upd.refl (fun _ => False) W
                refine id (X_idx (v := pv) (n := ps.length) (k := .i64) (i := ((i : Nat) : Int)) S22 rfl hp.sv rfl (by omega) (by omega) ?_)
                exact ⟨hE, rfl⟩
              refine ⟨.det (fun val => (.agg (((a.1).map byteV)).toArray)), ⟨fun _ _ hv => rfl, fun _ _ _ _ _ => trivial⟩, fun val h_ W hx he => ⟨trivial, ?_⟩, ?_⟩
              · replace hx := (Upd.drew _ _).trans hx
                replace hp := hp.ext hx
                replace hp2 := hp2.ext hx
                replace hc := hc.ext hx
                replace hc2 := hc2.ext hx
                replace hB1 := hB1.ext hx
                replace hB2 := hB2.ext hx
                replace hb := hb.ext hx
                replace hb2 := hb2.ext hx
                have hE := Upd.refl (fun _ => False) W
                refine id (X_loadA (xs := a.1.map byteV) A33 rfl (pall hp (Int.toNat_natCast _) hai) (by rw [List.length_map]; exact a.2) ?_)
                exact ⟨hE, rfl⟩
              refine ⟨.det (fun val => (ptr b2 (0))), ⟨fun _ _ hv => rfl, fun _ _ _ _ _ => trivial⟩, fun val h_ W hx he => ⟨trivial, ?_⟩, ?_⟩
              · replace hx := (Upd.drew _ _).trans hx
                replace hp := hp.ext hx
                replace hp2 := hp2.ext hx
                replace hc := hc.ext hx
                replace hc2 := hc2.ext hx
                replace hB1 := hB1.ext hx
                replace hB2 := hB2.ext hx
                replace hb := hb.ext hx
                replace hb2 := hb2.ext hx
                have hE := Upd.refl (fun _ => False) W
                refine id (X_fldP (b := b2) (o := 0) (r := 0) Fd26_0 rfl rfl ?_)
                exact ⟨hE, rfl⟩
              refine ⟨.det (fun val => pv2), ⟨fun _ _ hv => rfl, fun _ _ _ _ _ => trivial⟩, fun val h_ W hx he => ⟨trivial, ?_⟩, ?_⟩
              · replace hx := (Upd.drew _ _).trans hx
                replace hp := hp.ext hx
                replace hp2 := hp2.ext hx
                replace hc := hc.ext hx
                replace hc2 := hc2.ext hx
                replace hB1 := hB1.ext hx
                replace hB2 := hB2.ext hx
                replace hb := hb.ext hx
                replace hb2 := hb2.ext hx
                have hE := Upd.refl (fun _ => False) W
                refine id (X_load (p := (ptr b2 (0))) (v := pv2) T22 rfl (hB2.at1 rfl) ?_)
                exact ⟨hE, rfl⟩
              refine ⟨.det (fun val => (.int .i64 (((i : Nat) : Int)))), ⟨fun _ _ hv => rfl, fun _ _ _ _ _ => trivial⟩, fun val h_ W hx he => ⟨trivial, ?_⟩, ?_⟩
              · replace hx := (Upd.drew _ _).trans hx
                replace hp := hp.ext hx
                replace hp2 := hp2.ext hx
                replace hc := hc.ext hx
                replace hc2 := hc2.ext hx
                replace hB1 := hB1.ext hx
                replace hB2 := hB2.ext hx
                replace hb := hb.ext hx
                replace hb2 := hb2.ext hx
                have hE := Upd.refl (fun _ => False) W
                refine id (X_move (v := (.int .i64 (((i : Nat) : Int)))) rfl ?_)
                exact ⟨hE, rfl⟩
              refine ⟨.det (fun val => (pof pv2 ((((i : Nat) : Int) : Int).toNat * 256))), ⟨fun _ _ hv => rfl, fun _ _ _ _ _ => trivial⟩, fun val h_ W hx he => ⟨trivial, ?_⟩, ?_⟩
              · replace hx := (Upd.drew _ _).trans hx
                replace hp := hp.ext hx
                replace hp2 := hp2.ext hx
                replace hc := hc.ext hx
                replace hc2 := hc2.ext hx
                replace hB1 := hB1.ext hx
                replace hB2 := hB2.ext hx
                replace hb := hb.ext hx
                replace hb2 := hb2.ext hx
                have hE := Upd.refl (fun _ => False) W
                refine id (X_idx (v := pv2) (n := ps2.length) (k := .i64) (i := ((i : Nat) : Int)) S22 rfl hp2.sv rfl (by omega) (by omega) ?_)
                exact ⟨hE, rfl⟩
              refine ⟨.det (fun val => (.agg (((b.1).map byteV)).toArray)), ⟨fun _ _ hv => rfl, fun _ _ _ _ _ => trivial⟩, fun val h_ W hx he => ⟨trivial, ?_⟩, ?_⟩
              · replace hx := (Upd.drew _ _).trans hx
                replace hp := hp.ext hx
                replace hp2 := hp2.ext hx
                replace hc := hc.ext hx
                replace hc2 := hc2.ext hx
                replace hB1 := hB1.ext hx
                replace hB2 := hB2.ext hx
                replace hb := hb.ext hx
                replace hb2 := hb2.ext hx
                have hE := Upd.refl (fun _ => False) W
                refine id (X_loadA (xs := b.1.map byteV) A33 rfl (pall hp2 (Int.toNat_natCast _) hbi) (by rw [List.length_map]; exact b.2) ?_)
                exact ⟨hE, rfl⟩
              intro val W10 hx10 he10
              replace hx10 := (Upd.drew _ _).trans hx10
              have hz10 := hx10.size
              replace hp := hp.ext hx10
              replace hp2 := hp2.ext hx10
              replace hc := hc.ext hx10
              replace hc2 := hc2.ext hx10
              replace hU := hU.trans (Ext.upd hx10)
              replace hB1 := hB1.ext hx10
              replace hB2 := hB2.ext hx10
              replace hb := hb.ext hx10
              replace hb2 := hb2.ext hx10
              refine L_op rfl (X_eqA (n := 256) (l := a.1) (m := b.1) (r := true) Try.underlying33 Try.underlying5 (by kernel_rfl) (by kernel_rfl) (by kernel_rfl) rfl rfl (a.2) (b.2) (.inr ⟨rfl, (by rw [hs8]; rfl)⟩) ?_)
              refine L_nil ?_
              refine T_n ?_
              refine W_ct rfl ?_
              refine W_seq ?_
              refine W_reg ?_
              refine L_op rfl (X_assign (v := (.bool (false))) rfl ?_)
              refine L_nil ?_
              refine T_n ?_
              refine W_ret ?_
              refine B_r ?_
              refine T_r ?_
              refine T_r ?_
              refine B_r ?_
              refine T_r ?_
              exact BQ_r (End_1 Try.results11 (v := .bool false) rfl ⟨⟨false, rfl, ⟨fun h => (by cases h), fun h => (by exact absurd h.1 (not_same hai hbi (fun h_ => by subst h_; rw [beq_self_eq_true] at hs8; cases hs8)))⟩⟩, hU.own hn0⟩)
          · refine L_op rfl (X_cmp (k := .i64) (a := ((i : Nat) : Int)) (b := ((ps.length : Nat) : Int)) (r := false) rfl rfl rfl (decide_eq_false (p := ((((i : Nat) : Int)) : Int) < ((((ps.length : Nat) : Int)) : Int)) (by omega)) ?_)
            refine L_nil ?_
            refine T_n ?_
            refine W_cf rfl ?_
            refine W_exit ?_
            refine T_e ?_
            refine T_e ?_
            refine B_x ?_
            refine T_n ?_
            refine W_seq ?_
            refine W_seq ?_
            refine W_reg ?_
            refine L_op rfl (X_assign (v := (.int .i64 (0))) rfl ?_)
            refine L_nil ?_
            refine T_n ?_
            refine W_block ?_
            refine W_loop (α := Nat) [4, 6, 58, 59, 60, 61, 62, 63, 64, 65, 66, 67, 68, 69, 70, 71, 72, 73, 74, 75] (fun i => [(6, (.int .i64 (((i : Nat) : Int))))]) (fun i w_ => i ≤ cs.length ∧ NRd LP w_ lo up pv ps ∧ NRd LP w_ lo2 up2 pv2 ps2 ∧ NRd LW w_ lo up cv cs ∧ NRd LW w_ lo2 up2 cv2 cs2 ∧ Blk w_ b1 #[pv, cv, bv, .bool off] 26 ∧ Blk w_ b2 #[pv2, cv2, bv2, .bool off2] 26 ∧ Upd (fun i => n0 ≤ i) w w_ ∧ NRd LI w_ lo up bv bs ∧ NRd LI w_ lo2 up2 bv2 bs2 ∧ cs.take i = cs2.take i) (fun i => cs.length - i) ⟨rfl, 0, ⟨Nat.zero_le _, hp, hp2, hc, hc2, hB1, hB2, hU, hb, hb2, rfl⟩, Out.refl _ _, ⟨rfl, trivial⟩⟩ ?_
            rintro i w11 _ ⟨hil, hp, hp2, hc, hc2, hB1, hB2, hU, hb, hb2, hzc⟩
            refine W_seq ?_
            refine W_seq ?_
            refine W_reg ?_
            refine L_op rfl (X_move (v := (.int .i64 (((i : Nat) : Int)))) rfl ?_)
            refine L_op rfl (X_fldP (b := b1) (o := 0) (r := 1) Fd26_1 rfl rfl ?_)
            refine L_op rfl (X_load (p := (ptr b1 (1))) (v := cv) T23 rfl (hB1.at1 rfl) ?_)
            refine L_op rfl (X_len (v := cv) (n := cs.length) Try.underlying23 rfl hc.sv ?_)
            by_cases hc12 : (((i : Nat) : Int) : Int) < (((cs.length : Nat) : Int))
            · refine L_op rfl (X_cmp (k := .i64) (a := ((i : Nat) : Int)) (b := ((cs.length : Nat) : Int)) (r := true) rfl rfl rfl (decide_eq_true (p := ((((i : Nat) : Int)) : Int) < ((((cs.length : Nat) : Int)) : Int)) (by omega)) ?_)
              have hi : i < cs.length := by omega
              obtain ⟨a, hai⟩ : ∃ a, cs[i]? = some a := ⟨_, List.getElem?_eq_getElem hi⟩
              obtain ⟨b, hbi⟩ : ∃ b, cs2[i]? = some b := ⟨_, List.getElem?_eq_getElem (by omega)⟩
              refine L_nil ?_
              refine T_n ?_
              refine W_ct rfl ?_
              refine W_skip ?_
              refine T_n ?_
              refine W_seq ?_
              refine W_block ?_
              refine W_seq ?_
              rcases Bool.eq_false_or_eq_true ((a.1 == b.1 && a.2.1 == b.2.1)) with hs13 | hs13
              · refine W_draw 10 [[], [0], [], [0, 1, 2], [0, 1, 2, 3], [], [5], [], [5, 6, 7], [5, 6, 7, 8], [0, 1, 2, 3, 4, 5, 6, 7, 8, 9]] mixed (by kernel_rfl) ?_
                refine ⟨.det (fun val => (ptr b1 (1))), ⟨fun _ _ hv => rfl, fun _ _ _ _ _ => trivial⟩, fun val h_ W hx he => ⟨trivial, ?_⟩, ?_⟩
                · replace hx := (Upd.drew _ _).trans hx
                  replace hp := hp.ext hx
                  replace hp2 := hp2.ext hx
                  replace hc := hc.ext hx
                  replace hc2 := hc2.ext hx
                  replace hB1 := hB1.ext hx
                  replace hB2 := hB2.ext hx
                  replace hb := hb.ext hx
                  replace hb2 := hb2.ext hx
                  have hE := Upd.refl (fun _ => False) W
                  refine id (X_fldP (b := b1) (o := 0) (r := 1) Fd26_1 rfl rfl ?_)
                  exact ⟨hE, rfl⟩
                refine ⟨.det (fun val => cv), ⟨fun _ _ hv => rfl, fun _ _ _ _ _ => trivial⟩, fun val h_ W hx he => ⟨trivial, ?_⟩, ?_⟩
                · replace hx := (Upd.drew _ _).trans hx
                  replace hp := hp.ext hx
                  replace hp2 := hp2.ext hx
                  replace hc := hc.ext hx
                  replace hc2 := hc2.ext hx
                  replace hB1 := hB1.ext hx
                  replace hB2 := hB2.ext hx
                  replace hb := hb.ext hx
                  replace hb2 := hb2.ext hx
                  have hE := Upd.refl (fun _ => False) W
                  refine id (X_load (p := (ptr b1 (1))) (v := cv) T23 rfl (hB1.at1 rfl) ?_)
                  exact ⟨hE, rfl⟩
                refine ⟨.det (fun val => (.int .i64 (((i : Nat) : Int)))), ⟨fun _ _ hv => rfl, fun _ _ _ _ _ => trivial⟩, fun val h_ W hx he => ⟨trivial, ?_⟩, ?_⟩
                · replace hx := (Upd.drew _ _).trans hx
                  replace hp := hp.ext hx
                  replace hp2 := hp2.ext hx
                  replace hc := hc.ext hx
                  replace hc2 := hc2.ext hx
                  replace hB1 := hB1.ext hx
                  replace hB2 := hB2.ext hx
                  replace hb := hb.ext hx
                  replace hb2 := hb2.ext hx
                  have hE := Upd.refl (fun _ => False) W
                  refine id (X_move (v := (.int .i64 (((i : Nat) : Int)))) rfl ?_)
                  exact ⟨hE, rfl⟩
                refine ⟨.det (fun val => (pof cv ((((i : Nat) : Int) : Int).toNat * 257))), ⟨fun _ _ hv => rfl, fun _ _ _ _ _ => trivial⟩, fun val h_ W hx he => ⟨trivial, ?_⟩, ?_⟩
                · replace hx := (Upd.drew _ _).trans hx
                  replace hp := hp.ext hx
                  replace hp2 := hp2.ext hx
                  replace hc := hc.ext hx
                  replace hc2 := hc2.ext hx
                  replace hB1 := hB1.ext hx
                  replace hB2 := hB2.ext hx
                  replace hb := hb.ext hx
                  replace hb2 := hb2.ext hx
                  have hE := Upd.refl (fun _ => False) W
                  refine id (X_idx (v := cv) (n := cs.length) (k := .i64) (i := ((i : Nat) : Int)) S23 rfl hc.sv rfl (by omega) (by omega) ?_)
                  exact ⟨hE, rfl⟩
                refine ⟨.det (fun val => (wrV a)), ⟨fun _ _ hv => rfl, fun _ _ _ _ _ => trivial⟩, fun val h_ W hx he => ⟨trivial, ?_⟩, ?_⟩
                · replace hx := (Upd.drew _ _).trans hx
                  replace hp := hp.ext hx
                  replace hp2 := hp2.ext hx
                  replace hc := hc.ext hx
                  replace hc2 := hc2.ext hx
                  replace hB1 := hB1.ext hx
                  replace hB2 := hB2.ext hx
                  replace hb := hb.ext hx
                  replace hb2 := hb2.ext hx
                  have hE := Upd.refl (fun _ => False) W
                  refine id (X_loadA (xs := LW.cel a) A35 rfl (wall hc (Int.toNat_natCast _) hai) (LW.len _) ?_)
                  exact ⟨hE, rfl⟩
                refine ⟨.det (fun val => (ptr b2 (1))), ⟨fun _ _ hv => rfl, fun _ _ _ _ _ => trivial⟩, fun val h_ W hx he => ⟨trivial, ?_⟩, ?_⟩
                · replace hx := (Upd.drew _ _).trans hx
                  replace hp := hp.ext hx
                  replace hp2 := hp2.ext hx
                  replace hc := hc.ext hx
                  replace hc2 := hc2.ext hx
                  replace hB1 := hB1.ext hx
                  replace hB2 := hB2.ext hx
                  replace hb := hb.ext hx
                  replace hb2 := hb2.ext hx
                  have hE := Upd.refl (fun _ => False) W
                  refine id (X_fldP (b := b2) (o := 0) (r := 1) Fd26_1 rfl rfl ?_)
                  exact ⟨hE, rfl⟩
                refine ⟨.det (fun val => cv2), ⟨fun _ _ hv => rfl, fun _ _ _ _ _ => trivial⟩, fun val h_ W hx he => ⟨trivial, ?_⟩, ?_⟩
                · replace hx := (Upd.drew _ _).trans hx
                  replace hp := hp.ext hx
                  replace hp2 := hp2.ext hx
                  replace hc := hc.ext hx
                  replace hc2 := hc2.ext hx
                  replace hB1 := hB1.ext hx
                  replace hB2 := hB2.ext hx
                  replace hb := hb.ext hx
                  replace hb2 := hb2.ext hx
                  have hE := Upd.refl (fun _ => False) W
                  refine id (X_load (p := (ptr b2 (1))) (v := cv2) T23 rfl (hB2.at1 rfl) ?_)
                  exact ⟨hE, rfl⟩
                refine ⟨.det (fun val => (.int .i64 (((i : Nat) : Int)))), ⟨fun _ _ hv => rfl, fun _ _ _ _ _ => trivial⟩, fun val h_ W hx he => ⟨trivial, ?_⟩, ?_⟩
                · replace hx := (Upd.drew _ _).trans hx
                  replace hp := hp.ext hx
                  replace hp2 := hp2.ext hx
                  replace hc := hc.ext hx
                  replace hc2 := hc2.ext hx
                  replace hB1 := hB1.ext hx
                  replace hB2 := hB2.ext hx
                  replace hb := hb.ext hx
                  replace hb2 := hb2.ext hx
                  have hE := Upd.refl (fun _ => False) W
                  refine id (X_move (v := (.int .i64 (((i : Nat) : Int)))) rfl ?_)
                  exact ⟨hE, rfl⟩
                refine ⟨.det (fun val => (pof cv2 ((((i : Nat) : Int) : Int).toNat * 257))), ⟨fun _ _ hv => rfl, fun _ _ _ _ _ => trivial⟩, fun val h_ W hx he => ⟨trivial, ?_⟩, ?_⟩
                · replace hx := (Upd.drew _ _).trans hx
                  replace hp := hp.ext hx
                  replace hp2 := hp2.ext hx
                  replace hc := hc.ext hx
                  replace hc2 := hc2.ext hx
                  replace hB1 := hB1.ext hx
                  replace hB2 := hB2.ext hx
                  replace hb := hb.ext hx
                  replace hb2 := hb2.ext hx
                  have hE := Upd.refl (fun _ => False) W
                  refine id (X_idx (v := cv2) (n := cs2.length) (k := .i64) (i := ((i : Nat) : Int)) S23 rfl hc2.sv rfl (by omega) (by omega) ?_)
                  exact ⟨hE, rfl⟩
                refine ⟨.det (fun val => (wrV b)), ⟨fun _ _ hv => rfl, fun _ _ _ _ _ => trivial⟩, fun val h_ W hx he => ⟨trivial, ?_⟩, ?_⟩
                · replace hx := (Upd.drew _ _).trans hx
                  replace hp := hp.ext hx
                  replace hp2 := hp2.ext hx
                  replace hc := hc.ext hx
                  replace hc2 := hc2.ext hx
                  replace hB1 := hB1.ext hx
                  replace hB2 := hB2.ext hx
                  replace hb := hb.ext hx
                  replace hb2 := hb2.ext hx
                  have hE := Upd.refl (fun _ => False) W
                  refine id (X_loadA (xs := LW.cel b) A35 rfl (wall hc2 (Int.toNat_natCast _) hbi) (LW.len _) ?_)
                  exact ⟨hE, rfl⟩
                intro val W14 hx14 he14
                replace hx14 := (Upd.drew _ _).trans hx14
                have hz14 := hx14.size
                replace hp := hp.ext hx14
                replace hp2 := hp2.ext hx14
                replace hc := hc.ext hx14
                replace hc2 := hc2.ext hx14
                replace hU := hU.trans (Ext.upd hx14)
                replace hB1 := hB1.ext hx14
                replace hB2 := hB2.ext hx14
                replace hb := hb.ext hx14
                replace hb2 := hb2.ext hx14
                refine L_op rfl (X_eqW (p := a) (q := b) (r := false) Try.underlying35 (by kernel_rfl) (by kernel_rfl) (by decide) ⟨rfl, rfl⟩ Try.underlying3 Try.underlying33 (by kernel_rfl) Try.underlying5 (ie := _) rfl (by kernel_rfl) (by kernel_rfl) rfl rfl (.inr ⟨rfl, by rw [hs13]; rfl⟩) ?_)
                refine L_nil ?_
                refine T_n ?_
                refine W_cf rfl ?_
                refine W_skip ?_
                refine B_n ?_
                refine T_n ?_
                refine W_reg ?_
                refine L_op rfl (X_move (v := (.int .i64 (((i : Nat) : Int)))) rfl ?_)
                refine L_op rfl (X_arith (k := .i64) (a := ((i : Nat) : Int)) (b := 1) (r := ((i + 1 : Nat) : Int)) rfl rfl rfl (iadd64 (by omega) (by omega) (by omega)) ?_)
                refine L_op rfl (X_assign (v := (.int .i64 (((i + 1 : Nat) : Int)))) rfl ?_)
                refine L_nil ?_
                refine T_n ?_
                exact ⟨rfl, i + 1, ⟨⟨hi, hp, hp2, hc, hc2, hB1, hB2, hU, hb, hb2, take_same hai hbi hzc (wr_beq.1 hs13)⟩, (by show cs.length - (i + 1) < cs.length - i; omega)⟩, (Out.mk rfl), ⟨rfl, trivial⟩⟩
              · refine W_draw 10 [[], [0], [], [0, 1, 2], [0, 1, 2, 3], [], [5], [], [5, 6, 7], [5, 6, 7, 8], [0, 1, 2, 3, 4, 5, 6, 7, 8, 9]] mixed (by kernel_rfl) ?_
                refine ⟨.det (fun val => (ptr b1 (1))), ⟨fun _ _ hv => rfl, fun _ _ _ _ _ => trivial⟩, fun val h_ W hx he => ⟨trivial, ?_⟩, ?_⟩
                · replace hx := (Upd.drew _ _).trans hx
                  replace hp := hp.ext hx
                  replace hp2 := hp2.ext hx
                  replace hc := hc.ext hx
                  replace hc2 := hc2.ext hx
                  replace hB1 := hB1.ext hx
                  replace hB2 := hB2.ext hx
                  replace hb := hb.ext hx
                  replace hb2 := hb2.ext hx
                  have hE := Upd.refl (fun _ => False) W
                  refine id (X_fldP (b := b1) (o := 0) (r := 1) Fd26_1 rfl rfl ?_)
                  exact ⟨hE, rfl⟩
                refine ⟨.det (fun val => cv), ⟨fun _ _ hv => rfl, fun _ _ _ _ _ => trivial⟩, fun val h_ W hx he => ⟨trivial, ?_⟩, ?_⟩
                · replace hx := (Upd.drew _ _).trans hx
                  replace hp := hp.ext hx
                  replace hp2 := hp2.ext hx
                  replace hc := hc.ext hx
                  replace hc2 := hc2.ext hx
                  replace hB1 := hB1.ext hx
                  replace hB2 := hB2.ext hx
                  replace hb := hb.ext hx
                  replace hb2 := hb2.ext hx
                  have hE := Upd.refl (fun _ => False) W
                  refine id (X_load (p := (ptr b1 (1))) (v := cv) T23 rfl (hB1.at1 rfl) ?_)
                  exact ⟨hE, rfl⟩
                refine ⟨.det (fun val => (.int .i64 (((i : Nat) : Int)))), ⟨fun _ _ hv => rfl, fun _ _ _ _ _ => trivial⟩, fun val h_ W hx he => ⟨trivial, ?_⟩, ?_⟩
                · replace hx := (Upd.drew _ _).trans hx
                  replace hp := hp.ext hx
                  replace hp2 := hp2.ext hx
                  replace hc := hc.ext hx
                  replace hc2 := hc2.ext hx
                  replace hB1 := hB1.ext hx
                  replace hB2 := hB2.ext hx
                  replace hb := hb.ext hx
                  replace hb2 := hb2.ext hx
                  have hE := Upd.refl (fun _ => False) W
                  refine id (X_move (v := (.int .i64 (((i : Nat) : Int)))) rfl ?_)
                  exact ⟨hE, rfl⟩
                refine ⟨.det (fun val => (pof cv ((((i : Nat) : Int) : Int).toNat * 257))), ⟨fun _ _ hv => rfl, fun _ _ _ _ _ => trivial⟩, fun val h_ W hx he => ⟨trivial, ?_⟩, ?_⟩
                · replace hx := (Upd.drew _ _).trans hx
                  replace hp := hp.ext hx
                  replace hp2 := hp2.ext hx
                  replace hc := hc.ext hx
                  replace hc2 := hc2.ext hx
                  replace hB1 := hB1.ext hx
                  replace hB2 := hB2.ext hx
                  replace hb := hb.ext hx
                  replace hb2 := hb2.ext hx
                  have hE := Upd.refl (fun _ => False) W
                  refine id (X_idx (v := cv) (n := cs.length) (k := .i64) (i := ((i : Nat) : Int)) S23 rfl hc.sv rfl (by omega) (by omega) ?_)
                  exact ⟨hE, rfl⟩
                refine ⟨.det (fun val => (wrV a)), ⟨fun _ _ hv => rfl, fun _ _ _ _ _ => trivial⟩, fun val h_ W hx he => ⟨trivial, ?_⟩, ?_⟩
                · replace hx := (Upd.drew _ _).trans hx
                  replace hp := hp.ext hx
                  replace hp2 := hp2.ext hx
                  replace hc := hc.ext hx
                  replace hc2 := hc2.ext hx
                  replace hB1 := hB1.ext hx
                  replace hB2 := hB2.ext hx
                  replace hb := hb.ext hx
                  replace hb2 := hb2.ext hx
                  have hE := Upd.refl (fun _ => False) W
                  refine id (X_loadA (xs := LW.cel a) A35 rfl (wall hc (Int.toNat_natCast _) hai) (LW.len _) ?_)
                  exact ⟨hE, rfl⟩
                refine ⟨.det (fun val => (ptr b2 (1))), ⟨fun _ _ hv => rfl, fun _ _ _ _ _ => trivial⟩, fun val h_ W hx he => ⟨trivial, ?_⟩, ?_⟩
                · replace hx := (Upd.drew _ _).trans hx
                  replace hp := hp.ext hx
                  replace hp2 := hp2.ext hx
                  replace hc := hc.ext hx
                  replace hc2 := hc2.ext hx
                  replace hB1 := hB1.ext hx
                  replace hB2 := hB2.ext hx
                  replace hb := hb.ext hx
                  replace hb2 := hb2.ext hx
                  have hE := Upd.refl (fun _ => False) W
                  refine id (X_fldP (b := b2) (o := 0) (r := 1) Fd26_1 rfl rfl ?_)
                  exact ⟨hE, rfl⟩
                refine ⟨.det (fun val => cv2), ⟨fun _ _ hv => rfl, fun _ _ _ _ _ => trivial⟩, fun val h_ W hx he => ⟨trivial, ?_⟩, ?_⟩
                · replace hx := (Upd.drew _ _).trans hx
                  replace hp := hp.ext hx
                  replace hp2 := hp2.ext hx
                  replace hc := hc.ext hx
                  replace hc2 := hc2.ext hx
                  replace hB1 := hB1.ext hx
                  replace hB2 := hB2.ext hx
                  replace hb := hb.ext hx
                  replace hb2 := hb2.ext hx
                  have hE := Upd.refl (fun _ => False) W
                  refine id (X_load (p := (ptr b2 (1))) (v := cv2) T23 rfl (hB2.at1 rfl) ?_)
                  exact ⟨hE, rfl⟩
                refine ⟨.det (fun val => (.int .i64 (((i : Nat) : Int)))), ⟨fun _ _ hv => rfl, fun _ _ _ _ _ => trivial⟩, fun val h_ W hx he => ⟨trivial, ?_⟩, ?_⟩
                · replace hx := (Upd.drew _ _).trans hx
                  replace hp := hp.ext hx
                  replace hp2 := hp2.ext hx
                  replace hc := hc.ext hx
                  replace hc2 := hc2.ext hx
                  replace hB1 := hB1.ext hx
                  replace hB2 := hB2.ext hx
                  replace hb := hb.ext hx
                  replace hb2 := hb2.ext hx
                  have hE := Upd.refl (fun _ => False) W
                  refine id (X_move (v := (.int .i64 (((i : Nat) : Int)))) rfl ?_)
                  exact ⟨hE, rfl⟩
                refine ⟨.det (fun val => (pof cv2 ((((i : Nat) : Int) : Int).toNat * 257))), ⟨fun _ _ hv => rfl, fun _ _ _ _ _ => trivial⟩, fun val h_ W hx he => ⟨trivial, ?_⟩, ?_⟩
                · replace hx := (Upd.drew _ _).trans hx
                  replace hp := hp.ext hx
                  replace hp2 := hp2.ext hx
                  replace hc := hc.ext hx
                  replace hc2 := hc2.ext hx
                  replace hB1 := hB1.ext hx
                  replace hB2 := hB2.ext hx
                  replace hb := hb.ext hx
                  replace hb2 := hb2.ext hx
                  have hE := Upd.refl (fun _ => False) W
                  refine id (X_idx (v := cv2) (n := cs2.length) (k := .i64) (i := ((i : Nat) : Int)) S23 rfl hc2.sv rfl (by omega) (by omega) ?_)
                  exact ⟨hE, rfl⟩
                refine ⟨.det (fun val => (wrV b)), ⟨fun _ _ hv => rfl, fun _ _ _ _ _ => trivial⟩, fun val h_ W hx he => ⟨trivial, ?_⟩, ?_⟩
                · replace hx := (Upd.drew _ _).trans hx
                  replace hp := hp.ext hx
                  replace hp2 := hp2.ext hx
                  replace hc := hc.ext hx
                  replace hc2 := hc2.ext hx
                  replace hB1 := hB1.ext hx
                  replace hB2 := hB2.ext hx
                  replace hb := hb.ext hx
                  replace hb2 := hb2.ext hx
                  have hE := Upd.refl (fun _ => False) W
                  refine id (X_loadA (xs := LW.cel b) A35 rfl (wall hc2 (Int.toNat_natCast _) hbi) (LW.len _) ?_)
                  exact ⟨hE, rfl⟩
                intro val W15 hx15 he15
                replace hx15 := (Upd.drew _ _).trans hx15
                have hz15 := hx15.size
                replace hp := hp.ext hx15
                replace hp2 := hp2.ext hx15
                replace hc := hc.ext hx15
                replace hc2 := hc2.ext hx15
                replace hU := hU.trans (Ext.upd hx15)
                replace hB1 := hB1.ext hx15
                replace hB2 := hB2.ext hx15
                replace hb := hb.ext hx15
                replace hb2 := hb2.ext hx15
                refine L_op rfl (X_eqW (p := a) (q := b) (r := true) Try.underlying35 (by kernel_rfl) (by kernel_rfl) (by decide) ⟨rfl, rfl⟩ Try.underlying3 Try.underlying33 (by kernel_rfl) Try.underlying5 (ie := _) rfl (by kernel_rfl) (by kernel_rfl) rfl rfl (.inr ⟨rfl, by rw [hs13]; rfl⟩) ?_)
                refine L_nil ?_
                refine T_n ?_
                refine W_ct rfl ?_
                refine W_seq ?_
                refine W_reg ?_
                refine L_op rfl (X_assign (v := (.bool (false))) rfl ?_)
                refine L_nil ?_
                refine T_n ?_
                refine W_ret ?_
                refine B_r ?_
                refine T_r ?_
                refine T_r ?_
                refine B_r ?_
                refine T_r ?_
                exact BQ_r (End_1 Try.results11 (v := .bool false) rfl ⟨⟨false, rfl, ⟨fun h => (by cases h), fun h => (by exact absurd h.2.1 (not_same hai hbi (fun h_ => by have h1 := wr_beq.2 h_; rw [hs13] at h1; cases h1)))⟩⟩, hU.own hn0⟩)
            · refine L_op rfl (X_cmp (k := .i64) (a := ((i : Nat) : Int)) (b := ((cs.length : Nat) : Int)) (r := false) rfl rfl rfl (decide_eq_false (p := ((((i : Nat) : Int)) : Int) < ((((cs.length : Nat) : Int)) : Int)) (by omega)) ?_)
              refine L_nil ?_
              refine T_n ?_
              refine W_cf rfl ?_
              refine W_exit ?_
              refine T_e ?_
              refine T_e ?_
              refine B_x ?_
              refine T_n ?_
              refine W_seq ?_
              refine W_seq ?_
              refine W_reg ?_
              refine L_op rfl (X_assign (v := (.int .i64 (0))) rfl ?_)
              refine L_nil ?_
              refine T_n ?_
              refine W_block ?_
              refine W_loop (α := Nat) [4, 7, 76, 77, 78, 79, 80, 81, 82, 83, 84, 85, 86, 87, 88, 89, 90, 91, 92, 93] (fun i => [(7, (.int .i64 (((i : Nat) : Int))))]) (fun i w_ => i ≤ bs.length ∧ NRd LP w_ lo up pv ps ∧ NRd LP w_ lo2 up2 pv2 ps2 ∧ NRd LW w_ lo up cv cs ∧ NRd LW w_ lo2 up2 cv2 cs2 ∧ Blk w_ b1 #[pv, cv, bv, .bool off] 26 ∧ Blk w_ b2 #[pv2, cv2, bv2, .bool off2] 26 ∧ Upd (fun i => n0 ≤ i) w w_ ∧ NRd LI w_ lo up bv bs ∧ NRd LI w_ lo2 up2 bv2 bs2 ∧ bs.take i = bs2.take i) (fun i => bs.length - i) ⟨rfl, 0, ⟨Nat.zero_le _, hp, hp2, hc, hc2, hB1, hB2, hU, hb, hb2, rfl⟩, Out.refl _ _, ⟨rfl, trivial⟩⟩ ?_
              rintro i w16 _ ⟨hil, hp, hp2, hc, hc2, hB1, hB2, hU, hb, hb2, hzb⟩
              refine W_seq ?_
              refine W_seq ?_
              refine W_reg ?_
              refine L_op rfl (X_move (v := (.int .i64 (((i : Nat) : Int)))) rfl ?_)
              refine L_op rfl (X_fldP (b := b1) (o := 0) (r := 2) Fd26_2 rfl rfl ?_)
              refine L_op rfl (X_load (p := (ptr b1 (2))) (v := bv) T24 rfl (hB1.at1 rfl) ?_)
              refine L_op rfl (X_len (v := bv) (n := bs.length) Try.underlying24 rfl hb.sv ?_)
              by_cases hc17 : (((i : Nat) : Int) : Int) < (((bs.length : Nat) : Int))
              · refine L_op rfl (X_cmp (k := .i64) (a := ((i : Nat) : Int)) (b := ((bs.length : Nat) : Int)) (r := true) rfl rfl rfl (decide_eq_true (p := ((((i : Nat) : Int)) : Int) < ((((bs.length : Nat) : Int)) : Int)) (by omega)) ?_)
                have hi : i < bs.length := by omega
                obtain ⟨a, hai⟩ : ∃ a, bs[i]? = some a := ⟨_, List.getElem?_eq_getElem hi⟩
                obtain ⟨b, hbi⟩ : ∃ b, bs2[i]? = some b := ⟨_, List.getElem?_eq_getElem (by omega)⟩
                refine L_nil ?_
                refine T_n ?_
                refine W_ct rfl ?_
                refine W_skip ?_
                refine T_n ?_
                refine W_seq ?_
                refine W_block ?_
                refine W_seq ?_
                rcases Bool.eq_false_or_eq_true (decide (a = b)) with hs18 | hs18
                · refine W_draw 10 [[], [0], [], [0, 1, 2], [0, 1, 2, 3], [], [5], [], [5, 6, 7], [5, 6, 7, 8], [0, 1, 2, 3, 4, 5, 6, 7, 8, 9]] mixed (by kernel_rfl) ?_
                  refine ⟨.det (fun val => (ptr b1 (2))), ⟨fun _ _ hv => rfl, fun _ _ _ _ _ => trivial⟩, fun val h_ W hx he => ⟨trivial, ?_⟩, ?_⟩
                  · replace hx := (Upd.drew _ _).trans hx
                    replace hp := hp.ext hx
                    replace hp2 := hp2.ext hx
                    replace hc := hc.ext hx
                    replace hc2 := hc2.ext hx
                    replace hB1 := hB1.ext hx
                    replace hB2 := hB2.ext hx
                    replace hb := hb.ext hx
                    replace hb2 := hb2.ext hx
                    have hE := Upd.refl (fun _ => False) W
                    refine id (X_fldP (b := b1) (o := 0) (r := 2) Fd26_2 rfl rfl ?_)
                    exact ⟨hE, rfl⟩
                  refine ⟨.det (fun val => bv), ⟨fun _ _ hv => rfl, fun _ _ _ _ _ => trivial⟩, fun val h_ W hx he => ⟨trivial, ?_⟩, ?_⟩
                  · replace hx := (Upd.drew _ _).trans hx
                    replace hp := hp.ext hx
                    replace hp2 := hp2.ext hx
                    replace hc := hc.ext hx
                    replace hc2 := hc2.ext hx
                    replace hB1 := hB1.ext hx
                    replace hB2 := hB2.ext hx
                    replace hb := hb.ext hx
                    replace hb2 := hb2.ext hx
                    have hE := Upd.refl (fun _ => False) W
                    refine id (X_load (p := (ptr b1 (2))) (v := bv) T24 rfl (hB1.at1 rfl) ?_)
                    exact ⟨hE, rfl⟩
                  refine ⟨.det (fun val => (.int .i64 (((i : Nat) : Int)))), ⟨fun _ _ hv => rfl, fun _ _ _ _ _ => trivial⟩, fun val h_ W hx he => ⟨trivial, ?_⟩, ?_⟩
                  · replace hx := (Upd.drew _ _).trans hx
                    replace hp := hp.ext hx
                    replace hp2 := hp2.ext hx
                    replace hc := hc.ext hx
                    replace hc2 := hc2.ext hx
                    replace hB1 := hB1.ext hx
                    replace hB2 := hB2.ext hx
                    replace hb := hb.ext hx
                    replace hb2 := hb2.ext hx
                    have hE := Upd.refl (fun _ => False) W
                    refine id (X_move (v := (.int .i64 (((i : Nat) : Int)))) rfl ?_)
                    exact ⟨hE, rfl⟩
                  refine ⟨.det (fun val => (pof bv ((((i : Nat) : Int) : Int).toNat * 1))), ⟨fun _ _ hv => rfl, fun _ _ _ _ _ => trivial⟩, fun val h_ W hx he => ⟨trivial, ?_⟩, ?_⟩
                  · replace hx := (Upd.drew _ _).trans hx
                    replace hp := hp.ext hx
                    replace hp2 := hp2.ext hx
                    replace hc := hc.ext hx
                    replace hc2 := hc2.ext hx
                    replace hB1 := hB1.ext hx
                    replace hB2 := hB2.ext hx
                    replace hb := hb.ext hx
                    replace hb2 := hb2.ext hx
                    have hE := Upd.refl (fun _ => False) W
                    refine id (X_idx (v := bv) (n := bs.length) (k := .i64) (i := ((i : Nat) : Int)) S24 rfl hb.sv rfl (by omega) (by omega) ?_)
                    exact ⟨hE, rfl⟩
                  refine ⟨.det (fun val => (.int .i64 (a))), ⟨fun _ _ hv => rfl, fun _ _ _ _ _ => trivial⟩, fun val h_ W hx he => ⟨trivial, ?_⟩, ?_⟩
                  · replace hx := (Upd.drew _ _).trans hx
                    replace hp := hp.ext hx
                    replace hp2 := hp2.ext hx
                    replace hc := hc.ext hx
                    replace hc2 := hc2.ext hx
                    replace hB1 := hB1.ext hx
                    replace hB2 := hB2.ext hx
                    replace hb := hb.ext hx
                    replace hb2 := hb2.ext hx
                    have hE := Upd.refl (fun _ => False) W
                    refine id (X_load (v := .int .i64 a) T3 rfl (iat hb (Int.toNat_natCast _) hai) ?_)
                    exact ⟨hE, rfl⟩
                  refine ⟨.det (fun val => (ptr b2 (2))), ⟨fun _ _ hv => rfl, fun _ _ _ _ _ => trivial⟩, fun val h_ W hx he => ⟨trivial, ?_⟩, ?_⟩
                  · replace hx := (Upd.drew _ _).trans hx
                    replace hp := hp.ext hx
                    replace hp2 := hp2.ext hx
                    replace hc := hc.ext hx
                    replace hc2 := hc2.ext hx
                    replace hB1 := hB1.ext hx
                    replace hB2 := hB2.ext hx
                    replace hb := hb.ext hx
                    replace hb2 := hb2.ext hx
                    have hE := Upd.refl (fun _ => False) W
                    refine id (X_fldP (b := b2) (o := 0) (r := 2) Fd26_2 rfl rfl ?_)
                    exact ⟨hE, rfl⟩
                  refine ⟨.det (fun val => bv2), ⟨fun _ _ hv => rfl, fun _ _ _ _ _ => trivial⟩, fun val h_ W hx he => ⟨trivial, ?_⟩, ?_⟩
                  · replace hx := (Upd.drew _ _).trans hx
                    replace hp := hp.ext hx
                    replace hp2 := hp2.ext hx
                    replace hc := hc.ext hx
                    replace hc2 := hc2.ext hx
                    replace hB1 := hB1.ext hx
                    replace hB2 := hB2.ext hx
                    replace hb := hb.ext hx
                    replace hb2 := hb2.ext hx
                    have hE := Upd.refl (fun _ => False) W
                    refine id (X_load (p := (ptr b2 (2))) (v := bv2) T24 rfl (hB2.at1 rfl) ?_)
                    exact ⟨hE, rfl⟩
                  refine ⟨.det (fun val => (.int .i64 (((i : Nat) : Int)))), ⟨fun _ _ hv => rfl, fun _ _ _ _ _ => trivial⟩, fun val h_ W hx he => ⟨trivial, ?_⟩, ?_⟩
                  · replace hx := (Upd.drew _ _).trans hx
                    replace hp := hp.ext hx
                    replace hp2 := hp2.ext hx
                    replace hc := hc.ext hx
                    replace hc2 := hc2.ext hx
                    replace hB1 := hB1.ext hx
                    replace hB2 := hB2.ext hx
                    replace hb := hb.ext hx
                    replace hb2 := hb2.ext hx
                    have hE := Upd.refl (fun _ => False) W
                    refine id (X_move (v := (.int .i64 (((i : Nat) : Int)))) rfl ?_)
                    exact ⟨hE, rfl⟩
                  refine ⟨.det (fun val => (pof bv2 ((((i : Nat) : Int) : Int).toNat * 1))), ⟨fun _ _ hv => rfl, fun _ _ _ _ _ => trivial⟩, fun val h_ W hx he => ⟨trivial, ?_⟩, ?_⟩
                  · replace hx := (Upd.drew _ _).trans hx
                    replace hp := hp.ext hx
                    replace hp2 := hp2.ext hx
                    replace hc := hc.ext hx
                    replace hc2 := hc2.ext hx
                    replace hB1 := hB1.ext hx
                    replace hB2 := hB2.ext hx
                    replace hb := hb.ext hx
                    replace hb2 := hb2.ext hx
                    have hE := Upd.refl (fun _ => False) W
                    refine id (X_idx (v := bv2) (n := bs2.length) (k := .i64) (i := ((i : Nat) : Int)) S24 rfl hb2.sv rfl (by omega) (by omega) ?_)
                    exact ⟨hE, rfl⟩
                  refine ⟨.det (fun val => (.int .i64 (b))), ⟨fun _ _ hv => rfl, fun _ _ _ _ _ => trivial⟩, fun val h_ W hx he => ⟨trivial, ?_⟩, ?_⟩
                  · replace hx := (Upd.drew _ _).trans hx
                    replace hp := hp.ext hx
                    replace hp2 := hp2.ext hx
                    replace hc := hc.ext hx
                    replace hc2 := hc2.ext hx
                    replace hB1 := hB1.ext hx
                    replace hB2 := hB2.ext hx
                    replace hb := hb.ext hx
                    replace hb2 := hb2.ext hx
                    have hE := Upd.refl (fun _ => False) W
                    refine id (X_load (v := .int .i64 b) T3 rfl (iat hb2 (Int.toNat_natCast _) hbi) ?_)
                    exact ⟨hE, rfl⟩
                  intro val W19 hx19 he19
                  replace hx19 := (Upd.drew _ _).trans hx19
                  have hz19 := hx19.size
                  replace hp := hp.ext hx19
                  replace hp2 := hp2.ext hx19
                  replace hc := hc.ext hx19
                  replace hc2 := hc2.ext hx19
                  replace hU := hU.trans (Ext.upd hx19)
                  replace hB1 := hB1.ext hx19
                  replace hB2 := hB2.ext hx19
                  replace hb := hb.ext hx19
                  replace hb2 := hb2.ext hx19
                  refine L_op rfl (X_cmp (k := .i64) (a := a) (b := b) (r := false) rfl rfl rfl (decide_eq_false (fun h_ => h_ (of_decide_eq_true hs18))) ?_)
                  refine L_nil ?_
                  refine T_n ?_
                  refine W_cf rfl ?_
                  refine W_skip ?_
                  refine B_n ?_
                  refine T_n ?_
                  refine W_reg ?_
                  refine L_op rfl (X_move (v := (.int .i64 (((i : Nat) : Int)))) rfl ?_)
                  refine L_op rfl (X_arith (k := .i64) (a := ((i : Nat) : Int)) (b := 1) (r := ((i + 1 : Nat) : Int)) rfl rfl rfl (iadd64 (by omega) (by omega) (by omega)) ?_)
                  refine L_op rfl (X_assign (v := (.int .i64 (((i + 1 : Nat) : Int)))) rfl ?_)
                  refine L_nil ?_
                  refine T_n ?_
                  exact ⟨rfl, i + 1, ⟨⟨hi, hp, hp2, hc, hc2, hB1, hB2, hU, hb, hb2, take_same hai hbi hzb (of_decide_eq_true hs18)⟩, (by show bs.length - (i + 1) < bs.length - i; omega)⟩, (Out.mk rfl), ⟨rfl, trivial⟩⟩
                · refine W_draw 10 [[], [0], [], [0, 1, 2], [0, 1, 2, 3], [], [5], [], [5, 6, 7], [5, 6, 7, 8], [0, 1, 2, 3, 4, 5, 6, 7, 8, 9]] mixed (by kernel_rfl) ?_
                  refine ⟨.det (fun val => (ptr b1 (2))), ⟨fun _ _ hv => rfl, fun _ _ _ _ _ => trivial⟩, fun val h_ W hx he => ⟨trivial, ?_⟩, ?_⟩
                  · replace hx := (Upd.drew _ _).trans hx
                    replace hp := hp.ext hx
                    replace hp2 := hp2.ext hx
                    replace hc := hc.ext hx
                    replace hc2 := hc2.ext hx
                    replace hB1 := hB1.ext hx
                    replace hB2 := hB2.ext hx
                    replace hb := hb.ext hx
                    replace hb2 := hb2.ext hx
                    have hE := Upd.refl (fun _ => False) W
                    refine id (X_fldP (b := b1) (o := 0) (r := 2) Fd26_2 rfl rfl ?_)
                    exact ⟨hE, rfl⟩
                  refine ⟨.det (fun val => bv), ⟨fun _ _ hv => rfl, fun _ _ _ _ _ => trivial⟩, fun val h_ W hx he => ⟨trivial, ?_⟩, ?_⟩
                  · replace hx := (Upd.drew _ _).trans hx
                    replace hp := hp.ext hx
                    replace hp2 := hp2.ext hx
                    replace hc := hc.ext hx
                    replace hc2 := hc2.ext hx
                    replace hB1 := hB1.ext hx
                    replace hB2 := hB2.ext hx
                    replace hb := hb.ext hx
                    replace hb2 := hb2.ext hx
                    have hE := Upd.refl (fun _ => False) W
                    refine id (X_load (p := (ptr b1 (2))) (v := bv) T24 rfl (hB1.at1 rfl) ?_)
                    exact ⟨hE, rfl⟩
                  refine ⟨.det (fun val => (.int .i64 (((i : Nat) : Int)))), ⟨fun _ _ hv => rfl, fun _ _ _ _ _ => trivial⟩, fun val h_ W hx he => ⟨trivial, ?_⟩, ?_⟩
                  · replace hx := (Upd.drew _ _).trans hx
                    replace hp := hp.ext hx
                    replace hp2 := hp2.ext hx
                    replace hc := hc.ext hx
                    replace hc2 := hc2.ext hx
                    replace hB1 := hB1.ext hx
                    replace hB2 := hB2.ext hx
                    replace hb := hb.ext hx
                    replace hb2 := hb2.ext hx
                    have hE := Upd.refl (fun _ => False) W
                    refine id (X_move (v := (.int .i64 (((i : Nat) : Int)))) rfl ?_)
                    exact ⟨hE, rfl⟩
                  refine ⟨.det (fun val => (pof bv ((((i : Nat) : Int) : Int).toNat * 1))), ⟨fun _ _ hv => rfl, fun _ _ _ _ _ => trivial⟩, fun val h_ W hx he => ⟨trivial, ?_⟩, ?_⟩
                  · replace hx := (Upd.drew _ _).trans hx
                    replace hp := hp.ext hx
                    replace hp2 := hp2.ext hx
                    replace hc := hc.ext hx
                    replace hc2 := hc2.ext hx
                    replace hB1 := hB1.ext hx
                    replace hB2 := hB2.ext hx
                    replace hb := hb.ext hx
                    replace hb2 := hb2.ext hx
                    have hE := Upd.refl (fun _ => False) W
                    refine id (X_idx (v := bv) (n := bs.length) (k := .i64) (i := ((i : Nat) : Int)) S24 rfl hb.sv rfl (by omega) (by omega) ?_)
                    exact ⟨hE, rfl⟩
                  refine ⟨.det (fun val => (.int .i64 (a))), ⟨fun _ _ hv => rfl, fun _ _ _ _ _ => trivial⟩, fun val h_ W hx he => ⟨trivial, ?_⟩, ?_⟩
                  · replace hx := (Upd.drew _ _).trans hx
                    replace hp := hp.ext hx
                    replace hp2 := hp2.ext hx
                    replace hc := hc.ext hx
                    replace hc2 := hc2.ext hx
                    replace hB1 := hB1.ext hx
                    replace hB2 := hB2.ext hx
                    replace hb := hb.ext hx
                    replace hb2 := hb2.ext hx
                    have hE := Upd.refl (fun _ => False) W
                    refine id (X_load (v := .int .i64 a) T3 rfl (iat hb (Int.toNat_natCast _) hai) ?_)
                    exact ⟨hE, rfl⟩
                  refine ⟨.det (fun val => (ptr b2 (2))), ⟨fun _ _ hv => rfl, fun _ _ _ _ _ => trivial⟩, fun val h_ W hx he => ⟨trivial, ?_⟩, ?_⟩
                  · replace hx := (Upd.drew _ _).trans hx
                    replace hp := hp.ext hx
                    replace hp2 := hp2.ext hx
                    replace hc := hc.ext hx
                    replace hc2 := hc2.ext hx
                    replace hB1 := hB1.ext hx
                    replace hB2 := hB2.ext hx
                    replace hb := hb.ext hx
                    replace hb2 := hb2.ext hx
                    have hE := Upd.refl (fun _ => False) W
                    refine id (X_fldP (b := b2) (o := 0) (r := 2) Fd26_2 rfl rfl ?_)
                    exact ⟨hE, rfl⟩
                  refine ⟨.det (fun val => bv2), ⟨fun _ _ hv => rfl, fun _ _ _ _ _ => trivial⟩, fun val h_ W hx he => ⟨trivial, ?_⟩, ?_⟩
                  · replace hx := (Upd.drew _ _).trans hx
                    replace hp := hp.ext hx
                    replace hp2 := hp2.ext hx
                    replace hc := hc.ext hx
                    replace hc2 := hc2.ext hx
                    replace hB1 := hB1.ext hx
                    replace hB2 := hB2.ext hx
                    replace hb := hb.ext hx
                    replace hb2 := hb2.ext hx
                    have hE := Upd.refl (fun _ => False) W
                    refine id (X_load (p := (ptr b2 (2))) (v := bv2) T24 rfl (hB2.at1 rfl) ?_)
                    exact ⟨hE, rfl⟩
                  refine ⟨.det (fun val => (.int .i64 (((i : Nat) : Int)))), ⟨fun _ _ hv => rfl, fun _ _ _ _ _ => trivial⟩, fun val h_ W hx he => ⟨trivial, ?_⟩, ?_⟩
                  · replace hx := (Upd.drew _ _).trans hx
                    replace hp := hp.ext hx
                    replace hp2 := hp2.ext hx
                    replace hc := hc.ext hx
                    replace hc2 := hc2.ext hx
                    replace hB1 := hB1.ext hx
                    replace hB2 := hB2.ext hx
                    replace hb := hb.ext hx
                    replace hb2 := hb2.ext hx
                    have hE := Upd.refl (fun _ => False) W
                    refine id (X_move (v := (.int .i64 (((i : Nat) : Int)))) rfl ?_)
                    exact ⟨hE, rfl⟩
                  refine ⟨.det (fun val => (pof bv2 ((((i : Nat) : Int) : Int).toNat * 1))), ⟨fun _ _ hv => rfl, fun _ _ _ _ _ => trivial⟩, fun val h_ W hx he => ⟨trivial, ?_⟩, ?_⟩
                  · replace hx := (Upd.drew _ _).trans hx
                    replace hp := hp.ext hx
                    replace hp2 := hp2.ext hx
                    replace hc := hc.ext hx
                    replace hc2 := hc2.ext hx
                    replace hB1 := hB1.ext hx
                    replace hB2 := hB2.ext hx
                    replace hb := hb.ext hx
                    replace hb2 := hb2.ext hx
                    have hE := Upd.refl (fun _ => False) W
                    refine id (X_idx (v := bv2) (n := bs2.length) (k := .i64) (i := ((i : Nat) : Int)) S24 rfl hb2.sv rfl (by omega) (by omega) ?_)
                    exact ⟨hE, rfl⟩
                  refine ⟨.det (fun val => (.int .i64 (b))), ⟨fun _ _ hv => rfl, fun _ _ _ _ _ => trivial⟩, fun val h_ W hx he => ⟨trivial, ?_⟩, ?_⟩
                  · replace hx := (Upd.drew _ _).trans hx
                    replace hp := hp.ext hx
                    replace hp2 := hp2.ext hx
                    replace hc := hc.ext hx
                    replace hc2 := hc2.ext hx
                    replace hB1 := hB1.ext hx
                    replace hB2 := hB2.ext hx
                    replace hb := hb.ext hx
                    replace hb2 := hb2.ext hx
                    have hE := Upd.refl (fun _ => False) W
                    refine id (X_load (v := .int .i64 b) T3 rfl (iat hb2 (Int.toNat_natCast _) hbi) ?_)
                    exact ⟨hE, rfl⟩
                  intro val W20 hx20 he20
                  replace hx20 := (Upd.drew _ _).trans hx20
                  have hz20 := hx20.size
                  replace hp := hp.ext hx20
                  replace hp2 := hp2.ext hx20
                  replace hc := hc.ext hx20
                  replace hc2 := hc2.ext hx20
                  replace hU := hU.trans (Ext.upd hx20)
                  replace hB1 := hB1.ext hx20
                  replace hB2 := hB2.ext hx20
                  replace hb := hb.ext hx20
                  replace hb2 := hb2.ext hx20
                  refine L_op rfl (X_cmp (k := .i64) (a := a) (b := b) (r := true) rfl rfl rfl (decide_eq_true (of_decide_eq_false hs18)) ?_)
                  refine L_nil ?_
                  refine T_n ?_
                  refine W_ct rfl ?_
                  refine W_seq ?_
                  refine W_reg ?_
                  refine L_op rfl (X_assign (v := (.bool (false))) rfl ?_)
                  refine L_nil ?_
                  refine T_n ?_
                  refine W_ret ?_
                  refine B_r ?_
                  refine T_r ?_
                  refine T_r ?_
                  refine B_r ?_
                  refine T_r ?_
                  exact BQ_r (End_1 Try.results11 (v := .bool false) rfl ⟨⟨false, rfl, ⟨fun h => (by cases h), fun h => (by exact absurd h.2.2.1 (not_same hai hbi (of_decide_eq_false hs18)))⟩⟩, hU.own hn0⟩)
              · refine L_op rfl (X_cmp (k := .i64) (a := ((i : Nat) : Int)) (b := ((bs.length : Nat) : Int)) (r := false) rfl rfl rfl (decide_eq_false (p := ((((i : Nat) : Int)) : Int) < ((((bs.length : Nat) : Int)) : Int)) (by omega)) ?_)
                refine L_nil ?_
                refine T_n ?_
                refine W_cf rfl ?_
                refine W_exit ?_
                refine T_e ?_
                refine T_e ?_
                refine B_x ?_
                refine T_n ?_
                refine W_seq ?_
                refine W_reg ?_
                refine L_op rfl (X_assign (v := (.bool (true))) rfl ?_)
                refine L_nil ?_
                refine T_n ?_
                refine W_ret ?_
                exact BQ_r (End_1 Try.results11 (v := .bool true) rfl ⟨⟨true, rfl, ⟨fun _ => ⟨take_eq hzp (by omega) (by omega), take_eq hzc (by omega) (by omega), take_eq hzb (by omega) (by omega), by simpa using hoo⟩, fun _ => rfl⟩⟩, hU.own hn0⟩)
  · refine L_op rfl (X_cmpBool (a := off) (b := off2) (r := true) Try.underlying4 rfl rfl (.inr ⟨rfl, by rw [hoo]; rfl⟩) ?_)
    refine L_op rfl (X_move (v := (.bool (true))) rfl ?_)
    refine L_gn (dj := 13) (t := true) rfl rfl rfl rfl ?_
    refine L_gn (dj := 13) (t := true) rfl rfl rfl rfl ?_
    refine L_gn (dj := 13) (t := true) rfl rfl rfl rfl ?_
    refine L_gn (dj := 13) (t := true) rfl rfl rfl rfl ?_
    refine L_gn (dj := 13) (t := true) rfl rfl rfl rfl ?_
    refine L_gn (dj := 13) (t := true) rfl rfl rfl rfl ?_
    refine L_gn (dj := 13) (t := true) rfl rfl rfl rfl ?_
    refine L_op rfl (X_pick (t := true) (v := (.bool (true))) rfl rfl ?_)
    refine L_op rfl (X_move (v := (.bool (true))) rfl ?_)
    refine L_gn (dj := 22) (t := true) rfl rfl rfl rfl ?_
    refine L_gn (dj := 22) (t := true) rfl rfl rfl rfl ?_
    refine L_gn (dj := 22) (t := true) rfl rfl rfl rfl ?_
    refine L_gn (dj := 22) (t := true) rfl rfl rfl rfl ?_
    refine L_gn (dj := 22) (t := true) rfl rfl rfl rfl ?_
    refine L_gn (dj := 22) (t := true) rfl rfl rfl rfl ?_
    refine L_gn (dj := 22) (t := true) rfl rfl rfl rfl ?_
    refine L_op rfl (X_pick (t := true) (v := (.bool (true))) rfl rfl ?_)
    refine L_op rfl (X_move (v := (.bool (true))) rfl ?_)
    refine L_gn (dj := 31) (t := true) rfl rfl rfl rfl ?_
    refine L_gn (dj := 31) (t := true) rfl rfl rfl rfl ?_
    refine L_gn (dj := 31) (t := true) rfl rfl rfl rfl ?_
    refine L_gn (dj := 31) (t := true) rfl rfl rfl rfl ?_
    refine L_gn (dj := 31) (t := true) rfl rfl rfl rfl ?_
    refine L_gn (dj := 31) (t := true) rfl rfl rfl rfl ?_
    refine L_gn (dj := 31) (t := true) rfl rfl rfl rfl ?_
    refine L_op rfl (X_pick (t := true) (v := (.bool (true))) rfl rfl ?_)
    refine L_nil ?_
    refine T_n ?_
    refine W_ct rfl ?_
    refine W_seq ?_
    refine W_reg ?_
    refine L_op rfl (X_assign (v := (.bool (false))) rfl ?_)
    refine L_nil ?_
    refine T_n ?_
    refine W_ret ?_
    refine T_r ?_
    exact BQ_r (End_1 Try.results11 (v := .bool false) rfl ⟨⟨false, rfl, ⟨fun h => (by cases h), fun h => (by have h1 := h.2.2.2; rw [h1, beq_self_eq_true] at hoo; cases hoo)⟩⟩, hU.own hn0⟩)

def halvesL (o n : List UInt8) : List UInt8 := n.take 128 ++ o.drop 128
theorem halvesL_length {o n : List UInt8} (ho : o.length = 256) (hn : n.length = 256) : (halvesL o n).length = 256 := by
  unfold halvesL
  rw [List.length_append, List.length_take, List.length_drop]; omega
theorem halves_cells {o n : List UInt8} (hn : n.length = 256) : ((o.map byteV).toArray.toList.take 0 ++ (n.map byteV).take (min n.length 128) ++ (o.map byteV).toArray.toList.drop (0 + min n.length 128)).toArray = ((halvesL o n).map byteV).toArray := by
  have e : min n.length 128 = 128 := by omega
  have e2 : (o.map byteV).toArray.toList = o.map byteV := rfl
  unfold halvesL
  rw [List.take_zero, List.nil_append, Nat.zero_add, e, e2, ← List.map_take, ← List.map_drop, List.map_append]
def halfP (o n : Pg) : Pg := ⟨halvesL o.1 n.1, halvesL_length o.2 n.2⟩

theorem c_halves (o n : Pg) (w : World) : CT Try.prog 27 #[(pageV o), (pageV n)] w fun v w' => v = pageV (halfP o n) ∧ Ext w w' := by
  obtain ⟨n0, hn0⟩ : ∃ n, n = w.heap.size := ⟨_, rfl⟩
  have hU : Upd (fun i => n0 ≤ i) w w := Upd.refl _ _
  refine CT_of Try.func27 rfl rfl rfl ?_
  refine W_seq ?_
  refine W_reg ?_
  refine L_op rfl (X_box (v := (pageV o)) (c := ((o.1).map byteV).toArray) rfl rfl ?_)
  intro b1 w1 hn1
  have hbn1 := hn1.num; have hbs1 := hn1.size
  replace hU := hU.trans (Ext.upd hn1.ext)
  have hB1 := hn1.blk
  refine L_op rfl (X_box (v := (pageV n)) (c := ((n.1).map byteV).toArray) rfl rfl ?_)
  intro b2 w2 hn2
  have hbn2 := hn2.num; have hbs2 := hn2.size
  replace hU := hU.trans (Ext.upd hn2.ext)
  replace hB1 := hB1.ext hn2.ext
  have hB2 := hn2.blk
  refine L_op rfl (X_alloc (z := zv33) (c := zc33.toArray) Zv33 rfl ?_)
  intro b3 w3 hn3
  have hbn3 := hn3.num; have hbs3 := hn3.size
  replace hU := hU.trans (Ext.upd hn3.ext)
  replace hB1 := hB1.ext hn3.ext
  replace hB2 := hB2.ext hn3.ext
  have hB3 := hn3.blk
  rw [zc33_eq] at hB3
  refine L_nil ?_
  refine T_n ?_
  refine W_seq ?_
  refine W_draw 2 [[], [], [0, 1]] mixed (by kernel_rfl) ?_
  refine ⟨.det (fun val => (.slice (some ⟨b1, 0, none⟩) (128) 256)), ⟨fun _ _ hv => rfl, fun _ _ _ _ _ => trivial⟩, fun val h_ W hx he => ⟨trivial, ?_⟩, ?_⟩
  · replace hx := (Upd.drew _ _).trans hx
    replace hB1 := hB1.ext hx
    replace hB2 := hB2.ext hx
    replace hB3 := hB3.ext hx
    have hE := Upd.refl (fun _ => False) W
    refine id (X_sliceA0 (len := 256) (sz := 1) (b := b1) (h' := 128) (kh := .i64) Try.underlying33 Z5 rfl trivial rfl (by omega) ?_)
    exact ⟨hE, rfl⟩
  refine ⟨.det (fun val => (.slice (some ⟨b2, 0, none⟩) (256) 256)), ⟨fun _ _ hv => rfl, fun _ _ _ _ _ => trivial⟩, fun val h_ W hx he => ⟨trivial, ?_⟩, ?_⟩
  · replace hx := (Upd.drew _ _).trans hx
    replace hB1 := hB1.ext hx
    replace hB2 := hB2.ext hx
    replace hB3 := hB3.ext hx
    have hE := Upd.refl (fun _ => False) W
    refine id (X_sliceA0 (len := 256) (sz := 1) (b := b2) (h' := 256) (kh := .i64) Try.underlying33 Z5 rfl trivial rfl (by omega) ?_)
    exact ⟨hE, rfl⟩
  intro val W4 hx4 he4
  replace hx4 := (Upd.drew _ _).trans hx4
  have hz4 := hx4.size
  replace hU := hU.trans (Ext.upd hx4)
  replace hB1 := hB1.ext hx4
  replace hB2 := hB2.ext hx4
  replace hB3 := hB3.ext hx4
  refine L_op rfl (X_copy (n := (128)) (c := 256) (b := b1) (o := 0) (x := (.slice (some ⟨b2, 0, none⟩) (256) 256)) (ys := (n.1).map byteV) S27 rfl rfl hB1 (by rw [List.size_toArray, List.length_map, o.2]; omega) (hB2.rdB n.2 (by decide)) (byteV_one _) ?_)
  intro w5 hu5 hb5
  have hz5 := hu5.size
  replace hU := hU.trans (hu5.mono fun i _ h => by have h : i = b1 := h; show n0 ≤ i; omega)
  replace hB2 := hB2.upd hu5 fun h => by have h : b2 = b1 := h; omega
  replace hB3 := hB3.upd hu5 fun h => by have h : b3 = b1 := h; omega
  rw [halves_cells n.2] at hb5
  replace hB1 := hb5
  refine L_nil ?_
  refine T_n ?_
  refine W_seq ?_
  refine W_reg ?_
  refine L_op rfl (X_loadA (p := (ptr b1 (0))) (xs := ((halvesL o.1 n.1).map byteV)) A33 rfl hB1.atAll (by rw [List.length_map]; exact (halvesL_length o.2 n.2)) ?_)
  refine L_op0 (X_storeW (b := b3) (ys := ((halvesL o.1 n.1).map byteV)) A33 rfl rfl (byteV_one _) (by rw [List.length_map]; exact (halvesL_length o.2 n.2)) hB3 (by rw [List.size_toArray]; exact (by rw [List.length_map]; exact List.length_replicate)) ?_)
  intro w6 hu6 hb6
  have hz6 := hu6.size
  replace hU := hU.trans (hu6.mono fun i _ h => by have h : i = b3 := h; show n0 ≤ i; omega)
  replace hB2 := hB2.upd hu6 fun h => by have h : b2 = b3 := h; omega
  replace hB1 := hB1.upd hu6 fun h => by have h : b1 = b3 := h; omega
  replace hB3 := hb6
  refine L_nil ?_
  refine T_n ?_
  refine W_ret ?_
  exact BQ_r (End_1 Try.results27 (RV_A A33 rfl hB3.atAll (by rw [List.length_map]; exact (halvesL_length o.2 n.2))) ⟨rfl, hU.own hn0⟩)
end Go.Proofs.Ytfmgjkchhajpmaa
