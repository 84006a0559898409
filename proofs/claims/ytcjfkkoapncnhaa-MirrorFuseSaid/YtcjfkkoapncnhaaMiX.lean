/-
 What chapter 10 takes over of chapter 04: crashes. (Printed by wip/gen/t10c.py of this repo.)
-/
import Derived.Test.YtcjfkkoapncnhaaMiB
import Derived.Test.YtcjfkkoapncnhaaBaseS
import Derived.Test.YtcjfkkoapncnhaaBaseT
namespace Go.Proofs.Ytcjfkkoapncnhaa
open Go Go.SL Go.Proofs
set_option linter.unusedVariables false

theorem c_cloned22 (v : Value) (es : List Pg) (w : World) (lo up : Nat) (hl : NRd LP w lo up v es) (hlen : es.length ≤ 1048576) : CT Try.prog 59 #[v] w fun v w' => NOwn LP w' 37 5 w.heap.size w'.heap.size v es ∧ Ext w w' := by
 obtain ⟨a, c, rfl, hnil⟩ := hl.1.parts
 obtain ⟨n0, hn0⟩ : ∃ n, n = w.heap.size := ⟨_, rfl⟩
 have hU : Upd (fun i => n0 ≤ i) w w := Upd.refl _ _
 refine CT_of Try.func59 rfl rfl rfl ?_
 refine W_seq ?_
 refine W_reg ?_
 refine L_op rfl (X_assign (v := (.slice none 0 0)) rfl ?_)
 refine L_nil ?_
 refine T_n ?_
 refine W_seq ?_
 refine W_seq ?_
 refine W_reg ?_
 refine L_op rfl (X_move (v := (.slice a es.length c)) rfl ?_)
 rcases Bool.eq_false_or_eq_true a.isNone with ha | ha
 ·refine L_op rfl (X_nilS (a := a) (r := true) Try.underlying22 rfl (.inl ⟨rfl, ha⟩) ?_)
  refine L_nil ?_
  refine T_n ?_
  refine W_ct rfl ?_
  refine W_seq ?_
  refine W_reg ?_
  refine L_op rfl (X_assign (v := (.slice none 0 0)) rfl ?_)
  refine L_nil ?_
  refine T_n ?_
  refine W_ret ?_
  refine T_r ?_
  exact BQ_r (End_1 Try.results59 (v := .slice none 0 0) rfl ⟨by rw [List.eq_nil_of_length_eq_zero (hnil ha)]; exact NOwn.nil _ _ _ _ _, hU.own hn0⟩)
 ·refine L_op rfl (X_nilS (a := a) (r := false) Try.underlying22 rfl (.inl ⟨rfl, ha⟩) ?_)
  refine L_nil ?_
  refine T_n ?_
  refine W_cf rfl ?_
  refine W_skip ?_
  refine T_n ?_
  refine W_seq ?_
  refine W_reg ?_
  refine L_op rfl (X_buildSliceL (vs := []) (c := []) S22 (by decide) rfl rfl (fun _ h => by cases h) rfl ?_)
  intro b1 w1 hn1
  have hbn1 := hn1.num; have hbs1 := hn1.size
  replace hl := hl.ext hn1.ext
  replace hU := hU.trans (Ext.upd hn1.ext)
  have hB1 := hn1.blk
  refine L_op rfl (X_move (v := (.slice a es.length c)) rfl ?_)
  refine L_op rfl (X_append (B := n0) (n := 0) (s := (.slice (some ⟨b1, 0, none⟩) 0 0)) (x := .slice a es.length c) S22 ⟨_, Try.underlying22⟩ rfl rfl (Own.zero _ _ _ _ _) hl.1 hl.sub_one (by unfold maxLen; omega) (by omega) (by omega) ?_)
  intro v5 w5 hO hu5 _
  replace hO := hO.eq (Nat.zero_add _) (List.nil_append _)
  replace hl := hl.ext hu5.nobk
  replace hU := hU.trans (Ext.upd hu5.nobk)
  replace hB1 := hB1.ext hu5.nobk
  refine L_op rfl (X_assign (v := v5) rfl ?_)
  refine L_nil ?_
  refine T_n ?_
  refine W_ret ?_
  exact BQ_r (End_1 Try.results59 (v := v5) rfl ⟨NOwn.of (fun _ => rfl) (hO.more (by omega)) (fun b hb => (hO.lt hb).2), hU.own hn0⟩)

theorem c_cloned23 (v : Value) (es : List Wr) (w : World) (lo up : Nat) (hl : NRd LW w lo up v es) (hlen : es.length ≤ 1048576) : CT Try.prog 60 #[v] w fun v w' => NOwn LW w' 63 5 w.heap.size w'.heap.size v es ∧ Ext w w' := by
 obtain ⟨a, c, rfl, hnil⟩ := hl.1.parts
 obtain ⟨n0, hn0⟩ : ∃ n, n = w.heap.size := ⟨_, rfl⟩
 have hU : Upd (fun i => n0 ≤ i) w w := Upd.refl _ _
 refine CT_of Try.func60 rfl rfl rfl ?_
 refine W_seq ?_
 refine W_reg ?_
 refine L_op rfl (X_assign (v := (.slice none 0 0)) rfl ?_)
 refine L_nil ?_
 refine T_n ?_
 refine W_seq ?_
 refine W_seq ?_
 refine W_reg ?_
 refine L_op rfl (X_move (v := (.slice a es.length c)) rfl ?_)
 rcases Bool.eq_false_or_eq_true a.isNone with ha | ha
 ·refine L_op rfl (X_nilS (a := a) (r := true) Try.underlying23 rfl (.inl ⟨rfl, ha⟩) ?_)
  refine L_nil ?_
  refine T_n ?_
  refine W_ct rfl ?_
  refine W_seq ?_
  refine W_reg ?_
  refine L_op rfl (X_assign (v := (.slice none 0 0)) rfl ?_)
  refine L_nil ?_
  refine T_n ?_
  refine W_ret ?_
  refine T_r ?_
  exact BQ_r (End_1 Try.results60 (v := .slice none 0 0) rfl ⟨by rw [List.eq_nil_of_length_eq_zero (hnil ha)]; exact NOwn.nil _ _ _ _ _, hU.own hn0⟩)
 ·refine L_op rfl (X_nilS (a := a) (r := false) Try.underlying23 rfl (.inl ⟨rfl, ha⟩) ?_)
  refine L_nil ?_
  refine T_n ?_
  refine W_cf rfl ?_
  refine W_skip ?_
  refine T_n ?_
  refine W_seq ?_
  refine W_reg ?_
  refine L_op rfl (X_buildSliceL (vs := []) (c := []) S23 (by decide) rfl rfl (fun _ h => by cases h) rfl ?_)
  intro b1 w1 hn1
  have hbn1 := hn1.num; have hbs1 := hn1.size
  replace hl := hl.ext hn1.ext
  replace hU := hU.trans (Ext.upd hn1.ext)
  have hB1 := hn1.blk
  refine L_op rfl (X_move (v := (.slice a es.length c)) rfl ?_)
  refine L_op rfl (X_append (B := n0) (n := 0) (s := (.slice (some ⟨b1, 0, none⟩) 0 0)) (x := .slice a es.length c) S23 ⟨_, Try.underlying23⟩ rfl rfl (Own.zero _ _ _ _ _) hl.1 hl.sub_one (by unfold maxLen; omega) (by omega) (by omega) ?_)
  intro v5 w5 hO hu5 _
  replace hO := hO.eq (Nat.zero_add _) (List.nil_append _)
  replace hl := hl.ext hu5.nobk
  replace hU := hU.trans (Ext.upd hu5.nobk)
  replace hB1 := hB1.ext hu5.nobk
  refine L_op rfl (X_assign (v := v5) rfl ?_)
  refine L_nil ?_
  refine T_n ?_
  refine W_ret ?_
  exact BQ_r (End_1 Try.results60 (v := v5) rfl ⟨NOwn.of (fun _ => rfl) (hO.more (by omega)) (fun b hb => (hO.lt hb).2), hU.own hn0⟩)

theorem c_cloned24 (v : Value) (es : List Int) (w : World) (lo up : Nat) (hl : NRd LI w lo up v es) (hlen : es.length ≤ 1048576) : CT Try.prog 61 #[v] w fun v w' => NOwn LI w' 3 5 w.heap.size w'.heap.size v es ∧ Ext w w' := by
 obtain ⟨a, c, rfl, hnil⟩ := hl.1.parts
 obtain ⟨n0, hn0⟩ : ∃ n, n = w.heap.size := ⟨_, rfl⟩
 have hU : Upd (fun i => n0 ≤ i) w w := Upd.refl _ _
 refine CT_of Try.func61 rfl rfl rfl ?_
 refine W_seq ?_
 refine W_reg ?_
 refine L_op rfl (X_assign (v := (.slice none 0 0)) rfl ?_)
 refine L_nil ?_
 refine T_n ?_
 refine W_seq ?_
 refine W_seq ?_
 refine W_reg ?_
 refine L_op rfl (X_move (v := (.slice a es.length c)) rfl ?_)
 rcases Bool.eq_false_or_eq_true a.isNone with ha | ha
 ·refine L_op rfl (X_nilS (a := a) (r := true) Try.underlying24 rfl (.inl ⟨rfl, ha⟩) ?_)
  refine L_nil ?_
  refine T_n ?_
  refine W_ct rfl ?_
  refine W_seq ?_
  refine W_reg ?_
  refine L_op rfl (X_assign (v := (.slice none 0 0)) rfl ?_)
  refine L_nil ?_
  refine T_n ?_
  refine W_ret ?_
  refine T_r ?_
  exact BQ_r (End_1 Try.results61 (v := .slice none 0 0) rfl ⟨by rw [List.eq_nil_of_length_eq_zero (hnil ha)]; exact NOwn.nil _ _ _ _ _, hU.own hn0⟩)
 ·refine L_op rfl (X_nilS (a := a) (r := false) Try.underlying24 rfl (.inl ⟨rfl, ha⟩) ?_)
  refine L_nil ?_
  refine T_n ?_
  refine W_cf rfl ?_
  refine W_skip ?_
  refine T_n ?_
  refine W_seq ?_
  refine W_reg ?_
  refine L_op rfl (X_buildSlice1 (vs := []) S24 (by decide) rfl rfl (fun _ h => by cases h) ?_)
  intro b1 w1 hn1
  have hbn1 := hn1.num; have hbs1 := hn1.size
  replace hl := hl.ext hn1.ext
  replace hU := hU.trans (Ext.upd hn1.ext)
  have hB1 := hn1.blk
  refine L_op rfl (X_move (v := (.slice a es.length c)) rfl ?_)
  refine L_op rfl (X_append (B := n0) (n := 0) (s := (.slice (some ⟨b1, 0, none⟩) 0 0)) (x := .slice a es.length c) S24 ⟨_, Try.underlying24⟩ rfl rfl (Own.zero _ _ _ _ _) hl.1 hl.sub_one (by unfold maxLen; omega) (by omega) (by omega) ?_)
  intro v5 w5 hO hu5 _
  replace hO := hO.eq (Nat.zero_add _) (List.nil_append _)
  replace hl := hl.ext hu5.nobk
  replace hU := hU.trans (Ext.upd hu5.nobk)
  replace hB1 := hB1.ext hu5.nobk
  refine L_op rfl (X_assign (v := v5) rfl ?_)
  refine L_nil ?_
  refine T_n ?_
  refine W_ret ?_
  exact BQ_r (End_1 Try.results61 (v := v5) rfl ⟨NOwn.of (fun _ => rfl) (hO.more (by omega)) (fun b hb => (hO.lt hb).2), hU.own hn0⟩)

theorem c_own (pv cv bv : Value) (ps : List Pg) (cs : List Wr) (bs : List Int) (off : Bool) (w : World) (lo up : Nat) (hup : up ≤ w.heap.size) (hp : NRd LP w lo up pv ps) (hc : NRd LW w lo up cv cs) (hb : NRd LI w lo up bv bs) (hpL : ps.length ≤ 1048576) (hcL : cs.length ≤ 1048576) (hbL : bs.length ≤ 1048576) : CT Try.prog 50 #[(.agg #[pv, cv, bv, (.bool (off))])] w fun v w' => ∃ p2 c2 b2, v = .agg #[p2, c2, b2, .bool off] ∧ NOwn LP w' 37 5 w.heap.size w'.heap.size p2 ps ∧ NOwn LW w' 63 5 w.heap.size w'.heap.size c2 cs ∧ NOwn LI w' 3 5 w.heap.size w'.heap.size b2 bs ∧ Ext w w' := by
 obtain ⟨n0, hn0⟩ : ∃ n, n = w.heap.size := ⟨_, rfl⟩
 have hU : Upd (fun i => n0 ≤ i) w w := Upd.refl _ _
 have hpl := hp.sv.len
 have hcl := hc.sv.len
 have hbl := hb.sv.len
 rw [← hn0] at hup
 refine CT_of Try.func50 rfl rfl rfl ?_
 refine W_seq ?_
 refine W_reg ?_
 refine L_op rfl (X_box (v := (.agg #[pv, cv, bv, (.bool (off))])) (c := ([pv, cv, bv, (.bool (off))]).toArray) rfl rfl ?_)
 intro b1 w1 hn1
 have hbn1 := hn1.num; have hbs1 := hn1.size
 replace hp := hp.ext hn1.ext
 replace hc := hc.ext hn1.ext
 replace hb := hb.ext hn1.ext
 replace hU := hU.trans (Ext.upd hn1.ext)
 have hB1 := hn1.blk
 refine L_op rfl (X_alloc (z := (.agg #[(.slice none 0 0), (.slice none 0 0), (.slice none 0 0), (.bool (false))])) (c := #[(.slice none 0 0), (.slice none 0 0), (.slice none 0 0), (.bool (false))]) Zv26 rfl ?_)
 intro b2 w2 hn2
 have hbn2 := hn2.num; have hbs2 := hn2.size
 replace hp := hp.ext hn2.ext
 replace hc := hc.ext hn2.ext
 replace hb := hb.ext hn2.ext
 replace hU := hU.trans (Ext.upd hn2.ext)
 replace hB1 := hB1.ext hn2.ext
 have hB2 := hn2.blk
 refine L_nil ?_
 refine T_n ?_
 refine W_seq ?_
 obtain ⟨s0, hs0⟩ : ∃ n, n = w2.heap.size := ⟨_, rfl⟩
 refine W_draw 10 [[], [0], [0, 1], [], [3], [0, 1, 2, 3, 4], [], [6], [0, 1, 2, 3, 4, 5, 6, 7], [0, 1, 2, 3, 4, 6, 7], [0, 1, 2, 3, 4, 5, 6, 7, 8, 9], [0, 1, 2, 3, 4, 5, 6, 7, 8, 9, 10], [0, 1, 2, 3, 4, 5, 6, 7, 8, 9, 10, 11], [0, 1, 2, 3, 4, 5, 6, 7, 8, 9, 10, 11, 12], [0, 1, 2, 3, 4, 5, 6, 7, 8, 9, 10, 11, 12, 13]] mixed (by kernel_rfl) ?_
 refine ⟨.det (fun val => (ptr b1 (0))), ⟨fun _ _ hv => rfl, fun _ _ _ _ _ => trivial⟩, fun val h_ W hx he => ⟨trivial, ?_⟩, ?_⟩
 ·exact X_fldP (b := b1) (o := 0) (r := 0) Fd26_0 rfl rfl ⟨Upd.refl _ _, rfl⟩
 refine ⟨.det (fun val => pv), ⟨fun _ _ hv => rfl, fun _ _ _ _ _ => trivial⟩, fun val h_ W hx he => ⟨trivial, ?_⟩, ?_⟩
 ·replace hx := (Upd.drew _ _).trans hx
  replace hB1 := hB1.ext hx
  refine id (X_load (p := (ptr b1 (0))) (v := pv) T22 rfl (hB1.at1 rfl) ?_)
  exact ⟨Upd.refl _ _, rfl⟩
 refine ⟨.abs (fun _ x_ W_ => ∃ u, u ≤ W_.heap.size ∧ NOwn LP W_ 37 5 s0 u x_ ps), ⟨fun _ _ _ => rfl, fun _ _ _ _ hu h => (by obtain ⟨u, h1, h2⟩ := h; exact ⟨u, Nat.le_trans h1 hu.size, h2.ext hu⟩)⟩, fun val h_ W hx he => ⟨trivial, ?_⟩, ?_⟩
 ·replace hx := (Upd.drew _ _).trans hx
  replace hp := hp.ext hx
  have hxs := hx.size
  refine X_fn (vs := [pv]) en59 rfl (CT.mono (c_cloned22 pv ps _ lo up hp hpL) ?_)
  rintro v9 w9 ⟨hN9, hu9⟩
  exact ⟨hu9, _, Nat.le_refl _, hN9.mono (by omega) (Nat.le_refl _)⟩
 refine ⟨.det (fun val => (ptr b1 (1))), ⟨fun _ _ hv => rfl, fun _ _ _ _ _ => trivial⟩, fun val h_ W hx he => ⟨trivial, ?_⟩, ?_⟩
 ·exact X_fldP (b := b1) (o := 0) (r := 1) Fd26_1 rfl rfl ⟨Upd.refl _ _, rfl⟩
 refine ⟨.det (fun val => cv), ⟨fun _ _ hv => rfl, fun _ _ _ _ _ => trivial⟩, fun val h_ W hx he => ⟨trivial, ?_⟩, ?_⟩
 ·replace hx := (Upd.drew _ _).trans hx
  replace hB1 := hB1.ext hx
  refine id (X_load (p := (ptr b1 (1))) (v := cv) T23 rfl (hB1.at1 rfl) ?_)
  exact ⟨Upd.refl _ _, rfl⟩
 refine ⟨.abs (fun _ x_ W_ => ∃ u, u ≤ W_.heap.size ∧ NOwn LW W_ 63 5 s0 u x_ cs), ⟨fun _ _ _ => rfl, fun _ _ _ _ hu h => (by obtain ⟨u, h1, h2⟩ := h; exact ⟨u, Nat.le_trans h1 hu.size, h2.ext hu⟩)⟩, fun val h_ W hx he => ⟨trivial, ?_⟩, ?_⟩
 ·replace hx := (Upd.drew _ _).trans hx
  replace hc := hc.ext hx
  have hxs := hx.size
  refine X_fn (vs := [cv]) en60 rfl (CT.mono (c_cloned23 cv cs _ lo up hc hcL) ?_)
  rintro v9 w9 ⟨hN9, hu9⟩
  exact ⟨hu9, _, Nat.le_refl _, hN9.mono (by omega) (Nat.le_refl _)⟩
 refine ⟨.det (fun val => (ptr b1 (2))), ⟨fun _ _ hv => rfl, fun _ _ _ _ _ => trivial⟩, fun val h_ W hx he => ⟨trivial, ?_⟩, ?_⟩
 ·exact X_fldP (b := b1) (o := 0) (r := 2) Fd26_2 rfl rfl ⟨Upd.refl _ _, rfl⟩
 refine ⟨.det (fun val => bv), ⟨fun _ _ hv => rfl, fun _ _ _ _ _ => trivial⟩, fun val h_ W hx he => ⟨trivial, ?_⟩, ?_⟩
 ·replace hx := (Upd.drew _ _).trans hx
  replace hB1 := hB1.ext hx
  refine id (X_load (p := (ptr b1 (2))) (v := bv) T24 rfl (hB1.at1 rfl) ?_)
  exact ⟨Upd.refl _ _, rfl⟩
 refine ⟨.abs (fun _ x_ W_ => ∃ u, u ≤ W_.heap.size ∧ NOwn LI W_ 3 5 s0 u x_ bs), ⟨fun _ _ _ => rfl, fun _ _ _ _ hu h => (by obtain ⟨u, h1, h2⟩ := h; exact ⟨u, Nat.le_trans h1 hu.size, h2.ext hu⟩)⟩, fun val h_ W hx he => ⟨trivial, ?_⟩, ?_⟩
 ·replace hx := (Upd.drew _ _).trans hx
  replace hb := hb.ext hx
  have hxs := hx.size
  refine X_fn (vs := [bv]) en61 rfl (CT.mono (c_cloned24 bv bs _ lo up hb hbL) ?_)
  rintro v9 w9 ⟨hN9, hu9⟩
  exact ⟨hu9, _, Nat.le_refl _, hN9.mono (by omega) (Nat.le_refl _)⟩
 refine ⟨.det (fun val => (ptr b1 (0))), ⟨fun _ _ hv => rfl, fun _ _ _ _ _ => trivial⟩, fun val h_ W hx he => ⟨trivial, ?_⟩, ?_⟩
 ·obtain ⟨⟨u2, hu2, hN2⟩, he⟩ := he
  refine id (X_fldP (b := b1) (o := 0) (r := 0) Fd26_0 rfl rfl ?_)
  exact ⟨Upd.refl _ _, rfl⟩
 intro val W3 hx3 he3
 replace hx3 := (Upd.drew _ _).trans hx3
 have hz3 := hx3.size
 replace hp := hp.ext hx3
 replace hc := hc.ext hx3
 replace hb := hb.ext hx3
 replace hU := hU.trans (Ext.upd hx3)
 replace hB1 := hB1.ext hx3
 replace hB2 := hB2.ext hx3
 obtain ⟨⟨u8, hu8, hN8⟩, he3⟩ := he3
 obtain ⟨⟨u5, hu5, hN5⟩, he3⟩ := he3
 obtain ⟨⟨u2, hu2, hN2⟩, he3⟩ := he3
 refine L_op0 (X_store (b := b1) (o := 0) T22 rfl rfl (hN2.1.sv.one) hB1 (by show (0 : Nat) < 4; decide) ?_)
 intro w4 hu4 hb4
 have hz4 := hu4.size
 replace hp := hp.upd hu4 fun i h1 h2 h => by have h : i = b1 := h; omega
 replace hc := hc.upd hu4 fun i h1 h2 h => by have h : i = b1 := h; omega
 replace hb := hb.upd hu4 fun i h1 h2 h => by have h : i = b1 := h; omega
 replace hU := hU.trans (hu4.mono fun i _ h => by have h : i = b1 := h; show n0 ≤ i; omega)
 replace hB2 := hB2.upd hu4 fun h => by have h : b2 = b1 := h; omega
 replace hN2 := hN2.upd hu4 fun i h1 h2 h => by have h : i = b1 := h; omega
 replace hN5 := hN5.upd hu4 fun i h1 h2 h => by have h : i = b1 := h; omega
 replace hN8 := hN8.upd hu4 fun i h1 h2 h => by have h : i = b1 := h; omega
 replace hB1 : Blk w4 b1 #[(val 2), cv, bv, (.bool (off))] 26 := hb4
 refine L_op rfl (X_fldP (b := b1) (o := 0) (r := 1) Fd26_1 rfl rfl ?_)
 refine L_op0 (X_store (b := b1) (o := 1) T23 rfl rfl (hN5.1.sv.one) hB1 (by show (1 : Nat) < 4; decide) ?_)
 intro w5 hu5 hb5
 have hz5 := hu5.size
 replace hp := hp.upd hu5 fun i h1 h2 h => by have h : i = b1 := h; omega
 replace hc := hc.upd hu5 fun i h1 h2 h => by have h : i = b1 := h; omega
 replace hb := hb.upd hu5 fun i h1 h2 h => by have h : i = b1 := h; omega
 replace hU := hU.trans (hu5.mono fun i _ h => by have h : i = b1 := h; show n0 ≤ i; omega)
 replace hB2 := hB2.upd hu5 fun h => by have h : b2 = b1 := h; omega
 replace hN2 := hN2.upd hu5 fun i h1 h2 h => by have h : i = b1 := h; omega
 replace hN5 := hN5.upd hu5 fun i h1 h2 h => by have h : i = b1 := h; omega
 replace hN8 := hN8.upd hu5 fun i h1 h2 h => by have h : i = b1 := h; omega
 replace hB1 : Blk w5 b1 #[(val 2), (val 5), bv, (.bool (off))] 26 := hb5
 refine L_op rfl (X_fldP (b := b1) (o := 0) (r := 2) Fd26_2 rfl rfl ?_)
 refine L_op0 (X_store (b := b1) (o := 2) T24 rfl rfl (hN8.1.sv.one) hB1 (by show (2 : Nat) < 4; decide) ?_)
 intro w6 hu6 hb6
 have hz6 := hu6.size
 replace hp := hp.upd hu6 fun i h1 h2 h => by have h : i = b1 := h; omega
 replace hc := hc.upd hu6 fun i h1 h2 h => by have h : i = b1 := h; omega
 replace hb := hb.upd hu6 fun i h1 h2 h => by have h : i = b1 := h; omega
 replace hU := hU.trans (hu6.mono fun i _ h => by have h : i = b1 := h; show n0 ≤ i; omega)
 replace hB2 := hB2.upd hu6 fun h => by have h : b2 = b1 := h; omega
 replace hN2 := hN2.upd hu6 fun i h1 h2 h => by have h : i = b1 := h; omega
 replace hN5 := hN5.upd hu6 fun i h1 h2 h => by have h : i = b1 := h; omega
 replace hN8 := hN8.upd hu6 fun i h1 h2 h => by have h : i = b1 := h; omega
 replace hB1 : Blk w6 b1 #[(val 2), (val 5), (val 8), (.bool (off))] 26 := hb6
 refine L_nil ?_
 refine T_n ?_
 refine W_seq ?_
 refine W_reg ?_
 refine L_op rfl (X_loadA (p := (ptr b1 (0))) (xs := [(val 2), (val 5), (val 8), (.bool (off))]) A26 rfl hB1.atAll rfl ?_)
 refine L_op0 (X_storeW (b := b2) (ys := [(val 2), (val 5), (val 8), (.bool (off))]) A26 rfl rfl (List.forall_mem_cons.2 ⟨(hN2.1.sv.one), (List.forall_mem_cons.2 ⟨(hN5.1.sv.one), (List.forall_mem_cons.2 ⟨(hN8.1.sv.one), (List.forall_mem_cons.2 ⟨rfl, (fun _ h => by cases h)⟩)⟩)⟩)⟩) rfl hB2 rfl ?_)
 intro w7 hu7 hb7
 have hz7 := hu7.size
 replace hp := hp.upd hu7 fun i h1 h2 h => by have h : i = b2 := h; omega
 replace hc := hc.upd hu7 fun i h1 h2 h => by have h : i = b2 := h; omega
 replace hb := hb.upd hu7 fun i h1 h2 h => by have h : i = b2 := h; omega
 replace hU := hU.trans (hu7.mono fun i _ h => by have h : i = b2 := h; show n0 ≤ i; omega)
 replace hN2 := hN2.upd hu7 fun i h1 h2 h => by have h : i = b2 := h; omega
 replace hN5 := hN5.upd hu7 fun i h1 h2 h => by have h : i = b2 := h; omega
 replace hN8 := hN8.upd hu7 fun i h1 h2 h => by have h : i = b2 := h; omega
 replace hB1 := hB1.upd hu7 fun h => by have h : b1 = b2 := h; omega
 replace hB2 : Blk w7 b2 #[(val 2), (val 5), (val 8), (.bool (off))] 26 := hb7
 refine L_nil ?_
 refine T_n ?_
 refine W_ret ?_
 have hU2 := hU.own hn0
 exact BQ_r (End_1 Try.results50 (RV_A A26 rfl hB2.atAll rfl) ⟨_, _, _, rfl, hN2.mono (by omega) (by omega), hN5.mono (by omega) (by omega), hN8.mono (by omega) (by omega), hU2⟩)

def halvesL (o n : List UInt8) : List UInt8 := n.take 128 ++ o.drop 128
theorem halvesL_length {o n : List UInt8} (ho : o.length = 256) (hn : n.length = 256) : (halvesL o n).length = 256 := by
 unfold halvesL
 rw [List.length_append, List.length_take, List.length_drop]; omega
theorem halves_cells {o n : List UInt8} (hn : n.length = 256) : ((o.map byteV).toArray.toList.take 0 ++ (n.map byteV).take (min n.length 128) ++ (o.map byteV).toArray.toList.drop (0 + min n.length 128)).toArray = ((halvesL o n).map byteV).toArray := by
 have e : min n.length 128 = 128 := by omega
 have e2 : (o.map byteV).toArray.toList = o.map byteV := rfl
 unfold halvesL
 rw [List.take_zero, List.nil_append, Nat.zero_add, e, e2, ← List.map_take, ← List.map_drop, List.map_append]
def halfP (o n : Pg) : Pg := ⟨halvesL o.1 n.1, halvesL_length o.2 n.2⟩

theorem c_halves (o n : Pg) (w : World) : CT Try.prog 52 #[(pageV o), (pageV n)] w fun v w' => v = pageV (halfP o n) ∧ Ext w w' := by
 obtain ⟨n0, hn0⟩ : ∃ n, n = w.heap.size := ⟨_, rfl⟩
 have hU : Upd (fun i => n0 ≤ i) w w := Upd.refl _ _
 refine CT_of Try.func52 rfl rfl rfl ?_
 refine W_seq ?_
 refine W_reg ?_
 refine L_op rfl (X_box (v := (pageV o)) (c := ((o.1).map byteV).toArray) rfl rfl ?_)
 intro b1 w1 hn1
 have hbn1 := hn1.num; have hbs1 := hn1.size
 replace hU := hU.trans (Ext.upd hn1.ext)
 have hB1 := hn1.blk
 refine L_op rfl (X_box (v := (pageV n)) (c := ((n.1).map byteV).toArray) rfl rfl ?_)
 intro b2 w2 hn2
 have hbn2 := hn2.num; have hbs2 := hn2.size
 replace hU := hU.trans (Ext.upd hn2.ext)
 replace hB1 := hB1.ext hn2.ext
 have hB2 := hn2.blk
 refine L_op rfl (X_alloc (z := zv37) (c := zc37.toArray) Zv37 rfl ?_)
 intro b3 w3 hn3
 have hbn3 := hn3.num; have hbs3 := hn3.size
 replace hU := hU.trans (Ext.upd hn3.ext)
 replace hB1 := hB1.ext hn3.ext
 replace hB2 := hB2.ext hn3.ext
 have hB3 := hn3.blk
 rw [zc37_eq] at hB3
 refine L_nil ?_
 refine T_n ?_
 refine W_seq ?_
 refine W_draw 2 [[], [], [0, 1]] mixed (by kernel_rfl) ?_
 refine ⟨.det (fun val => (.slice (some ⟨b1, 0, none⟩) (128) 256)), ⟨fun _ _ hv => rfl, fun _ _ _ _ _ => trivial⟩, fun val h_ W hx he => ⟨trivial, ?_⟩, ?_⟩
 ·exact X_sliceA0 (len := 256) (sz := 1) (b := b1) (h' := 128) (kh := .i64) Try.underlying37 Z5 rfl trivial rfl (by omega) ⟨Upd.refl _ _, rfl⟩
 refine ⟨.det (fun val => (.slice (some ⟨b2, 0, none⟩) (256) 256)), ⟨fun _ _ hv => rfl, fun _ _ _ _ _ => trivial⟩, fun val h_ W hx he => ⟨trivial, ?_⟩, ?_⟩
 ·exact X_sliceA0 (len := 256) (sz := 1) (b := b2) (h' := 256) (kh := .i64) Try.underlying37 Z5 rfl trivial rfl (by omega) ⟨Upd.refl _ _, rfl⟩
 intro val W4 hx4 he4
 replace hx4 := (Upd.drew _ _).trans hx4
 have hz4 := hx4.size
 replace hU := hU.trans (Ext.upd hx4)
 replace hB1 := hB1.ext hx4
 replace hB2 := hB2.ext hx4
 replace hB3 := hB3.ext hx4
 refine L_op rfl (X_copy (n := (128)) (c := 256) (b := b1) (o := 0) (x := (.slice (some ⟨b2, 0, none⟩) (256) 256)) (ys := (n.1).map byteV) S59 rfl rfl hB1 (by rw [List.size_toArray, List.length_map, o.2]; omega) (hB2.rdB n.2 (by decide)) (byteV_one _) ?_)
 intro w5 hu5 hb5
 have hz5 := hu5.size
 replace hU := hU.trans (hu5.mono fun i _ h => by have h : i = b1 := h; show n0 ≤ i; omega)
 replace hB2 := hB2.upd hu5 fun h => by have h : b2 = b1 := h; omega
 replace hB3 := hB3.upd hu5 fun h => by have h : b3 = b1 := h; omega
 rw [halves_cells n.2] at hb5
 replace hB1 := hb5
 refine L_nil ?_
 refine T_n ?_
 refine W_seq ?_
 refine W_reg ?_
 refine L_op rfl (X_loadA (p := (ptr b1 (0))) (xs := ((halvesL o.1 n.1).map byteV)) A37 rfl hB1.atAll (by rw [List.length_map]; exact (halvesL_length o.2 n.2)) ?_)
 refine L_op0 (X_storeW (b := b3) (ys := ((halvesL o.1 n.1).map byteV)) A37 rfl rfl (byteV_one _) (by rw [List.length_map]; exact (halvesL_length o.2 n.2)) hB3 (by rw [List.size_toArray]; exact (by rw [List.length_map]; exact List.length_replicate)) ?_)
 intro w6 hu6 hb6
 have hz6 := hu6.size
 replace hU := hU.trans (hu6.mono fun i _ h => by have h : i = b3 := h; show n0 ≤ i; omega)
 replace hB2 := hB2.upd hu6 fun h => by have h : b2 = b3 := h; omega
 replace hB1 := hB1.upd hu6 fun h => by have h : b1 = b3 := h; omega
 replace hB3 := hb6
 refine L_nil ?_
 refine T_n ?_
 refine W_ret ?_
 exact BQ_r (End_1 Try.results52 (RV_A A37 rfl hB3.atAll (by rw [List.length_map]; exact (halvesL_length o.2 n.2))) ⟨rfl, hU.own hn0⟩)

def pkN (l : List UInt8) (i : Nat) : Nat := if i < l.length then (l.getD i 0).toNat % 3 else 0
theorem pkN_in {l : List UInt8} {i : Nat} {x : UInt8} (h : l[i]? = some x) : pkN l i = x.toNat % 3 := by
 unfold pkN
 rw [if_pos (List.getElem?_eq_some_iff.1 h).1, List.getD_eq_getElem?_getD, h]; rfl
theorem pkN_out {l : List UInt8} {i : Nat} (h : l.length ≤ i) : pkN l i = 0 := if_neg (by omega)
def pickX (cs : List Wr) (l : List UInt8) : List (List Value) := (List.range cs.length).map fun i => [.int .u8 ((pkN l i : Nat) : Int), wrV (cs.getD i wZ)]
theorem pickX_length (cs : List Wr) (l : List UInt8) : (pickX cs l).length = cs.length := by unfold pickX; rw [List.length_map, List.length_range]
theorem pickX_at {cs : List Wr} {l : List UInt8} {k : Nat} (hk : k < cs.length) : (pickX cs l)[k]? = some [.int .u8 ((pkN l k : Nat) : Int), wrV (cs.getD k wZ)] := by
 unfold pickX
 rw [List.getElem?_map, List.getElem?_range hk]; rfl
def AP (x1 x2 : Nat) (cv lv : Value) (cs : List Wr) (ls : List UInt8) (W : World) : Prop := Blk W x1 #[cv] 23 ∧ Blk W x2 #[lv] 59 ∧ Rd W 257 cv cs.length (cs.flatMap LW.cel) ∧ Rd W 1 lv ls.length (ls.map byteV)

theorem c_picked (cv lv : Value) (cs : List Wr) (ls : List UInt8) (w : World) (hc : Rd w 257 cv cs.length (cs.flatMap LW.cel)) (hl : Rd w 1 lv ls.length (ls.map byteV)) : CT Try.prog 51 #[cv, lv] w fun v w' => v = .func (.func 62) #[] #[ptr w.heap.size 0, ptr (w.heap.size + 1) 0] ∧ Blk w' w.heap.size #[cv] 23 ∧ Blk w' (w.heap.size + 1) #[lv] 59 ∧ Ext w w' ∧ w'.heap.size = w.heap.size + 2 := by
 obtain ⟨n0, hn0⟩ : ∃ n, n = w.heap.size := ⟨_, rfl⟩
 have hU : Upd (fun i => n0 ≤ i) w w := Upd.refl _ _
 refine CT_of Try.func51 rfl rfl rfl ?_
 refine W_seq ?_
 refine W_reg ?_
 refine L_op rfl (X_box (v := cv) (c := #[cv]) rfl (hc.sv.cells) ?_)
 intro b1 w1 hn1
 have hbn1 := hn1.num; have hbs1 := hn1.size
 replace hU := hU.trans (Ext.upd hn1.ext)
 have hB1 := hn1.blk
 refine L_op rfl (X_box (v := lv) (c := #[lv]) rfl (hl.sv.cells) ?_)
 intro b2 w2 hn2
 have hbn2 := hn2.num; have hbs2 := hn2.size
 replace hU := hU.trans (Ext.upd hn2.ext)
 replace hB1 := hB1.ext hn2.ext
 have hB2 := hn2.blk
 refine L_op rfl (X_assign (v := .nilFunc) rfl ?_)
 refine L_nil ?_
 refine T_n ?_
 refine W_seq ?_
 refine W_reg ?_
 refine L_op rfl (X_makeFunc (vs := [ptr b1 0, ptr b2 0]) rfl ?_)
 refine L_op rfl (X_assign (v := (.func (.func 62) #[] #[ptr b1 0, ptr b2 0])) rfl ?_)
 refine L_nil ?_
 refine T_n ?_
 refine W_ret ?_
 have e2 : b2 = w.heap.size + 1 := by omega
 exact BQ_r (End_1 Try.results51 (v := .func (.func 62) #[] #[ptr b1 0, ptr b2 0]) rfl ⟨by rw [hbn1, e2], hbn1 ▸ hB1, e2 ▸ hB2, hU.own hn0, by omega⟩)

theorem c_picked1 (cv lv : Value) (cs : List Wr) (ls : List UInt8) (x1 x2 : Nat) : IterJ Try.prog 62 [ptr x1 0, ptr x2 0] (pickX cs ls) (AP x1 x2 cv lv cs ls) (fun _ => False) := by
 intro lp J Jx W hA hJs hJxs hy hJ0
 obtain ⟨hX1, hX2, hC, hL⟩ := hA 0 _ hJ0
 have hcsv := hC.sv
 have hlsv := hL.sv
 have hmx := hC.sv.len
 have hmx2 := hL.sv.len
 show CT Try.prog 62 #[.func (.yield lp) #[] #[], ptr x1 0, ptr x2 0] W _
 refine CT_of Try.func62 rfl rfl rfl ?_
 refine W_seq ?_
 refine W_reg ?_
 refine L_op rfl (X_load (p := (ptr x1 (0))) (v := cv) T23 rfl (hX1.at1 rfl) ?_)
 refine L_op rfl (X_len (v := cv) (n := cs.length) Try.underlying23 rfl hcsv ?_)
 refine L_op rfl (X_move (v := (.int .i64 (0))) rfl ?_)
 refine L_nil ?_
 refine T_n ?_
 refine W_block ?_
 refine W_loop (α := Nat) [4, 5, 6, 9, 10, 11, 12, 13, 14, 15, 16, 17, 18, 19, 20, 21, 22, 23, 24, 25, 26, 27, 28] (fun k => [(9, (.int .i64 (((k : Nat) : Int))))]) (fun k w_ => k ≤ cs.length ∧ J k w_) (fun k => cs.length - k) ⟨rfl, 0, ⟨Nat.zero_le _, hJ0⟩, Out.refl _ _, ⟨rfl, trivial⟩⟩ ?_
 rintro k w1 _ ⟨hkl, hJ⟩
 obtain ⟨hX1, hX2, hC, hL⟩ := hA k _ hJ
 obtain ⟨nk, hnk⟩ : ∃ n, n = w1.heap.size := ⟨_, rfl⟩
 have hCn : NRd LW w1 0 nk cv cs := NRd.of (fun _ => rfl) hC fun b hb => ⟨Nat.zero_le _, by rw [hnk]; exact hC.bound (by decide) hb⟩
 have hLb : ∀ i, rbk lv = some i → i < nk := by rw [hnk]; exact fun i hi => hL.bound (by decide) hi
 have hx1 := hX1.lt; have hx2 := hX2.lt
 have hE := Upd.refl (fun _ => False) w1
 refine W_seq ?_
 refine W_reg ?_
 by_cases hc2 : (((k : Nat) : Int) : Int) < (((cs.length : Nat) : Int))
 ·refine L_op rfl (X_cmp (k := .i64) (a := ((k : Nat) : Int)) (b := ((cs.length : Nat) : Int)) (r := true) rfl rfl rfl (decide_eq_true (p := ((((k : Nat) : Int)) : Int) < ((((cs.length : Nat) : Int)) : Int)) (by omega)) ?_)
  have hk : k < cs.length := by omega
  refine L_nil ?_
  refine T_n ?_
  refine W_seq ?_
  refine W_ct rfl ?_
  refine W_skip ?_
  refine T_n ?_
  refine W_seq ?_
  refine W_block ?_
  refine W_seq ?_
  refine W_reg ?_
  refine L_op rfl (X_move (v := (.int .i64 (((k : Nat) : Int)))) rfl ?_)
  refine L_op rfl (X_idx (v := cv) (n := cs.length) (k := .i64) (i := ((k : Nat) : Int)) S23 rfl hcsv rfl (by omega) (by omega) ?_)
  have hce : cs[k]? = some (cs.getD k wZ) := wgetD (by omega)
  refine L_op rfl (X_loadA (xs := LW.cel (cs.getD k wZ)) A63 rfl (wall hCn (Int.toNat_natCast _) hce) (LW.len _) ?_)
  refine L_op rfl (X_alloc (z := zv63) (c := zc63.toArray) Zv63 rfl ?_)
  intro b3 w3 hn3
  have hbn3 := hn3.num; have hbs3 := hn3.size
  replace hX1 := hX1.ext hn3.ext
  replace hX2 := hX2.ext hn3.ext
  replace hCn := hCn.ext hn3.ext
  replace hL := hL.ext hn3.ext
  replace hE := hE.trans hn3.ext
  have hB3 := hn3.blk
  refine L_op rfl (X_assign (v := (.int .i64 (((k : Nat) : Int)))) rfl ?_)
  refine L_op0 (X_storeW (b := b3) (ys := LW.cel (cs.getD k wZ)) A63 rfl rfl (LW.one (cs.getD k wZ) (fun _ h => by cases h)) (LW.len (cs.getD k wZ)) hB3 zc63_size ?_)
  intro w4 hu4 hb4
  have hz4 := hu4.size
  replace hX1 := hX1.upd hu4 fun h => by have h : x1 = b3 := h; omega
  replace hX2 := hX2.upd hu4 fun h => by have h : x2 = b3 := h; omega
  replace hCn := hCn.upd hu4 fun i h1 h2 h => by have h : i = b3 := h; omega
  replace hL := hL.upd hu4 fun i hi h => by have hi := hLb _ hi; have h : i = b3 := h; omega
  replace hE := hE.comp hu4 (fun _ _ h => h) fun i hi h => by have h : i = b3 := h; omega
  replace hB3 := hb4
  refine L_nil ?_
  refine T_n ?_
  refine W_seq ?_
  refine W_reg ?_
  refine L_op rfl (X_assign (v := (.int .u8 (0))) rfl ?_)
  refine L_nil ?_
  refine T_n ?_
  refine W_seq ?_
  refine W_seq ?_
  refine W_reg ?_
  refine L_op rfl (X_move (v := (.int .i64 (((k : Nat) : Int)))) rfl ?_)
  refine L_op rfl (X_load (p := (ptr x2 (0))) (v := lv) T59 rfl (hX2.at1 rfl) ?_)
  refine L_op rfl (X_len (v := lv) (n := ls.length) Try.underlying59 rfl hlsv ?_)
  by_cases hc5 : (((k : Nat) : Int) : Int) < (((ls.length : Nat) : Int))
  ·refine L_op rfl (X_cmp (k := .i64) (a := ((k : Nat) : Int)) (b := ((ls.length : Nat) : Int)) (r := true) rfl rfl rfl (decide_eq_true (p := ((((k : Nat) : Int)) : Int) < ((((ls.length : Nat) : Int)) : Int)) (by omega)) ?_)
   refine L_nil ?_
   refine T_n ?_
   refine W_ct rfl ?_
   refine W_reg ?_
   refine L_op rfl (X_load (p := (ptr x2 (0))) (v := lv) T59 rfl (hX2.at1 rfl) ?_)
   refine L_op rfl (X_move (v := (.int .i64 (((k : Nat) : Int)))) rfl ?_)
   refine L_op rfl (X_idx (v := lv) (n := ls.length) (k := .i64) (i := ((k : Nat) : Int)) S59 rfl hlsv rfl (by omega) (by omega) ?_)
   obtain ⟨x0, hx0⟩ : ∃ x, ls[k]? = some x := ⟨_, List.getElem?_eq_getElem (by omega)⟩
   have hpk := pkN_in hx0
   refine L_op rfl (X_load (v := .int .u8 ((x0.toNat : Nat) : Int)) T5 rfl (hL.cell (by rw [show (((k : Nat) : Int).toNat * 1) = k by omega, List.getElem?_map, hx0]; rfl)) ?_)
   refine L_op rfl (X_arith (k := .u8) (a := ((x0.toNat : Nat) : Int)) (b := 3) (r := ((x0.toNat % 3 : Nat) : Int)) rfl rfl rfl (u8_rem x0 3) ?_)
   refine L_op rfl (X_assign (v := (.int .u8 (((x0.toNat % 3 : Nat) : Int)))) rfl ?_)
   refine L_nil ?_
   refine T_n ?_
   refine W_seq ?_
   refine W_reg ?_
   refine L_op rfl (X_move (v := (.func (.yield lp) #[] #[])) rfl ?_)
   refine L_op rfl (X_move (v := (.int .u8 (((x0.toNat % 3 : Nat) : Int)))) rfl ?_)
   refine L_op rfl (X_loadA (p := (ptr b3 (0))) (xs := LW.cel (cs.getD k wZ)) A63 rfl hB3.atAll (LW.len _) ?_)
   have hJ2_ := hJs _ _ _ hJ hE
   refine L_op rfl (X_yield (vs := [(.int .u8 (((x0.toNat % 3 : Nat) : Int))), wrV (cs.getD k wZ)]) rfl rfl (YieldC.mono (hy k _ _ (by rw [pickX_at hk, hpk] <;> rfl) hJ2_) ?_))
   rintro _ W2 (⟨rfl, hJ2⟩ | ⟨rfl, hJx⟩)
   ·refine L_op rfl (X_not (b := true) (r := false) rfl rfl ?_)
    refine L_nil ?_
    refine T_n ?_
    refine W_cf rfl ?_
    refine W_skip ?_
    refine B_n ?_
    refine T_n ?_
    refine W_reg ?_
    refine L_op rfl (X_arith (k := .i64) (a := ((k : Nat) : Int)) (b := 1) (r := ((k + 1 : Nat) : Int)) rfl rfl rfl (iadd64 (by omega) (by omega) (by omega)) ?_)
    refine L_op rfl (X_move (v := (.int .i64 (((k + 1 : Nat) : Int)))) rfl ?_)
    refine L_nil ?_
    refine T_n ?_
    exact ⟨rfl, k + 1, ⟨⟨hk, hJ2⟩, (by show cs.length - (k + 1) < cs.length - k; omega)⟩, (Out.mk rfl), ⟨rfl, trivial⟩⟩
   ·refine L_op rfl (X_not (b := false) (r := true) rfl rfl ?_)
    refine L_nil ?_
    refine T_n ?_
    refine W_ct rfl ?_
    refine W_ret ?_
    refine B_r ?_
    refine T_r ?_
    refine T_r ?_
    refine B_r ?_
    exact BQ_r (End_0 Try.results62 (.inr ⟨k, by rw [pickX_length]; omega, hJx⟩))
  ·refine L_op rfl (X_cmp (k := .i64) (a := ((k : Nat) : Int)) (b := ((ls.length : Nat) : Int)) (r := false) rfl rfl rfl (decide_eq_false (p := ((((k : Nat) : Int)) : Int) < ((((ls.length : Nat) : Int)) : Int)) (by omega)) ?_)
   have hpk := pkN_out (l := ls) (i := k) (by omega)
   refine L_nil ?_
   refine T_n ?_
   refine W_cf rfl ?_
   refine W_skip ?_
   refine T_n ?_
   refine W_seq ?_
   refine W_reg ?_
   refine L_op rfl (X_move (v := (.func (.yield lp) #[] #[])) rfl ?_)
   refine L_op rfl (X_move (v := (.int .u8 (0))) rfl ?_)
   refine L_op rfl (X_loadA (p := (ptr b3 (0))) (xs := LW.cel (cs.getD k wZ)) A63 rfl hB3.atAll (LW.len _) ?_)
   have hJ2_ := hJs _ _ _ hJ hE
   refine L_op rfl (X_yield (vs := [(.int .u8 (0)), wrV (cs.getD k wZ)]) rfl rfl (YieldC.mono (hy k _ _ (by rw [pickX_at hk, hpk] <;> rfl) hJ2_) ?_))
   rintro _ W2 (⟨rfl, hJ2⟩ | ⟨rfl, hJx⟩)
   ·refine L_op rfl (X_not (b := true) (r := false) rfl rfl ?_)
    refine L_nil ?_
    refine T_n ?_
    refine W_cf rfl ?_
    refine W_skip ?_
    refine B_n ?_
    refine T_n ?_
    refine W_reg ?_
    refine L_op rfl (X_arith (k := .i64) (a := ((k : Nat) : Int)) (b := 1) (r := ((k + 1 : Nat) : Int)) rfl rfl rfl (iadd64 (by omega) (by omega) (by omega)) ?_)
    refine L_op rfl (X_move (v := (.int .i64 (((k + 1 : Nat) : Int)))) rfl ?_)
    refine L_nil ?_
    refine T_n ?_
    exact ⟨rfl, k + 1, ⟨⟨hk, hJ2⟩, (by show cs.length - (k + 1) < cs.length - k; omega)⟩, (Out.mk rfl), ⟨rfl, trivial⟩⟩
   ·refine L_op rfl (X_not (b := false) (r := true) rfl rfl ?_)
    refine L_nil ?_
    refine T_n ?_
    refine W_ct rfl ?_
    refine W_ret ?_
    refine B_r ?_
    refine T_r ?_
    refine T_r ?_
    refine B_r ?_
    exact BQ_r (End_0 Try.results62 (.inr ⟨k, by rw [pickX_length]; omega, hJx⟩))
 ·refine L_op rfl (X_cmp (k := .i64) (a := ((k : Nat) : Int)) (b := ((cs.length : Nat) : Int)) (r := false) rfl rfl rfl (decide_eq_false (p := ((((k : Nat) : Int)) : Int) < ((((cs.length : Nat) : Int)) : Int)) (by omega)) ?_)
  refine L_nil ?_
  refine T_n ?_
  refine W_seq ?_
  refine W_cf rfl ?_
  refine W_exit ?_
  refine T_e ?_
  refine T_e ?_
  refine B_x ?_
  obtain rfl : k = cs.length := by omega
  exact BQ_n (End_0 Try.results62 (.inl (by rw [pickX_length]; exact hJ)))

theorem c_crash1 (a : Int) (e : Wr) (b1 : Nat) (w : World) (hE : Blk w b1 (LW.cel e).toArray 63) : CT Try.prog 53 #[(.int .i64 (a)), (ptr b1 (0))] w fun v w' => v = .bool (decide (a = e.1)) ∧ w = w' := by
 refine CT_of Try.func53 rfl rfl rfl ?_
 refine W_seq ?_
 refine W_reg ?_
 refine L_op rfl (X_assign (v := (.bool (false))) rfl ?_)
 refine L_nil ?_
 refine T_n ?_
 refine W_seq ?_
 refine W_reg ?_
 refine L_op rfl (X_move (v := (.int .i64 (a))) rfl ?_)
 refine L_op rfl (X_fldP (b := b1) (o := 0) (r := 0) Fd63_0 rfl rfl ?_)
 refine L_op rfl (X_load (p := (ptr b1 (0))) (v := .int .i64 e.1) T3 rfl (hE.at1 rfl) ?_)
 refine L_op rfl (X_cmp (k := .i64) (a := a) (b := e.1) (r := decide (a = e.1)) rfl rfl rfl rfl ?_)
 refine L_op rfl (X_assign (v := (.bool (decide (a = e.1)))) rfl ?_)
 refine L_nil ?_
 refine T_n ?_
 refine W_ret ?_
 exact BQ_r (End_1 Try.results53 (v := .bool (decide (a = e.1))) rfl ⟨rfl, rfl⟩)

theorem c_indexg (v : Value) (e : Wr) (b1 : Nat) (bs : List Int) (w : World) (lo up : Nat) (hb : NRd LI w lo up v bs) (hE : Blk w b1 (LW.cel e).toArray 63) : CT Try.prog 58 #[v, (.func (.func 53) #[] #[ptr b1 0])] w fun v w' => ((v = .int .i64 (-1) ∧ ∀ (j : Nat) (a : Int), bs[j]? = some a → a ≠ e.1) ∨ ∃ i : Nat, v = .int .i64 ((i : Nat) : Int) ∧ bs[i]? = some e.1 ∧ ∀ (j : Nat) (a : Int), j < i → bs[j]? = some a → a ≠ e.1) ∧ w = w' := by
 have hmx := hb.sv.len
 refine CT_of Try.func58 rfl rfl rfl ?_
 refine W_seq ?_
 refine W_reg ?_
 refine L_op rfl (X_assign (v := (.int .i64 (0))) rfl ?_)
 refine L_nil ?_
 refine T_n ?_
 refine W_seq ?_
 refine W_seq ?_
 refine W_reg ?_
 refine L_op rfl (X_move (v := v) rfl ?_)
 refine L_op rfl (X_len (v := v) (n := bs.length) Try.underlying24 rfl hb.sv ?_)
 refine L_op rfl (X_move (v := (.int .i64 (0))) rfl ?_)
 refine L_nil ?_
 refine T_n ?_
 refine W_block ?_
 refine W_loop (α := Nat) [4, 5, 8, 9, 10, 11, 12, 13, 14, 15, 16, 17, 18] (fun i => [(8, (.int .i64 (((i : Nat) : Int))))]) (fun i w_ => w = w_ ∧ i ≤ bs.length ∧ ∀ (j : Nat) (a : Int), j < i → bs[j]? = some a → a ≠ e.1) (fun i => bs.length - i) ⟨rfl, 0, ⟨rfl, Nat.zero_le _, fun j _ h => absurd h (Nat.not_lt_zero j)⟩, Out.refl _ _, ⟨rfl, trivial⟩⟩ ?_
 rintro i w1 _ ⟨rfl, hil, hz⟩
 refine W_seq ?_
 refine W_reg ?_
 by_cases hc2 : (((i : Nat) : Int) : Int) < (((bs.length : Nat) : Int))
 ·refine L_op rfl (X_cmp (k := .i64) (a := ((i : Nat) : Int)) (b := ((bs.length : Nat) : Int)) (r := true) rfl rfl rfl (decide_eq_true (p := ((((i : Nat) : Int)) : Int) < ((((bs.length : Nat) : Int)) : Int)) (by omega)) ?_)
  have hi : i < bs.length := by omega
  obtain ⟨a, hai⟩ : ∃ a, bs[i]? = some a := ⟨_, List.getElem?_eq_getElem hi⟩
  refine L_nil ?_
  refine T_n ?_
  refine W_seq ?_
  refine W_ct rfl ?_
  refine W_skip ?_
  refine T_n ?_
  refine W_seq ?_
  refine W_block ?_
  refine W_seq ?_
  refine W_reg ?_
  refine L_op rfl (X_move (v := (.int .i64 (((i : Nat) : Int)))) rfl ?_)
  refine L_op rfl (X_assign (v := (.int .i64 (((i : Nat) : Int)))) rfl ?_)
  refine L_nil ?_
  refine T_n ?_
  refine W_seq ?_
  refine W_reg ?_
  refine L_op rfl (X_move (v := (.func (.func 53) #[] #[ptr b1 0])) rfl ?_)
  refine L_op rfl (X_move (v := v) rfl ?_)
  refine L_op rfl (X_move (v := (.int .i64 (((i : Nat) : Int)))) rfl ?_)
  refine L_op rfl (X_idx (v := v) (n := bs.length) (k := .i64) (i := ((i : Nat) : Int)) S24 rfl hb.sv rfl (by omega) (by omega) ?_)
  refine L_op rfl (X_load (v := .int .i64 a) T3 rfl (iat hb (Int.toNat_natCast _) hai) ?_)
  refine L_op rfl (X_cl (vs := [.int .i64 a]) (cap := [ptr b1 0]) en53 rfl rfl (CT.mono (c_crash1 a e b1 _ hE) ?_))
  rintro _ _ ⟨rfl, rfl⟩
  rcases Bool.eq_false_or_eq_true (decide (a = e.1)) with hc3 | hc3
  ·rw [hc3]
   refine L_nil ?_
   refine T_n ?_
   refine W_ct rfl ?_
   refine W_seq ?_
   refine W_reg ?_
   refine L_op rfl (X_move (v := (.int .i64 (((i : Nat) : Int)))) rfl ?_)
   refine L_op rfl (X_assign (v := (.int .i64 (((i : Nat) : Int)))) rfl ?_)
   refine L_nil ?_
   refine T_n ?_
   refine W_ret ?_
   refine B_r ?_
   refine T_r ?_
   refine T_r ?_
   refine B_r ?_
   refine T_r ?_
   exact BQ_r (End_1 Try.results58 (v := (.int .i64 (((i : Nat) : Int)))) rfl ⟨.inr ⟨i, rfl, by rw [hai, of_decide_eq_true hc3], hz⟩, rfl⟩)
  ·rw [hc3]
   refine L_nil ?_
   refine T_n ?_
   refine W_cf rfl ?_
   refine W_skip ?_
   refine B_n ?_
   refine T_n ?_
   refine W_reg ?_
   refine L_op rfl (X_arith (k := .i64) (a := ((i : Nat) : Int)) (b := 1) (r := ((i + 1 : Nat) : Int)) rfl rfl rfl (iadd64 (by omega) (by omega) (by omega)) ?_)
   refine L_op rfl (X_move (v := (.int .i64 (((i + 1 : Nat) : Int)))) rfl ?_)
   refine L_nil ?_
   refine T_n ?_
   exact ⟨rfl, i + 1, ⟨⟨rfl, hi, fun j x hj he => (Nat.lt_or_ge j i).elim (fun h1 => hz j x h1 he) fun h1 => by obtain rfl : j = i := by { omega }; rw [hai] at he; cases he; exact of_decide_eq_false hc3⟩, (by show bs.length - (i + 1) < bs.length - i; omega)⟩, (Out.mk rfl), ⟨rfl, trivial⟩⟩
 ·refine L_op rfl (X_cmp (k := .i64) (a := ((i : Nat) : Int)) (b := ((bs.length : Nat) : Int)) (r := false) rfl rfl rfl (decide_eq_false (p := ((((i : Nat) : Int)) : Int) < ((((bs.length : Nat) : Int)) : Int)) (by omega)) ?_)
  refine L_nil ?_
  refine T_n ?_
  refine W_seq ?_
  refine W_cf rfl ?_
  refine W_exit ?_
  refine T_e ?_
  refine T_e ?_
  refine B_x ?_
  refine T_n ?_
  refine W_seq ?_
  refine W_reg ?_
  refine L_op rfl (X_assign (v := (.int .i64 (-1))) rfl ?_)
  refine L_nil ?_
  refine T_n ?_
  refine W_ret ?_
  exact BQ_r (End_1 Try.results58 (v := (.int .i64 (-1))) rfl ⟨.inl ⟨rfl, fun j a hj => hz j a (by have := (List.getElem?_eq_some_iff.1 hj).1; omega) hj⟩, rfl⟩)

theorem c_deleteg (s : Value) (e : Wr) (b1 : Nat) (bs : List Int) (w : World) (lo up : Nat) (hN : NOwn LI w 3 5 lo up s bs) (hE : Blk w b1 (LW.cel e).toArray 63) (hb1 : b1 < lo ∨ up ≤ b1) : CT Try.prog 45 #[s, (.func (.func 53) #[] #[ptr b1 0])] w fun v w' => ∃ ds, NOwn LI w' 3 5 lo up v ds ∧ ds = keepI bs e.1 ∧ (∀ b, obk v = some b → obk s = some b) ∧ Upd (fun b => obk s = some b) w w' := by
 have hmx := hN.1.sv.len
 have hsv := hN.1.sv
 have hbd := hN.2.1
 refine CT_of Try.func45 rfl rfl rfl ?_
 refine W_seq ?_
 refine W_reg ?_
 refine L_op rfl (X_assign (v := (.slice none 0 0)) rfl ?_)
 refine L_nil ?_
 refine T_n ?_
 refine W_seq ?_
 refine W_reg ?_
 refine L_op rfl (X_move (v := s) rfl ?_)
 refine L_op rfl (X_move (v := (.func (.func 53) #[] #[ptr b1 0])) rfl ?_)
 have hbr := hN.rd
 refine L_op rfl (X_fn (vs := [s, (.func (.func 53) #[] #[ptr b1 0])]) en58 rfl (CT.mono (c_indexg s e b1 bs _ lo up hbr hE) ?_))
 rintro _ _ ⟨⟨rfl, hno⟩ | ⟨i0, rfl, hi0, hlt0⟩, rfl⟩
 ·refine L_op rfl (X_assign (v := (.int .i64 (-1))) rfl ?_)
  refine L_nil ?_
  refine T_n ?_
  refine W_seq ?_
  refine W_seq ?_
  refine W_reg ?_
  refine L_op rfl (X_move (v := (.int .i64 (-1))) rfl ?_)
  refine L_op rfl (X_cmp (k := .i64) (a := -1) (b := -1) (r := true) rfl rfl rfl rfl ?_)
  refine L_nil ?_
  refine T_n ?_
  refine W_ct rfl ?_
  refine W_seq ?_
  refine W_reg ?_
  refine L_op rfl (X_move (v := s) rfl ?_)
  refine L_op rfl (X_assign (v := s) rfl ?_)
  refine L_nil ?_
  refine T_n ?_
  refine W_ret ?_
  refine T_r ?_
  exact BQ_r (End_1 Try.results45 (v := s) rfl ⟨bs, hN, (keepI_all hno).symm, fun _ h => h, Upd.refl _ _⟩)
 ·have hi0l := (List.getElem?_eq_some_iff.1 hi0).1
  refine L_op rfl (X_assign (v := (.int .i64 (((i0 : Nat) : Int)))) rfl ?_)
  refine L_nil ?_
  refine T_n ?_
  refine W_seq ?_
  refine W_seq ?_
  refine W_reg ?_
  refine L_op rfl (X_move (v := (.int .i64 (((i0 : Nat) : Int)))) rfl ?_)
  refine L_op rfl (X_cmp (k := .i64) (a := ((i0 : Nat) : Int)) (b := -1) (r := false) rfl rfl rfl (decide_eq_false (p := ((((i0 : Nat) : Int)) : Int) = ((-1) : Int)) (by omega)) ?_)
  refine L_nil ?_
  refine T_n ?_
  refine W_cf rfl ?_
  refine W_skip ?_
  refine T_n ?_
  refine W_seq ?_
  refine W_seq ?_
  refine W_reg ?_
  refine L_op rfl (X_move (v := (.int .i64 (((i0 : Nat) : Int)))) rfl ?_)
  refine L_op rfl (X_arith (k := .i64) (a := ((i0 : Nat) : Int)) (b := 1) (r := ((i0 + 1 : Nat) : Int)) rfl rfl rfl (iadd64 (by omega) (by omega) (by omega)) ?_)
  refine L_op rfl (X_assign (v := (.int .i64 (((i0 + 1 : Nat) : Int)))) rfl ?_)
  refine L_nil ?_
  refine T_n ?_
  refine W_block ?_
  refine W_loop (α := Nat × Nat × List Int) [5, 6, 7, 16, 17, 18, 19, 20, 21, 22, 23, 24, 25, 26, 27, 28, 29, 30, 31, 32, 33, 34, 35] (fun ⟨i, j, xs⟩ => [(5, (.int .i64 (((i : Nat) : Int)))), (6, (.int .i64 (((j : Nat) : Int))))]) (fun ⟨i, j, xs⟩ w_ => j ≤ bs.length ∧ i < j ∧ xs.length = bs.length ∧ xs.take i = keepI (bs.take j) e.1 ∧ (keepI (bs.take j) e.1).length = i ∧ (∀ m, j ≤ m → xs[m]? = bs[m]?) ∧ Own w_ lo 3 1 s bs.length (xs.flatMap LI.cel) ∧ Blk w_ b1 (LW.cel e).toArray 63 ∧ Upd (fun b => obk s = some b) w w_) (fun ⟨i, j, xs⟩ => bs.length - j) ⟨rfl, (i0, i0 + 1, bs), ⟨by omega, Nat.lt_succ_self _, rfl, by rw [keepI_take_hit hi0, keepI_ne hlt0], by rw [keepI_take_hit hi0, keepI_ne hlt0, List.length_take]; omega, fun _ _ => rfl, hN.1, hE, Upd.refl _ _⟩, Out.refl _ _, ⟨rfl, rfl, trivial⟩⟩ ?_
  rintro ⟨i, j, xs⟩ w1 _ ⟨hjl, hij, hxs, hxi, hil, hrest, hO, hE, hU⟩
  have hxl : xs.length = bs.length := hxs
  refine W_seq ?_
  refine W_seq ?_
  refine W_reg ?_
  refine L_op rfl (X_move (v := (.int .i64 (((j : Nat) : Int)))) rfl ?_)
  refine L_op rfl (X_move (v := s) rfl ?_)
  refine L_op rfl (X_len (v := s) (n := bs.length) Try.underlying24 rfl hsv ?_)
  by_cases hc2 : (((j : Nat) : Int) : Int) < (((bs.length : Nat) : Int))
  ·refine L_op rfl (X_cmp (k := .i64) (a := ((j : Nat) : Int)) (b := ((bs.length : Nat) : Int)) (r := true) rfl rfl rfl (decide_eq_true (p := ((((j : Nat) : Int)) : Int) < ((((bs.length : Nat) : Int)) : Int)) (by omega)) ?_)
   have hj : j < bs.length := by omega
   obtain ⟨a, haj⟩ : ∃ a, bs[j]? = some a := ⟨_, List.getElem?_eq_getElem hj⟩
   refine L_nil ?_
   refine T_n ?_
   refine W_ct rfl ?_
   refine W_skip ?_
   refine T_n ?_
   refine W_seq ?_
   refine W_block ?_
   refine W_seq ?_
   refine W_reg ?_
   refine L_op rfl (X_move (v := s) rfl ?_)
   refine L_op rfl (X_move (v := (.int .i64 (((j : Nat) : Int)))) rfl ?_)
   refine L_op rfl (X_idx (v := s) (n := bs.length) (k := .i64) (i := ((j : Nat) : Int)) S24 rfl hsv rfl (by omega) (by omega) ?_)
   refine L_op rfl (X_load (v := .int .i64 a) T3 rfl (hO.rd.cell (by rw [show (((j : Nat) : Int).toNat * 1) = j by omega, liF, List.getElem?_map, hrest j (Nat.le_refl _), haj]; rfl)) ?_)
   refine L_op rfl (X_assign (v := (.int .i64 (a))) rfl ?_)
   refine L_nil ?_
   refine T_n ?_
   refine W_seq ?_
   refine W_reg ?_
   refine L_op rfl (X_move (v := (.func (.func 53) #[] #[ptr b1 0])) rfl ?_)
   refine L_op rfl (X_move (v := (.int .i64 (a))) rfl ?_)
   refine L_op rfl (X_cl (vs := [.int .i64 a]) (cap := [ptr b1 0]) en53 rfl rfl (CT.mono (c_crash1 a e b1 _ hE) ?_))
   rintro _ _ ⟨rfl, rfl⟩
   rcases Bool.eq_false_or_eq_true (decide (a = e.1)) with hc3 | hc3
   ·rw [hc3]
    refine L_op rfl (X_not (b := true) (r := false) rfl rfl ?_)
    refine L_nil ?_
    refine T_n ?_
    refine W_cf rfl ?_
    refine W_skip ?_
    refine B_n ?_
    refine T_n ?_
    refine W_reg ?_
    refine L_op rfl (X_move (v := (.int .i64 (((j : Nat) : Int)))) rfl ?_)
    refine L_op rfl (X_arith (k := .i64) (a := ((j : Nat) : Int)) (b := 1) (r := ((j + 1 : Nat) : Int)) rfl rfl rfl (iadd64 (by omega) (by omega) (by omega)) ?_)
    refine L_op rfl (X_assign (v := (.int .i64 (((j + 1 : Nat) : Int)))) rfl ?_)
    refine L_nil ?_
    refine T_n ?_
    exact ⟨rfl, ⟨i, j + 1, xs⟩, ⟨⟨hj, by omega, hxs, by rw [keepI_take_hit (by rw [haj, of_decide_eq_true hc3])]; exact hxi, by rw [keepI_take_hit (by rw [haj, of_decide_eq_true hc3])]; exact hil, fun m hm => hrest m (by omega), hO, hE, hU⟩, (by show bs.length - (j + 1) < bs.length - j; omega)⟩, (Out.mk rfl), ⟨rfl, rfl, trivial⟩⟩
   ·rw [hc3]
    refine L_op rfl (X_not (b := false) (r := true) rfl rfl ?_)
    refine L_nil ?_
    refine T_n ?_
    refine W_ct rfl ?_
    refine W_seq ?_
    refine W_reg ?_
    refine L_op rfl (X_move (v := s) rfl ?_)
    refine L_op rfl (X_move (v := (.int .i64 (((i : Nat) : Int)))) rfl ?_)
    refine L_op rfl (X_move (v := (.int .i64 (a))) rfl ?_)
    refine L_op rfl (X_idx (v := s) (n := bs.length) (k := .i64) (i := ((i : Nat) : Int)) S24 rfl hsv rfl (by omega) (by omega) ?_)
    refine L_op0 (X_storeOwnC (i := ((i : Nat) : Int).toNat * 1) (v := s) (u := .int .i64 a) T3 hO (by omega) rfl rfl rfl ?_)
    intro w5 hO5 hu5
    have hz5 := hu5.size
    rw [show ((i : Nat) : Int).toNat * 1 = i by omega, liSet] at hO5
    replace hE := hE.upd hu5 fun h => by have h1 := hbd _ h; have h2 := (hO.lt h).1; omega
    replace hU := hU.trans hu5
    replace hO := hO5
    refine L_nil ?_
    refine T_n ?_
    refine W_reg ?_
    refine L_op rfl (X_move (v := (.int .i64 (((i : Nat) : Int)))) rfl ?_)
    refine L_op rfl (X_arith (k := .i64) (a := ((i : Nat) : Int)) (b := 1) (r := ((i + 1 : Nat) : Int)) rfl rfl rfl (iadd64 (by omega) (by omega) (by omega)) ?_)
    refine L_op rfl (X_assign (v := (.int .i64 (((i + 1 : Nat) : Int)))) rfl ?_)
    refine L_nil ?_
    refine B_n ?_
    refine T_n ?_
    refine W_reg ?_
    refine L_op rfl (X_move (v := (.int .i64 (((j : Nat) : Int)))) rfl ?_)
    refine L_op rfl (X_arith (k := .i64) (a := ((j : Nat) : Int)) (b := 1) (r := ((j + 1 : Nat) : Int)) rfl rfl rfl (iadd64 (by omega) (by omega) (by omega)) ?_)
    refine L_op rfl (X_assign (v := (.int .i64 (((j + 1 : Nat) : Int)))) rfl ?_)
    refine L_nil ?_
    refine T_n ?_
    exact ⟨rfl, ⟨i + 1, j + 1, xs.set i a⟩, ⟨⟨hj, by omega, by rw [List.length_set]; exact hxs, by rw [take_set_succ (by omega), hxi, keepI_take_miss haj (of_decide_eq_false hc3)], (by rw [keepI_take_miss haj (of_decide_eq_false hc3), List.length_append, hil]; rfl), fun m hm => by rw [List.getElem?_set_ne (by omega)]; exact hrest m (by omega), hO, hE, hU⟩, (by show bs.length - (j + 1) < bs.length - j; omega)⟩, (Out.mk rfl), ⟨rfl, rfl, trivial⟩⟩
  ·refine L_op rfl (X_cmp (k := .i64) (a := ((j : Nat) : Int)) (b := ((bs.length : Nat) : Int)) (r := false) rfl rfl rfl (decide_eq_false (p := ((((j : Nat) : Int)) : Int) < ((((bs.length : Nat) : Int)) : Int)) (by omega)) ?_)
   refine L_nil ?_
   refine T_n ?_
   refine W_cf rfl ?_
   refine W_exit ?_
   refine T_e ?_
   refine T_e ?_
   refine B_x ?_
   refine T_n ?_
   refine W_seq ?_
   refine W_reg ?_
   refine L_op rfl (X_move (v := s) rfl ?_)
   refine L_op rfl (X_move (v := (.int .i64 (((i : Nat) : Int)))) rfl ?_)
   refine L_op rfl (X_slice (n := bs.length) (l := i) (h' := bs.length) (kl := .i64) (kh := .i64) S24 rfl hsv rfl rfl (by omega) (by omega) ?_)
   refine L_op0 (X_clearTail (z := .int .i64 0) (v := s) S24 rfl rfl hO (i := i) (by omega) rfl ?_)
   intro w8 ys hO8 hys hu8
   rw [liTake] at hys
   replace hU := hU.trans hu8
   refine L_nil ?_
   refine T_n ?_
   refine W_seq ?_
   refine W_reg ?_
   refine L_op rfl (X_move (v := s) rfl ?_)
   refine L_op rfl (X_move (v := (.int .i64 (((i : Nat) : Int)))) rfl ?_)
   refine L_op rfl (X_slice (n := bs.length) (l := 0) (h' := i) (kl := .i64) (kh := .i64) S24 rfl hsv rfl rfl (by omega) (by omega) ?_)
   refine L_op rfl (X_assign (v := (cutv s 1 0 i)) rfl ?_)
   refine L_nil ?_
   refine T_n ?_
   refine W_ret ?_
   obtain rfl : j = bs.length := by omega
   have hO9 := hO8.cut0 (k := i) (by omega)
   rw [Nat.mul_one, hys, hxi, List.take_length] at hO9
   exact BQ_r (End_1 Try.results45 (v := cutv s 1 0 i) rfl ⟨keepI bs e.1, NOwn.of (fun _ => rfl) (hO9.eq (by rw [List.take_length] at hil; omega) rfl) (fun b hb => hbd b (by rwa [obk_cut0 hsv] at hb)), rfl, fun b hb => by rwa [obk_cut0 hsv] at hb, hU⟩)

def crStep (cs : List Wr) (ls : List UInt8) (st : List Pg × List Int) (i : Nat) : List Pg × List Int :=
 if pkN ls i = 0 ∨ (cs.getD i wZ).1 < 0 ∨ (st.1.length : Int) ≤ (cs.getD i wZ).1 then st
 else (st.1.set (cs.getD i wZ).1.toNat (if pkN ls i = 2 then halfP (st.1.getD (cs.getD i wZ).1.toNat default) (cs.getD i wZ).2 else (cs.getD i wZ).2), keepI st.2 (cs.getD i wZ).1)
def crSt (ps : List Pg) (bs : List Int) (cs : List Wr) (ls : List UInt8) : Nat → List Pg × List Int
 | 0 => (ps, bs)
 | k + 1 => crStep cs ls (crSt ps bs cs ls k) k
theorem crSt_length (ps : List Pg) (bs : List Int) (cs : List Wr) (ls : List UInt8) : ∀ k, (crSt ps bs cs ls k).1.length = ps.length
 | 0 => rfl
 | k + 1 => by
  show (crStep cs ls (crSt ps bs cs ls k) k).1.length = _
  unfold crStep
  split
  ·exact crSt_length ps bs cs ls k
  ·rw [List.length_set]; exact crSt_length ps bs cs ls k
theorem crSt_le (ps : List Pg) (bs : List Int) (cs : List Wr) (ls : List UInt8) : ∀ k, (crSt ps bs cs ls k).2.length ≤ bs.length
 | 0 => Nat.le_refl _
 | k + 1 => by
  show (crStep cs ls (crSt ps bs cs ls k) k).2.length ≤ _
  unfold crStep
  split
  ·exact crSt_le ps bs cs ls k
  ·exact Nat.le_trans (keepI_le _ _) (crSt_le ps bs cs ls k)
theorem crSt_skip {ps : List Pg} {bs : List Int} {cs : List Wr} {ls : List UInt8} {k : Nat} {e : Wr} (he : e = cs.getD k wZ) (h : pkN ls k = 0 ∨ e.1 < 0 ∨ (ps.length : Int) ≤ e.1) : crSt ps bs cs ls (k + 1) = crSt ps bs cs ls k := by
 subst he
 show crStep cs ls (crSt ps bs cs ls k) k = _
 unfold crStep
 rw [crSt_length]
 exact if_pos h
theorem crSt_do {ps : List Pg} {bs : List Int} {cs : List Wr} {ls : List UInt8} {k : Nat} {e : Wr} {qs : List Pg} {as_ : List Int} (he : e = cs.getD k wZ) (hq : qs = (crSt ps bs cs ls k).1) (ha : as_ = (crSt ps bs cs ls k).2) (h : ¬ (pkN ls k = 0 ∨ e.1 < 0 ∨ (ps.length : Int) ≤ e.1)) {p : Pg} (hp : (if pkN ls k = 2 then halfP (qs.getD e.1.toNat default) e.2 else e.2) = p) :
  crSt ps bs cs ls (k + 1) = (qs.set e.1.toNat p, keepI as_ e.1) := by
 subst he hq ha hp
 show crStep cs ls (crSt ps bs cs ls k) k = _
 unfold crStep
 rw [if_neg (by rw [crSt_length]; exact h)]
theorem wr_put (e : Wr) (q : Pg) : ((LW.cel e).toArray.toList.take 1 ++ q.1.map byteV ++ (LW.cel e).toArray.toList.drop (1 + (q.1.map byteV).length)).toArray = (LW.cel (e.1, q)).toArray := by
 have h1 : (q.1.map byteV).length = 256 := by rw [List.length_map]; exact q.2
 have h2 : (e.2.1.map byteV).length = 256 := by rw [List.length_map]; exact e.2.2
 rw [h1]
 show (List.take 1 (Value.int .i64 e.1 :: e.2.1.map byteV) ++ q.1.map byteV ++ List.drop (1 + 256) (Value.int .i64 e.1 :: e.2.1.map byteV)).toArray = (Value.int .i64 e.1 :: q.1.map byteV).toArray
 rw [show 1 + 256 = 256 + 1 from rfl, List.drop_succ_cons, List.drop_eq_nil_of_le (by omega)]
 simp

theorem c_crash (pv cv bv : Value) (ps : List Pg) (cs : List Wr) (bs : List Int) (off : Bool) (lv : Value) (ls : List UInt8) (w : World) (lo up : Nat) (hup : up ≤ w.heap.size) (hp : NRd LP w lo up pv ps) (hc : NRd LW w lo up cv cs) (hb : NRd LI w lo up bv bs) (hl : Rd w 1 lv ls.length (ls.map byteV)) (hpL : ps.length ≤ 1048576) (hcL : cs.length ≤ 1048576) (hbL : bs.length ≤ 1048576) : CT Try.prog 38 #[(.agg #[pv, cv, bv, (.bool (off))]), lv] w fun v w' => ∃ p2 i2, v = .agg #[p2, .slice none 0 0, i2, .bool off] ∧ NOwn LP w' 37 5 w.heap.size w'.heap.size p2 (crSt ps bs cs ls cs.length).1 ∧ NOwn LI w' 3 5 w.heap.size w'.heap.size i2 (crSt ps bs cs ls cs.length).2 ∧ Ext w w' := by
 obtain ⟨n0, hn0⟩ : ∃ n, n = w.heap.size := ⟨_, rfl⟩
 have hU : Upd (fun i => n0 ≤ i) w w := Upd.refl _ _
 have hpl := hp.sv.len
 have hcl := hc.sv.len
 have hbl := hb.sv.len
 rw [← hn0] at hup
 have hlb : ∀ i, rbk lv = some i → i < n0 := by rw [hn0]; exact fun i hi => hl.bound (by decide) hi
 refine CT_of Try.func38 rfl rfl rfl ?_
 refine W_seq ?_
 refine W_reg ?_
 refine L_op rfl (X_box (v := (.agg #[pv, cv, bv, (.bool (off))])) (c := ([pv, cv, bv, (.bool (off))]).toArray) rfl rfl ?_)
 intro b1 w1 hn1
 have hbn1 := hn1.num; have hbs1 := hn1.size
 replace hp := hp.ext hn1.ext
 replace hc := hc.ext hn1.ext
 replace hb := hb.ext hn1.ext
 replace hl := hl.ext hn1.ext
 replace hU := hU.trans (Ext.upd hn1.ext)
 have hB1 := hn1.blk
 refine L_op rfl (X_alloc (z := (.agg #[(.slice none 0 0), (.slice none 0 0), (.slice none 0 0), (.bool (false))])) (c := #[(.slice none 0 0), (.slice none 0 0), (.slice none 0 0), (.bool (false))]) Zv26 rfl ?_)
 intro b2 w2 hn2
 have hbn2 := hn2.num; have hbs2 := hn2.size
 replace hp := hp.ext hn2.ext
 replace hc := hc.ext hn2.ext
 replace hb := hb.ext hn2.ext
 replace hl := hl.ext hn2.ext
 replace hU := hU.trans (Ext.upd hn2.ext)
 replace hB1 := hB1.ext hn2.ext
 have hB2 := hn2.blk
 refine L_nil ?_
 refine T_n ?_
 refine W_scopeQ ?_
 refine W_seq ?_
 refine W_reg ?_
 refine L_op rfl (X_loadA (p := (ptr b1 (0))) (xs := [pv, cv, bv, (.bool (off))]) A26 rfl hB1.atAll rfl ?_)
 obtain ⟨s0, hs0⟩ : ∃ n, n = w2.heap.size := ⟨_, rfl⟩
 refine L_op rfl (X_fn (vs := [(.agg ([pv, cv, bv, (.bool (off))]).toArray)]) en50 rfl (CT.mono (c_own pv cv bv ps cs bs off _ lo up (by omega) hp hc hb hpL hcL hbL) ?_))
 rintro _ w3 ⟨p_2, c_2, i_2, rfl, hP2, hC2, hI2, hu3⟩
 have hz3 := hu3.size
 rw [← hs0] at hP2 hC2 hI2
 obtain ⟨us0, hus0_⟩ : ∃ n, n = w3.heap.size := ⟨_, rfl⟩
 rw [← hus0_] at hP2 hC2 hI2
 replace hp := hp.ext hu3
 replace hc := hc.ext hu3
 replace hb := hb.ext hu3
 replace hl := hl.ext hu3
 replace hU := hU.trans (Ext.upd hu3)
 replace hB1 := hB1.ext hu3
 replace hB2 := hB2.ext hu3
 refine L_op0 (X_storeW (b := b1) (ys := [p_2, c_2, i_2, (.bool (off))]) A26 rfl rfl (List.forall_mem_cons.2 ⟨(hP2.1.sv.one), (List.forall_mem_cons.2 ⟨(hC2.1.sv.one), (List.forall_mem_cons.2 ⟨(hI2.1.sv.one), (List.forall_mem_cons.2 ⟨rfl, (fun _ h => by cases h)⟩)⟩)⟩)⟩) rfl hB1 rfl ?_)
 intro w4 hu4 hb4
 have hz4 := hu4.size
 replace hp := hp.upd hu4 fun i h1 h2 h => by have h : i = b1 := h; omega
 replace hc := hc.upd hu4 fun i h1 h2 h => by have h : i = b1 := h; omega
 replace hb := hb.upd hu4 fun i h1 h2 h => by have h : i = b1 := h; omega
 replace hl := hl.upd hu4 fun i hi h => by have hi := hlb _ hi; have h : i = b1 := h; omega
 replace hU := hU.trans (hu4.mono fun i _ h => by have h : i = b1 := h; show n0 ≤ i; omega)
 replace hB2 := hB2.upd hu4 fun h => by have h : b2 = b1 := h; omega
 replace hP2 := hP2.upd hu4 fun i h1 h2 h => by have h : i = b1 := h; omega
 replace hC2 := hC2.upd hu4 fun i h1 h2 h => by have h : i = b1 := h; omega
 replace hI2 := hI2.upd hu4 fun i h1 h2 h => by have h : i = b1 := h; omega
 replace hB1 : Blk w4 b1 #[p_2, c_2, i_2, (.bool (off))] 26 := hb4
 refine L_nil ?_
 refine T_n ?_
 refine W_seq ?_
 refine W_label ?_
 refine T_n ?_
 refine W_seq ?_
 refine W_seq ?_
 refine W_reg ?_
 refine L_op rfl (X_fldP (b := b1) (o := 0) (r := 1) Fd26_1 rfl rfl ?_)
 refine L_op rfl (X_load (p := (ptr b1 (1))) (v := c_2) T23 rfl (hB1.at1 rfl) ?_)
 refine L_op rfl (X_move (v := lv) rfl ?_)
 obtain ⟨x1, hx1_⟩ : ∃ n, n = w4.heap.size := ⟨_, rfl⟩
 refine L_op rfl (X_fn (vs := [c_2, lv]) en51 rfl (CT.mono (c_picked c_2 lv cs ls _ hC2.1.rd hl) ?_))
 rintro _ w5 ⟨rfl, hX1, hX2, hu5, hz5⟩
 rw [← hx1_] at hX1 hX2 ⊢
 replace hp := hp.ext hu5
 replace hc := hc.ext hu5
 replace hb := hb.ext hu5
 replace hl := hl.ext hu5
 replace hU := hU.trans (Ext.upd hu5)
 replace hB2 := hB2.ext hu5
 replace hP2 := hP2.ext hu5
 replace hC2 := hC2.ext hu5
 replace hI2 := hI2.ext hu5
 replace hB1 := hB1.ext hu5
 have hb1l := hB1.lt; have hb2l := hB2.lt; have hx1l := hX1.lt; have hx2l := hX2.lt
 refine L_nil ?_
 refine T_n ?_
 refine W_block ?_
 obtain ⟨nL, hnL⟩ : ∃ n, n = w5.heap.size := ⟨_, rfl⟩
 refine W_rangeJ (lb := [ptr x1 0, ptr (x1 + 1) 0]) (xs := (pickX cs ls)) rfl en62 (c_picked1 c_2 lv cs ls x1 (x1 + 1)) rfl (fun x hx => by unfold pickX at hx; obtain ⟨y, _, rfl⟩ := List.mem_map.1 hx; rfl) (fun b => b = b1 ∨ (s0 ≤ b ∧ b < us0) ∨ nL + 2 ≤ b) (fun b hb_ => ⟨by rcases hb_ with h | h | h <;> omega, by rcases hb_ with h | h | h <;> omega⟩) (fun b h => h.elim) (fun k W => NOwn LP W 37 5 s0 us0 p_2 (crSt ps bs cs ls k).1 ∧ NOwn LW W 63 5 s0 us0 c_2 cs ∧ (∃ i_3, NOwn LI W 3 5 s0 us0 i_3 (crSt ps bs cs ls k).2 ∧ Blk W b1 #[p_2, c_2, i_3, .bool off] 26) ∧ Blk W b2 #[.slice none 0 0, .slice none 0 0, .slice none 0 0, .bool false] 26 ∧ Blk W x1 #[c_2] 23 ∧ Blk W (x1 + 1) #[lv] 59 ∧ Rd W 1 lv ls.length (ls.map byteV) ∧ Upd (fun i => n0 ≤ i) w W ∧ us0 ≤ W.heap.size) (fun k e W => False) (fun k W h => ⟨h.2.2.2.2.1, h.2.2.2.2.2.1, h.2.1.1.rd, h.2.2.2.2.2.2.1⟩) (fun k W W2 hI hu => by obtain ⟨hP, hC, ⟨i_3, hI3, h1⟩, h2, h3, h4, hl, hU, hs⟩ := hI; exact ⟨hP.upd hu fun i h1 h2 => fun h => by { rcases h with h | h; (· exact h); (· omega) }, hC.upd hu fun i h1 h2 => fun h => by { rcases h with h | h; (· exact h); (· omega) }, ⟨i_3, hI3.upd hu fun i h1 h2 => fun h => by { rcases h with h | h; (· exact h); (· omega) }, h1.upd hu fun h => by { rcases h with h | h; (· exact h); (· omega) }⟩, h2.upd hu fun h => by { rcases h with h | h; (· exact h); (· omega) }, h3.upd hu fun h => by { rcases h with h | h; (· exact h); (· omega) }, h4.upd hu fun h => by { rcases h with h | h; (· exact h); (· omega) }, hl.upd hu fun i hi => by have hi := hlb _ hi; exact fun h => by { rcases h with h | h; (· exact h); (· omega) }, hU.trans (hu.mono fun i _ h => by { rcases h with h | h; (· exact h.elim); (· show n0 ≤ i; omega) }), Nat.le_trans hs hu.size⟩) (fun k e W W2 hI hu => hI) ?_ ?_ ?_ ?_
 ·intro W hx_ hs_
  exact ⟨hP2.ext hx_, hC2.ext hx_, ⟨i_2, hI2.ext hx_, hB1.ext hx_⟩, hB2.ext hx_, hX1.ext hx_, hX2.ext hx_, hl.ext hx_, hU.trans (Ext.upd hx_), by omega⟩
 ·intro k x W hk_ hI_ hsz_ hlp_
  obtain ⟨hP2, hC2, ⟨i_3, hI2, hB1⟩, hB2, hX1, hX2, hl, hU, husw⟩ := hI_
  have hkW : k < cs.length := by rw [← pickX_length cs ls]; exact (List.getElem?_eq_some_iff.1 hk_).1
  rw [pickX_at hkW] at hk_; cases hk_
  obtain ⟨e, he⟩ : ∃ e, e = cs.getD k wZ := ⟨_, rfl⟩
  rw [← he]
  obtain ⟨qs, hqs⟩ : ∃ x, x = (crSt ps bs cs ls k).1 := ⟨_, rfl⟩
  obtain ⟨as_, has⟩ : ∃ x, x = (crSt ps bs cs ls k).2 := ⟨_, rfl⟩
  rw [← hqs] at hP2; rw [← has] at hI2
  have hql : qs.length = ps.length := by rw [hqs]; exact crSt_length _ _ _ _ _
  have hal_ : as_.length ≤ bs.length := by rw [has]; exact crSt_le _ _ _ _ _
  have hD := Upd.refl (fun b => b = b1 ∨ (s0 ≤ b ∧ b < us0) ∨ nL + 2 ≤ b) W
  refine W_seq ?_
  refine W_reg ?_
  refine L_op rfl (X_assign (v := (.int .u8 (((pkN ls k : Nat) : Int)))) rfl ?_)
  refine L_nil ?_
  refine T_n ?_
  refine W_reg ?_
  refine L_op rfl (X_alloc (z := zv63) (c := zc63.toArray) Zv63 rfl ?_)
  intro b6 w6 hn6
  have hbn6 := hn6.num; have hbs6 := hn6.size
  replace hP2 := hP2.ext hn6.ext
  replace hC2 := hC2.ext hn6.ext
  replace hI2 := hI2.ext hn6.ext
  replace hB1 := hB1.ext hn6.ext
  replace hB2 := hB2.ext hn6.ext
  replace hX1 := hX1.ext hn6.ext
  replace hX2 := hX2.ext hn6.ext
  replace hl := hl.ext hn6.ext
  replace hU := hU.trans (Ext.upd hn6.ext)
  replace hD := hD.trans (Ext.upd hn6.ext)
  have hB6 := hn6.blk
  refine L_op0 (X_storeW (b := b6) (ys := LW.cel e) A63 rfl rfl (LW.one e (fun _ h => by cases h)) (LW.len e) hB6 zc63_size ?_)
  intro w7 hu7 hb7
  have hz7 := hu7.size
  replace hP2 := hP2.upd hu7 fun i h1 h2 h => by have h : i = b6 := h; omega
  replace hC2 := hC2.upd hu7 fun i h1 h2 h => by have h : i = b6 := h; omega
  replace hI2 := hI2.upd hu7 fun i h1 h2 h => by have h : i = b6 := h; omega
  replace hB1 := hB1.upd hu7 fun h => by have h : b1 = b6 := h; omega
  replace hB2 := hB2.upd hu7 fun h => by have h : b2 = b6 := h; omega
  replace hX1 := hX1.upd hu7 fun h => by have h : x1 = b6 := h; omega
  replace hX2 := hX2.upd hu7 fun h => by have h : (x1 + 1) = b6 := h; omega
  replace hl := hl.upd hu7 fun i hi h => by have hi := hlb _ hi; have h : i = b6 := h; omega
  replace hU := hU.trans (hu7.mono fun i _ h => by have h : i = b6 := h; show n0 ≤ i; omega)
  replace hD := hD.trans (hu7.mono fun i _ h => by have h : i = b6 := h; show i = b1 ∨ (s0 ≤ i ∧ i < us0) ∨ nL + 2 ≤ i; omega)
  replace hB6 := hb7
  refine L_nil ?_
  refine T_n ⟨hD, fun W2 hu2_ hlp2_ => ?_⟩
  have hsz2_ := hu2_.size
  replace hP2 := hP2.upd hu2_ fun i h1 h2 h => by have h : i = nL + 1 := (by rw [hnL]; exact h); omega
  replace hC2 := hC2.upd hu2_ fun i h1 h2 h => by have h : i = nL + 1 := (by rw [hnL]; exact h); omega
  replace hI2 := hI2.upd hu2_ fun i h1 h2 h => by have h : i = nL + 1 := (by rw [hnL]; exact h); omega
  replace hB1 := hB1.upd hu2_ fun h => by have h : b1 = nL + 1 := (by rw [hnL]; exact h); omega
  replace hB2 := hB2.upd hu2_ fun h => by have h : b2 = nL + 1 := (by rw [hnL]; exact h); omega
  replace hX1 := hX1.upd hu2_ fun h => by have h : x1 = nL + 1 := (by rw [hnL]; exact h); omega
  replace hX2 := hX2.upd hu2_ fun h => by have h : (x1 + 1) = nL + 1 := (by rw [hnL]; exact h); omega
  replace hl := hl.upd hu2_ fun i hi h => by have hi := hlb _ hi; have h : i = nL + 1 := (by rw [hnL]; exact h); omega
  replace hU := hU.trans (hu2_.mono fun i _ h => by have h : i = nL + 1 := (by rw [hnL]; exact h); show n0 ≤ i; omega)
  replace hB6 := hB6.upd hu2_ fun h => by have h : b6 = nL + 1 := (by rw [hnL]; exact h); omega
  have hD := Upd.refl (fun b => b = b1 ∨ (s0 ≤ b ∧ b < us0) ∨ nL + 2 ≤ b) W2
  refine W_block ?_
  refine W_seq ?_
  refine W_seq ?_
  refine W_reg ?_
  refine L_op rfl (X_move (v := (.int .u8 (((pkN ls k : Nat) : Int)))) rfl ?_)
  by_cases hc8 : (((pkN ls k : Nat) : Int) : Int) = (0)
  ·refine L_op rfl (X_cmp (k := .u8) (a := ((pkN ls k : Nat) : Int)) (b := 0) (r := true) rfl rfl rfl (decide_eq_true (p := ((((pkN ls k : Nat) : Int)) : Int) = ((0) : Int)) (by omega)) ?_)
   refine L_op rfl (X_move (v := (.bool (true))) rfl ?_)
   refine L_gn (dj := 17) (t := true) rfl rfl rfl rfl ?_
   refine L_gn (dj := 17) (t := true) rfl rfl rfl rfl ?_
   refine L_gn (dj := 17) (t := true) rfl rfl rfl rfl ?_
   refine L_op rfl (X_pick (t := true) (v := (.bool (true))) rfl rfl ?_)
   refine L_op rfl (X_move (v := (.bool (true))) rfl ?_)
   refine L_gn (dj := 22) (t := true) rfl rfl rfl rfl ?_
   refine L_gn (dj := 22) (t := true) rfl rfl rfl rfl ?_
   refine L_gn (dj := 22) (t := true) rfl rfl rfl rfl ?_
   refine L_gn (dj := 22) (t := true) rfl rfl rfl rfl ?_
   refine L_gn (dj := 22) (t := true) rfl rfl rfl rfl ?_
   refine L_gn (dj := 22) (t := true) rfl rfl rfl rfl ?_
   refine L_op rfl (X_pick (t := true) (v := (.bool (true))) rfl rfl ?_)
   refine L_nil ?_
   refine T_n ?_
   refine W_ct rfl ?_
   refine W_exit ?_
   refine T_e ?_
   refine B_x ?_
   have hst := crSt_skip (bs := bs) (ps := ps) (ls := ls) he (by omega)
   exact RQ_n hD ⟨by rw [hst, ← hqs]; exact hP2, hC2, ⟨i_3, by rw [hst, ← has]; exact hI2, hB1⟩, hB2, hX1, hX2, hl, hU, by omega⟩
  ·refine L_op rfl (X_cmp (k := .u8) (a := ((pkN ls k : Nat) : Int)) (b := 0) (r := false) rfl rfl rfl (decide_eq_false (p := ((((pkN ls k : Nat) : Int)) : Int) = ((0) : Int)) (by omega)) ?_)
   refine L_op rfl (X_move (v := (.bool (false))) rfl ?_)
   refine L_gy (dj := 17) rfl rfl rfl (X_fldP (b := b6) (o := 0) (r := 0) Fd63_0 rfl rfl ?_)
   refine L_gy (dj := 17) rfl rfl rfl (X_load (p := (ptr b6 (0))) (v := .int .i64 e.1) T3 rfl (hB6.at1 rfl) ?_)
   by_cases hc9 : (e.1 : Int) < (0)
   ·refine L_gy (dj := 17) rfl rfl rfl (X_cmp (k := .i64) (a := e.1) (b := 0) (r := true) rfl rfl rfl (decide_eq_true (p := ((e.1) : Int) < ((0) : Int)) (by omega)) ?_)
    refine L_op rfl (X_pick (t := false) (v := (.bool (true))) rfl rfl ?_)
    refine L_op rfl (X_move (v := (.bool (true))) rfl ?_)
    refine L_gn (dj := 22) (t := true) rfl rfl rfl rfl ?_
    refine L_gn (dj := 22) (t := true) rfl rfl rfl rfl ?_
    refine L_gn (dj := 22) (t := true) rfl rfl rfl rfl ?_
    refine L_gn (dj := 22) (t := true) rfl rfl rfl rfl ?_
    refine L_gn (dj := 22) (t := true) rfl rfl rfl rfl ?_
    refine L_gn (dj := 22) (t := true) rfl rfl rfl rfl ?_
    refine L_op rfl (X_pick (t := true) (v := (.bool (true))) rfl rfl ?_)
    refine L_nil ?_
    refine T_n ?_
    refine W_ct rfl ?_
    refine W_exit ?_
    refine T_e ?_
    refine B_x ?_
    have hst := crSt_skip (bs := bs) (ps := ps) (ls := ls) he (by omega)
    exact RQ_n hD ⟨by rw [hst, ← hqs]; exact hP2, hC2, ⟨i_3, by rw [hst, ← has]; exact hI2, hB1⟩, hB2, hX1, hX2, hl, hU, by omega⟩
   ·refine L_gy (dj := 17) rfl rfl rfl (X_cmp (k := .i64) (a := e.1) (b := 0) (r := false) rfl rfl rfl (decide_eq_false (p := ((e.1) : Int) < ((0) : Int)) (by omega)) ?_)
    refine L_op rfl (X_pick (t := false) (v := (.bool (false))) rfl rfl ?_)
    refine L_op rfl (X_move (v := (.bool (false))) rfl ?_)
    refine L_gy (dj := 22) rfl rfl rfl (X_fldP (b := b6) (o := 0) (r := 0) Fd63_0 rfl rfl ?_)
    refine L_gy (dj := 22) rfl rfl rfl (X_load (p := (ptr b6 (0))) (v := .int .i64 e.1) T3 rfl (hB6.at1 rfl) ?_)
    refine L_gy (dj := 22) rfl rfl rfl (X_fldP (b := b1) (o := 0) (r := 0) Fd26_0 rfl rfl ?_)
    refine L_gy (dj := 22) rfl rfl rfl (X_load (p := (ptr b1 (0))) (v := p_2) T22 rfl (hB1.at1 rfl) ?_)
    refine L_gy (dj := 22) rfl rfl rfl (X_len (v := p_2) (n := qs.length) Try.underlying22 rfl hP2.1.sv ?_)
    by_cases hc10 : (e.1 : Int) ≥ (((qs.length : Nat) : Int))
    ·refine L_gy (dj := 22) rfl rfl rfl (X_cmp (k := .i64) (a := e.1) (b := ((qs.length : Nat) : Int)) (r := true) rfl rfl rfl (decide_eq_true (p := ((((qs.length : Nat) : Int)) : Int) ≤ ((e.1) : Int)) (by omega)) ?_)
     refine L_op rfl (X_pick (t := false) (v := (.bool (true))) rfl rfl ?_)
     refine L_nil ?_
     refine T_n ?_
     refine W_ct rfl ?_
     refine W_exit ?_
     refine T_e ?_
     refine B_x ?_
     have hst := crSt_skip (bs := bs) (ps := ps) (ls := ls) he (by omega)
     exact RQ_n hD ⟨by rw [hst, ← hqs]; exact hP2, hC2, ⟨i_3, by rw [hst, ← has]; exact hI2, hB1⟩, hB2, hX1, hX2, hl, hU, by omega⟩
    ·refine L_gy (dj := 22) rfl rfl rfl (X_cmp (k := .i64) (a := e.1) (b := ((qs.length : Nat) : Int)) (r := false) rfl rfl rfl (decide_eq_false (p := ((((qs.length : Nat) : Int)) : Int) ≤ ((e.1) : Int)) (by omega)) ?_)
     refine L_op rfl (X_pick (t := false) (v := (.bool (false))) rfl rfl ?_)
     refine L_nil ?_
     refine T_n ?_
     refine W_cf rfl ?_
     refine W_skip ?_
     refine T_n ?_
     refine W_seq ?_
     refine W_seq ?_
     refine W_reg ?_
     refine L_op rfl (X_move (v := (.int .u8 (((pkN ls k : Nat) : Int)))) rfl ?_)
     by_cases hc11 : (((pkN ls k : Nat) : Int) : Int) = (2)
     ·refine L_op rfl (X_cmp (k := .u8) (a := ((pkN ls k : Nat) : Int)) (b := 2) (r := true) rfl rfl rfl (decide_eq_true (p := ((((pkN ls k : Nat) : Int)) : Int) = ((2) : Int)) (by omega)) ?_)
      refine L_nil ?_
      refine T_n ?_
      refine W_ct rfl ?_
      have hin : 0 ≤ e.1 ∧ e.1 < ((ps.length : Nat) : Int) := by omega
      obtain ⟨po, hpo⟩ : ∃ x, qs[e.1.toNat]? = some x := ⟨_, List.getElem?_eq_getElem (by omega)⟩
      refine W_draw 8 [[], [0], [], [2], [0, 1, 2, 3], [0, 1, 2, 3, 4], [], [6], [0, 1, 2, 3, 4, 5, 6, 7], [0, 1, 2, 3, 4, 5, 6, 7, 8], [0, 1, 2, 3, 4, 5, 6, 7, 8, 9]] mixed (by kernel_rfl) ?_
      refine ⟨.det (fun val => (ptr b1 (0))), ⟨fun _ _ hv => rfl, fun _ _ _ _ _ => trivial⟩, fun val h_ W hx he => ⟨trivial, ?_⟩, ?_⟩
      ·exact X_fldP (b := b1) (o := 0) (r := 0) Fd26_0 rfl rfl ⟨Upd.refl _ _, rfl⟩
      refine ⟨.det (fun val => p_2), ⟨fun _ _ hv => rfl, fun _ _ _ _ _ => trivial⟩, fun val h_ W hx he => ⟨trivial, ?_⟩, ?_⟩
      ·replace hx := (Upd.drew _ _).trans hx
       replace hB1 := hB1.ext hx
       refine id (X_load (p := (ptr b1 (0))) (v := p_2) T22 rfl (hB1.at1 rfl) ?_)
       exact ⟨Upd.refl _ _, rfl⟩
      refine ⟨.det (fun val => (ptr b6 (0))), ⟨fun _ _ hv => rfl, fun _ _ _ _ _ => trivial⟩, fun val h_ W hx he => ⟨trivial, ?_⟩, ?_⟩
      ·exact X_fldP (b := b6) (o := 0) (r := 0) Fd63_0 rfl rfl ⟨Upd.refl _ _, rfl⟩
      refine ⟨.det (fun val => (.int .i64 (e.1))), ⟨fun _ _ hv => rfl, fun _ _ _ _ _ => trivial⟩, fun val h_ W hx he => ⟨trivial, ?_⟩, ?_⟩
      ·replace hx := (Upd.drew _ _).trans hx
       replace hB6 := hB6.ext hx
       refine id (X_load (p := (ptr b6 (0))) (v := .int .i64 e.1) T3 rfl (hB6.at1 rfl) ?_)
       exact ⟨Upd.refl _ _, rfl⟩
      refine ⟨.det (fun val => (pof p_2 ((e.1 : Int).toNat * 256))), ⟨fun _ _ hv => rfl, fun _ _ _ _ _ => trivial⟩, fun val h_ W hx he => ⟨trivial, ?_⟩, ?_⟩
      ·replace hx := (Upd.drew _ _).trans hx
       replace hP2 := hP2.ext hx
       refine id (X_idx (v := p_2) (n := qs.length) (k := .i64) (i := e.1) S22 rfl hP2.1.sv rfl (by omega) (by omega) ?_)
       exact ⟨Upd.refl _ _, rfl⟩
      refine ⟨.det (fun val => (pageV po)), ⟨fun _ _ hv => rfl, fun _ _ _ _ _ => trivial⟩, fun val h_ W hx he => ⟨trivial, ?_⟩, ?_⟩
      ·replace hx := (Upd.drew _ _).trans hx
       replace hP2 := hP2.ext hx
       refine id (X_loadA (xs := po.1.map byteV) A37 rfl (pall hP2.rd (k := e.1.toNat) rfl hpo) (by rw [List.length_map]; exact po.2) ?_)
       exact ⟨Upd.refl _ _, rfl⟩
      refine ⟨.det (fun val => (ptr b6 (1))), ⟨fun _ _ hv => rfl, fun _ _ _ _ _ => trivial⟩, fun val h_ W hx he => ⟨trivial, ?_⟩, ?_⟩
      ·exact X_fldP (b := b6) (o := 0) (r := 1) Fd63_1 rfl rfl ⟨Upd.refl _ _, rfl⟩
      refine ⟨.det (fun val => (pageV e.2)), ⟨fun _ _ hv => rfl, fun _ _ _ _ _ => trivial⟩, fun val h_ W hx he => ⟨trivial, ?_⟩, ?_⟩
      ·replace hx := (Upd.drew _ _).trans hx
       replace hB6 := hB6.ext hx
       refine id (X_loadA (xs := e.2.1.map byteV) A37 rfl (hB6.at_ 1 (e.2.1.map byteV) (fun j u hj => by rw [Nat.add_comm]; simpa [LW] using hj)) (by rw [List.length_map]; exact e.2.2) ?_)
       exact ⟨Upd.refl _ _, rfl⟩
      intro val W12 hx12 he12
      replace hx12 := (Upd.drew _ _).trans hx12
      have hz12 := hx12.size
      replace hP2 := hP2.ext hx12
      replace hC2 := hC2.ext hx12
      replace hI2 := hI2.ext hx12
      replace hB1 := hB1.ext hx12
      replace hB2 := hB2.ext hx12
      replace hX1 := hX1.ext hx12
      replace hX2 := hX2.ext hx12
      replace hl := hl.ext hx12
      replace hU := hU.trans (Ext.upd hx12)
      replace hB6 := hB6.ext hx12
      replace hD := hD.trans (Ext.upd hx12)
      refine L_op rfl (X_fn (vs := [(pageV po), (pageV e.2)]) en52 rfl (CT.mono (c_halves po e.2 _) ?_))
      rintro _ w13 ⟨rfl, hu13⟩
      have hz13 := hu13.size
      replace hP2 := hP2.ext hu13
      replace hC2 := hC2.ext hu13
      replace hI2 := hI2.ext hu13
      replace hB1 := hB1.ext hu13
      replace hB2 := hB2.ext hu13
      replace hX1 := hX1.ext hu13
      replace hX2 := hX2.ext hu13
      replace hl := hl.ext hu13
      replace hU := hU.trans (Ext.upd hu13)
      replace hB6 := hB6.ext hu13
      replace hD := hD.trans (Ext.upd hu13)
      refine L_op rfl (X_fldP (b := b6) (o := 0) (r := 1) Fd63_1 rfl rfl ?_)
      refine L_op0 (X_storeA (b := b6) (o := 1) (ys := (halfP po e.2).1.map byteV) A37 rfl rfl (byteV_one _) (by rw [List.length_map]; exact (halfP po e.2).2) hB6 (by rw [wr_size]; decide) ?_)
      intro w14 hu14 hb14
      have hz14 := hu14.size
      replace hP2 := hP2.upd hu14 fun i h1 h2 h => by have h : i = b6 := h; omega
      replace hC2 := hC2.upd hu14 fun i h1 h2 h => by have h : i = b6 := h; omega
      replace hI2 := hI2.upd hu14 fun i h1 h2 h => by have h : i = b6 := h; omega
      replace hB1 := hB1.upd hu14 fun h => by have h : b1 = b6 := h; omega
      replace hB2 := hB2.upd hu14 fun h => by have h : b2 = b6 := h; omega
      replace hX1 := hX1.upd hu14 fun h => by have h : x1 = b6 := h; omega
      replace hX2 := hX2.upd hu14 fun h => by have h : (x1 + 1) = b6 := h; omega
      replace hl := hl.upd hu14 fun i hi h => by have hi := hlb _ hi; have h : i = b6 := h; omega
      replace hU := hU.trans (hu14.mono fun i _ h => by have h : i = b6 := h; show n0 ≤ i; omega)
      replace hD := hD.trans (hu14.mono fun i _ h => by have h : i = b6 := h; show i = b1 ∨ (s0 ≤ i ∧ i < us0) ∨ nL + 2 ≤ i; omega)
      rw [wr_put] at hb14
      replace hB6 := hb14
      refine L_nil ?_
      refine T_n ?_
      refine W_seq ?_
      have hin : 0 ≤ e.1 ∧ e.1 < ((ps.length : Nat) : Int) := by omega
      refine W_reg ?_
      refine L_op rfl (X_fldP (b := b1) (o := 0) (r := 0) Fd26_0 rfl rfl ?_)
      refine L_op rfl (X_load (p := (ptr b1 (0))) (v := p_2) T22 rfl (hB1.at1 rfl) ?_)
      refine L_op rfl (X_fldP (b := b6) (o := 0) (r := 0) Fd63_0 rfl rfl ?_)
      refine L_op rfl (X_load (p := (ptr b6 (0))) (v := .int .i64 e.1) T3 rfl (hB6.at1 rfl) ?_)
      refine L_op rfl (X_fldP (b := b6) (o := 0) (r := 1) Fd63_1 rfl rfl ?_)
      refine L_op rfl (X_loadA (xs := (e.1, halfP po e.2).2.1.map byteV) A37 rfl (hB6.at_ 1 ((e.1, halfP po e.2).2.1.map byteV) (fun j u hj => by rw [Nat.add_comm]; simpa [LW] using hj)) (by rw [List.length_map]; exact (e.1, halfP po e.2).2.2) ?_)
      refine L_op rfl (X_idx (v := p_2) (n := qs.length) (k := .i64) (i := e.1) S22 rfl hP2.1.sv rfl (by omega) (by omega) ?_)
      refine L_op0 (X_storeOwnA (i := e.1.toNat * 256) (m := 256) (v := p_2) (ys := (e.1, halfP po e.2).2.1.map byteV) A37 hP2.1 (by have h2 : LP.sz = 256 := rfl; rw [h2]; omega) (by decide) rfl rfl (byteV_one _) (by rw [List.length_map]; exact (e.1, halfP po e.2).2.2) ?_)
      intro w8_ hO8 hu8_
      have hz8_ := hu8_.size
      have hlt_ : e.1.toNat < qs.length := by omega
      have hP8 : NOwn LP w8_ 37 5 s0 us0 p_2 (qs.set e.1.toNat (e.1, halfP po e.2).2) := NOwn.of (fun _ => rfl) (hO8.eq (by rw [List.length_set]) (by rw [flat_setA (L := LP) hlt_]; rfl)) hP2.2.1
      replace hC2 := NOwn.upd' (fun _ => rfl) hC2 hu8_ fun b h1 h2 => absurd (hC2.1.types hP2.1 h1 h2) (by decide)
      replace hI2 := NOwn.upd' (fun _ => rfl) hI2 hu8_ fun b h1 h2 => absurd (hI2.1.types hP2.1 h1 h2) (by decide)
      replace hB1 := hB1.upd hu8_ fun h => by have h1_ := hP2.1.lt h; have h2_ := hP2.2.1 _ h; omega
      replace hB2 := hB2.upd hu8_ fun h => by have h1_ := hP2.1.lt h; have h2_ := hP2.2.1 _ h; omega
      replace hX1 := hX1.upd hu8_ fun h => by have h1_ := hP2.1.lt h; have h2_ := hP2.2.1 _ h; omega
      replace hX2 := hX2.upd hu8_ fun h => by have h1_ := hP2.1.lt h; have h2_ := hP2.2.1 _ h; omega
      replace hl := hl.upd hu8_ fun i hi h => by have hi := hlb _ hi; have h1_ := hP2.1.lt h; have h2_ := hP2.2.1 _ h; omega
      replace hU := hU.trans (hu8_.mono fun i _ h => by have h1_ := hP2.1.lt h; have h2_ := hP2.2.1 _ h; show n0 ≤ i; omega)
      replace hD := hD.trans (hu8_.mono fun i _ h => by have h1_ := hP2.1.lt h; have h2_ := hP2.2.1 _ h; show i = b1 ∨ (s0 ≤ i ∧ i < us0) ∨ nL + 2 ≤ i; omega)
      replace hB6 := hB6.upd hu8_ fun h => by have h1_ := hP2.1.lt h; have h2_ := hP2.2.1 _ h; omega
      replace hP2 := hP8
      refine L_nil ?_
      refine T_n ?_
      refine W_reg ?_
      refine L_op rfl (X_fldP (b := b1) (o := 0) (r := 2) Fd26_2 rfl rfl ?_)
      refine L_op rfl (X_load (p := (ptr b1 (2))) (v := i_3) T24 rfl (hB1.at1 rfl) ?_)
      refine L_op rfl (X_makeFunc (vs := [(ptr b6 (0))]) rfl ?_)
      have hbe_ := hB6.lt
      have hbg : us0 ≤ b6 := by omega
      refine L_op rfl (X_fn (vs := [i_3, (.func (.func 53) #[] #[(ptr b6 (0))])]) en45 rfl (CT.mono (c_deleteg i_3 (e.1, halfP po e.2) b6 as_ _ s0 us0 hI2 hB6 (.inr hbg)) ?_))
      rintro i_4 w9_ ⟨ds, hI4, hds, hob, hu9_⟩
      have hz9_ := hu9_.size
      replace hP2 := NOwn.upd' (fun _ => rfl) hP2 hu9_ fun b h1 h2 => absurd (hP2.1.types hI2.1 h1 h2) (by decide)
      replace hC2 := NOwn.upd' (fun _ => rfl) hC2 hu9_ fun b h1 h2 => absurd (hC2.1.types hI2.1 h1 h2) (by decide)
      replace hB1 := hB1.upd hu9_ fun h => by have h1_ := hI2.1.lt h; have h2_ := hI2.2.1 _ h; omega
      replace hB2 := hB2.upd hu9_ fun h => by have h1_ := hI2.1.lt h; have h2_ := hI2.2.1 _ h; omega
      replace hX1 := hX1.upd hu9_ fun h => by have h1_ := hI2.1.lt h; have h2_ := hI2.2.1 _ h; omega
      replace hX2 := hX2.upd hu9_ fun h => by have h1_ := hI2.1.lt h; have h2_ := hI2.2.1 _ h; omega
      replace hl := hl.upd hu9_ fun i hi h => by have hi := hlb _ hi; have h1_ := hI2.1.lt h; have h2_ := hI2.2.1 _ h; omega
      replace hU := hU.trans (hu9_.mono fun i _ h => by have h1_ := hI2.1.lt h; have h2_ := hI2.2.1 _ h; show n0 ≤ i; omega)
      replace hD := hD.trans (hu9_.mono fun i _ h => by have h1_ := hI2.1.lt h; have h2_ := hI2.2.1 _ h; show i = b1 ∨ (s0 ≤ i ∧ i < us0) ∨ nL + 2 ≤ i; omega)
      refine L_op rfl (X_fldP (b := b1) (o := 0) (r := 2) Fd26_2 rfl rfl ?_)
      refine L_op0 (X_store (b := b1) (o := 2) T24 rfl rfl (hI4.1.sv.one) hB1 (by show (2 : Nat) < 4; decide) ?_)
      intro w15 hu15 hb15
      have hz15 := hu15.size
      replace hB2 := hB2.upd hu15 fun h => by have h : b2 = b1 := h; omega
      replace hX1 := hX1.upd hu15 fun h => by have h : x1 = b1 := h; omega
      replace hX2 := hX2.upd hu15 fun h => by have h : (x1 + 1) = b1 := h; omega
      replace hl := hl.upd hu15 fun i hi h => by have hi := hlb _ hi; have h : i = b1 := h; omega
      replace hU := hU.trans (hu15.mono fun i _ h => by have h : i = b1 := h; show n0 ≤ i; omega)
      replace hD := hD.trans (hu15.mono fun i _ h => by have h : i = b1 := h; show i = b1 ∨ (s0 ≤ i ∧ i < us0) ∨ nL + 2 ≤ i; omega)
      replace hP2 := hP2.upd hu15 fun i h1 h2 h => by have h : i = b1 := h; omega
      replace hC2 := hC2.upd hu15 fun i h1 h2 h => by have h : i = b1 := h; omega
      replace hI4 := hI4.upd hu15 fun i h1 h2 h => by have h : i = b1 := h; omega
      replace hB1 : Blk w15 b1 #[p_2, c_2, i_4, (.bool (off))] 26 := hb15
      refine L_nil ?_
      refine B_n ?_
      have hst := crSt_do (ps := ps) (bs := bs) (ls := ls) he hqs has (by omega) (p := (e.1, halfP po e.2).2) (by rw [if_pos (by omega), List.getD_eq_getElem?_getD, hpo]; rfl)
      exact RQ_n hD ⟨by rw [hst]; exact hP2, hC2, ⟨i_4, by rw [hst, ← hds]; exact hI4, hB1⟩, hB2, hX1, hX2, hl, hU, by omega⟩
     ·refine L_op rfl (X_cmp (k := .u8) (a := ((pkN ls k : Nat) : Int)) (b := 2) (r := false) rfl rfl rfl (decide_eq_false (p := ((((pkN ls k : Nat) : Int)) : Int) = ((2) : Int)) (by omega)) ?_)
      refine L_nil ?_
      refine T_n ?_
      refine W_cf rfl ?_
      refine W_skip ?_
      refine T_n ?_
      refine W_seq ?_
      have hin : 0 ≤ e.1 ∧ e.1 < ((ps.length : Nat) : Int) := by omega
      refine W_reg ?_
      refine L_op rfl (X_fldP (b := b1) (o := 0) (r := 0) Fd26_0 rfl rfl ?_)
      refine L_op rfl (X_load (p := (ptr b1 (0))) (v := p_2) T22 rfl (hB1.at1 rfl) ?_)
      refine L_op rfl (X_fldP (b := b6) (o := 0) (r := 0) Fd63_0 rfl rfl ?_)
      refine L_op rfl (X_load (p := (ptr b6 (0))) (v := .int .i64 e.1) T3 rfl (hB6.at1 rfl) ?_)
      refine L_op rfl (X_fldP (b := b6) (o := 0) (r := 1) Fd63_1 rfl rfl ?_)
      refine L_op rfl (X_loadA (xs := e.2.1.map byteV) A37 rfl (hB6.at_ 1 (e.2.1.map byteV) (fun j u hj => by rw [Nat.add_comm]; simpa [LW] using hj)) (by rw [List.length_map]; exact e.2.2) ?_)
      refine L_op rfl (X_idx (v := p_2) (n := qs.length) (k := .i64) (i := e.1) S22 rfl hP2.1.sv rfl (by omega) (by omega) ?_)
      refine L_op0 (X_storeOwnA (i := e.1.toNat * 256) (m := 256) (v := p_2) (ys := e.2.1.map byteV) A37 hP2.1 (by have h2 : LP.sz = 256 := rfl; rw [h2]; omega) (by decide) rfl rfl (byteV_one _) (by rw [List.length_map]; exact e.2.2) ?_)
      intro w8_ hO8 hu8_
      have hz8_ := hu8_.size
      have hlt_ : e.1.toNat < qs.length := by omega
      have hP8 : NOwn LP w8_ 37 5 s0 us0 p_2 (qs.set e.1.toNat e.2) := NOwn.of (fun _ => rfl) (hO8.eq (by rw [List.length_set]) (by rw [flat_setA (L := LP) hlt_]; rfl)) hP2.2.1
      replace hC2 := NOwn.upd' (fun _ => rfl) hC2 hu8_ fun b h1 h2 => absurd (hC2.1.types hP2.1 h1 h2) (by decide)
      replace hI2 := NOwn.upd' (fun _ => rfl) hI2 hu8_ fun b h1 h2 => absurd (hI2.1.types hP2.1 h1 h2) (by decide)
      replace hB1 := hB1.upd hu8_ fun h => by have h1_ := hP2.1.lt h; have h2_ := hP2.2.1 _ h; omega
      replace hB2 := hB2.upd hu8_ fun h => by have h1_ := hP2.1.lt h; have h2_ := hP2.2.1 _ h; omega
      replace hX1 := hX1.upd hu8_ fun h => by have h1_ := hP2.1.lt h; have h2_ := hP2.2.1 _ h; omega
      replace hX2 := hX2.upd hu8_ fun h => by have h1_ := hP2.1.lt h; have h2_ := hP2.2.1 _ h; omega
      replace hl := hl.upd hu8_ fun i hi h => by have hi := hlb _ hi; have h1_ := hP2.1.lt h; have h2_ := hP2.2.1 _ h; omega
      replace hU := hU.trans (hu8_.mono fun i _ h => by have h1_ := hP2.1.lt h; have h2_ := hP2.2.1 _ h; show n0 ≤ i; omega)
      replace hB6 := hB6.upd hu8_ fun h => by have h1_ := hP2.1.lt h; have h2_ := hP2.2.1 _ h; omega
      replace hD := hD.trans (hu8_.mono fun i _ h => by have h1_ := hP2.1.lt h; have h2_ := hP2.2.1 _ h; show i = b1 ∨ (s0 ≤ i ∧ i < us0) ∨ nL + 2 ≤ i; omega)
      replace hP2 := hP8
      refine L_nil ?_
      refine T_n ?_
      refine W_reg ?_
      refine L_op rfl (X_fldP (b := b1) (o := 0) (r := 2) Fd26_2 rfl rfl ?_)
      refine L_op rfl (X_load (p := (ptr b1 (2))) (v := i_3) T24 rfl (hB1.at1 rfl) ?_)
      refine L_op rfl (X_makeFunc (vs := [(ptr b6 (0))]) rfl ?_)
      have hbe_ := hB6.lt
      have hbg : us0 ≤ b6 := by omega
      refine L_op rfl (X_fn (vs := [i_3, (.func (.func 53) #[] #[(ptr b6 (0))])]) en45 rfl (CT.mono (c_deleteg i_3 e b6 as_ _ s0 us0 hI2 hB6 (.inr hbg)) ?_))
      rintro i_4 w9_ ⟨ds, hI4, hds, hob, hu9_⟩
      have hz9_ := hu9_.size
      replace hP2 := NOwn.upd' (fun _ => rfl) hP2 hu9_ fun b h1 h2 => absurd (hP2.1.types hI2.1 h1 h2) (by decide)
      replace hC2 := NOwn.upd' (fun _ => rfl) hC2 hu9_ fun b h1 h2 => absurd (hC2.1.types hI2.1 h1 h2) (by decide)
      replace hB1 := hB1.upd hu9_ fun h => by have h1_ := hI2.1.lt h; have h2_ := hI2.2.1 _ h; omega
      replace hB2 := hB2.upd hu9_ fun h => by have h1_ := hI2.1.lt h; have h2_ := hI2.2.1 _ h; omega
      replace hX1 := hX1.upd hu9_ fun h => by have h1_ := hI2.1.lt h; have h2_ := hI2.2.1 _ h; omega
      replace hX2 := hX2.upd hu9_ fun h => by have h1_ := hI2.1.lt h; have h2_ := hI2.2.1 _ h; omega
      replace hl := hl.upd hu9_ fun i hi h => by have hi := hlb _ hi; have h1_ := hI2.1.lt h; have h2_ := hI2.2.1 _ h; omega
      replace hU := hU.trans (hu9_.mono fun i _ h => by have h1_ := hI2.1.lt h; have h2_ := hI2.2.1 _ h; show n0 ≤ i; omega)
      replace hD := hD.trans (hu9_.mono fun i _ h => by have h1_ := hI2.1.lt h; have h2_ := hI2.2.1 _ h; show i = b1 ∨ (s0 ≤ i ∧ i < us0) ∨ nL + 2 ≤ i; omega)
      refine L_op rfl (X_fldP (b := b1) (o := 0) (r := 2) Fd26_2 rfl rfl ?_)
      refine L_op0 (X_store (b := b1) (o := 2) T24 rfl rfl (hI4.1.sv.one) hB1 (by show (2 : Nat) < 4; decide) ?_)
      intro w16 hu16 hb16
      have hz16 := hu16.size
      replace hB2 := hB2.upd hu16 fun h => by have h : b2 = b1 := h; omega
      replace hX1 := hX1.upd hu16 fun h => by have h : x1 = b1 := h; omega
      replace hX2 := hX2.upd hu16 fun h => by have h : (x1 + 1) = b1 := h; omega
      replace hl := hl.upd hu16 fun i hi h => by have hi := hlb _ hi; have h : i = b1 := h; omega
      replace hU := hU.trans (hu16.mono fun i _ h => by have h : i = b1 := h; show n0 ≤ i; omega)
      replace hD := hD.trans (hu16.mono fun i _ h => by have h : i = b1 := h; show i = b1 ∨ (s0 ≤ i ∧ i < us0) ∨ nL + 2 ≤ i; omega)
      replace hP2 := hP2.upd hu16 fun i h1 h2 h => by have h : i = b1 := h; omega
      replace hC2 := hC2.upd hu16 fun i h1 h2 h => by have h : i = b1 := h; omega
      replace hI4 := hI4.upd hu16 fun i h1 h2 h => by have h : i = b1 := h; omega
      replace hB1 : Blk w16 b1 #[p_2, c_2, i_4, (.bool (off))] 26 := hb16
      refine L_nil ?_
      refine B_n ?_
      have hst := crSt_do (ps := ps) (bs := bs) (ls := ls) he hqs has (by omega) (p := e.2) (by exact if_neg (by omega))
      exact RQ_n hD ⟨by rw [hst]; exact hP2, hC2, ⟨i_4, by rw [hst, ← hds]; exact hI4, hB1⟩, hB2, hX1, hX2, hl, hU, by omega⟩
 ·intro W hI_ hd_
  obtain ⟨hP2, hC2, ⟨i_3, hI2, hB1⟩, hB2, hX1, hX2, hl, hU, husw⟩ := hI_
  rw [pickX_length] at hP2 hI2
  have hd : Dfd W nL := by rw [hnL]; exact hd_
  obtain ⟨qs, hqs⟩ : ∃ x, x = (crSt ps bs cs ls cs.length).1 := ⟨_, rfl⟩
  obtain ⟨as_, has⟩ : ∃ x, x = (crSt ps bs cs ls cs.length).2 := ⟨_, rfl⟩
  rw [← hqs] at hP2; rw [← has] at hI2
  have hsz_ := hU.size
  refine B_n ?_
  refine T_n ?_
  refine W_seq ?_
  refine W_reg ?_
  refine L_op rfl (X_fldP (b := b1) (o := 0) (r := 1) Fd26_1 rfl rfl ?_)
  refine L_op0 (X_store (b := b1) (o := 1) T23 rfl rfl rfl hB1 (by show (1 : Nat) < 4; decide) ?_)
  intro w17 hu17 hb17
  have hz17 := hu17.size
  replace hP2 := hP2.upd hu17 fun i h1 h2 h => by have h : i = b1 := h; omega
  replace hC2 := hC2.upd hu17 fun i h1 h2 h => by have h : i = b1 := h; omega
  replace hI2 := hI2.upd hu17 fun i h1 h2 h => by have h : i = b1 := h; omega
  replace hB2 := hB2.upd hu17 fun h => by have h : b2 = b1 := h; omega
  replace hX1 := hX1.upd hu17 fun h => by have h : x1 = b1 := h; omega
  replace hX2 := hX2.upd hu17 fun h => by have h : (x1 + 1) = b1 := h; omega
  replace hl := hl.upd hu17 fun i hi h => by have hi := hlb _ hi; have h : i = b1 := h; omega
  replace hU := hU.trans (hu17.mono fun i _ h => by have h : i = b1 := h; show n0 ≤ i; omega)
  replace hd := hd.upd hu17 fun h => by have h : nL = b1 := h; omega
  replace hB1 : Blk w17 b1 #[p_2, (.slice none 0 0), i_3, (.bool (off))] 26 := hb17
  refine L_nil ?_
  refine T_n ?_
  refine W_seq ?_
  refine W_reg ?_
  refine L_op rfl (X_loadA (p := (ptr b1 (0))) (xs := [p_2, (.slice none 0 0), i_3, (.bool (off))]) A26 rfl hB1.atAll rfl ?_)
  refine L_op0 (X_storeW (b := b2) (ys := [p_2, (.slice none 0 0), i_3, (.bool (off))]) A26 rfl rfl (List.forall_mem_cons.2 ⟨(hP2.1.sv.one), (List.forall_mem_cons.2 ⟨rfl, (List.forall_mem_cons.2 ⟨(hI2.1.sv.one), (List.forall_mem_cons.2 ⟨rfl, (fun _ h => by cases h)⟩)⟩)⟩)⟩) rfl hB2 rfl ?_)
  intro w18 hu18 hb18
  have hz18 := hu18.size
  replace hP2 := hP2.upd hu18 fun i h1 h2 h => by have h : i = b2 := h; omega
  replace hC2 := hC2.upd hu18 fun i h1 h2 h => by have h : i = b2 := h; omega
  replace hI2 := hI2.upd hu18 fun i h1 h2 h => by have h : i = b2 := h; omega
  replace hX1 := hX1.upd hu18 fun h => by have h : x1 = b2 := h; omega
  replace hX2 := hX2.upd hu18 fun h => by have h : (x1 + 1) = b2 := h; omega
  replace hl := hl.upd hu18 fun i hi h => by have hi := hlb _ hi; have h : i = b2 := h; omega
  replace hU := hU.trans (hu18.mono fun i _ h => by have h : i = b2 := h; show n0 ≤ i; omega)
  replace hd := hd.upd hu18 fun h => by have h : nL = b2 := h; omega
  replace hB1 := hB1.upd hu18 fun h => by have h : b1 = b2 := h; omega
  replace hB2 : Blk w18 b2 #[p_2, (.slice none 0 0), i_3, (.bool (off))] 26 := hb18
  refine L_nil ?_
  refine T_n ?_
  refine W_ret ?_
  refine S_r ?_
  refine BQ_r (End_m (hnL ▸ hd) fun w9 hu9 => ?_)
  have hz9 := hu9.size
  have hP2 := hP2.upd hu9 fun i h1 h2 h => by have h : i = nL := (by rw [hnL]; exact h); omega
  have hI2 := hI2.upd hu9 fun i h1 h2 h => by have h : i = nL := (by rw [hnL]; exact h); omega
  have hB2 := hB2.upd hu9 fun h => by have h : b2 = nL := (by rw [hnL]; exact h); omega
  exact End_1 Try.results38 (RV_A A26 rfl hB2.atAll rfl) ⟨_, _, rfl, by rw [← hqs]; exact hP2.mono (by omega) (by omega), by rw [← has]; exact hI2.mono (by omega) (by omega), (hU.trans (hu9.mono fun i _ h => by have h : i = nL := (by rw [hnL]; exact h); show n0 ≤ i; omega)).own hn0⟩
 ·intro k e W hk_ hI_ hd_ he_
  exact hI_.elim
end Go.Proofs.Ytcjfkkoapncnhaa
