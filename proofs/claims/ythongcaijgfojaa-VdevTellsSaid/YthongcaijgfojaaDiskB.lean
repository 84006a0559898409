/-
  More contracts of chapter 03: copies. (Printed by wip/gen/t03b.py of this repo.)
-/
import Derived.Test.YthongcaijgfojaaDisk
namespace Go.Proofs.Ythongcaijgfojaa
open Go Go.SL Go.Proofs
set_option linter.unusedVariables false

theorem built26 (a b c : Option Addr) (n1 n2 n3 c1 c2 c3 : Nat) (o : Bool) : Try.prog.built 26 [(0, .slice a n1 c1), (1, .slice b n2 c2), (2, .slice c n3 c3), (3, .bool o)] = some #[.slice a n1 c1, .slice b n2 c2, .slice c n3 c3, .bool o] := by kernel_rfl
theorem built26' {u v x : Value} {n m k : Nat} (h : SV u n) (h2 : SV v m) (h3 : SV x k) (o : Bool) : Try.prog.built 26 [(0, u), (1, v), (2, x), (3, .bool o)] = some #[u, v, x, .bool o] := by
  obtain ⟨a, c, rfl, _⟩ := h
  obtain ⟨a2, c2, rfl, _⟩ := h2
  obtain ⟨a3, c3, rfl, _⟩ := h3
  exact built26 a a2 a3 n m k c c2 c3 o
open Classical in
noncomputable def askE (np : Nat) (cs : List Wr) (bs : List Int) (off : Bool) (n : Int) : Int := if MayD np cs bs off ∧ 0 ≤ n ∧ n < np then (if off = true then 30 else 0) else 2
theorem askE_bad {np : Nat} {cs : List Wr} {bs : List Int} {off : Bool} {n : Int} (h : ¬ (MayD np cs bs off ∧ 0 ≤ n ∧ n < np)) : askE np cs bs off n = 2 := if_neg h
theorem askE_off {np : Nat} {cs : List Wr} {bs : List Int} {off : Bool} {n : Int} (h : MayD np cs bs off) (h1 : 0 ≤ n) (h2 : n < np) (ho : off = true) : askE np cs bs off n = 30 := (if_pos ⟨h, h1, h2⟩).trans (if_pos ho)
theorem askE_ok {np : Nat} {cs : List Wr} {bs : List Int} {off : Bool} {n : Int} (h : MayD np cs bs off) (h1 : 0 ≤ n) (h2 : n < np) (ho : off = false) : askE np cs bs off n = 0 := (if_pos ⟨h, h1, h2⟩).trans (if_neg (by rw [ho]; decide))
theorem askE_zero {np : Nat} {cs : List Wr} {bs : List Int} {off : Bool} {n : Int} (h : askE np cs bs off n = 0) : MayD np cs bs off ∧ 0 ≤ n ∧ n < np ∧ off = false := by
  unfold askE at h
  split at h
  · rename_i h1
    refine ⟨h1.1, h1.2.1, h1.2.2, ?_⟩
    cases off with
    | true => simp at h
    | false => rfl
  · simp at h

theorem c_copied22 (v : Value) (es : List Pg) (w : World) (lo up : Nat) (hl : NRd LP w lo up v es) (hlen : es.length ≤ 1048576) : CT Try.prog 35 #[v] w fun v w' => NOwn LP w' 28 5 w.heap.size w'.heap.size v es ∧ Ext w w' := by
  obtain ⟨n0, hn0⟩ : ∃ n, n = w.heap.size := ⟨_, rfl⟩
  have hU : Upd (fun i => n0 ≤ i) w w := Upd.refl _ _
  refine CT_of Try.func35 rfl rfl rfl ?_
  refine W_seq ?_
  refine W_reg ?_
  refine L_op rfl (X_assign (v := (.slice none 0 0)) rfl ?_)
  refine L_nil ?_
  refine T_n ?_
  refine W_seq ?_
  refine W_reg ?_
  refine L_op rfl (X_buildSliceL (vs := []) (c := []) S22 (by decide) rfl rfl (fun _ h => by cases h) rfl ?_)
  intro b1 w1 hn1
  have hbn1 := hn1.num; have hbs1 := hn1.size
  replace hl := hl.ext hn1.ext
  replace hU := hU.trans (Ext.upd hn1.ext)
  have hB1 := hn1.blk
  refine L_op rfl (X_move (v := v) rfl ?_)
  refine L_op rfl (X_append (B := n0) (n := 0) (s := (.slice (some ⟨b1, 0, none⟩) 0 0)) (x := v) S22 ⟨_, Try.underlying22⟩ rfl rfl (Own.zero _ _ _ _ _) hl.1 hl.sub_one (by unfold maxLen; omega) (by omega) (by omega) ?_)
  intro v5 w5 hO hu5 _
  replace hO := hO.eq (Nat.zero_add _) (List.nil_append _)
  replace hl := hl.ext hu5.nobk
  replace hU := hU.trans (Ext.upd hu5.nobk)
  replace hB1 := hB1.ext hu5.nobk
  refine L_op rfl (X_assign (v := v5) rfl ?_)
  refine L_nil ?_
  refine T_n ?_
  refine W_ret ?_
  exact BQ_r (End_1 Try.results35 (v := v5) rfl ⟨NOwn.of (fun _ => rfl) (hO.more (by omega)) (fun b hb => (hO.lt hb).2), hU.own hn0⟩)

theorem c_copied23 (v : Value) (es : List Wr) (w : World) (lo up : Nat) (hl : NRd LW w lo up v es) (hlen : es.length ≤ 1048576) : CT Try.prog 36 #[v] w fun v w' => NOwn LW w' 43 5 w.heap.size w'.heap.size v es ∧ Ext w w' := by
  obtain ⟨n0, hn0⟩ : ∃ n, n = w.heap.size := ⟨_, rfl⟩
  have hU : Upd (fun i => n0 ≤ i) w w := Upd.refl _ _
  refine CT_of Try.func36 rfl rfl rfl ?_
  refine W_seq ?_
  refine W_reg ?_
  refine L_op rfl (X_assign (v := (.slice none 0 0)) rfl ?_)
  refine L_nil ?_
  refine T_n ?_
  refine W_seq ?_
  refine W_reg ?_
  refine L_op rfl (X_buildSliceL (vs := []) (c := []) S23 (by decide) rfl rfl (fun _ h => by cases h) rfl ?_)
  intro b1 w1 hn1
  have hbn1 := hn1.num; have hbs1 := hn1.size
  replace hl := hl.ext hn1.ext
  replace hU := hU.trans (Ext.upd hn1.ext)
  have hB1 := hn1.blk
  refine L_op rfl (X_move (v := v) rfl ?_)
  refine L_op rfl (X_append (B := n0) (n := 0) (s := (.slice (some ⟨b1, 0, none⟩) 0 0)) (x := v) S23 ⟨_, Try.underlying23⟩ rfl rfl (Own.zero _ _ _ _ _) hl.1 hl.sub_one (by unfold maxLen; omega) (by omega) (by omega) ?_)
  intro v5 w5 hO hu5 _
  replace hO := hO.eq (Nat.zero_add _) (List.nil_append _)
  replace hl := hl.ext hu5.nobk
  replace hU := hU.trans (Ext.upd hu5.nobk)
  replace hB1 := hB1.ext hu5.nobk
  refine L_op rfl (X_assign (v := v5) rfl ?_)
  refine L_nil ?_
  refine T_n ?_
  refine W_ret ?_
  exact BQ_r (End_1 Try.results36 (v := v5) rfl ⟨NOwn.of (fun _ => rfl) (hO.more (by omega)) (fun b hb => (hO.lt hb).2), hU.own hn0⟩)

theorem c_copied24 (v : Value) (es : List Int) (w : World) (lo up : Nat) (hl : NRd LI w lo up v es) (hlen : es.length ≤ 1048576) : CT Try.prog 37 #[v] w fun v w' => NOwn LI w' 3 5 w.heap.size w'.heap.size v es ∧ Ext w w' := by
  obtain ⟨n0, hn0⟩ : ∃ n, n = w.heap.size := ⟨_, rfl⟩
  have hU : Upd (fun i => n0 ≤ i) w w := Upd.refl _ _
  refine CT_of Try.func37 rfl rfl rfl ?_
  refine W_seq ?_
  refine W_reg ?_
  refine L_op rfl (X_assign (v := (.slice none 0 0)) rfl ?_)
  refine L_nil ?_
  refine T_n ?_
  refine W_seq ?_
  refine W_reg ?_
  refine L_op rfl (X_buildSlice1 (vs := []) S24 (by decide) rfl rfl (fun _ h => by cases h) ?_)
  intro b1 w1 hn1
  have hbn1 := hn1.num; have hbs1 := hn1.size
  replace hl := hl.ext hn1.ext
  replace hU := hU.trans (Ext.upd hn1.ext)
  have hB1 := hn1.blk
  refine L_op rfl (X_move (v := v) rfl ?_)
  refine L_op rfl (X_append (B := n0) (n := 0) (s := (.slice (some ⟨b1, 0, none⟩) 0 0)) (x := v) S24 ⟨_, Try.underlying24⟩ rfl rfl (Own.zero _ _ _ _ _) hl.1 hl.sub_one (by unfold maxLen; omega) (by omega) (by omega) ?_)
  intro v5 w5 hO hu5 _
  replace hO := hO.eq (Nat.zero_add _) (List.nil_append _)
  replace hl := hl.ext hu5.nobk
  replace hU := hU.trans (Ext.upd hu5.nobk)
  replace hB1 := hB1.ext hu5.nobk
  refine L_op rfl (X_assign (v := v5) rfl ?_)
  refine L_nil ?_
  refine T_n ?_
  refine W_ret ?_
  exact BQ_r (End_1 Try.results37 (v := v5) rfl ⟨NOwn.of (fun _ => rfl) (hO.more (by omega)) (fun b hb => (hO.lt hb).2), hU.own hn0⟩)

theorem c_copy (pv cv bv : Value) (ps : List Pg) (cs : List Wr) (bs : List Int) (off : Bool) (w : World) (lo up : Nat) (hup : up ≤ w.heap.size) (hp : NRd LP w lo up pv ps) (hc : NRd LW w lo up cv cs) (hb : NRd LI w lo up bv bs) (hpL : ps.length ≤ 1048576) (hcL : cs.length ≤ 1048576) (hbL : bs.length ≤ 1048576) : CT Try.prog 17 #[(.agg #[pv, cv, bv, (.bool (off))])] w fun v w' => ∃ p2 c2 b2, v = .agg #[p2, c2, b2, .bool off] ∧ NOwn LP w' 28 5 w.heap.size w'.heap.size p2 ps ∧ NOwn LW w' 43 5 w.heap.size w'.heap.size c2 cs ∧ NOwn LI w' 3 5 w.heap.size w'.heap.size b2 bs ∧ Ext w w' := by
  obtain ⟨n0, hn0⟩ : ∃ n, n = w.heap.size := ⟨_, rfl⟩
  have hU : Upd (fun i => n0 ≤ i) w w := Upd.refl _ _
  have hpl := hp.sv.len
  have hcl := hc.sv.len
  have hbl := hb.sv.len
  rw [← hn0] at hup
  refine CT_of Try.func17 rfl rfl rfl ?_
  refine W_seq ?_
  refine W_reg ?_
  refine L_op rfl (X_box (v := (.agg #[pv, cv, bv, (.bool (off))])) (c := ([pv, cv, bv, (.bool (off))]).toArray) rfl rfl ?_)
  intro b1 w1 hn1
  have hbn1 := hn1.num; have hbs1 := hn1.size
  replace hp := hp.ext hn1.ext
  replace hc := hc.ext hn1.ext
  replace hb := hb.ext hn1.ext
  replace hU := hU.trans (Ext.upd hn1.ext)
  have hB1 := hn1.blk
  refine L_op rfl (X_alloc (z := (.agg #[(.slice none 0 0), (.slice none 0 0), (.slice none 0 0), (.bool (false))])) (c := #[(.slice none 0 0), (.slice none 0 0), (.slice none 0 0), (.bool (false))]) Zv26 rfl ?_)
  intro b2 w2 hn2
  have hbn2 := hn2.num; have hbs2 := hn2.size
  replace hp := hp.ext hn2.ext
  replace hc := hc.ext hn2.ext
  replace hb := hb.ext hn2.ext
  replace hU := hU.trans (Ext.upd hn2.ext)
  replace hB1 := hB1.ext hn2.ext
  have hB2 := hn2.blk
  refine L_nil ?_
  refine T_n ?_
  refine W_seq ?_
  obtain ⟨s0, hs0⟩ : ∃ n, n = w2.heap.size := ⟨_, rfl⟩
  refine W_draw 10 [[], [0], [0, 1], [], [3], [0, 1, 2, 3, 4], [], [6], [0, 1, 2, 3, 4, 5, 6, 7], [0, 1, 2, 3, 4, 6, 7], [0, 1, 2, 3, 4, 5, 6, 7, 8, 9], [0, 1, 2, 3, 4, 5, 6, 7, 8, 9, 10], [0, 1, 2, 3, 4, 5, 6, 7, 8, 9, 10, 11], [0, 1, 2, 3, 4, 5, 6, 7, 8, 9, 10, 11, 12], [0, 1, 2, 3, 4, 5, 6, 7, 8, 9, 10, 11, 12, 13]] mixed (by kernel_rfl) ?_
  refine ⟨.det (fun val => (ptr b1 (0))), ⟨fun _ _ hv => rfl, fun _ _ _ _ _ => trivial⟩, fun val h_ W hx he => ⟨trivial, ?_⟩, ?_⟩
  · replace hx := (Upd.drew _ _).trans hx
    replace hp := hp.ext hx
    replace hc := hc.ext hx
    replace hb := hb.ext hx
    replace hB1 := hB1.ext hx
    replace hB2 := hB2.ext hx
    have hE := Upd.refl (fun _ => False) W
    refine id (X_fldP (b := b1) (o := 0) (r := 0) Fd26_0 rfl rfl ?_)
    exact ⟨hE, rfl⟩
  refine ⟨.det (fun val => pv), ⟨fun _ _ hv => rfl, fun _ _ _ _ _ => trivial⟩, fun val h_ W hx he => ⟨trivial, ?_⟩, ?_⟩
  · replace hx := (Upd.drew _ _).trans hx
    replace hp := hp.ext hx
    replace hc := hc.ext hx
    replace hb := hb.ext hx
    replace hB1 := hB1.ext hx
    replace hB2 := hB2.ext hx
    have hE := Upd.refl (fun _ => False) W
    refine id (X_load (p := (ptr b1 (0))) (v := pv) T22 rfl (hB1.at1 rfl) ?_)
    exact ⟨hE, rfl⟩
  refine ⟨.abs (fun _ x_ W_ => ∃ u, u ≤ W_.heap.size ∧ NOwn LP W_ 28 5 s0 u x_ ps), ⟨fun _ _ _ => rfl, fun _ _ _ _ hu h => (by obtain ⟨u, h1, h2⟩ := h; exact ⟨u, Nat.le_trans h1 hu.size, h2.ext hu⟩)⟩, fun val h_ W hx he => ⟨trivial, ?_⟩, ?_⟩
  · replace hx := (Upd.drew _ _).trans hx
    replace hp := hp.ext hx
    replace hc := hc.ext hx
    replace hb := hb.ext hx
    replace hB1 := hB1.ext hx
    replace hB2 := hB2.ext hx
    have hE := Upd.refl (fun _ => False) W
    have hxs := hx.size
    refine X_fn (vs := [pv]) en35 rfl (CT.mono (c_copied22 pv ps _ lo up hp hpL) ?_)
    rintro v9 w9 ⟨hN9, hu9⟩
    exact ⟨hu9, _, Nat.le_refl _, hN9.mono (by omega) (Nat.le_refl _)⟩
  refine ⟨.det (fun val => (ptr b1 (1))), ⟨fun _ _ hv => rfl, fun _ _ _ _ _ => trivial⟩, fun val h_ W hx he => ⟨trivial, ?_⟩, ?_⟩
  · replace hx := (Upd.drew _ _).trans hx
    replace hp := hp.ext hx
    replace hc := hc.ext hx
    replace hb := hb.ext hx
    replace hB1 := hB1.ext hx
    replace hB2 := hB2.ext hx
    have hE := Upd.refl (fun _ => False) W
    refine id (X_fldP (b := b1) (o := 0) (r := 1) Fd26_1 rfl rfl ?_)
    exact ⟨hE, rfl⟩
  refine ⟨.det (fun val => cv), ⟨fun _ _ hv => rfl, fun _ _ _ _ _ => trivial⟩, fun val h_ W hx he => ⟨trivial, ?_⟩, ?_⟩
  · replace hx := (Upd.drew _ _).trans hx
    replace hp := hp.ext hx
    replace hc := hc.ext hx
    replace hb := hb.ext hx
    replace hB1 := hB1.ext hx
    replace hB2 := hB2.ext hx
    have hE := Upd.refl (fun _ => False) W
    refine id (X_load (p := (ptr b1 (1))) (v := cv) T23 rfl (hB1.at1 rfl) ?_)
    exact ⟨hE, rfl⟩
  refine ⟨.abs (fun _ x_ W_ => ∃ u, u ≤ W_.heap.size ∧ NOwn LW W_ 43 5 s0 u x_ cs), ⟨fun _ _ _ => rfl, fun _ _ _ _ hu h => (by obtain ⟨u, h1, h2⟩ := h; exact ⟨u, Nat.le_trans h1 hu.size, h2.ext hu⟩)⟩, fun val h_ W hx he => ⟨trivial, ?_⟩, ?_⟩
  · replace hx := (Upd.drew _ _).trans hx
    replace hp := hp.ext hx
    replace hc := hc.ext hx
    replace hb := hb.ext hx
    replace hB1 := hB1.ext hx
    replace hB2 := hB2.ext hx
    have hE := Upd.refl (fun _ => False) W
    have hxs := hx.size
    refine X_fn (vs := [cv]) en36 rfl (CT.mono (c_copied23 cv cs _ lo up hc hcL) ?_)
    rintro v9 w9 ⟨hN9, hu9⟩
    exact ⟨hu9, _, Nat.le_refl _, hN9.mono (by omega) (Nat.le_refl _)⟩
  refine ⟨.det (fun val => (ptr b1 (2))), ⟨fun _ _ hv => rfl, fun _ _ _ _ _ => trivial⟩, fun val h_ W hx he => ⟨trivial, ?_⟩, ?_⟩
  · replace hx := (Upd.drew _ _).trans hx
    replace hp := hp.ext hx
    replace hc := hc.ext hx
    replace hb := hb.ext hx
    replace hB1 := hB1.ext hx
    replace hB2 := hB2.ext hx
    have hE := Upd.refl (fun _ => False) W
    refine id (X_fldP (b := b1) (o := 0) (r := 2) Fd26_2 rfl rfl ?_)
    exact ⟨hE, rfl⟩
  refine ⟨.det (fun val => bv), ⟨fun _ _ hv => rfl, fun _ _ _ _ _ => trivial⟩, fun val h_ W hx he => ⟨trivial, ?_⟩, ?_⟩
  · replace hx := (Upd.drew _ _).trans hx
    replace hp := hp.ext hx
    replace hc := hc.ext hx
    replace hb := hb.ext hx
    replace hB1 := hB1.ext hx
    replace hB2 := hB2.ext hx
    have hE := Upd.refl (fun _ => False) W
    refine id (X_load (p := (ptr b1 (2))) (v := bv) T24 rfl (hB1.at1 rfl) ?_)
    exact ⟨hE, rfl⟩
  refine ⟨.abs (fun _ x_ W_ => ∃ u, u ≤ W_.heap.size ∧ NOwn LI W_ 3 5 s0 u x_ bs), ⟨fun _ _ _ => rfl, fun _ _ _ _ hu h => (by obtain ⟨u, h1, h2⟩ := h; exact ⟨u, Nat.le_trans h1 hu.size, h2.ext hu⟩)⟩, fun val h_ W hx he => ⟨trivial, ?_⟩, ?_⟩
  · replace hx := (Upd.drew _ _).trans hx
    replace hp := hp.ext hx
    replace hc := hc.ext hx
    replace hb := hb.ext hx
    replace hB1 := hB1.ext hx
    replace hB2 := hB2.ext hx
    have hE := Upd.refl (fun _ => False) W
    have hxs := hx.size
    refine X_fn (vs := [bv]) en37 rfl (CT.mono (c_copied24 bv bs _ lo up hb hbL) ?_)
    rintro v9 w9 ⟨hN9, hu9⟩
    exact ⟨hu9, _, Nat.le_refl _, hN9.mono (by omega) (Nat.le_refl _)⟩
  refine ⟨.det (fun val => (ptr b1 (0))), ⟨fun _ _ hv => rfl, fun _ _ _ _ _ => trivial⟩, fun val h_ W hx he => ⟨trivial, ?_⟩, ?_⟩
  · replace hx := (Upd.drew _ _).trans hx
    replace hp := hp.ext hx
    replace hc := hc.ext hx
    replace hb := hb.ext hx
    replace hB1 := hB1.ext hx
    replace hB2 := hB2.ext hx
    have hE := Upd.refl (fun _ => False) W
    obtain ⟨⟨u2, hu2, hN2⟩, he⟩ := he
    refine id (X_fldP (b := b1) (o := 0) (r := 0) Fd26_0 rfl rfl ?_)
    exact ⟨hE, rfl⟩
  intro val W3 hx3 he3
  replace hx3 := (Upd.drew _ _).trans hx3
  have hz3 := hx3.size
  replace hp := hp.ext hx3
  replace hc := hc.ext hx3
  replace hb := hb.ext hx3
  replace hU := hU.trans (Ext.upd hx3)
  replace hB1 := hB1.ext hx3
  replace hB2 := hB2.ext hx3
  obtain ⟨⟨u8, hu8, hN8⟩, he3⟩ := he3
  obtain ⟨⟨u5, hu5, hN5⟩, he3⟩ := he3
  obtain ⟨⟨u2, hu2, hN2⟩, he3⟩ := he3
  refine L_op0 (X_store (b := b1) (o := 0) T22 rfl rfl (hN2.1.sv.one) hB1 (by show (0 : Nat) < 4; decide) ?_)
  intro w4 hu4 hb4
  have hz4 := hu4.size
  replace hp := hp.upd hu4 fun i h1 h2 h => by have h : i = b1 := h; omega
  replace hc := hc.upd hu4 fun i h1 h2 h => by have h : i = b1 := h; omega
  replace hb := hb.upd hu4 fun i h1 h2 h => by have h : i = b1 := h; omega
  replace hU := hU.trans (hu4.mono fun i _ h => by have h : i = b1 := h; show n0 ≤ i; omega)
  replace hB2 := hB2.upd hu4 fun h => by have h : b2 = b1 := h; omega
  replace hN2 := hN2.upd hu4 fun i h1 h2 h => by have h : i = b1 := h; omega
  replace hN5 := hN5.upd hu4 fun i h1 h2 h => by have h : i = b1 := h; omega
  replace hN8 := hN8.upd hu4 fun i h1 h2 h => by have h : i = b1 := h; omega
  replace hB1 : Blk w4 b1 #[(val 2), cv, bv, (.bool (off))] 26 := hb4
  refine L_op rfl (X_fldP (b := b1) (o := 0) (r := 1) Fd26_1 rfl rfl ?_)
  refine L_op0 (X_store (b := b1) (o := 1) T23 rfl rfl (hN5.1.sv.one) hB1 (by show (1 : Nat) < 4; decide) ?_)
  intro w5 hu5 hb5
  have hz5 := hu5.size
  replace hp := hp.upd hu5 fun i h1 h2 h => by have h : i = b1 := h; omega
  replace hc := hc.upd hu5 fun i h1 h2 h => by have h : i = b1 := h; omega
  replace hb := hb.upd hu5 fun i h1 h2 h => by have h : i = b1 := h; omega
  replace hU := hU.trans (hu5.mono fun i _ h => by have h : i = b1 := h; show n0 ≤ i; omega)
  replace hB2 := hB2.upd hu5 fun h => by have h : b2 = b1 := h; omega
  replace hN2 := hN2.upd hu5 fun i h1 h2 h => by have h : i = b1 := h; omega
  replace hN5 := hN5.upd hu5 fun i h1 h2 h => by have h : i = b1 := h; omega
  replace hN8 := hN8.upd hu5 fun i h1 h2 h => by have h : i = b1 := h; omega
  replace hB1 : Blk w5 b1 #[(val 2), (val 5), bv, (.bool (off))] 26 := hb5
  refine L_op rfl (X_fldP (b := b1) (o := 0) (r := 2) Fd26_2 rfl rfl ?_)
  refine L_op0 (X_store (b := b1) (o := 2) T24 rfl rfl (hN8.1.sv.one) hB1 (by show (2 : Nat) < 4; decide) ?_)
  intro w6 hu6 hb6
  have hz6 := hu6.size
  replace hp := hp.upd hu6 fun i h1 h2 h => by have h : i = b1 := h; omega
  replace hc := hc.upd hu6 fun i h1 h2 h => by have h : i = b1 := h; omega
  replace hb := hb.upd hu6 fun i h1 h2 h => by have h : i = b1 := h; omega
  replace hU := hU.trans (hu6.mono fun i _ h => by have h : i = b1 := h; show n0 ≤ i; omega)
  replace hB2 := hB2.upd hu6 fun h => by have h : b2 = b1 := h; omega
  replace hN2 := hN2.upd hu6 fun i h1 h2 h => by have h : i = b1 := h; omega
  replace hN5 := hN5.upd hu6 fun i h1 h2 h => by have h : i = b1 := h; omega
  replace hN8 := hN8.upd hu6 fun i h1 h2 h => by have h : i = b1 := h; omega
  replace hB1 : Blk w6 b1 #[(val 2), (val 5), (val 8), (.bool (off))] 26 := hb6
  refine L_nil ?_
  refine T_n ?_
  refine W_seq ?_
  refine W_reg ?_
  refine L_op rfl (X_loadA (p := (ptr b1 (0))) (xs := [(val 2), (val 5), (val 8), (.bool (off))]) A26 rfl hB1.atAll rfl ?_)
  refine L_op0 (X_storeW (b := b2) (ys := [(val 2), (val 5), (val 8), (.bool (off))]) A26 rfl rfl (List.forall_mem_cons.2 ⟨(hN2.1.sv.one), (List.forall_mem_cons.2 ⟨(hN5.1.sv.one), (List.forall_mem_cons.2 ⟨(hN8.1.sv.one), (List.forall_mem_cons.2 ⟨rfl, (fun _ h => by cases h)⟩)⟩)⟩)⟩) rfl hB2 rfl ?_)
  intro w7 hu7 hb7
  have hz7 := hu7.size
  replace hp := hp.upd hu7 fun i h1 h2 h => by have h : i = b2 := h; omega
  replace hc := hc.upd hu7 fun i h1 h2 h => by have h : i = b2 := h; omega
  replace hb := hb.upd hu7 fun i h1 h2 h => by have h : i = b2 := h; omega
  replace hU := hU.trans (hu7.mono fun i _ h => by have h : i = b2 := h; show n0 ≤ i; omega)
  replace hN2 := hN2.upd hu7 fun i h1 h2 h => by have h : i = b2 := h; omega
  replace hN5 := hN5.upd hu7 fun i h1 h2 h => by have h : i = b2 := h; omega
  replace hN8 := hN8.upd hu7 fun i h1 h2 h => by have h : i = b2 := h; omega
  replace hB1 := hB1.upd hu7 fun h => by have h : b1 = b2 := h; omega
  replace hB2 : Blk w7 b2 #[(val 2), (val 5), (val 8), (.bool (off))] 26 := hb7
  refine L_nil ?_
  refine T_n ?_
  refine W_ret ?_
  have hU2 := hU.own hn0
  exact BQ_r (End_1 Try.results17 (RV_A A26 rfl hB2.atAll rfl) ⟨_, _, _, rfl, hN2.mono (by omega) (by omega), hN5.mono (by omega) (by omega), hN8.mono (by omega) (by omega), hU2⟩)

theorem c_copyR (pv cv bv : Value) (ps : List Pg) (cs : List Wr) (bs : List Int) (off : Bool) (w : World) (lo up : Nat) (hup : up ≤ w.heap.size) (hp : NRd LP w lo up pv ps) (hc : NRd LW w lo up cv cs) (hb : NRd LI w lo up bv bs) (hpL : ps.length ≤ 1048576) (hcL : cs.length ≤ 1048576) (hbL : bs.length ≤ 1048576) : CT Try.prog 16 #[(.agg #[pv, cv, bv, (.bool (off))])] w fun v w' => ∃ p2 c2 b2, v = .agg #[p2, c2, b2, .bool off] ∧ NOwn LP w' 28 5 w.heap.size w'.heap.size p2 ps ∧ NOwn LW w' 43 5 w.heap.size w'.heap.size c2 cs ∧ NOwn LI w' 3 5 w.heap.size w'.heap.size b2 bs ∧ Ext w w' := by
  obtain ⟨n0, hn0⟩ : ∃ n, n = w.heap.size := ⟨_, rfl⟩
  have hU : Upd (fun i => n0 ≤ i) w w := Upd.refl _ _
  have hpl := hp.sv.len
  have hcl := hc.sv.len
  have hbl := hb.sv.len
  rw [← hn0] at hup
  refine CT_of Try.func16 rfl rfl rfl ?_
  refine W_seq ?_
  refine W_reg ?_
  refine L_op rfl (X_box (v := (.agg #[pv, cv, bv, (.bool (off))])) (c := ([pv, cv, bv, (.bool (off))]).toArray) rfl rfl ?_)
  intro b1 w1 hn1
  have hbn1 := hn1.num; have hbs1 := hn1.size
  replace hp := hp.ext hn1.ext
  replace hc := hc.ext hn1.ext
  replace hb := hb.ext hn1.ext
  replace hU := hU.trans (Ext.upd hn1.ext)
  have hB1 := hn1.blk
  refine L_op rfl (X_alloc (z := (.agg #[(.slice none 0 0), (.slice none 0 0), (.slice none 0 0), (.bool (false))])) (c := #[(.slice none 0 0), (.slice none 0 0), (.slice none 0 0), (.bool (false))]) Zv26 rfl ?_)
  intro b2 w2 hn2
  have hbn2 := hn2.num; have hbs2 := hn2.size
  replace hp := hp.ext hn2.ext
  replace hc := hc.ext hn2.ext
  replace hb := hb.ext hn2.ext
  replace hU := hU.trans (Ext.upd hn2.ext)
  replace hB1 := hB1.ext hn2.ext
  have hB2 := hn2.blk
  refine L_nil ?_
  refine T_n ?_
  refine W_seq ?_
  obtain ⟨s0, hs0⟩ : ∃ n, n = w2.heap.size := ⟨_, rfl⟩
  refine W_draw 14 [[], [], [1], [0, 1, 2], [], [], [5], [0, 1, 2, 3, 4, 5, 6], [], [], [9], [0, 1, 2, 3, 4, 5, 6, 7, 8, 9, 10], [], [12], [0, 1, 2, 3, 4, 5, 6, 7, 8, 9, 10, 11, 12, 13], [0, 1, 2, 3, 4, 5, 6, 7, 8, 9, 10, 11, 12, 13, 14]] mixed (by kernel_rfl) ?_
  refine ⟨.abs (fun _ x_ _ => ∃ b, x_ = .slice (some ⟨b, 0, none⟩) 0 0), ⟨fun _ _ _ => rfl, fun _ _ _ _ _ h => h⟩, fun val h_ W hx he => ⟨trivial, ?_⟩, ?_⟩
  · replace hx := (Upd.drew _ _).trans hx
    replace hp := hp.ext hx
    replace hc := hc.ext hx
    replace hb := hb.ext hx
    replace hB1 := hB1.ext hx
    replace hB2 := hB2.ext hx
    have hE := Upd.refl (fun _ => False) W
    refine X_buildSliceL (vs := []) (c := []) S22 (by decide) rfl rfl (fun _ h => by cases h) rfl ?_
    intro b w2 hn
    exact ⟨hn.ext, b, rfl⟩
  refine ⟨.det (fun val => (ptr b1 (0))), ⟨fun _ _ hv => rfl, fun _ _ _ _ _ => trivial⟩, fun val h_ W hx he => ⟨trivial, ?_⟩, ?_⟩
  · replace hx := (Upd.drew _ _).trans hx
    replace hp := hp.ext hx
    replace hc := hc.ext hx
    replace hb := hb.ext hx
    replace hB1 := hB1.ext hx
    replace hB2 := hB2.ext hx
    have hE := Upd.refl (fun _ => False) W
    refine id (X_fldP (b := b1) (o := 0) (r := 0) Fd26_0 rfl rfl ?_)
    exact ⟨hE, rfl⟩
  refine ⟨.det (fun val => pv), ⟨fun _ _ hv => rfl, fun _ _ _ _ _ => trivial⟩, fun val h_ W hx he => ⟨trivial, ?_⟩, ?_⟩
  · replace hx := (Upd.drew _ _).trans hx
    replace hp := hp.ext hx
    replace hc := hc.ext hx
    replace hb := hb.ext hx
    replace hB1 := hB1.ext hx
    replace hB2 := hB2.ext hx
    have hE := Upd.refl (fun _ => False) W
    refine id (X_load (p := (ptr b1 (0))) (v := pv) T22 rfl (hB1.at1 rfl) ?_)
    exact ⟨hE, rfl⟩
  refine ⟨.abs (fun _ x_ W_ => ∃ u, u ≤ W_.heap.size ∧ NOwn LP W_ 28 5 s0 u x_ ps), ⟨fun _ _ _ => rfl, fun _ _ _ _ hu h => (by obtain ⟨u, h1, h2⟩ := h; exact ⟨u, Nat.le_trans h1 hu.size, h2.ext hu⟩)⟩, fun val h_ W hx he => ⟨trivial, ?_⟩, ?_⟩
  · replace hx := (Upd.drew _ _).trans hx
    replace hp := hp.ext hx
    replace hc := hc.ext hx
    replace hb := hb.ext hx
    replace hB1 := hB1.ext hx
    replace hB2 := hB2.ext hx
    have hE := Upd.refl (fun _ => False) W
    have hxs := hx.size
    obtain ⟨⟨bz, hbz⟩, _⟩ := he
    refine X_append (B := s0) (n := 0) (s := val 0) (x := pv) S22 ⟨_, Try.underlying22⟩ rfl rfl (xs := []) (by rw [hbz]; exact Own.zero _ _ _ _ _) hp.1 hp.sub_one (by unfold maxLen; omega) (by omega) (by omega) ?_
    intro v5 w5 hO5 hu5 _
    rw [hbz] at hu5
    replace hO5 := hO5.eq (Nat.zero_add _) (List.nil_append _)
    exact ⟨hu5.nobk, _, Nat.le_refl _, NOwn.of (fun _ => rfl) hO5 fun b hb => (hO5.lt hb).2⟩
  refine ⟨.abs (fun _ x_ _ => ∃ b, x_ = .slice (some ⟨b, 0, none⟩) 0 0), ⟨fun _ _ _ => rfl, fun _ _ _ _ _ h => h⟩, fun val h_ W hx he => ⟨trivial, ?_⟩, ?_⟩
  · replace hx := (Upd.drew _ _).trans hx
    replace hp := hp.ext hx
    replace hc := hc.ext hx
    replace hb := hb.ext hx
    replace hB1 := hB1.ext hx
    replace hB2 := hB2.ext hx
    have hE := Upd.refl (fun _ => False) W
    refine X_buildSliceL (vs := []) (c := []) S23 (by decide) rfl rfl (fun _ h => by cases h) rfl ?_
    intro b w2 hn
    exact ⟨hn.ext, b, rfl⟩
  refine ⟨.det (fun val => (ptr b1 (1))), ⟨fun _ _ hv => rfl, fun _ _ _ _ _ => trivial⟩, fun val h_ W hx he => ⟨trivial, ?_⟩, ?_⟩
  · replace hx := (Upd.drew _ _).trans hx
    replace hp := hp.ext hx
    replace hc := hc.ext hx
    replace hb := hb.ext hx
    replace hB1 := hB1.ext hx
    replace hB2 := hB2.ext hx
    have hE := Upd.refl (fun _ => False) W
    refine id (X_fldP (b := b1) (o := 0) (r := 1) Fd26_1 rfl rfl ?_)
    exact ⟨hE, rfl⟩
  refine ⟨.det (fun val => cv), ⟨fun _ _ hv => rfl, fun _ _ _ _ _ => trivial⟩, fun val h_ W hx he => ⟨trivial, ?_⟩, ?_⟩
  · replace hx := (Upd.drew _ _).trans hx
    replace hp := hp.ext hx
    replace hc := hc.ext hx
    replace hb := hb.ext hx
    replace hB1 := hB1.ext hx
    replace hB2 := hB2.ext hx
    have hE := Upd.refl (fun _ => False) W
    refine id (X_load (p := (ptr b1 (1))) (v := cv) T23 rfl (hB1.at1 rfl) ?_)
    exact ⟨hE, rfl⟩
  refine ⟨.abs (fun _ x_ W_ => ∃ u, u ≤ W_.heap.size ∧ NOwn LW W_ 43 5 s0 u x_ cs), ⟨fun _ _ _ => rfl, fun _ _ _ _ hu h => (by obtain ⟨u, h1, h2⟩ := h; exact ⟨u, Nat.le_trans h1 hu.size, h2.ext hu⟩)⟩, fun val h_ W hx he => ⟨trivial, ?_⟩, ?_⟩
  · replace hx := (Upd.drew _ _).trans hx
    replace hp := hp.ext hx
    replace hc := hc.ext hx
    replace hb := hb.ext hx
    replace hB1 := hB1.ext hx
    replace hB2 := hB2.ext hx
    have hE := Upd.refl (fun _ => False) W
    have hxs := hx.size
    obtain ⟨⟨bz, hbz⟩, _⟩ := he
    refine X_append (B := s0) (n := 0) (s := val 4) (x := cv) S23 ⟨_, Try.underlying23⟩ rfl rfl (xs := []) (by rw [hbz]; exact Own.zero _ _ _ _ _) hc.1 hc.sub_one (by unfold maxLen; omega) (by omega) (by omega) ?_
    intro v5 w5 hO5 hu5 _
    rw [hbz] at hu5
    replace hO5 := hO5.eq (Nat.zero_add _) (List.nil_append _)
    exact ⟨hu5.nobk, _, Nat.le_refl _, NOwn.of (fun _ => rfl) hO5 fun b hb => (hO5.lt hb).2⟩
  refine ⟨.abs (fun _ x_ _ => ∃ b, x_ = .slice (some ⟨b, 0, none⟩) 0 0), ⟨fun _ _ _ => rfl, fun _ _ _ _ _ h => h⟩, fun val h_ W hx he => ⟨trivial, ?_⟩, ?_⟩
  · replace hx := (Upd.drew _ _).trans hx
    replace hp := hp.ext hx
    replace hc := hc.ext hx
    replace hb := hb.ext hx
    replace hB1 := hB1.ext hx
    replace hB2 := hB2.ext hx
    have hE := Upd.refl (fun _ => False) W
    refine X_buildSlice1 (vs := []) S24 (by decide) rfl rfl (fun _ h => by cases h) ?_
    intro b w2 hn
    exact ⟨hn.ext, b, rfl⟩
  refine ⟨.det (fun val => (ptr b1 (2))), ⟨fun _ _ hv => rfl, fun _ _ _ _ _ => trivial⟩, fun val h_ W hx he => ⟨trivial, ?_⟩, ?_⟩
  · replace hx := (Upd.drew _ _).trans hx
    replace hp := hp.ext hx
    replace hc := hc.ext hx
    replace hb := hb.ext hx
    replace hB1 := hB1.ext hx
    replace hB2 := hB2.ext hx
    have hE := Upd.refl (fun _ => False) W
    refine id (X_fldP (b := b1) (o := 0) (r := 2) Fd26_2 rfl rfl ?_)
    exact ⟨hE, rfl⟩
  refine ⟨.det (fun val => bv), ⟨fun _ _ hv => rfl, fun _ _ _ _ _ => trivial⟩, fun val h_ W hx he => ⟨trivial, ?_⟩, ?_⟩
  · replace hx := (Upd.drew _ _).trans hx
    replace hp := hp.ext hx
    replace hc := hc.ext hx
    replace hb := hb.ext hx
    replace hB1 := hB1.ext hx
    replace hB2 := hB2.ext hx
    have hE := Upd.refl (fun _ => False) W
    refine id (X_load (p := (ptr b1 (2))) (v := bv) T24 rfl (hB1.at1 rfl) ?_)
    exact ⟨hE, rfl⟩
  refine ⟨.abs (fun _ x_ W_ => ∃ u, u ≤ W_.heap.size ∧ NOwn LI W_ 3 5 s0 u x_ bs), ⟨fun _ _ _ => rfl, fun _ _ _ _ hu h => (by obtain ⟨u, h1, h2⟩ := h; exact ⟨u, Nat.le_trans h1 hu.size, h2.ext hu⟩)⟩, fun val h_ W hx he => ⟨trivial, ?_⟩, ?_⟩
  · replace hx := (Upd.drew _ _).trans hx
    replace hp := hp.ext hx
    replace hc := hc.ext hx
    replace hb := hb.ext hx
    replace hB1 := hB1.ext hx
    replace hB2 := hB2.ext hx
    have hE := Upd.refl (fun _ => False) W
    have hxs := hx.size
    obtain ⟨⟨bz, hbz⟩, _⟩ := he
    refine X_append (B := s0) (n := 0) (s := val 8) (x := bv) S24 ⟨_, Try.underlying24⟩ rfl rfl (xs := []) (by rw [hbz]; exact Own.zero _ _ _ _ _) hb.1 hb.sub_one (by unfold maxLen; omega) (by omega) (by omega) ?_
    intro v5 w5 hO5 hu5 _
    rw [hbz] at hu5
    replace hO5 := hO5.eq (Nat.zero_add _) (List.nil_append _)
    exact ⟨hu5.nobk, _, Nat.le_refl _, NOwn.of (fun _ => rfl) hO5 fun b hb => (hO5.lt hb).2⟩
  refine ⟨.det (fun val => (ptr b1 (3))), ⟨fun _ _ hv => rfl, fun _ _ _ _ _ => trivial⟩, fun val h_ W hx he => ⟨trivial, ?_⟩, ?_⟩
  · replace hx := (Upd.drew _ _).trans hx
    replace hp := hp.ext hx
    replace hc := hc.ext hx
    replace hb := hb.ext hx
    replace hB1 := hB1.ext hx
    replace hB2 := hB2.ext hx
    have hE := Upd.refl (fun _ => False) W
    refine id (X_fldP (b := b1) (o := 0) (r := 3) Fd26_3 rfl rfl ?_)
    exact ⟨hE, rfl⟩
  refine ⟨.det (fun val => (.bool (off))), ⟨fun _ _ hv => rfl, fun _ _ _ _ _ => trivial⟩, fun val h_ W hx he => ⟨trivial, ?_⟩, ?_⟩
  · replace hx := (Upd.drew _ _).trans hx
    replace hp := hp.ext hx
    replace hc := hc.ext hx
    replace hb := hb.ext hx
    replace hB1 := hB1.ext hx
    replace hB2 := hB2.ext hx
    have hE := Upd.refl (fun _ => False) W
    refine id (X_load (p := (ptr b1 (3))) (v := (.bool (off))) T4 rfl (hB1.at1 rfl) ?_)
    exact ⟨hE, rfl⟩
  intro val W3 hx3 he3
  replace hx3 := (Upd.drew _ _).trans hx3
  have hz3 := hx3.size
  replace hp := hp.ext hx3
  replace hc := hc.ext hx3
  replace hb := hb.ext hx3
  replace hU := hU.trans (Ext.upd hx3)
  replace hB1 := hB1.ext hx3
  replace hB2 := hB2.ext hx3
  obtain ⟨⟨u11, hu11, hN11⟩, he3⟩ := he3
  obtain ⟨⟨bz8, hbz8⟩, he3⟩ := he3
  obtain ⟨⟨u7, hu7, hN7⟩, he3⟩ := he3
  obtain ⟨⟨bz4, hbz4⟩, he3⟩ := he3
  obtain ⟨⟨u3, hu3, hN3⟩, he3⟩ := he3
  obtain ⟨⟨bz0, hbz0⟩, he3⟩ := he3
  refine L_op rfl (X_build (built26' hN3.1.sv hN7.1.sv hN11.1.sv off) ?_)
  refine L_op0 (X_storeW (b := b2) (ys := [(val 3), (val 7), (val 11), (.bool (off))]) A26 rfl rfl (List.forall_mem_cons.2 ⟨(hN3.1.sv.one), (List.forall_mem_cons.2 ⟨(hN7.1.sv.one), (List.forall_mem_cons.2 ⟨(hN11.1.sv.one), (List.forall_mem_cons.2 ⟨rfl, (fun _ h => by cases h)⟩)⟩)⟩)⟩) rfl hB2 rfl ?_)
  intro w4 hu4 hb4
  have hz4 := hu4.size
  replace hp := hp.upd hu4 fun i h1 h2 h => by have h : i = b2 := h; omega
  replace hc := hc.upd hu4 fun i h1 h2 h => by have h : i = b2 := h; omega
  replace hb := hb.upd hu4 fun i h1 h2 h => by have h : i = b2 := h; omega
  replace hU := hU.trans (hu4.mono fun i _ h => by have h : i = b2 := h; show n0 ≤ i; omega)
  replace hB1 := hB1.upd hu4 fun h => by have h : b1 = b2 := h; omega
  replace hN3 := hN3.upd hu4 fun i h1 h2 h => by have h : i = b2 := h; omega
  replace hN7 := hN7.upd hu4 fun i h1 h2 h => by have h : i = b2 := h; omega
  replace hN11 := hN11.upd hu4 fun i h1 h2 h => by have h : i = b2 := h; omega
  replace hB2 : Blk w4 b2 #[(val 3), (val 7), (val 11), (.bool (off))] 26 := hb4
  refine L_nil ?_
  refine T_n ?_
  refine W_ret ?_
  have hU2 := hU.own hn0
  exact BQ_r (End_1 Try.results16 (RV_A A26 rfl hB2.atAll rfl) ⟨_, _, _, rfl, hN3.mono (by omega) (by omega), hN7.mono (by omega) (by omega), hN11.mono (by omega) (by omega), hU2⟩)

theorem c_asked (pv cv bv : Value) (ps : List Pg) (cs : List Wr) (bs : List Int) (off : Bool) (n : Int) (w : World) (lo up : Nat) (hup : up ≤ w.heap.size) (hp : NRd LP w lo up pv ps) (hc : NRd LW w lo up cv cs) (hb : NRd LI w lo up bv bs) : CT Try.prog 28 #[(.agg #[pv, cv, bv, (.bool (off))]), (.int .i64 (n))] w fun v w' => v = .int .i64 (askE ps.length cs bs off n) ∧ Ext w w' := by
  obtain ⟨n0, hn0⟩ : ∃ n, n = w.heap.size := ⟨_, rfl⟩
  have hU : Upd (fun i => n0 ≤ i) w w := Upd.refl _ _
  have hpl := hp.sv.len
  have hcl := hc.sv.len
  have hbl := hb.sv.len
  rw [← hn0] at hup
  refine CT_of Try.func28 rfl rfl rfl ?_
  refine W_seq ?_
  refine W_reg ?_
  refine L_op rfl (X_box (v := (.agg #[pv, cv, bv, (.bool (off))])) (c := ([pv, cv, bv, (.bool (off))]).toArray) rfl rfl ?_)
  intro b1 w1 hn1
  have hbn1 := hn1.num; have hbs1 := hn1.size
  replace hp := hp.ext hn1.ext
  replace hc := hc.ext hn1.ext
  replace hb := hb.ext hn1.ext
  replace hU := hU.trans (Ext.upd hn1.ext)
  have hB1 := hn1.blk
  refine L_op rfl (X_assign (v := (.int .i64 (0))) rfl ?_)
  refine L_nil ?_
  refine T_n ?_
  refine W_seq ?_
  refine W_block ?_
  refine W_seq ?_
  refine W_reg ?_
  refine L_op rfl (X_loadA (p := (ptr b1 (0))) (xs := [pv, cv, bv, (.bool (off))]) A26 rfl hB1.atAll rfl ?_)
  refine L_op rfl (X_fn (vs := [(.agg ([pv, cv, bv, (.bool (off))]).toArray)]) en15 rfl (CT.mono (c_may pv cv bv ps cs bs off _ lo up (by omega) hp hc hb) ?_))
  rintro _ w2 ⟨⟨g_, rfl, hg_⟩, hu2⟩
  have hz2 := hu2.size
  replace hp := hp.ext hu2
  replace hc := hc.ext hu2
  replace hb := hb.ext hu2
  replace hU := hU.trans (Ext.upd hu2)
  replace hB1 := hB1.ext hu2
  rcases Bool.eq_false_or_eq_true (g_) with hc3 | hc3
  · rw [hc3]
    refine L_op rfl (X_not (b := true) (r := false) rfl rfl ?_)
    refine L_op rfl (X_move (v := (.bool (false))) rfl ?_)
    refine L_gy (dj := 9) rfl rfl rfl (X_move (v := (.int .i64 (n))) rfl ?_)
    by_cases hc4 : (n : Int) < (0)
    · refine L_gy (dj := 9) rfl rfl rfl (X_cmp (k := .i64) (a := n) (b := 0) (r := true) rfl rfl rfl (decide_eq_true (p := ((n) : Int) < ((0) : Int)) (by omega)) ?_)
      refine L_op rfl (X_pick (t := false) (v := (.bool (true))) rfl rfl ?_)
      refine L_op rfl (X_move (v := (.bool (true))) rfl ?_)
      refine L_gn (dj := 13) (t := true) rfl rfl rfl rfl ?_
      refine L_gn (dj := 13) (t := true) rfl rfl rfl rfl ?_
      refine L_gn (dj := 13) (t := true) rfl rfl rfl rfl ?_
      refine L_gn (dj := 13) (t := true) rfl rfl rfl rfl ?_
      refine L_gn (dj := 13) (t := true) rfl rfl rfl rfl ?_
      refine L_op rfl (X_pick (t := true) (v := (.bool (true))) rfl rfl ?_)
      refine L_op rfl (X_assign (v := (.bool (true))) rfl ?_)
      refine L_nil ?_
      refine T_n ?_
      refine W_ct rfl ?_
      refine W_seq ?_
      refine W_reg ?_
      refine L_op rfl (X_assign (v := (.int .i64 (2))) rfl ?_)
      refine L_nil ?_
      refine T_n ?_
      refine W_ret ?_
      refine B_r ?_
      refine T_r ?_
      exact BQ_r (End_1 Try.results28 (v := .int .i64 2) rfl ⟨by rw [askE_bad (fun h => by omega)], hU.own hn0⟩)
    · refine L_gy (dj := 9) rfl rfl rfl (X_cmp (k := .i64) (a := n) (b := 0) (r := false) rfl rfl rfl (decide_eq_false (p := ((n) : Int) < ((0) : Int)) (by omega)) ?_)
      refine L_op rfl (X_pick (t := false) (v := (.bool (false))) rfl rfl ?_)
      refine L_op rfl (X_move (v := (.bool (false))) rfl ?_)
      refine L_gy (dj := 13) rfl rfl rfl (X_move (v := (.int .i64 (n))) rfl ?_)
      refine L_gy (dj := 13) rfl rfl rfl (X_fldP (b := b1) (o := 0) (r := 0) Fd26_0 rfl rfl ?_)
      refine L_gy (dj := 13) rfl rfl rfl (X_load (p := (ptr b1 (0))) (v := pv) T22 rfl (hB1.at1 rfl) ?_)
      refine L_gy (dj := 13) rfl rfl rfl (X_len (v := pv) (n := ps.length) Try.underlying22 rfl hp.sv ?_)
      by_cases hc5 : (n : Int) ≥ (((ps.length : Nat) : Int))
      · refine L_gy (dj := 13) rfl rfl rfl (X_cmp (k := .i64) (a := n) (b := ((ps.length : Nat) : Int)) (r := true) rfl rfl rfl (decide_eq_true (p := ((((ps.length : Nat) : Int)) : Int) ≤ ((n) : Int)) (by omega)) ?_)
        refine L_op rfl (X_pick (t := false) (v := (.bool (true))) rfl rfl ?_)
        refine L_op rfl (X_assign (v := (.bool (true))) rfl ?_)
        refine L_nil ?_
        refine T_n ?_
        refine W_ct rfl ?_
        refine W_seq ?_
        refine W_reg ?_
        refine L_op rfl (X_assign (v := (.int .i64 (2))) rfl ?_)
        refine L_nil ?_
        refine T_n ?_
        refine W_ret ?_
        refine B_r ?_
        refine T_r ?_
        exact BQ_r (End_1 Try.results28 (v := .int .i64 2) rfl ⟨by rw [askE_bad (fun h => by omega)], hU.own hn0⟩)
      · refine L_gy (dj := 13) rfl rfl rfl (X_cmp (k := .i64) (a := n) (b := ((ps.length : Nat) : Int)) (r := false) rfl rfl rfl (decide_eq_false (p := ((((ps.length : Nat) : Int)) : Int) ≤ ((n) : Int)) (by omega)) ?_)
        refine L_op rfl (X_pick (t := false) (v := (.bool (false))) rfl rfl ?_)
        refine L_op rfl (X_assign (v := (.bool (false))) rfl ?_)
        refine L_nil ?_
        refine T_n ?_
        refine W_cf rfl ?_
        refine W_seq ?_
        refine W_reg ?_
        refine L_op rfl (X_fldP (b := b1) (o := 0) (r := 3) Fd26_3 rfl rfl ?_)
        rcases Bool.eq_false_or_eq_true off with ho6 | ho6
        · refine L_op rfl (X_load (p := (ptr b1 (3))) (v := .bool true) T4 rfl (hB1.at1 (by rw [ho6]; rfl)) ?_)
          refine L_op rfl (X_assign (v := (.bool (true))) rfl ?_)
          refine L_nil ?_
          refine T_n ?_
          refine W_ct rfl ?_
          refine W_seq ?_
          refine W_reg ?_
          refine L_op rfl (X_assign (v := (.int .i64 (30))) rfl ?_)
          refine L_nil ?_
          refine T_n ?_
          refine W_ret ?_
          refine B_r ?_
          refine T_r ?_
          exact BQ_r (End_1 Try.results28 (v := .int .i64 30) rfl ⟨by rw [askE_off (hg_.1 hc3) (by omega) (by omega) ho6], hU.own hn0⟩)
        · refine L_op rfl (X_load (p := (ptr b1 (3))) (v := .bool false) T4 rfl (hB1.at1 (by rw [ho6]; rfl)) ?_)
          refine L_op rfl (X_assign (v := (.bool (false))) rfl ?_)
          refine L_nil ?_
          refine T_n ?_
          refine W_cf rfl ?_
          refine W_skip ?_
          refine B_n ?_
          refine T_n ?_
          refine W_seq ?_
          refine W_reg ?_
          refine L_op rfl (X_assign (v := (.int .i64 (0))) rfl ?_)
          refine L_nil ?_
          refine T_n ?_
          refine W_ret ?_
          exact BQ_r (End_1 Try.results28 (v := .int .i64 0) rfl ⟨by rw [askE_ok (hg_.1 hc3) (by omega) (by omega) ho6], hU.own hn0⟩)
  · rw [hc3]
    refine L_op rfl (X_not (b := false) (r := true) rfl rfl ?_)
    refine L_op rfl (X_move (v := (.bool (true))) rfl ?_)
    refine L_gn (dj := 9) (t := true) rfl rfl rfl rfl ?_
    refine L_gn (dj := 9) (t := true) rfl rfl rfl rfl ?_
    refine L_op rfl (X_pick (t := true) (v := (.bool (true))) rfl rfl ?_)
    refine L_op rfl (X_move (v := (.bool (true))) rfl ?_)
    refine L_gn (dj := 13) (t := true) rfl rfl rfl rfl ?_
    refine L_gn (dj := 13) (t := true) rfl rfl rfl rfl ?_
    refine L_gn (dj := 13) (t := true) rfl rfl rfl rfl ?_
    refine L_gn (dj := 13) (t := true) rfl rfl rfl rfl ?_
    refine L_gn (dj := 13) (t := true) rfl rfl rfl rfl ?_
    refine L_op rfl (X_pick (t := true) (v := (.bool (true))) rfl rfl ?_)
    refine L_op rfl (X_assign (v := (.bool (true))) rfl ?_)
    refine L_nil ?_
    refine T_n ?_
    refine W_ct rfl ?_
    refine W_seq ?_
    refine W_reg ?_
    refine L_op rfl (X_assign (v := (.int .i64 (2))) rfl ?_)
    refine L_nil ?_
    refine T_n ?_
    refine W_ret ?_
    refine B_r ?_
    refine T_r ?_
    exact BQ_r (End_1 Try.results28 (v := .int .i64 2) rfl ⟨by rw [askE_bad (fun h => by have h1 := hg_.2 h.1; rw [hc3] at h1; cases h1)], hU.own hn0⟩)

theorem c_index (v : Value) (x : Int) (bs : List Int) (w : World) (lo up : Nat) (hb : NRd LI w lo up v bs) : CT Try.prog 44 #[v, (.int .i64 (x))] w fun v w' => (∃ i : Int, v = .int .i64 i ∧ (0 ≤ i ↔ x ∈ bs)) ∧ w = w' := by
  have hmx := hb.sv.len
  refine CT_of Try.func44 rfl rfl rfl ?_
  refine W_seq ?_
  refine W_reg ?_
  refine L_op rfl (X_assign (v := (.int .i64 (0))) rfl ?_)
  refine L_nil ?_
  refine T_n ?_
  refine W_seq ?_
  refine W_seq ?_
  refine W_reg ?_
  refine L_op rfl (X_move (v := v) rfl ?_)
  refine L_op rfl (X_len (v := v) (n := bs.length) Try.underlying24 rfl hb.sv ?_)
  refine L_op rfl (X_move (v := (.int .i64 (0))) rfl ?_)
  refine L_nil ?_
  refine T_n ?_
  refine W_block ?_
  refine W_loop (α := Nat) [4, 5, 8, 9, 10, 11, 12, 13, 14, 15, 16, 17, 18] (fun i => [(8, (.int .i64 (((i : Nat) : Int))))]) (fun i w_ => w = w_ ∧ i ≤ bs.length ∧ ∀ (j : Nat) (a : Int), j < i → bs[j]? = some a → x ≠ a) (fun i => bs.length - i) ⟨rfl, 0, ⟨rfl, Nat.zero_le _, fun j _ h => absurd h (Nat.not_lt_zero j)⟩, Out.refl _ _, ⟨rfl, trivial⟩⟩ ?_
  rintro i w1 _ ⟨rfl, hil, hz⟩
  refine W_seq ?_
  refine W_reg ?_
  by_cases hc2 : (((i : Nat) : Int) : Int) < (((bs.length : Nat) : Int))
  · refine L_op rfl (X_cmp (k := .i64) (a := ((i : Nat) : Int)) (b := ((bs.length : Nat) : Int)) (r := true) rfl rfl rfl (decide_eq_true (p := ((((i : Nat) : Int)) : Int) < ((((bs.length : Nat) : Int)) : Int)) (by omega)) ?_)
    have hi : i < bs.length := by omega
    obtain ⟨a, hai⟩ : ∃ a, bs[i]? = some a := ⟨_, List.getElem?_eq_getElem hi⟩
    refine L_nil ?_
    refine T_n ?_
    refine W_seq ?_
    refine W_ct rfl ?_
    refine W_skip ?_
    refine T_n ?_
    refine W_seq ?_
    refine W_block ?_
    refine W_seq ?_
    refine W_reg ?_
    refine L_op rfl (X_move (v := (.int .i64 (((i : Nat) : Int)))) rfl ?_)
    refine L_op rfl (X_assign (v := (.int .i64 (((i : Nat) : Int)))) rfl ?_)
    refine L_nil ?_
    refine T_n ?_
    refine W_seq ?_
    refine W_reg ?_
    refine L_op rfl (X_move (v := (.int .i64 (x))) rfl ?_)
    refine L_op rfl (X_move (v := v) rfl ?_)
    refine L_op rfl (X_move (v := (.int .i64 (((i : Nat) : Int)))) rfl ?_)
    refine L_op rfl (X_idx (v := v) (n := bs.length) (k := .i64) (i := ((i : Nat) : Int)) S24 rfl hb.sv rfl (by omega) (by omega) ?_)
    refine L_op rfl (X_load (v := .int .i64 a) T3 rfl (iat hb (Int.toNat_natCast _) hai) ?_)
    by_cases hc3 : (x : Int) = (a)
    · refine L_op rfl (X_cmp (k := .i64) (a := x) (b := a) (r := true) rfl rfl rfl (decide_eq_true (p := ((x) : Int) = ((a) : Int)) (by omega)) ?_)
      refine L_nil ?_
      refine T_n ?_
      refine W_ct rfl ?_
      refine W_seq ?_
      refine W_reg ?_
      refine L_op rfl (X_move (v := (.int .i64 (((i : Nat) : Int)))) rfl ?_)
      refine L_op rfl (X_assign (v := (.int .i64 (((i : Nat) : Int)))) rfl ?_)
      refine L_nil ?_
      refine T_n ?_
      refine W_ret ?_
      refine B_r ?_
      refine T_r ?_
      refine T_r ?_
      refine B_r ?_
      refine T_r ?_
      exact BQ_r (End_1 Try.results44 (v := .int .i64 (((i : Nat) : Int))) rfl ⟨⟨_, rfl, ⟨fun _ => by rw [show x = a by assumption]; exact List.mem_of_getElem? hai, fun _ => by omega⟩⟩, rfl⟩)
    · refine L_op rfl (X_cmp (k := .i64) (a := x) (b := a) (r := false) rfl rfl rfl (decide_eq_false (p := ((x) : Int) = ((a) : Int)) (by omega)) ?_)
      refine L_nil ?_
      refine T_n ?_
      refine W_cf rfl ?_
      refine W_skip ?_
      refine B_n ?_
      refine T_n ?_
      refine W_reg ?_
      refine L_op rfl (X_arith (k := .i64) (a := ((i : Nat) : Int)) (b := 1) (r := ((i + 1 : Nat) : Int)) rfl rfl rfl (iadd64 (by omega) (by omega) (by omega)) ?_)
      refine L_op rfl (X_move (v := (.int .i64 (((i + 1 : Nat) : Int)))) rfl ?_)
      refine L_nil ?_
      refine T_n ?_
      exact ⟨rfl, i + 1, ⟨⟨rfl, hi, fun j e hj he => (Nat.lt_or_ge j i).elim (fun h1 => hz j e h1 he) fun h1 => by obtain rfl : j = i := by { omega }; rw [hai] at he; cases he; assumption⟩, (by show bs.length - (i + 1) < bs.length - i; omega)⟩, (Out.mk rfl), ⟨rfl, trivial⟩⟩
  · refine L_op rfl (X_cmp (k := .i64) (a := ((i : Nat) : Int)) (b := ((bs.length : Nat) : Int)) (r := false) rfl rfl rfl (decide_eq_false (p := ((((i : Nat) : Int)) : Int) < ((((bs.length : Nat) : Int)) : Int)) (by omega)) ?_)
    refine L_nil ?_
    refine T_n ?_
    refine W_seq ?_
    refine W_cf rfl ?_
    refine W_exit ?_
    refine T_e ?_
    refine T_e ?_
    refine B_x ?_
    refine T_n ?_
    refine W_seq ?_
    refine W_reg ?_
    refine L_op rfl (X_assign (v := (.int .i64 (-1))) rfl ?_)
    refine L_nil ?_
    refine T_n ?_
    refine W_ret ?_
    exact BQ_r (End_1 Try.results44 (v := .int .i64 (-1)) rfl ⟨⟨_, rfl, ⟨fun h => by omega, fun h => by obtain ⟨j, hj, he⟩ := List.getElem_of_mem h; exact absurd he.symm (hz j _ (by omega) (List.getElem?_eq_getElem hj))⟩⟩, rfl⟩)

theorem c_contains (v : Value) (x : Int) (bs : List Int) (w : World) (lo up : Nat) (hb : NRd LI w lo up v bs) : CT Try.prog 30 #[v, (.int .i64 (x))] w fun v w' => v = .bool (decide (x ∈ bs)) ∧ w = w' := by
  refine CT_of Try.func30 rfl rfl rfl ?_
  refine W_seq ?_
  refine W_reg ?_
  refine L_op rfl (X_assign (v := (.bool (false))) rfl ?_)
  refine L_nil ?_
  refine T_n ?_
  refine W_seq ?_
  refine W_reg ?_
  refine L_op rfl (X_move (v := v) rfl ?_)
  refine L_op rfl (X_move (v := (.int .i64 (x))) rfl ?_)
  refine L_op rfl (X_fn (vs := [v, (.int .i64 (x))]) en44 rfl (CT.mono (c_index v x bs _ lo up hb) ?_))
  rintro _ _ ⟨⟨ix, rfl, hi_⟩, rfl⟩
  by_cases hc1 : (ix : Int) ≥ (0)
  · refine L_op rfl (X_cmp (k := .i64) (a := ix) (b := 0) (r := true) rfl rfl rfl (decide_eq_true (p := ((0) : Int) ≤ ((ix) : Int)) (by omega)) ?_)
    refine L_op rfl (X_assign (v := (.bool (true))) rfl ?_)
    refine L_nil ?_
    refine T_n ?_
    refine W_ret ?_
    exact BQ_r (End_1 Try.results30 (v := .bool true) rfl ⟨by rw [decide_eq_true (hi_.1 (by omega))], rfl⟩)
  · refine L_op rfl (X_cmp (k := .i64) (a := ix) (b := 0) (r := false) rfl rfl rfl (decide_eq_false (p := ((0) : Int) ≤ ((ix) : Int)) (by omega)) ?_)
    refine L_op rfl (X_assign (v := (.bool (false))) rfl ?_)
    refine L_nil ?_
    refine T_n ?_
    refine W_ret ?_
    exact BQ_r (End_1 Try.results30 (v := .bool false) rfl ⟨by rw [decide_eq_false (fun h => by have h1 := hi_.2 h; omega)], rfl⟩)
end Go.Proofs.Ythongcaijgfojaa
