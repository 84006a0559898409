/-
  The model: strict. (Printed by wip/gen/t31n.py of this repo.)
-/
import Derived.Test.YthncpmablodbjaaDoorJudgeG
import Derived.Test.YthncpmablodbjaaDoorBaseWS
namespace Go.Proofs.YthncpmablodbjaaDoor
open Go Go.SL Go.Proofs
set_option linter.unusedVariables false

theorem c_strictA (c : Nat → Value) (hc1 : OneM c) (wr : Bool) (hwr : c 64 = .bool wr) (hwf : wr = false) (h65 : c 65 = .bool false) (x : Opr) (hxk : x.k = 3) (a : Ans) (w : World) (lo up : Nat) (hup : up ≤ w.heap.size) (hq : x.R w lo up) (ha : a.R w lo up) : CT Tryd.prog 17 #[(.agg (cellsM c).toArray), (.agg #[(.int .u8 (x.k)), (.int .i64 (x.a)), (.int .i64 (x.b)), x.kv, x.xv]), (.agg #[(.int .i64 (a.e)), (.bool (a.t)), a.kv, a.xv, (.int .i64 (a.n))])] w fun v w' => v = .tuple #[.agg (cellsM c).toArray, .bool (decide (a.e = 2) && bareD a)] ∧ Ext w w' := by
  obtain ⟨n0, hn0⟩ : ∃ n, n = w.heap.size := ⟨_, rfl⟩
  have hU : Upd (fun i => n0 ≤ i) w w := Upd.refl _ _
  rw [← hn0] at hup
  refine CT_of Tryd.func17 rfl rfl rfl ?_
  refine W_seq ?_
  refine W_reg ?_
  refine L_op rfl (X_box (v := (.agg (cellsM c).toArray)) (c := ((cellsM c)).toArray) rfl rfl ?_)
  intro b1 w1 hn1
  have hbn1 := hn1.num; have hbs1 := hn1.size
  replace hq := hq.ext hn1.ext
  replace ha := ha.ext hn1.ext
  replace hU := hU.trans (Ext.upd hn1.ext)
  have hB1 := hn1.blk
  refine L_op rfl (X_box (v := (.agg #[(.int .u8 (x.k)), (.int .i64 (x.a)), (.int .i64 (x.b)), x.kv, x.xv])) (c := ([(.int .u8 (x.k)), (.int .i64 (x.a)), (.int .i64 (x.b)), x.kv, x.xv]).toArray) rfl rfl ?_)
  intro b2 w2 hn2
  have hbn2 := hn2.num; have hbs2 := hn2.size
  replace hq := hq.ext hn2.ext
  replace ha := ha.ext hn2.ext
  replace hU := hU.trans (Ext.upd hn2.ext)
  replace hB1 := hB1.ext hn2.ext
  have hB2 := hn2.blk
  refine L_op rfl (X_box (v := (.agg #[(.int .i64 (a.e)), (.bool (a.t)), a.kv, a.xv, (.int .i64 (a.n))])) (c := ([(.int .i64 (a.e)), (.bool (a.t)), a.kv, a.xv, (.int .i64 (a.n))]).toArray) rfl rfl ?_)
  intro b3 w3 hn3
  have hbn3 := hn3.num; have hbs3 := hn3.size
  replace hq := hq.ext hn3.ext
  replace ha := ha.ext hn3.ext
  replace hU := hU.trans (Ext.upd hn3.ext)
  replace hB1 := hB1.ext hn3.ext
  replace hB2 := hB2.ext hn3.ext
  have hB3 := hn3.blk
  refine L_op rfl (X_alloc (z := zv40) (c := zc40.toArray) Zv40 rfl ?_)
  intro b4 w4 hn4
  have hbn4 := hn4.num; have hbs4 := hn4.size
  replace hq := hq.ext hn4.ext
  replace ha := ha.ext hn4.ext
  replace hU := hU.trans (Ext.upd hn4.ext)
  replace hB1 := hB1.ext hn4.ext
  replace hB2 := hB2.ext hn4.ext
  replace hB3 := hB3.ext hn4.ext
  have hB4 := hn4.blk
  refine L_op rfl (X_assign (v := (.bool (false))) rfl ?_)
  refine L_nil ?_
  refine T_n ?_
  refine W_seq ?_
  refine W_seq ?_
  refine W_reg ?_
  refine L_op rfl (X_loadA (p := (ptr b1 (0))) (xs := cellsM c) A40 rfl hB1.atAll rfl ?_)
  refine L_op rfl (X_loadA (p := (ptr b2 (0))) (xs := [(.int .u8 (x.k)), (.int .i64 (x.a)), (.int .i64 (x.b)), x.kv, x.xv]) A43 rfl hB2.atAll rfl ?_)
  have hcr_ := c_refused3 c hc1 wr hwr h65 x hxk w4 lo up (by omega) hq
  refine L_op rfl (X_fn (vs := [(.agg (cellsM c).toArray), (.agg ([(.int .u8 (x.k)), (.int .i64 (x.a)), (.int .i64 (x.b)), x.kv, x.xv]).toArray)]) en24 rfl ?_)
  refine CT.mono hcr_ ?_
  clear hcr_
  rintro _ w5 ⟨rfl, hu5⟩
  have hz5 := hu5.size
  replace hq := hq.ext hu5
  replace ha := ha.ext hu5
  replace hU := hU.trans (Ext.upd hu5)
  replace hB1 := hB1.ext hu5
  replace hB2 := hB2.ext hu5
  replace hB3 := hB3.ext hu5
  replace hB4 := hB4.ext hu5
  rw [show (if (!wr) = true then 2 else if (!putsD x) = true then 2 else 0) = (2 : Int) from by rw [hwf]; rfl]
  refine L_op rfl (X_assign (v := (.int .i64 (2))) rfl ?_)
  refine L_nil ?_
  refine T_n ?_
  refine W_seq ?_
  refine W_reg ?_
  refine L_op rfl (X_move (v := (.int .i64 (2))) rfl ?_)
  refine L_op rfl (X_cmp (k := .i64) (a := 2) (b := 0) (r := true) rfl rfl rfl rfl ?_)
  refine L_nil ?_
  refine T_n ?_
  refine W_ct rfl ?_
  refine W_seq ?_
  obtain ⟨bb, hbb⟩ : ∃ n, n = b4 := ⟨_, rfl⟩
  rcases Bool.eq_false_or_eq_true (decide (a.e = 2)) with hs6 | hs6
  · have he_ := of_decide_eq_true hs6
    refine W_drawS 10 [[], [], [1], [], [1, 2, 3], [1, 2, 3, 4], [1, 2, 3, 4, 5], [1, 2, 3, 4, 5, 6], [1, 2, 3, 4, 5, 6, 7], [0, 1, 2, 3, 4, 5, 6, 7], [0, 1, 2, 3, 4, 5, 6, 7, 8, 9]] (fun j b => (j = 9 ∧ b = bb)) mixed (by kernel_rfl) ?_
    refine ⟨.det (fun val => (.agg (cellsM c).toArray)), ⟨fun _ _ hv => rfl, fun _ _ _ _ _ => trivial⟩, fun val h_ W hx he => ⟨trivial, ?_⟩, ?_⟩
    · replace hx := (Upd.drew _ _).trans hx
      replace hx : Upd (fun b => False) w5 W := hx.mono fun b _ h_ => by obtain ⟨j, _, hne, hm_, hS⟩ := h_; obtain ⟨rfl, hS⟩ := hS; exact absurd hm_ (by decide)
      replace hq := hq.ext hx
      replace ha := ha.ext hx
      replace hB1 := hB1.ext hx
      replace hB2 := hB2.ext hx
      replace hB3 := hB3.ext hx
      replace hB4 := hB4.ext hx
      have hE := Upd.refl (fun _ => False) W
      refine id (X_loadA (p := (ptr b1 (0))) (xs := cellsM c) A40 rfl hB1.atAll rfl ?_)
      exact ⟨Ext.upd hE, rfl⟩
    refine ⟨.det (fun val => (ptr b3 (0))), ⟨fun _ _ hv => rfl, fun _ _ _ _ _ => trivial⟩, fun val h_ W hx he => ⟨trivial, ?_⟩, ?_⟩
    · replace hx := (Upd.drew _ _).trans hx
      replace hx : Upd (fun b => False) w5 W := hx.mono fun b _ h_ => by obtain ⟨j, _, hne, hm_, hS⟩ := h_; obtain ⟨rfl, hS⟩ := hS; exact absurd hm_ (by decide)
      replace hq := hq.ext hx
      replace ha := ha.ext hx
      replace hB1 := hB1.ext hx
      replace hB2 := hB2.ext hx
      replace hB3 := hB3.ext hx
      replace hB4 := hB4.ext hx
      have hE := Upd.refl (fun _ => False) W
      refine id (X_fldP (b := b3) (o := 0) (r := 0) Fd48_0 rfl rfl ?_)
      exact ⟨Ext.upd hE, rfl⟩
    refine ⟨.det (fun val => (.int .i64 (a.e))), ⟨fun _ _ hv => rfl, fun _ _ _ _ _ => trivial⟩, fun val h_ W hx he => ⟨trivial, ?_⟩, ?_⟩
    · replace hx := (Upd.drew _ _).trans hx
      replace hx : Upd (fun b => False) w5 W := hx.mono fun b _ h_ => by obtain ⟨j, _, hne, hm_, hS⟩ := h_; obtain ⟨rfl, hS⟩ := hS; exact absurd hm_ (by decide)
      replace hq := hq.ext hx
      replace ha := ha.ext hx
      replace hB1 := hB1.ext hx
      replace hB2 := hB2.ext hx
      replace hB3 := hB3.ext hx
      replace hB4 := hB4.ext hx
      have hE := Upd.refl (fun _ => False) W
      refine id (X_load (p := (ptr b3 (0))) (v := (.int .i64 (a.e))) T46 rfl (hB3.at1 rfl) ?_)
      exact ⟨Ext.upd hE, rfl⟩
    refine ⟨.det (fun val => (.int .i64 (2))), ⟨fun _ _ hv => rfl, fun _ _ _ _ _ => trivial⟩, fun val h_ W hx he => ⟨trivial, ?_⟩, ?_⟩
    · replace hx := (Upd.drew _ _).trans hx
      replace hx : Upd (fun b => False) w5 W := hx.mono fun b _ h_ => by obtain ⟨j, _, hne, hm_, hS⟩ := h_; obtain ⟨rfl, hS⟩ := hS; exact absurd hm_ (by decide)
      replace hq := hq.ext hx
      replace ha := ha.ext hx
      replace hB1 := hB1.ext hx
      replace hB2 := hB2.ext hx
      replace hB3 := hB3.ext hx
      replace hB4 := hB4.ext hx
      have hE := Upd.refl (fun _ => False) W
      refine id (X_move (v := (.int .i64 (2))) rfl ?_)
      exact ⟨Ext.upd hE, rfl⟩
    refine ⟨.det (fun val => (.bool (true))), ⟨fun _ _ hv => rfl, fun _ _ _ _ _ => trivial⟩, fun val h_ W hx he => ⟨trivial, ?_⟩, ?_⟩
    · replace hx := (Upd.drew _ _).trans hx
      replace hx : Upd (fun b => False) w5 W := hx.mono fun b _ h_ => by obtain ⟨j, _, hne, hm_, hS⟩ := h_; obtain ⟨rfl, hS⟩ := hS; exact absurd hm_ (by decide)
      replace hq := hq.ext hx
      replace ha := ha.ext hx
      replace hB1 := hB1.ext hx
      replace hB2 := hB2.ext hx
      replace hB3 := hB3.ext hx
      replace hB4 := hB4.ext hx
      have hE := Upd.refl (fun _ => False) W
      refine id (X_cmp (k := .i64) (a := a.e) (b := 2) (r := true) rfl rfl rfl (decide_eq_true (p := ((a.e) : Int) = ((2) : Int)) (by omega)) ?_)
      exact ⟨Ext.upd hE, rfl⟩
    refine ⟨.det (fun val => (.bool (true))), ⟨fun _ _ hv => rfl, fun _ _ _ _ _ => trivial⟩, fun val h_ W hx he => ⟨trivial, ?_⟩, ?_⟩
    · replace hx := (Upd.drew _ _).trans hx
      replace hx : Upd (fun b => False) w5 W := hx.mono fun b _ h_ => by obtain ⟨j, _, hne, hm_, hS⟩ := h_; obtain ⟨rfl, hS⟩ := hS; exact absurd hm_ (by decide)
      replace hq := hq.ext hx
      replace ha := ha.ext hx
      replace hB1 := hB1.ext hx
      replace hB2 := hB2.ext hx
      replace hB3 := hB3.ext hx
      replace hB4 := hB4.ext hx
      have hE := Upd.refl (fun _ => False) W
      refine id (X_move (v := (.bool (true))) rfl ?_)
      exact ⟨Ext.upd hE, rfl⟩
    refine ⟨.det (fun val => (.agg ([(.int .i64 (a.e)), (.bool (a.t)), a.kv, a.xv, (.int .i64 (a.n))]).toArray)), ⟨fun _ _ hv => rfl, fun _ _ _ _ _ => trivial⟩, fun val h_ W hx he => ⟨⟨20, rfl, rfl⟩, ?_⟩, ?_⟩
    · replace hx := (Upd.drew _ _).trans hx
      replace hx : Upd (fun b => False) w5 W := hx.mono fun b _ h_ => by obtain ⟨j, _, hne, hm_, hS⟩ := h_; obtain ⟨rfl, hS⟩ := hS; exact absurd hm_ (by decide)
      replace hq := hq.ext hx
      replace ha := ha.ext hx
      replace hB1 := hB1.ext hx
      replace hB2 := hB2.ext hx
      replace hB3 := hB3.ext hx
      replace hB4 := hB4.ext hx
      have hE := Upd.refl (fun _ => False) W
      refine id (X_loadA (p := (ptr b3 (0))) (xs := [(.int .i64 (a.e)), (.bool (a.t)), a.kv, a.xv, (.int .i64 (a.n))]) A48 rfl hB3.atAll rfl ?_)
      exact ⟨Ext.upd hE, rfl⟩
    refine ⟨.det (fun val => (.bool (bareD a))), ⟨fun _ _ hv => rfl, fun _ _ _ _ _ => trivial⟩, fun val h_ W hx he => ⟨⟨20, rfl, rfl⟩, ?_⟩, ?_⟩
    · replace hx := (Upd.drew _ _).trans hx
      replace hx : Upd (fun b => False) w5 W := hx.mono fun b _ h_ => by obtain ⟨j, _, hne, hm_, hS⟩ := h_; obtain ⟨rfl, hS⟩ := hS; exact absurd hm_ (by decide)
      replace hq := hq.ext hx
      replace ha := ha.ext hx
      replace hB1 := hB1.ext hx
      replace hB2 := hB2.ext hx
      replace hB3 := hB3.ext hx
      replace hB4 := hB4.ext hx
      have hE := Upd.refl (fun _ => False) W
      have hxs := hx.size
      have hcr_ := c_bare a W lo up (by omega) ha
      refine X_fn (vs := [(.agg #[(.int .i64 (a.e)), (.bool (a.t)), a.kv, a.xv, (.int .i64 (a.n))])]) en25 rfl ?_
      refine CT.mono hcr_ ?_
      rintro _ w9 ⟨rfl, hu9⟩
      exact ⟨Ext.upd hu9, rfl⟩
    refine ⟨.det (fun val => (.bool (bareD a))), ⟨fun _ _ hv => rfl, fun _ _ _ _ _ => trivial⟩, fun val h_ W hx he => ⟨trivial, ?_⟩, ?_⟩
    · replace hx := (Upd.drew _ _).trans hx
      replace hx : Upd (fun b => (b = bb)) w5 W := hx.mono fun b _ h_ => by obtain ⟨j, _, hne, hm_, hS⟩ := h_; obtain ⟨rfl, hS⟩ := hS; exact hS
      replace hq := hq.upd hx fun i h1 h2 h => by have h : i = bb := h; omega
      replace ha := ha.upd hx fun i h1 h2 h => by have h : i = bb := h; omega
      replace hB1 := hB1.upd hx fun h => by have h : b1 = bb := h; omega
      replace hB2 := hB2.upd hx fun h => by have h : b2 = bb := h; omega
      replace hB3 := hB3.upd hx fun h => by have h : b3 = bb := h; omega
      have hE := Upd.refl (fun _ => False) W
      refine id (X_pick (t := true) (v := (.bool (bareD a))) rfl rfl ?_)
      exact ⟨Ext.upd hE, rfl⟩
    refine ⟨.abs (fun _ _ W_ => Blk W_ b4 (cellsM c).toArray 40), ⟨fun _ _ _ => rfl, fun _ _ _ _ hu0 h => have hu : Upd (fun b => False) _ _ := hu0.mono fun b _ h_ => (by obtain ⟨j, _, hne, hm_, hS⟩ := h_; obtain ⟨rfl, hS⟩ := hS; exact absurd rfl hne)
       Blk.ext h hu⟩, fun val h_ W hx he => ⟨trivial, ?_⟩, ?_⟩
    · replace hx := (Upd.drew _ _).trans hx
      replace hx : Upd (fun b => False) w5 W := hx.mono fun b _ h_ => by obtain ⟨j, _, hne, hm_, hS⟩ := h_; obtain ⟨rfl, hS⟩ := hS; exact absurd rfl hne
      replace hq := hq.ext hx
      replace ha := ha.ext hx
      replace hB1 := hB1.ext hx
      replace hB2 := hB2.ext hx
      replace hB3 := hB3.ext hx
      replace hB4 := hB4.ext hx
      have hE := Upd.refl (fun _ => False) W
      refine X_storeW (b := b4) (ys := cellsM c) A40 rfl rfl hc1.all rfl hB4 (by rw [List.size_toArray]; rfl) ?_
      intro w8 hu8 hb8
      exact ⟨hu8.mono fun b_ _ h => ⟨rfl, h.trans hbb.symm⟩, hb8⟩
    intro val W7 hx7 he7
    replace hx7 := (Upd.drew _ _).trans hx7
    replace hx7 : Upd (fun b => (b = bb)) w5 W7 := hx7.mono fun b _ h_ => by obtain ⟨j, _, hS⟩ := h_; obtain ⟨rfl, hS⟩ := hS; exact hS
    have hz7 := hx7.size
    replace hq := hq.upd hx7 fun i h1 h2 h => by have h : i = bb := h; omega
    replace ha := ha.upd hx7 fun i h1 h2 h => by have h : i = bb := h; omega
    replace hU := hU.trans (hx7.mono fun i _ h => by have h : i = bb := h; show n0 ≤ i; omega)
    replace hB1 := hB1.upd hx7 fun h => by have h : b1 = bb := h; omega
    replace hB2 := hB2.upd hx7 fun h => by have h : b2 = bb := h; omega
    replace hB3 := hB3.upd hx7 fun h => by have h : b3 = bb := h; omega
    obtain ⟨hB4, he7⟩ := he7
    refine L_op rfl (X_assign (v := (.bool (bareD a))) rfl ?_)
    refine L_nil ?_
    refine T_n ?_
    refine W_ret ?_
    refine T_r ?_
    exact BQ_r (End_2 Tryd.results17 (RV_A A40 rfl hB4.atAll rfl) (v2 := .bool (bareD a)) rfl ⟨by rw [hs6]; rfl, hU.own hn0⟩)
  · have he_ := of_decide_eq_false hs6
    refine W_drawS 10 [[], [], [1], [], [1, 2, 3], [1, 2, 3, 4], [1, 2, 3, 4, 5], [1, 2, 3, 4, 5, 6], [1, 2, 3, 4, 5, 6, 7], [0, 1, 2, 3, 4, 5, 6, 7], [0, 1, 2, 3, 4, 5, 6, 7, 8, 9]] (fun j b => (j = 9 ∧ b = bb)) mixed (by kernel_rfl) ?_
    refine ⟨.det (fun val => (.agg (cellsM c).toArray)), ⟨fun _ _ hv => rfl, fun _ _ _ _ _ => trivial⟩, fun val h_ W hx he => ⟨trivial, ?_⟩, ?_⟩
    · replace hx := (Upd.drew _ _).trans hx
      replace hx : Upd (fun b => False) w5 W := hx.mono fun b _ h_ => by obtain ⟨j, _, hne, hm_, hS⟩ := h_; obtain ⟨rfl, hS⟩ := hS; exact absurd hm_ (by decide)
      replace hq := hq.ext hx
      replace ha := ha.ext hx
      replace hB1 := hB1.ext hx
      replace hB2 := hB2.ext hx
      replace hB3 := hB3.ext hx
      replace hB4 := hB4.ext hx
      have hE := Upd.refl (fun _ => False) W
      refine id (X_loadA (p := (ptr b1 (0))) (xs := cellsM c) A40 rfl hB1.atAll rfl ?_)
      exact ⟨Ext.upd hE, rfl⟩
    refine ⟨.det (fun val => (ptr b3 (0))), ⟨fun _ _ hv => rfl, fun _ _ _ _ _ => trivial⟩, fun val h_ W hx he => ⟨trivial, ?_⟩, ?_⟩
    · replace hx := (Upd.drew _ _).trans hx
      replace hx : Upd (fun b => False) w5 W := hx.mono fun b _ h_ => by obtain ⟨j, _, hne, hm_, hS⟩ := h_; obtain ⟨rfl, hS⟩ := hS; exact absurd hm_ (by decide)
      replace hq := hq.ext hx
      replace ha := ha.ext hx
      replace hB1 := hB1.ext hx
      replace hB2 := hB2.ext hx
      replace hB3 := hB3.ext hx
      replace hB4 := hB4.ext hx
      have hE := Upd.refl (fun _ => False) W
      refine id (X_fldP (b := b3) (o := 0) (r := 0) Fd48_0 rfl rfl ?_)
      exact ⟨Ext.upd hE, rfl⟩
    refine ⟨.det (fun val => (.int .i64 (a.e))), ⟨fun _ _ hv => rfl, fun _ _ _ _ _ => trivial⟩, fun val h_ W hx he => ⟨trivial, ?_⟩, ?_⟩
    · replace hx := (Upd.drew _ _).trans hx
      replace hx : Upd (fun b => False) w5 W := hx.mono fun b _ h_ => by obtain ⟨j, _, hne, hm_, hS⟩ := h_; obtain ⟨rfl, hS⟩ := hS; exact absurd hm_ (by decide)
      replace hq := hq.ext hx
      replace ha := ha.ext hx
      replace hB1 := hB1.ext hx
      replace hB2 := hB2.ext hx
      replace hB3 := hB3.ext hx
      replace hB4 := hB4.ext hx
      have hE := Upd.refl (fun _ => False) W
      refine id (X_load (p := (ptr b3 (0))) (v := (.int .i64 (a.e))) T46 rfl (hB3.at1 rfl) ?_)
      exact ⟨Ext.upd hE, rfl⟩
    refine ⟨.det (fun val => (.int .i64 (2))), ⟨fun _ _ hv => rfl, fun _ _ _ _ _ => trivial⟩, fun val h_ W hx he => ⟨trivial, ?_⟩, ?_⟩
    · replace hx := (Upd.drew _ _).trans hx
      replace hx : Upd (fun b => False) w5 W := hx.mono fun b _ h_ => by obtain ⟨j, _, hne, hm_, hS⟩ := h_; obtain ⟨rfl, hS⟩ := hS; exact absurd hm_ (by decide)
      replace hq := hq.ext hx
      replace ha := ha.ext hx
      replace hB1 := hB1.ext hx
      replace hB2 := hB2.ext hx
      replace hB3 := hB3.ext hx
      replace hB4 := hB4.ext hx
      have hE := Upd.refl (fun _ => False) W
      refine id (X_move (v := (.int .i64 (2))) rfl ?_)
      exact ⟨Ext.upd hE, rfl⟩
    refine ⟨.det (fun val => (.bool (false))), ⟨fun _ _ hv => rfl, fun _ _ _ _ _ => trivial⟩, fun val h_ W hx he => ⟨trivial, ?_⟩, ?_⟩
    · replace hx := (Upd.drew _ _).trans hx
      replace hx : Upd (fun b => False) w5 W := hx.mono fun b _ h_ => by obtain ⟨j, _, hne, hm_, hS⟩ := h_; obtain ⟨rfl, hS⟩ := hS; exact absurd hm_ (by decide)
      replace hq := hq.ext hx
      replace ha := ha.ext hx
      replace hB1 := hB1.ext hx
      replace hB2 := hB2.ext hx
      replace hB3 := hB3.ext hx
      replace hB4 := hB4.ext hx
      have hE := Upd.refl (fun _ => False) W
      refine id (X_cmp (k := .i64) (a := a.e) (b := 2) (r := false) rfl rfl rfl (decide_eq_false (p := ((a.e) : Int) = ((2) : Int)) (by omega)) ?_)
      exact ⟨Ext.upd hE, rfl⟩
    refine ⟨.det (fun val => (.bool (false))), ⟨fun _ _ hv => rfl, fun _ _ _ _ _ => trivial⟩, fun val h_ W hx he => ⟨trivial, ?_⟩, ?_⟩
    · replace hx := (Upd.drew _ _).trans hx
      replace hx : Upd (fun b => False) w5 W := hx.mono fun b _ h_ => by obtain ⟨j, _, hne, hm_, hS⟩ := h_; obtain ⟨rfl, hS⟩ := hS; exact absurd hm_ (by decide)
      replace hq := hq.ext hx
      replace ha := ha.ext hx
      replace hB1 := hB1.ext hx
      replace hB2 := hB2.ext hx
      replace hB3 := hB3.ext hx
      replace hB4 := hB4.ext hx
      have hE := Upd.refl (fun _ => False) W
      refine id (X_move (v := (.bool (false))) rfl ?_)
      exact ⟨Ext.upd hE, rfl⟩
    refine ⟨.no, ⟨fun _ _ _ => trivial, fun _ _ _ _ _ => trivial⟩, fun val h_ W hx he => ⟨20, rfl, .inl rfl⟩, ?_⟩
    refine ⟨.no, ⟨fun _ _ _ => trivial, fun _ _ _ _ _ => trivial⟩, fun val h_ W hx he => ⟨20, rfl, .inl rfl⟩, ?_⟩
    refine ⟨.det (fun val => (.bool (false))), ⟨fun _ _ hv => rfl, fun _ _ _ _ _ => trivial⟩, fun val h_ W hx he => ⟨trivial, ?_⟩, ?_⟩
    · replace hx := (Upd.drew _ _).trans hx
      replace hx : Upd (fun b => (b = bb)) w5 W := hx.mono fun b _ h_ => by obtain ⟨j, _, hne, hm_, hS⟩ := h_; obtain ⟨rfl, hS⟩ := hS; exact hS
      replace hq := hq.upd hx fun i h1 h2 h => by have h : i = bb := h; omega
      replace ha := ha.upd hx fun i h1 h2 h => by have h : i = bb := h; omega
      replace hB1 := hB1.upd hx fun h => by have h : b1 = bb := h; omega
      replace hB2 := hB2.upd hx fun h => by have h : b2 = bb := h; omega
      replace hB3 := hB3.upd hx fun h => by have h : b3 = bb := h; omega
      have hE := Upd.refl (fun _ => False) W
      refine id (X_pick (t := false) (v := (.bool (false))) rfl rfl ?_)
      exact ⟨Ext.upd hE, rfl⟩
    refine ⟨.abs (fun _ _ W_ => Blk W_ b4 (cellsM c).toArray 40), ⟨fun _ _ _ => rfl, fun _ _ _ _ hu0 h => have hu : Upd (fun b => False) _ _ := hu0.mono fun b _ h_ => (by obtain ⟨j, _, hne, hm_, hS⟩ := h_; obtain ⟨rfl, hS⟩ := hS; exact absurd rfl hne)
       Blk.ext h hu⟩, fun val h_ W hx he => ⟨trivial, ?_⟩, ?_⟩
    · replace hx := (Upd.drew _ _).trans hx
      replace hx : Upd (fun b => False) w5 W := hx.mono fun b _ h_ => by obtain ⟨j, _, hne, hm_, hS⟩ := h_; obtain ⟨rfl, hS⟩ := hS; exact absurd rfl hne
      replace hq := hq.ext hx
      replace ha := ha.ext hx
      replace hB1 := hB1.ext hx
      replace hB2 := hB2.ext hx
      replace hB3 := hB3.ext hx
      replace hB4 := hB4.ext hx
      have hE := Upd.refl (fun _ => False) W
      refine X_storeW (b := b4) (ys := cellsM c) A40 rfl rfl hc1.all rfl hB4 (by rw [List.size_toArray]; rfl) ?_
      intro w8 hu8 hb8
      exact ⟨hu8.mono fun b_ _ h => ⟨rfl, h.trans hbb.symm⟩, hb8⟩
    intro val W8 hx8 he8
    replace hx8 := (Upd.drew _ _).trans hx8
    replace hx8 : Upd (fun b => (b = bb)) w5 W8 := hx8.mono fun b _ h_ => by obtain ⟨j, _, hS⟩ := h_; obtain ⟨rfl, hS⟩ := hS; exact hS
    have hz8 := hx8.size
    replace hq := hq.upd hx8 fun i h1 h2 h => by have h : i = bb := h; omega
    replace ha := ha.upd hx8 fun i h1 h2 h => by have h : i = bb := h; omega
    replace hU := hU.trans (hx8.mono fun i _ h => by have h : i = bb := h; show n0 ≤ i; omega)
    replace hB1 := hB1.upd hx8 fun h => by have h : b1 = bb := h; omega
    replace hB2 := hB2.upd hx8 fun h => by have h : b2 = bb := h; omega
    replace hB3 := hB3.upd hx8 fun h => by have h : b3 = bb := h; omega
    obtain ⟨hB4, he8⟩ := he8
    refine L_op rfl (X_assign (v := (.bool (false))) rfl ?_)
    refine L_nil ?_
    refine T_n ?_
    refine W_ret ?_
    refine T_r ?_
    exact BQ_r (End_2 Tryd.results17 (RV_A A40 rfl hB4.atAll rfl) (v2 := .bool (false)) rfl ⟨by rw [hs6]; rfl, hU.own hn0⟩)

theorem c_strictB (c : Nat → Value) (hc1 : OneM c) (wr : Bool) (hwr : c 64 = .bool wr) (h65 : c 65 = .bool false) (x : Opr) (hxk : x.k = 3) (hwt : wr = true) (hpu : putsD x = true) (a : Ans) (w : World) (lo up : Nat) (hup : up ≤ w.heap.size) (hq : x.R w lo up) (ha : a.R w lo up) (s : Sn) (hD : DrA c s) (hs : s.R w lo up) (hsm1 : s.ks.length < 1048576) (hae : a.e = 0) (r : Bool) (hr : (toldD a false [] [] 0) = r)  : CT Tryd.prog 17 #[(.agg (cellsM c).toArray), (.agg #[(.int .u8 (x.k)), (.int .i64 (x.a)), (.int .i64 (x.b)), x.kv, x.xv]), (.agg #[(.int .i64 (a.e)), (.bool (a.t)), a.kv, a.xv, (.int .i64 (a.n))])] w fun v w' => ∃ o : Sn, v = .tuple #[.agg (cellsM (drM c o)).toArray, .bool r] ∧ o.R w' w.heap.size w'.heap.size ∧ OneM (drM c o) ∧ bl o.ks = putK (bl s.ks) x.m ∧ bl o.vs = putV (bl s.ks) (bl s.vs) x.m x.x ∧ Ext w w' := by
  obtain ⟨n0, hn0⟩ : ∃ n, n = w.heap.size := ⟨_, rfl⟩
  have hU : Upd (fun i => n0 ≤ i) w w := Upd.refl _ _
  rw [← hn0] at hup
  refine CT_of Tryd.func17 rfl rfl rfl ?_
  refine W_seq ?_
  refine W_reg ?_
  refine L_op rfl (X_box (v := (.agg (cellsM c).toArray)) (c := ((cellsM c)).toArray) rfl rfl ?_)
  intro b1 w1 hn1
  have hbn1 := hn1.num; have hbs1 := hn1.size
  replace hq := hq.ext hn1.ext
  replace ha := ha.ext hn1.ext
  replace hU := hU.trans (Ext.upd hn1.ext)
  replace hs := hs.ext hn1.ext
  have hB1 := hn1.blk
  refine L_op rfl (X_box (v := (.agg #[(.int .u8 (x.k)), (.int .i64 (x.a)), (.int .i64 (x.b)), x.kv, x.xv])) (c := ([(.int .u8 (x.k)), (.int .i64 (x.a)), (.int .i64 (x.b)), x.kv, x.xv]).toArray) rfl rfl ?_)
  intro b2 w2 hn2
  have hbn2 := hn2.num; have hbs2 := hn2.size
  replace hq := hq.ext hn2.ext
  replace ha := ha.ext hn2.ext
  replace hU := hU.trans (Ext.upd hn2.ext)
  replace hs := hs.ext hn2.ext
  replace hB1 := hB1.ext hn2.ext
  have hB2 := hn2.blk
  refine L_op rfl (X_box (v := (.agg #[(.int .i64 (a.e)), (.bool (a.t)), a.kv, a.xv, (.int .i64 (a.n))])) (c := ([(.int .i64 (a.e)), (.bool (a.t)), a.kv, a.xv, (.int .i64 (a.n))]).toArray) rfl rfl ?_)
  intro b3 w3 hn3
  have hbn3 := hn3.num; have hbs3 := hn3.size
  replace hq := hq.ext hn3.ext
  replace ha := ha.ext hn3.ext
  replace hU := hU.trans (Ext.upd hn3.ext)
  replace hs := hs.ext hn3.ext
  replace hB1 := hB1.ext hn3.ext
  replace hB2 := hB2.ext hn3.ext
  have hB3 := hn3.blk
  refine L_op rfl (X_alloc (z := zv40) (c := zc40.toArray) Zv40 rfl ?_)
  intro b4 w4 hn4
  have hbn4 := hn4.num; have hbs4 := hn4.size
  replace hq := hq.ext hn4.ext
  replace ha := ha.ext hn4.ext
  replace hU := hU.trans (Ext.upd hn4.ext)
  replace hs := hs.ext hn4.ext
  replace hB1 := hB1.ext hn4.ext
  replace hB2 := hB2.ext hn4.ext
  replace hB3 := hB3.ext hn4.ext
  have hB4 := hn4.blk
  refine L_op rfl (X_assign (v := (.bool (false))) rfl ?_)
  refine L_nil ?_
  refine T_n ?_
  refine W_seq ?_
  refine W_seq ?_
  refine W_reg ?_
  refine L_op rfl (X_loadA (p := (ptr b1 (0))) (xs := cellsM c) A40 rfl hB1.atAll rfl ?_)
  refine L_op rfl (X_loadA (p := (ptr b2 (0))) (xs := [(.int .u8 (x.k)), (.int .i64 (x.a)), (.int .i64 (x.b)), x.kv, x.xv]) A43 rfl hB2.atAll rfl ?_)
  have hcr_ := c_refused3 c hc1 wr hwr h65 x hxk w4 lo up (by omega) hq
  refine L_op rfl (X_fn (vs := [(.agg (cellsM c).toArray), (.agg ([(.int .u8 (x.k)), (.int .i64 (x.a)), (.int .i64 (x.b)), x.kv, x.xv]).toArray)]) en24 rfl ?_)
  refine CT.mono hcr_ ?_
  clear hcr_
  rintro _ w5 ⟨rfl, hu5⟩
  have hz5 := hu5.size
  replace hq := hq.ext hu5
  replace ha := ha.ext hu5
  replace hU := hU.trans (Ext.upd hu5)
  replace hs := hs.ext hu5
  replace hB1 := hB1.ext hu5
  replace hB2 := hB2.ext hu5
  replace hB3 := hB3.ext hu5
  replace hB4 := hB4.ext hu5
  rw [show (if (!wr) = true then 2 else if (!putsD x) = true then 2 else 0) = (0 : Int) from by rw [hwt, hpu]; rfl]
  refine L_op rfl (X_assign (v := (.int .i64 (0))) rfl ?_)
  refine L_nil ?_
  refine T_n ?_
  refine W_seq ?_
  refine W_reg ?_
  refine L_op rfl (X_move (v := (.int .i64 (0))) rfl ?_)
  refine L_op rfl (X_cmp (k := .i64) (a := 0) (b := 0) (r := false) rfl rfl rfl rfl ?_)
  refine L_nil ?_
  refine T_n ?_
  refine W_cf rfl ?_
  refine W_skip ?_
  refine T_n ?_
  refine W_seq ?_
  refine W_seq ?_
  refine W_reg ?_
  refine L_op rfl (X_fldP (b := b3) (o := 0) (r := 0) Fd48_0 rfl rfl ?_)
  refine L_op rfl (X_load (p := (ptr b3 (0))) (v := (.int .i64 (a.e))) T46 rfl (hB3.at1 rfl) ?_)
  refine L_op rfl (X_cmp (k := .i64) (a := a.e) (b := 0) (r := false) rfl rfl rfl (decide_eq_false (p := ((a.e) : Int) ≠ ((0) : Int)) (by omega)) ?_)
  refine L_nil ?_
  refine T_n ?_
  refine W_cf rfl ?_
  refine W_skip ?_
  refine T_n ?_
  refine W_seq ?_
  refine W_draw 6 [[], [], [1], [0, 1, 2], [], [], [0, 1, 2, 3, 4, 5], [0, 1, 2, 3, 4, 5, 6]] mixed (by kernel_rfl) ?_
  refine ⟨.abs (fun _ x_ W_ => ∃ b F, x_ = .map (some b) ∧ MapAt .u8 W_ b F ∧ judF F), ⟨fun _ _ _ => rfl, fun _ _ _ _ hu h => (by obtain ⟨b, F, h1, h2, h3⟩ := h; exact ⟨b, F, h1, h2.ext hu, h3⟩)⟩, fun val h_ W hx he => ⟨trivial, ?_⟩, ?_⟩
  · replace hx := (Upd.drew _ _).trans hx
    replace hq := hq.ext hx
    replace ha := ha.ext hx
    replace hs := hs.ext hx
    replace hB1 := hB1.ext hx
    replace hB2 := hB2.ext hx
    replace hB3 := hB3.ext hx
    replace hB4 := hB4.ext hx
    have hE := Upd.refl (fun _ => False) W
    have hcr_ := c_judges W
    refine X_fn (vs := []) en27 rfl ?_
    refine CT.mono hcr_ ?_
    rintro v9 w9 ⟨b, F, rfl, hM, hF, hu9⟩
    exact ⟨hu9, b, F, rfl, hM, hF⟩
  refine ⟨.det (fun val => (ptr b2 (0))), ⟨fun _ _ hv => rfl, fun _ _ _ _ _ => trivial⟩, fun val h_ W hx he => ⟨trivial, ?_⟩, ?_⟩
  · replace hx := (Upd.drew _ _).trans hx
    replace hq := hq.ext hx
    replace ha := ha.ext hx
    replace hs := hs.ext hx
    replace hB1 := hB1.ext hx
    replace hB2 := hB2.ext hx
    replace hB3 := hB3.ext hx
    replace hB4 := hB4.ext hx
    have hE := Upd.refl (fun _ => False) W
    refine id (X_fldP (b := b2) (o := 0) (r := 0) Fd43_0 rfl rfl ?_)
    exact ⟨hE, rfl⟩
  refine ⟨.det (fun val => (.int .u8 (x.k))), ⟨fun _ _ hv => rfl, fun _ _ _ _ _ => trivial⟩, fun val h_ W hx he => ⟨trivial, ?_⟩, ?_⟩
  · replace hx := (Upd.drew _ _).trans hx
    replace hq := hq.ext hx
    replace ha := ha.ext hx
    replace hs := hs.ext hx
    replace hB1 := hB1.ext hx
    replace hB2 := hB2.ext hx
    replace hB3 := hB3.ext hx
    replace hB4 := hB4.ext hx
    have hE := Upd.refl (fun _ => False) W
    refine id (X_load (p := (ptr b2 (0))) (v := (.int .u8 (x.k))) T5 rfl (hB2.at1 rfl) ?_)
    exact ⟨hE, rfl⟩
  refine ⟨.det (fun val => Fn 69), ⟨fun _ _ hv => rfl, fun _ _ _ _ _ => trivial⟩, fun val h_ W hx he => ⟨trivial, ?_⟩, ?_⟩
  · replace hx := (Upd.drew _ _).trans hx
    replace hq := hq.ext hx
    replace ha := ha.ext hx
    replace hs := hs.ext hx
    replace hB1 := hB1.ext hx
    replace hB2 := hB2.ext hx
    replace hB3 := hB3.ext hx
    replace hB4 := hB4.ext hx
    have hE := Upd.refl (fun _ => False) W
    obtain ⟨⟨bm, F, hbm, hM, hF⟩, _⟩ := he
    refine X_lookup (k := x.k) (v := Fn 69) Tryd.underlying66 Tryd.underlying5 hbm rfl hM (by rw [hxk]; exact hF.2.2) ?_
    exact ⟨Upd.refl _ _, rfl⟩
  refine ⟨.det (fun val => (.agg ([(.int .u8 (x.k)), (.int .i64 (x.a)), (.int .i64 (x.b)), x.kv, x.xv]).toArray)), ⟨fun _ _ hv => rfl, fun _ _ _ _ _ => trivial⟩, fun val h_ W hx he => ⟨trivial, ?_⟩, ?_⟩
  · replace hx := (Upd.drew _ _).trans hx
    replace hq := hq.ext hx
    replace ha := ha.ext hx
    replace hs := hs.ext hx
    replace hB1 := hB1.ext hx
    replace hB2 := hB2.ext hx
    replace hB3 := hB3.ext hx
    replace hB4 := hB4.ext hx
    have hE := Upd.refl (fun _ => False) W
    refine id (X_loadA (p := (ptr b2 (0))) (xs := [(.int .u8 (x.k)), (.int .i64 (x.a)), (.int .i64 (x.b)), x.kv, x.xv]) A43 rfl hB2.atAll rfl ?_)
    exact ⟨hE, rfl⟩
  refine ⟨.det (fun val => (.agg ([(.int .i64 (a.e)), (.bool (a.t)), a.kv, a.xv, (.int .i64 (a.n))]).toArray)), ⟨fun _ _ hv => rfl, fun _ _ _ _ _ => trivial⟩, fun val h_ W hx he => ⟨trivial, ?_⟩, ?_⟩
  · replace hx := (Upd.drew _ _).trans hx
    replace hq := hq.ext hx
    replace ha := ha.ext hx
    replace hs := hs.ext hx
    replace hB1 := hB1.ext hx
    replace hB2 := hB2.ext hx
    replace hB3 := hB3.ext hx
    replace hB4 := hB4.ext hx
    have hE := Upd.refl (fun _ => False) W
    refine id (X_loadA (p := (ptr b3 (0))) (xs := [(.int .i64 (a.e)), (.bool (a.t)), a.kv, a.xv, (.int .i64 (a.n))]) A48 rfl hB3.atAll rfl ?_)
    exact ⟨hE, rfl⟩
  intro val W6 hx6 he6
  replace hx6 := (Upd.drew _ _).trans hx6
  have hz6 := hx6.size
  replace hq := hq.ext hx6
  replace ha := ha.ext hx6
  replace hU := hU.trans (Ext.upd hx6)
  replace hs := hs.ext hx6
  replace hB1 := hB1.ext hx6
  replace hB2 := hB2.ext hx6
  replace hB3 := hB3.ext hx6
  replace hB4 := hB4.ext hx6
  obtain ⟨⟨bm, F, hbm, hM, hF⟩, he6⟩ := he6
  have hcr_ := c_jPut c hc1 b1 x a W6 lo up (by omega) hB1 (by omega) hq ha s hD hs hsm1
  refine L_op rfl (X_cl (g := 69) (cap := []) (vs := [(ptr b1 (0)), (.agg ([(.int .u8 (x.k)), (.int .i64 (x.a)), (.int .i64 (x.b)), x.kv, x.xv]).toArray), (.agg ([(.int .i64 (a.e)), (.bool (a.t)), a.kv, a.xv, (.int .i64 (a.n))]).toArray)]) en69 rfl rfl ?_)
  refine CT.mono hcr_ ?_
  clear hcr_
  rintro _ w7 ⟨rfl, o, u, hB7_, hoR, hok, hov, hu7⟩
  have hz7 := hu7.size
  rw [hr]
  obtain ⟨n9, hn9⟩ : ∃ n, n = W6.heap.size := ⟨_, rfl⟩
  obtain ⟨m9, hm9⟩ : ∃ n, n = w7.heap.size := ⟨_, rfl⟩
  rw [← hn9, ← hm9] at hoR
  replace hq := hq.upd hu7 fun i h1 h2 h => by have h : i = b1 := h; omega
  replace ha := ha.upd hu7 fun i h1 h2 h => by have h : i = b1 := h; omega
  replace hU := hU.trans (hu7.mono fun i _ h => by have h : i = b1 := h; show n0 ≤ i; omega)
  replace hs := hs.upd hu7 fun i h1 h2 h => by have h : i = b1 := h; omega
  replace hB2 := hB2.upd hu7 fun h => by have h : b2 = b1 := h; omega
  replace hB3 := hB3.upd hu7 fun h => by have h : b3 = b1 := h; omega
  replace hB4 := hB4.upd hu7 fun h => by have h : b4 = b1 := h; omega
  replace hB1 := hB7_
  refine L_op rfl (X_assign (v := (.bool (r))) rfl ?_)
  refine L_nil ?_
  refine T_n ?_
  refine W_seq ?_
  refine W_reg ?_
  refine L_op rfl (X_loadA (p := (ptr b1 (0))) (xs := cellsM (drM c o)) A40 rfl hB1.atAll rfl ?_)
  refine L_op rfl (X_move (v := (.bool (r))) rfl ?_)
  refine L_op0 (X_storeW (b := b4) (ys := cellsM (drM c o)) A40 rfl rfl ((OneM.upd (OneM.upd (OneM.upd (OneM.upd (OneM.upd hc1 (v := .int .u32 o.tx) rfl 11) hoR.k.sv.one 12) hoR.v.sv.one 13) (v := .int .u8 o.mr) rfl 14) (v := .int .u8 o.lv) rfl 15)).all rfl hB4 (by rw [List.size_toArray]; exact rfl) ?_)
  intro w8 hu8 hb8
  have hz8 := hu8.size
  replace hq := hq.upd hu8 fun i h1 h2 h => by have h : i = b4 := h; omega
  replace ha := ha.upd hu8 fun i h1 h2 h => by have h : i = b4 := h; omega
  replace hU := hU.trans (hu8.mono fun i _ h => by have h : i = b4 := h; show n0 ≤ i; omega)
  replace hs := hs.upd hu8 fun i h1 h2 h => by have h : i = b4 := h; omega
  replace hB2 := hB2.upd hu8 fun h => by have h : b2 = b4 := h; omega
  replace hB3 := hB3.upd hu8 fun h => by have h : b3 = b4 := h; omega
  replace hB1 := hB1.upd hu8 fun h => by have h : b1 = b4 := h; omega
  replace hoR := hoR.upd hu8 fun i h1 h2 h => by have h : i = b4 := h; omega
  replace hB4 : Blk w8 b4 (cellsM (drM c o)).toArray 40 := hb8
  refine L_op rfl (X_assign (v := (.bool (r))) rfl ?_)
  refine L_nil ?_
  refine T_n ?_
  refine W_ret ?_
  exact BQ_r (End_2 Tryd.results17 (RV_A A40 rfl hB4.atAll rfl) (v2 := .bool r) rfl ⟨o, rfl, hoR.mono (by omega) (by omega), (OneM.upd (OneM.upd (OneM.upd (OneM.upd (OneM.upd hc1 (v := .int .u32 o.tx) rfl 11) hoR.k.sv.one 12) hoR.v.sv.one 13) (v := .int .u8 o.mr) rfl 14) (v := .int .u8 o.lv) rfl 15), hok, hov, hU.own hn0⟩)

theorem c_strictC (c : Nat → Value) (hc1 : OneM c) (wr : Bool) (hwr : c 64 = .bool wr) (h65 : c 65 = .bool false) (x : Opr) (hxk : x.k = 2) (hwf : wr = false) (a : Ans) (w : World) (lo up : Nat) (hup : up ≤ w.heap.size) (hq : x.R w lo up) (ha : a.R w lo up) (hae : a.e = 0) (r : Bool) (hr : (toldD a false [] [] 0) = r)  : CT Tryd.prog 17 #[(.agg (cellsM c).toArray), (.agg #[(.int .u8 (x.k)), (.int .i64 (x.a)), (.int .i64 (x.b)), x.kv, x.xv]), (.agg #[(.int .i64 (a.e)), (.bool (a.t)), a.kv, a.xv, (.int .i64 (a.n))])] w fun v w' => v = .tuple #[.agg (cellsM (begM c)).toArray, .bool r] ∧ OneM (begM c) ∧ Ext w w' := by
  obtain ⟨n0, hn0⟩ : ∃ n, n = w.heap.size := ⟨_, rfl⟩
  have hU : Upd (fun i => n0 ≤ i) w w := Upd.refl _ _
  rw [← hn0] at hup
  refine CT_of Tryd.func17 rfl rfl rfl ?_
  refine W_seq ?_
  refine W_reg ?_
  refine L_op rfl (X_box (v := (.agg (cellsM c).toArray)) (c := ((cellsM c)).toArray) rfl rfl ?_)
  intro b1 w1 hn1
  have hbn1 := hn1.num; have hbs1 := hn1.size
  replace hq := hq.ext hn1.ext
  replace ha := ha.ext hn1.ext
  replace hU := hU.trans (Ext.upd hn1.ext)
  have hB1 := hn1.blk
  refine L_op rfl (X_box (v := (.agg #[(.int .u8 (x.k)), (.int .i64 (x.a)), (.int .i64 (x.b)), x.kv, x.xv])) (c := ([(.int .u8 (x.k)), (.int .i64 (x.a)), (.int .i64 (x.b)), x.kv, x.xv]).toArray) rfl rfl ?_)
  intro b2 w2 hn2
  have hbn2 := hn2.num; have hbs2 := hn2.size
  replace hq := hq.ext hn2.ext
  replace ha := ha.ext hn2.ext
  replace hU := hU.trans (Ext.upd hn2.ext)
  replace hB1 := hB1.ext hn2.ext
  have hB2 := hn2.blk
  refine L_op rfl (X_box (v := (.agg #[(.int .i64 (a.e)), (.bool (a.t)), a.kv, a.xv, (.int .i64 (a.n))])) (c := ([(.int .i64 (a.e)), (.bool (a.t)), a.kv, a.xv, (.int .i64 (a.n))]).toArray) rfl rfl ?_)
  intro b3 w3 hn3
  have hbn3 := hn3.num; have hbs3 := hn3.size
  replace hq := hq.ext hn3.ext
  replace ha := ha.ext hn3.ext
  replace hU := hU.trans (Ext.upd hn3.ext)
  replace hB1 := hB1.ext hn3.ext
  replace hB2 := hB2.ext hn3.ext
  have hB3 := hn3.blk
  refine L_op rfl (X_alloc (z := zv40) (c := zc40.toArray) Zv40 rfl ?_)
  intro b4 w4 hn4
  have hbn4 := hn4.num; have hbs4 := hn4.size
  replace hq := hq.ext hn4.ext
  replace ha := ha.ext hn4.ext
  replace hU := hU.trans (Ext.upd hn4.ext)
  replace hB1 := hB1.ext hn4.ext
  replace hB2 := hB2.ext hn4.ext
  replace hB3 := hB3.ext hn4.ext
  have hB4 := hn4.blk
  refine L_op rfl (X_assign (v := (.bool (false))) rfl ?_)
  refine L_nil ?_
  refine T_n ?_
  refine W_seq ?_
  refine W_seq ?_
  refine W_reg ?_
  refine L_op rfl (X_loadA (p := (ptr b1 (0))) (xs := cellsM c) A40 rfl hB1.atAll rfl ?_)
  refine L_op rfl (X_loadA (p := (ptr b2 (0))) (xs := [(.int .u8 (x.k)), (.int .i64 (x.a)), (.int .i64 (x.b)), x.kv, x.xv]) A43 rfl hB2.atAll rfl ?_)
  have hcr_ := c_refused2 c hc1 wr hwr h65 x hxk w4 lo up (by omega) hq
  refine L_op rfl (X_fn (vs := [(.agg (cellsM c).toArray), (.agg ([(.int .u8 (x.k)), (.int .i64 (x.a)), (.int .i64 (x.b)), x.kv, x.xv]).toArray)]) en24 rfl ?_)
  refine CT.mono hcr_ ?_
  clear hcr_
  rintro _ w5 ⟨rfl, hu5⟩
  have hz5 := hu5.size
  replace hq := hq.ext hu5
  replace ha := ha.ext hu5
  replace hU := hU.trans (Ext.upd hu5)
  replace hB1 := hB1.ext hu5
  replace hB2 := hB2.ext hu5
  replace hB3 := hB3.ext hu5
  replace hB4 := hB4.ext hu5
  rw [show (if wr = true then 250 else 0) = (0 : Int) from by rw [hwf]; rfl]
  refine L_op rfl (X_assign (v := (.int .i64 (0))) rfl ?_)
  refine L_nil ?_
  refine T_n ?_
  refine W_seq ?_
  refine W_reg ?_
  refine L_op rfl (X_move (v := (.int .i64 (0))) rfl ?_)
  refine L_op rfl (X_cmp (k := .i64) (a := 0) (b := 0) (r := false) rfl rfl rfl rfl ?_)
  refine L_nil ?_
  refine T_n ?_
  refine W_cf rfl ?_
  refine W_skip ?_
  refine T_n ?_
  refine W_seq ?_
  refine W_seq ?_
  refine W_reg ?_
  refine L_op rfl (X_fldP (b := b3) (o := 0) (r := 0) Fd48_0 rfl rfl ?_)
  refine L_op rfl (X_load (p := (ptr b3 (0))) (v := (.int .i64 (a.e))) T46 rfl (hB3.at1 rfl) ?_)
  refine L_op rfl (X_cmp (k := .i64) (a := a.e) (b := 0) (r := false) rfl rfl rfl (decide_eq_false (p := ((a.e) : Int) ≠ ((0) : Int)) (by omega)) ?_)
  refine L_nil ?_
  refine T_n ?_
  refine W_cf rfl ?_
  refine W_skip ?_
  refine T_n ?_
  refine W_seq ?_
  refine W_draw 6 [[], [], [1], [0, 1, 2], [], [], [0, 1, 2, 3, 4, 5], [0, 1, 2, 3, 4, 5, 6]] mixed (by kernel_rfl) ?_
  refine ⟨.abs (fun _ x_ W_ => ∃ b F, x_ = .map (some b) ∧ MapAt .u8 W_ b F ∧ judF F), ⟨fun _ _ _ => rfl, fun _ _ _ _ hu h => (by obtain ⟨b, F, h1, h2, h3⟩ := h; exact ⟨b, F, h1, h2.ext hu, h3⟩)⟩, fun val h_ W hx he => ⟨trivial, ?_⟩, ?_⟩
  · replace hx := (Upd.drew _ _).trans hx
    replace hq := hq.ext hx
    replace ha := ha.ext hx
    replace hB1 := hB1.ext hx
    replace hB2 := hB2.ext hx
    replace hB3 := hB3.ext hx
    replace hB4 := hB4.ext hx
    have hE := Upd.refl (fun _ => False) W
    have hcr_ := c_judges W
    refine X_fn (vs := []) en27 rfl ?_
    refine CT.mono hcr_ ?_
    rintro v9 w9 ⟨b, F, rfl, hM, hF, hu9⟩
    exact ⟨hu9, b, F, rfl, hM, hF⟩
  refine ⟨.det (fun val => (ptr b2 (0))), ⟨fun _ _ hv => rfl, fun _ _ _ _ _ => trivial⟩, fun val h_ W hx he => ⟨trivial, ?_⟩, ?_⟩
  · replace hx := (Upd.drew _ _).trans hx
    replace hq := hq.ext hx
    replace ha := ha.ext hx
    replace hB1 := hB1.ext hx
    replace hB2 := hB2.ext hx
    replace hB3 := hB3.ext hx
    replace hB4 := hB4.ext hx
    have hE := Upd.refl (fun _ => False) W
    refine id (X_fldP (b := b2) (o := 0) (r := 0) Fd43_0 rfl rfl ?_)
    exact ⟨hE, rfl⟩
  refine ⟨.det (fun val => (.int .u8 (x.k))), ⟨fun _ _ hv => rfl, fun _ _ _ _ _ => trivial⟩, fun val h_ W hx he => ⟨trivial, ?_⟩, ?_⟩
  · replace hx := (Upd.drew _ _).trans hx
    replace hq := hq.ext hx
    replace ha := ha.ext hx
    replace hB1 := hB1.ext hx
    replace hB2 := hB2.ext hx
    replace hB3 := hB3.ext hx
    replace hB4 := hB4.ext hx
    have hE := Upd.refl (fun _ => False) W
    refine id (X_load (p := (ptr b2 (0))) (v := (.int .u8 (x.k))) T5 rfl (hB2.at1 rfl) ?_)
    exact ⟨hE, rfl⟩
  refine ⟨.det (fun val => Fn 68), ⟨fun _ _ hv => rfl, fun _ _ _ _ _ => trivial⟩, fun val h_ W hx he => ⟨trivial, ?_⟩, ?_⟩
  · replace hx := (Upd.drew _ _).trans hx
    replace hq := hq.ext hx
    replace ha := ha.ext hx
    replace hB1 := hB1.ext hx
    replace hB2 := hB2.ext hx
    replace hB3 := hB3.ext hx
    replace hB4 := hB4.ext hx
    have hE := Upd.refl (fun _ => False) W
    obtain ⟨⟨bm, F, hbm, hM, hF⟩, _⟩ := he
    refine X_lookup (k := x.k) (v := Fn 68) Tryd.underlying66 Tryd.underlying5 hbm rfl hM (by rw [hxk]; exact hF.2.1) ?_
    exact ⟨Upd.refl _ _, rfl⟩
  refine ⟨.det (fun val => (.agg ([(.int .u8 (x.k)), (.int .i64 (x.a)), (.int .i64 (x.b)), x.kv, x.xv]).toArray)), ⟨fun _ _ hv => rfl, fun _ _ _ _ _ => trivial⟩, fun val h_ W hx he => ⟨trivial, ?_⟩, ?_⟩
  · replace hx := (Upd.drew _ _).trans hx
    replace hq := hq.ext hx
    replace ha := ha.ext hx
    replace hB1 := hB1.ext hx
    replace hB2 := hB2.ext hx
    replace hB3 := hB3.ext hx
    replace hB4 := hB4.ext hx
    have hE := Upd.refl (fun _ => False) W
    refine id (X_loadA (p := (ptr b2 (0))) (xs := [(.int .u8 (x.k)), (.int .i64 (x.a)), (.int .i64 (x.b)), x.kv, x.xv]) A43 rfl hB2.atAll rfl ?_)
    exact ⟨hE, rfl⟩
  refine ⟨.det (fun val => (.agg ([(.int .i64 (a.e)), (.bool (a.t)), a.kv, a.xv, (.int .i64 (a.n))]).toArray)), ⟨fun _ _ hv => rfl, fun _ _ _ _ _ => trivial⟩, fun val h_ W hx he => ⟨trivial, ?_⟩, ?_⟩
  · replace hx := (Upd.drew _ _).trans hx
    replace hq := hq.ext hx
    replace ha := ha.ext hx
    replace hB1 := hB1.ext hx
    replace hB2 := hB2.ext hx
    replace hB3 := hB3.ext hx
    replace hB4 := hB4.ext hx
    have hE := Upd.refl (fun _ => False) W
    refine id (X_loadA (p := (ptr b3 (0))) (xs := [(.int .i64 (a.e)), (.bool (a.t)), a.kv, a.xv, (.int .i64 (a.n))]) A48 rfl hB3.atAll rfl ?_)
    exact ⟨hE, rfl⟩
  intro val W6 hx6 he6
  replace hx6 := (Upd.drew _ _).trans hx6
  have hz6 := hx6.size
  replace hq := hq.ext hx6
  replace ha := ha.ext hx6
  replace hU := hU.trans (Ext.upd hx6)
  replace hB1 := hB1.ext hx6
  replace hB2 := hB2.ext hx6
  replace hB3 := hB3.ext hx6
  replace hB4 := hB4.ext hx6
  obtain ⟨⟨bm, F, hbm, hM, hF⟩, he6⟩ := he6
  have hcr_ := c_jBegin c hc1 b1 x a W6 lo up (by omega) hB1 (by omega) hq ha
  refine L_op rfl (X_cl (g := 68) (cap := []) (vs := [(ptr b1 (0)), (.agg ([(.int .u8 (x.k)), (.int .i64 (x.a)), (.int .i64 (x.b)), x.kv, x.xv]).toArray), (.agg ([(.int .i64 (a.e)), (.bool (a.t)), a.kv, a.xv, (.int .i64 (a.n))]).toArray)]) en68 rfl rfl ?_)
  refine CT.mono hcr_ ?_
  clear hcr_
  rintro _ w7 ⟨rfl, hB7_, hu7⟩
  have hz7 := hu7.size
  rw [hr]
  replace hq := hq.upd hu7 fun i h1 h2 h => by have h : i = b1 := h; omega
  replace ha := ha.upd hu7 fun i h1 h2 h => by have h : i = b1 := h; omega
  replace hU := hU.trans (hu7.mono fun i _ h => by have h : i = b1 := h; show n0 ≤ i; omega)
  replace hB2 := hB2.upd hu7 fun h => by have h : b2 = b1 := h; omega
  replace hB3 := hB3.upd hu7 fun h => by have h : b3 = b1 := h; omega
  replace hB4 := hB4.upd hu7 fun h => by have h : b4 = b1 := h; omega
  replace hB1 := hB7_
  refine L_op rfl (X_assign (v := (.bool (r))) rfl ?_)
  refine L_nil ?_
  refine T_n ?_
  refine W_seq ?_
  refine W_reg ?_
  refine L_op rfl (X_loadA (p := (ptr b1 (0))) (xs := cellsM (begM c)) A40 rfl hB1.atAll rfl ?_)
  refine L_op rfl (X_move (v := (.bool (r))) rfl ?_)
  refine L_op0 (X_storeW (b := b4) (ys := cellsM (begM c)) A40 rfl rfl ((OneM.upd (OneM.upd (OneM.upd (OneM.upd (OneM.upd (OneM.upd hc1 (v := .bool true) rfl 64) (hc1 1) 11) (hc1 2) 12) (hc1 3) 13) (hc1 4) 14) (hc1 5) 15)).all rfl hB4 (by rw [List.size_toArray]; exact rfl) ?_)
  intro w8 hu8 hb8
  have hz8 := hu8.size
  replace hq := hq.upd hu8 fun i h1 h2 h => by have h : i = b4 := h; omega
  replace ha := ha.upd hu8 fun i h1 h2 h => by have h : i = b4 := h; omega
  replace hU := hU.trans (hu8.mono fun i _ h => by have h : i = b4 := h; show n0 ≤ i; omega)
  replace hB2 := hB2.upd hu8 fun h => by have h : b2 = b4 := h; omega
  replace hB3 := hB3.upd hu8 fun h => by have h : b3 = b4 := h; omega
  replace hB1 := hB1.upd hu8 fun h => by have h : b1 = b4 := h; omega
  replace hB4 : Blk w8 b4 (cellsM (begM c)).toArray 40 := hb8
  refine L_op rfl (X_assign (v := (.bool (r))) rfl ?_)
  refine L_nil ?_
  refine T_n ?_
  refine W_ret ?_
  exact BQ_r (End_2 Tryd.results17 (RV_A A40 rfl hB4.atAll rfl) (v2 := .bool r) rfl ⟨rfl, (OneM.upd (OneM.upd (OneM.upd (OneM.upd (OneM.upd (OneM.upd hc1 (v := .bool true) rfl 64) (hc1 1) 11) (hc1 2) 12) (hc1 3) 13) (hc1 4) 14) (hc1 5) 15), hU.own hn0⟩)

theorem c_strictD (c : Nat → Value) (hc1 : OneM c) (wr : Bool) (hwr : c 64 = .bool wr) (h65 : c 65 = .bool false) (x : Opr) (hxk : x.k = 0) (hxa : x.a = 0) (hwt : wr = true) (a : Ans) (w : World) (lo up : Nat) (hup : up ≤ w.heap.size) (hq : x.R w lo up) (ha : a.R w lo up) (s : Sn) (hD : DrA c s) (hs : s.R w lo up) (hae : a.e = 0) (r : Bool) (hr : (toldD a (getO (bl s.ks) (bl s.vs) x.m).isSome [] ((getO (bl s.ks) (bl s.vs) x.m).getD []) 0) = r)  : CT Tryd.prog 17 #[(.agg (cellsM c).toArray), (.agg #[(.int .u8 (x.k)), (.int .i64 (x.a)), (.int .i64 (x.b)), x.kv, x.xv]), (.agg #[(.int .i64 (a.e)), (.bool (a.t)), a.kv, a.xv, (.int .i64 (a.n))])] w fun v w' => v = .tuple #[.agg (cellsM c).toArray, .bool r] ∧ Ext w w' := by
  obtain ⟨n0, hn0⟩ : ∃ n, n = w.heap.size := ⟨_, rfl⟩
  have hU : Upd (fun i => n0 ≤ i) w w := Upd.refl _ _
  rw [← hn0] at hup
  refine CT_of Tryd.func17 rfl rfl rfl ?_
  refine W_seq ?_
  refine W_reg ?_
  refine L_op rfl (X_box (v := (.agg (cellsM c).toArray)) (c := ((cellsM c)).toArray) rfl rfl ?_)
  intro b1 w1 hn1
  have hbn1 := hn1.num; have hbs1 := hn1.size
  replace hq := hq.ext hn1.ext
  replace ha := ha.ext hn1.ext
  replace hU := hU.trans (Ext.upd hn1.ext)
  replace hs := hs.ext hn1.ext
  have hB1 := hn1.blk
  refine L_op rfl (X_box (v := (.agg #[(.int .u8 (x.k)), (.int .i64 (x.a)), (.int .i64 (x.b)), x.kv, x.xv])) (c := ([(.int .u8 (x.k)), (.int .i64 (x.a)), (.int .i64 (x.b)), x.kv, x.xv]).toArray) rfl rfl ?_)
  intro b2 w2 hn2
  have hbn2 := hn2.num; have hbs2 := hn2.size
  replace hq := hq.ext hn2.ext
  replace ha := ha.ext hn2.ext
  replace hU := hU.trans (Ext.upd hn2.ext)
  replace hs := hs.ext hn2.ext
  replace hB1 := hB1.ext hn2.ext
  have hB2 := hn2.blk
  refine L_op rfl (X_box (v := (.agg #[(.int .i64 (a.e)), (.bool (a.t)), a.kv, a.xv, (.int .i64 (a.n))])) (c := ([(.int .i64 (a.e)), (.bool (a.t)), a.kv, a.xv, (.int .i64 (a.n))]).toArray) rfl rfl ?_)
  intro b3 w3 hn3
  have hbn3 := hn3.num; have hbs3 := hn3.size
  replace hq := hq.ext hn3.ext
  replace ha := ha.ext hn3.ext
  replace hU := hU.trans (Ext.upd hn3.ext)
  replace hs := hs.ext hn3.ext
  replace hB1 := hB1.ext hn3.ext
  replace hB2 := hB2.ext hn3.ext
  have hB3 := hn3.blk
  refine L_op rfl (X_alloc (z := zv40) (c := zc40.toArray) Zv40 rfl ?_)
  intro b4 w4 hn4
  have hbn4 := hn4.num; have hbs4 := hn4.size
  replace hq := hq.ext hn4.ext
  replace ha := ha.ext hn4.ext
  replace hU := hU.trans (Ext.upd hn4.ext)
  replace hs := hs.ext hn4.ext
  replace hB1 := hB1.ext hn4.ext
  replace hB2 := hB2.ext hn4.ext
  replace hB3 := hB3.ext hn4.ext
  have hB4 := hn4.blk
  refine L_op rfl (X_assign (v := (.bool (false))) rfl ?_)
  refine L_nil ?_
  refine T_n ?_
  refine W_seq ?_
  refine W_seq ?_
  refine W_reg ?_
  refine L_op rfl (X_loadA (p := (ptr b1 (0))) (xs := cellsM c) A40 rfl hB1.atAll rfl ?_)
  refine L_op rfl (X_loadA (p := (ptr b2 (0))) (xs := [(.int .u8 (x.k)), (.int .i64 (x.a)), (.int .i64 (x.b)), x.kv, x.xv]) A43 rfl hB2.atAll rfl ?_)
  have hcr_ := c_refused0 c hc1 wr hwr h65 x hxk hxa w4 lo up (by omega) hq
  refine L_op rfl (X_fn (vs := [(.agg (cellsM c).toArray), (.agg ([(.int .u8 (x.k)), (.int .i64 (x.a)), (.int .i64 (x.b)), x.kv, x.xv]).toArray)]) en24 rfl ?_)
  refine CT.mono hcr_ ?_
  clear hcr_
  rintro _ w5 ⟨rfl, hu5⟩
  have hz5 := hu5.size
  replace hq := hq.ext hu5
  replace ha := ha.ext hu5
  replace hU := hU.trans (Ext.upd hu5)
  replace hs := hs.ext hu5
  replace hB1 := hB1.ext hu5
  replace hB2 := hB2.ext hu5
  replace hB3 := hB3.ext hu5
  replace hB4 := hB4.ext hu5
  refine L_op rfl (X_assign (v := (.int .i64 (0))) rfl ?_)
  refine L_nil ?_
  refine T_n ?_
  refine W_seq ?_
  refine W_reg ?_
  refine L_op rfl (X_move (v := (.int .i64 (0))) rfl ?_)
  refine L_op rfl (X_cmp (k := .i64) (a := 0) (b := 0) (r := false) rfl rfl rfl rfl ?_)
  refine L_nil ?_
  refine T_n ?_
  refine W_cf rfl ?_
  refine W_skip ?_
  refine T_n ?_
  refine W_seq ?_
  refine W_seq ?_
  refine W_reg ?_
  refine L_op rfl (X_fldP (b := b3) (o := 0) (r := 0) Fd48_0 rfl rfl ?_)
  refine L_op rfl (X_load (p := (ptr b3 (0))) (v := (.int .i64 (a.e))) T46 rfl (hB3.at1 rfl) ?_)
  refine L_op rfl (X_cmp (k := .i64) (a := a.e) (b := 0) (r := false) rfl rfl rfl (decide_eq_false (p := ((a.e) : Int) ≠ ((0) : Int)) (by omega)) ?_)
  refine L_nil ?_
  refine T_n ?_
  refine W_cf rfl ?_
  refine W_skip ?_
  refine T_n ?_
  refine W_seq ?_
  refine W_draw 6 [[], [], [1], [0, 1, 2], [], [], [0, 1, 2, 3, 4, 5], [0, 1, 2, 3, 4, 5, 6]] mixed (by kernel_rfl) ?_
  refine ⟨.abs (fun _ x_ W_ => ∃ b F, x_ = .map (some b) ∧ MapAt .u8 W_ b F ∧ judF F), ⟨fun _ _ _ => rfl, fun _ _ _ _ hu h => (by obtain ⟨b, F, h1, h2, h3⟩ := h; exact ⟨b, F, h1, h2.ext hu, h3⟩)⟩, fun val h_ W hx he => ⟨trivial, ?_⟩, ?_⟩
  · replace hx := (Upd.drew _ _).trans hx
    replace hq := hq.ext hx
    replace ha := ha.ext hx
    replace hs := hs.ext hx
    replace hB1 := hB1.ext hx
    replace hB2 := hB2.ext hx
    replace hB3 := hB3.ext hx
    replace hB4 := hB4.ext hx
    have hE := Upd.refl (fun _ => False) W
    have hcr_ := c_judges W
    refine X_fn (vs := []) en27 rfl ?_
    refine CT.mono hcr_ ?_
    rintro v9 w9 ⟨b, F, rfl, hM, hF, hu9⟩
    exact ⟨hu9, b, F, rfl, hM, hF⟩
  refine ⟨.det (fun val => (ptr b2 (0))), ⟨fun _ _ hv => rfl, fun _ _ _ _ _ => trivial⟩, fun val h_ W hx he => ⟨trivial, ?_⟩, ?_⟩
  · replace hx := (Upd.drew _ _).trans hx
    replace hq := hq.ext hx
    replace ha := ha.ext hx
    replace hs := hs.ext hx
    replace hB1 := hB1.ext hx
    replace hB2 := hB2.ext hx
    replace hB3 := hB3.ext hx
    replace hB4 := hB4.ext hx
    have hE := Upd.refl (fun _ => False) W
    refine id (X_fldP (b := b2) (o := 0) (r := 0) Fd43_0 rfl rfl ?_)
    exact ⟨hE, rfl⟩
  refine ⟨.det (fun val => (.int .u8 (x.k))), ⟨fun _ _ hv => rfl, fun _ _ _ _ _ => trivial⟩, fun val h_ W hx he => ⟨trivial, ?_⟩, ?_⟩
  · replace hx := (Upd.drew _ _).trans hx
    replace hq := hq.ext hx
    replace ha := ha.ext hx
    replace hs := hs.ext hx
    replace hB1 := hB1.ext hx
    replace hB2 := hB2.ext hx
    replace hB3 := hB3.ext hx
    replace hB4 := hB4.ext hx
    have hE := Upd.refl (fun _ => False) W
    refine id (X_load (p := (ptr b2 (0))) (v := (.int .u8 (x.k))) T5 rfl (hB2.at1 rfl) ?_)
    exact ⟨hE, rfl⟩
  refine ⟨.det (fun val => Fn 63), ⟨fun _ _ hv => rfl, fun _ _ _ _ _ => trivial⟩, fun val h_ W hx he => ⟨trivial, ?_⟩, ?_⟩
  · replace hx := (Upd.drew _ _).trans hx
    replace hq := hq.ext hx
    replace ha := ha.ext hx
    replace hs := hs.ext hx
    replace hB1 := hB1.ext hx
    replace hB2 := hB2.ext hx
    replace hB3 := hB3.ext hx
    replace hB4 := hB4.ext hx
    have hE := Upd.refl (fun _ => False) W
    obtain ⟨⟨bm, F, hbm, hM, hF⟩, _⟩ := he
    refine X_lookup (k := x.k) (v := Fn 63) Tryd.underlying66 Tryd.underlying5 hbm rfl hM (by rw [hxk]; exact hF.1) ?_
    exact ⟨Upd.refl _ _, rfl⟩
  refine ⟨.det (fun val => (.agg ([(.int .u8 (x.k)), (.int .i64 (x.a)), (.int .i64 (x.b)), x.kv, x.xv]).toArray)), ⟨fun _ _ hv => rfl, fun _ _ _ _ _ => trivial⟩, fun val h_ W hx he => ⟨trivial, ?_⟩, ?_⟩
  · replace hx := (Upd.drew _ _).trans hx
    replace hq := hq.ext hx
    replace ha := ha.ext hx
    replace hs := hs.ext hx
    replace hB1 := hB1.ext hx
    replace hB2 := hB2.ext hx
    replace hB3 := hB3.ext hx
    replace hB4 := hB4.ext hx
    have hE := Upd.refl (fun _ => False) W
    refine id (X_loadA (p := (ptr b2 (0))) (xs := [(.int .u8 (x.k)), (.int .i64 (x.a)), (.int .i64 (x.b)), x.kv, x.xv]) A43 rfl hB2.atAll rfl ?_)
    exact ⟨hE, rfl⟩
  refine ⟨.det (fun val => (.agg ([(.int .i64 (a.e)), (.bool (a.t)), a.kv, a.xv, (.int .i64 (a.n))]).toArray)), ⟨fun _ _ hv => rfl, fun _ _ _ _ _ => trivial⟩, fun val h_ W hx he => ⟨trivial, ?_⟩, ?_⟩
  · replace hx := (Upd.drew _ _).trans hx
    replace hq := hq.ext hx
    replace ha := ha.ext hx
    replace hs := hs.ext hx
    replace hB1 := hB1.ext hx
    replace hB2 := hB2.ext hx
    replace hB3 := hB3.ext hx
    replace hB4 := hB4.ext hx
    have hE := Upd.refl (fun _ => False) W
    refine id (X_loadA (p := (ptr b3 (0))) (xs := [(.int .i64 (a.e)), (.bool (a.t)), a.kv, a.xv, (.int .i64 (a.n))]) A48 rfl hB3.atAll rfl ?_)
    exact ⟨hE, rfl⟩
  intro val W6 hx6 he6
  replace hx6 := (Upd.drew _ _).trans hx6
  have hz6 := hx6.size
  replace hq := hq.ext hx6
  replace ha := ha.ext hx6
  replace hU := hU.trans (Ext.upd hx6)
  replace hs := hs.ext hx6
  replace hB1 := hB1.ext hx6
  replace hB2 := hB2.ext hx6
  replace hB3 := hB3.ext hx6
  replace hB4 := hB4.ext hx6
  obtain ⟨⟨bm, F, hbm, hM, hF⟩, he6⟩ := he6
  have hcr_ := c_jGet c hc1 b1 x hxa a W6 lo up (by omega) hB1 hq ha s (by rw [hwr, hwt]) hD hs
  refine L_op rfl (X_cl (g := 63) (cap := []) (vs := [(ptr b1 (0)), (.agg ([(.int .u8 (x.k)), (.int .i64 (x.a)), (.int .i64 (x.b)), x.kv, x.xv]).toArray), (.agg ([(.int .i64 (a.e)), (.bool (a.t)), a.kv, a.xv, (.int .i64 (a.n))]).toArray)]) en63 rfl rfl ?_)
  refine CT.mono hcr_ ?_
  clear hcr_
  rintro _ w7 ⟨rfl, hu7⟩
  have hz7 := hu7.size
  rw [hr]
  replace hq := hq.ext hu7
  replace ha := ha.ext hu7
  replace hU := hU.trans (Ext.upd hu7)
  replace hs := hs.ext hu7
  replace hB1 := hB1.ext hu7
  replace hB2 := hB2.ext hu7
  replace hB3 := hB3.ext hu7
  replace hB4 := hB4.ext hu7
  refine L_op rfl (X_assign (v := (.bool (r))) rfl ?_)
  refine L_nil ?_
  refine T_n ?_
  refine W_seq ?_
  refine W_reg ?_
  refine L_op rfl (X_loadA (p := (ptr b1 (0))) (xs := cellsM c) A40 rfl hB1.atAll rfl ?_)
  refine L_op rfl (X_move (v := (.bool (r))) rfl ?_)
  refine L_op0 (X_storeW (b := b4) (ys := cellsM c) A40 rfl rfl (hc1).all rfl hB4 (by rw [List.size_toArray]; exact rfl) ?_)
  intro w8 hu8 hb8
  have hz8 := hu8.size
  replace hq := hq.upd hu8 fun i h1 h2 h => by have h : i = b4 := h; omega
  replace ha := ha.upd hu8 fun i h1 h2 h => by have h : i = b4 := h; omega
  replace hU := hU.trans (hu8.mono fun i _ h => by have h : i = b4 := h; show n0 ≤ i; omega)
  replace hs := hs.upd hu8 fun i h1 h2 h => by have h : i = b4 := h; omega
  replace hB1 := hB1.upd hu8 fun h => by have h : b1 = b4 := h; omega
  replace hB2 := hB2.upd hu8 fun h => by have h : b2 = b4 := h; omega
  replace hB3 := hB3.upd hu8 fun h => by have h : b3 = b4 := h; omega
  replace hB4 : Blk w8 b4 (cellsM c).toArray 40 := hb8
  refine L_op rfl (X_assign (v := (.bool (r))) rfl ?_)
  refine L_nil ?_
  refine T_n ?_
  refine W_ret ?_
  exact BQ_r (End_2 Tryd.results17 (RV_A A40 rfl hB4.atAll rfl) (v2 := .bool r) rfl ⟨rfl, hU.own hn0⟩)
end Go.Proofs.YthncpmablodbjaaDoor
