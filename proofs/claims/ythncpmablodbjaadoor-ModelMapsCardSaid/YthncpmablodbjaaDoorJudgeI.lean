/-
  The model: Judge. (Printed by wip/gen/t31o.py of this repo.)
-/
import Derived.Test.YthncpmablodbjaaDoorJudgeH
import Derived.Test.YthncpmablodbjaaDoorBaseCV
namespace Go.Proofs.YthncpmablodbjaaDoor
open Go Go.SL Go.Proofs
set_option linter.unusedVariables false

/-- a model that nothing befell -/
structure Cl (c : Nat → Value) : Prop where
  h65 : c 65 = .bool false
  h67 : c 67 = .bool false
  h68 : c 68 = .bool false
  h69 : c 69 = .bool false
  h70 : c 70 = .bool false
theorem snil : SV (.slice none 0 0) 0 := ⟨none, 0, rfl, Nat.le_refl _, Nat.zero_le _, fun h => absurd h (Nat.lt_irrefl _)⟩

theorem c_clip (w : World) : CT Tryd.prog 20 #[(.slice none 0 0)] w fun v w' => v = .slice none 0 0 ∧ Ext w w' := by
  obtain ⟨n0, hn0⟩ : ∃ n, n = w.heap.size := ⟨_, rfl⟩
  have hU : Upd (fun i => n0 ≤ i) w w := Upd.refl _ _
  refine CT_of Tryd.func20 rfl rfl rfl ?_
  refine W_seq ?_
  refine W_reg ?_
  refine L_op rfl (X_assign (v := (.slice none 0 0)) rfl ?_)
  refine L_nil ?_
  refine T_n ?_
  refine W_seq ?_
  refine W_reg ?_
  refine L_op rfl (X_move (v := (.slice none 0 0)) rfl ?_)
  refine L_op rfl (X_move (v := (.slice none 0 0)) rfl ?_)
  refine L_op rfl (X_len (v := (.slice none 0 0)) (n := 0) Tryd.underlying22 rfl snil ?_)
  refine L_op rfl (X_move (v := (.slice none 0 0)) rfl ?_)
  refine L_op rfl (X_len (v := (.slice none 0 0)) (n := 0) Tryd.underlying22 rfl snil ?_)
  refine L_op rfl (X_slice3 (n := 0) (h' := 0) (m := 0) (kh := .i64) (km := .i64) S22 rfl snil rfl rfl (Nat.le_refl _) (Nat.le_refl _) ?_)
  refine L_op rfl (X_assign (v := (headv (.slice none 0 0) 0 0)) rfl ?_)
  refine L_nil ?_
  refine T_n ?_
  refine W_ret ?_
  exact BQ_r (End_1 Tryd.results20 (v := headv (.slice none 0 0) 0 0) rfl ⟨rfl, hU.own hn0⟩)

theorem c_judgeA (c : Nat → Value) (hc1 : OneM c) (hcl : Cl c) (wr : Bool) (hwr : c 64 = .bool wr) (h73 : c 73 = .slice none 0 0) (h74 : c 74 = .slice none 0 0) (x : Opr) (a : Ans) (w : World) (lo up : Nat) (hup : up ≤ w.heap.size) (hq : x.R w lo up) (ha : a.R w lo up) (hxk : x.k = 3) (r : Bool) (hwf : wr = false) (hpu : putsD x = true) (hr : (decide (a.e = 2) && bareD a) = r) : CT Tryd.prog 10 #[(.agg (cellsM c).toArray), (.agg #[(.int .u8 (x.k)), (.int .i64 (x.a)), (.int .i64 (x.b)), x.kv, x.xv]), (.agg #[(.int .i64 (a.e)), (.bool (a.t)), a.kv, a.xv, (.int .i64 (a.n))])] w fun v w' => ∃ c', v = .tuple #[.agg (cellsM c').toArray, .bool r] ∧ OneM c' ∧ Ext w w' := by
  obtain ⟨n0, hn0⟩ : ∃ n, n = w.heap.size := ⟨_, rfl⟩
  have hU : Upd (fun i => n0 ≤ i) w w := Upd.refl _ _
  rw [← hn0] at hup
  refine CT_of Tryd.func10 rfl rfl rfl ?_
  refine W_seq ?_
  refine W_reg ?_
  refine L_op rfl (X_box (v := (.agg (cellsM c).toArray)) (c := ((cellsM c)).toArray) rfl rfl ?_)
  intro b1 w1 hn1
  have hbn1 := hn1.num; have hbs1 := hn1.size
  replace hq := hq.ext hn1.ext
  replace ha := ha.ext hn1.ext
  replace hU := hU.trans (Ext.upd hn1.ext)
  have hB1 := hn1.blk
  refine L_op rfl (X_box (v := (.agg #[(.int .u8 (x.k)), (.int .i64 (x.a)), (.int .i64 (x.b)), x.kv, x.xv])) (c := ([(.int .u8 (x.k)), (.int .i64 (x.a)), (.int .i64 (x.b)), x.kv, x.xv]).toArray) rfl rfl ?_)
  intro b2 w2 hn2
  have hbn2 := hn2.num; have hbs2 := hn2.size
  replace hq := hq.ext hn2.ext
  replace ha := ha.ext hn2.ext
  replace hU := hU.trans (Ext.upd hn2.ext)
  replace hB1 := hB1.ext hn2.ext
  have hB2 := hn2.blk
  refine L_op rfl (X_box (v := (.agg #[(.int .i64 (a.e)), (.bool (a.t)), a.kv, a.xv, (.int .i64 (a.n))])) (c := ([(.int .i64 (a.e)), (.bool (a.t)), a.kv, a.xv, (.int .i64 (a.n))]).toArray) rfl rfl ?_)
  intro b3 w3 hn3
  have hbn3 := hn3.num; have hbs3 := hn3.size
  replace hq := hq.ext hn3.ext
  replace ha := ha.ext hn3.ext
  replace hU := hU.trans (Ext.upd hn3.ext)
  replace hB1 := hB1.ext hn3.ext
  replace hB2 := hB2.ext hn3.ext
  have hB3 := hn3.blk
  refine L_op rfl (X_alloc (z := zv40) (c := zc40.toArray) Zv40 rfl ?_)
  intro b4 w4 hn4
  have hbn4 := hn4.num; have hbs4 := hn4.size
  replace hq := hq.ext hn4.ext
  replace ha := ha.ext hn4.ext
  replace hU := hU.trans (Ext.upd hn4.ext)
  replace hB1 := hB1.ext hn4.ext
  replace hB2 := hB2.ext hn4.ext
  replace hB3 := hB3.ext hn4.ext
  have hB4 := hn4.blk
  refine L_op rfl (X_assign (v := (.bool (false))) rfl ?_)
  refine L_nil ?_
  refine T_n ?_
  refine W_seq ?_
  refine W_reg ?_
  refine L_op rfl (X_loadA (p := (ptr b1 (0))) (xs := cellsM c) A40 rfl hB1.atAll rfl ?_)
  refine L_op rfl (X_alloc (z := zv40) (c := zc40.toArray) Zv40 rfl ?_)
  intro b5 w5 hn5
  have hbn5 := hn5.num; have hbs5 := hn5.size
  replace hq := hq.ext hn5.ext
  replace ha := ha.ext hn5.ext
  replace hU := hU.trans (Ext.upd hn5.ext)
  replace hB1 := hB1.ext hn5.ext
  replace hB2 := hB2.ext hn5.ext
  replace hB3 := hB3.ext hn5.ext
  replace hB4 := hB4.ext hn5.ext
  have hB5 := hn5.blk
  refine L_op0 (X_storeW (b := b5) (ys := cellsM c) A40 rfl rfl (hc1).all rfl hB5 (by rw [List.size_toArray]; exact rfl) ?_)
  intro w6 hu6 hb6
  have hz6 := hu6.size
  replace hq := hq.upd hu6 fun i h1 h2 h => by have h : i = b5 := h; omega
  replace ha := ha.upd hu6 fun i h1 h2 h => by have h : i = b5 := h; omega
  replace hU := hU.trans (hu6.mono fun i _ h => by have h : i = b5 := h; show n0 ≤ i; omega)
  replace hB1 := hB1.upd hu6 fun h => by have h : b1 = b5 := h; omega
  replace hB2 := hB2.upd hu6 fun h => by have h : b2 = b5 := h; omega
  replace hB3 := hB3.upd hu6 fun h => by have h : b3 = b5 := h; omega
  replace hB4 := hB4.upd hu6 fun h => by have h : b4 = b5 := h; omega
  replace hB5 : Blk w6 b5 (cellsM c).toArray 40 := hb6
  refine L_op rfl (X_assign (v := (.bool (false))) rfl ?_)
  refine L_nil ?_
  refine T_n ?_
  refine W_seq ?_
  refine W_seq ?_
  refine W_reg ?_
  refine L_op rfl (X_loadA (p := (ptr b1 (0))) (xs := cellsM c) A40 rfl hB1.atAll rfl ?_)
  have hcr_ := c_strictM c hc1 hcl.h67 hcl.h68 false false hcl.h69 hcl.h70 w6 lo up (by omega)
  refine L_op rfl (X_fn (vs := [(.agg (cellsM c).toArray)]) en11 rfl ?_)
  refine CT.mono hcr_ ?_
  clear hcr_
  rintro _ w7 ⟨rfl, hu7⟩
  have hz7 := hu7.size
  replace hq := hq.ext hu7
  replace ha := ha.ext hu7
  replace hU := hU.trans (Ext.upd hu7)
  replace hB1 := hB1.ext hu7
  replace hB2 := hB2.ext hu7
  replace hB3 := hB3.ext hu7
  replace hB4 := hB4.ext hu7
  replace hB5 := hB5.ext hu7
  refine L_nil ?_
  refine T_n ?_
  refine W_ct rfl ?_
  refine W_reg ?_
  refine L_op rfl (X_loadA (p := (ptr b1 (0))) (xs := cellsM c) A40 rfl hB1.atAll rfl ?_)
  refine L_op rfl (X_loadA (p := (ptr b2 (0))) (xs := [(.int .u8 (x.k)), (.int .i64 (x.a)), (.int .i64 (x.b)), x.kv, x.xv]) A43 rfl hB2.atAll rfl ?_)
  refine L_op rfl (X_loadA (p := (ptr b3 (0))) (xs := [(.int .i64 (a.e)), (.bool (a.t)), a.kv, a.xv, (.int .i64 (a.n))]) A48 rfl hB3.atAll rfl ?_)
  have hcr_ := c_strictA c hc1 wr hwr hwf hcl.h65 x hxk a w7 lo up (by omega) hq ha
  refine L_op rfl (X_fn (vs := [(.agg (cellsM c).toArray), (.agg ([(.int .u8 (x.k)), (.int .i64 (x.a)), (.int .i64 (x.b)), x.kv, x.xv]).toArray), (.agg ([(.int .i64 (a.e)), (.bool (a.t)), a.kv, a.xv, (.int .i64 (a.n))]).toArray)]) en17 rfl ?_)
  refine CT.mono hcr_ ?_
  clear hcr_
  rintro _ w8 ⟨rfl, hu8⟩
  have hz8 := hu8.size
  rw [hr]
  replace hq := hq.ext hu8
  replace ha := ha.ext hu8
  replace hU := hU.trans (Ext.upd hu8)
  replace hB1 := hB1.ext hu8
  replace hB2 := hB2.ext hu8
  replace hB3 := hB3.ext hu8
  replace hB4 := hB4.ext hu8
  replace hB5 := hB5.ext hu8
  refine L_op rfl (X_move (v := (.tuple #[(.agg (cellsM c).toArray), (.bool (r))])) rfl ?_)
  refine L_op rfl (X_extract (l := [(.agg (cellsM c).toArray), (.bool (r))]) (v := (.agg (cellsM c).toArray)) rfl rfl ?_)
  refine L_op rfl (X_extract (l := [(.agg (cellsM c).toArray), (.bool (r))]) (v := (.bool (r))) rfl rfl ?_)
  refine L_op0 (X_storeW (b := b5) (ys := cellsM c) A40 rfl rfl (hc1).all rfl hB5 (by rw [List.size_toArray]; exact rfl) ?_)
  intro w9 hu9 hb9
  have hz9 := hu9.size
  replace hq := hq.upd hu9 fun i h1 h2 h => by have h : i = b5 := h; omega
  replace ha := ha.upd hu9 fun i h1 h2 h => by have h : i = b5 := h; omega
  replace hU := hU.trans (hu9.mono fun i _ h => by have h : i = b5 := h; show n0 ≤ i; omega)
  replace hB1 := hB1.upd hu9 fun h => by have h : b1 = b5 := h; omega
  replace hB2 := hB2.upd hu9 fun h => by have h : b2 = b5 := h; omega
  replace hB3 := hB3.upd hu9 fun h => by have h : b3 = b5 := h; omega
  replace hB4 := hB4.upd hu9 fun h => by have h : b4 = b5 := h; omega
  replace hB5 : Blk w9 b5 (cellsM c).toArray 40 := hb9
  refine L_op rfl (X_assign (v := (.bool (r))) rfl ?_)
  refine L_nil ?_
  refine T_n ?_
  refine W_seq ?_
  refine W_seq ?_
  refine W_reg ?_
  rcases Bool.eq_false_or_eq_true (r) with hb10 | hb10
  · rw [hb10]
    refine L_op rfl (X_move (v := (.bool (true))) rfl ?_)
    refine L_op rfl (X_not (b := true) (r := false) rfl rfl ?_)
    refine L_nil ?_
    refine T_n ?_
    refine W_cf rfl ?_
    refine W_skip ?_
    refine T_n ?_
    refine W_seq ?_
    refine W_seq ?_
    refine W_reg ?_
    refine L_op rfl (X_fldP (b := b2) (o := 0) (r := 0) Fd43_0 rfl rfl ?_)
    refine L_op rfl (X_load (p := (ptr b2 (0))) (v := (.int .u8 (x.k))) T5 rfl (hB2.at1 rfl) ?_)
    refine L_op rfl (X_cmp (k := .u8) (a := x.k) (b := 3) (r := true) rfl rfl rfl (decide_eq_true (p := ((x.k) : Int) = ((3) : Int)) (by omega)) ?_)
    refine L_op rfl (X_move (v := (.bool (true))) rfl ?_)
    refine L_gy (dj := 30) rfl rfl rfl (X_loadA (p := (ptr b2 (0))) (xs := [(.int .u8 (x.k)), (.int .i64 (x.a)), (.int .i64 (x.b)), x.kv, x.xv]) A43 rfl hB2.atAll rfl ?_)
    have hcr_ := c_puts x w9 lo up (by omega) hq
    refine L_gy (dj := 30) rfl rfl rfl (X_fn (vs := [(.agg ([(.int .u8 (x.k)), (.int .i64 (x.a)), (.int .i64 (x.b)), x.kv, x.xv]).toArray)]) en19 rfl ?_)
    refine CT.mono hcr_ ?_
    clear hcr_
    rintro _ w11 ⟨rfl, hu11⟩
    have hz11 := hu11.size
    replace hq := hq.ext hu11
    replace ha := ha.ext hu11
    replace hU := hU.trans (Ext.upd hu11)
    replace hB1 := hB1.ext hu11
    replace hB2 := hB2.ext hu11
    replace hB3 := hB3.ext hu11
    replace hB4 := hB4.ext hu11
    replace hB5 := hB5.ext hu11
    rw [hpu]
    refine L_op rfl (X_pick (t := true) (v := (.bool (true))) rfl rfl ?_)
    refine L_nil ?_
    refine T_n ?_
    refine W_ct rfl ?_
    refine W_seq ?_
    refine W_draw 6 [[], [0], [0, 1], [0, 1, 2], [], [4], [0, 1, 2, 3, 4, 5], [0, 1, 2, 3, 4, 5, 6], [0, 1, 2, 3, 4, 5, 6, 7], [0, 1, 2, 3, 4, 5, 6, 7, 8], [0, 1, 2, 3, 4, 5, 6, 7, 8, 9], [0, 1, 2, 3, 4, 5, 6, 7, 8, 9, 10]] mixed (by kernel_rfl) ?_
    refine ⟨.det (fun val => (ptr b5 (72))), ⟨fun _ _ hv => rfl, fun _ _ _ _ _ => trivial⟩, fun val h_ W hx he => ⟨trivial, ?_⟩, ?_⟩
    · replace hx := (Upd.drew _ _).trans hx
      replace hq := hq.ext hx
      replace ha := ha.ext hx
      replace hB1 := hB1.ext hx
      replace hB2 := hB2.ext hx
      replace hB3 := hB3.ext hx
      replace hB4 := hB4.ext hx
      replace hB5 := hB5.ext hx
      have hE := Upd.refl (fun _ => False) W
      refine id (X_fldP (b := b5) (o := 0) (r := 72) Fd40_12 rfl rfl ?_)
      exact ⟨hE, rfl⟩
    refine ⟨.det (fun val => (ptr b5 (73))), ⟨fun _ _ hv => rfl, fun _ _ _ _ _ => trivial⟩, fun val h_ W hx he => ⟨trivial, ?_⟩, ?_⟩
    · replace hx := (Upd.drew _ _).trans hx
      replace hq := hq.ext hx
      replace ha := ha.ext hx
      replace hB1 := hB1.ext hx
      replace hB2 := hB2.ext hx
      replace hB3 := hB3.ext hx
      replace hB4 := hB4.ext hx
      replace hB5 := hB5.ext hx
      have hE := Upd.refl (fun _ => False) W
      refine id (X_fldP (b := b5) (o := 72) (r := 73) Fd27_1 rfl rfl ?_)
      exact ⟨hE, rfl⟩
    refine ⟨.det (fun val => (.slice none 0 0)), ⟨fun _ _ hv => rfl, fun _ _ _ _ _ => trivial⟩, fun val h_ W hx he => ⟨trivial, ?_⟩, ?_⟩
    · replace hx := (Upd.drew _ _).trans hx
      replace hq := hq.ext hx
      replace ha := ha.ext hx
      replace hB1 := hB1.ext hx
      replace hB2 := hB2.ext hx
      replace hB3 := hB3.ext hx
      replace hB4 := hB4.ext hx
      replace hB5 := hB5.ext hx
      have hE := Upd.refl (fun _ => False) W
      refine id (X_load (p := (ptr b5 (73))) (v := (.slice none 0 0)) T22 rfl (hB5.at1 (congrArg some h73)) ?_)
      exact ⟨hE, rfl⟩
    refine ⟨.det (fun val => .slice none 0 0), ⟨fun _ _ hv => rfl, fun _ _ _ _ _ => trivial⟩, fun val h_ W hx he => ⟨trivial, ?_⟩, ?_⟩
    · replace hx := (Upd.drew _ _).trans hx
      replace hq := hq.ext hx
      replace ha := ha.ext hx
      replace hB1 := hB1.ext hx
      replace hB2 := hB2.ext hx
      replace hB3 := hB3.ext hx
      replace hB4 := hB4.ext hx
      replace hB5 := hB5.ext hx
      have hE := Upd.refl (fun _ => False) W
      have hcr_ := c_clip W
      refine X_fn (vs := [.slice none 0 0]) en20 rfl ?_
      refine CT.mono hcr_ ?_
      rintro _ w9 ⟨rfl, hu9⟩
      exact ⟨hu9, rfl⟩
    refine ⟨.det (fun val => (ptr b2 (3))), ⟨fun _ _ hv => rfl, fun _ _ _ _ _ => trivial⟩, fun val h_ W hx he => ⟨trivial, ?_⟩, ?_⟩
    · replace hx := (Upd.drew _ _).trans hx
      replace hq := hq.ext hx
      replace ha := ha.ext hx
      replace hB1 := hB1.ext hx
      replace hB2 := hB2.ext hx
      replace hB3 := hB3.ext hx
      replace hB4 := hB4.ext hx
      replace hB5 := hB5.ext hx
      have hE := Upd.refl (fun _ => False) W
      refine id (X_fldP (b := b2) (o := 0) (r := 3) Fd43_3 rfl rfl ?_)
      exact ⟨hE, rfl⟩
    refine ⟨.det (fun val => x.kv), ⟨fun _ _ hv => rfl, fun _ _ _ _ _ => trivial⟩, fun val h_ W hx he => ⟨trivial, ?_⟩, ?_⟩
    · replace hx := (Upd.drew _ _).trans hx
      replace hq := hq.ext hx
      replace ha := ha.ext hx
      replace hB1 := hB1.ext hx
      replace hB2 := hB2.ext hx
      replace hB3 := hB3.ext hx
      replace hB4 := hB4.ext hx
      replace hB5 := hB5.ext hx
      have hE := Upd.refl (fun _ => False) W
      refine id (X_load (p := (ptr b2 (3))) (v := x.kv) T23 rfl (hB2.at1 rfl) ?_)
      exact ⟨hE, rfl⟩
    intro val W12 hx12 he12
    replace hx12 := (Upd.drew _ _).trans hx12
    have hz12 := hx12.size
    replace hq := hq.ext hx12
    replace ha := ha.ext hx12
    replace hU := hU.trans (Ext.upd hx12)
    replace hB1 := hB1.ext hx12
    replace hB2 := hB2.ext hx12
    replace hB3 := hB3.ext hx12
    replace hB4 := hB4.ext hx12
    replace hB5 := hB5.ext hx12
    have hcr_ := c_copied x.kv x.m W12 hq.lk hq.k.1
    refine L_op rfl (X_fn (vs := [x.kv]) en16 rfl ?_)
    refine CT.mono hcr_ ?_
    clear hcr_
    rintro y13 w13 ⟨hO13, hu13⟩
    have hz13 := hu13.size
    replace hq := hq.ext hu13
    replace ha := ha.ext hu13
    replace hU := hU.trans (Ext.upd hu13)
    replace hB1 := hB1.ext hu13
    replace hB2 := hB2.ext hu13
    replace hB3 := hB3.ext hu13
    replace hB4 := hB4.ext hu13
    replace hB5 := hB5.ext hu13
    refine L_op rfl (X_buildSlice1 (vs := [y13]) S22 (by decide) rfl rfl (List.forall_mem_cons.2 ⟨(hO13.1.sv.cells), (fun _ h => by cases h)⟩) ?_)
    intro b14 w14 hn14
    have hbn14 := hn14.num; have hbs14 := hn14.size
    replace hq := hq.ext hn14.ext
    replace ha := ha.ext hn14.ext
    replace hU := hU.trans (Ext.upd hn14.ext)
    replace hB1 := hB1.ext hn14.ext
    replace hB2 := hB2.ext hn14.ext
    replace hB3 := hB3.ext hn14.ext
    replace hB4 := hB4.ext hn14.ext
    replace hB5 := hB5.ext hn14.ext
    have hB14 := hn14.blk
    refine L_op rfl (X_append (B := n0) (n := 0) (s := .slice none 0 0) (x := (.slice (some ⟨b14, 0, none⟩) 1 1)) S22 ⟨_, Tryd.underlying22⟩ rfl rfl (Own.nil _ _ _ _) (m := 1) (ys := [y13]) (hB14.rd (o := 0) (n := 1) (c := 1) (sz := 1) (by decide) (by decide) rfl (fun j u hj => by rw [Nat.zero_add]; simpa using hj)) (List.forall_mem_cons.2 ⟨hO13.1.sv.one, fun _ h => by cases h⟩) (by decide) (by decide) (by omega) ?_)
    intro v15 w15 hA15 hu15 _
    have hz15 := hu15.size
    replace hq := hq.ext hu15.nobk
    replace ha := ha.ext hu15.nobk
    replace hU := hU.trans (Ext.upd hu15.nobk)
    replace hB1 := hB1.ext hu15.nobk
    replace hB2 := hB2.ext hu15.nobk
    replace hB3 := hB3.ext hu15.nobk
    replace hB4 := hB4.ext hu15.nobk
    replace hB5 := hB5.ext hu15.nobk
    replace hB14 := hB14.ext hu15.nobk
    refine L_op rfl (X_fldP (b := b5) (o := 0) (r := 72) Fd40_12 rfl rfl ?_)
    refine L_op rfl (X_fldP (b := b5) (o := 72) (r := 73) Fd27_1 rfl rfl ?_)
    refine L_op0 (X_store (b := b5) (o := 73) T22 rfl rfl (hA15.sv.one) hB5 (by show (73 : Nat) < 77; decide) ?_)
    intro w16 hu16 hb16
    have hz16 := hu16.size
    replace hq := hq.upd hu16 fun i h1 h2 h => by have h : i = b5 := h; omega
    replace ha := ha.upd hu16 fun i h1 h2 h => by have h : i = b5 := h; omega
    replace hU := hU.trans (hu16.mono fun i _ h => by have h : i = b5 := h; show n0 ≤ i; omega)
    replace hB1 := hB1.upd hu16 fun h => by have h : b1 = b5 := h; omega
    replace hB2 := hB2.upd hu16 fun h => by have h : b2 = b5 := h; omega
    replace hB3 := hB3.upd hu16 fun h => by have h : b3 = b5 := h; omega
    replace hB4 := hB4.upd hu16 fun h => by have h : b4 = b5 := h; omega
    replace hB14 := hB14.upd hu16 fun h => by have h : b14 = b5 := h; omega
    replace hB5 : Blk w16 b5 (cellsM (updM c 73 v15)).toArray 40 := hb16
    refine L_nil ?_
    refine T_n ?_
    refine W_draw 6 [[], [0], [0, 1], [0, 1, 2], [], [4], [0, 1, 2, 3, 4, 5], [0, 1, 2, 3, 4, 5, 6], [0, 1, 2, 3, 4, 5, 6, 7], [0, 1, 2, 3, 4, 5, 6, 7, 8], [0, 1, 2, 3, 4, 5, 6, 7, 8, 9], [0, 1, 2, 3, 4, 5, 6, 7, 8, 9, 10]] mixed (by kernel_rfl) ?_
    refine ⟨.det (fun val => (ptr b5 (72))), ⟨fun _ _ hv => rfl, fun _ _ _ _ _ => trivial⟩, fun val h_ W hx he => ⟨trivial, ?_⟩, ?_⟩
    · replace hx := (Upd.drew _ _).trans hx
      replace hq := hq.ext hx
      replace ha := ha.ext hx
      replace hB1 := hB1.ext hx
      replace hB2 := hB2.ext hx
      replace hB3 := hB3.ext hx
      replace hB4 := hB4.ext hx
      replace hB14 := hB14.ext hx
      replace hB5 := hB5.ext hx
      have hE := Upd.refl (fun _ => False) W
      refine id (X_fldP (b := b5) (o := 0) (r := 72) Fd40_12 rfl rfl ?_)
      exact ⟨hE, rfl⟩
    refine ⟨.det (fun val => (ptr b5 (74))), ⟨fun _ _ hv => rfl, fun _ _ _ _ _ => trivial⟩, fun val h_ W hx he => ⟨trivial, ?_⟩, ?_⟩
    · replace hx := (Upd.drew _ _).trans hx
      replace hq := hq.ext hx
      replace ha := ha.ext hx
      replace hB1 := hB1.ext hx
      replace hB2 := hB2.ext hx
      replace hB3 := hB3.ext hx
      replace hB4 := hB4.ext hx
      replace hB14 := hB14.ext hx
      replace hB5 := hB5.ext hx
      have hE := Upd.refl (fun _ => False) W
      refine id (X_fldP (b := b5) (o := 72) (r := 74) Fd27_2 rfl rfl ?_)
      exact ⟨hE, rfl⟩
    refine ⟨.det (fun val => (.slice none 0 0)), ⟨fun _ _ hv => rfl, fun _ _ _ _ _ => trivial⟩, fun val h_ W hx he => ⟨trivial, ?_⟩, ?_⟩
    · replace hx := (Upd.drew _ _).trans hx
      replace hq := hq.ext hx
      replace ha := ha.ext hx
      replace hB1 := hB1.ext hx
      replace hB2 := hB2.ext hx
      replace hB3 := hB3.ext hx
      replace hB4 := hB4.ext hx
      replace hB14 := hB14.ext hx
      replace hB5 := hB5.ext hx
      have hE := Upd.refl (fun _ => False) W
      refine id (X_load (p := (ptr b5 (74))) (v := (.slice none 0 0)) T22 rfl (hB5.at1 (congrArg some h74)) ?_)
      exact ⟨hE, rfl⟩
    refine ⟨.det (fun val => .slice none 0 0), ⟨fun _ _ hv => rfl, fun _ _ _ _ _ => trivial⟩, fun val h_ W hx he => ⟨trivial, ?_⟩, ?_⟩
    · replace hx := (Upd.drew _ _).trans hx
      replace hq := hq.ext hx
      replace ha := ha.ext hx
      replace hB1 := hB1.ext hx
      replace hB2 := hB2.ext hx
      replace hB3 := hB3.ext hx
      replace hB4 := hB4.ext hx
      replace hB14 := hB14.ext hx
      replace hB5 := hB5.ext hx
      have hE := Upd.refl (fun _ => False) W
      have hcr_ := c_clip W
      refine X_fn (vs := [.slice none 0 0]) en20 rfl ?_
      refine CT.mono hcr_ ?_
      rintro _ w9 ⟨rfl, hu9⟩
      exact ⟨hu9, rfl⟩
    refine ⟨.det (fun val => (ptr b2 (4))), ⟨fun _ _ hv => rfl, fun _ _ _ _ _ => trivial⟩, fun val h_ W hx he => ⟨trivial, ?_⟩, ?_⟩
    · replace hx := (Upd.drew _ _).trans hx
      replace hq := hq.ext hx
      replace ha := ha.ext hx
      replace hB1 := hB1.ext hx
      replace hB2 := hB2.ext hx
      replace hB3 := hB3.ext hx
      replace hB4 := hB4.ext hx
      replace hB14 := hB14.ext hx
      replace hB5 := hB5.ext hx
      have hE := Upd.refl (fun _ => False) W
      refine id (X_fldP (b := b2) (o := 0) (r := 4) Fd43_4 rfl rfl ?_)
      exact ⟨hE, rfl⟩
    refine ⟨.det (fun val => x.xv), ⟨fun _ _ hv => rfl, fun _ _ _ _ _ => trivial⟩, fun val h_ W hx he => ⟨trivial, ?_⟩, ?_⟩
    · replace hx := (Upd.drew _ _).trans hx
      replace hq := hq.ext hx
      replace ha := ha.ext hx
      replace hB1 := hB1.ext hx
      replace hB2 := hB2.ext hx
      replace hB3 := hB3.ext hx
      replace hB4 := hB4.ext hx
      replace hB14 := hB14.ext hx
      replace hB5 := hB5.ext hx
      have hE := Upd.refl (fun _ => False) W
      refine id (X_load (p := (ptr b2 (4))) (v := x.xv) T23 rfl (hB2.at1 rfl) ?_)
      exact ⟨hE, rfl⟩
    intro val W17 hx17 he17
    replace hx17 := (Upd.drew _ _).trans hx17
    have hz17 := hx17.size
    replace hq := hq.ext hx17
    replace ha := ha.ext hx17
    replace hU := hU.trans (Ext.upd hx17)
    replace hB1 := hB1.ext hx17
    replace hB2 := hB2.ext hx17
    replace hB3 := hB3.ext hx17
    replace hB4 := hB4.ext hx17
    replace hB14 := hB14.ext hx17
    replace hB5 := hB5.ext hx17
    have hcr_ := c_copied x.xv x.x W17 hq.lx hq.x.1
    refine L_op rfl (X_fn (vs := [x.xv]) en16 rfl ?_)
    refine CT.mono hcr_ ?_
    clear hcr_
    rintro y18 w18 ⟨hO18, hu18⟩
    have hz18 := hu18.size
    replace hq := hq.ext hu18
    replace ha := ha.ext hu18
    replace hU := hU.trans (Ext.upd hu18)
    replace hB1 := hB1.ext hu18
    replace hB2 := hB2.ext hu18
    replace hB3 := hB3.ext hu18
    replace hB4 := hB4.ext hu18
    replace hB14 := hB14.ext hu18
    replace hB5 := hB5.ext hu18
    refine L_op rfl (X_buildSlice1 (vs := [y18]) S22 (by decide) rfl rfl (List.forall_mem_cons.2 ⟨(hO18.1.sv.cells), (fun _ h => by cases h)⟩) ?_)
    intro b19 w19 hn19
    have hbn19 := hn19.num; have hbs19 := hn19.size
    replace hq := hq.ext hn19.ext
    replace ha := ha.ext hn19.ext
    replace hU := hU.trans (Ext.upd hn19.ext)
    replace hB1 := hB1.ext hn19.ext
    replace hB2 := hB2.ext hn19.ext
    replace hB3 := hB3.ext hn19.ext
    replace hB4 := hB4.ext hn19.ext
    replace hB14 := hB14.ext hn19.ext
    replace hB5 := hB5.ext hn19.ext
    have hB19 := hn19.blk
    refine L_op rfl (X_append (B := n0) (n := 0) (s := .slice none 0 0) (x := (.slice (some ⟨b19, 0, none⟩) 1 1)) S22 ⟨_, Tryd.underlying22⟩ rfl rfl (Own.nil _ _ _ _) (m := 1) (ys := [y18]) (hB19.rd (o := 0) (n := 1) (c := 1) (sz := 1) (by decide) (by decide) rfl (fun j u hj => by rw [Nat.zero_add]; simpa using hj)) (List.forall_mem_cons.2 ⟨hO18.1.sv.one, fun _ h => by cases h⟩) (by decide) (by decide) (by omega) ?_)
    intro v20 w20 hA20 hu20 _
    have hz20 := hu20.size
    replace hq := hq.ext hu20.nobk
    replace ha := ha.ext hu20.nobk
    replace hU := hU.trans (Ext.upd hu20.nobk)
    replace hB1 := hB1.ext hu20.nobk
    replace hB2 := hB2.ext hu20.nobk
    replace hB3 := hB3.ext hu20.nobk
    replace hB4 := hB4.ext hu20.nobk
    replace hB14 := hB14.ext hu20.nobk
    replace hB5 := hB5.ext hu20.nobk
    replace hB19 := hB19.ext hu20.nobk
    refine L_op rfl (X_fldP (b := b5) (o := 0) (r := 72) Fd40_12 rfl rfl ?_)
    refine L_op rfl (X_fldP (b := b5) (o := 72) (r := 74) Fd27_2 rfl rfl ?_)
    refine L_op0 (X_store (b := b5) (o := 74) T22 rfl rfl (hA20.sv.one) hB5 (by show (74 : Nat) < 77; decide) ?_)
    intro w21 hu21 hb21
    have hz21 := hu21.size
    replace hq := hq.upd hu21 fun i h1 h2 h => by have h : i = b5 := h; omega
    replace ha := ha.upd hu21 fun i h1 h2 h => by have h : i = b5 := h; omega
    replace hU := hU.trans (hu21.mono fun i _ h => by have h : i = b5 := h; show n0 ≤ i; omega)
    replace hB1 := hB1.upd hu21 fun h => by have h : b1 = b5 := h; omega
    replace hB2 := hB2.upd hu21 fun h => by have h : b2 = b5 := h; omega
    replace hB3 := hB3.upd hu21 fun h => by have h : b3 = b5 := h; omega
    replace hB4 := hB4.upd hu21 fun h => by have h : b4 = b5 := h; omega
    replace hB14 := hB14.upd hu21 fun h => by have h : b14 = b5 := h; omega
    replace hB19 := hB19.upd hu21 fun h => by have h : b19 = b5 := h; omega
    replace hB5 : Blk w21 b5 (cellsM (updM (updM c 73 v15) 74 v20)).toArray 40 := hb21
    refine L_nil ?_
    refine T_n ?_
    refine W_seq ?_
    refine W_reg ?_
    refine L_op rfl (X_loadA (p := (ptr b5 (0))) (xs := cellsM (updM (updM c 73 v15) 74 v20)) A40 rfl hB5.atAll rfl ?_)
    refine L_op0 (X_storeW (b := b4) (ys := cellsM (updM (updM c 73 v15) 74 v20)) A40 rfl rfl ((OneM.upd (OneM.upd hc1 (hA15.sv.one) 73) (hA20.sv.one) 74)).all rfl hB4 (by rw [List.size_toArray]; exact rfl) ?_)
    intro w22 hu22 hb22
    have hz22 := hu22.size
    replace hq := hq.upd hu22 fun i h1 h2 h => by have h : i = b4 := h; omega
    replace ha := ha.upd hu22 fun i h1 h2 h => by have h : i = b4 := h; omega
    replace hU := hU.trans (hu22.mono fun i _ h => by have h : i = b4 := h; show n0 ≤ i; omega)
    replace hB1 := hB1.upd hu22 fun h => by have h : b1 = b4 := h; omega
    replace hB2 := hB2.upd hu22 fun h => by have h : b2 = b4 := h; omega
    replace hB3 := hB3.upd hu22 fun h => by have h : b3 = b4 := h; omega
    replace hB14 := hB14.upd hu22 fun h => by have h : b14 = b4 := h; omega
    replace hB19 := hB19.upd hu22 fun h => by have h : b19 = b4 := h; omega
    replace hB5 := hB5.upd hu22 fun h => by have h : b5 = b4 := h; omega
    replace hB4 : Blk w22 b4 (cellsM (updM (updM c 73 v15) 74 v20)).toArray 40 := hb22
    refine L_op rfl (X_assign (v := (.bool (true))) rfl ?_)
    refine L_nil ?_
    refine T_n ?_
    refine W_ret ?_
    exact BQ_r (End_2 Tryd.results10 (RV_A A40 rfl hB4.atAll rfl) (v2 := .bool true) rfl ⟨_, rfl, (OneM.upd (OneM.upd hc1 (hA15.sv.one) 73) (hA20.sv.one) 74), hU.own hn0⟩)
  · rw [hb10]
    refine L_op rfl (X_move (v := (.bool (false))) rfl ?_)
    refine L_op rfl (X_not (b := false) (r := true) rfl rfl ?_)
    refine L_nil ?_
    refine T_n ?_
    refine W_ct rfl ?_
    refine W_seq ?_
    refine W_reg ?_
    refine L_op rfl (X_loadA (p := (ptr b1 (0))) (xs := cellsM c) A40 rfl hB1.atAll rfl ?_)
    refine L_op0 (X_storeW (b := b4) (ys := cellsM c) A40 rfl rfl (hc1).all rfl hB4 (by rw [List.size_toArray]; exact rfl) ?_)
    intro w23 hu23 hb23
    have hz23 := hu23.size
    replace hq := hq.upd hu23 fun i h1 h2 h => by have h : i = b4 := h; omega
    replace ha := ha.upd hu23 fun i h1 h2 h => by have h : i = b4 := h; omega
    replace hU := hU.trans (hu23.mono fun i _ h => by have h : i = b4 := h; show n0 ≤ i; omega)
    replace hB1 := hB1.upd hu23 fun h => by have h : b1 = b4 := h; omega
    replace hB2 := hB2.upd hu23 fun h => by have h : b2 = b4 := h; omega
    replace hB3 := hB3.upd hu23 fun h => by have h : b3 = b4 := h; omega
    replace hB5 := hB5.upd hu23 fun h => by have h : b5 = b4 := h; omega
    replace hB4 : Blk w23 b4 (cellsM c).toArray 40 := hb23
    refine L_op rfl (X_assign (v := (.bool (false))) rfl ?_)
    refine L_nil ?_
    refine T_n ?_
    refine W_ret ?_
    refine T_r ?_
    exact BQ_r (End_2 Tryd.results10 (RV_A A40 rfl hB4.atAll rfl) (v2 := .bool false) rfl ⟨_, rfl, hc1, hU.own hn0⟩)

theorem c_judgeB (c : Nat → Value) (hc1 : OneM c) (hcl : Cl c) (wr : Bool) (hwr : c 64 = .bool wr) (h73 : c 73 = .slice none 0 0) (h74 : c 74 = .slice none 0 0) (x : Opr) (a : Ans) (w : World) (lo up : Nat) (hup : up ≤ w.heap.size) (hq : x.R w lo up) (ha : a.R w lo up) (hxk : x.k = 3) (r : Bool) (hwt : wr = true) (hpu : putsD x = true) (s : Sn) (hD : DrA c s) (hs : s.R w lo up) (hsm1 : s.ks.length < 1048576) (hae : a.e = 0) (hr : (toldD a false [] [] 0) = true) : CT Tryd.prog 10 #[(.agg (cellsM c).toArray), (.agg #[(.int .u8 (x.k)), (.int .i64 (x.a)), (.int .i64 (x.b)), x.kv, x.xv]), (.agg #[(.int .i64 (a.e)), (.bool (a.t)), a.kv, a.xv, (.int .i64 (a.n))])] w fun v w' => ∃ (c' : Nat → Value) (o : Sn), v = .tuple #[.agg (cellsM c').toArray, .bool true] ∧ OneM c' ∧ Cl c' ∧ c' 64 = .bool true ∧ DrA c' o ∧ o.R w' w.heap.size w'.heap.size ∧ bl o.ks = putK (bl s.ks) x.m ∧ bl o.vs = putV (bl s.ks) (bl s.vs) x.m x.x ∧ Ext w w' := by
  obtain ⟨n0, hn0⟩ : ∃ n, n = w.heap.size := ⟨_, rfl⟩
  have hU : Upd (fun i => n0 ≤ i) w w := Upd.refl _ _
  rw [← hn0] at hup
  refine CT_of Tryd.func10 rfl rfl rfl ?_
  refine W_seq ?_
  refine W_reg ?_
  refine L_op rfl (X_box (v := (.agg (cellsM c).toArray)) (c := ((cellsM c)).toArray) rfl rfl ?_)
  intro b1 w1 hn1
  have hbn1 := hn1.num; have hbs1 := hn1.size
  replace hq := hq.ext hn1.ext
  replace ha := ha.ext hn1.ext
  replace hU := hU.trans (Ext.upd hn1.ext)
  replace hs := hs.ext hn1.ext
  have hB1 := hn1.blk
  refine L_op rfl (X_box (v := (.agg #[(.int .u8 (x.k)), (.int .i64 (x.a)), (.int .i64 (x.b)), x.kv, x.xv])) (c := ([(.int .u8 (x.k)), (.int .i64 (x.a)), (.int .i64 (x.b)), x.kv, x.xv]).toArray) rfl rfl ?_)
  intro b2 w2 hn2
  have hbn2 := hn2.num; have hbs2 := hn2.size
  replace hq := hq.ext hn2.ext
  replace ha := ha.ext hn2.ext
  replace hU := hU.trans (Ext.upd hn2.ext)
  replace hs := hs.ext hn2.ext
  replace hB1 := hB1.ext hn2.ext
  have hB2 := hn2.blk
  refine L_op rfl (X_box (v := (.agg #[(.int .i64 (a.e)), (.bool (a.t)), a.kv, a.xv, (.int .i64 (a.n))])) (c := ([(.int .i64 (a.e)), (.bool (a.t)), a.kv, a.xv, (.int .i64 (a.n))]).toArray) rfl rfl ?_)
  intro b3 w3 hn3
  have hbn3 := hn3.num; have hbs3 := hn3.size
  replace hq := hq.ext hn3.ext
  replace ha := ha.ext hn3.ext
  replace hU := hU.trans (Ext.upd hn3.ext)
  replace hs := hs.ext hn3.ext
  replace hB1 := hB1.ext hn3.ext
  replace hB2 := hB2.ext hn3.ext
  have hB3 := hn3.blk
  refine L_op rfl (X_alloc (z := zv40) (c := zc40.toArray) Zv40 rfl ?_)
  intro b4 w4 hn4
  have hbn4 := hn4.num; have hbs4 := hn4.size
  replace hq := hq.ext hn4.ext
  replace ha := ha.ext hn4.ext
  replace hU := hU.trans (Ext.upd hn4.ext)
  replace hs := hs.ext hn4.ext
  replace hB1 := hB1.ext hn4.ext
  replace hB2 := hB2.ext hn4.ext
  replace hB3 := hB3.ext hn4.ext
  have hB4 := hn4.blk
  refine L_op rfl (X_assign (v := (.bool (false))) rfl ?_)
  refine L_nil ?_
  refine T_n ?_
  refine W_seq ?_
  refine W_reg ?_
  refine L_op rfl (X_loadA (p := (ptr b1 (0))) (xs := cellsM c) A40 rfl hB1.atAll rfl ?_)
  refine L_op rfl (X_alloc (z := zv40) (c := zc40.toArray) Zv40 rfl ?_)
  intro b5 w5 hn5
  have hbn5 := hn5.num; have hbs5 := hn5.size
  replace hq := hq.ext hn5.ext
  replace ha := ha.ext hn5.ext
  replace hU := hU.trans (Ext.upd hn5.ext)
  replace hs := hs.ext hn5.ext
  replace hB1 := hB1.ext hn5.ext
  replace hB2 := hB2.ext hn5.ext
  replace hB3 := hB3.ext hn5.ext
  replace hB4 := hB4.ext hn5.ext
  have hB5 := hn5.blk
  refine L_op0 (X_storeW (b := b5) (ys := cellsM c) A40 rfl rfl (hc1).all rfl hB5 (by rw [List.size_toArray]; exact rfl) ?_)
  intro w6 hu6 hb6
  have hz6 := hu6.size
  replace hq := hq.upd hu6 fun i h1 h2 h => by have h : i = b5 := h; omega
  replace ha := ha.upd hu6 fun i h1 h2 h => by have h : i = b5 := h; omega
  replace hU := hU.trans (hu6.mono fun i _ h => by have h : i = b5 := h; show n0 ≤ i; omega)
  replace hs := hs.upd hu6 fun i h1 h2 h => by have h : i = b5 := h; omega
  replace hB1 := hB1.upd hu6 fun h => by have h : b1 = b5 := h; omega
  replace hB2 := hB2.upd hu6 fun h => by have h : b2 = b5 := h; omega
  replace hB3 := hB3.upd hu6 fun h => by have h : b3 = b5 := h; omega
  replace hB4 := hB4.upd hu6 fun h => by have h : b4 = b5 := h; omega
  replace hB5 : Blk w6 b5 (cellsM c).toArray 40 := hb6
  refine L_op rfl (X_assign (v := (.bool (false))) rfl ?_)
  refine L_nil ?_
  refine T_n ?_
  refine W_seq ?_
  refine W_seq ?_
  refine W_reg ?_
  refine L_op rfl (X_loadA (p := (ptr b1 (0))) (xs := cellsM c) A40 rfl hB1.atAll rfl ?_)
  have hcr_ := c_strictM c hc1 hcl.h67 hcl.h68 false false hcl.h69 hcl.h70 w6 lo up (by omega)
  refine L_op rfl (X_fn (vs := [(.agg (cellsM c).toArray)]) en11 rfl ?_)
  refine CT.mono hcr_ ?_
  clear hcr_
  rintro _ w7 ⟨rfl, hu7⟩
  have hz7 := hu7.size
  replace hq := hq.ext hu7
  replace ha := ha.ext hu7
  replace hU := hU.trans (Ext.upd hu7)
  replace hs := hs.ext hu7
  replace hB1 := hB1.ext hu7
  replace hB2 := hB2.ext hu7
  replace hB3 := hB3.ext hu7
  replace hB4 := hB4.ext hu7
  replace hB5 := hB5.ext hu7
  refine L_nil ?_
  refine T_n ?_
  refine W_ct rfl ?_
  refine W_reg ?_
  refine L_op rfl (X_loadA (p := (ptr b1 (0))) (xs := cellsM c) A40 rfl hB1.atAll rfl ?_)
  refine L_op rfl (X_loadA (p := (ptr b2 (0))) (xs := [(.int .u8 (x.k)), (.int .i64 (x.a)), (.int .i64 (x.b)), x.kv, x.xv]) A43 rfl hB2.atAll rfl ?_)
  refine L_op rfl (X_loadA (p := (ptr b3 (0))) (xs := [(.int .i64 (a.e)), (.bool (a.t)), a.kv, a.xv, (.int .i64 (a.n))]) A48 rfl hB3.atAll rfl ?_)
  have hcr_ := c_strictB c hc1 wr hwr hcl.h65 x hxk hwt hpu a w7 lo up (by omega) hq ha s hD hs hsm1 hae true hr
  refine L_op rfl (X_fn (vs := [(.agg (cellsM c).toArray), (.agg ([(.int .u8 (x.k)), (.int .i64 (x.a)), (.int .i64 (x.b)), x.kv, x.xv]).toArray), (.agg ([(.int .i64 (a.e)), (.bool (a.t)), a.kv, a.xv, (.int .i64 (a.n))]).toArray)]) en17 rfl ?_)
  refine CT.mono hcr_ ?_
  clear hcr_
  rintro _ w8 ⟨o, rfl, hoR, hone, hok, hov, hu8⟩
  have hz8 := hu8.size
  obtain ⟨n9, hn9⟩ : ∃ n, n = w7.heap.size := ⟨_, rfl⟩
  obtain ⟨m9, hm9⟩ : ∃ n, n = w8.heap.size := ⟨_, rfl⟩
  rw [← hn9, ← hm9] at hoR
  replace hq := hq.ext hu8
  replace ha := ha.ext hu8
  replace hU := hU.trans (Ext.upd hu8)
  replace hs := hs.ext hu8
  replace hB1 := hB1.ext hu8
  replace hB2 := hB2.ext hu8
  replace hB3 := hB3.ext hu8
  replace hB4 := hB4.ext hu8
  replace hB5 := hB5.ext hu8
  refine L_op rfl (X_move (v := (.tuple #[(.agg (cellsM (drM c o)).toArray), (.bool (true))])) rfl ?_)
  refine L_op rfl (X_extract (l := [(.agg (cellsM (drM c o)).toArray), (.bool (true))]) (v := (.agg (cellsM (drM c o)).toArray)) rfl rfl ?_)
  refine L_op rfl (X_extract (l := [(.agg (cellsM (drM c o)).toArray), (.bool (true))]) (v := (.bool (true))) rfl rfl ?_)
  refine L_op0 (X_storeW (b := b5) (ys := cellsM (drM c o)) A40 rfl rfl (hone).all rfl hB5 (by rw [List.size_toArray]; exact rfl) ?_)
  intro w9 hu9 hb9
  have hz9 := hu9.size
  replace hq := hq.upd hu9 fun i h1 h2 h => by have h : i = b5 := h; omega
  replace ha := ha.upd hu9 fun i h1 h2 h => by have h : i = b5 := h; omega
  replace hU := hU.trans (hu9.mono fun i _ h => by have h : i = b5 := h; show n0 ≤ i; omega)
  replace hs := hs.upd hu9 fun i h1 h2 h => by have h : i = b5 := h; omega
  replace hB1 := hB1.upd hu9 fun h => by have h : b1 = b5 := h; omega
  replace hB2 := hB2.upd hu9 fun h => by have h : b2 = b5 := h; omega
  replace hB3 := hB3.upd hu9 fun h => by have h : b3 = b5 := h; omega
  replace hB4 := hB4.upd hu9 fun h => by have h : b4 = b5 := h; omega
  replace hoR := hoR.upd hu9 fun i h1 h2 h => by have h : i = b5 := h; omega
  replace hB5 : Blk w9 b5 (cellsM (drM c o)).toArray 40 := hb9
  refine L_op rfl (X_assign (v := (.bool (true))) rfl ?_)
  refine L_nil ?_
  refine T_n ?_
  refine W_seq ?_
  refine W_seq ?_
  refine W_reg ?_
  refine L_op rfl (X_move (v := (.bool (true))) rfl ?_)
  refine L_op rfl (X_not (b := true) (r := false) rfl rfl ?_)
  refine L_nil ?_
  refine T_n ?_
  refine W_cf rfl ?_
  refine W_skip ?_
  refine T_n ?_
  refine W_seq ?_
  refine W_seq ?_
  refine W_reg ?_
  refine L_op rfl (X_fldP (b := b2) (o := 0) (r := 0) Fd43_0 rfl rfl ?_)
  refine L_op rfl (X_load (p := (ptr b2 (0))) (v := (.int .u8 (x.k))) T5 rfl (hB2.at1 rfl) ?_)
  refine L_op rfl (X_cmp (k := .u8) (a := x.k) (b := 3) (r := true) rfl rfl rfl (decide_eq_true (p := ((x.k) : Int) = ((3) : Int)) (by omega)) ?_)
  refine L_op rfl (X_move (v := (.bool (true))) rfl ?_)
  refine L_gy (dj := 30) rfl rfl rfl (X_loadA (p := (ptr b2 (0))) (xs := [(.int .u8 (x.k)), (.int .i64 (x.a)), (.int .i64 (x.b)), x.kv, x.xv]) A43 rfl hB2.atAll rfl ?_)
  have hcr_ := c_puts x w9 lo up (by omega) hq
  refine L_gy (dj := 30) rfl rfl rfl (X_fn (vs := [(.agg ([(.int .u8 (x.k)), (.int .i64 (x.a)), (.int .i64 (x.b)), x.kv, x.xv]).toArray)]) en19 rfl ?_)
  refine CT.mono hcr_ ?_
  clear hcr_
  rintro _ w10 ⟨rfl, hu10⟩
  have hz10 := hu10.size
  replace hq := hq.ext hu10
  replace ha := ha.ext hu10
  replace hU := hU.trans (Ext.upd hu10)
  replace hs := hs.ext hu10
  replace hB1 := hB1.ext hu10
  replace hB2 := hB2.ext hu10
  replace hB3 := hB3.ext hu10
  replace hB4 := hB4.ext hu10
  replace hoR := hoR.ext hu10
  replace hB5 := hB5.ext hu10
  rw [hpu]
  refine L_op rfl (X_pick (t := true) (v := (.bool (true))) rfl rfl ?_)
  refine L_nil ?_
  refine T_n ?_
  refine W_ct rfl ?_
  refine W_seq ?_
  refine W_draw 6 [[], [0], [0, 1], [0, 1, 2], [], [4], [0, 1, 2, 3, 4, 5], [0, 1, 2, 3, 4, 5, 6], [0, 1, 2, 3, 4, 5, 6, 7], [0, 1, 2, 3, 4, 5, 6, 7, 8], [0, 1, 2, 3, 4, 5, 6, 7, 8, 9], [0, 1, 2, 3, 4, 5, 6, 7, 8, 9, 10]] mixed (by kernel_rfl) ?_
  refine ⟨.det (fun val => (ptr b5 (72))), ⟨fun _ _ hv => rfl, fun _ _ _ _ _ => trivial⟩, fun val h_ W hx he => ⟨trivial, ?_⟩, ?_⟩
  · replace hx := (Upd.drew _ _).trans hx
    replace hq := hq.ext hx
    replace ha := ha.ext hx
    replace hs := hs.ext hx
    replace hB1 := hB1.ext hx
    replace hB2 := hB2.ext hx
    replace hB3 := hB3.ext hx
    replace hB4 := hB4.ext hx
    replace hoR := hoR.ext hx
    replace hB5 := hB5.ext hx
    have hE := Upd.refl (fun _ => False) W
    refine id (X_fldP (b := b5) (o := 0) (r := 72) Fd40_12 rfl rfl ?_)
    exact ⟨hE, rfl⟩
  refine ⟨.det (fun val => (ptr b5 (73))), ⟨fun _ _ hv => rfl, fun _ _ _ _ _ => trivial⟩, fun val h_ W hx he => ⟨trivial, ?_⟩, ?_⟩
  · replace hx := (Upd.drew _ _).trans hx
    replace hq := hq.ext hx
    replace ha := ha.ext hx
    replace hs := hs.ext hx
    replace hB1 := hB1.ext hx
    replace hB2 := hB2.ext hx
    replace hB3 := hB3.ext hx
    replace hB4 := hB4.ext hx
    replace hoR := hoR.ext hx
    replace hB5 := hB5.ext hx
    have hE := Upd.refl (fun _ => False) W
    refine id (X_fldP (b := b5) (o := 72) (r := 73) Fd27_1 rfl rfl ?_)
    exact ⟨hE, rfl⟩
  refine ⟨.det (fun val => (.slice none 0 0)), ⟨fun _ _ hv => rfl, fun _ _ _ _ _ => trivial⟩, fun val h_ W hx he => ⟨trivial, ?_⟩, ?_⟩
  · replace hx := (Upd.drew _ _).trans hx
    replace hq := hq.ext hx
    replace ha := ha.ext hx
    replace hs := hs.ext hx
    replace hB1 := hB1.ext hx
    replace hB2 := hB2.ext hx
    replace hB3 := hB3.ext hx
    replace hB4 := hB4.ext hx
    replace hoR := hoR.ext hx
    replace hB5 := hB5.ext hx
    have hE := Upd.refl (fun _ => False) W
    refine id (X_load (p := (ptr b5 (73))) (v := (.slice none 0 0)) T22 rfl (hB5.at1 (congrArg some h73)) ?_)
    exact ⟨hE, rfl⟩
  refine ⟨.det (fun val => .slice none 0 0), ⟨fun _ _ hv => rfl, fun _ _ _ _ _ => trivial⟩, fun val h_ W hx he => ⟨trivial, ?_⟩, ?_⟩
  · replace hx := (Upd.drew _ _).trans hx
    replace hq := hq.ext hx
    replace ha := ha.ext hx
    replace hs := hs.ext hx
    replace hB1 := hB1.ext hx
    replace hB2 := hB2.ext hx
    replace hB3 := hB3.ext hx
    replace hB4 := hB4.ext hx
    replace hoR := hoR.ext hx
    replace hB5 := hB5.ext hx
    have hE := Upd.refl (fun _ => False) W
    have hcr_ := c_clip W
    refine X_fn (vs := [.slice none 0 0]) en20 rfl ?_
    refine CT.mono hcr_ ?_
    rintro _ w9 ⟨rfl, hu9⟩
    exact ⟨hu9, rfl⟩
  refine ⟨.det (fun val => (ptr b2 (3))), ⟨fun _ _ hv => rfl, fun _ _ _ _ _ => trivial⟩, fun val h_ W hx he => ⟨trivial, ?_⟩, ?_⟩
  · replace hx := (Upd.drew _ _).trans hx
    replace hq := hq.ext hx
    replace ha := ha.ext hx
    replace hs := hs.ext hx
    replace hB1 := hB1.ext hx
    replace hB2 := hB2.ext hx
    replace hB3 := hB3.ext hx
    replace hB4 := hB4.ext hx
    replace hoR := hoR.ext hx
    replace hB5 := hB5.ext hx
    have hE := Upd.refl (fun _ => False) W
    refine id (X_fldP (b := b2) (o := 0) (r := 3) Fd43_3 rfl rfl ?_)
    exact ⟨hE, rfl⟩
  refine ⟨.det (fun val => x.kv), ⟨fun _ _ hv => rfl, fun _ _ _ _ _ => trivial⟩, fun val h_ W hx he => ⟨trivial, ?_⟩, ?_⟩
  · replace hx := (Upd.drew _ _).trans hx
    replace hq := hq.ext hx
    replace ha := ha.ext hx
    replace hs := hs.ext hx
    replace hB1 := hB1.ext hx
    replace hB2 := hB2.ext hx
    replace hB3 := hB3.ext hx
    replace hB4 := hB4.ext hx
    replace hoR := hoR.ext hx
    replace hB5 := hB5.ext hx
    have hE := Upd.refl (fun _ => False) W
    refine id (X_load (p := (ptr b2 (3))) (v := x.kv) T23 rfl (hB2.at1 rfl) ?_)
    exact ⟨hE, rfl⟩
  intro val W11 hx11 he11
  replace hx11 := (Upd.drew _ _).trans hx11
  have hz11 := hx11.size
  replace hq := hq.ext hx11
  replace ha := ha.ext hx11
  replace hU := hU.trans (Ext.upd hx11)
  replace hs := hs.ext hx11
  replace hB1 := hB1.ext hx11
  replace hB2 := hB2.ext hx11
  replace hB3 := hB3.ext hx11
  replace hB4 := hB4.ext hx11
  replace hoR := hoR.ext hx11
  replace hB5 := hB5.ext hx11
  have hcr_ := c_copied x.kv x.m W11 hq.lk hq.k.1
  refine L_op rfl (X_fn (vs := [x.kv]) en16 rfl ?_)
  refine CT.mono hcr_ ?_
  clear hcr_
  rintro y12 w12 ⟨hO12, hu12⟩
  have hz12 := hu12.size
  replace hq := hq.ext hu12
  replace ha := ha.ext hu12
  replace hU := hU.trans (Ext.upd hu12)
  replace hs := hs.ext hu12
  replace hB1 := hB1.ext hu12
  replace hB2 := hB2.ext hu12
  replace hB3 := hB3.ext hu12
  replace hB4 := hB4.ext hu12
  replace hoR := hoR.ext hu12
  replace hB5 := hB5.ext hu12
  refine L_op rfl (X_buildSlice1 (vs := [y12]) S22 (by decide) rfl rfl (List.forall_mem_cons.2 ⟨(hO12.1.sv.cells), (fun _ h => by cases h)⟩) ?_)
  intro b13 w13 hn13
  have hbn13 := hn13.num; have hbs13 := hn13.size
  replace hq := hq.ext hn13.ext
  replace ha := ha.ext hn13.ext
  replace hU := hU.trans (Ext.upd hn13.ext)
  replace hs := hs.ext hn13.ext
  replace hB1 := hB1.ext hn13.ext
  replace hB2 := hB2.ext hn13.ext
  replace hB3 := hB3.ext hn13.ext
  replace hB4 := hB4.ext hn13.ext
  replace hoR := hoR.ext hn13.ext
  replace hB5 := hB5.ext hn13.ext
  have hB13 := hn13.blk
  refine L_op rfl (X_append (B := n0) (n := 0) (s := .slice none 0 0) (x := (.slice (some ⟨b13, 0, none⟩) 1 1)) S22 ⟨_, Tryd.underlying22⟩ rfl rfl (Own.nil _ _ _ _) (m := 1) (ys := [y12]) (hB13.rd (o := 0) (n := 1) (c := 1) (sz := 1) (by decide) (by decide) rfl (fun j u hj => by rw [Nat.zero_add]; simpa using hj)) (List.forall_mem_cons.2 ⟨hO12.1.sv.one, fun _ h => by cases h⟩) (by decide) (by decide) (by omega) ?_)
  intro v14 w14 hA14 hu14 _
  have hz14 := hu14.size
  replace hq := hq.ext hu14.nobk
  replace ha := ha.ext hu14.nobk
  replace hU := hU.trans (Ext.upd hu14.nobk)
  replace hs := hs.ext hu14.nobk
  replace hB1 := hB1.ext hu14.nobk
  replace hB2 := hB2.ext hu14.nobk
  replace hB3 := hB3.ext hu14.nobk
  replace hB4 := hB4.ext hu14.nobk
  replace hoR := hoR.ext hu14.nobk
  replace hB5 := hB5.ext hu14.nobk
  replace hB13 := hB13.ext hu14.nobk
  refine L_op rfl (X_fldP (b := b5) (o := 0) (r := 72) Fd40_12 rfl rfl ?_)
  refine L_op rfl (X_fldP (b := b5) (o := 72) (r := 73) Fd27_1 rfl rfl ?_)
  refine L_op0 (X_store (b := b5) (o := 73) T22 rfl rfl (hA14.sv.one) hB5 (by show (73 : Nat) < 77; decide) ?_)
  intro w15 hu15 hb15
  have hz15 := hu15.size
  replace hq := hq.upd hu15 fun i h1 h2 h => by have h : i = b5 := h; omega
  replace ha := ha.upd hu15 fun i h1 h2 h => by have h : i = b5 := h; omega
  replace hU := hU.trans (hu15.mono fun i _ h => by have h : i = b5 := h; show n0 ≤ i; omega)
  replace hs := hs.upd hu15 fun i h1 h2 h => by have h : i = b5 := h; omega
  replace hB1 := hB1.upd hu15 fun h => by have h : b1 = b5 := h; omega
  replace hB2 := hB2.upd hu15 fun h => by have h : b2 = b5 := h; omega
  replace hB3 := hB3.upd hu15 fun h => by have h : b3 = b5 := h; omega
  replace hB4 := hB4.upd hu15 fun h => by have h : b4 = b5 := h; omega
  replace hoR := hoR.upd hu15 fun i h1 h2 h => by have h : i = b5 := h; omega
  replace hB13 := hB13.upd hu15 fun h => by have h : b13 = b5 := h; omega
  replace hB5 : Blk w15 b5 (cellsM (updM (drM c o) 73 v14)).toArray 40 := hb15
  refine L_nil ?_
  refine T_n ?_
  refine W_draw 6 [[], [0], [0, 1], [0, 1, 2], [], [4], [0, 1, 2, 3, 4, 5], [0, 1, 2, 3, 4, 5, 6], [0, 1, 2, 3, 4, 5, 6, 7], [0, 1, 2, 3, 4, 5, 6, 7, 8], [0, 1, 2, 3, 4, 5, 6, 7, 8, 9], [0, 1, 2, 3, 4, 5, 6, 7, 8, 9, 10]] mixed (by kernel_rfl) ?_
  refine ⟨.det (fun val => (ptr b5 (72))), ⟨fun _ _ hv => rfl, fun _ _ _ _ _ => trivial⟩, fun val h_ W hx he => ⟨trivial, ?_⟩, ?_⟩
  · replace hx := (Upd.drew _ _).trans hx
    replace hq := hq.ext hx
    replace ha := ha.ext hx
    replace hs := hs.ext hx
    replace hB1 := hB1.ext hx
    replace hB2 := hB2.ext hx
    replace hB3 := hB3.ext hx
    replace hB4 := hB4.ext hx
    replace hoR := hoR.ext hx
    replace hB13 := hB13.ext hx
    replace hB5 := hB5.ext hx
    have hE := Upd.refl (fun _ => False) W
    refine id (X_fldP (b := b5) (o := 0) (r := 72) Fd40_12 rfl rfl ?_)
    exact ⟨hE, rfl⟩
  refine ⟨.det (fun val => (ptr b5 (74))), ⟨fun _ _ hv => rfl, fun _ _ _ _ _ => trivial⟩, fun val h_ W hx he => ⟨trivial, ?_⟩, ?_⟩
  · replace hx := (Upd.drew _ _).trans hx
    replace hq := hq.ext hx
    replace ha := ha.ext hx
    replace hs := hs.ext hx
    replace hB1 := hB1.ext hx
    replace hB2 := hB2.ext hx
    replace hB3 := hB3.ext hx
    replace hB4 := hB4.ext hx
    replace hoR := hoR.ext hx
    replace hB13 := hB13.ext hx
    replace hB5 := hB5.ext hx
    have hE := Upd.refl (fun _ => False) W
    refine id (X_fldP (b := b5) (o := 72) (r := 74) Fd27_2 rfl rfl ?_)
    exact ⟨hE, rfl⟩
  refine ⟨.det (fun val => (.slice none 0 0)), ⟨fun _ _ hv => rfl, fun _ _ _ _ _ => trivial⟩, fun val h_ W hx he => ⟨trivial, ?_⟩, ?_⟩
  · replace hx := (Upd.drew _ _).trans hx
    replace hq := hq.ext hx
    replace ha := ha.ext hx
    replace hs := hs.ext hx
    replace hB1 := hB1.ext hx
    replace hB2 := hB2.ext hx
    replace hB3 := hB3.ext hx
    replace hB4 := hB4.ext hx
    replace hoR := hoR.ext hx
    replace hB13 := hB13.ext hx
    replace hB5 := hB5.ext hx
    have hE := Upd.refl (fun _ => False) W
    refine id (X_load (p := (ptr b5 (74))) (v := (.slice none 0 0)) T22 rfl (hB5.at1 (congrArg some h74)) ?_)
    exact ⟨hE, rfl⟩
  refine ⟨.det (fun val => .slice none 0 0), ⟨fun _ _ hv => rfl, fun _ _ _ _ _ => trivial⟩, fun val h_ W hx he => ⟨trivial, ?_⟩, ?_⟩
  · replace hx := (Upd.drew _ _).trans hx
    replace hq := hq.ext hx
    replace ha := ha.ext hx
    replace hs := hs.ext hx
    replace hB1 := hB1.ext hx
    replace hB2 := hB2.ext hx
    replace hB3 := hB3.ext hx
    replace hB4 := hB4.ext hx
    replace hoR := hoR.ext hx
    replace hB13 := hB13.ext hx
    replace hB5 := hB5.ext hx
    have hE := Upd.refl (fun _ => False) W
    have hcr_ := c_clip W
    refine X_fn (vs := [.slice none 0 0]) en20 rfl ?_
    refine CT.mono hcr_ ?_
    rintro _ w9 ⟨rfl, hu9⟩
    exact ⟨hu9, rfl⟩
  refine ⟨.det (fun val => (ptr b2 (4))), ⟨fun _ _ hv => rfl, fun _ _ _ _ _ => trivial⟩, fun val h_ W hx he => ⟨trivial, ?_⟩, ?_⟩
  · replace hx := (Upd.drew _ _).trans hx
    replace hq := hq.ext hx
    replace ha := ha.ext hx
    replace hs := hs.ext hx
    replace hB1 := hB1.ext hx
    replace hB2 := hB2.ext hx
    replace hB3 := hB3.ext hx
    replace hB4 := hB4.ext hx
    replace hoR := hoR.ext hx
    replace hB13 := hB13.ext hx
    replace hB5 := hB5.ext hx
    have hE := Upd.refl (fun _ => False) W
    refine id (X_fldP (b := b2) (o := 0) (r := 4) Fd43_4 rfl rfl ?_)
    exact ⟨hE, rfl⟩
  refine ⟨.det (fun val => x.xv), ⟨fun _ _ hv => rfl, fun _ _ _ _ _ => trivial⟩, fun val h_ W hx he => ⟨trivial, ?_⟩, ?_⟩
  · replace hx := (Upd.drew _ _).trans hx
    replace hq := hq.ext hx
    replace ha := ha.ext hx
    replace hs := hs.ext hx
    replace hB1 := hB1.ext hx
    replace hB2 := hB2.ext hx
    replace hB3 := hB3.ext hx
    replace hB4 := hB4.ext hx
    replace hoR := hoR.ext hx
    replace hB13 := hB13.ext hx
    replace hB5 := hB5.ext hx
    have hE := Upd.refl (fun _ => False) W
    refine id (X_load (p := (ptr b2 (4))) (v := x.xv) T23 rfl (hB2.at1 rfl) ?_)
    exact ⟨hE, rfl⟩
  intro val W16 hx16 he16
  replace hx16 := (Upd.drew _ _).trans hx16
  have hz16 := hx16.size
  replace hq := hq.ext hx16
  replace ha := ha.ext hx16
  replace hU := hU.trans (Ext.upd hx16)
  replace hs := hs.ext hx16
  replace hB1 := hB1.ext hx16
  replace hB2 := hB2.ext hx16
  replace hB3 := hB3.ext hx16
  replace hB4 := hB4.ext hx16
  replace hoR := hoR.ext hx16
  replace hB13 := hB13.ext hx16
  replace hB5 := hB5.ext hx16
  have hcr_ := c_copied x.xv x.x W16 hq.lx hq.x.1
  refine L_op rfl (X_fn (vs := [x.xv]) en16 rfl ?_)
  refine CT.mono hcr_ ?_
  clear hcr_
  rintro y17 w17 ⟨hO17, hu17⟩
  have hz17 := hu17.size
  replace hq := hq.ext hu17
  replace ha := ha.ext hu17
  replace hU := hU.trans (Ext.upd hu17)
  replace hs := hs.ext hu17
  replace hB1 := hB1.ext hu17
  replace hB2 := hB2.ext hu17
  replace hB3 := hB3.ext hu17
  replace hB4 := hB4.ext hu17
  replace hoR := hoR.ext hu17
  replace hB13 := hB13.ext hu17
  replace hB5 := hB5.ext hu17
  refine L_op rfl (X_buildSlice1 (vs := [y17]) S22 (by decide) rfl rfl (List.forall_mem_cons.2 ⟨(hO17.1.sv.cells), (fun _ h => by cases h)⟩) ?_)
  intro b18 w18 hn18
  have hbn18 := hn18.num; have hbs18 := hn18.size
  replace hq := hq.ext hn18.ext
  replace ha := ha.ext hn18.ext
  replace hU := hU.trans (Ext.upd hn18.ext)
  replace hs := hs.ext hn18.ext
  replace hB1 := hB1.ext hn18.ext
  replace hB2 := hB2.ext hn18.ext
  replace hB3 := hB3.ext hn18.ext
  replace hB4 := hB4.ext hn18.ext
  replace hoR := hoR.ext hn18.ext
  replace hB13 := hB13.ext hn18.ext
  replace hB5 := hB5.ext hn18.ext
  have hB18 := hn18.blk
  refine L_op rfl (X_append (B := n0) (n := 0) (s := .slice none 0 0) (x := (.slice (some ⟨b18, 0, none⟩) 1 1)) S22 ⟨_, Tryd.underlying22⟩ rfl rfl (Own.nil _ _ _ _) (m := 1) (ys := [y17]) (hB18.rd (o := 0) (n := 1) (c := 1) (sz := 1) (by decide) (by decide) rfl (fun j u hj => by rw [Nat.zero_add]; simpa using hj)) (List.forall_mem_cons.2 ⟨hO17.1.sv.one, fun _ h => by cases h⟩) (by decide) (by decide) (by omega) ?_)
  intro v19 w19 hA19 hu19 _
  have hz19 := hu19.size
  replace hq := hq.ext hu19.nobk
  replace ha := ha.ext hu19.nobk
  replace hU := hU.trans (Ext.upd hu19.nobk)
  replace hs := hs.ext hu19.nobk
  replace hB1 := hB1.ext hu19.nobk
  replace hB2 := hB2.ext hu19.nobk
  replace hB3 := hB3.ext hu19.nobk
  replace hB4 := hB4.ext hu19.nobk
  replace hoR := hoR.ext hu19.nobk
  replace hB13 := hB13.ext hu19.nobk
  replace hB5 := hB5.ext hu19.nobk
  replace hB18 := hB18.ext hu19.nobk
  refine L_op rfl (X_fldP (b := b5) (o := 0) (r := 72) Fd40_12 rfl rfl ?_)
  refine L_op rfl (X_fldP (b := b5) (o := 72) (r := 74) Fd27_2 rfl rfl ?_)
  refine L_op0 (X_store (b := b5) (o := 74) T22 rfl rfl (hA19.sv.one) hB5 (by show (74 : Nat) < 77; decide) ?_)
  intro w20 hu20 hb20
  have hz20 := hu20.size
  replace hq := hq.upd hu20 fun i h1 h2 h => by have h : i = b5 := h; omega
  replace ha := ha.upd hu20 fun i h1 h2 h => by have h : i = b5 := h; omega
  replace hU := hU.trans (hu20.mono fun i _ h => by have h : i = b5 := h; show n0 ≤ i; omega)
  replace hs := hs.upd hu20 fun i h1 h2 h => by have h : i = b5 := h; omega
  replace hB1 := hB1.upd hu20 fun h => by have h : b1 = b5 := h; omega
  replace hB2 := hB2.upd hu20 fun h => by have h : b2 = b5 := h; omega
  replace hB3 := hB3.upd hu20 fun h => by have h : b3 = b5 := h; omega
  replace hB4 := hB4.upd hu20 fun h => by have h : b4 = b5 := h; omega
  replace hoR := hoR.upd hu20 fun i h1 h2 h => by have h : i = b5 := h; omega
  replace hB13 := hB13.upd hu20 fun h => by have h : b13 = b5 := h; omega
  replace hB18 := hB18.upd hu20 fun h => by have h : b18 = b5 := h; omega
  replace hB5 : Blk w20 b5 (cellsM (updM (updM (drM c o) 73 v14) 74 v19)).toArray 40 := hb20
  refine L_nil ?_
  refine T_n ?_
  refine W_seq ?_
  refine W_reg ?_
  refine L_op rfl (X_loadA (p := (ptr b5 (0))) (xs := cellsM (updM (updM (drM c o) 73 v14) 74 v19)) A40 rfl hB5.atAll rfl ?_)
  refine L_op0 (X_storeW (b := b4) (ys := cellsM (updM (updM (drM c o) 73 v14) 74 v19)) A40 rfl rfl ((OneM.upd (OneM.upd hone (hA14.sv.one) 73) (hA19.sv.one) 74)).all rfl hB4 (by rw [List.size_toArray]; exact rfl) ?_)
  intro w21 hu21 hb21
  have hz21 := hu21.size
  replace hq := hq.upd hu21 fun i h1 h2 h => by have h : i = b4 := h; omega
  replace ha := ha.upd hu21 fun i h1 h2 h => by have h : i = b4 := h; omega
  replace hU := hU.trans (hu21.mono fun i _ h => by have h : i = b4 := h; show n0 ≤ i; omega)
  replace hs := hs.upd hu21 fun i h1 h2 h => by have h : i = b4 := h; omega
  replace hB1 := hB1.upd hu21 fun h => by have h : b1 = b4 := h; omega
  replace hB2 := hB2.upd hu21 fun h => by have h : b2 = b4 := h; omega
  replace hB3 := hB3.upd hu21 fun h => by have h : b3 = b4 := h; omega
  replace hoR := hoR.upd hu21 fun i h1 h2 h => by have h : i = b4 := h; omega
  replace hB13 := hB13.upd hu21 fun h => by have h : b13 = b4 := h; omega
  replace hB18 := hB18.upd hu21 fun h => by have h : b18 = b4 := h; omega
  replace hB5 := hB5.upd hu21 fun h => by have h : b5 = b4 := h; omega
  replace hB4 : Blk w21 b4 (cellsM (updM (updM (drM c o) 73 v14) 74 v19)).toArray 40 := hb21
  refine L_op rfl (X_assign (v := (.bool (true))) rfl ?_)
  refine L_nil ?_
  refine T_n ?_
  refine W_ret ?_
  exact BQ_r (End_2 Tryd.results10 (RV_A A40 rfl hB4.atAll rfl) (v2 := .bool true) rfl ⟨_, o, rfl, (OneM.upd (OneM.upd hone (hA14.sv.one) 73) (hA19.sv.one) 74), ⟨hcl.h65, hcl.h67, hcl.h68, hcl.h69, hcl.h70⟩, hwr.trans (by rw [hwt]), ⟨rfl, rfl, rfl, rfl, rfl⟩, hoR.mono (by omega) (by omega), hok, hov, hU.own hn0⟩)

theorem c_judgeC (c : Nat → Value) (hc1 : OneM c) (hcl : Cl c) (wr : Bool) (hwr : c 64 = .bool wr) (x : Opr) (a : Ans) (w : World) (lo up : Nat) (hup : up ≤ w.heap.size) (hq : x.R w lo up) (ha : a.R w lo up) (hxk : x.k = 2) (r : Bool) (hwf : wr = false) (hae : a.e = 0) (hr : (toldD a false [] [] 0) = true) : CT Tryd.prog 10 #[(.agg (cellsM c).toArray), (.agg #[(.int .u8 (x.k)), (.int .i64 (x.a)), (.int .i64 (x.b)), x.kv, x.xv]), (.agg #[(.int .i64 (a.e)), (.bool (a.t)), a.kv, a.xv, (.int .i64 (a.n))])] w fun v w' => v = .tuple #[.agg (cellsM (begM c)).toArray, .bool true] ∧ OneM (begM c) ∧ Ext w w' := by
  obtain ⟨n0, hn0⟩ : ∃ n, n = w.heap.size := ⟨_, rfl⟩
  have hU : Upd (fun i => n0 ≤ i) w w := Upd.refl _ _
  rw [← hn0] at hup
  refine CT_of Tryd.func10 rfl rfl rfl ?_
  refine W_seq ?_
  refine W_reg ?_
  refine L_op rfl (X_box (v := (.agg (cellsM c).toArray)) (c := ((cellsM c)).toArray) rfl rfl ?_)
  intro b1 w1 hn1
  have hbn1 := hn1.num; have hbs1 := hn1.size
  replace hq := hq.ext hn1.ext
  replace ha := ha.ext hn1.ext
  replace hU := hU.trans (Ext.upd hn1.ext)
  have hB1 := hn1.blk
  refine L_op rfl (X_box (v := (.agg #[(.int .u8 (x.k)), (.int .i64 (x.a)), (.int .i64 (x.b)), x.kv, x.xv])) (c := ([(.int .u8 (x.k)), (.int .i64 (x.a)), (.int .i64 (x.b)), x.kv, x.xv]).toArray) rfl rfl ?_)
  intro b2 w2 hn2
  have hbn2 := hn2.num; have hbs2 := hn2.size
  replace hq := hq.ext hn2.ext
  replace ha := ha.ext hn2.ext
  replace hU := hU.trans (Ext.upd hn2.ext)
  replace hB1 := hB1.ext hn2.ext
  have hB2 := hn2.blk
  refine L_op rfl (X_box (v := (.agg #[(.int .i64 (a.e)), (.bool (a.t)), a.kv, a.xv, (.int .i64 (a.n))])) (c := ([(.int .i64 (a.e)), (.bool (a.t)), a.kv, a.xv, (.int .i64 (a.n))]).toArray) rfl rfl ?_)
  intro b3 w3 hn3
  have hbn3 := hn3.num; have hbs3 := hn3.size
  replace hq := hq.ext hn3.ext
  replace ha := ha.ext hn3.ext
  replace hU := hU.trans (Ext.upd hn3.ext)
  replace hB1 := hB1.ext hn3.ext
  replace hB2 := hB2.ext hn3.ext
  have hB3 := hn3.blk
  refine L_op rfl (X_alloc (z := zv40) (c := zc40.toArray) Zv40 rfl ?_)
  intro b4 w4 hn4
  have hbn4 := hn4.num; have hbs4 := hn4.size
  replace hq := hq.ext hn4.ext
  replace ha := ha.ext hn4.ext
  replace hU := hU.trans (Ext.upd hn4.ext)
  replace hB1 := hB1.ext hn4.ext
  replace hB2 := hB2.ext hn4.ext
  replace hB3 := hB3.ext hn4.ext
  have hB4 := hn4.blk
  refine L_op rfl (X_assign (v := (.bool (false))) rfl ?_)
  refine L_nil ?_
  refine T_n ?_
  refine W_seq ?_
  refine W_reg ?_
  refine L_op rfl (X_loadA (p := (ptr b1 (0))) (xs := cellsM c) A40 rfl hB1.atAll rfl ?_)
  refine L_op rfl (X_alloc (z := zv40) (c := zc40.toArray) Zv40 rfl ?_)
  intro b5 w5 hn5
  have hbn5 := hn5.num; have hbs5 := hn5.size
  replace hq := hq.ext hn5.ext
  replace ha := ha.ext hn5.ext
  replace hU := hU.trans (Ext.upd hn5.ext)
  replace hB1 := hB1.ext hn5.ext
  replace hB2 := hB2.ext hn5.ext
  replace hB3 := hB3.ext hn5.ext
  replace hB4 := hB4.ext hn5.ext
  have hB5 := hn5.blk
  refine L_op0 (X_storeW (b := b5) (ys := cellsM c) A40 rfl rfl (hc1).all rfl hB5 (by rw [List.size_toArray]; exact rfl) ?_)
  intro w6 hu6 hb6
  have hz6 := hu6.size
  replace hq := hq.upd hu6 fun i h1 h2 h => by have h : i = b5 := h; omega
  replace ha := ha.upd hu6 fun i h1 h2 h => by have h : i = b5 := h; omega
  replace hU := hU.trans (hu6.mono fun i _ h => by have h : i = b5 := h; show n0 ≤ i; omega)
  replace hB1 := hB1.upd hu6 fun h => by have h : b1 = b5 := h; omega
  replace hB2 := hB2.upd hu6 fun h => by have h : b2 = b5 := h; omega
  replace hB3 := hB3.upd hu6 fun h => by have h : b3 = b5 := h; omega
  replace hB4 := hB4.upd hu6 fun h => by have h : b4 = b5 := h; omega
  replace hB5 : Blk w6 b5 (cellsM c).toArray 40 := hb6
  refine L_op rfl (X_assign (v := (.bool (false))) rfl ?_)
  refine L_nil ?_
  refine T_n ?_
  refine W_seq ?_
  refine W_seq ?_
  refine W_reg ?_
  refine L_op rfl (X_loadA (p := (ptr b1 (0))) (xs := cellsM c) A40 rfl hB1.atAll rfl ?_)
  have hcr_ := c_strictM c hc1 hcl.h67 hcl.h68 false false hcl.h69 hcl.h70 w6 lo up (by omega)
  refine L_op rfl (X_fn (vs := [(.agg (cellsM c).toArray)]) en11 rfl ?_)
  refine CT.mono hcr_ ?_
  clear hcr_
  rintro _ w7 ⟨rfl, hu7⟩
  have hz7 := hu7.size
  replace hq := hq.ext hu7
  replace ha := ha.ext hu7
  replace hU := hU.trans (Ext.upd hu7)
  replace hB1 := hB1.ext hu7
  replace hB2 := hB2.ext hu7
  replace hB3 := hB3.ext hu7
  replace hB4 := hB4.ext hu7
  replace hB5 := hB5.ext hu7
  refine L_nil ?_
  refine T_n ?_
  refine W_ct rfl ?_
  refine W_reg ?_
  refine L_op rfl (X_loadA (p := (ptr b1 (0))) (xs := cellsM c) A40 rfl hB1.atAll rfl ?_)
  refine L_op rfl (X_loadA (p := (ptr b2 (0))) (xs := [(.int .u8 (x.k)), (.int .i64 (x.a)), (.int .i64 (x.b)), x.kv, x.xv]) A43 rfl hB2.atAll rfl ?_)
  refine L_op rfl (X_loadA (p := (ptr b3 (0))) (xs := [(.int .i64 (a.e)), (.bool (a.t)), a.kv, a.xv, (.int .i64 (a.n))]) A48 rfl hB3.atAll rfl ?_)
  have hcr_ := c_strictC c hc1 wr hwr hcl.h65 x hxk hwf a w7 lo up (by omega) hq ha hae true hr
  refine L_op rfl (X_fn (vs := [(.agg (cellsM c).toArray), (.agg ([(.int .u8 (x.k)), (.int .i64 (x.a)), (.int .i64 (x.b)), x.kv, x.xv]).toArray), (.agg ([(.int .i64 (a.e)), (.bool (a.t)), a.kv, a.xv, (.int .i64 (a.n))]).toArray)]) en17 rfl ?_)
  refine CT.mono hcr_ ?_
  clear hcr_
  rintro _ w8 ⟨rfl, hone, hu8⟩
  have hz8 := hu8.size
  replace hq := hq.ext hu8
  replace ha := ha.ext hu8
  replace hU := hU.trans (Ext.upd hu8)
  replace hB1 := hB1.ext hu8
  replace hB2 := hB2.ext hu8
  replace hB3 := hB3.ext hu8
  replace hB4 := hB4.ext hu8
  replace hB5 := hB5.ext hu8
  refine L_op rfl (X_move (v := (.tuple #[(.agg (cellsM (begM c)).toArray), (.bool (true))])) rfl ?_)
  refine L_op rfl (X_extract (l := [(.agg (cellsM (begM c)).toArray), (.bool (true))]) (v := (.agg (cellsM (begM c)).toArray)) rfl rfl ?_)
  refine L_op rfl (X_extract (l := [(.agg (cellsM (begM c)).toArray), (.bool (true))]) (v := (.bool (true))) rfl rfl ?_)
  refine L_op0 (X_storeW (b := b5) (ys := cellsM (begM c)) A40 rfl rfl (hone).all rfl hB5 (by rw [List.size_toArray]; exact rfl) ?_)
  intro w9 hu9 hb9
  have hz9 := hu9.size
  replace hq := hq.upd hu9 fun i h1 h2 h => by have h : i = b5 := h; omega
  replace ha := ha.upd hu9 fun i h1 h2 h => by have h : i = b5 := h; omega
  replace hU := hU.trans (hu9.mono fun i _ h => by have h : i = b5 := h; show n0 ≤ i; omega)
  replace hB1 := hB1.upd hu9 fun h => by have h : b1 = b5 := h; omega
  replace hB2 := hB2.upd hu9 fun h => by have h : b2 = b5 := h; omega
  replace hB3 := hB3.upd hu9 fun h => by have h : b3 = b5 := h; omega
  replace hB4 := hB4.upd hu9 fun h => by have h : b4 = b5 := h; omega
  replace hB5 : Blk w9 b5 (cellsM (begM c)).toArray 40 := hb9
  refine L_op rfl (X_assign (v := (.bool (true))) rfl ?_)
  refine L_nil ?_
  refine T_n ?_
  refine W_seq ?_
  refine W_seq ?_
  refine W_reg ?_
  refine L_op rfl (X_move (v := (.bool (true))) rfl ?_)
  refine L_op rfl (X_not (b := true) (r := false) rfl rfl ?_)
  refine L_nil ?_
  refine T_n ?_
  refine W_cf rfl ?_
  refine W_skip ?_
  refine T_n ?_
  refine W_seq ?_
  refine W_seq ?_
  refine W_reg ?_
  refine L_op rfl (X_fldP (b := b2) (o := 0) (r := 0) Fd43_0 rfl rfl ?_)
  refine L_op rfl (X_load (p := (ptr b2 (0))) (v := (.int .u8 (x.k))) T5 rfl (hB2.at1 rfl) ?_)
  refine L_op rfl (X_cmp (k := .u8) (a := x.k) (b := 3) (r := false) rfl rfl rfl (decide_eq_false (p := ((x.k) : Int) = ((3) : Int)) (by omega)) ?_)
  refine L_op rfl (X_move (v := (.bool (false))) rfl ?_)
  refine L_gn (dj := 30) (t := false) rfl rfl rfl rfl ?_
  refine L_gn (dj := 30) (t := false) rfl rfl rfl rfl ?_
  refine L_op rfl (X_pick (t := false) (v := (.bool (false))) rfl rfl ?_)
  refine L_nil ?_
  refine T_n ?_
  refine W_cf rfl ?_
  refine W_skip ?_
  refine T_n ?_
  refine W_seq ?_
  refine W_reg ?_
  refine L_op rfl (X_loadA (p := (ptr b5 (0))) (xs := cellsM (begM c)) A40 rfl hB5.atAll rfl ?_)
  refine L_op0 (X_storeW (b := b4) (ys := cellsM (begM c)) A40 rfl rfl (hone).all rfl hB4 (by rw [List.size_toArray]; exact rfl) ?_)
  intro w10 hu10 hb10
  have hz10 := hu10.size
  replace hq := hq.upd hu10 fun i h1 h2 h => by have h : i = b4 := h; omega
  replace ha := ha.upd hu10 fun i h1 h2 h => by have h : i = b4 := h; omega
  replace hU := hU.trans (hu10.mono fun i _ h => by have h : i = b4 := h; show n0 ≤ i; omega)
  replace hB1 := hB1.upd hu10 fun h => by have h : b1 = b4 := h; omega
  replace hB2 := hB2.upd hu10 fun h => by have h : b2 = b4 := h; omega
  replace hB3 := hB3.upd hu10 fun h => by have h : b3 = b4 := h; omega
  replace hB5 := hB5.upd hu10 fun h => by have h : b5 = b4 := h; omega
  replace hB4 : Blk w10 b4 (cellsM (begM c)).toArray 40 := hb10
  refine L_op rfl (X_assign (v := (.bool (true))) rfl ?_)
  refine L_nil ?_
  refine T_n ?_
  refine W_ret ?_
  exact BQ_r (End_2 Tryd.results10 (RV_A A40 rfl hB4.atAll rfl) (v2 := .bool true) rfl ⟨rfl, hone, hU.own hn0⟩)

theorem c_judgeD (c : Nat → Value) (hc1 : OneM c) (hcl : Cl c) (wr : Bool) (hwr : c 64 = .bool wr) (x : Opr) (a : Ans) (w : World) (lo up : Nat) (hup : up ≤ w.heap.size) (hq : x.R w lo up) (ha : a.R w lo up) (hxk : x.k = 0) (r : Bool) (hxa : x.a = 0) (hwt : wr = true) (s : Sn) (hD : DrA c s) (hs : s.R w lo up) (hae : a.e = 0) (hr : (toldD a (getO (bl s.ks) (bl s.vs) x.m).isSome [] ((getO (bl s.ks) (bl s.vs) x.m).getD []) 0) = r) : CT Tryd.prog 10 #[(.agg (cellsM c).toArray), (.agg #[(.int .u8 (x.k)), (.int .i64 (x.a)), (.int .i64 (x.b)), x.kv, x.xv]), (.agg #[(.int .i64 (a.e)), (.bool (a.t)), a.kv, a.xv, (.int .i64 (a.n))])] w fun v w' => v = .tuple #[.agg (cellsM c).toArray, .bool r] ∧ Ext w w' := by
  obtain ⟨n0, hn0⟩ : ∃ n, n = w.heap.size := ⟨_, rfl⟩
  have hU : Upd (fun i => n0 ≤ i) w w := Upd.refl _ _
  rw [← hn0] at hup
  refine CT_of Tryd.func10 rfl rfl rfl ?_
  refine W_seq ?_
  refine W_reg ?_
  refine L_op rfl (X_box (v := (.agg (cellsM c).toArray)) (c := ((cellsM c)).toArray) rfl rfl ?_)
  intro b1 w1 hn1
  have hbn1 := hn1.num; have hbs1 := hn1.size
  replace hq := hq.ext hn1.ext
  replace ha := ha.ext hn1.ext
  replace hU := hU.trans (Ext.upd hn1.ext)
  replace hs := hs.ext hn1.ext
  have hB1 := hn1.blk
  refine L_op rfl (X_box (v := (.agg #[(.int .u8 (x.k)), (.int .i64 (x.a)), (.int .i64 (x.b)), x.kv, x.xv])) (c := ([(.int .u8 (x.k)), (.int .i64 (x.a)), (.int .i64 (x.b)), x.kv, x.xv]).toArray) rfl rfl ?_)
  intro b2 w2 hn2
  have hbn2 := hn2.num; have hbs2 := hn2.size
  replace hq := hq.ext hn2.ext
  replace ha := ha.ext hn2.ext
  replace hU := hU.trans (Ext.upd hn2.ext)
  replace hs := hs.ext hn2.ext
  replace hB1 := hB1.ext hn2.ext
  have hB2 := hn2.blk
  refine L_op rfl (X_box (v := (.agg #[(.int .i64 (a.e)), (.bool (a.t)), a.kv, a.xv, (.int .i64 (a.n))])) (c := ([(.int .i64 (a.e)), (.bool (a.t)), a.kv, a.xv, (.int .i64 (a.n))]).toArray) rfl rfl ?_)
  intro b3 w3 hn3
  have hbn3 := hn3.num; have hbs3 := hn3.size
  replace hq := hq.ext hn3.ext
  replace ha := ha.ext hn3.ext
  replace hU := hU.trans (Ext.upd hn3.ext)
  replace hs := hs.ext hn3.ext
  replace hB1 := hB1.ext hn3.ext
  replace hB2 := hB2.ext hn3.ext
  have hB3 := hn3.blk
  refine L_op rfl (X_alloc (z := zv40) (c := zc40.toArray) Zv40 rfl ?_)
  intro b4 w4 hn4
  have hbn4 := hn4.num; have hbs4 := hn4.size
  replace hq := hq.ext hn4.ext
  replace ha := ha.ext hn4.ext
  replace hU := hU.trans (Ext.upd hn4.ext)
  replace hs := hs.ext hn4.ext
  replace hB1 := hB1.ext hn4.ext
  replace hB2 := hB2.ext hn4.ext
  replace hB3 := hB3.ext hn4.ext
  have hB4 := hn4.blk
  refine L_op rfl (X_assign (v := (.bool (false))) rfl ?_)
  refine L_nil ?_
  refine T_n ?_
  refine W_seq ?_
  refine W_reg ?_
  refine L_op rfl (X_loadA (p := (ptr b1 (0))) (xs := cellsM c) A40 rfl hB1.atAll rfl ?_)
  refine L_op rfl (X_alloc (z := zv40) (c := zc40.toArray) Zv40 rfl ?_)
  intro b5 w5 hn5
  have hbn5 := hn5.num; have hbs5 := hn5.size
  replace hq := hq.ext hn5.ext
  replace ha := ha.ext hn5.ext
  replace hU := hU.trans (Ext.upd hn5.ext)
  replace hs := hs.ext hn5.ext
  replace hB1 := hB1.ext hn5.ext
  replace hB2 := hB2.ext hn5.ext
  replace hB3 := hB3.ext hn5.ext
  replace hB4 := hB4.ext hn5.ext
  have hB5 := hn5.blk
  refine L_op0 (X_storeW (b := b5) (ys := cellsM c) A40 rfl rfl (hc1).all rfl hB5 (by rw [List.size_toArray]; exact rfl) ?_)
  intro w6 hu6 hb6
  have hz6 := hu6.size
  replace hq := hq.upd hu6 fun i h1 h2 h => by have h : i = b5 := h; omega
  replace ha := ha.upd hu6 fun i h1 h2 h => by have h : i = b5 := h; omega
  replace hU := hU.trans (hu6.mono fun i _ h => by have h : i = b5 := h; show n0 ≤ i; omega)
  replace hs := hs.upd hu6 fun i h1 h2 h => by have h : i = b5 := h; omega
  replace hB1 := hB1.upd hu6 fun h => by have h : b1 = b5 := h; omega
  replace hB2 := hB2.upd hu6 fun h => by have h : b2 = b5 := h; omega
  replace hB3 := hB3.upd hu6 fun h => by have h : b3 = b5 := h; omega
  replace hB4 := hB4.upd hu6 fun h => by have h : b4 = b5 := h; omega
  replace hB5 : Blk w6 b5 (cellsM c).toArray 40 := hb6
  refine L_op rfl (X_assign (v := (.bool (false))) rfl ?_)
  refine L_nil ?_
  refine T_n ?_
  refine W_seq ?_
  refine W_seq ?_
  refine W_reg ?_
  refine L_op rfl (X_loadA (p := (ptr b1 (0))) (xs := cellsM c) A40 rfl hB1.atAll rfl ?_)
  have hcr_ := c_strictM c hc1 hcl.h67 hcl.h68 false false hcl.h69 hcl.h70 w6 lo up (by omega)
  refine L_op rfl (X_fn (vs := [(.agg (cellsM c).toArray)]) en11 rfl ?_)
  refine CT.mono hcr_ ?_
  clear hcr_
  rintro _ w7 ⟨rfl, hu7⟩
  have hz7 := hu7.size
  replace hq := hq.ext hu7
  replace ha := ha.ext hu7
  replace hU := hU.trans (Ext.upd hu7)
  replace hs := hs.ext hu7
  replace hB1 := hB1.ext hu7
  replace hB2 := hB2.ext hu7
  replace hB3 := hB3.ext hu7
  replace hB4 := hB4.ext hu7
  replace hB5 := hB5.ext hu7
  refine L_nil ?_
  refine T_n ?_
  refine W_ct rfl ?_
  refine W_reg ?_
  refine L_op rfl (X_loadA (p := (ptr b1 (0))) (xs := cellsM c) A40 rfl hB1.atAll rfl ?_)
  refine L_op rfl (X_loadA (p := (ptr b2 (0))) (xs := [(.int .u8 (x.k)), (.int .i64 (x.a)), (.int .i64 (x.b)), x.kv, x.xv]) A43 rfl hB2.atAll rfl ?_)
  refine L_op rfl (X_loadA (p := (ptr b3 (0))) (xs := [(.int .i64 (a.e)), (.bool (a.t)), a.kv, a.xv, (.int .i64 (a.n))]) A48 rfl hB3.atAll rfl ?_)
  have hcr_ := c_strictD c hc1 wr hwr hcl.h65 x hxk hxa hwt a w7 lo up (by omega) hq ha s hD hs hae r hr
  refine L_op rfl (X_fn (vs := [(.agg (cellsM c).toArray), (.agg ([(.int .u8 (x.k)), (.int .i64 (x.a)), (.int .i64 (x.b)), x.kv, x.xv]).toArray), (.agg ([(.int .i64 (a.e)), (.bool (a.t)), a.kv, a.xv, (.int .i64 (a.n))]).toArray)]) en17 rfl ?_)
  refine CT.mono hcr_ ?_
  clear hcr_
  rintro _ w8 ⟨rfl, hu8⟩
  have hz8 := hu8.size
  replace hq := hq.ext hu8
  replace ha := ha.ext hu8
  replace hU := hU.trans (Ext.upd hu8)
  replace hs := hs.ext hu8
  replace hB1 := hB1.ext hu8
  replace hB2 := hB2.ext hu8
  replace hB3 := hB3.ext hu8
  replace hB4 := hB4.ext hu8
  replace hB5 := hB5.ext hu8
  refine L_op rfl (X_move (v := (.tuple #[(.agg (cellsM c).toArray), (.bool (r))])) rfl ?_)
  refine L_op rfl (X_extract (l := [(.agg (cellsM c).toArray), (.bool (r))]) (v := (.agg (cellsM c).toArray)) rfl rfl ?_)
  refine L_op rfl (X_extract (l := [(.agg (cellsM c).toArray), (.bool (r))]) (v := (.bool (r))) rfl rfl ?_)
  refine L_op0 (X_storeW (b := b5) (ys := cellsM c) A40 rfl rfl (hc1).all rfl hB5 (by rw [List.size_toArray]; exact rfl) ?_)
  intro w9 hu9 hb9
  have hz9 := hu9.size
  replace hq := hq.upd hu9 fun i h1 h2 h => by have h : i = b5 := h; omega
  replace ha := ha.upd hu9 fun i h1 h2 h => by have h : i = b5 := h; omega
  replace hU := hU.trans (hu9.mono fun i _ h => by have h : i = b5 := h; show n0 ≤ i; omega)
  replace hs := hs.upd hu9 fun i h1 h2 h => by have h : i = b5 := h; omega
  replace hB1 := hB1.upd hu9 fun h => by have h : b1 = b5 := h; omega
  replace hB2 := hB2.upd hu9 fun h => by have h : b2 = b5 := h; omega
  replace hB3 := hB3.upd hu9 fun h => by have h : b3 = b5 := h; omega
  replace hB4 := hB4.upd hu9 fun h => by have h : b4 = b5 := h; omega
  replace hB5 : Blk w9 b5 (cellsM c).toArray 40 := hb9
  refine L_op rfl (X_assign (v := (.bool (r))) rfl ?_)
  refine L_nil ?_
  refine T_n ?_
  refine W_seq ?_
  refine W_seq ?_
  refine W_reg ?_
  rcases Bool.eq_false_or_eq_true (r) with hb10 | hb10
  · rw [hb10]
    refine L_op rfl (X_move (v := (.bool (true))) rfl ?_)
    refine L_op rfl (X_not (b := true) (r := false) rfl rfl ?_)
    refine L_nil ?_
    refine T_n ?_
    refine W_cf rfl ?_
    refine W_skip ?_
    refine T_n ?_
    refine W_seq ?_
    refine W_seq ?_
    refine W_reg ?_
    refine L_op rfl (X_fldP (b := b2) (o := 0) (r := 0) Fd43_0 rfl rfl ?_)
    refine L_op rfl (X_load (p := (ptr b2 (0))) (v := (.int .u8 (x.k))) T5 rfl (hB2.at1 rfl) ?_)
    refine L_op rfl (X_cmp (k := .u8) (a := x.k) (b := 3) (r := false) rfl rfl rfl (decide_eq_false (p := ((x.k) : Int) = ((3) : Int)) (by omega)) ?_)
    refine L_op rfl (X_move (v := (.bool (false))) rfl ?_)
    refine L_gn (dj := 30) (t := false) rfl rfl rfl rfl ?_
    refine L_gn (dj := 30) (t := false) rfl rfl rfl rfl ?_
    refine L_op rfl (X_pick (t := false) (v := (.bool (false))) rfl rfl ?_)
    refine L_nil ?_
    refine T_n ?_
    refine W_cf rfl ?_
    refine W_skip ?_
    refine T_n ?_
    refine W_seq ?_
    refine W_reg ?_
    refine L_op rfl (X_loadA (p := (ptr b5 (0))) (xs := cellsM c) A40 rfl hB5.atAll rfl ?_)
    refine L_op0 (X_storeW (b := b4) (ys := cellsM c) A40 rfl rfl (hc1).all rfl hB4 (by rw [List.size_toArray]; exact rfl) ?_)
    intro w11 hu11 hb11
    have hz11 := hu11.size
    replace hq := hq.upd hu11 fun i h1 h2 h => by have h : i = b4 := h; omega
    replace ha := ha.upd hu11 fun i h1 h2 h => by have h : i = b4 := h; omega
    replace hU := hU.trans (hu11.mono fun i _ h => by have h : i = b4 := h; show n0 ≤ i; omega)
    replace hs := hs.upd hu11 fun i h1 h2 h => by have h : i = b4 := h; omega
    replace hB1 := hB1.upd hu11 fun h => by have h : b1 = b4 := h; omega
    replace hB2 := hB2.upd hu11 fun h => by have h : b2 = b4 := h; omega
    replace hB3 := hB3.upd hu11 fun h => by have h : b3 = b4 := h; omega
    replace hB5 := hB5.upd hu11 fun h => by have h : b5 = b4 := h; omega
    replace hB4 : Blk w11 b4 (cellsM c).toArray 40 := hb11
    refine L_op rfl (X_assign (v := (.bool (true))) rfl ?_)
    refine L_nil ?_
    refine T_n ?_
    refine W_ret ?_
    exact BQ_r (End_2 Tryd.results10 (RV_A A40 rfl hB4.atAll rfl) (v2 := .bool true) rfl ⟨rfl, hU.own hn0⟩)
  · rw [hb10]
    refine L_op rfl (X_move (v := (.bool (false))) rfl ?_)
    refine L_op rfl (X_not (b := false) (r := true) rfl rfl ?_)
    refine L_nil ?_
    refine T_n ?_
    refine W_ct rfl ?_
    refine W_seq ?_
    refine W_reg ?_
    refine L_op rfl (X_loadA (p := (ptr b1 (0))) (xs := cellsM c) A40 rfl hB1.atAll rfl ?_)
    refine L_op0 (X_storeW (b := b4) (ys := cellsM c) A40 rfl rfl (hc1).all rfl hB4 (by rw [List.size_toArray]; exact rfl) ?_)
    intro w12 hu12 hb12
    have hz12 := hu12.size
    replace hq := hq.upd hu12 fun i h1 h2 h => by have h : i = b4 := h; omega
    replace ha := ha.upd hu12 fun i h1 h2 h => by have h : i = b4 := h; omega
    replace hU := hU.trans (hu12.mono fun i _ h => by have h : i = b4 := h; show n0 ≤ i; omega)
    replace hs := hs.upd hu12 fun i h1 h2 h => by have h : i = b4 := h; omega
    replace hB1 := hB1.upd hu12 fun h => by have h : b1 = b4 := h; omega
    replace hB2 := hB2.upd hu12 fun h => by have h : b2 = b4 := h; omega
    replace hB3 := hB3.upd hu12 fun h => by have h : b3 = b4 := h; omega
    replace hB5 := hB5.upd hu12 fun h => by have h : b5 = b4 := h; omega
    replace hB4 : Blk w12 b4 (cellsM c).toArray 40 := hb12
    refine L_op rfl (X_assign (v := (.bool (false))) rfl ?_)
    refine L_nil ?_
    refine T_n ?_
    refine W_ret ?_
    refine T_r ?_
    exact BQ_r (End_2 Tryd.results10 (RV_A A40 rfl hB4.atAll rfl) (v2 := .bool false) rfl ⟨rfl, hU.own hn0⟩)
end Go.Proofs.YthncpmablodbjaaDoor
