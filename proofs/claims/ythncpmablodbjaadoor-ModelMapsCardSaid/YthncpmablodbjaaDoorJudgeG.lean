/-
  The model: judges. (Printed by wip/gen/t31m.py of this repo.)
-/
import Derived.Test.YthncpmablodbjaaDoorJudgeF
import Derived.Test.YthncpmablodbjaaDoorBaseTY
namespace Go.Proofs.YthncpmablodbjaaDoor
open Go Go.SL Go.Proofs
set_option linter.unusedVariables false

/-- a map's cells -/
abbrev snC (s : Sn) : List Value := [.int .u32 s.tx, s.kv, s.vv, .int .u8 s.mr, .int .u8 s.lv]
/-- the writer's map stands in a model -/
structure DrA (c : Nat → Value) (s : Sn) : Prop where
  d0 : c 11 = .int .u32 s.tx
  d1 : c 12 = s.kv
  d2 : c 13 = s.vv
  d3 : c 14 = .int .u8 s.mr
  d4 : c 15 = .int .u8 s.lv
theorem DrA.row {c : Nat → Value} {s : Sn} (h : DrA c s) : rowC c true = snC s := by
  show [c 11, c 12, c 13, c 14, c 15] = _
  rw [h.d0, h.d1, h.d2, h.d3, h.d4]
def drM (c : Nat → Value) (o : Sn) : Nat → Value := updM (updM (updM (updM (updM c 11 (.int .u32 o.tx)) 12 o.kv) 13 o.vv) 14 (.int .u8 o.mr)) 15 (.int .u8 o.lv)
def begM (c : Nat → Value) : Nat → Value := updM (updM (updM (updM (updM (updM c 64 (.bool true)) 11 (c 1)) 12 (c 2)) 13 (c 3)) 14 (c 4)) 15 (c 5)

theorem c_jBegin (c : Nat → Value) (hc1 : OneM c) (b : Nat) (x : Opr) (a : Ans) (w : World) (lo up : Nat) (hup : up ≤ w.heap.size) (hB : Blk w b (cellsM c).toArray 40) (hbu : up ≤ b) (hq : x.R w lo up) (ha : a.R w lo up) : CT Tryd.prog 68 #[ptr b 0, (.agg #[(.int .u8 (x.k)), (.int .i64 (x.a)), (.int .i64 (x.b)), x.kv, x.xv]), (.agg #[(.int .i64 (a.e)), (.bool (a.t)), a.kv, a.xv, (.int .i64 (a.n))])] w fun v w' => v = .bool (toldD a false [] [] 0) ∧ Blk w' b (cellsM (begM c)).toArray 40 ∧ Upd (fun i => i = b) w w' := by
  obtain ⟨n0, hn0⟩ : ∃ n, n = w.heap.size := ⟨_, rfl⟩
  have hU : Upd (fun i => i = b ∨ n0 ≤ i) w w := Upd.refl _ _
  rw [← hn0] at hup
  have hbl := hB.lt
  rw [← hn0] at hbl
  refine CT_of Tryd.func68 rfl rfl rfl ?_
  refine W_seq ?_
  refine W_reg ?_
  refine L_op rfl (X_box (v := (.agg #[(.int .u8 (x.k)), (.int .i64 (x.a)), (.int .i64 (x.b)), x.kv, x.xv])) (c := ([(.int .u8 (x.k)), (.int .i64 (x.a)), (.int .i64 (x.b)), x.kv, x.xv]).toArray) rfl rfl ?_)
  intro b1 w1 hn1
  have hbn1 := hn1.num; have hbs1 := hn1.size
  replace hB := hB.ext hn1.ext
  replace hq := hq.ext hn1.ext
  replace ha := ha.ext hn1.ext
  replace hU := hU.trans (Ext.upd hn1.ext)
  have hB1 := hn1.blk
  refine L_op rfl (X_box (v := (.agg #[(.int .i64 (a.e)), (.bool (a.t)), a.kv, a.xv, (.int .i64 (a.n))])) (c := ([(.int .i64 (a.e)), (.bool (a.t)), a.kv, a.xv, (.int .i64 (a.n))]).toArray) rfl rfl ?_)
  intro b2 w2 hn2
  have hbn2 := hn2.num; have hbs2 := hn2.size
  replace hB := hB.ext hn2.ext
  replace hq := hq.ext hn2.ext
  replace ha := ha.ext hn2.ext
  replace hU := hU.trans (Ext.upd hn2.ext)
  replace hB1 := hB1.ext hn2.ext
  have hB2 := hn2.blk
  refine L_op rfl (X_assign (v := (.bool (false))) rfl ?_)
  refine L_nil ?_
  refine T_n ?_
  refine W_seq ?_
  refine W_reg ?_
  refine L_op rfl (X_move (v := (ptr b (0))) rfl ?_)
  refine L_op rfl (X_move (v := (ptr b (0))) rfl ?_)
  refine L_op rfl (X_move (v := (ptr b (0))) rfl ?_)
  refine L_op rfl (X_nilCheck (v := (ptr b (0))) rfl ⟨_, _, rfl⟩ ?_)
  refine L_op rfl (X_fldP (b := b) (o := 0) (r := 1) Fd40_1 rfl rfl ?_)
  refine L_op rfl (X_loadA (p := (ptr b (1))) (xs := [(c 1), (c 2), (c 3), (c 4), (c 5)]) A27 rfl (by have h_ := mAt hB 1 (ys := [c 1, c 2, c 3, c 4, c 5]) rfl; exact h_) rfl ?_)
  refine L_op rfl (X_nilCheck (v := (ptr b (0))) rfl ⟨_, _, rfl⟩ ?_)
  refine L_op rfl (X_fldP (b := b) (o := 0) (r := 64) Fd40_6 rfl rfl ?_)
  refine L_op0 (X_store (b := b) (o := 64) T4 rfl rfl rfl hB (by show (64 : Nat) < 77; decide) ?_)
  intro w3 hu3 hb3
  have hz3 := hu3.size
  replace hq := hq.upd hu3 fun i h1 h2 h => by have h : i = b := h; omega
  replace ha := ha.upd hu3 fun i h1 h2 h => by have h : i = b := h; omega
  replace hU := hU.trans (hu3.mono fun i _ h => by have h : i = b := h; show i = b ∨ n0 ≤ i; omega)
  replace hB1 := hB1.upd hu3 fun h => by have h : b1 = b := h; omega
  replace hB2 := hB2.upd hu3 fun h => by have h : b2 = b := h; omega
  replace hB : Blk w3 b (cellsM (updM c 64 (.bool (true)))).toArray 40 := hb3
  refine L_op rfl (X_nilCheck (v := (ptr b (0))) rfl ⟨_, _, rfl⟩ ?_)
  refine L_op rfl (X_fldP (b := b) (o := 0) (r := 11) Fd40_3 rfl rfl ?_)
  refine L_op0 (X_storeA (b := b) (o := 11) (ys := [(c 1), (c 2), (c 3), (c 4), (c 5)]) A27 rfl rfl (List.forall_mem_cons.2 ⟨(hc1 1), (List.forall_mem_cons.2 ⟨(hc1 2), (List.forall_mem_cons.2 ⟨(hc1 3), (List.forall_mem_cons.2 ⟨(hc1 4), (List.forall_mem_cons.2 ⟨(hc1 5), (fun _ h => by cases h)⟩)⟩)⟩)⟩)⟩) rfl hB (by show (11 : Nat) + 5 ≤ 77; decide) ?_)
  intro w4 hu4 hb4
  have hz4 := hu4.size
  replace hq := hq.upd hu4 fun i h1 h2 h => by have h : i = b := h; omega
  replace ha := ha.upd hu4 fun i h1 h2 h => by have h : i = b := h; omega
  replace hU := hU.trans (hu4.mono fun i _ h => by have h : i = b := h; show i = b ∨ n0 ≤ i; omega)
  replace hB1 := hB1.upd hu4 fun h => by have h : b1 = b := h; omega
  replace hB2 := hB2.upd hu4 fun h => by have h : b2 = b := h; omega
  replace hB : Blk w4 b (cellsM (updM (updM (updM (updM (updM (updM c 64 (.bool (true))) 11 (c 1)) 12 (c 2)) 13 (c 3)) 14 (c 4)) 15 (c 5))).toArray 40 := hb4
  refine L_nil ?_
  refine T_n ?_
  refine W_seq ?_
  refine W_reg ?_
  refine L_op rfl (X_loadA (p := (ptr b2 (0))) (xs := [(.int .i64 (a.e)), (.bool (a.t)), a.kv, a.xv, (.int .i64 (a.n))]) A48 rfl hB2.atAll rfl ?_)
  have hcr_ := c_told a false (.slice none 0 0) [] (.slice none 0 0) [] 0 w4 0 w4.heap.size (Nat.le_refl _) (ha.mono (Nat.zero_le _) (by omega)) (BRd.nil _ _ _) (BRd.nil _ _ _)
  refine L_op rfl (X_fn (vs := [(.agg ([(.int .i64 (a.e)), (.bool (a.t)), a.kv, a.xv, (.int .i64 (a.n))]).toArray), (.bool (false)), (.slice none 0 0), (.slice none 0 0), (.int .i64 (0))]) en64 rfl ?_)
  refine CT.mono hcr_ ?_
  clear hcr_
  rintro _ w5 ⟨rfl, hu5⟩
  have hz5 := hu5.size
  replace hq := hq.ext hu5
  replace ha := ha.ext hu5
  replace hU := hU.trans (Ext.upd hu5)
  replace hB1 := hB1.ext hu5
  replace hB2 := hB2.ext hu5
  replace hB := hB.ext hu5
  refine L_op rfl (X_assign (v := (.bool ((toldD a false [] [] 0)))) rfl ?_)
  refine L_nil ?_
  refine T_n ?_
  refine W_ret ?_
  exact BQ_r (End_1 Tryd.results68 (v := .bool (toldD a false [] [] 0)) rfl ⟨rfl, hB, hU.mono fun i hi h => h.resolve_right (by omega)⟩)

theorem c_jPut (c : Nat → Value) (hc1 : OneM c) (b : Nat) (x : Opr) (a : Ans) (w : World) (lo up : Nat) (hup : up ≤ w.heap.size) (hB : Blk w b (cellsM c).toArray 40) (hbu : up ≤ b) (hq : x.R w lo up) (ha : a.R w lo up) (s : Sn) (hD : DrA c s) (hs : s.R w lo up) (hsm1 : s.ks.length < 1048576) : CT Tryd.prog 69 #[ptr b 0, (.agg #[(.int .u8 (x.k)), (.int .i64 (x.a)), (.int .i64 (x.b)), x.kv, x.xv]), (.agg #[(.int .i64 (a.e)), (.bool (a.t)), a.kv, a.xv, (.int .i64 (a.n))])] w fun v w' => v = .bool (toldD a false [] [] 0) ∧ ∃ (o : Sn) (u : Nat), Blk w' b (cellsM (drM c o)).toArray 40 ∧ o.R w' w.heap.size w'.heap.size ∧ bl o.ks = putK (bl s.ks) x.m ∧ bl o.vs = putV (bl s.ks) (bl s.vs) x.m x.x ∧ Upd (fun i => i = b) w w' := by
  obtain ⟨n0, hn0⟩ : ∃ n, n = w.heap.size := ⟨_, rfl⟩
  have hU : Upd (fun i => i = b ∨ n0 ≤ i) w w := Upd.refl _ _
  rw [← hn0] at hup
  have hbl := hB.lt
  rw [← hn0] at hbl
  refine CT_of Tryd.func69 rfl rfl rfl ?_
  refine W_seq ?_
  refine W_reg ?_
  refine L_op rfl (X_box (v := (.agg #[(.int .u8 (x.k)), (.int .i64 (x.a)), (.int .i64 (x.b)), x.kv, x.xv])) (c := ([(.int .u8 (x.k)), (.int .i64 (x.a)), (.int .i64 (x.b)), x.kv, x.xv]).toArray) rfl rfl ?_)
  intro b1 w1 hn1
  have hbn1 := hn1.num; have hbs1 := hn1.size
  replace hB := hB.ext hn1.ext
  replace hq := hq.ext hn1.ext
  replace ha := ha.ext hn1.ext
  replace hU := hU.trans (Ext.upd hn1.ext)
  replace hs := hs.ext hn1.ext
  have hB1 := hn1.blk
  refine L_op rfl (X_box (v := (.agg #[(.int .i64 (a.e)), (.bool (a.t)), a.kv, a.xv, (.int .i64 (a.n))])) (c := ([(.int .i64 (a.e)), (.bool (a.t)), a.kv, a.xv, (.int .i64 (a.n))]).toArray) rfl rfl ?_)
  intro b2 w2 hn2
  have hbn2 := hn2.num; have hbs2 := hn2.size
  replace hB := hB.ext hn2.ext
  replace hq := hq.ext hn2.ext
  replace ha := ha.ext hn2.ext
  replace hU := hU.trans (Ext.upd hn2.ext)
  replace hs := hs.ext hn2.ext
  replace hB1 := hB1.ext hn2.ext
  have hB2 := hn2.blk
  refine L_op rfl (X_assign (v := (.bool (false))) rfl ?_)
  refine L_nil ?_
  refine T_n ?_
  refine W_seq ?_
  refine W_draw 10 [[], [], [1], [1, 2], [1, 2, 3], [], [5], [], [7], [1, 2, 3, 4, 5, 6, 7, 8], [0, 1, 2, 3, 4, 5, 6, 7, 8, 9], [0, 1, 2, 3, 4, 5, 6, 7, 8, 9, 10], [0, 1, 2, 3, 4, 5, 6, 7, 8, 9, 10, 11]] mixed (by kernel_rfl) ?_
  refine ⟨.det (fun val => (ptr b (0))), ⟨fun _ _ hv => rfl, fun _ _ _ _ _ => trivial⟩, fun val h_ W hx he => ⟨trivial, ?_⟩, ?_⟩
  · replace hx := (Upd.drew _ _).trans hx
    replace hB := hB.ext hx
    replace hq := hq.ext hx
    replace ha := ha.ext hx
    replace hs := hs.ext hx
    replace hB1 := hB1.ext hx
    replace hB2 := hB2.ext hx
    have hE := Upd.refl (fun _ => False) W
    refine id (X_move (v := (ptr b (0))) rfl ?_)
    exact ⟨hE, rfl⟩
  refine ⟨.det (fun val => (ptr b (0))), ⟨fun _ _ hv => rfl, fun _ _ _ _ _ => trivial⟩, fun val h_ W hx he => ⟨trivial, ?_⟩, ?_⟩
  · replace hx := (Upd.drew _ _).trans hx
    replace hB := hB.ext hx
    replace hq := hq.ext hx
    replace ha := ha.ext hx
    replace hs := hs.ext hx
    replace hB1 := hB1.ext hx
    replace hB2 := hB2.ext hx
    have hE := Upd.refl (fun _ => False) W
    refine id (X_move (v := (ptr b (0))) rfl ?_)
    exact ⟨hE, rfl⟩
  refine ⟨.det (fun val => (ptr b (0))), ⟨fun _ _ hv => rfl, fun _ _ _ _ _ => trivial⟩, fun val h_ W hx he => ⟨trivial, ?_⟩, ?_⟩
  · replace hx := (Upd.drew _ _).trans hx
    replace hB := hB.ext hx
    replace hq := hq.ext hx
    replace ha := ha.ext hx
    replace hs := hs.ext hx
    replace hB1 := hB1.ext hx
    replace hB2 := hB2.ext hx
    have hE := Upd.refl (fun _ => False) W
    refine id (X_nilCheck (v := (ptr b (0))) rfl ⟨_, _, rfl⟩ ?_)
    exact ⟨hE, rfl⟩
  refine ⟨.det (fun val => (ptr b (11))), ⟨fun _ _ hv => rfl, fun _ _ _ _ _ => trivial⟩, fun val h_ W hx he => ⟨trivial, ?_⟩, ?_⟩
  · replace hx := (Upd.drew _ _).trans hx
    replace hB := hB.ext hx
    replace hq := hq.ext hx
    replace ha := ha.ext hx
    replace hs := hs.ext hx
    replace hB1 := hB1.ext hx
    replace hB2 := hB2.ext hx
    have hE := Upd.refl (fun _ => False) W
    refine id (X_fldP (b := b) (o := 0) (r := 11) Fd40_3 rfl rfl ?_)
    exact ⟨hE, rfl⟩
  refine ⟨.det (fun val => (.agg #[(.int .u32 (s.tx)), s.kv, s.vv, (.int .u8 (s.mr)), (.int .u8 (s.lv))])), ⟨fun _ _ hv => rfl, fun _ _ _ _ _ => trivial⟩, fun val h_ W hx he => ⟨trivial, ?_⟩, ?_⟩
  · replace hx := (Upd.drew _ _).trans hx
    replace hB := hB.ext hx
    replace hq := hq.ext hx
    replace ha := ha.ext hx
    replace hs := hs.ext hx
    replace hB1 := hB1.ext hx
    replace hB2 := hB2.ext hx
    have hE := Upd.refl (fun _ => False) W
    refine id (X_loadA (p := (ptr b (11))) (xs := [(.int .u32 (s.tx)), s.kv, s.vv, (.int .u8 (s.mr)), (.int .u8 (s.lv))]) A27 rfl (by have h_ := mAt hB 11 (ys := [c 11, c 12, c 13, c 14, c 15]) rfl; rw [show ([c 11, c 12, c 13, c 14, c 15] : List Value) = [(.int .u32 (s.tx)), s.kv, s.vv, (.int .u8 (s.mr)), (.int .u8 (s.lv))] from by simp only [hD.d0, hD.d1, hD.d2, hD.d3, hD.d4]] at h_; exact h_) rfl ?_)
    exact ⟨hE, rfl⟩
  refine ⟨.det (fun val => (ptr b1 (3))), ⟨fun _ _ hv => rfl, fun _ _ _ _ _ => trivial⟩, fun val h_ W hx he => ⟨trivial, ?_⟩, ?_⟩
  · replace hx := (Upd.drew _ _).trans hx
    replace hB := hB.ext hx
    replace hq := hq.ext hx
    replace ha := ha.ext hx
    replace hs := hs.ext hx
    replace hB1 := hB1.ext hx
    replace hB2 := hB2.ext hx
    have hE := Upd.refl (fun _ => False) W
    refine id (X_fldP (b := b1) (o := 0) (r := 3) Fd43_3 rfl rfl ?_)
    exact ⟨hE, rfl⟩
  refine ⟨.det (fun val => x.kv), ⟨fun _ _ hv => rfl, fun _ _ _ _ _ => trivial⟩, fun val h_ W hx he => ⟨trivial, ?_⟩, ?_⟩
  · replace hx := (Upd.drew _ _).trans hx
    replace hB := hB.ext hx
    replace hq := hq.ext hx
    replace ha := ha.ext hx
    replace hs := hs.ext hx
    replace hB1 := hB1.ext hx
    replace hB2 := hB2.ext hx
    have hE := Upd.refl (fun _ => False) W
    refine id (X_load (p := (ptr b1 (3))) (v := x.kv) T23 rfl (hB1.at1 rfl) ?_)
    exact ⟨hE, rfl⟩
  refine ⟨.det (fun val => (ptr b1 (4))), ⟨fun _ _ hv => rfl, fun _ _ _ _ _ => trivial⟩, fun val h_ W hx he => ⟨trivial, ?_⟩, ?_⟩
  · replace hx := (Upd.drew _ _).trans hx
    replace hB := hB.ext hx
    replace hq := hq.ext hx
    replace ha := ha.ext hx
    replace hs := hs.ext hx
    replace hB1 := hB1.ext hx
    replace hB2 := hB2.ext hx
    have hE := Upd.refl (fun _ => False) W
    refine id (X_fldP (b := b1) (o := 0) (r := 4) Fd43_4 rfl rfl ?_)
    exact ⟨hE, rfl⟩
  refine ⟨.det (fun val => x.xv), ⟨fun _ _ hv => rfl, fun _ _ _ _ _ => trivial⟩, fun val h_ W hx he => ⟨trivial, ?_⟩, ?_⟩
  · replace hx := (Upd.drew _ _).trans hx
    replace hB := hB.ext hx
    replace hq := hq.ext hx
    replace ha := ha.ext hx
    replace hs := hs.ext hx
    replace hB1 := hB1.ext hx
    replace hB2 := hB2.ext hx
    have hE := Upd.refl (fun _ => False) W
    refine id (X_load (p := (ptr b1 (4))) (v := x.xv) T23 rfl (hB1.at1 rfl) ?_)
    exact ⟨hE, rfl⟩
  refine ⟨.abs (fun _ x_ W_ => ∃ (o : Sn) (u : Nat), x_ = .agg #[.int .u32 o.tx, o.kv, o.vv, .int .u8 o.mr, .int .u8 o.lv] ∧ o.R W_ n0 u ∧ u ≤ W_.heap.size ∧ bl o.ks = putK (bl s.ks) x.m ∧ bl o.vs = putV (bl s.ks) (bl s.vs) x.m x.x), ⟨fun _ _ _ => rfl, fun _ _ _ _ hu h => (by obtain ⟨o, u, h1, h2, h3, h4⟩ := h; exact ⟨o, u, h1, h2.ext hu, Nat.le_trans h3 hu.size, h4⟩)⟩, fun val h_ W hx he => ⟨trivial, ?_⟩, ?_⟩
  · replace hx := (Upd.drew _ _).trans hx
    replace hB := hB.ext hx
    replace hq := hq.ext hx
    replace ha := ha.ext hx
    replace hs := hs.ext hx
    replace hB1 := hB1.ext hx
    replace hB2 := hB2.ext hx
    have hE := Upd.refl (fun _ => False) W
    have hxs := hx.size
    have hcr_ := c_put s W lo up (by omega) hs x.kv x.m hq.lk hq.k.1 x.xv x.x hq.lx hq.x.1 hsm1
    refine X_fn (vs := [(.agg #[(.int .u32 (s.tx)), s.kv, s.vv, (.int .u8 (s.mr)), (.int .u8 (s.lv))]), x.kv, x.xv]) en7 rfl ?_
    refine CT.mono hcr_ ?_
    rintro v9 w9 ⟨o, rfl, ⟨hoR, _⟩, hok, hov, hu9⟩
    exact ⟨hu9, o, _, rfl, hoR.mono (by omega) (Nat.le_refl _), Nat.le_refl _, hok, hov⟩
  intro val W3 hx3 he3
  replace hx3 := (Upd.drew _ _).trans hx3
  have hz3 := hx3.size
  replace hB := hB.ext hx3
  replace hq := hq.ext hx3
  replace ha := ha.ext hx3
  replace hU := hU.trans (Ext.upd hx3)
  replace hs := hs.ext hx3
  replace hB1 := hB1.ext hx3
  replace hB2 := hB2.ext hx3
  obtain ⟨⟨o, u, hv9, hoR, hul, hok, hov⟩, he3⟩ := he3
  refine L_op rfl (X_nilCheck (v := (ptr b (0))) rfl ⟨_, _, rfl⟩ ?_)
  refine L_op rfl (X_fldP (b := b) (o := 0) (r := 11) Fd40_3 rfl rfl ?_)
  refine L_op0 (X_storeA (b := b) (o := 11) (ys := [(.int .u32 (o.tx)), o.kv, o.vv, (.int .u8 (o.mr)), (.int .u8 (o.lv))]) A27 rfl hv9 (List.forall_mem_cons.2 ⟨rfl, (List.forall_mem_cons.2 ⟨(hoR.k.sv.one), (List.forall_mem_cons.2 ⟨(hoR.v.sv.one), (List.forall_mem_cons.2 ⟨rfl, (List.forall_mem_cons.2 ⟨rfl, (fun _ h => by cases h)⟩)⟩)⟩)⟩)⟩) rfl hB (by show (11 : Nat) + 5 ≤ 77; decide) ?_)
  intro w4 hu4 hb4
  have hz4 := hu4.size
  replace hq := hq.upd hu4 fun i h1 h2 h => by have h : i = b := h; omega
  replace ha := ha.upd hu4 fun i h1 h2 h => by have h : i = b := h; omega
  replace hU := hU.trans (hu4.mono fun i _ h => by have h : i = b := h; show i = b ∨ n0 ≤ i; omega)
  replace hs := hs.upd hu4 fun i h1 h2 h => by have h : i = b := h; omega
  replace hB1 := hB1.upd hu4 fun h => by have h : b1 = b := h; omega
  replace hB2 := hB2.upd hu4 fun h => by have h : b2 = b := h; omega
  replace hoR := hoR.upd hu4 fun i h1 h2 h => by have h : i = b := h; omega
  replace hB : Blk w4 b (cellsM (updM (updM (updM (updM (updM c 11 (.int .u32 (o.tx))) 12 o.kv) 13 o.vv) 14 (.int .u8 (o.mr))) 15 (.int .u8 (o.lv)))).toArray 40 := hb4
  refine L_nil ?_
  refine T_n ?_
  refine W_seq ?_
  refine W_reg ?_
  refine L_op rfl (X_loadA (p := (ptr b2 (0))) (xs := [(.int .i64 (a.e)), (.bool (a.t)), a.kv, a.xv, (.int .i64 (a.n))]) A48 rfl hB2.atAll rfl ?_)
  have hcr_ := c_told a false (.slice none 0 0) [] (.slice none 0 0) [] 0 w4 0 w4.heap.size (Nat.le_refl _) (ha.mono (Nat.zero_le _) (by omega)) (BRd.nil _ _ _) (BRd.nil _ _ _)
  refine L_op rfl (X_fn (vs := [(.agg ([(.int .i64 (a.e)), (.bool (a.t)), a.kv, a.xv, (.int .i64 (a.n))]).toArray), (.bool (false)), (.slice none 0 0), (.slice none 0 0), (.int .i64 (0))]) en64 rfl ?_)
  refine CT.mono hcr_ ?_
  clear hcr_
  rintro _ w5 ⟨rfl, hu5⟩
  have hz5 := hu5.size
  replace hq := hq.ext hu5
  replace ha := ha.ext hu5
  replace hU := hU.trans (Ext.upd hu5)
  replace hs := hs.ext hu5
  replace hB1 := hB1.ext hu5
  replace hB2 := hB2.ext hu5
  replace hoR := hoR.ext hu5
  replace hB := hB.ext hu5
  refine L_op rfl (X_assign (v := (.bool ((toldD a false [] [] 0)))) rfl ?_)
  refine L_nil ?_
  refine T_n ?_
  refine W_ret ?_
  exact BQ_r (End_1 Tryd.results69 (v := .bool (toldD a false [] [] 0)) rfl ⟨rfl, o, 0, hB, hoR.mono (by omega) (by omega), hok, hov, hU.mono fun i hi h => h.resolve_right (by omega)⟩)

theorem c_jGet (c : Nat → Value) (hc1 : OneM c) (b : Nat) (x : Opr) (hxa : x.a = 0) (a : Ans) (w : World) (lo up : Nat) (hup : up ≤ w.heap.size) (hB : Blk w b (cellsM c).toArray 40) (hq : x.R w lo up) (ha : a.R w lo up) (s : Sn) (hwr : c 64 = .bool true) (hD : DrA c s) (hs : s.R w lo up) : CT Tryd.prog 63 #[ptr b 0, (.agg #[(.int .u8 (x.k)), (.int .i64 (x.a)), (.int .i64 (x.b)), x.kv, x.xv]), (.agg #[(.int .i64 (a.e)), (.bool (a.t)), a.kv, a.xv, (.int .i64 (a.n))])] w fun v w' => v = .bool (toldD a (getO (bl s.ks) (bl s.vs) x.m).isSome [] ((getO (bl s.ks) (bl s.vs) x.m).getD []) 0) ∧ Ext w w' := by
  obtain ⟨n0, hn0⟩ : ∃ n, n = w.heap.size := ⟨_, rfl⟩
  have hU : Upd (fun i => n0 ≤ i) w w := Upd.refl _ _
  rw [← hn0] at hup
  have hbl := hB.lt
  rw [← hn0] at hbl
  refine CT_of Tryd.func63 rfl rfl rfl ?_
  refine W_seq ?_
  refine W_reg ?_
  refine L_op rfl (X_box (v := (.agg #[(.int .u8 (x.k)), (.int .i64 (x.a)), (.int .i64 (x.b)), x.kv, x.xv])) (c := ([(.int .u8 (x.k)), (.int .i64 (x.a)), (.int .i64 (x.b)), x.kv, x.xv]).toArray) rfl rfl ?_)
  intro b1 w1 hn1
  have hbn1 := hn1.num; have hbs1 := hn1.size
  replace hB := hB.ext hn1.ext
  replace hq := hq.ext hn1.ext
  replace ha := ha.ext hn1.ext
  replace hU := hU.trans (Ext.upd hn1.ext)
  replace hs := hs.ext hn1.ext
  have hB1 := hn1.blk
  refine L_op rfl (X_box (v := (.agg #[(.int .i64 (a.e)), (.bool (a.t)), a.kv, a.xv, (.int .i64 (a.n))])) (c := ([(.int .i64 (a.e)), (.bool (a.t)), a.kv, a.xv, (.int .i64 (a.n))]).toArray) rfl rfl ?_)
  intro b2 w2 hn2
  have hbn2 := hn2.num; have hbs2 := hn2.size
  replace hB := hB.ext hn2.ext
  replace hq := hq.ext hn2.ext
  replace ha := ha.ext hn2.ext
  replace hU := hU.trans (Ext.upd hn2.ext)
  replace hs := hs.ext hn2.ext
  replace hB1 := hB1.ext hn2.ext
  have hB2 := hn2.blk
  refine L_op rfl (X_assign (v := (.bool (false))) rfl ?_)
  refine L_nil ?_
  refine T_n ?_
  refine W_seq ?_
  obtain ⟨N, hN⟩ : ∃ n, n = w2.heap.size := ⟨_, rfl⟩
  have hB_l := hB.lt
  have hB1_l := hB1.lt
  have hB2_l := hB2.lt
  refine W_drawQ 11 [[], [0], [0, 1], [], [3], [0, 1, 2, 3, 4], [0, 1, 2, 3, 4, 5], [0, 1, 2, 3, 4, 5, 6], [0, 1, 2, 3, 4, 5, 6], [], [0, 1, 2, 3, 4, 5, 6, 7, 9], [0, 1, 2, 3, 4, 5, 6, 7, 8, 9, 10]] (RTy 27 N) (famT 27 N 10) (rty_pre 27 N) famT_sub mixed (by kernel_rfl) ?_
  refine ⟨.det (fun val => (ptr b (0))), ⟨fun _ _ hv => rfl, fun _ _ _ _ _ => trivial⟩, fun val h_ W hx he => ⟨trivial, ?_⟩, ?_⟩
  · replace hx := (rty_pre 27 N).trans (RTy.ext (Upd.drew _ _)) hx
    have hxu := hx.upd
    have hxs := hx.size
    replace hB := hB.upd hxu fun h => by have h : N ≤ b := h; omega
    replace hq := hq.upd hxu fun i h1 h2 h => by have h : N ≤ i := h; omega
    replace ha := ha.upd hxu fun i h1 h2 h => by have h : N ≤ i := h; omega
    replace hs := hs.upd hxu fun i h1 h2 h => by have h : N ≤ i := h; omega
    replace hB1 := hB1.upd hxu fun h => by have h : N ≤ b1 := h; omega
    replace hB2 := hB2.upd hxu fun h => by have h : N ≤ b2 := h; omega
    have hE := Upd.refl (fun _ => False) W
    refine id (X_move (v := (ptr b (0))) rfl ?_)
    exact ⟨hE, rfl⟩
  refine ⟨.det (fun val => (ptr b (0))), ⟨fun _ _ hv => rfl, fun _ _ _ _ _ => trivial⟩, fun val h_ W hx he => ⟨trivial, ?_⟩, ?_⟩
  · replace hx := (rty_pre 27 N).trans (RTy.ext (Upd.drew _ _)) hx
    have hxu := hx.upd
    have hxs := hx.size
    replace hB := hB.upd hxu fun h => by have h : N ≤ b := h; omega
    replace hq := hq.upd hxu fun i h1 h2 h => by have h : N ≤ i := h; omega
    replace ha := ha.upd hxu fun i h1 h2 h => by have h : N ≤ i := h; omega
    replace hs := hs.upd hxu fun i h1 h2 h => by have h : N ≤ i := h; omega
    replace hB1 := hB1.upd hxu fun h => by have h : N ≤ b1 := h; omega
    replace hB2 := hB2.upd hxu fun h => by have h : N ≤ b2 := h; omega
    have hE := Upd.refl (fun _ => False) W
    refine id (X_nilCheck (v := (ptr b (0))) rfl ⟨_, _, rfl⟩ ?_)
    exact ⟨hE, rfl⟩
  refine ⟨.det (fun val => (.agg (cellsM c).toArray)), ⟨fun _ _ hv => rfl, fun _ _ _ _ _ => trivial⟩, fun val h_ W hx he => ⟨trivial, ?_⟩, ?_⟩
  · replace hx := (rty_pre 27 N).trans (RTy.ext (Upd.drew _ _)) hx
    have hxu := hx.upd
    have hxs := hx.size
    replace hB := hB.upd hxu fun h => by have h : N ≤ b := h; omega
    replace hq := hq.upd hxu fun i h1 h2 h => by have h : N ≤ i := h; omega
    replace ha := ha.upd hxu fun i h1 h2 h => by have h : N ≤ i := h; omega
    replace hs := hs.upd hxu fun i h1 h2 h => by have h : N ≤ i := h; omega
    replace hB1 := hB1.upd hxu fun h => by have h : N ≤ b1 := h; omega
    replace hB2 := hB2.upd hxu fun h => by have h : N ≤ b2 := h; omega
    have hE := Upd.refl (fun _ => False) W
    refine id (X_loadA (p := (ptr b (0))) (xs := cellsM c) A40 rfl hB.atAll rfl ?_)
    exact ⟨hE, rfl⟩
  refine ⟨.det (fun val => (ptr b1 (1))), ⟨fun _ _ hv => rfl, fun _ _ _ _ _ => trivial⟩, fun val h_ W hx he => ⟨trivial, ?_⟩, ?_⟩
  · replace hx := (rty_pre 27 N).trans (RTy.ext (Upd.drew _ _)) hx
    have hxu := hx.upd
    have hxs := hx.size
    replace hB := hB.upd hxu fun h => by have h : N ≤ b := h; omega
    replace hq := hq.upd hxu fun i h1 h2 h => by have h : N ≤ i := h; omega
    replace ha := ha.upd hxu fun i h1 h2 h => by have h : N ≤ i := h; omega
    replace hs := hs.upd hxu fun i h1 h2 h => by have h : N ≤ i := h; omega
    replace hB1 := hB1.upd hxu fun h => by have h : N ≤ b1 := h; omega
    replace hB2 := hB2.upd hxu fun h => by have h : N ≤ b2 := h; omega
    have hE := Upd.refl (fun _ => False) W
    refine id (X_fldP (b := b1) (o := 0) (r := 1) Fd43_1 rfl rfl ?_)
    exact ⟨hE, rfl⟩
  refine ⟨.det (fun val => (.int .i64 (x.a))), ⟨fun _ _ hv => rfl, fun _ _ _ _ _ => trivial⟩, fun val h_ W hx he => ⟨trivial, ?_⟩, ?_⟩
  · replace hx := (rty_pre 27 N).trans (RTy.ext (Upd.drew _ _)) hx
    have hxu := hx.upd
    have hxs := hx.size
    replace hB := hB.upd hxu fun h => by have h : N ≤ b := h; omega
    replace hq := hq.upd hxu fun i h1 h2 h => by have h : N ≤ i := h; omega
    replace ha := ha.upd hxu fun i h1 h2 h => by have h : N ≤ i := h; omega
    replace hs := hs.upd hxu fun i h1 h2 h => by have h : N ≤ i := h; omega
    replace hB1 := hB1.upd hxu fun h => by have h : N ≤ b1 := h; omega
    replace hB2 := hB2.upd hxu fun h => by have h : N ≤ b2 := h; omega
    have hE := Upd.refl (fun _ => False) W
    refine id (X_load (p := (ptr b1 (1))) (v := (.int .i64 (x.a))) T3 rfl (hB1.at1 rfl) ?_)
    exact ⟨hE, rfl⟩
  refine ⟨.det (fun val => (.tuple #[(.agg #[(.int .u32 (s.tx)), s.kv, s.vv, (.int .u8 (s.mr)), (.int .u8 (s.lv))]), .bool true])), ⟨fun _ _ hv => rfl, fun _ _ _ _ _ => trivial⟩, fun val h_ W hx he => ⟨trivial, ?_⟩, ?_⟩
  · replace hx := (rty_pre 27 N).trans (RTy.ext (Upd.drew _ _)) hx
    have hxu := hx.upd
    have hxs := hx.size
    replace hB := hB.upd hxu fun h => by have h : N ≤ b := h; omega
    replace hq := hq.upd hxu fun i h1 h2 h => by have h : N ≤ i := h; omega
    replace ha := ha.upd hxu fun i h1 h2 h => by have h : N ≤ i := h; omega
    replace hs := hs.upd hxu fun i h1 h2 h => by have h : N ≤ i := h; omega
    replace hB1 := hB1.upd hxu fun h => by have h : N ≤ b1 := h; omega
    replace hB2 := hB2.upd hxu fun h => by have h : N ≤ b2 := h; omega
    have hcr_ := c_row c hc1 true hwr x.a hxa W lo up (by omega)
    refine X_fn (vs := [(.agg (cellsM c).toArray), .int .i64 x.a]) en43 rfl ?_
    refine CT.mono hcr_ ?_
    rintro _ w9 ⟨rfl, hu9⟩
    exact ⟨hu9, by rw [hD.row]⟩
  refine ⟨.det (fun val => (.tuple #[(.agg #[(.int .u32 (s.tx)), s.kv, s.vv, (.int .u8 (s.mr)), (.int .u8 (s.lv))]), (.bool (true))])), ⟨fun _ _ hv => rfl, fun _ _ _ _ _ => trivial⟩, fun val h_ W hx he => ⟨trivial, ?_⟩, ?_⟩
  · replace hx := (rty_pre 27 N).trans (RTy.ext (Upd.drew _ _)) hx
    have hxu := hx.upd
    have hxs := hx.size
    replace hB := hB.upd hxu fun h => by have h : N ≤ b := h; omega
    replace hq := hq.upd hxu fun i h1 h2 h => by have h : N ≤ i := h; omega
    replace ha := ha.upd hxu fun i h1 h2 h => by have h : N ≤ i := h; omega
    replace hs := hs.upd hxu fun i h1 h2 h => by have h : N ≤ i := h; omega
    replace hB1 := hB1.upd hxu fun h => by have h : N ≤ b1 := h; omega
    replace hB2 := hB2.upd hxu fun h => by have h : N ≤ b2 := h; omega
    have hE := Upd.refl (fun _ => False) W
    refine id (X_move (v := (.tuple #[(.agg #[(.int .u32 (s.tx)), s.kv, s.vv, (.int .u8 (s.mr)), (.int .u8 (s.lv))]), (.bool (true))])) rfl ?_)
    exact ⟨hE, rfl⟩
  refine ⟨.det (fun val => (.agg #[(.int .u32 (s.tx)), s.kv, s.vv, (.int .u8 (s.mr)), (.int .u8 (s.lv))])), ⟨fun _ _ hv => rfl, fun _ _ _ _ _ => trivial⟩, fun val h_ W hx he => ⟨trivial, ?_⟩, ?_⟩
  · replace hx := (rty_pre 27 N).trans (RTy.ext (Upd.drew _ _)) hx
    have hxu := hx.upd
    have hxs := hx.size
    replace hB := hB.upd hxu fun h => by have h : N ≤ b := h; omega
    replace hq := hq.upd hxu fun i h1 h2 h => by have h : N ≤ i := h; omega
    replace ha := ha.upd hxu fun i h1 h2 h => by have h : N ≤ i := h; omega
    replace hs := hs.upd hxu fun i h1 h2 h => by have h : N ≤ i := h; omega
    replace hB1 := hB1.upd hxu fun h => by have h : N ≤ b1 := h; omega
    replace hB2 := hB2.upd hxu fun h => by have h : N ≤ b2 := h; omega
    have hE := Upd.refl (fun _ => False) W
    refine id (X_extract (l := [(.agg #[(.int .u32 (s.tx)), s.kv, s.vv, (.int .u8 (s.mr)), (.int .u8 (s.lv))]), (.bool (true))]) (v := (.agg #[(.int .u32 (s.tx)), s.kv, s.vv, (.int .u8 (s.mr)), (.int .u8 (s.lv))])) rfl rfl ?_)
    exact ⟨hE, rfl⟩
  refine ⟨.det (fun val => (.bool (true))), ⟨fun _ _ hv => rfl, fun _ _ _ _ _ => trivial⟩, fun val h_ W hx he => ⟨trivial, ?_⟩, ?_⟩
  · replace hx := (rty_pre 27 N).trans (RTy.ext (Upd.drew _ _)) hx
    have hxu := hx.upd
    have hxs := hx.size
    replace hB := hB.upd hxu fun h => by have h : N ≤ b := h; omega
    replace hq := hq.upd hxu fun i h1 h2 h => by have h : N ≤ i := h; omega
    replace ha := ha.upd hxu fun i h1 h2 h => by have h : N ≤ i := h; omega
    replace hs := hs.upd hxu fun i h1 h2 h => by have h : N ≤ i := h; omega
    replace hB1 := hB1.upd hxu fun h => by have h : N ≤ b1 := h; omega
    replace hB2 := hB2.upd hxu fun h => by have h : N ≤ b2 := h; omega
    have hE := Upd.refl (fun _ => False) W
    refine id (X_extract (l := [(.agg #[(.int .u32 (s.tx)), s.kv, s.vv, (.int .u8 (s.mr)), (.int .u8 (s.lv))]), (.bool (true))]) (v := (.bool (true))) rfl rfl ?_)
    exact ⟨hE, rfl⟩
  refine ⟨.abs (fun _ x_ W_ => ∃ b, x_ = ptr b 0 ∧ N ≤ b ∧ ∃ c, Blk W_ b c 27 ∧ c.size = 5), ⟨fun _ _ _ => rfl, fun _ _ _ _ hu h => (by obtain ⟨b, h1, h2, h3⟩ := h; exact ⟨b, h1, h2, any_rty h3 (aft_rty hu)⟩)⟩, fun val h_ W hx he => ⟨trivial, ?_⟩, ?_⟩
  · replace hx := (rty_pre 27 N).trans (RTy.ext (Upd.drew _ _)) hx
    have hxu := hx.upd
    have hxs := hx.size
    replace hB := hB.upd hxu fun h => by have h : N ≤ b := h; omega
    replace hq := hq.upd hxu fun i h1 h2 h => by have h : N ≤ i := h; omega
    replace ha := ha.upd hxu fun i h1 h2 h => by have h : N ≤ i := h; omega
    replace hs := hs.upd hxu fun i h1 h2 h => by have h : N ≤ i := h; omega
    replace hB1 := hB1.upd hxu fun h => by have h : N ≤ b1 := h; omega
    replace hB2 := hB2.upd hxu fun h => by have h : N ≤ b2 := h; omega
    refine X_alloc (z := .agg #[(.int .u32 (0)), (.slice none 0 0), (.slice none 0 0), (.int .u8 (0)), (.int .u8 (0))]) (c := #[(.int .u32 (0)), (.slice none 0 0), (.slice none 0 0), (.int .u8 (0)), (.int .u8 (0))]) Zv27 rfl ?_
    intro b9 w9 hn9
    have hb9 := hn9.num
    exact ⟨hn9.ext, b9, rfl, by omega, _, hn9.blk, rfl⟩
  refine ⟨.abs (fun val _ W_ => ∃ b, val 9 = ptr b 0 ∧ N ≤ b ∧ Blk W_ b #[(.int .u32 (s.tx)), s.kv, s.vv, (.int .u8 (s.mr)), (.int .u8 (s.lv))] 27), ⟨fun _ _ hv => (by simp only [hv 9 rfl]), fun _ _ _ _ hu h => (by obtain ⟨b, h1, h2, h3⟩ := h; exact ⟨b, h1, h2, h3.ext (aft_ext hu)⟩)⟩, fun val h_ W hx he => ⟨trivial, ?_⟩, ?_⟩
  · replace hx := (rty_pre 27 N).trans (RTy.ext (Upd.drew _ _)) hx
    have hxu := hx.upd
    have hxs := hx.size
    replace hB := hB.upd hxu fun h => by have h : N ≤ b := h; omega
    replace hq := hq.upd hxu fun i h1 h2 h => by have h : N ≤ i := h; omega
    replace ha := ha.upd hxu fun i h1 h2 h => by have h : N ≤ i := h; omega
    replace hs := hs.upd hxu fun i h1 h2 h => by have h : N ≤ i := h; omega
    replace hB1 := hB1.upd hxu fun h => by have h : N ≤ b1 := h; omega
    replace hB2 := hB2.upd hxu fun h => by have h : N ≤ b2 := h; omega
    obtain ⟨⟨bt, hbt, hNt, ct, hBt, hst⟩, _⟩ := he
    refine X_storeW (b := bt) (ys := [(.int .u32 (s.tx)), s.kv, s.vv, (.int .u8 (s.mr)), (.int .u8 (s.lv))]) A27 hbt rfl (List.forall_mem_cons.2 ⟨rfl, (List.forall_mem_cons.2 ⟨(hs.k.sv.one), (List.forall_mem_cons.2 ⟨(hs.v.sv.one), (List.forall_mem_cons.2 ⟨rfl, (List.forall_mem_cons.2 ⟨rfl, (fun _ h => by cases h)⟩)⟩)⟩)⟩)⟩) rfl hBt hst ?_
    intro w9 hu9 hb9
    exact ⟨RTy.put hNt hBt hb9 (by rw [hst]; rfl) hu9, bt, hbt, hNt, hb9⟩
  intro val W3 hx3 he3
  replace hx3 := (rty_pre 27 N).trans (RTy.ext (Upd.drew _ _)) hx3
  have hxu3 := hx3.upd
  have hz3 := hx3.size
  replace hB := hB.upd hxu3 fun h => by have h : N ≤ b := h; omega
  replace hq := hq.upd hxu3 fun i h1 h2 h => by have h : N ≤ i := h; omega
  replace ha := ha.upd hxu3 fun i h1 h2 h => by have h : N ≤ i := h; omega
  replace hU := hU.trans (hxu3.mono fun i _ h => by have h : N ≤ i := h; show n0 ≤ i; omega)
  replace hs := hs.upd hxu3 fun i h1 h2 h => by have h : N ≤ i := h; omega
  replace hB1 := hB1.upd hxu3 fun h => by have h : N ≤ b1 := h; omega
  replace hB2 := hB2.upd hxu3 fun h => by have h : N ≤ b2 := h; omega
  obtain ⟨⟨bt2, hbt2, hNt2, hBt2⟩, ⟨bt0, hbt0, _⟩, _⟩ := he3
  have hbt2l := hBt2.lt
  refine L_op rfl (X_assign (v := (.bool (true))) rfl ?_)
  refine L_nil ?_
  refine T_n ?_
  refine W_seq ?_
  refine W_reg ?_
  refine L_op rfl (X_loadA (p := ptr bt2 0) (xs := [(.int .u32 (s.tx)), s.kv, s.vv, (.int .u8 (s.mr)), (.int .u8 (s.lv))]) A27 hbt2 hBt2.atAll rfl ?_)
  refine L_op rfl (X_fldP (b := b1) (o := 0) (r := 3) Fd43_3 rfl rfl ?_)
  refine L_op rfl (X_load (p := (ptr b1 (3))) (v := x.kv) T23 rfl (hB1.at1 rfl) ?_)
  obtain ⟨N9, hN9⟩ : ∃ n, n = W3.heap.size := ⟨_, rfl⟩
  have hcr_ := c_get s W3 lo up (by omega) hs x.kv x.m hq.lk hq.k.1
  refine L_op rfl (X_fn (vs := [(.agg ([(.int .u32 (s.tx)), s.kv, s.vv, (.int .u8 (s.mr)), (.int .u8 (s.lv))]).toArray), x.kv]) en5 rfl ?_)
  refine CT.mono hcr_ ?_
  clear hcr_
  rintro _ w4 ⟨y, rfl, hY, hu4⟩
  have hz4 := hu4.size
  obtain ⟨M9, hM9⟩ : ∃ n, n = w4.heap.size := ⟨_, rfl⟩
  rw [← hM9] at hY
  replace hB := hB.ext hu4
  replace hq := hq.ext hu4
  replace ha := ha.ext hu4
  replace hU := hU.trans (Ext.upd hu4)
  replace hs := hs.ext hu4
  replace hB1 := hB1.ext hu4
  replace hB2 := hB2.ext hu4
  replace hBt2 := hBt2.ext hu4
  replace hY := hY.rd
  refine L_op rfl (X_move (v := (.tuple #[y, (.bool ((getO (bl s.ks) (bl s.vs) x.m).isSome))])) rfl ?_)
  refine L_op rfl (X_extract (l := [y, (.bool ((getO (bl s.ks) (bl s.vs) x.m).isSome))]) (v := y) rfl rfl ?_)
  refine L_op rfl (X_extract (l := [y, (.bool ((getO (bl s.ks) (bl s.vs) x.m).isSome))]) (v := (.bool ((getO (bl s.ks) (bl s.vs) x.m).isSome))) rfl rfl ?_)
  refine L_op rfl (X_assign (v := y) rfl ?_)
  refine L_op rfl (X_assign (v := (.bool ((getO (bl s.ks) (bl s.vs) x.m).isSome))) rfl ?_)
  refine L_nil ?_
  refine T_n ?_
  refine W_seq ?_
  refine W_reg ?_
  refine L_op rfl (X_loadA (p := (ptr b2 (0))) (xs := [(.int .i64 (a.e)), (.bool (a.t)), a.kv, a.xv, (.int .i64 (a.n))]) A48 rfl hB2.atAll rfl ?_)
  refine L_op rfl (X_move (v := (.bool ((getO (bl s.ks) (bl s.vs) x.m).isSome))) rfl ?_)
  refine L_op rfl (X_move (v := y) rfl ?_)
  have hcr_ := c_told a (getO (bl s.ks) (bl s.vs) x.m).isSome (.slice none 0 0) [] y ((getO (bl s.ks) (bl s.vs) x.m).getD []) 0 w4 0 w4.heap.size (Nat.le_refl _) (ha.mono (Nat.zero_le _) (by omega)) (BRd.nil _ _ _) (hY.mono (Nat.zero_le _) (by omega))
  refine L_op rfl (X_fn (vs := [(.agg ([(.int .i64 (a.e)), (.bool (a.t)), a.kv, a.xv, (.int .i64 (a.n))]).toArray), (.bool ((getO (bl s.ks) (bl s.vs) x.m).isSome)), (.slice none 0 0), y, (.int .i64 (0))]) en64 rfl ?_)
  refine CT.mono hcr_ ?_
  clear hcr_
  rintro _ w5 ⟨rfl, hu5⟩
  have hz5 := hu5.size
  replace hB := hB.ext hu5
  replace hq := hq.ext hu5
  replace ha := ha.ext hu5
  replace hU := hU.trans (Ext.upd hu5)
  replace hs := hs.ext hu5
  replace hB1 := hB1.ext hu5
  replace hB2 := hB2.ext hu5
  replace hBt2 := hBt2.ext hu5
  replace hY := hY.ext hu5
  refine L_op rfl (X_assign (v := (.bool ((toldD a (getO (bl s.ks) (bl s.vs) x.m).isSome [] ((getO (bl s.ks) (bl s.vs) x.m).getD []) 0)))) rfl ?_)
  refine L_nil ?_
  refine T_n ?_
  refine W_ret ?_
  exact BQ_r (End_1 Tryd.results63 (v := .bool (toldD a (getO (bl s.ks) (bl s.vs) x.m).isSome [] ((getO (bl s.ks) (bl s.vs) x.m).getD []) 0)) rfl ⟨rfl, hU.own hn0⟩)
end Go.Proofs.YthncpmablodbjaaDoor
