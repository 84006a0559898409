/-
  The model: what is refused. (Printed by wip/gen/t31k.py of this repo.)
-/
import Derived.Test.YthncpmablodbjaaDoorJudgeD
namespace Go.Proofs.YthncpmablodbjaaDoor
open Go Go.SL Go.Proofs
set_option linter.unusedVariables false

theorem sAt {w : World} {b n : Nat} {c : Array Value} {t : TypeId} {v : Value} (hv : v = .slice (some ⟨b, 0, none⟩) n n) (h : Blk w b c t) (o : Nat) {ys : List Value} (hy : (c.toList.drop o).take ys.length = ys) : At w (pof v o) ys := by
  subst hv
  have e : pof (.slice (some ⟨b, 0, none⟩) n n) o = ptr b (0 + o) := by show Value.pointer (some (Addr.add ⟨b, 0, none⟩ o)) = _; rw [addr_add]; rfl
  rw [e, Nat.zero_add]
  refine h.at_ o ys fun j u hj => ?_
  rw [← hy, List.getElem?_take] at hj
  split at hj
  · rw [List.getElem?_drop] at hj; simpa using hj
  · cases hj
theorem sSV {b n : Nat} {v : Value} (hv : v = .slice (some ⟨b, 0, none⟩) n n) (hn : n ≤ maxLen) : SV v n := by subst hv; exact ⟨_, _, rfl, Nat.le_refl _, hn, fun _ => ⟨b, 0, rfl⟩⟩

theorem c_refused0 (c : Nat → Value) (hc1 : OneM c) (wr : Bool) (hwr : c 64 = .bool wr) (h65 : c 65 = .bool false) (x : Opr) (hxk : x.k = 0) (hxa : x.a = 0) (w : World) (lo up : Nat) (hup : up ≤ w.heap.size) (hq : x.R w lo up) : CT Tryd.prog 24 #[(.agg (cellsM c).toArray), (.agg #[(.int .u8 (x.k)), (.int .i64 (x.a)), (.int .i64 (x.b)), x.kv, x.xv])] w fun v w' => v = .int .i64 0 ∧ Ext w w' := by
  obtain ⟨n0, hn0⟩ : ∃ n, n = w.heap.size := ⟨_, rfl⟩
  have hU : Upd (fun i => n0 ≤ i) w w := Upd.refl _ _
  rw [← hn0] at hup
  refine CT_of Tryd.func24 rfl rfl rfl ?_
  refine W_seq ?_
  refine W_reg ?_
  refine L_op rfl (X_box (v := (.agg (cellsM c).toArray)) (c := ((cellsM c)).toArray) rfl rfl ?_)
  intro b1 w1 hn1
  have hbn1 := hn1.num; have hbs1 := hn1.size
  replace hq := hq.ext hn1.ext
  replace hU := hU.trans (Ext.upd hn1.ext)
  have hB1 := hn1.blk
  refine L_op rfl (X_box (v := (.agg #[(.int .u8 (x.k)), (.int .i64 (x.a)), (.int .i64 (x.b)), x.kv, x.xv])) (c := ([(.int .u8 (x.k)), (.int .i64 (x.a)), (.int .i64 (x.b)), x.kv, x.xv]).toArray) rfl rfl ?_)
  intro b2 w2 hn2
  have hbn2 := hn2.num; have hbs2 := hn2.size
  replace hq := hq.ext hn2.ext
  replace hU := hU.trans (Ext.upd hn2.ext)
  replace hB1 := hB1.ext hn2.ext
  have hB2 := hn2.blk
  refine L_op rfl (X_assign (v := (.int .i64 (0))) rfl ?_)
  refine L_nil ?_
  refine T_n ?_
  refine W_seq ?_
  refine W_block ?_
  refine W_seq ?_
  refine W_reg ?_
  refine L_op rfl (X_fldP (b := b2) (o := 0) (r := 0) Fd43_0 rfl rfl ?_)
  refine L_op rfl (X_load (p := (ptr b2 (0))) (v := (.int .u8 (x.k))) T5 rfl (hB2.at1 rfl) ?_)
  refine L_op rfl (X_cmp (k := .u8) (a := x.k) (b := 17) (r := false) rfl rfl rfl (decide_eq_false (p := ((17) : Int) ≤ ((x.k) : Int)) (by omega)) ?_)
  refine L_op rfl (X_assign (v := (.bool (false))) rfl ?_)
  refine L_nil ?_
  refine T_n ?_
  refine W_cf rfl ?_
  refine W_seq ?_
  refine W_reg ?_
  refine L_op rfl (X_fldP (b := b1) (o := 0) (r := 65) Fd40_7 rfl rfl ?_)
  refine L_op rfl (X_load (p := (ptr b1 (65))) (v := (.bool (false))) T4 rfl (hB1.at1 (congrArg some h65)) ?_)
  refine L_op rfl (X_move (v := (.bool (false))) rfl ?_)
  refine L_gn (dj := 14) (t := false) rfl rfl rfl rfl ?_
  refine L_gn (dj := 14) (t := false) rfl rfl rfl rfl ?_
  refine L_gn (dj := 14) (t := false) rfl rfl rfl rfl ?_
  refine L_op rfl (X_pick (t := false) (v := (.bool (false))) rfl rfl ?_)
  refine L_op rfl (X_assign (v := (.bool (false))) rfl ?_)
  refine L_nil ?_
  refine T_n ?_
  refine W_cf rfl ?_
  refine W_skip ?_
  refine B_n ?_
  refine T_n ?_
  refine W_seq ?_
  refine W_seq ?_
  refine W_draw 6 [[], [], [1], [0, 1, 2], [0, 1, 2, 3], []] mixed (by kernel_rfl) ?_
  refine ⟨.abs (fun _ x_ W_ => ∃ b F, x_ = .map (some b) ∧ RefM W_ b F), ⟨fun _ _ _ => rfl, fun _ _ _ _ hu h => (by obtain ⟨b, F, h1, h2⟩ := h; exact ⟨b, F, h1, h2.ext hu⟩)⟩, fun val h_ W hx he => ⟨trivial, ?_⟩, ?_⟩
  · replace hx := (Upd.drew _ _).trans hx
    replace hq := hq.ext hx
    replace hB1 := hB1.ext hx
    replace hB2 := hB2.ext hx
    have hE := Upd.refl (fun _ => False) W
    have hxs := hx.size
    have hcr_ := c_refusals W
    refine X_fn (vs := []) en32 rfl ?_
    refine CT.mono hcr_ ?_
    rintro v9 w9 ⟨b, F, rfl, hR9, hu9⟩
    exact ⟨hu9, b, F, rfl, hR9⟩
  refine ⟨.det (fun val => (ptr b2 (0))), ⟨fun _ _ hv => rfl, fun _ _ _ _ _ => trivial⟩, fun val h_ W hx he => ⟨trivial, ?_⟩, ?_⟩
  · replace hx := (Upd.drew _ _).trans hx
    replace hq := hq.ext hx
    replace hB1 := hB1.ext hx
    replace hB2 := hB2.ext hx
    have hE := Upd.refl (fun _ => False) W
    refine id (X_fldP (b := b2) (o := 0) (r := 0) Fd43_0 rfl rfl ?_)
    exact ⟨hE, rfl⟩
  refine ⟨.det (fun val => (.int .u8 (x.k))), ⟨fun _ _ hv => rfl, fun _ _ _ _ _ => trivial⟩, fun val h_ W hx he => ⟨trivial, ?_⟩, ?_⟩
  · replace hx := (Upd.drew _ _).trans hx
    replace hq := hq.ext hx
    replace hB1 := hB1.ext hx
    replace hB2 := hB2.ext hx
    have hE := Upd.refl (fun _ => False) W
    refine id (X_load (p := (ptr b2 (0))) (v := (.int .u8 (x.k))) T5 rfl (hB2.at1 rfl) ?_)
    exact ⟨hE, rfl⟩
  refine ⟨.abs (fun _ x_ W_ => ∃ b, x_ = .slice (some ⟨b, 0, none⟩) 1 1 ∧ Blk W_ b #[.int .i64 140, Fn 42] 80), ⟨fun _ _ _ => rfl, fun _ _ _ _ hu h => (by obtain ⟨b, h1, h2⟩ := h; exact ⟨b, h1, h2.ext hu⟩)⟩, fun val h_ W hx he => ⟨trivial, ?_⟩, ?_⟩
  · replace hx := (Upd.drew _ _).trans hx
    replace hq := hq.ext hx
    replace hB1 := hB1.ext hx
    replace hB2 := hB2.ext hx
    have hE := Upd.refl (fun _ => False) W
    obtain ⟨⟨bm, F, hbm, hRM⟩, _⟩ := he
    obtain ⟨v0, hv0, hg0⟩ := hRM.k0
    obtain ⟨bs, hbs, hBs⟩ := hg0.1 rfl
    refine X_lookup (k := x.k) (v := v0) Tryd.underlying76 Tryd.underlying5 hbm rfl hRM.map (by rw [hxk]; exact hv0) ?_
    exact ⟨Upd.refl _ _, bs, hbs, hBs⟩
  refine ⟨.det (fun val => (.int .i64 (1))), ⟨fun _ _ hv => rfl, fun _ _ _ _ _ => trivial⟩, fun val h_ W hx he => ⟨trivial, ?_⟩, ?_⟩
  · replace hx := (Upd.drew _ _).trans hx
    replace hq := hq.ext hx
    replace hB1 := hB1.ext hx
    replace hB2 := hB2.ext hx
    have hE := Upd.refl (fun _ => False) W
    obtain ⟨⟨bs, hbs, hBs⟩, _⟩ := he
    refine X_len (v := val 3) (n := 1) Tryd.underlying75 rfl (sSV hbs (by decide)) ?_
    exact ⟨Upd.refl _ _, rfl⟩
  refine ⟨.det (fun val => (.int .i64 (0))), ⟨fun _ _ hv => rfl, fun _ _ _ _ _ => trivial⟩, fun val h_ W hx he => ⟨trivial, ?_⟩, ?_⟩
  · replace hx := (Upd.drew _ _).trans hx
    replace hq := hq.ext hx
    replace hB1 := hB1.ext hx
    replace hB2 := hB2.ext hx
    have hE := Upd.refl (fun _ => False) W
    refine id (X_move (v := (.int .i64 (0))) rfl ?_)
    exact ⟨hE, rfl⟩
  intro val W3 hx3 he3
  replace hx3 := (Upd.drew _ _).trans hx3
  have hz3 := hx3.size
  replace hq := hq.ext hx3
  replace hU := hU.trans (Ext.upd hx3)
  replace hB1 := hB1.ext hx3
  replace hB2 := hB2.ext hx3
  obtain ⟨⟨bs, hbs, hBs⟩, he3⟩ := he3
  obtain ⟨⟨bm, F, hbm, hRM⟩, he3⟩ := he3
  have hbsl := hBs.lt
  refine L_nil ?_
  refine T_n ?_
  refine W_block ?_
  refine W_unroll 2 ?_
  refine Rounds_s (m := 1) ?_
  refine W_seq ?_
  refine W_reg ?_
  refine L_op rfl (X_cmp (k := .i64) (a := 0) (b := 1) (r := true) rfl rfl rfl rfl ?_)
  refine L_nil ?_
  refine T_n ?_
  refine W_seq ?_
  refine W_ct rfl ?_
  refine W_skip ?_
  refine T_n ?_
  refine W_seq ?_
  refine W_block ?_
  refine W_seq ?_
  refine W_reg ?_
  refine L_op rfl (X_idx (v := (val 3)) (n := 1) (k := .i64) (i := 0) S75 rfl (sSV hbs (by decide)) rfl (by omega) (by omega) ?_)
  refine L_op rfl (X_loadA (xs := [(.int .i64 (140)), (.func (.func 42) #[] #[])]) A80 rfl (sAt hbs hBs 0 rfl) rfl ?_)
  refine L_op rfl (X_alloc (z := (.agg #[(.int .i64 (0)), .nilFunc])) (c := #[(.int .i64 (0)), .nilFunc]) Zv80 rfl ?_)
  intro b4 w4 hn4
  have hbn4 := hn4.num; have hbs4 := hn4.size
  replace hq := hq.ext hn4.ext
  replace hU := hU.trans (Ext.upd hn4.ext)
  replace hB1 := hB1.ext hn4.ext
  replace hB2 := hB2.ext hn4.ext
  replace hBs := hBs.ext hn4.ext
  have hB4 := hn4.blk
  refine L_op0 (X_storeW (b := b4) (ys := [(.int .i64 (140)), (.func (.func 42) #[] #[])]) A80 rfl rfl (List.forall_mem_cons.2 ⟨rfl, (List.forall_mem_cons.2 ⟨rfl, (fun _ h => by cases h)⟩)⟩) rfl hB4 rfl ?_)
  intro w6 hu6 hb6
  have hz6 := hu6.size
  replace hq := hq.upd hu6 fun i h1 h2 h => by have h : i = b4 := h; omega
  replace hU := hU.trans (hu6.mono fun i _ h => by have h : i = b4 := h; show n0 ≤ i; omega)
  replace hB1 := hB1.upd hu6 fun h => by have h : b1 = b4 := h; omega
  replace hB2 := hB2.upd hu6 fun h => by have h : b2 = b4 := h; omega
  replace hBs := hBs.upd hu6 fun h => by have h : bs = b4 := h; omega
  replace hB4 : Blk w6 b4 #[(.int .i64 (140)), (.func (.func 42) #[] #[])] 80 := hb6
  refine L_nil ?_
  refine T_n ?_
  refine W_seq ?_
  refine W_reg ?_
  refine L_op rfl (X_fldP (b := b4) (o := 0) (r := 1) Fd80_1 rfl rfl ?_)
  refine L_op rfl (X_load (p := (ptr b4 (1))) (v := (.func (.func 42) #[] #[])) T78 rfl (hB4.at1 rfl) ?_)
  refine L_op rfl (X_loadA (p := (ptr b1 (0))) (xs := cellsM c) A40 rfl hB1.atAll rfl ?_)
  refine L_op rfl (X_loadA (p := (ptr b2 (0))) (xs := [(.int .u8 (x.k)), (.int .i64 (x.a)), (.int .i64 (x.b)), x.kv, x.xv]) A43 rfl hB2.atAll rfl ?_)
  have hcr_ := c_rf1 c hc1 wr hwr x hxa w6 lo up (by omega) hq
  refine L_op rfl (X_cl (g := 42) (cap := []) (vs := [(.agg (cellsM c).toArray), (.agg ([(.int .u8 (x.k)), (.int .i64 (x.a)), (.int .i64 (x.b)), x.kv, x.xv]).toArray)]) en42 rfl rfl ?_)
  refine CT.mono hcr_ ?_
  clear hcr_
  rintro _ w7 ⟨rfl, hu7⟩
  have hz7 := hu7.size
  replace hq := hq.ext hu7
  replace hU := hU.trans (Ext.upd hu7)
  replace hB1 := hB1.ext hu7
  replace hB2 := hB2.ext hu7
  replace hBs := hBs.ext hu7
  replace hB4 := hB4.ext hu7
  refine L_nil ?_
  refine T_n ?_
  refine W_cf rfl ?_
  refine W_skip ?_
  refine B_n ?_
  refine T_n ?_
  refine W_reg ?_
  refine L_op rfl (X_arith (k := .i64) (a := 0) (b := 1) (r := 1) rfl rfl rfl rfl ?_)
  refine L_op rfl (X_move (v := (.int .i64 (1))) rfl ?_)
  refine L_nil ?_
  refine T_n ?_
  refine Rounds_s (m := 0) ?_
  refine W_seq ?_
  refine W_reg ?_
  refine L_op rfl (X_cmp (k := .i64) (a := 1) (b := 1) (r := false) rfl rfl rfl rfl ?_)
  refine L_nil ?_
  refine T_n ?_
  refine W_seq ?_
  refine W_cf rfl ?_
  refine W_exit ?_
  refine T_e ?_
  refine T_e ?_
  refine B_x ?_
  refine T_n ?_
  refine W_seq ?_
  refine W_reg ?_
  refine L_op rfl (X_assign (v := (.int .i64 (0))) rfl ?_)
  refine L_nil ?_
  refine T_n ?_
  refine W_ret ?_
  exact BQ_r (End_1 Tryd.results24 (v := .int .i64 0) rfl ⟨rfl, hU.own hn0⟩)

theorem c_refused2 (c : Nat → Value) (hc1 : OneM c) (wr : Bool) (hwr : c 64 = .bool wr) (h65 : c 65 = .bool false) (x : Opr) (hxk : x.k = 2) (w : World) (lo up : Nat) (hup : up ≤ w.heap.size) (hq : x.R w lo up) : CT Tryd.prog 24 #[(.agg (cellsM c).toArray), (.agg #[(.int .u8 (x.k)), (.int .i64 (x.a)), (.int .i64 (x.b)), x.kv, x.xv])] w fun v w' => v = .int .i64 (if wr = true then 250 else 0) ∧ Ext w w' := by
  obtain ⟨n0, hn0⟩ : ∃ n, n = w.heap.size := ⟨_, rfl⟩
  have hU : Upd (fun i => n0 ≤ i) w w := Upd.refl _ _
  rw [← hn0] at hup
  refine CT_of Tryd.func24 rfl rfl rfl ?_
  refine W_seq ?_
  refine W_reg ?_
  refine L_op rfl (X_box (v := (.agg (cellsM c).toArray)) (c := ((cellsM c)).toArray) rfl rfl ?_)
  intro b1 w1 hn1
  have hbn1 := hn1.num; have hbs1 := hn1.size
  replace hq := hq.ext hn1.ext
  replace hU := hU.trans (Ext.upd hn1.ext)
  have hB1 := hn1.blk
  refine L_op rfl (X_box (v := (.agg #[(.int .u8 (x.k)), (.int .i64 (x.a)), (.int .i64 (x.b)), x.kv, x.xv])) (c := ([(.int .u8 (x.k)), (.int .i64 (x.a)), (.int .i64 (x.b)), x.kv, x.xv]).toArray) rfl rfl ?_)
  intro b2 w2 hn2
  have hbn2 := hn2.num; have hbs2 := hn2.size
  replace hq := hq.ext hn2.ext
  replace hU := hU.trans (Ext.upd hn2.ext)
  replace hB1 := hB1.ext hn2.ext
  have hB2 := hn2.blk
  refine L_op rfl (X_assign (v := (.int .i64 (0))) rfl ?_)
  refine L_nil ?_
  refine T_n ?_
  refine W_seq ?_
  refine W_block ?_
  refine W_seq ?_
  refine W_reg ?_
  refine L_op rfl (X_fldP (b := b2) (o := 0) (r := 0) Fd43_0 rfl rfl ?_)
  refine L_op rfl (X_load (p := (ptr b2 (0))) (v := (.int .u8 (x.k))) T5 rfl (hB2.at1 rfl) ?_)
  refine L_op rfl (X_cmp (k := .u8) (a := x.k) (b := 17) (r := false) rfl rfl rfl (decide_eq_false (p := ((17) : Int) ≤ ((x.k) : Int)) (by omega)) ?_)
  refine L_op rfl (X_assign (v := (.bool (false))) rfl ?_)
  refine L_nil ?_
  refine T_n ?_
  refine W_cf rfl ?_
  refine W_seq ?_
  refine W_reg ?_
  refine L_op rfl (X_fldP (b := b1) (o := 0) (r := 65) Fd40_7 rfl rfl ?_)
  refine L_op rfl (X_load (p := (ptr b1 (65))) (v := (.bool (false))) T4 rfl (hB1.at1 (congrArg some h65)) ?_)
  refine L_op rfl (X_move (v := (.bool (false))) rfl ?_)
  refine L_gn (dj := 14) (t := false) rfl rfl rfl rfl ?_
  refine L_gn (dj := 14) (t := false) rfl rfl rfl rfl ?_
  refine L_gn (dj := 14) (t := false) rfl rfl rfl rfl ?_
  refine L_op rfl (X_pick (t := false) (v := (.bool (false))) rfl rfl ?_)
  refine L_op rfl (X_assign (v := (.bool (false))) rfl ?_)
  refine L_nil ?_
  refine T_n ?_
  refine W_cf rfl ?_
  refine W_skip ?_
  refine B_n ?_
  refine T_n ?_
  refine W_seq ?_
  refine W_seq ?_
  refine W_draw 6 [[], [], [1], [0, 1, 2], [0, 1, 2, 3], []] mixed (by kernel_rfl) ?_
  refine ⟨.abs (fun _ x_ W_ => ∃ b F, x_ = .map (some b) ∧ RefM W_ b F), ⟨fun _ _ _ => rfl, fun _ _ _ _ hu h => (by obtain ⟨b, F, h1, h2⟩ := h; exact ⟨b, F, h1, h2.ext hu⟩)⟩, fun val h_ W hx he => ⟨trivial, ?_⟩, ?_⟩
  · replace hx := (Upd.drew _ _).trans hx
    replace hq := hq.ext hx
    replace hB1 := hB1.ext hx
    replace hB2 := hB2.ext hx
    have hE := Upd.refl (fun _ => False) W
    have hxs := hx.size
    have hcr_ := c_refusals W
    refine X_fn (vs := []) en32 rfl ?_
    refine CT.mono hcr_ ?_
    rintro v9 w9 ⟨b, F, rfl, hR9, hu9⟩
    exact ⟨hu9, b, F, rfl, hR9⟩
  refine ⟨.det (fun val => (ptr b2 (0))), ⟨fun _ _ hv => rfl, fun _ _ _ _ _ => trivial⟩, fun val h_ W hx he => ⟨trivial, ?_⟩, ?_⟩
  · replace hx := (Upd.drew _ _).trans hx
    replace hq := hq.ext hx
    replace hB1 := hB1.ext hx
    replace hB2 := hB2.ext hx
    have hE := Upd.refl (fun _ => False) W
    refine id (X_fldP (b := b2) (o := 0) (r := 0) Fd43_0 rfl rfl ?_)
    exact ⟨hE, rfl⟩
  refine ⟨.det (fun val => (.int .u8 (x.k))), ⟨fun _ _ hv => rfl, fun _ _ _ _ _ => trivial⟩, fun val h_ W hx he => ⟨trivial, ?_⟩, ?_⟩
  · replace hx := (Upd.drew _ _).trans hx
    replace hq := hq.ext hx
    replace hB1 := hB1.ext hx
    replace hB2 := hB2.ext hx
    have hE := Upd.refl (fun _ => False) W
    refine id (X_load (p := (ptr b2 (0))) (v := (.int .u8 (x.k))) T5 rfl (hB2.at1 rfl) ?_)
    exact ⟨hE, rfl⟩
  refine ⟨.abs (fun _ x_ W_ => ∃ b, x_ = .slice (some ⟨b, 0, none⟩) 1 1 ∧ Blk W_ b #[.int .i64 250, Fn 46] 80), ⟨fun _ _ _ => rfl, fun _ _ _ _ hu h => (by obtain ⟨b, h1, h2⟩ := h; exact ⟨b, h1, h2.ext hu⟩)⟩, fun val h_ W hx he => ⟨trivial, ?_⟩, ?_⟩
  · replace hx := (Upd.drew _ _).trans hx
    replace hq := hq.ext hx
    replace hB1 := hB1.ext hx
    replace hB2 := hB2.ext hx
    have hE := Upd.refl (fun _ => False) W
    obtain ⟨⟨bm, F, hbm, hRM⟩, _⟩ := he
    obtain ⟨v0, hv0, hg0⟩ := hRM.k2
    obtain ⟨bs, hbs, hBs⟩ := hg0.2.1 rfl
    refine X_lookup (k := x.k) (v := v0) Tryd.underlying76 Tryd.underlying5 hbm rfl hRM.map (by rw [hxk]; exact hv0) ?_
    exact ⟨Upd.refl _ _, bs, hbs, hBs⟩
  refine ⟨.det (fun val => (.int .i64 (1))), ⟨fun _ _ hv => rfl, fun _ _ _ _ _ => trivial⟩, fun val h_ W hx he => ⟨trivial, ?_⟩, ?_⟩
  · replace hx := (Upd.drew _ _).trans hx
    replace hq := hq.ext hx
    replace hB1 := hB1.ext hx
    replace hB2 := hB2.ext hx
    have hE := Upd.refl (fun _ => False) W
    obtain ⟨⟨bs, hbs, hBs⟩, _⟩ := he
    refine X_len (v := val 3) (n := 1) Tryd.underlying75 rfl (sSV hbs (by decide)) ?_
    exact ⟨Upd.refl _ _, rfl⟩
  refine ⟨.det (fun val => (.int .i64 (0))), ⟨fun _ _ hv => rfl, fun _ _ _ _ _ => trivial⟩, fun val h_ W hx he => ⟨trivial, ?_⟩, ?_⟩
  · replace hx := (Upd.drew _ _).trans hx
    replace hq := hq.ext hx
    replace hB1 := hB1.ext hx
    replace hB2 := hB2.ext hx
    have hE := Upd.refl (fun _ => False) W
    refine id (X_move (v := (.int .i64 (0))) rfl ?_)
    exact ⟨hE, rfl⟩
  intro val W3 hx3 he3
  replace hx3 := (Upd.drew _ _).trans hx3
  have hz3 := hx3.size
  replace hq := hq.ext hx3
  replace hU := hU.trans (Ext.upd hx3)
  replace hB1 := hB1.ext hx3
  replace hB2 := hB2.ext hx3
  obtain ⟨⟨bs, hbs, hBs⟩, he3⟩ := he3
  obtain ⟨⟨bm, F, hbm, hRM⟩, he3⟩ := he3
  have hbsl := hBs.lt
  refine L_nil ?_
  refine T_n ?_
  refine W_block ?_
  refine W_unroll 2 ?_
  refine Rounds_s (m := 1) ?_
  refine W_seq ?_
  refine W_reg ?_
  refine L_op rfl (X_cmp (k := .i64) (a := 0) (b := 1) (r := true) rfl rfl rfl rfl ?_)
  refine L_nil ?_
  refine T_n ?_
  refine W_seq ?_
  refine W_ct rfl ?_
  refine W_skip ?_
  refine T_n ?_
  refine W_seq ?_
  refine W_block ?_
  refine W_seq ?_
  refine W_reg ?_
  refine L_op rfl (X_idx (v := (val 3)) (n := 1) (k := .i64) (i := 0) S75 rfl (sSV hbs (by decide)) rfl (by omega) (by omega) ?_)
  refine L_op rfl (X_loadA (xs := [(.int .i64 (250)), (.func (.func 46) #[] #[])]) A80 rfl (sAt hbs hBs 0 rfl) rfl ?_)
  refine L_op rfl (X_alloc (z := (.agg #[(.int .i64 (0)), .nilFunc])) (c := #[(.int .i64 (0)), .nilFunc]) Zv80 rfl ?_)
  intro b4 w4 hn4
  have hbn4 := hn4.num; have hbs4 := hn4.size
  replace hq := hq.ext hn4.ext
  replace hU := hU.trans (Ext.upd hn4.ext)
  replace hB1 := hB1.ext hn4.ext
  replace hB2 := hB2.ext hn4.ext
  replace hBs := hBs.ext hn4.ext
  have hB4 := hn4.blk
  refine L_op0 (X_storeW (b := b4) (ys := [(.int .i64 (250)), (.func (.func 46) #[] #[])]) A80 rfl rfl (List.forall_mem_cons.2 ⟨rfl, (List.forall_mem_cons.2 ⟨rfl, (fun _ h => by cases h)⟩)⟩) rfl hB4 rfl ?_)
  intro w6 hu6 hb6
  have hz6 := hu6.size
  replace hq := hq.upd hu6 fun i h1 h2 h => by have h : i = b4 := h; omega
  replace hU := hU.trans (hu6.mono fun i _ h => by have h : i = b4 := h; show n0 ≤ i; omega)
  replace hB1 := hB1.upd hu6 fun h => by have h : b1 = b4 := h; omega
  replace hB2 := hB2.upd hu6 fun h => by have h : b2 = b4 := h; omega
  replace hBs := hBs.upd hu6 fun h => by have h : bs = b4 := h; omega
  replace hB4 : Blk w6 b4 #[(.int .i64 (250)), (.func (.func 46) #[] #[])] 80 := hb6
  refine L_nil ?_
  refine T_n ?_
  refine W_seq ?_
  refine W_reg ?_
  refine L_op rfl (X_fldP (b := b4) (o := 0) (r := 1) Fd80_1 rfl rfl ?_)
  refine L_op rfl (X_load (p := (ptr b4 (1))) (v := (.func (.func 46) #[] #[])) T78 rfl (hB4.at1 rfl) ?_)
  refine L_op rfl (X_loadA (p := (ptr b1 (0))) (xs := cellsM c) A40 rfl hB1.atAll rfl ?_)
  refine L_op rfl (X_loadA (p := (ptr b2 (0))) (xs := [(.int .u8 (x.k)), (.int .i64 (x.a)), (.int .i64 (x.b)), x.kv, x.xv]) A43 rfl hB2.atAll rfl ?_)
  have hcr_ := c_rf4 c hc1 wr hwr x w6 lo up (by omega) hq
  refine L_op rfl (X_cl (g := 46) (cap := []) (vs := [(.agg (cellsM c).toArray), (.agg ([(.int .u8 (x.k)), (.int .i64 (x.a)), (.int .i64 (x.b)), x.kv, x.xv]).toArray)]) en46 rfl rfl ?_)
  refine CT.mono hcr_ ?_
  clear hcr_
  rintro _ w7 ⟨rfl, hu7⟩
  have hz7 := hu7.size
  replace hq := hq.ext hu7
  replace hU := hU.trans (Ext.upd hu7)
  replace hB1 := hB1.ext hu7
  replace hB2 := hB2.ext hu7
  replace hBs := hBs.ext hu7
  replace hB4 := hB4.ext hu7
  rcases Bool.eq_false_or_eq_true (wr) with hc8 | hc8
  · rw [hc8]
    refine L_nil ?_
    refine T_n ?_
    refine W_ct rfl ?_
    refine W_seq ?_
    refine W_reg ?_
    refine L_op rfl (X_fldP (b := b4) (o := 0) (r := 0) Fd80_0 rfl rfl ?_)
    refine L_op rfl (X_load (p := (ptr b4 (0))) (v := (.int .i64 (250))) T46 rfl (hB4.at1 rfl) ?_)
    refine L_op rfl (X_assign (v := (.int .i64 (250))) rfl ?_)
    refine L_nil ?_
    refine T_n ?_
    refine W_ret ?_
    refine B_r ?_
    refine T_r ?_
    refine T_r ?_
    refine B_r ?_
    refine T_r ?_
    exact BQ_r (End_1 Tryd.results24 (v := .int .i64 250) rfl ⟨by simp, hU.own hn0⟩)
  · rw [hc8]
    refine L_nil ?_
    refine T_n ?_
    refine W_cf rfl ?_
    refine W_skip ?_
    refine B_n ?_
    refine T_n ?_
    refine W_reg ?_
    refine L_op rfl (X_arith (k := .i64) (a := 0) (b := 1) (r := 1) rfl rfl rfl rfl ?_)
    refine L_op rfl (X_move (v := (.int .i64 (1))) rfl ?_)
    refine L_nil ?_
    refine T_n ?_
    refine Rounds_s (m := 0) ?_
    refine W_seq ?_
    refine W_reg ?_
    refine L_op rfl (X_cmp (k := .i64) (a := 1) (b := 1) (r := false) rfl rfl rfl rfl ?_)
    refine L_nil ?_
    refine T_n ?_
    refine W_seq ?_
    refine W_cf rfl ?_
    refine W_exit ?_
    refine T_e ?_
    refine T_e ?_
    refine B_x ?_
    refine T_n ?_
    refine W_seq ?_
    refine W_reg ?_
    refine L_op rfl (X_assign (v := (.int .i64 (0))) rfl ?_)
    refine L_nil ?_
    refine T_n ?_
    refine W_ret ?_
    exact BQ_r (End_1 Tryd.results24 (v := .int .i64 0) rfl ⟨by simp, hU.own hn0⟩)

theorem c_refused3 (c : Nat → Value) (hc1 : OneM c) (wr : Bool) (hwr : c 64 = .bool wr) (h65 : c 65 = .bool false) (x : Opr) (hxk : x.k = 3) (w : World) (lo up : Nat) (hup : up ≤ w.heap.size) (hq : x.R w lo up) : CT Tryd.prog 24 #[(.agg (cellsM c).toArray), (.agg #[(.int .u8 (x.k)), (.int .i64 (x.a)), (.int .i64 (x.b)), x.kv, x.xv])] w fun v w' => v = .int .i64 (if (!wr) = true then 2 else if (!putsD x) = true then 2 else 0) ∧ Ext w w' := by
  obtain ⟨n0, hn0⟩ : ∃ n, n = w.heap.size := ⟨_, rfl⟩
  have hU : Upd (fun i => n0 ≤ i) w w := Upd.refl _ _
  rw [← hn0] at hup
  refine CT_of Tryd.func24 rfl rfl rfl ?_
  refine W_seq ?_
  refine W_reg ?_
  refine L_op rfl (X_box (v := (.agg (cellsM c).toArray)) (c := ((cellsM c)).toArray) rfl rfl ?_)
  intro b1 w1 hn1
  have hbn1 := hn1.num; have hbs1 := hn1.size
  replace hq := hq.ext hn1.ext
  replace hU := hU.trans (Ext.upd hn1.ext)
  have hB1 := hn1.blk
  refine L_op rfl (X_box (v := (.agg #[(.int .u8 (x.k)), (.int .i64 (x.a)), (.int .i64 (x.b)), x.kv, x.xv])) (c := ([(.int .u8 (x.k)), (.int .i64 (x.a)), (.int .i64 (x.b)), x.kv, x.xv]).toArray) rfl rfl ?_)
  intro b2 w2 hn2
  have hbn2 := hn2.num; have hbs2 := hn2.size
  replace hq := hq.ext hn2.ext
  replace hU := hU.trans (Ext.upd hn2.ext)
  replace hB1 := hB1.ext hn2.ext
  have hB2 := hn2.blk
  refine L_op rfl (X_assign (v := (.int .i64 (0))) rfl ?_)
  refine L_nil ?_
  refine T_n ?_
  refine W_seq ?_
  refine W_block ?_
  refine W_seq ?_
  refine W_reg ?_
  refine L_op rfl (X_fldP (b := b2) (o := 0) (r := 0) Fd43_0 rfl rfl ?_)
  refine L_op rfl (X_load (p := (ptr b2 (0))) (v := (.int .u8 (x.k))) T5 rfl (hB2.at1 rfl) ?_)
  refine L_op rfl (X_cmp (k := .u8) (a := x.k) (b := 17) (r := false) rfl rfl rfl (decide_eq_false (p := ((17) : Int) ≤ ((x.k) : Int)) (by omega)) ?_)
  refine L_op rfl (X_assign (v := (.bool (false))) rfl ?_)
  refine L_nil ?_
  refine T_n ?_
  refine W_cf rfl ?_
  refine W_seq ?_
  refine W_reg ?_
  refine L_op rfl (X_fldP (b := b1) (o := 0) (r := 65) Fd40_7 rfl rfl ?_)
  refine L_op rfl (X_load (p := (ptr b1 (65))) (v := (.bool (false))) T4 rfl (hB1.at1 (congrArg some h65)) ?_)
  refine L_op rfl (X_move (v := (.bool (false))) rfl ?_)
  refine L_gn (dj := 14) (t := false) rfl rfl rfl rfl ?_
  refine L_gn (dj := 14) (t := false) rfl rfl rfl rfl ?_
  refine L_gn (dj := 14) (t := false) rfl rfl rfl rfl ?_
  refine L_op rfl (X_pick (t := false) (v := (.bool (false))) rfl rfl ?_)
  refine L_op rfl (X_assign (v := (.bool (false))) rfl ?_)
  refine L_nil ?_
  refine T_n ?_
  refine W_cf rfl ?_
  refine W_skip ?_
  refine B_n ?_
  refine T_n ?_
  refine W_seq ?_
  refine W_seq ?_
  refine W_draw 6 [[], [], [1], [0, 1, 2], [0, 1, 2, 3], []] mixed (by kernel_rfl) ?_
  refine ⟨.abs (fun _ x_ W_ => ∃ b F, x_ = .map (some b) ∧ RefM W_ b F), ⟨fun _ _ _ => rfl, fun _ _ _ _ hu h => (by obtain ⟨b, F, h1, h2⟩ := h; exact ⟨b, F, h1, h2.ext hu⟩)⟩, fun val h_ W hx he => ⟨trivial, ?_⟩, ?_⟩
  · replace hx := (Upd.drew _ _).trans hx
    replace hq := hq.ext hx
    replace hB1 := hB1.ext hx
    replace hB2 := hB2.ext hx
    have hE := Upd.refl (fun _ => False) W
    have hxs := hx.size
    have hcr_ := c_refusals W
    refine X_fn (vs := []) en32 rfl ?_
    refine CT.mono hcr_ ?_
    rintro v9 w9 ⟨b, F, rfl, hR9, hu9⟩
    exact ⟨hu9, b, F, rfl, hR9⟩
  refine ⟨.det (fun val => (ptr b2 (0))), ⟨fun _ _ hv => rfl, fun _ _ _ _ _ => trivial⟩, fun val h_ W hx he => ⟨trivial, ?_⟩, ?_⟩
  · replace hx := (Upd.drew _ _).trans hx
    replace hq := hq.ext hx
    replace hB1 := hB1.ext hx
    replace hB2 := hB2.ext hx
    have hE := Upd.refl (fun _ => False) W
    refine id (X_fldP (b := b2) (o := 0) (r := 0) Fd43_0 rfl rfl ?_)
    exact ⟨hE, rfl⟩
  refine ⟨.det (fun val => (.int .u8 (x.k))), ⟨fun _ _ hv => rfl, fun _ _ _ _ _ => trivial⟩, fun val h_ W hx he => ⟨trivial, ?_⟩, ?_⟩
  · replace hx := (Upd.drew _ _).trans hx
    replace hq := hq.ext hx
    replace hB1 := hB1.ext hx
    replace hB2 := hB2.ext hx
    have hE := Upd.refl (fun _ => False) W
    refine id (X_load (p := (ptr b2 (0))) (v := (.int .u8 (x.k))) T5 rfl (hB2.at1 rfl) ?_)
    exact ⟨hE, rfl⟩
  refine ⟨.abs (fun _ x_ W_ => ∃ b, x_ = .slice (some ⟨b, 0, none⟩) 2 2 ∧ Blk W_ b #[.int .i64 2, Fn 44, .int .i64 2, Fn 47] 80), ⟨fun _ _ _ => rfl, fun _ _ _ _ hu h => (by obtain ⟨b, h1, h2⟩ := h; exact ⟨b, h1, h2.ext hu⟩)⟩, fun val h_ W hx he => ⟨trivial, ?_⟩, ?_⟩
  · replace hx := (Upd.drew _ _).trans hx
    replace hq := hq.ext hx
    replace hB1 := hB1.ext hx
    replace hB2 := hB2.ext hx
    have hE := Upd.refl (fun _ => False) W
    obtain ⟨⟨bm, F, hbm, hRM⟩, _⟩ := he
    obtain ⟨v0, hv0, hg0⟩ := hRM.k3
    obtain ⟨bs, hbs, hBs⟩ := hg0.2.2 rfl
    refine X_lookup (k := x.k) (v := v0) Tryd.underlying76 Tryd.underlying5 hbm rfl hRM.map (by rw [hxk]; exact hv0) ?_
    exact ⟨Upd.refl _ _, bs, hbs, hBs⟩
  refine ⟨.det (fun val => (.int .i64 (2))), ⟨fun _ _ hv => rfl, fun _ _ _ _ _ => trivial⟩, fun val h_ W hx he => ⟨trivial, ?_⟩, ?_⟩
  · replace hx := (Upd.drew _ _).trans hx
    replace hq := hq.ext hx
    replace hB1 := hB1.ext hx
    replace hB2 := hB2.ext hx
    have hE := Upd.refl (fun _ => False) W
    obtain ⟨⟨bs, hbs, hBs⟩, _⟩ := he
    refine X_len (v := val 3) (n := 2) Tryd.underlying75 rfl (sSV hbs (by decide)) ?_
    exact ⟨Upd.refl _ _, rfl⟩
  refine ⟨.det (fun val => (.int .i64 (0))), ⟨fun _ _ hv => rfl, fun _ _ _ _ _ => trivial⟩, fun val h_ W hx he => ⟨trivial, ?_⟩, ?_⟩
  · replace hx := (Upd.drew _ _).trans hx
    replace hq := hq.ext hx
    replace hB1 := hB1.ext hx
    replace hB2 := hB2.ext hx
    have hE := Upd.refl (fun _ => False) W
    refine id (X_move (v := (.int .i64 (0))) rfl ?_)
    exact ⟨hE, rfl⟩
  intro val W3 hx3 he3
  replace hx3 := (Upd.drew _ _).trans hx3
  have hz3 := hx3.size
  replace hq := hq.ext hx3
  replace hU := hU.trans (Ext.upd hx3)
  replace hB1 := hB1.ext hx3
  replace hB2 := hB2.ext hx3
  obtain ⟨⟨bs, hbs, hBs⟩, he3⟩ := he3
  obtain ⟨⟨bm, F, hbm, hRM⟩, he3⟩ := he3
  have hbsl := hBs.lt
  refine L_nil ?_
  refine T_n ?_
  refine W_block ?_
  refine W_unroll 3 ?_
  refine Rounds_s (m := 2) ?_
  refine W_seq ?_
  refine W_reg ?_
  refine L_op rfl (X_cmp (k := .i64) (a := 0) (b := 2) (r := true) rfl rfl rfl rfl ?_)
  refine L_nil ?_
  refine T_n ?_
  refine W_seq ?_
  refine W_ct rfl ?_
  refine W_skip ?_
  refine T_n ?_
  refine W_seq ?_
  refine W_block ?_
  refine W_seq ?_
  refine W_reg ?_
  refine L_op rfl (X_idx (v := (val 3)) (n := 2) (k := .i64) (i := 0) S75 rfl (sSV hbs (by decide)) rfl (by omega) (by omega) ?_)
  refine L_op rfl (X_loadA (xs := [(.int .i64 (2)), (.func (.func 44) #[] #[])]) A80 rfl (sAt hbs hBs 0 rfl) rfl ?_)
  refine L_op rfl (X_alloc (z := (.agg #[(.int .i64 (0)), .nilFunc])) (c := #[(.int .i64 (0)), .nilFunc]) Zv80 rfl ?_)
  intro b4 w4 hn4
  have hbn4 := hn4.num; have hbs4 := hn4.size
  replace hq := hq.ext hn4.ext
  replace hU := hU.trans (Ext.upd hn4.ext)
  replace hB1 := hB1.ext hn4.ext
  replace hB2 := hB2.ext hn4.ext
  replace hBs := hBs.ext hn4.ext
  have hB4 := hn4.blk
  refine L_op0 (X_storeW (b := b4) (ys := [(.int .i64 (2)), (.func (.func 44) #[] #[])]) A80 rfl rfl (List.forall_mem_cons.2 ⟨rfl, (List.forall_mem_cons.2 ⟨rfl, (fun _ h => by cases h)⟩)⟩) rfl hB4 rfl ?_)
  intro w6 hu6 hb6
  have hz6 := hu6.size
  replace hq := hq.upd hu6 fun i h1 h2 h => by have h : i = b4 := h; omega
  replace hU := hU.trans (hu6.mono fun i _ h => by have h : i = b4 := h; show n0 ≤ i; omega)
  replace hB1 := hB1.upd hu6 fun h => by have h : b1 = b4 := h; omega
  replace hB2 := hB2.upd hu6 fun h => by have h : b2 = b4 := h; omega
  replace hBs := hBs.upd hu6 fun h => by have h : bs = b4 := h; omega
  replace hB4 : Blk w6 b4 #[(.int .i64 (2)), (.func (.func 44) #[] #[])] 80 := hb6
  refine L_nil ?_
  refine T_n ?_
  refine W_seq ?_
  refine W_reg ?_
  refine L_op rfl (X_fldP (b := b4) (o := 0) (r := 1) Fd80_1 rfl rfl ?_)
  refine L_op rfl (X_load (p := (ptr b4 (1))) (v := (.func (.func 44) #[] #[])) T78 rfl (hB4.at1 rfl) ?_)
  refine L_op rfl (X_loadA (p := (ptr b1 (0))) (xs := cellsM c) A40 rfl hB1.atAll rfl ?_)
  refine L_op rfl (X_loadA (p := (ptr b2 (0))) (xs := [(.int .u8 (x.k)), (.int .i64 (x.a)), (.int .i64 (x.b)), x.kv, x.xv]) A43 rfl hB2.atAll rfl ?_)
  have hcr_ := c_rf2 c hc1 wr hwr x w6 lo up (by omega) hq
  refine L_op rfl (X_cl (g := 44) (cap := []) (vs := [(.agg (cellsM c).toArray), (.agg ([(.int .u8 (x.k)), (.int .i64 (x.a)), (.int .i64 (x.b)), x.kv, x.xv]).toArray)]) en44 rfl rfl ?_)
  refine CT.mono hcr_ ?_
  clear hcr_
  rintro _ w7 ⟨rfl, hu7⟩
  have hz7 := hu7.size
  replace hq := hq.ext hu7
  replace hU := hU.trans (Ext.upd hu7)
  replace hB1 := hB1.ext hu7
  replace hB2 := hB2.ext hu7
  replace hBs := hBs.ext hu7
  replace hB4 := hB4.ext hu7
  rcases Bool.eq_false_or_eq_true ((!wr)) with hc8 | hc8
  · rw [hc8]
    refine L_nil ?_
    refine T_n ?_
    refine W_ct rfl ?_
    refine W_seq ?_
    refine W_reg ?_
    refine L_op rfl (X_fldP (b := b4) (o := 0) (r := 0) Fd80_0 rfl rfl ?_)
    refine L_op rfl (X_load (p := (ptr b4 (0))) (v := (.int .i64 (2))) T46 rfl (hB4.at1 rfl) ?_)
    refine L_op rfl (X_assign (v := (.int .i64 (2))) rfl ?_)
    refine L_nil ?_
    refine T_n ?_
    refine W_ret ?_
    refine B_r ?_
    refine T_r ?_
    refine T_r ?_
    refine B_r ?_
    refine T_r ?_
    exact BQ_r (End_1 Tryd.results24 (v := .int .i64 2) rfl ⟨by simp, hU.own hn0⟩)
  · rw [hc8]
    refine L_nil ?_
    refine T_n ?_
    refine W_cf rfl ?_
    refine W_skip ?_
    refine B_n ?_
    refine T_n ?_
    refine W_reg ?_
    refine L_op rfl (X_arith (k := .i64) (a := 0) (b := 1) (r := 1) rfl rfl rfl rfl ?_)
    refine L_op rfl (X_move (v := (.int .i64 (1))) rfl ?_)
    refine L_nil ?_
    refine T_n ?_
    refine Rounds_s (m := 1) ?_
    refine W_seq ?_
    refine W_reg ?_
    refine L_op rfl (X_cmp (k := .i64) (a := 1) (b := 2) (r := true) rfl rfl rfl rfl ?_)
    refine L_nil ?_
    refine T_n ?_
    refine W_seq ?_
    refine W_ct rfl ?_
    refine W_skip ?_
    refine T_n ?_
    refine W_seq ?_
    refine W_block ?_
    refine W_seq ?_
    refine W_reg ?_
    refine L_op rfl (X_idx (v := (val 3)) (n := 2) (k := .i64) (i := 1) S75 rfl (sSV hbs (by decide)) rfl (by omega) (by omega) ?_)
    refine L_op rfl (X_loadA (xs := [(.int .i64 (2)), (.func (.func 47) #[] #[])]) A80 rfl (sAt hbs hBs 2 rfl) rfl ?_)
    refine L_op rfl (X_alloc (z := (.agg #[(.int .i64 (0)), .nilFunc])) (c := #[(.int .i64 (0)), .nilFunc]) Zv80 rfl ?_)
    intro b9 w9 hn9
    have hbn9 := hn9.num; have hbs9 := hn9.size
    replace hq := hq.ext hn9.ext
    replace hU := hU.trans (Ext.upd hn9.ext)
    replace hB1 := hB1.ext hn9.ext
    replace hB2 := hB2.ext hn9.ext
    replace hBs := hBs.ext hn9.ext
    replace hB4 := hB4.ext hn9.ext
    have hB9 := hn9.blk
    refine L_op0 (X_storeW (b := b9) (ys := [(.int .i64 (2)), (.func (.func 47) #[] #[])]) A80 rfl rfl (List.forall_mem_cons.2 ⟨rfl, (List.forall_mem_cons.2 ⟨rfl, (fun _ h => by cases h)⟩)⟩) rfl hB9 rfl ?_)
    intro w11 hu11 hb11
    have hz11 := hu11.size
    replace hq := hq.upd hu11 fun i h1 h2 h => by have h : i = b9 := h; omega
    replace hU := hU.trans (hu11.mono fun i _ h => by have h : i = b9 := h; show n0 ≤ i; omega)
    replace hB1 := hB1.upd hu11 fun h => by have h : b1 = b9 := h; omega
    replace hB2 := hB2.upd hu11 fun h => by have h : b2 = b9 := h; omega
    replace hBs := hBs.upd hu11 fun h => by have h : bs = b9 := h; omega
    replace hB4 := hB4.upd hu11 fun h => by have h : b4 = b9 := h; omega
    replace hB9 : Blk w11 b9 #[(.int .i64 (2)), (.func (.func 47) #[] #[])] 80 := hb11
    refine L_nil ?_
    refine T_n ?_
    refine W_seq ?_
    refine W_reg ?_
    refine L_op rfl (X_fldP (b := b9) (o := 0) (r := 1) Fd80_1 rfl rfl ?_)
    refine L_op rfl (X_load (p := (ptr b9 (1))) (v := (.func (.func 47) #[] #[])) T78 rfl (hB9.at1 rfl) ?_)
    refine L_op rfl (X_loadA (p := (ptr b1 (0))) (xs := cellsM c) A40 rfl hB1.atAll rfl ?_)
    refine L_op rfl (X_loadA (p := (ptr b2 (0))) (xs := [(.int .u8 (x.k)), (.int .i64 (x.a)), (.int .i64 (x.b)), x.kv, x.xv]) A43 rfl hB2.atAll rfl ?_)
    have hcr_ := c_rf5 c hc1 x w11 lo up (by omega) hq
    refine L_op rfl (X_cl (g := 47) (cap := []) (vs := [(.agg (cellsM c).toArray), (.agg ([(.int .u8 (x.k)), (.int .i64 (x.a)), (.int .i64 (x.b)), x.kv, x.xv]).toArray)]) en47 rfl rfl ?_)
    refine CT.mono hcr_ ?_
    clear hcr_
    rintro _ w12 ⟨rfl, hu12⟩
    have hz12 := hu12.size
    replace hq := hq.ext hu12
    replace hU := hU.trans (Ext.upd hu12)
    replace hB1 := hB1.ext hu12
    replace hB2 := hB2.ext hu12
    replace hBs := hBs.ext hu12
    replace hB4 := hB4.ext hu12
    replace hB9 := hB9.ext hu12
    rcases Bool.eq_false_or_eq_true ((!putsD x)) with hc13 | hc13
    · rw [hc13]
      refine L_nil ?_
      refine T_n ?_
      refine W_ct rfl ?_
      refine W_seq ?_
      refine W_reg ?_
      refine L_op rfl (X_fldP (b := b9) (o := 0) (r := 0) Fd80_0 rfl rfl ?_)
      refine L_op rfl (X_load (p := (ptr b9 (0))) (v := (.int .i64 (2))) T46 rfl (hB9.at1 rfl) ?_)
      refine L_op rfl (X_assign (v := (.int .i64 (2))) rfl ?_)
      refine L_nil ?_
      refine T_n ?_
      refine W_ret ?_
      refine B_r ?_
      refine T_r ?_
      refine T_r ?_
      refine B_r ?_
      refine T_r ?_
      exact BQ_r (End_1 Tryd.results24 (v := .int .i64 2) rfl ⟨by simp, hU.own hn0⟩)
    · rw [hc13]
      refine L_nil ?_
      refine T_n ?_
      refine W_cf rfl ?_
      refine W_skip ?_
      refine B_n ?_
      refine T_n ?_
      refine W_reg ?_
      refine L_op rfl (X_arith (k := .i64) (a := 1) (b := 1) (r := 2) rfl rfl rfl rfl ?_)
      refine L_op rfl (X_move (v := (.int .i64 (2))) rfl ?_)
      refine L_nil ?_
      refine T_n ?_
      refine Rounds_s (m := 0) ?_
      refine W_seq ?_
      refine W_reg ?_
      refine L_op rfl (X_cmp (k := .i64) (a := 2) (b := 2) (r := false) rfl rfl rfl rfl ?_)
      refine L_nil ?_
      refine T_n ?_
      refine W_seq ?_
      refine W_cf rfl ?_
      refine W_exit ?_
      refine T_e ?_
      refine T_e ?_
      refine B_x ?_
      refine T_n ?_
      refine W_seq ?_
      refine W_reg ?_
      refine L_op rfl (X_assign (v := (.int .i64 (0))) rfl ?_)
      refine L_nil ?_
      refine T_n ?_
      refine W_ret ?_
      exact BQ_r (End_1 Tryd.results24 (v := .int .i64 0) rfl ⟨by simp, hU.own hn0⟩)
end Go.Proofs.YthncpmablodbjaaDoor
