/-
  The model: harm, refusals. (Printed by wip/gen/t31i.py of this repo.)
-/
import Derived.Test.YthncpmablodbjaaDoorJudge
namespace Go.Proofs.YthncpmablodbjaaDoor
open Go Go.SL Go.Proofs
set_option linter.unusedVariables false

def rowC (c : Nat → Value) (wr : Bool) : List Value := cond wr [c 11, c 12, c 13, c 14, c 15] [c 1, c 2, c 3, c 4, c 5]
theorem built38 (a b : Bool) : Tryd.prog.built 38 [(0, .bool a), (1, .bool b)] = some #[.bool a, .bool b] := by kernel_rfl

theorem c_row (c : Nat → Value) (hc1 : OneM c) (wr : Bool) (hwr : c 64 = .bool wr) (n : Int) (hn : n = 0) (w : World) (lo up : Nat) (hup : up ≤ w.heap.size) : CT Tryd.prog 43 #[(.agg (cellsM c).toArray), (.int .i64 (n))] w fun v w' => v = .tuple #[.agg (rowC c wr).toArray, .bool true] ∧ Ext w w' := by
  obtain ⟨n0, hn0⟩ : ∃ n, n = w.heap.size := ⟨_, rfl⟩
  have hU : Upd (fun i => n0 ≤ i) w w := Upd.refl _ _
  rw [← hn0] at hup
  refine CT_of Tryd.func43 rfl rfl rfl ?_
  refine W_seq ?_
  refine W_reg ?_
  rcases Bool.eq_false_or_eq_true wr with hw_ | hw_
  · subst hw_
    refine L_op rfl (X_box (v := (.agg (cellsM c).toArray)) (c := ((cellsM c)).toArray) rfl rfl ?_)
    intro b1 w1 hn1
    have hbn1 := hn1.num; have hbs1 := hn1.size
    replace hU := hU.trans (Ext.upd hn1.ext)
    have hB1 := hn1.blk
    refine L_op rfl (X_alloc (z := (.agg #[(.int .u32 (0)), (.slice none 0 0), (.slice none 0 0), (.int .u8 (0)), (.int .u8 (0))])) (c := #[(.int .u32 (0)), (.slice none 0 0), (.slice none 0 0), (.int .u8 (0)), (.int .u8 (0))]) Zv27 rfl ?_)
    intro b2 w2 hn2
    have hbn2 := hn2.num; have hbs2 := hn2.size
    replace hU := hU.trans (Ext.upd hn2.ext)
    replace hB1 := hB1.ext hn2.ext
    have hB2 := hn2.blk
    refine L_op rfl (X_assign (v := (.bool (false))) rfl ?_)
    refine L_nil ?_
    refine T_n ?_
    refine W_seq ?_
    refine W_block ?_
    refine W_seq ?_
    refine W_reg ?_
    refine L_op rfl (X_move (v := (.int .i64 (n))) rfl ?_)
    refine L_op rfl (X_cmp (k := .i64) (a := n) (b := 0) (r := true) rfl rfl rfl (decide_eq_true (p := ((n) : Int) = ((0) : Int)) (by omega)) ?_)
    refine L_op rfl (X_move (v := (.bool (true))) rfl ?_)
    refine L_gy (dj := 9) rfl rfl rfl (X_fldP (b := b1) (o := 0) (r := 64) Fd40_6 rfl rfl ?_)
    refine L_gy (dj := 9) rfl rfl rfl (X_load (p := (ptr b1 (64))) (v := (.bool (true))) T4 rfl (hB1.at1 (congrArg some hwr)) ?_)
    refine L_op rfl (X_pick (t := true) (v := (.bool (true))) rfl rfl ?_)
    refine L_op rfl (X_assign (v := (.bool (true))) rfl ?_)
    refine L_nil ?_
    refine T_n ?_
    refine W_ct rfl ?_
    refine W_seq ?_
    refine W_reg ?_
    refine L_op rfl (X_fldP (b := b1) (o := 0) (r := 11) Fd40_3 rfl rfl ?_)
    refine L_op rfl (X_loadA (p := (ptr b1 (11))) (xs := [(c 11), (c 12), (c 13), (c 14), (c 15)]) A27 rfl (by have h_ := mAt hB1 11 (ys := [c 11, c 12, c 13, c 14, c 15]) rfl; exact h_) rfl ?_)
    refine L_op0 (X_storeW (b := b2) (ys := [(c 11), (c 12), (c 13), (c 14), (c 15)]) A27 rfl rfl (List.forall_mem_cons.2 ⟨(hc1 11), (List.forall_mem_cons.2 ⟨(hc1 12), (List.forall_mem_cons.2 ⟨(hc1 13), (List.forall_mem_cons.2 ⟨(hc1 14), (List.forall_mem_cons.2 ⟨(hc1 15), (fun _ h => by cases h)⟩)⟩)⟩)⟩)⟩) rfl hB2 rfl ?_)
    intro w4 hu4 hb4
    have hz4 := hu4.size
    replace hU := hU.trans (hu4.mono fun i _ h => by have h : i = b2 := h; show n0 ≤ i; omega)
    replace hB1 := hB1.upd hu4 fun h => by have h : b1 = b2 := h; omega
    replace hB2 : Blk w4 b2 #[(c 11), (c 12), (c 13), (c 14), (c 15)] 27 := hb4
    refine L_op rfl (X_assign (v := (.bool (true))) rfl ?_)
    refine L_nil ?_
    refine T_n ?_
    refine W_ret ?_
    refine B_r ?_
    refine T_r ?_
    exact BQ_r (End_2 Tryd.results43 (RV_A A27 rfl hB2.atAll rfl) (v2 := .bool true) rfl ⟨rfl, hU.own hn0⟩)
  · subst hw_
    refine L_op rfl (X_box (v := (.agg (cellsM c).toArray)) (c := ((cellsM c)).toArray) rfl rfl ?_)
    intro b5 w5 hn5
    have hbn5 := hn5.num; have hbs5 := hn5.size
    replace hU := hU.trans (Ext.upd hn5.ext)
    have hB5 := hn5.blk
    refine L_op rfl (X_alloc (z := (.agg #[(.int .u32 (0)), (.slice none 0 0), (.slice none 0 0), (.int .u8 (0)), (.int .u8 (0))])) (c := #[(.int .u32 (0)), (.slice none 0 0), (.slice none 0 0), (.int .u8 (0)), (.int .u8 (0))]) Zv27 rfl ?_)
    intro b6 w6 hn6
    have hbn6 := hn6.num; have hbs6 := hn6.size
    replace hU := hU.trans (Ext.upd hn6.ext)
    replace hB5 := hB5.ext hn6.ext
    have hB6 := hn6.blk
    refine L_op rfl (X_assign (v := (.bool (false))) rfl ?_)
    refine L_nil ?_
    refine T_n ?_
    refine W_seq ?_
    refine W_block ?_
    refine W_seq ?_
    refine W_reg ?_
    refine L_op rfl (X_move (v := (.int .i64 (n))) rfl ?_)
    refine L_op rfl (X_cmp (k := .i64) (a := n) (b := 0) (r := true) rfl rfl rfl (decide_eq_true (p := ((n) : Int) = ((0) : Int)) (by omega)) ?_)
    refine L_op rfl (X_move (v := (.bool (true))) rfl ?_)
    refine L_gy (dj := 9) rfl rfl rfl (X_fldP (b := b5) (o := 0) (r := 64) Fd40_6 rfl rfl ?_)
    refine L_gy (dj := 9) rfl rfl rfl (X_load (p := (ptr b5 (64))) (v := (.bool (false))) T4 rfl (hB5.at1 (congrArg some hwr)) ?_)
    refine L_op rfl (X_pick (t := true) (v := (.bool (false))) rfl rfl ?_)
    refine L_op rfl (X_assign (v := (.bool (false))) rfl ?_)
    refine L_nil ?_
    refine T_n ?_
    refine W_cf rfl ?_
    refine W_seq ?_
    refine W_reg ?_
    refine L_op rfl (X_move (v := (.int .i64 (n))) rfl ?_)
    refine L_op rfl (X_cmp (k := .i64) (a := n) (b := 0) (r := true) rfl rfl rfl (decide_eq_true (p := ((n) : Int) = ((0) : Int)) (by omega)) ?_)
    refine L_op rfl (X_assign (v := (.bool (true))) rfl ?_)
    refine L_nil ?_
    refine T_n ?_
    refine W_ct rfl ?_
    refine W_seq ?_
    refine W_reg ?_
    refine L_op rfl (X_fldP (b := b5) (o := 0) (r := 1) Fd40_1 rfl rfl ?_)
    refine L_op rfl (X_loadA (p := (ptr b5 (1))) (xs := [(c 1), (c 2), (c 3), (c 4), (c 5)]) A27 rfl (by have h_ := mAt hB5 1 (ys := [c 1, c 2, c 3, c 4, c 5]) rfl; exact h_) rfl ?_)
    refine L_op0 (X_storeW (b := b6) (ys := [(c 1), (c 2), (c 3), (c 4), (c 5)]) A27 rfl rfl (List.forall_mem_cons.2 ⟨(hc1 1), (List.forall_mem_cons.2 ⟨(hc1 2), (List.forall_mem_cons.2 ⟨(hc1 3), (List.forall_mem_cons.2 ⟨(hc1 4), (List.forall_mem_cons.2 ⟨(hc1 5), (fun _ h => by cases h)⟩)⟩)⟩)⟩)⟩) rfl hB6 rfl ?_)
    intro w8 hu8 hb8
    have hz8 := hu8.size
    replace hU := hU.trans (hu8.mono fun i _ h => by have h : i = b6 := h; show n0 ≤ i; omega)
    replace hB5 := hB5.upd hu8 fun h => by have h : b5 = b6 := h; omega
    replace hB6 : Blk w8 b6 #[(c 1), (c 2), (c 3), (c 4), (c 5)] 27 := hb8
    refine L_op rfl (X_assign (v := (.bool (true))) rfl ?_)
    refine L_nil ?_
    refine T_n ?_
    refine W_ret ?_
    refine B_r ?_
    refine T_r ?_
    exact BQ_r (End_2 Tryd.results43 (RV_A A27 rfl hB6.atAll rfl) (v2 := .bool true) rfl ⟨rfl, hU.own hn0⟩)

theorem c_disks (c : Nat → Value) (hc1 : OneM c) (w : World) (lo up : Nat) (hup : up ≤ w.heap.size) : CT Tryd.prog 30 #[(.agg (cellsM c).toArray)] w fun v w' => v = .func (.func 40) #[] #[ptr w.heap.size 0] ∧ Blk w' w.heap.size (cellsM c).toArray 40 ∧ Ext w w' ∧ w'.heap.size = w.heap.size + 1 := by
  obtain ⟨n0, hn0⟩ : ∃ n, n = w.heap.size := ⟨_, rfl⟩
  have hU : Upd (fun i => n0 ≤ i) w w := Upd.refl _ _
  rw [← hn0] at hup
  refine CT_of Tryd.func30 rfl rfl rfl ?_
  refine W_seq ?_
  refine W_reg ?_
  refine L_op rfl (X_box (v := (.agg (cellsM c).toArray)) (c := ((cellsM c)).toArray) rfl rfl ?_)
  intro b1 w1 hn1
  have hbn1 := hn1.num; have hbs1 := hn1.size
  replace hU := hU.trans (Ext.upd hn1.ext)
  have hB1 := hn1.blk
  refine L_op rfl (X_assign (v := .nilFunc) rfl ?_)
  refine L_nil ?_
  refine T_n ?_
  refine W_seq ?_
  refine W_reg ?_
  refine L_op rfl (X_makeFunc (vs := [ptr b1 0]) rfl ?_)
  refine L_op rfl (X_assign (v := (.func (.func 40) #[] #[ptr b1 0])) rfl ?_)
  refine L_nil ?_
  refine T_n ?_
  refine W_ret ?_
  exact BQ_r (End_1 Tryd.results30 (v := .func (.func 40) #[] #[ptr b1 0]) rfl ⟨by rw [hbn1], hbn1 ▸ hB1, hU.own hn0, hbs1⟩)

def diskX (o0 o1 : Bool) : List (List Value) := [[.int .i64 0, .agg #[.bool false, .bool o0]], [.int .i64 1, .agg #[.bool false, .bool o1]]]
theorem diskX_at {o0 o1 : Bool} {k : Nat} {x : List Value} (h : (diskX o0 o1)[k]? = some x) : ∃ (i : Int) (o : Bool), x = [.int .i64 i, .agg #[.bool false, .bool o]] := by
  match k, h with
  | 0, h => cases h; exact ⟨_, _, rfl⟩
  | 1, h => cases h; exact ⟨_, _, rfl⟩
  | k + 2, h => cases h

theorem c_disks1 (c : Nat → Value) (hc1 : OneM c) (h67 : c 67 = .bool false) (h68 : c 68 = .bool false) (o0 o1 : Bool) (h69 : c 69 = .bool o0) (h70 : c 70 = .bool o1) (b1 : Nat) (w : World) (hB : Blk w b1 (cellsM c).toArray 40) :
    IterC Tryd.prog 40 [ptr b1 0] (diskX o0 o1) w (fun b => b = b1) (fun _ => False) := by
  intro lp J Jx W Db hu0 hDb hJs hJxs hy hJ
  replace hB := hB.upd hu0 fun h => h rfl
  show CT Tryd.prog 40 #[.func (.yield lp) #[] #[], ptr b1 0] W _
  refine CT_of Tryd.func40 rfl rfl rfl ?_
  refine W_seq ?_
  refine W_reg ?_
  refine L_op rfl (X_move (v := (.int .i64 (0))) rfl ?_)
  refine L_nil ?_
  refine T_n ?_
  refine W_block ?_
  refine W_unroll 3 ?_
  refine Rounds_s (m := 2) ?_
  refine W_seq ?_
  refine W_reg ?_
  refine L_op rfl (X_cmp (k := .i64) (a := 0) (b := 2) (r := true) rfl rfl rfl rfl ?_)
  refine L_nil ?_
  refine T_n ?_
  refine W_seq ?_
  refine W_ct rfl ?_
  refine W_skip ?_
  refine T_n ?_
  refine W_seq ?_
  refine W_block ?_
  refine W_seq ?_
  refine W_reg ?_
  refine L_op rfl (X_move (v := (.int .i64 (0))) rfl ?_)
  refine L_op rfl (X_assign (v := (.int .i64 (0))) rfl ?_)
  refine L_nil ?_
  refine T_n ?_
  refine W_seq ?_
  refine W_draw 11 [[], [], [], [], [2, 3], [2, 3, 4], [], [], [6, 7], [6, 7, 8], [2, 3, 4, 5, 6, 7, 8, 9], [0, 1, 2, 3, 4, 5, 6, 7, 8, 9, 10], [0, 1, 2, 3, 4, 5, 6, 7, 8, 9, 10, 11]] mixed (by kernel_rfl) ?_
  refine ⟨.det (fun val => (.func (.yield lp) #[] #[])), ⟨fun _ _ hv => rfl, fun _ _ _ _ _ => trivial⟩, fun val h_ W hx he => ⟨trivial, ?_⟩, ?_⟩
  · replace hx := (Upd.drew _ _).trans hx
    replace hB := hB.ext hx
    have hE := Upd.refl (fun _ => False) W
    refine id (X_move (v := (.func (.yield lp) #[] #[])) rfl ?_)
    exact ⟨hE, rfl⟩
  refine ⟨.det (fun val => (.int .i64 (0))), ⟨fun _ _ hv => rfl, fun _ _ _ _ _ => trivial⟩, fun val h_ W hx he => ⟨trivial, ?_⟩, ?_⟩
  · replace hx := (Upd.drew _ _).trans hx
    replace hB := hB.ext hx
    have hE := Upd.refl (fun _ => False) W
    refine id (X_move (v := (.int .i64 (0))) rfl ?_)
    exact ⟨hE, rfl⟩
  refine ⟨.det (fun val => (.int .i64 (0))), ⟨fun _ _ hv => rfl, fun _ _ _ _ _ => trivial⟩, fun val h_ W hx he => ⟨trivial, ?_⟩, ?_⟩
  · replace hx := (Upd.drew _ _).trans hx
    replace hB := hB.ext hx
    have hE := Upd.refl (fun _ => False) W
    refine id (X_move (v := (.int .i64 (0))) rfl ?_)
    exact ⟨hE, rfl⟩
  refine ⟨.det (fun val => (ptr b1 (67))), ⟨fun _ _ hv => rfl, fun _ _ _ _ _ => trivial⟩, fun val h_ W hx he => ⟨trivial, ?_⟩, ?_⟩
  · replace hx := (Upd.drew _ _).trans hx
    replace hB := hB.ext hx
    have hE := Upd.refl (fun _ => False) W
    refine id (X_fldP (b := b1) (o := 0) (r := 67) Fd40_9 rfl rfl ?_)
    exact ⟨hE, rfl⟩
  refine ⟨.det (fun val => (ptr b1 (67))), ⟨fun _ _ hv => rfl, fun _ _ _ _ _ => trivial⟩, fun val h_ W hx he => ⟨trivial, ?_⟩, ?_⟩
  · replace hx := (Upd.drew _ _).trans hx
    replace hB := hB.ext hx
    have hE := Upd.refl (fun _ => False) W
    refine id (X_idxAP (len := 2) (sz := 1) (b := b1) (o := 67) (k := .i64) (i := 0) (r := 67) Tryd.underlying38 Z4 rfl rfl (by omega) (by omega) rfl ?_)
    exact ⟨hE, rfl⟩
  refine ⟨.det (fun val => (.bool (false))), ⟨fun _ _ hv => rfl, fun _ _ _ _ _ => trivial⟩, fun val h_ W hx he => ⟨trivial, ?_⟩, ?_⟩
  · replace hx := (Upd.drew _ _).trans hx
    replace hB := hB.ext hx
    have hE := Upd.refl (fun _ => False) W
    refine id (X_load (p := (ptr b1 (67))) (v := (.bool (false))) T4 rfl (hB.at1 (congrArg some h67)) ?_)
    exact ⟨hE, rfl⟩
  refine ⟨.det (fun val => (.int .i64 (0))), ⟨fun _ _ hv => rfl, fun _ _ _ _ _ => trivial⟩, fun val h_ W hx he => ⟨trivial, ?_⟩, ?_⟩
  · replace hx := (Upd.drew _ _).trans hx
    replace hB := hB.ext hx
    have hE := Upd.refl (fun _ => False) W
    refine id (X_move (v := (.int .i64 (0))) rfl ?_)
    exact ⟨hE, rfl⟩
  refine ⟨.det (fun val => (ptr b1 (69))), ⟨fun _ _ hv => rfl, fun _ _ _ _ _ => trivial⟩, fun val h_ W hx he => ⟨trivial, ?_⟩, ?_⟩
  · replace hx := (Upd.drew _ _).trans hx
    replace hB := hB.ext hx
    have hE := Upd.refl (fun _ => False) W
    refine id (X_fldP (b := b1) (o := 0) (r := 69) Fd40_10 rfl rfl ?_)
    exact ⟨hE, rfl⟩
  refine ⟨.det (fun val => (ptr b1 (69))), ⟨fun _ _ hv => rfl, fun _ _ _ _ _ => trivial⟩, fun val h_ W hx he => ⟨trivial, ?_⟩, ?_⟩
  · replace hx := (Upd.drew _ _).trans hx
    replace hB := hB.ext hx
    have hE := Upd.refl (fun _ => False) W
    refine id (X_idxAP (len := 2) (sz := 1) (b := b1) (o := 69) (k := .i64) (i := 0) (r := 69) Tryd.underlying38 Z4 rfl rfl (by omega) (by omega) rfl ?_)
    exact ⟨hE, rfl⟩
  refine ⟨.det (fun val => (.bool (o0))), ⟨fun _ _ hv => rfl, fun _ _ _ _ _ => trivial⟩, fun val h_ W hx he => ⟨trivial, ?_⟩, ?_⟩
  · replace hx := (Upd.drew _ _).trans hx
    replace hB := hB.ext hx
    have hE := Upd.refl (fun _ => False) W
    refine id (X_load (p := (ptr b1 (69))) (v := (.bool (o0))) T4 rfl (hB.at1 (congrArg some h69)) ?_)
    exact ⟨hE, rfl⟩
  refine ⟨.det (fun val => (.agg #[(.bool (false)), (.bool (o0))])), ⟨fun _ _ hv => rfl, fun _ _ _ _ _ => trivial⟩, fun val h_ W hx he => ⟨trivial, ?_⟩, ?_⟩
  · replace hx := (Upd.drew _ _).trans hx
    replace hB := hB.ext hx
    have hE := Upd.refl (fun _ => False) W
    refine id (X_build (built38 false o0) ?_)
    exact ⟨hE, rfl⟩
  intro val W1 hx1 he1
  replace hx1 := (Upd.drew _ _).trans hx1
  have hz1 := hx1.size
  replace hB := hB.ext hx1
  replace hJ := hJs _ _ _ hJ hx1
  refine L_op rfl (X_yield (vs := [(.int .i64 (0)), (.agg #[(.bool (false)), (.bool (o0))])]) rfl rfl (YieldC.mono (hy 0 _ _ rfl hJ) ?_))
  rintro _ W2 (⟨rfl, hJ2, hu⟩ | ⟨rfl, hJx⟩)
  · replace hB := hB.upd hu fun h => hDb _ h rfl
    replace hJ : J 1 W2 := hJ2
    refine L_op rfl (X_not (b := true) (r := false) rfl rfl ?_)
    refine L_nil ?_
    refine T_n ?_
    refine W_cf rfl ?_
    refine W_skip ?_
    refine B_n ?_
    refine T_n ?_
    refine W_reg ?_
    refine L_op rfl (X_arith (k := .i64) (a := 0) (b := 1) (r := 1) rfl rfl rfl rfl ?_)
    refine L_op rfl (X_move (v := (.int .i64 (1))) rfl ?_)
    refine L_nil ?_
    refine T_n ?_
    refine Rounds_s (m := 1) ?_
    refine W_seq ?_
    refine W_reg ?_
    refine L_op rfl (X_cmp (k := .i64) (a := 1) (b := 2) (r := true) rfl rfl rfl rfl ?_)
    refine L_nil ?_
    refine T_n ?_
    refine W_seq ?_
    refine W_ct rfl ?_
    refine W_skip ?_
    refine T_n ?_
    refine W_seq ?_
    refine W_block ?_
    refine W_seq ?_
    refine W_reg ?_
    refine L_op rfl (X_move (v := (.int .i64 (1))) rfl ?_)
    refine L_op rfl (X_assign (v := (.int .i64 (1))) rfl ?_)
    refine L_nil ?_
    refine T_n ?_
    refine W_seq ?_
    refine W_draw 11 [[], [], [], [], [2, 3], [2, 3, 4], [], [], [6, 7], [6, 7, 8], [2, 3, 4, 5, 6, 7, 8, 9], [0, 1, 2, 3, 4, 5, 6, 7, 8, 9, 10], [0, 1, 2, 3, 4, 5, 6, 7, 8, 9, 10, 11]] mixed (by kernel_rfl) ?_
    refine ⟨.det (fun val => (.func (.yield lp) #[] #[])), ⟨fun _ _ hv => rfl, fun _ _ _ _ _ => trivial⟩, fun val h_ W hx he => ⟨trivial, ?_⟩, ?_⟩
    · replace hx := (Upd.drew _ _).trans hx
      replace hB := hB.ext hx
      have hE := Upd.refl (fun _ => False) W
      refine id (X_move (v := (.func (.yield lp) #[] #[])) rfl ?_)
      exact ⟨hE, rfl⟩
    refine ⟨.det (fun val => (.int .i64 (1))), ⟨fun _ _ hv => rfl, fun _ _ _ _ _ => trivial⟩, fun val h_ W hx he => ⟨trivial, ?_⟩, ?_⟩
    · replace hx := (Upd.drew _ _).trans hx
      replace hB := hB.ext hx
      have hE := Upd.refl (fun _ => False) W
      refine id (X_move (v := (.int .i64 (1))) rfl ?_)
      exact ⟨hE, rfl⟩
    refine ⟨.det (fun val => (.int .i64 (1))), ⟨fun _ _ hv => rfl, fun _ _ _ _ _ => trivial⟩, fun val h_ W hx he => ⟨trivial, ?_⟩, ?_⟩
    · replace hx := (Upd.drew _ _).trans hx
      replace hB := hB.ext hx
      have hE := Upd.refl (fun _ => False) W
      refine id (X_move (v := (.int .i64 (1))) rfl ?_)
      exact ⟨hE, rfl⟩
    refine ⟨.det (fun val => (ptr b1 (67))), ⟨fun _ _ hv => rfl, fun _ _ _ _ _ => trivial⟩, fun val h_ W hx he => ⟨trivial, ?_⟩, ?_⟩
    · replace hx := (Upd.drew _ _).trans hx
      replace hB := hB.ext hx
      have hE := Upd.refl (fun _ => False) W
      refine id (X_fldP (b := b1) (o := 0) (r := 67) Fd40_9 rfl rfl ?_)
      exact ⟨hE, rfl⟩
    refine ⟨.det (fun val => (ptr b1 (68))), ⟨fun _ _ hv => rfl, fun _ _ _ _ _ => trivial⟩, fun val h_ W hx he => ⟨trivial, ?_⟩, ?_⟩
    · replace hx := (Upd.drew _ _).trans hx
      replace hB := hB.ext hx
      have hE := Upd.refl (fun _ => False) W
      refine id (X_idxAP (len := 2) (sz := 1) (b := b1) (o := 67) (k := .i64) (i := 1) (r := 68) Tryd.underlying38 Z4 rfl rfl (by omega) (by omega) rfl ?_)
      exact ⟨hE, rfl⟩
    refine ⟨.det (fun val => (.bool (false))), ⟨fun _ _ hv => rfl, fun _ _ _ _ _ => trivial⟩, fun val h_ W hx he => ⟨trivial, ?_⟩, ?_⟩
    · replace hx := (Upd.drew _ _).trans hx
      replace hB := hB.ext hx
      have hE := Upd.refl (fun _ => False) W
      refine id (X_load (p := (ptr b1 (68))) (v := (.bool (false))) T4 rfl (hB.at1 (congrArg some h68)) ?_)
      exact ⟨hE, rfl⟩
    refine ⟨.det (fun val => (.int .i64 (1))), ⟨fun _ _ hv => rfl, fun _ _ _ _ _ => trivial⟩, fun val h_ W hx he => ⟨trivial, ?_⟩, ?_⟩
    · replace hx := (Upd.drew _ _).trans hx
      replace hB := hB.ext hx
      have hE := Upd.refl (fun _ => False) W
      refine id (X_move (v := (.int .i64 (1))) rfl ?_)
      exact ⟨hE, rfl⟩
    refine ⟨.det (fun val => (ptr b1 (69))), ⟨fun _ _ hv => rfl, fun _ _ _ _ _ => trivial⟩, fun val h_ W hx he => ⟨trivial, ?_⟩, ?_⟩
    · replace hx := (Upd.drew _ _).trans hx
      replace hB := hB.ext hx
      have hE := Upd.refl (fun _ => False) W
      refine id (X_fldP (b := b1) (o := 0) (r := 69) Fd40_10 rfl rfl ?_)
      exact ⟨hE, rfl⟩
    refine ⟨.det (fun val => (ptr b1 (70))), ⟨fun _ _ hv => rfl, fun _ _ _ _ _ => trivial⟩, fun val h_ W hx he => ⟨trivial, ?_⟩, ?_⟩
    · replace hx := (Upd.drew _ _).trans hx
      replace hB := hB.ext hx
      have hE := Upd.refl (fun _ => False) W
      refine id (X_idxAP (len := 2) (sz := 1) (b := b1) (o := 69) (k := .i64) (i := 1) (r := 70) Tryd.underlying38 Z4 rfl rfl (by omega) (by omega) rfl ?_)
      exact ⟨hE, rfl⟩
    refine ⟨.det (fun val => (.bool (o1))), ⟨fun _ _ hv => rfl, fun _ _ _ _ _ => trivial⟩, fun val h_ W hx he => ⟨trivial, ?_⟩, ?_⟩
    · replace hx := (Upd.drew _ _).trans hx
      replace hB := hB.ext hx
      have hE := Upd.refl (fun _ => False) W
      refine id (X_load (p := (ptr b1 (70))) (v := (.bool (o1))) T4 rfl (hB.at1 (congrArg some h70)) ?_)
      exact ⟨hE, rfl⟩
    refine ⟨.det (fun val => (.agg #[(.bool (false)), (.bool (o1))])), ⟨fun _ _ hv => rfl, fun _ _ _ _ _ => trivial⟩, fun val h_ W hx he => ⟨trivial, ?_⟩, ?_⟩
    · replace hx := (Upd.drew _ _).trans hx
      replace hB := hB.ext hx
      have hE := Upd.refl (fun _ => False) W
      refine id (X_build (built38 false o1) ?_)
      exact ⟨hE, rfl⟩
    intro val W2 hx2 he2
    replace hx2 := (Upd.drew _ _).trans hx2
    have hz2 := hx2.size
    replace hB := hB.ext hx2
    replace hJ := hJs _ _ _ hJ hx2
    refine L_op rfl (X_yield (vs := [(.int .i64 (1)), (.agg #[(.bool (false)), (.bool (o1))])]) rfl rfl (YieldC.mono (hy 1 _ _ rfl hJ) ?_))
    rintro _ W3 (⟨rfl, hJ2, hu⟩ | ⟨rfl, hJx⟩)
    · replace hB := hB.upd hu fun h => hDb _ h rfl
      replace hJ : J 2 W3 := hJ2
      refine L_op rfl (X_not (b := true) (r := false) rfl rfl ?_)
      refine L_nil ?_
      refine T_n ?_
      refine W_cf rfl ?_
      refine W_skip ?_
      refine B_n ?_
      refine T_n ?_
      refine W_reg ?_
      refine L_op rfl (X_arith (k := .i64) (a := 1) (b := 1) (r := 2) rfl rfl rfl rfl ?_)
      refine L_op rfl (X_move (v := (.int .i64 (2))) rfl ?_)
      refine L_nil ?_
      refine T_n ?_
      refine Rounds_s (m := 0) ?_
      refine W_seq ?_
      refine W_reg ?_
      refine L_op rfl (X_cmp (k := .i64) (a := 2) (b := 2) (r := false) rfl rfl rfl rfl ?_)
      refine L_nil ?_
      refine T_n ?_
      refine W_seq ?_
      refine W_cf rfl ?_
      refine W_exit ?_
      refine T_e ?_
      refine T_e ?_
      refine B_x ?_
      exact BQ_n (End_0 Tryd.results40 (.inl hJ))
    · refine L_op rfl (X_not (b := false) (r := true) rfl rfl ?_)
      refine L_nil ?_
      refine T_n ?_
      refine W_ct rfl ?_
      refine W_ret ?_
      refine B_r ?_
      refine T_r ?_
      refine T_r ?_
      refine B_r ?_
      exact BQ_r (End_0 Tryd.results40 (.inr ⟨1, by show 1 < 2; decide, hJx⟩))
  · refine L_op rfl (X_not (b := false) (r := true) rfl rfl ?_)
    refine L_nil ?_
    refine T_n ?_
    refine W_ct rfl ?_
    refine W_ret ?_
    refine B_r ?_
    refine T_r ?_
    refine T_r ?_
    refine B_r ?_
    exact BQ_r (End_0 Tryd.results40 (.inr ⟨0, by show 0 < 2; decide, hJx⟩))
end Go.Proofs.YthncpmablodbjaaDoor

namespace Go.Proofs.YthncpmablodbjaaDoor
open Go Go.SL Go.Proofs
set_option linter.unusedVariables false

theorem c_harmed (c : Nat → Value) (hc1 : OneM c) (h67 : c 67 = .bool false) (h68 : c 68 = .bool false) (o0 o1 : Bool) (h69 : c 69 = .bool o0) (h70 : c 70 = .bool o1) (w : World) (lo up : Nat) (hup : up ≤ w.heap.size) : CT Tryd.prog 21 #[(.agg (cellsM c).toArray)] w fun v w' => v = .int .i64 0 ∧ Ext w w' := by
  obtain ⟨n0, hn0⟩ : ∃ n, n = w.heap.size := ⟨_, rfl⟩
  have hU : Upd (fun i => n0 ≤ i) w w := Upd.refl _ _
  rw [← hn0] at hup
  refine CT_of Tryd.func21 rfl rfl rfl ?_
  refine W_seq ?_
  refine W_reg ?_
  refine L_op rfl (X_box (v := (.agg (cellsM c).toArray)) (c := ((cellsM c)).toArray) rfl rfl ?_)
  intro b1 w1 hn1
  have hbn1 := hn1.num; have hbs1 := hn1.size
  replace hU := hU.trans (Ext.upd hn1.ext)
  have hB1 := hn1.blk
  refine L_op rfl (X_alloc (z := (.int .i64 (0))) (c := #[(.int .i64 (0))]) Zv3 rfl ?_)
  intro b2 w2 hn2
  have hbn2 := hn2.num; have hbs2 := hn2.size
  replace hU := hU.trans (Ext.upd hn2.ext)
  replace hB1 := hB1.ext hn2.ext
  have hB2 := hn2.blk
  refine L_nil ?_
  refine T_n ?_
  refine W_seq ?_
  refine W_seq ?_
  refine W_reg ?_
  refine L_op rfl (X_loadA (p := (ptr b1 (0))) (xs := cellsM c) A40 rfl hB1.atAll rfl ?_)
  obtain ⟨nb, hnb⟩ : ∃ n, n = w2.heap.size := ⟨_, rfl⟩
  have hcr_ := c_disks c hc1 w2 lo up (by omega)
  refine L_op rfl (X_fn (vs := [(.agg (cellsM c).toArray)]) en30 rfl ?_)
  refine CT.mono hcr_ ?_
  clear hcr_
  rintro _ w5 ⟨rfl, hK, hu5, hz5⟩
  rw [← hnb] at hK ⊢
  replace hU := hU.trans (Ext.upd hu5)
  replace hB1 := hB1.ext hu5
  replace hB2 := hB2.ext hu5
  refine L_nil ?_
  refine T_n ?_
  refine W_block ?_
  obtain ⟨nL, hnL⟩ : ∃ n, n = w5.heap.size := ⟨_, rfl⟩
  refine W_range (lb := [ptr nb 0]) (xs := (diskX o0 o1)) rfl en40 (c_disks1 c hc1 h67 h68 o0 o1 h69 h70 nb _ hK) (Upd.refl _ _) rfl (fun x hx => by obtain ⟨j, hj, rfl⟩ := List.getElem_of_mem hx; obtain ⟨i_, o_, h_⟩ := diskX_at (List.getElem?_eq_getElem hj); rw [h_]; rfl) (fun b => nL + 2 ≤ b) (fun b hb => ⟨fun h => by have h : b = nb := h; have hb : nL + 2 ≤ b := hb; omega, by have hb : nL + 2 ≤ b := hb; omega, by have hb : nL + 2 ≤ b := hb; omega⟩) (fun b hb h => by have h : b = nb := h; omega) (fun b h => h.elim) (fun k W => Blk W b2 #[.int .i64 0] 3 ∧ Upd (fun i => n0 ≤ i) w W) (fun k e W => False) (fun k W W2 hI hu => ⟨hI.1.upd hu fun h => by rcases h with h | h; (· exact h.elim); (· omega), hI.2.trans (hu.mono fun i _ h => by { rcases h with h | h; (· exact h.elim); (· show n0 ≤ i; omega) })⟩) (fun _ _ _ _ h _ => h) ?_ ?_ ?_ ?_
  · intro W hx_ hs_
    exact ⟨hB2.ext hx_, hU.trans (Ext.upd hx_)⟩
  · intro k x W hk_ hI_ hsz_ hlp_
    obtain ⟨hB2, hU⟩ := hI_
    obtain ⟨i_, o_, rfl⟩ := diskX_at hk_
    have hD := Upd.refl (fun b => nL + 2 ≤ b) W
    refine W_reg ?_
    refine L_op rfl (X_alloc (z := (.agg #[(.bool (false)), (.bool (false))])) (c := #[(.bool (false)), (.bool (false))]) Zv38 rfl ?_)
    intro b3 w3 hn3
    have hbn3 := hn3.num; have hbs3 := hn3.size
    replace hB2 := hB2.ext hn3.ext
    replace hU := hU.trans (Ext.upd hn3.ext)
    replace hD := hD.trans (Ext.upd hn3.ext)
    have hB3 := hn3.blk
    refine L_op0 (X_storeW (b := b3) (ys := [(.bool (false)), (.bool (o_))]) A38 rfl rfl (List.forall_mem_cons.2 ⟨rfl, (List.forall_mem_cons.2 ⟨rfl, (fun _ h => by cases h)⟩)⟩) rfl hB3 rfl ?_)
    intro w5 hu5 hb5
    have hz5 := hu5.size
    replace hB2 := hB2.upd hu5 fun h => by have h : b2 = b3 := h; omega
    replace hU := hU.trans (hu5.mono fun i _ h => by have h : i = b3 := h; show n0 ≤ i; omega)
    replace hD := hD.trans (hu5.mono fun i _ h => by have h : i = b3 := h; show nL + 2 ≤ i; omega)
    replace hB3 : Blk w5 b3 #[(.bool (false)), (.bool (o_))] 38 := hb5
    refine L_nil ?_
    refine T_n ⟨hD, fun W2 hu2_ hlp2_ => ?_⟩
    have hsz2_ := hu2_.size
    replace hB2 := hB2.upd hu2_ fun h => by have h : b2 = nL + 1 := (by rw [hnL]; exact h); omega
    replace hU := hU.trans (hu2_.mono fun i _ h => by have h : i = nL + 1 := (by rw [hnL]; exact h); show n0 ≤ i; omega)
    replace hB3 := hB3.upd hu2_ fun h => by have h : b3 = nL + 1 := (by rw [hnL]; exact h); omega
    have hD := Upd.refl (fun b => nL + 2 ≤ b) W2
    refine W_block ?_
    refine W_seq ?_
    refine W_reg ?_
    refine L_op rfl (X_idxAP (len := 2) (sz := 1) (b := b3) (o := 0) (k := .i64) (i := 0) (r := 0) Tryd.underlying38 Z4 rfl rfl (by omega) (by omega) rfl ?_)
    refine L_op rfl (X_load (p := (ptr b3 (0))) (v := (.bool (false))) T4 rfl (hB3.at1 rfl) ?_)
    refine L_nil ?_
    refine T_n ?_
    refine W_cf rfl ?_
    refine W_skip ?_
    refine B_n ?_
    exact RQ_n hD ⟨hB2, hU⟩
  · intro W hI_ hd_
    obtain ⟨hB2, hU⟩ := hI_
    have hd : Dfd W nL := by rw [hnL]; exact hd_
    have hsz_ := hU.size
    refine B_n ?_
    refine T_n ?_
    refine W_seq ?_
    refine W_reg ?_
    refine L_op rfl (X_load (p := (ptr b2 (0))) (v := (.int .i64 (0))) T3 rfl (hB2.at1 rfl) ?_)
    refine L_op0 (X_storeSame T3 rfl rfl rfl hB2 rfl ?_)
    refine L_nil ?_
    refine T_n ?_
    refine W_ret ?_
    refine BQ_r (End_m (hnL ▸ hd) fun w9 hu9 => ?_)
    have hB9 := hB2.upd hu9 fun h => by have h : b2 = nL := (by rw [hnL]; exact h); omega
    exact End_1 Tryd.results21 (v := .int .i64 0) (RV_1 T3 rfl (hB9.at1 rfl)) ⟨rfl, (hU.trans (hu9.mono fun i _ h => by have h : i = nL := (by rw [hnL]; exact h); show n0 ≤ i; omega)).own hn0⟩
  · intro k e W hk_ hI_ hd_ he_
    exact hI_.elim

theorem c_strictM (c : Nat → Value) (hc1 : OneM c) (h67 : c 67 = .bool false) (h68 : c 68 = .bool false) (o0 o1 : Bool) (h69 : c 69 = .bool o0) (h70 : c 70 = .bool o1) (w : World) (lo up : Nat) (hup : up ≤ w.heap.size) : CT Tryd.prog 11 #[(.agg (cellsM c).toArray)] w fun v w' => v = .bool true ∧ Ext w w' := by
  obtain ⟨n0, hn0⟩ : ∃ n, n = w.heap.size := ⟨_, rfl⟩
  have hU : Upd (fun i => n0 ≤ i) w w := Upd.refl _ _
  rw [← hn0] at hup
  refine CT_of Tryd.func11 rfl rfl rfl ?_
  refine W_seq ?_
  refine W_reg ?_
  refine L_op rfl (X_box (v := (.agg (cellsM c).toArray)) (c := ((cellsM c)).toArray) rfl rfl ?_)
  intro b1 w1 hn1
  have hbn1 := hn1.num; have hbs1 := hn1.size
  replace hU := hU.trans (Ext.upd hn1.ext)
  have hB1 := hn1.blk
  refine L_op rfl (X_assign (v := (.bool (false))) rfl ?_)
  refine L_nil ?_
  refine T_n ?_
  refine W_seq ?_
  refine W_reg ?_
  refine L_op rfl (X_loadA (p := (ptr b1 (0))) (xs := cellsM c) A40 rfl hB1.atAll rfl ?_)
  have hcr_ := c_harmed c hc1 h67 h68 o0 o1 h69 h70 w1 lo up (by omega)
  refine L_op rfl (X_fn (vs := [(.agg (cellsM c).toArray)]) en21 rfl ?_)
  refine CT.mono hcr_ ?_
  clear hcr_
  rintro _ w2 ⟨rfl, hu2⟩
  have hz2 := hu2.size
  replace hU := hU.trans (Ext.upd hu2)
  replace hB1 := hB1.ext hu2
  refine L_op rfl (X_cmp (k := .i64) (a := 0) (b := 2) (r := true) rfl rfl rfl rfl ?_)
  refine L_op rfl (X_assign (v := (.bool (true))) rfl ?_)
  refine L_nil ?_
  refine T_n ?_
  refine W_ret ?_
  exact BQ_r (End_1 Tryd.results11 (v := .bool true) rfl ⟨rfl, hU.own hn0⟩)

theorem c_rf1 (c : Nat → Value) (hc1 : OneM c) (wr : Bool) (hwr : c 64 = .bool wr) (x : Opr) (hxa : x.a = 0) (w : World) (lo up : Nat) (hup : up ≤ w.heap.size) (hq : x.R w lo up) : CT Tryd.prog 42 #[(.agg (cellsM c).toArray), (.agg #[(.int .u8 (x.k)), (.int .i64 (x.a)), (.int .i64 (x.b)), x.kv, x.xv])] w fun v w' => v = .bool false ∧ Ext w w' := by
  obtain ⟨n0, hn0⟩ : ∃ n, n = w.heap.size := ⟨_, rfl⟩
  have hU : Upd (fun i => n0 ≤ i) w w := Upd.refl _ _
  rw [← hn0] at hup
  refine CT_of Tryd.func42 rfl rfl rfl ?_
  refine W_seq ?_
  refine W_reg ?_
  refine L_op rfl (X_box (v := (.agg (cellsM c).toArray)) (c := ((cellsM c)).toArray) rfl rfl ?_)
  intro b1 w1 hn1
  have hbn1 := hn1.num; have hbs1 := hn1.size
  replace hq := hq.ext hn1.ext
  replace hU := hU.trans (Ext.upd hn1.ext)
  have hB1 := hn1.blk
  refine L_op rfl (X_box (v := (.agg #[(.int .u8 (x.k)), (.int .i64 (x.a)), (.int .i64 (x.b)), x.kv, x.xv])) (c := ([(.int .u8 (x.k)), (.int .i64 (x.a)), (.int .i64 (x.b)), x.kv, x.xv]).toArray) rfl rfl ?_)
  intro b2 w2 hn2
  have hbn2 := hn2.num; have hbs2 := hn2.size
  replace hq := hq.ext hn2.ext
  replace hU := hU.trans (Ext.upd hn2.ext)
  replace hB1 := hB1.ext hn2.ext
  have hB2 := hn2.blk
  refine L_op rfl (X_assign (v := (.bool (false))) rfl ?_)
  refine L_nil ?_
  refine T_n ?_
  refine W_seq ?_
  refine W_reg ?_
  refine L_op rfl (X_loadA (p := (ptr b1 (0))) (xs := cellsM c) A40 rfl hB1.atAll rfl ?_)
  refine L_op rfl (X_fldP (b := b2) (o := 0) (r := 1) Fd43_1 rfl rfl ?_)
  refine L_op rfl (X_load (p := (ptr b2 (1))) (v := (.int .i64 (x.a))) T3 rfl (hB2.at1 rfl) ?_)
  obtain ⟨s0, s1, s2, s3, s4, hrow⟩ : ∃ s0 s1 s2 s3 s4, rowC c wr = [s0, s1, s2, s3, s4] ∧ s0.oneCell' = true ∧ s1.oneCell' = true ∧ s2.oneCell' = true ∧ s3.oneCell' = true ∧ s4.oneCell' = true := by cases wr <;> exact ⟨_, _, _, _, _, rfl, hc1 _, hc1 _, hc1 _, hc1 _, hc1 _⟩
  have hcr_ := c_row c hc1 wr hwr x.a hxa w2 lo up (by omega)
  refine L_op rfl (X_fn (vs := [(.agg (cellsM c).toArray), (.int .i64 (x.a))]) en43 rfl ?_)
  refine CT.mono hcr_ ?_
  clear hcr_
  rintro _ w5 ⟨rfl, hu5⟩
  have hz5 := hu5.size
  rw [hrow.1]
  replace hq := hq.ext hu5
  replace hU := hU.trans (Ext.upd hu5)
  replace hB1 := hB1.ext hu5
  replace hB2 := hB2.ext hu5
  refine L_op rfl (X_move (v := (.tuple #[(.agg #[s0, s1, s2, s3, s4]), (.bool (true))])) rfl ?_)
  refine L_op rfl (X_extract (l := [(.agg #[s0, s1, s2, s3, s4]), (.bool (true))]) (v := (.agg #[s0, s1, s2, s3, s4])) rfl rfl ?_)
  refine L_op rfl (X_extract (l := [(.agg #[s0, s1, s2, s3, s4]), (.bool (true))]) (v := (.bool (true))) rfl rfl ?_)
  refine L_op rfl (X_alloc (z := (.agg #[(.int .u32 (0)), (.slice none 0 0), (.slice none 0 0), (.int .u8 (0)), (.int .u8 (0))])) (c := #[(.int .u32 (0)), (.slice none 0 0), (.slice none 0 0), (.int .u8 (0)), (.int .u8 (0))]) Zv27 rfl ?_)
  intro b3 w3 hn3
  have hbn3 := hn3.num; have hbs3 := hn3.size
  replace hq := hq.ext hn3.ext
  replace hU := hU.trans (Ext.upd hn3.ext)
  replace hB1 := hB1.ext hn3.ext
  replace hB2 := hB2.ext hn3.ext
  have hB3 := hn3.blk
  refine L_op0 (X_storeW (b := b3) (ys := [s0, s1, s2, s3, s4]) A27 rfl rfl (List.forall_mem_cons.2 ⟨(hrow.2.1), (List.forall_mem_cons.2 ⟨(hrow.2.2.1), (List.forall_mem_cons.2 ⟨(hrow.2.2.2.1), (List.forall_mem_cons.2 ⟨(hrow.2.2.2.2.1), (List.forall_mem_cons.2 ⟨(hrow.2.2.2.2.2), (fun _ h => by cases h)⟩)⟩)⟩)⟩)⟩) rfl hB3 rfl ?_)
  intro w5 hu5 hb5
  have hz5 := hu5.size
  replace hq := hq.upd hu5 fun i h1 h2 h => by have h : i = b3 := h; omega
  replace hU := hU.trans (hu5.mono fun i _ h => by have h : i = b3 := h; show n0 ≤ i; omega)
  replace hB1 := hB1.upd hu5 fun h => by have h : b1 = b3 := h; omega
  replace hB2 := hB2.upd hu5 fun h => by have h : b2 = b3 := h; omega
  replace hB3 : Blk w5 b3 #[s0, s1, s2, s3, s4] 27 := hb5
  refine L_op rfl (X_assign (v := (.bool (true))) rfl ?_)
  refine L_nil ?_
  refine T_n ?_
  refine W_seq ?_
  refine W_reg ?_
  refine L_op rfl (X_move (v := (.bool (true))) rfl ?_)
  refine L_op rfl (X_not (b := true) (r := false) rfl rfl ?_)
  refine L_op rfl (X_assign (v := (.bool (false))) rfl ?_)
  refine L_nil ?_
  refine T_n ?_
  refine W_ret ?_
  exact BQ_r (End_1 Tryd.results42 (v := .bool false) rfl ⟨rfl, hU.own hn0⟩)

theorem c_rf2 (c : Nat → Value) (hc1 : OneM c) (wr : Bool) (hwr : c 64 = .bool wr) (x : Opr) (w : World) (lo up : Nat) (hup : up ≤ w.heap.size) (hq : x.R w lo up) : CT Tryd.prog 44 #[(.agg (cellsM c).toArray), (.agg #[(.int .u8 (x.k)), (.int .i64 (x.a)), (.int .i64 (x.b)), x.kv, x.xv])] w fun v w' => v = .bool (!wr) ∧ Ext w w' := by
  obtain ⟨n0, hn0⟩ : ∃ n, n = w.heap.size := ⟨_, rfl⟩
  have hU : Upd (fun i => n0 ≤ i) w w := Upd.refl _ _
  rw [← hn0] at hup
  refine CT_of Tryd.func44 rfl rfl rfl ?_
  refine W_seq ?_
  refine W_reg ?_
  rcases Bool.eq_false_or_eq_true wr with hw_ | hw_
  · subst hw_
    refine L_op rfl (X_box (v := (.agg (cellsM c).toArray)) (c := ((cellsM c)).toArray) rfl rfl ?_)
    intro b1 w1 hn1
    have hbn1 := hn1.num; have hbs1 := hn1.size
    replace hq := hq.ext hn1.ext
    replace hU := hU.trans (Ext.upd hn1.ext)
    have hB1 := hn1.blk
    refine L_op rfl (X_box (v := (.agg #[(.int .u8 (x.k)), (.int .i64 (x.a)), (.int .i64 (x.b)), x.kv, x.xv])) (c := ([(.int .u8 (x.k)), (.int .i64 (x.a)), (.int .i64 (x.b)), x.kv, x.xv]).toArray) rfl rfl ?_)
    intro b2 w2 hn2
    have hbn2 := hn2.num; have hbs2 := hn2.size
    replace hq := hq.ext hn2.ext
    replace hU := hU.trans (Ext.upd hn2.ext)
    replace hB1 := hB1.ext hn2.ext
    have hB2 := hn2.blk
    refine L_op rfl (X_assign (v := (.bool (false))) rfl ?_)
    refine L_nil ?_
    refine T_n ?_
    refine W_seq ?_
    refine W_reg ?_
    refine L_op rfl (X_fldP (b := b1) (o := 0) (r := 64) Fd40_6 rfl rfl ?_)
    refine L_op rfl (X_load (p := (ptr b1 (64))) (v := (.bool (true))) T4 rfl (hB1.at1 (congrArg some hwr)) ?_)
    refine L_op rfl (X_not (b := true) (r := false) rfl rfl ?_)
    refine L_op rfl (X_assign (v := (.bool (false))) rfl ?_)
    refine L_nil ?_
    refine T_n ?_
    refine W_ret ?_
    exact BQ_r (End_1 Tryd.results44 (v := .bool false) rfl ⟨rfl, hU.own hn0⟩)
  · subst hw_
    refine L_op rfl (X_box (v := (.agg (cellsM c).toArray)) (c := ((cellsM c)).toArray) rfl rfl ?_)
    intro b3 w3 hn3
    have hbn3 := hn3.num; have hbs3 := hn3.size
    replace hq := hq.ext hn3.ext
    replace hU := hU.trans (Ext.upd hn3.ext)
    have hB3 := hn3.blk
    refine L_op rfl (X_box (v := (.agg #[(.int .u8 (x.k)), (.int .i64 (x.a)), (.int .i64 (x.b)), x.kv, x.xv])) (c := ([(.int .u8 (x.k)), (.int .i64 (x.a)), (.int .i64 (x.b)), x.kv, x.xv]).toArray) rfl rfl ?_)
    intro b4 w4 hn4
    have hbn4 := hn4.num; have hbs4 := hn4.size
    replace hq := hq.ext hn4.ext
    replace hU := hU.trans (Ext.upd hn4.ext)
    replace hB3 := hB3.ext hn4.ext
    have hB4 := hn4.blk
    refine L_op rfl (X_assign (v := (.bool (false))) rfl ?_)
    refine L_nil ?_
    refine T_n ?_
    refine W_seq ?_
    refine W_reg ?_
    refine L_op rfl (X_fldP (b := b3) (o := 0) (r := 64) Fd40_6 rfl rfl ?_)
    refine L_op rfl (X_load (p := (ptr b3 (64))) (v := (.bool (false))) T4 rfl (hB3.at1 (congrArg some hwr)) ?_)
    refine L_op rfl (X_not (b := false) (r := true) rfl rfl ?_)
    refine L_op rfl (X_assign (v := (.bool (true))) rfl ?_)
    refine L_nil ?_
    refine T_n ?_
    refine W_ret ?_
    exact BQ_r (End_1 Tryd.results44 (v := .bool true) rfl ⟨rfl, hU.own hn0⟩)

theorem c_rf4 (c : Nat → Value) (hc1 : OneM c) (wr : Bool) (hwr : c 64 = .bool wr) (x : Opr) (w : World) (lo up : Nat) (hup : up ≤ w.heap.size) (hq : x.R w lo up) : CT Tryd.prog 46 #[(.agg (cellsM c).toArray), (.agg #[(.int .u8 (x.k)), (.int .i64 (x.a)), (.int .i64 (x.b)), x.kv, x.xv])] w fun v w' => v = .bool wr ∧ Ext w w' := by
  obtain ⟨n0, hn0⟩ : ∃ n, n = w.heap.size := ⟨_, rfl⟩
  have hU : Upd (fun i => n0 ≤ i) w w := Upd.refl _ _
  rw [← hn0] at hup
  refine CT_of Tryd.func46 rfl rfl rfl ?_
  refine W_seq ?_
  refine W_reg ?_
  rcases Bool.eq_false_or_eq_true wr with hw_ | hw_
  · subst hw_
    refine L_op rfl (X_box (v := (.agg (cellsM c).toArray)) (c := ((cellsM c)).toArray) rfl rfl ?_)
    intro b1 w1 hn1
    have hbn1 := hn1.num; have hbs1 := hn1.size
    replace hq := hq.ext hn1.ext
    replace hU := hU.trans (Ext.upd hn1.ext)
    have hB1 := hn1.blk
    refine L_op rfl (X_box (v := (.agg #[(.int .u8 (x.k)), (.int .i64 (x.a)), (.int .i64 (x.b)), x.kv, x.xv])) (c := ([(.int .u8 (x.k)), (.int .i64 (x.a)), (.int .i64 (x.b)), x.kv, x.xv]).toArray) rfl rfl ?_)
    intro b2 w2 hn2
    have hbn2 := hn2.num; have hbs2 := hn2.size
    replace hq := hq.ext hn2.ext
    replace hU := hU.trans (Ext.upd hn2.ext)
    replace hB1 := hB1.ext hn2.ext
    have hB2 := hn2.blk
    refine L_op rfl (X_assign (v := (.bool (false))) rfl ?_)
    refine L_nil ?_
    refine T_n ?_
    refine W_seq ?_
    refine W_reg ?_
    refine L_op rfl (X_fldP (b := b1) (o := 0) (r := 64) Fd40_6 rfl rfl ?_)
    refine L_op rfl (X_load (p := (ptr b1 (64))) (v := (.bool (true))) T4 rfl (hB1.at1 (congrArg some hwr)) ?_)
    refine L_op rfl (X_assign (v := (.bool (true))) rfl ?_)
    refine L_nil ?_
    refine T_n ?_
    refine W_ret ?_
    exact BQ_r (End_1 Tryd.results46 (v := .bool true) rfl ⟨rfl, hU.own hn0⟩)
  · subst hw_
    refine L_op rfl (X_box (v := (.agg (cellsM c).toArray)) (c := ((cellsM c)).toArray) rfl rfl ?_)
    intro b3 w3 hn3
    have hbn3 := hn3.num; have hbs3 := hn3.size
    replace hq := hq.ext hn3.ext
    replace hU := hU.trans (Ext.upd hn3.ext)
    have hB3 := hn3.blk
    refine L_op rfl (X_box (v := (.agg #[(.int .u8 (x.k)), (.int .i64 (x.a)), (.int .i64 (x.b)), x.kv, x.xv])) (c := ([(.int .u8 (x.k)), (.int .i64 (x.a)), (.int .i64 (x.b)), x.kv, x.xv]).toArray) rfl rfl ?_)
    intro b4 w4 hn4
    have hbn4 := hn4.num; have hbs4 := hn4.size
    replace hq := hq.ext hn4.ext
    replace hU := hU.trans (Ext.upd hn4.ext)
    replace hB3 := hB3.ext hn4.ext
    have hB4 := hn4.blk
    refine L_op rfl (X_assign (v := (.bool (false))) rfl ?_)
    refine L_nil ?_
    refine T_n ?_
    refine W_seq ?_
    refine W_reg ?_
    refine L_op rfl (X_fldP (b := b3) (o := 0) (r := 64) Fd40_6 rfl rfl ?_)
    refine L_op rfl (X_load (p := (ptr b3 (64))) (v := (.bool (false))) T4 rfl (hB3.at1 (congrArg some hwr)) ?_)
    refine L_op rfl (X_assign (v := (.bool (false))) rfl ?_)
    refine L_nil ?_
    refine T_n ?_
    refine W_ret ?_
    exact BQ_r (End_1 Tryd.results46 (v := .bool false) rfl ⟨rfl, hU.own hn0⟩)

theorem c_rf5 (c : Nat → Value) (hc1 : OneM c) (x : Opr) (w : World) (lo up : Nat) (hup : up ≤ w.heap.size) (hq : x.R w lo up) : CT Tryd.prog 47 #[(.agg (cellsM c).toArray), (.agg #[(.int .u8 (x.k)), (.int .i64 (x.a)), (.int .i64 (x.b)), x.kv, x.xv])] w fun v w' => v = .bool (!putsD x) ∧ Ext w w' := by
  obtain ⟨n0, hn0⟩ : ∃ n, n = w.heap.size := ⟨_, rfl⟩
  have hU : Upd (fun i => n0 ≤ i) w w := Upd.refl _ _
  rw [← hn0] at hup
  refine CT_of Tryd.func47 rfl rfl rfl ?_
  refine W_seq ?_
  refine W_reg ?_
  refine L_op rfl (X_box (v := (.agg (cellsM c).toArray)) (c := ((cellsM c)).toArray) rfl rfl ?_)
  intro b1 w1 hn1
  have hbn1 := hn1.num; have hbs1 := hn1.size
  replace hq := hq.ext hn1.ext
  replace hU := hU.trans (Ext.upd hn1.ext)
  have hB1 := hn1.blk
  refine L_op rfl (X_box (v := (.agg #[(.int .u8 (x.k)), (.int .i64 (x.a)), (.int .i64 (x.b)), x.kv, x.xv])) (c := ([(.int .u8 (x.k)), (.int .i64 (x.a)), (.int .i64 (x.b)), x.kv, x.xv]).toArray) rfl rfl ?_)
  intro b2 w2 hn2
  have hbn2 := hn2.num; have hbs2 := hn2.size
  replace hq := hq.ext hn2.ext
  replace hU := hU.trans (Ext.upd hn2.ext)
  replace hB1 := hB1.ext hn2.ext
  have hB2 := hn2.blk
  refine L_op rfl (X_assign (v := (.bool (false))) rfl ?_)
  refine L_nil ?_
  refine T_n ?_
  refine W_seq ?_
  refine W_reg ?_
  refine L_op rfl (X_loadA (p := (ptr b2 (0))) (xs := [(.int .u8 (x.k)), (.int .i64 (x.a)), (.int .i64 (x.b)), x.kv, x.xv]) A43 rfl hB2.atAll rfl ?_)
  have hcr_ := c_puts x w2 lo up (by omega) hq
  refine L_op rfl (X_fn (vs := [(.agg ([(.int .u8 (x.k)), (.int .i64 (x.a)), (.int .i64 (x.b)), x.kv, x.xv]).toArray)]) en19 rfl ?_)
  refine CT.mono hcr_ ?_
  clear hcr_
  rintro _ w3 ⟨rfl, hu3⟩
  have hz3 := hu3.size
  replace hq := hq.ext hu3
  replace hU := hU.trans (Ext.upd hu3)
  replace hB1 := hB1.ext hu3
  replace hB2 := hB2.ext hu3
  rcases Bool.eq_false_or_eq_true (putsD x) with hc4 | hc4
  · rw [hc4]
    refine L_op rfl (X_not (b := true) (r := false) rfl rfl ?_)
    refine L_op rfl (X_assign (v := (.bool (false))) rfl ?_)
    refine L_nil ?_
    refine T_n ?_
    refine W_ret ?_
    exact BQ_r (End_1 Tryd.results47 (v := .bool false) rfl ⟨rfl, hU.own hn0⟩)
  · rw [hc4]
    refine L_op rfl (X_not (b := false) (r := true) rfl rfl ?_)
    refine L_op rfl (X_assign (v := (.bool (true))) rfl ?_)
    refine L_nil ?_
    refine T_n ?_
    refine W_ret ?_
    exact BQ_r (End_1 Tryd.results47 (v := .bool true) rfl ⟨rfl, hU.own hn0⟩)

theorem built80 (n : Int) (g : Nat) : Tryd.prog.built 80 [(0, .int .i64 n), (1, .func (.func g) #[] #[])] = some #[.int .i64 n, .func (.func g) #[] #[]] := by kernel_rfl

theorem c_rf3 (g : Nat) (w : World) : CT Tryd.prog 45 #[(.func (.func g) #[] #[])] w fun v w' => v = .agg #[.int .i64 2, (.func (.func g) #[] #[])] ∧ Ext w w' := by
  obtain ⟨n0, hn0⟩ : ∃ n, n = w.heap.size := ⟨_, rfl⟩
  have hU : Upd (fun i => n0 ≤ i) w w := Upd.refl _ _
  refine CT_of Tryd.func45 rfl rfl rfl ?_
  refine W_seq ?_
  refine W_reg ?_
  refine L_op rfl (X_alloc (z := (.agg #[(.int .i64 (0)), .nilFunc])) (c := #[(.int .i64 (0)), .nilFunc]) Zv80 rfl ?_)
  intro b1 w1 hn1
  have hbn1 := hn1.num; have hbs1 := hn1.size
  replace hU := hU.trans (Ext.upd hn1.ext)
  have hB1 := hn1.blk
  refine L_nil ?_
  refine T_n ?_
  refine W_seq ?_
  refine W_reg ?_
  refine L_op rfl (X_move (v := (.func (.func g) #[] #[])) rfl ?_)
  refine L_op rfl (X_build (built80 2 g) ?_)
  refine L_op0 (X_storeW (b := b1) (ys := [(.int .i64 (2)), (.func (.func g) #[] #[])]) A80 rfl rfl (List.forall_mem_cons.2 ⟨rfl, (List.forall_mem_cons.2 ⟨rfl, (fun _ h => by cases h)⟩)⟩) rfl hB1 rfl ?_)
  intro w2 hu2 hb2
  have hz2 := hu2.size
  replace hU := hU.trans (hu2.mono fun i _ h => by have h : i = b1 := h; show n0 ≤ i; omega)
  replace hB1 : Blk w2 b1 #[(.int .i64 (2)), (.func (.func g) #[] #[])] 80 := hb2
  refine L_nil ?_
  refine T_n ?_
  refine W_ret ?_
  exact BQ_r (End_1 Tryd.results45 (RV_A A80 rfl hB1.atAll rfl) ⟨rfl, hU.own hn0⟩)
end Go.Proofs.YthncpmablodbjaaDoor
