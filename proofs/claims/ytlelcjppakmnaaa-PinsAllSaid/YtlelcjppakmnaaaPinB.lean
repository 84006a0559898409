/-
  More contracts of chapter 14: what is open. (Printed by wip/gen/t14b.py of this repo.)
-/
import Derived.Test.YtlelcjppakmnaaaPin
namespace Go.Proofs.Ytlelcjppakmnaaa
open Go Go.SL Go.Proofs
set_option linter.unusedVariables false

theorem c_open (on : List Bool) (tx : List Int) (x : Int) (w : World) (hon : on.length = 8) (htx : tx.length = 8) : CT Try.prog 11 #[(.agg (pinC on tx).toArray), (u32V x)] w fun v w' => ∃ hd on' tx' e, v = .tuple #[.int .i64 hd, .agg (pinC on' tx').toArray, .int .i64 e] ∧ on'.length = 8 ∧ tx'.length = 8 ∧ (fstO on < 8 → hd = ((fstO on + 1 : Nat) : Int) ∧ on' = on.set (fstO on) true ∧ tx' = tx.set (fstO on) x ∧ e = 0) ∧ (8 ≤ fstO on → hd = 0 ∧ on' = on ∧ tx' = tx ∧ e = 140) ∧ Ext w w' := by
  obtain ⟨n0, hn0⟩ : ∃ n, n = w.heap.size := ⟨_, rfl⟩
  have hU : Upd (fun i => n0 ≤ i) w w := Upd.refl _ _
  refine CT_of Try.func11 rfl rfl rfl ?_
  refine W_seq ?_
  refine W_reg ?_
  refine L_op rfl (X_box (v := (.agg (pinC on tx).toArray)) (c := ((pinC on tx)).toArray) rfl rfl ?_)
  intro b1 w1 hn1
  have hbn1 := hn1.num; have hbs1 := hn1.size
  replace hU := hU.trans (Ext.upd hn1.ext)
  have hB1 := hn1.blk
  refine L_op rfl (X_assign (v := (.int .i64 (0))) rfl ?_)
  refine L_op rfl (X_alloc (z := (.agg #[(.bool (false)), (.bool (false)), (.bool (false)), (.bool (false)), (.bool (false)), (.bool (false)), (.bool (false)), (.bool (false)), (.int .u32 (0)), (.int .u32 (0)), (.int .u32 (0)), (.int .u32 (0)), (.int .u32 (0)), (.int .u32 (0)), (.int .u32 (0)), (.int .u32 (0))])) (c := #[(.bool (false)), (.bool (false)), (.bool (false)), (.bool (false)), (.bool (false)), (.bool (false)), (.bool (false)), (.bool (false)), (.int .u32 (0)), (.int .u32 (0)), (.int .u32 (0)), (.int .u32 (0)), (.int .u32 (0)), (.int .u32 (0)), (.int .u32 (0)), (.int .u32 (0))]) Zv26 rfl ?_)
  intro b2 w2 hn2
  have hbn2 := hn2.num; have hbs2 := hn2.size
  replace hU := hU.trans (Ext.upd hn2.ext)
  replace hB1 := hB1.ext hn2.ext
  have hB2 := hn2.blk
  refine L_op rfl (X_assign (v := (.int .i64 (0))) rfl ?_)
  refine L_nil ?_
  refine T_n ?_
  refine W_seq ?_
  refine W_seq ?_
  refine W_reg ?_
  refine L_op rfl (X_fn (vs := [(ptr b1 (0))]) en14 rfl (CT.mono (c_of b1 _) ?_))
  rintro _ w3 ⟨rfl, hu3⟩
  have hz3 := hu3.size
  replace hU := hU.trans (Ext.upd hu3)
  replace hB1 := hB1.ext hu3
  replace hB2 := hB2.ext hu3
  refine L_op rfl (X_move (v := (u32V x)) rfl ?_)
  refine L_op rfl (X_fn (vs := [(.agg #[(.slice (some ⟨b1, 0, none⟩) 8 8), (.slice (some ⟨b1, 8, none⟩) 8 8)]), (u32V x)]) en17 rfl (CT.mono (c_put b1 on tx x _ hB1 hon htx) ?_))
  rintro _ w4 ⟨rfl, hp4, hu4⟩
  have hz4 := hu4.size
  replace hU := hU.trans (hu4.mono fun i _ h => by have h : i = b1 := h; show n0 ≤ i; omega)
  replace hB2 := hB2.upd hu4 fun h => by have h : b2 = b1 := h; omega
  have hB1 := hp4
  obtain ⟨hd, hhd⟩ : ∃ z : Int, z = (if fstO on < 8 then ((fstO on + 1 : Nat) : Int) else 0) := ⟨_, rfl⟩
  rw [← hhd]
  refine L_op rfl (X_assign (v := (.int .i64 (hd))) rfl ?_)
  refine L_nil ?_
  refine T_n ?_
  refine W_seq ?_
  refine W_reg ?_
  refine L_op rfl (X_move (v := (.int .i64 (hd))) rfl ?_)
  by_cases hc5 : (hd : Int) = (0)
  · refine L_op rfl (X_cmp (k := .i64) (a := hd) (b := 0) (r := true) rfl rfl rfl (decide_eq_true (p := ((hd) : Int) = ((0) : Int)) (by omega)) ?_)
    have hk : 8 ≤ fstO on := by by_cases h : fstO on < 8; (· rw [if_pos h] at hhd; omega); (· omega)
    have e1 : on.set (fstO on) true = on := List.set_eq_of_length_le (by omega)
    have e2 : tx.set (fstO on) x = tx := List.set_eq_of_length_le (by omega)
    refine L_nil ?_
    refine T_n ?_
    refine W_ct rfl ?_
    refine W_seq ?_
    refine W_drawB 2 [[], [], [0, 1], [0, 1, 2]] mixed (by kernel_rfl) ?_
    refine ⟨.det (fun val => (.agg (pinC (on.set (fstO on) true) (tx.set (fstO on) x)).toArray)), ⟨fun _ _ hv => rfl, fun _ _ _ _ _ => trivial⟩, fun val h_ W hx he => ⟨trivial, ?_⟩, ?_⟩
    · replace hx := (Upd.drew _ _).trans hx
      replace hB2 := hB2.ext hx
      replace hB1 := hB1.ext hx
      have hE := Upd.refl (fun _ => False) W
      refine id (X_loadA (p := (ptr b1 (0))) (xs := (pinC (on.set (fstO on) true) (tx.set (fstO on) x))) A26 rfl hB1.atAll (pinC_len (by rw [List.length_set]; exact hon) (by rw [List.length_set]; exact htx)) ?_)
      exact ⟨hE, rfl⟩
    refine ⟨.det (fun val => (.int .i64 (0))), ⟨fun _ _ hv => rfl, fun _ _ _ _ _ => trivial⟩, fun val h_ W hx he => ⟨trivial, ?_⟩, ?_⟩
    · replace hx := (Upd.drew _ _).trans hx
      replace hB2 := hB2.ext hx
      replace hB1 := hB1.ext hx
      have hE := Upd.refl (fun _ => False) W
      refine id (X_assign (v := (.int .i64 (0))) rfl ?_)
      exact ⟨hE, rfl⟩
    intro val W6 hx6 he6
    replace hx6 := (Upd.drew _ _).trans hx6
    have hz6 := hx6.size
    replace hU := hU.trans (Ext.upd hx6)
    replace hB2 := hB2.ext hx6
    replace hB1 := hB1.ext hx6
    refine L_op0 (X_storeW (b := b2) (ys := (pinC (on.set (fstO on) true) (tx.set (fstO on) x))) A26 rfl rfl (pinC_one _ _) (pinC_len (by rw [List.length_set]; exact hon) (by rw [List.length_set]; exact htx)) hB2 rfl ?_)
    intro w7 hu7 hb7
    have hz7 := hu7.size
    replace hU := hU.trans (hu7.mono fun i _ h => by have h : i = b2 := h; show n0 ≤ i; omega)
    replace hB1 := hB1.upd hu7 fun h => by have h : b1 = b2 := h; omega
    replace hB2 := hb7
    refine L_op rfl (X_assign (v := (.int .i64 (140))) rfl ?_)
    refine L_nil ?_
    refine T_n ?_
    refine W_ret ?_
    refine T_r ?_
    exact BQ_r (End_3 Try.results11 (v1 := .int .i64 0) rfl (RV_A A26 rfl hB2.atAll (pinC_len (by rw [List.length_set]; exact hon) (by rw [List.length_set]; exact htx))) (v3 := .int .i64 140) rfl ⟨_, _, _, _, rfl, (by rw [List.length_set]; exact hon), (by rw [List.length_set]; exact htx), fun h => absurd h (by omega), fun _ => ⟨rfl, e1, e2, rfl⟩, hU.own hn0⟩)
  · refine L_op rfl (X_cmp (k := .i64) (a := hd) (b := 0) (r := false) rfl rfl rfl (decide_eq_false (p := ((hd) : Int) = ((0) : Int)) (by omega)) ?_)
    have hk : fstO on < 8 := by by_cases h : fstO on < 8; (· exact h); (· rw [if_neg h] at hhd; omega)
    rw [if_pos hk] at hhd
    refine L_nil ?_
    refine T_n ?_
    refine W_cf rfl ?_
    refine W_skip ?_
    refine T_n ?_
    refine W_seq ?_
    refine W_drawB 3 [[], [], [0], [0, 1, 2], [0, 1, 2, 3]] mixed (by kernel_rfl) ?_
    refine ⟨.det (fun val => (.int .i64 (hd))), ⟨fun _ _ hv => rfl, fun _ _ _ _ _ => trivial⟩, fun val h_ W hx he => ⟨trivial, ?_⟩, ?_⟩
    · replace hx := (Upd.drew _ _).trans hx
      replace hB2 := hB2.ext hx
      replace hB1 := hB1.ext hx
      have hE := Upd.refl (fun _ => False) W
      refine id (X_move (v := (.int .i64 (hd))) rfl ?_)
      exact ⟨hE, rfl⟩
    refine ⟨.det (fun val => (.agg (pinC (on.set (fstO on) true) (tx.set (fstO on) x)).toArray)), ⟨fun _ _ hv => rfl, fun _ _ _ _ _ => trivial⟩, fun val h_ W hx he => ⟨trivial, ?_⟩, ?_⟩
    · replace hx := (Upd.drew _ _).trans hx
      replace hB2 := hB2.ext hx
      replace hB1 := hB1.ext hx
      have hE := Upd.refl (fun _ => False) W
      refine id (X_loadA (p := (ptr b1 (0))) (xs := (pinC (on.set (fstO on) true) (tx.set (fstO on) x))) A26 rfl hB1.atAll (pinC_len (by rw [List.length_set]; exact hon) (by rw [List.length_set]; exact htx)) ?_)
      exact ⟨hE, rfl⟩
    refine ⟨.det (fun val => (.int .i64 (hd))), ⟨fun _ _ hv => rfl, fun _ _ _ _ _ => trivial⟩, fun val h_ W hx he => ⟨trivial, ?_⟩, ?_⟩
    · replace hx := (Upd.drew _ _).trans hx
      replace hB2 := hB2.ext hx
      replace hB1 := hB1.ext hx
      have hE := Upd.refl (fun _ => False) W
      refine id (X_assign (v := (.int .i64 (hd))) rfl ?_)
      exact ⟨hE, rfl⟩
    intro val W8 hx8 he8
    replace hx8 := (Upd.drew _ _).trans hx8
    have hz8 := hx8.size
    replace hU := hU.trans (Ext.upd hx8)
    replace hB2 := hB2.ext hx8
    replace hB1 := hB1.ext hx8
    refine L_op0 (X_storeW (b := b2) (ys := (pinC (on.set (fstO on) true) (tx.set (fstO on) x))) A26 rfl rfl (pinC_one _ _) (pinC_len (by rw [List.length_set]; exact hon) (by rw [List.length_set]; exact htx)) hB2 rfl ?_)
    intro w9 hu9 hb9
    have hz9 := hu9.size
    replace hU := hU.trans (hu9.mono fun i _ h => by have h : i = b2 := h; show n0 ≤ i; omega)
    replace hB1 := hB1.upd hu9 fun h => by have h : b1 = b2 := h; omega
    replace hB2 := hb9
    refine L_op rfl (X_assign (v := (.int .i64 (0))) rfl ?_)
    refine L_nil ?_
    refine T_n ?_
    refine W_ret ?_
    exact BQ_r (End_3 Try.results11 (v1 := .int .i64 hd) rfl (RV_A A26 rfl hB2.atAll (pinC_len (by rw [List.length_set]; exact hon) (by rw [List.length_set]; exact htx))) (v3 := .int .i64 0) rfl ⟨_, _, _, _, rfl, (by rw [List.length_set]; exact hon), (by rw [List.length_set]; exact htx), fun _ => ⟨hhd, rfl, rfl, rfl⟩, fun h => absurd h (by omega), hU.own hn0⟩)

theorem c_all (b : Nat) (w : World) : CT Try.prog 15 #[(.agg #[(.slice (some ⟨b, 0, none⟩) 8 8), (.slice (some ⟨b, 8, none⟩) 8 8)])] w fun v w' => v = .func (.func 20) #[] #[ptr w.heap.size 0] ∧ Blk w' w.heap.size #[(.slice (some ⟨b, 0, none⟩) 8 8), (.slice (some ⟨b, 8, none⟩) 8 8)] 48 ∧ Ext w w' ∧ w'.heap.size = w.heap.size + 1 := by
  obtain ⟨n0, hn0⟩ : ∃ n, n = w.heap.size := ⟨_, rfl⟩
  have hU : Upd (fun i => n0 ≤ i) w w := Upd.refl _ _
  refine CT_of Try.func15 rfl rfl rfl ?_
  refine W_seq ?_
  refine W_reg ?_
  refine L_op rfl (X_box (v := (.agg #[(.slice (some ⟨b, 0, none⟩) 8 8), (.slice (some ⟨b, 8, none⟩) 8 8)])) (c := ([(.slice (some ⟨b, 0, none⟩) 8 8), (.slice (some ⟨b, 8, none⟩) 8 8)]).toArray) rfl rfl ?_)
  intro b1 w1 hn1
  have hbn1 := hn1.num; have hbs1 := hn1.size
  replace hU := hU.trans (Ext.upd hn1.ext)
  have hB1 := hn1.blk
  refine L_op rfl (X_assign (v := .nilFunc) rfl ?_)
  refine L_nil ?_
  refine T_n ?_
  refine W_seq ?_
  refine W_reg ?_
  refine L_op rfl (X_makeFunc (vs := [ptr b1 0]) rfl ?_)
  refine L_op rfl (X_assign (v := (.func (.func 20) #[] #[ptr b1 0])) rfl ?_)
  refine L_nil ?_
  refine T_n ?_
  refine W_ret ?_
  exact BQ_r (End_1 Try.results15 (v := .func (.func 20) #[] #[ptr b1 0]) rfl ⟨by rw [hbn1], hbn1 ▸ hB1, hU.own hn0, by omega⟩)

def AL (x1 b : Nat) (on : List Bool) (tx : List Int) (W : World) : Prop := Blk W x1 #[(.slice (some ⟨b, 0, none⟩) 8 8), (.slice (some ⟨b, 8, none⟩) 8 8)] 48 ∧ Blk W b (pinC on tx).toArray 26

theorem c_all1 (b x1 : Nat) (on : List Bool) (tx : List Int) (hon : on.length = 8) (htx : tx.length = 8) : IterJ Try.prog 20 [ptr x1 0] (openX on tx) (AL x1 b on tx) (fun _ => False) := by
  intro lp J Jx W hA hJs hJxs hy hJ
  obtain ⟨hX, _⟩ := hA 0 _ hJ
  show CT Try.prog 20 #[.func (.yield lp) #[] #[], ptr x1 0] W _
  refine CT_of Try.func20 rfl rfl rfl ?_
  refine W_seq ?_
  refine W_reg ?_
  refine L_op rfl (X_fldP (b := x1) (o := 0) (r := 0) Fd48_0 rfl rfl ?_)
  refine L_op rfl (X_load (p := (ptr x1 (0))) (v := (.slice (some ⟨b, 0, none⟩) 8 8)) T46 rfl (hX.at1 rfl) ?_)
  refine L_op rfl (X_len (v := (.slice (some ⟨b, 0, none⟩) 8 8)) (n := 8) Try.underlying46 rfl (sv8 b 0) ?_)
  refine L_op rfl (X_move (v := (.int .i64 (0))) rfl ?_)
  refine L_nil ?_
  refine T_n ?_
  refine W_block ?_
  refine W_loop (α := Nat) [3, 4, 8, 9, 10, 11, 12, 13, 14, 15, 16, 17, 18, 19, 20, 21, 22, 23, 24] (fun i => [(8, (.int .i64 (((i : Nat) : Int))))]) (fun i w_ => i ≤ 8 ∧ J (cntO on i) w_) (fun i => 8 - i) ⟨rfl, 0, ⟨Nat.zero_le _, hJ⟩, Out.refl _ _, ⟨rfl, trivial⟩⟩ ?_
  rintro i w1 _ ⟨hil, hJ⟩
  obtain ⟨hX, hP⟩ := hA _ _ hJ
  have hR := pin_on hP hon; have hR2 := pin_tx hP hon htx
  have hE := Upd.refl (fun _ => False) w1
  refine W_seq ?_
  refine W_reg ?_
  by_cases hc2 : (((i : Nat) : Int) : Int) < (8)
  · refine L_op rfl (X_cmp (k := .i64) (a := ((i : Nat) : Int)) (b := 8) (r := true) rfl rfl rfl (decide_eq_true (p := ((((i : Nat) : Int)) : Int) < ((8) : Int)) (by omega)) ?_)
    refine L_nil ?_
    refine T_n ?_
    refine W_seq ?_
    refine W_ct rfl ?_
    refine W_skip ?_
    refine T_n ?_
    refine W_seq ?_
    refine W_block ?_
    refine W_seq ?_
    refine W_reg ?_
    refine L_op rfl (X_move (v := (.int .i64 (((i : Nat) : Int)))) rfl ?_)
    refine L_op rfl (X_idx (v := (.slice (some ⟨b, 0, none⟩) 8 8)) (n := 8) (k := .i64) (i := ((i : Nat) : Int)) S46 rfl (sv8 b 0) rfl (by omega) (by omega) ?_)
    obtain ⟨o1, ho1⟩ : ∃ o, on[i]? = some o := ⟨_, List.getElem?_eq_getElem (by omega)⟩
    rcases Bool.eq_false_or_eq_true o1 with ho2 | ho2
    · rw [ho2] at ho1
      refine L_op rfl (X_load (v := .bool true) T4 rfl (hR.cell (by rw [show (((i : Nat) : Int) : Int).toNat * 1 = i by omega, List.getElem?_map, ho1]; rfl)) ?_)
      refine L_op rfl (X_assign (v := (.int .i64 (((i : Nat) : Int)))) rfl ?_)
      refine L_op rfl (X_assign (v := (.bool (true))) rfl ?_)
      refine L_nil ?_
      refine T_n ?_
      refine W_seq ?_
      refine W_reg ?_
      refine L_op rfl (X_move (v := (.bool (true))) rfl ?_)
      refine L_op rfl (X_move (v := (.bool (true))) rfl ?_)
      refine L_gy (dj := 14) rfl rfl rfl (X_move (v := (.func (.yield lp) #[] #[])) rfl ?_)
      refine L_gy (dj := 14) rfl rfl rfl (X_fldP (b := x1) (o := 0) (r := 1) Fd48_1 rfl rfl ?_)
      refine L_gy (dj := 14) rfl rfl rfl (X_load (p := (ptr x1 (1))) (v := (.slice (some ⟨b, 8, none⟩) 8 8)) T27 rfl (hX.at1 rfl) ?_)
      refine L_gy (dj := 14) rfl rfl rfl (X_move (v := (.int .i64 (((i : Nat) : Int)))) rfl ?_)
      refine L_gy (dj := 14) rfl rfl rfl (X_idx (v := (.slice (some ⟨b, 8, none⟩) 8 8)) (n := 8) (k := .i64) (i := ((i : Nat) : Int)) S27 rfl (sv8 b 8) rfl (by omega) (by omega) ?_)
      obtain ⟨x, hx⟩ : ∃ x, tx[i]? = some x := ⟨_, List.getElem?_eq_getElem (by omega)⟩
      refine L_gy (dj := 14) rfl rfl rfl (X_load (v := u32V x) T23 rfl (hR2.cell (by rw [show (((i : Nat) : Int) : Int).toNat * 1 = i by omega, List.getElem?_map, hx]; rfl)) ?_)
      refine L_gy (dj := 14) rfl rfl rfl (X_yield (vs := [u32V x]) rfl rfl (YieldC.mono (hy (cntO on i) _ _ (openX_at (open_at ho1 hx)) hJ) ?_))
      rintro _ W2 (⟨rfl, hJ2⟩ | ⟨rfl, hJx⟩)
      · refine L_gy (dj := 14) rfl rfl rfl (X_not (b := true) (r := false) rfl rfl ?_)
        refine L_op rfl (X_pick (t := true) (v := (.bool (false))) rfl rfl ?_)
        refine L_nil ?_
        refine T_n ?_
        refine W_cf rfl ?_
        refine W_skip ?_
        refine B_n ?_
        refine T_n ?_
        refine W_reg ?_
        refine L_op rfl (X_arith (k := .i64) (a := ((i : Nat) : Int)) (b := 1) (r := ((i + 1 : Nat) : Int)) rfl rfl rfl (iadd64 (by omega) (by omega) (by omega)) ?_)
        refine L_op rfl (X_move (v := (.int .i64 (((i + 1 : Nat) : Int)))) rfl ?_)
        refine L_nil ?_
        refine T_n ?_
        exact ⟨rfl, i + 1, ⟨⟨by omega, by rw [cntO_hit ho1]; exact hJ2⟩, (by show 8 - (i + 1) < 8 - i; omega)⟩, (Out.mk rfl), ⟨rfl, trivial⟩⟩
      · refine L_gy (dj := 14) rfl rfl rfl (X_not (b := false) (r := true) rfl rfl ?_)
        refine L_op rfl (X_pick (t := true) (v := (.bool (true))) rfl rfl ?_)
        refine L_nil ?_
        refine T_n ?_
        refine W_ct rfl ?_
        refine W_ret ?_
        refine B_r ?_
        refine T_r ?_
        refine T_r ?_
        refine B_r ?_
        exact BQ_r (End_0 Try.results20 (.inr ⟨cntO on i, (List.getElem?_eq_some_iff.1 (openX_at (open_at ho1 hx))).1, hJx⟩))
    · rw [ho2] at ho1
      refine L_op rfl (X_load (v := .bool false) T4 rfl (hR.cell (by rw [show (((i : Nat) : Int) : Int).toNat * 1 = i by omega, List.getElem?_map, ho1]; rfl)) ?_)
      refine L_op rfl (X_assign (v := (.int .i64 (((i : Nat) : Int)))) rfl ?_)
      refine L_op rfl (X_assign (v := (.bool (false))) rfl ?_)
      refine L_nil ?_
      refine T_n ?_
      refine W_seq ?_
      refine W_reg ?_
      refine L_op rfl (X_move (v := (.bool (false))) rfl ?_)
      refine L_op rfl (X_move (v := (.bool (false))) rfl ?_)
      refine L_gn (dj := 14) (t := false) rfl rfl rfl rfl ?_
      refine L_gn (dj := 14) (t := false) rfl rfl rfl rfl ?_
      refine L_gn (dj := 14) (t := false) rfl rfl rfl rfl ?_
      refine L_gn (dj := 14) (t := false) rfl rfl rfl rfl ?_
      refine L_gn (dj := 14) (t := false) rfl rfl rfl rfl ?_
      refine L_gn (dj := 14) (t := false) rfl rfl rfl rfl ?_
      refine L_gn (dj := 14) (t := false) rfl rfl rfl rfl ?_
      refine L_gn (dj := 14) (t := false) rfl rfl rfl rfl ?_
      refine L_op rfl (X_pick (t := false) (v := (.bool (false))) rfl rfl ?_)
      refine L_nil ?_
      refine T_n ?_
      refine W_cf rfl ?_
      refine W_skip ?_
      refine B_n ?_
      refine T_n ?_
      refine W_reg ?_
      refine L_op rfl (X_arith (k := .i64) (a := ((i : Nat) : Int)) (b := 1) (r := ((i + 1 : Nat) : Int)) rfl rfl rfl (iadd64 (by omega) (by omega) (by omega)) ?_)
      refine L_op rfl (X_move (v := (.int .i64 (((i + 1 : Nat) : Int)))) rfl ?_)
      refine L_nil ?_
      refine T_n ?_
      exact ⟨rfl, i + 1, ⟨⟨by omega, by rw [cntO_miss ho1]; exact hJ⟩, (by show 8 - (i + 1) < 8 - i; omega)⟩, (Out.mk rfl), ⟨rfl, trivial⟩⟩
  · refine L_op rfl (X_cmp (k := .i64) (a := ((i : Nat) : Int)) (b := 8) (r := false) rfl rfl rfl (decide_eq_false (p := ((((i : Nat) : Int)) : Int) < ((8) : Int)) (by omega)) ?_)
    refine L_nil ?_
    refine T_n ?_
    refine W_seq ?_
    refine W_cf rfl ?_
    refine W_exit ?_
    refine T_e ?_
    refine T_e ?_
    refine B_x ?_
    obtain rfl : i = 8 := by omega
    exact BQ_n (End_0 Try.results20 (.inl (by rw [openX_length, open_len (by omega)]; rw [show cntO on 8 = on.countP id by unfold cntO; rw [List.take_of_length_le (by omega)]] at hJ; exact hJ)))

theorem c_many (on : List Bool) (tx : List Int) (w : World) (hon : on.length = 8) (htx : tx.length = 8) : CT Try.prog 7 #[(.agg (pinC on tx).toArray)] w fun v w' => v = .int .i64 (((openL on tx).length : Nat) : Int) ∧ Ext w w' := by
  obtain ⟨n0, hn0⟩ : ∃ n, n = w.heap.size := ⟨_, rfl⟩
  have hU : Upd (fun i => n0 ≤ i) w w := Upd.refl _ _
  refine CT_of Try.func7 rfl rfl rfl ?_
  refine W_seq ?_
  refine W_reg ?_
  refine L_op rfl (X_box (v := (.agg (pinC on tx).toArray)) (c := ((pinC on tx)).toArray) rfl rfl ?_)
  intro b1 w1 hn1
  have hbn1 := hn1.num; have hbs1 := hn1.size
  replace hU := hU.trans (Ext.upd hn1.ext)
  have hB1 := hn1.blk
  refine L_op rfl (X_alloc (z := (.int .i64 (0))) (c := #[(.int .i64 (0))]) Zv3 rfl ?_)
  intro b2 w2 hn2
  have hbn2 := hn2.num; have hbs2 := hn2.size
  replace hU := hU.trans (Ext.upd hn2.ext)
  replace hB1 := hB1.ext hn2.ext
  have hB2 := hn2.blk
  refine L_nil ?_
  refine T_n ?_
  refine W_seq ?_
  refine W_seq ?_
  refine W_reg ?_
  refine L_op rfl (X_fn (vs := [(ptr b1 (0))]) en14 rfl (CT.mono (c_of b1 _) ?_))
  rintro _ w3 ⟨rfl, hu3⟩
  have hz3 := hu3.size
  replace hU := hU.trans (Ext.upd hu3)
  replace hB1 := hB1.ext hu3
  replace hB2 := hB2.ext hu3
  obtain ⟨x1, hx1_⟩ : ∃ n, n = w3.heap.size := ⟨_, rfl⟩
  refine L_op rfl (X_fn (vs := [(.agg #[(.slice (some ⟨b1, 0, none⟩) 8 8), (.slice (some ⟨b1, 8, none⟩) 8 8)])]) en15 rfl (CT.mono (c_all b1 _) ?_))
  rintro _ w4 ⟨rfl, hX, hu4, hz4⟩
  rw [← hx1_] at hX ⊢
  replace hU := hU.trans (Ext.upd hu4)
  replace hB1 := hB1.ext hu4
  replace hB2 := hB2.ext hu4
  refine L_nil ?_
  refine T_n ?_
  refine W_block ?_
  obtain ⟨nL, hnL⟩ : ∃ n, n = w4.heap.size := ⟨_, rfl⟩
  refine W_rangeJ (lb := [ptr x1 0]) (xs := (openX on tx)) rfl en20 (c_all1 b1 x1 on tx hon htx) rfl (fun x hx => by unfold openX at hx; obtain ⟨y, _, rfl⟩ := List.mem_map.1 hx; rfl) (fun b => b = b2) (fun b hb_ => ⟨by omega, by omega⟩) (fun b h => h.elim) (fun k W => Blk W b2 #[.int .i64 ((k : Nat) : Int)] 3 ∧ Blk W x1 #[(.slice (some ⟨b1, 0, none⟩) 8 8), (.slice (some ⟨b1, 8, none⟩) 8 8)] 48 ∧ Blk W b1 (pinC on tx).toArray 26 ∧ Upd (fun i => n0 ≤ i) w W) (fun k e W => False) (fun k W h => ⟨h.2.1, h.2.2.1⟩) (fun k W W2 hI hu => by obtain ⟨h1, h2, h3, hU⟩ := hI; exact ⟨h1.upd hu fun h => by { rcases h with h | h; (· exact h); (· omega) }, h2.upd hu fun h => by { rcases h with h | h; (· exact h); (· omega) }, h3.upd hu fun h => by { rcases h with h | h; (· exact h); (· omega) }, hU.trans (hu.mono fun i _ h => by { rcases h with h | h; (· exact h.elim); (· show n0 ≤ i; omega) })⟩) (fun k e W W2 hI hu => hI) ?_ ?_ ?_ ?_
  · intro W hx_ hs_
    exact ⟨hB2.ext hx_, hX.ext hx_, hB1.ext hx_, hU.trans (Ext.upd hx_)⟩
  · intro k x W hk_ hI_ hsz_ hlp_
    obtain ⟨hB2, hX, hB1, hU⟩ := hI_
    have hk8 : k < 8 := by have h1 := (List.getElem?_eq_some_iff.1 hk_).1; rw [openX_length, open_len (by omega)] at h1; have := List.countP_le_length (p := id) (l := on); omega
    obtain ⟨y_, _, rfl⟩ := openX_out hk_
    have hxl := hX.lt; have hb1l := hB1.lt; have hb2l := hB2.lt
    have hD := Upd.refl (fun b => b = b2) W
    refine W_skip ?_
    refine T_n ⟨hD, fun W2 hu2_ hlp2_ => ?_⟩
    have hsz2_ := hu2_.size
    replace hB2 := hB2.upd hu2_ fun h => by have h : b2 = nL + 1 := (by rw [hnL]; exact h); omega
    replace hX := hX.upd hu2_ fun h => by have h : x1 = nL + 1 := (by rw [hnL]; exact h); omega
    replace hB1 := hB1.upd hu2_ fun h => by have h : b1 = nL + 1 := (by rw [hnL]; exact h); omega
    replace hU := hU.trans (hu2_.mono fun i _ h => by have h : i = nL + 1 := (by rw [hnL]; exact h); show n0 ≤ i; omega)
    have hD := Upd.refl (fun b => b = b2) W2
    refine W_block ?_
    refine W_reg ?_
    refine L_op rfl (X_load (p := (ptr b2 (0))) (v := (.int .i64 (((k : Nat) : Int)))) T3 rfl (hB2.at1 rfl) ?_)
    refine L_op rfl (X_arith (k := .i64) (a := ((k : Nat) : Int)) (b := 1) (r := (((k : Nat) : Int) + 1 : Int)) rfl rfl rfl (iadd64 rfl (by omega) (by omega)) ?_)
    refine L_op0 (X_store (b := b2) (o := 0) T3 rfl rfl rfl hB2 (by show (0 : Nat) < 1; decide) ?_)
    intro w5 hu5 hb5
    have hz5 := hu5.size
    replace hX := hX.upd hu5 fun h => by have h : x1 = b2 := h; omega
    replace hB1 := hB1.upd hu5 fun h => by have h : b1 = b2 := h; omega
    replace hU := hU.trans (hu5.mono fun i _ h => by have h : i = b2 := h; show n0 ≤ i; omega)
    replace hD := hD.trans (hu5.mono fun i _ h => by have h : i = b2 := h; show i = b2; omega)
    replace hB2 : Blk w5 b2 #[(.int .i64 ((((k : Nat) : Int) + 1 : Int)))] 3 := hb5
    refine L_nil ?_
    refine B_n ?_
    exact RQ_n hD ⟨hB2, hX, hB1, hU⟩
  · intro W hI_ hd_
    obtain ⟨hB2, hX, hB1, hU⟩ := hI_
    rw [openX_length] at hB2
    have hd : Dfd W nL := by rw [hnL]; exact hd_
    have hsz_ := hU.size
    refine B_n ?_
    refine T_n ?_
    refine W_seq ?_
    refine W_reg ?_
    refine L_op rfl (X_load (p := (ptr b2 (0))) (v := (.int .i64 ((((openL on tx).length : Nat) : Int)))) T3 rfl (hB2.at1 rfl) ?_)
    refine L_op0 (X_store (b := b2) (o := 0) T3 rfl rfl rfl hB2 (by show (0 : Nat) < 1; decide) ?_)
    intro w6 hu6 hb6
    have hz6 := hu6.size
    replace hU := hU.trans (hu6.mono fun i _ h => by have h : i = b2 := h; show n0 ≤ i; omega)
    replace hd := hd.upd hu6 fun h => by have h : nL = b2 := h; omega
    replace hB2 : Blk w6 b2 #[(.int .i64 ((((openL on tx).length : Nat) : Int)))] 3 := hb6
    refine L_nil ?_
    refine T_n ?_
    refine W_ret ?_
    refine BQ_r (End_m (hnL ▸ hd) fun w9 hu9 => ?_)
    have hB2 := hB2.upd hu9 fun h => by have h : b2 = nL := (by rw [hnL]; exact h); omega
    exact End_1 Try.results7 (RV_1 T3 rfl (hB2.at1 rfl)) ⟨rfl, (hU.trans (hu9.mono fun i _ h => by have h : i = nL := (by rw [hnL]; exact h); show n0 ≤ i; omega)).own hn0⟩
  · intro k e W hk_ hI_ hd_ he_
    exact hI_.elim
end Go.Proofs.Ytlelcjppakmnaaa
