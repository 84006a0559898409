/-
  The walk of FlawCrash. (Printed by wip/gen/t04i.py of this repo.)
-/
import Derived.Test.YtfmgjkchhajpmaaCrashLaw
namespace Go.Proofs.Ytfmgjkchhajpmaa
open Go Go.SL Go.Proofs
set_option linter.unusedVariables false

set_option maxRecDepth 10000 in
set_option maxHeartbeats 2000000 in
theorem c_flawCrash (pv cv bv : Value) (ps : List Pg) (cs : List Wr) (bs : List Int) (off : Bool) (lv : Value) (ls : List UInt8) (w : World) (hp : NRd LP w 0 w.heap.size pv ps) (hc : NRd LW w 0 w.heap.size cv cs) (hb : NRd LI w 0 w.heap.size bv bs) (hl : Rd w 1 lv ls.length (ls.map byteV)) : CT Try.prog 3 #[(.agg #[pv, cv, bv, (.bool (off))]), lv] w fun v w' => v = .bool true ∧ Ext w w' := by
  obtain ⟨n0, hn0⟩ : ∃ n, n = w.heap.size := ⟨_, rfl⟩
  have hU : Upd (fun i => n0 ≤ i) w w := Upd.refl _ _
  have hpl := hp.sv.len
  have hcl := hc.sv.len
  have hbl := hb.sv.len
  have hlb : ∀ i, rbk lv = some i → i < n0 := by rw [hn0]; exact fun i hi => hl.bound (by decide) hi
  rw [← hn0] at hp hc hb
  refine CT_of Try.func3 rfl rfl rfl ?_
  refine W_seq ?_
  refine W_reg ?_
  refine L_op rfl (X_box (v := (.agg #[pv, cv, bv, (.bool (off))])) (c := ([pv, cv, bv, (.bool (off))]).toArray) rfl rfl ?_)
  intro b1 w1 hn1
  have hbn1 := hn1.num; have hbs1 := hn1.size
  replace hp := hp.ext hn1.ext
  replace hc := hc.ext hn1.ext
  replace hb := hb.ext hn1.ext
  replace hl := hl.ext hn1.ext
  replace hU := hU.trans (Ext.upd hn1.ext)
  have hB1 := hn1.blk
  refine L_op rfl (X_assign (v := (.bool (false))) rfl ?_)
  refine L_nil ?_
  refine T_n ?_
  refine W_seq ?_
  refine W_seq ?_
  refine W_reg ?_
  refine L_op rfl (X_loadA (p := (ptr b1 (0))) (xs := [pv, cv, bv, (.bool (off))]) A26 rfl hB1.atAll rfl ?_)
  refine L_op rfl (X_fn (vs := [(.agg ([pv, cv, bv, (.bool (off))]).toArray)]) en7 rfl (CT.mono (c_great4 pv cv bv ps cs bs off _ 0 n0 hp hc hb) ?_))
  rintro _ w2 ⟨⟨gG, rfl, hgG⟩, hu2⟩
  have hz2 := hu2.size
  replace hp := hp.ext hu2
  replace hc := hc.ext hu2
  replace hb := hb.ext hu2
  replace hl := hl.ext hu2
  replace hU := hU.trans (Ext.upd hu2)
  replace hB1 := hB1.ext hu2
  rcases Bool.eq_false_or_eq_true (gG) with hc3 | hc3
  · rw [hc3]
    refine L_op rfl (X_move (v := (.bool (true))) rfl ?_)
    refine L_gn (dj := 17) (t := true) rfl rfl rfl rfl ?_
    refine L_gn (dj := 17) (t := true) rfl rfl rfl rfl ?_
    refine L_gn (dj := 17) (t := true) rfl rfl rfl rfl ?_
    refine L_op rfl (X_pick (t := true) (v := (.bool (true))) rfl rfl ?_)
    refine L_op rfl (X_move (v := (.bool (true))) rfl ?_)
    refine L_gn (dj := 22) (t := true) rfl rfl rfl rfl ?_
    refine L_gn (dj := 22) (t := true) rfl rfl rfl rfl ?_
    refine L_op rfl (X_pick (t := true) (v := (.bool (true))) rfl rfl ?_)
    refine L_nil ?_
    refine T_n ?_
    refine W_ct rfl ?_
    refine W_seq ?_
    refine W_reg ?_
    refine L_op rfl (X_fn (vs := []) en8 rfl (CT.mono (c_wakes4 _) ?_))
    rintro vb4 w4 ⟨hvb4, hu4⟩
    have hz4 := hu4.size
    replace hp := hp.ext hu4
    replace hc := hc.ext hu4
    replace hb := hb.ext hu4
    replace hl := hl.ext hu4
    replace hU := hU.trans (Ext.upd hu4)
    replace hB1 := hB1.ext hu4
    subst hvb4
    refine L_op rfl (X_assign (v := (.bool (true))) rfl ?_)
    refine L_nil ?_
    refine T_n ?_
    refine W_ret ?_
    refine T_r ?_
    exact BQ_r (End_1 Try.results3 (v := .bool true) rfl ⟨rfl, hU.own hn0⟩)
  · rw [hc3]
    refine L_op rfl (X_move (v := (.bool (false))) rfl ?_)
    refine L_gy (dj := 17) rfl rfl rfl (X_move (v := lv) rfl ?_)
    refine L_gy (dj := 17) rfl rfl rfl (X_len (v := lv) (n := ls.length) Try.underlying27 rfl hl.sv ?_)
    by_cases hc5 : (((ls.length : Nat) : Int) : Int) > (80)
    · refine L_gy (dj := 17) rfl rfl rfl (X_cmp (k := .i64) (a := ((ls.length : Nat) : Int)) (b := 80) (r := true) rfl rfl rfl (decide_eq_true (p := ((80) : Int) < ((((ls.length : Nat) : Int)) : Int)) (by omega)) ?_)
      refine L_op rfl (X_pick (t := false) (v := (.bool (true))) rfl rfl ?_)
      refine L_op rfl (X_move (v := (.bool (true))) rfl ?_)
      refine L_gn (dj := 22) (t := true) rfl rfl rfl rfl ?_
      refine L_gn (dj := 22) (t := true) rfl rfl rfl rfl ?_
      refine L_op rfl (X_pick (t := true) (v := (.bool (true))) rfl rfl ?_)
      refine L_nil ?_
      refine T_n ?_
      refine W_ct rfl ?_
      refine W_seq ?_
      refine W_reg ?_
      refine L_op rfl (X_fn (vs := []) en8 rfl (CT.mono (c_wakes4 _) ?_))
      rintro vb6 w6 ⟨hvb6, hu6⟩
      have hz6 := hu6.size
      replace hp := hp.ext hu6
      replace hc := hc.ext hu6
      replace hb := hb.ext hu6
      replace hl := hl.ext hu6
      replace hU := hU.trans (Ext.upd hu6)
      replace hB1 := hB1.ext hu6
      subst hvb6
      refine L_op rfl (X_assign (v := (.bool (true))) rfl ?_)
      refine L_nil ?_
      refine T_n ?_
      refine W_ret ?_
      refine T_r ?_
      exact BQ_r (End_1 Try.results3 (v := .bool true) rfl ⟨rfl, hU.own hn0⟩)
    · refine L_gy (dj := 17) rfl rfl rfl (X_cmp (k := .i64) (a := ((ls.length : Nat) : Int)) (b := 80) (r := false) rfl rfl rfl (decide_eq_false (p := ((80) : Int) < ((((ls.length : Nat) : Int)) : Int)) (by omega)) ?_)
      refine L_op rfl (X_pick (t := false) (v := (.bool (false))) rfl rfl ?_)
      refine L_op rfl (X_move (v := (.bool (false))) rfl ?_)
      refine L_gy (dj := 22) rfl rfl rfl (X_fldP (b := b1) (o := 0) (r := 3) Fd26_3 rfl rfl ?_)
      rcases Bool.eq_false_or_eq_true off with ho7 | ho7
      · refine L_gy (dj := 22) rfl rfl rfl (X_load (p := (ptr b1 (3))) (v := .bool true) T4 rfl (hB1.at1 (by rw [ho7]; rfl)) ?_)
        refine L_op rfl (X_pick (t := false) (v := (.bool (true))) rfl rfl ?_)
        refine L_nil ?_
        refine T_n ?_
        refine W_ct rfl ?_
        refine W_seq ?_
        refine W_reg ?_
        refine L_op rfl (X_fn (vs := []) en8 rfl (CT.mono (c_wakes4 _) ?_))
        rintro vb8 w8 ⟨hvb8, hu8⟩
        have hz8 := hu8.size
        replace hp := hp.ext hu8
        replace hc := hc.ext hu8
        replace hb := hb.ext hu8
        replace hl := hl.ext hu8
        replace hU := hU.trans (Ext.upd hu8)
        replace hB1 := hB1.ext hu8
        subst hvb8
        refine L_op rfl (X_assign (v := (.bool (true))) rfl ?_)
        refine L_nil ?_
        refine T_n ?_
        refine W_ret ?_
        refine T_r ?_
        exact BQ_r (End_1 Try.results3 (v := .bool true) rfl ⟨rfl, hU.own hn0⟩)
      · refine L_gy (dj := 22) rfl rfl rfl (X_load (p := (ptr b1 (3))) (v := .bool false) T4 rfl (hB1.at1 (by rw [ho7]; rfl)) ?_)
        refine L_op rfl (X_pick (t := false) (v := (.bool (false))) rfl rfl ?_)
        refine L_nil ?_
        refine T_n ?_
        refine W_cf rfl ?_
        refine W_skip ?_
        refine T_n ?_
        refine W_seq ?_
        have hgd := hgG hc3
        have hof := ho7
        obtain ⟨s3, hs3⟩ : ∃ n, n = w2.heap.size := ⟨_, rfl⟩
        have hb1l := hB1.lt
        have hxl : (crSt ps bs cs ls cs.length).1.length = ps.length := crSt_length _ _ _ _ _
        have hil_ : (crSt ps bs cs ls cs.length).2.length ≤ bs.length := crSt_le _ _ _ _ _
        refine W_drawF 7 [[], [], [0, 1], [], [0, 1, 2, 3], [], [], [0, 1, 2, 3, 4, 5, 6], [0, 1, 2, 3, 4, 5, 6, 7]] [[], [], [0, 1], [], [0, 1, 2, 3], [], []] [0, 1, 2, 3, 4, 5, 6] [[], [], [], [], [], [], []] [5, 6] (fun _ _ => False) mixed (by kernel_rfl) (by decide) ?_
        refine ⟨.det (fun val => (.agg ([pv, cv, bv, (.bool (off))]).toArray)), ⟨fun _ _ hv => rfl, fun _ _ _ _ _ => trivial⟩, fun val h_ W hx he => ⟨rfl, trivial, ?_⟩, ?_⟩
        · replace hx := (Upd.drew _ _).trans hx
          replace hx : Upd (fun b => False) w2 W := hx.mono fun b _ h_ => by obtain ⟨j, _, hne, hm_, hS⟩ := h_; exact hS.elim
          replace hp := hp.ext hx
          replace hc := hc.ext hx
          replace hb := hb.ext hx
          replace hl := hl.ext hx
          replace hB1 := hB1.ext hx
          have hE := Upd.refl (fun _ => False) W
          refine id (X_loadA (p := (ptr b1 (0))) (xs := [pv, cv, bv, (.bool (off))]) A26 rfl hB1.atAll rfl ?_)
          exact ⟨Ext.upd hE, rfl⟩
        refine ⟨.det (fun val => lv), ⟨fun _ _ hv => rfl, fun _ _ _ _ _ => trivial⟩, fun val h_ W hx he => ⟨rfl, trivial, ?_⟩, ?_⟩
        · replace hx := (Upd.drew _ _).trans hx
          replace hx : Upd (fun b => False) w2 W := hx.mono fun b _ h_ => by obtain ⟨j, _, hne, hm_, hS⟩ := h_; exact hS.elim
          replace hp := hp.ext hx
          replace hc := hc.ext hx
          replace hb := hb.ext hx
          replace hl := hl.ext hx
          replace hB1 := hB1.ext hx
          have hE := Upd.refl (fun _ => False) W
          refine id (X_move (v := lv) rfl ?_)
          exact ⟨Ext.upd hE, rfl⟩
        refine ⟨.abs (fun _ x_ W_ => ∃ p2 i2 u, x_ = .agg #[p2, .slice none 0 0, i2, .bool off] ∧ u ≤ W_.heap.size ∧ NOwn LP W_ 33 5 s3 u p2 (crSt ps bs cs ls cs.length).1 ∧ NOwn LI W_ 3 5 s3 u i2 (crSt ps bs cs ls cs.length).2), ⟨fun _ _ _ => rfl, fun _ _ _ _ hu0 h => have hu : Upd (fun b => False) _ _ := hu0.mono fun b _ h_ => (by obtain ⟨j, _, hne, hm_, hk_, hS⟩ := h_; exact hS.elim)
           (by obtain ⟨a1, a2, u, e1, e2, e3, e4⟩ := h; exact ⟨a1, a2, u, e1, Nat.le_trans e2 hu.size, NOwn.ext e3 hu, NOwn.ext e4 hu⟩)⟩, fun val h_ W hx he => ⟨trivial, ?_⟩, ?_⟩
        · replace hx := (Upd.drew _ _).trans hx
          replace hx : Upd (fun b => False) w2 W := hx.mono fun b _ h_ => by obtain ⟨j, _, hne, hm_, hS⟩ := h_; exact hS.elim
          replace hp := hp.ext hx
          replace hc := hc.ext hx
          replace hb := hb.ext hx
          replace hl := hl.ext hx
          replace hB1 := hB1.ext hx
          have hE := Upd.refl (fun _ => False) W
          have hxs := hx.size
          have hcr_ := c_crash pv cv bv ps cs bs off lv ls W 0 n0 (by omega) hp hc hb hl (by omega) (by omega) (by omega)
          refine X_fn (vs := [.agg #[pv, cv, bv, .bool off], lv]) en9 rfl ?_
          refine CT.mono hcr_ ?_
          rintro v9 w9 ⟨p9, i9, rfl, hP9, hI9, hu9⟩
          exact ⟨Ext.upd hu9, ⟨p9, i9, _, rfl, Nat.le_refl _, hP9.mono (by omega) (Nat.le_refl _), hI9.mono (by omega) (Nat.le_refl _)⟩, fun h => by cases h⟩
        refine ⟨.det (fun val => (.agg ([pv, cv, bv, (.bool (off))]).toArray)), ⟨fun _ _ hv => rfl, fun _ _ _ _ _ => trivial⟩, fun val h_ W hx he => ⟨rfl, trivial, ?_⟩, ?_⟩
        · replace hx := (Upd.drew _ _).trans hx
          replace hx : Upd (fun b => False) w2 W := hx.mono fun b _ h_ => by obtain ⟨j, _, hne, hm_, hS⟩ := h_; exact hS.elim
          replace hp := hp.ext hx
          replace hc := hc.ext hx
          replace hb := hb.ext hx
          replace hl := hl.ext hx
          replace hB1 := hB1.ext hx
          have hE := Upd.refl (fun _ => False) W
          refine id (X_loadA (p := (ptr b1 (0))) (xs := [pv, cv, bv, (.bool (off))]) A26 rfl hB1.atAll rfl ?_)
          exact ⟨Ext.upd hE, rfl⟩
        refine ⟨.abs (fun _ x_ W_ => ∃ p2 i2 u, x_ = .agg #[p2, .slice none 0 0, i2, .bool off] ∧ u ≤ W_.heap.size ∧ NOwn LP W_ 33 5 s3 u p2 ps ∧ NOwn LI W_ 3 5 s3 u i2 bs), ⟨fun _ _ _ => rfl, fun _ _ _ _ hu0 h => have hu : Upd (fun b => False) _ _ := hu0.mono fun b _ h_ => (by obtain ⟨j, _, hne, hm_, hk_, hS⟩ := h_; exact hS.elim)
           (by obtain ⟨a1, a2, u, e1, e2, e3, e4⟩ := h; exact ⟨a1, a2, u, e1, Nat.le_trans e2 hu.size, NOwn.ext e3 hu, NOwn.ext e4 hu⟩)⟩, fun val h_ W hx he => ⟨trivial, ?_⟩, ?_⟩
        · replace hx := (Upd.drew _ _).trans hx
          replace hx : Upd (fun b => False) w2 W := hx.mono fun b _ h_ => by obtain ⟨j, _, hne, hm_, hS⟩ := h_; exact hS.elim
          replace hp := hp.ext hx
          replace hc := hc.ext hx
          replace hb := hb.ext hx
          replace hl := hl.ext hx
          replace hB1 := hB1.ext hx
          have hE := Upd.refl (fun _ => False) W
          have hxs := hx.size
          have hcr_ := c_crash pv cv bv ps cs bs off (.slice none 0 0) [] W 0 n0 (by omega) hp hc hb (Rd.nil _ 1) (by omega) (by omega) (by omega)
          refine X_fn (vs := [.agg #[pv, cv, bv, .bool off], (.slice none 0 0)]) en9 rfl ?_
          refine CT.mono hcr_ ?_
          rintro v9 w9 ⟨p9, i9, rfl, hP9, hI9, hu9⟩
          rw [crSt_nil] at hP9 hI9
          exact ⟨Ext.upd hu9, ⟨p9, i9, _, rfl, Nat.le_refl _, hP9.mono (by omega) (Nat.le_refl _), hI9.mono (by omega) (Nat.le_refl _)⟩, fun h => by cases h⟩
        refine ⟨.abs (fun _ x_ W_ => ∃ b, x_ = ptr b 0 ∧ s3 ≤ b ∧ Blk W_ b #[.slice none 0 0, .slice none 0 0, .slice none 0 0, .bool false] 26), ⟨fun _ _ _ => rfl, fun _ _ _ _ hu0 h => have hu : Upd (fun b => False) _ _ := hu0.mono fun b _ h_ => (by obtain ⟨j, _, hne, hm_, hk_, hS⟩ := h_; exact hS.elim)
           (by obtain ⟨b, e1, e2, e3⟩ := h; exact ⟨b, e1, e2, e3.ext hu⟩)⟩, fun val h_ W hx he => ⟨trivial, ?_⟩, ?_⟩
        · replace hx := (Upd.drew _ _).trans hx
          replace hx : Upd (fun b => False) w2 W := hx.mono fun b _ h_ => by obtain ⟨j, _, hne, hm_, hS⟩ := h_; exact hS.elim
          replace hp := hp.ext hx
          replace hc := hc.ext hx
          replace hb := hb.ext hx
          replace hl := hl.ext hx
          replace hB1 := hB1.ext hx
          have hE := Upd.refl (fun _ => False) W
          refine X_alloc (z := .agg #[.slice none 0 0, .slice none 0 0, .slice none 0 0, .bool false]) (c := #[.slice none 0 0, .slice none 0 0, .slice none 0 0, .bool false]) Zv26 rfl ?_
          intro b w2 hn
          have hxs := hx.size
          have hnn := hn.num
          have hns := hn.size
          exact ⟨Ext.upd hn.ext, ⟨b, rfl, by omega, hn.blk⟩, fun _ => ⟨b, rfl, by omega, by omega⟩⟩
        refine ⟨.abs (fun _ x_ W_ => ∃ b, x_ = ptr b 0 ∧ s3 ≤ b ∧ Blk W_ b #[.slice none 0 0, .slice none 0 0, .slice none 0 0, .bool false] 26), ⟨fun _ _ _ => rfl, fun _ _ _ _ hu0 h => have hu : Upd (fun b => False) _ _ := hu0.mono fun b _ h_ => (by obtain ⟨j, _, hne, hm_, hk_, hS⟩ := h_; exact hS.elim)
           (by obtain ⟨b, e1, e2, e3⟩ := h; exact ⟨b, e1, e2, e3.ext hu⟩)⟩, fun val h_ W hx he => ⟨trivial, ?_⟩, ?_⟩
        · replace hx := (Upd.drew _ _).trans hx
          replace hx : Upd (fun b => False) w2 W := hx.mono fun b _ h_ => by obtain ⟨j, _, hne, hm_, hS⟩ := h_; exact hS.elim
          replace hp := hp.ext hx
          replace hc := hc.ext hx
          replace hb := hb.ext hx
          replace hl := hl.ext hx
          replace hB1 := hB1.ext hx
          have hE := Upd.refl (fun _ => False) W
          refine X_alloc (z := .agg #[.slice none 0 0, .slice none 0 0, .slice none 0 0, .bool false]) (c := #[.slice none 0 0, .slice none 0 0, .slice none 0 0, .bool false]) Zv26 rfl ?_
          intro b w2 hn
          have hxs := hx.size
          have hnn := hn.num
          have hns := hn.size
          exact ⟨Ext.upd hn.ext, ⟨b, rfl, by omega, hn.blk⟩, fun _ => ⟨b, rfl, by omega, by omega⟩⟩
        intro val W9 hx9 he9 hfd
        replace hx9 := (Upd.drew _ _).trans hx9
        replace hx9 : Upd (fun b => False) w2 W9 := hx9.mono fun b _ h_ => by obtain ⟨j, _, hS⟩ := h_; exact hS.elim
        have hz9 := hx9.size
        replace hp := hp.ext hx9
        replace hc := hc.ext hx9
        replace hb := hb.ext hx9
        replace hl := hl.ext hx9
        replace hU := hU.trans (Ext.upd hx9)
        replace hB1 := hB1.ext hx9
        obtain ⟨⟨b6, he_6, hl6, hB6⟩, he9⟩ := he9
        obtain ⟨⟨b5, he_5, hl5, hB5⟩, he9⟩ := he9
        obtain ⟨⟨p_y, i_y, u4, he_4, hul4, hPy, hIy⟩, he9⟩ := he9
        obtain ⟨⟨p_x, i_x, u2, he_2, hul2, hPx, hIx⟩, he9⟩ := he9
        have hne56 : b5 ≠ b6 := fun h => hfd 5 6 b5 (by decide) (by decide) (by decide) rfl rfl he_5 (by rw [h]; exact he_6)
        rw [val_at val he_2]
        rw [val_at val he_4]
        rw [val_at val he_5]
        rw [val_at val he_6]
        refine L_op0 (X_storeW (b := b5) (ys := [p_x, (.slice none 0 0), i_x, (.bool (off))]) A26 rfl rfl (List.forall_mem_cons.2 ⟨(hPx.1.sv.one), (List.forall_mem_cons.2 ⟨rfl, (List.forall_mem_cons.2 ⟨(hIx.1.sv.one), (List.forall_mem_cons.2 ⟨rfl, (fun _ h => by cases h)⟩)⟩)⟩)⟩) rfl hB5 rfl ?_)
        intro w10 hu10 hb10
        have hz10 := hu10.size
        replace hp := hp.upd hu10 fun i h1 h2 h => by have h : i = b5 := h; omega
        replace hc := hc.upd hu10 fun i h1 h2 h => by have h : i = b5 := h; omega
        replace hb := hb.upd hu10 fun i h1 h2 h => by have h : i = b5 := h; omega
        replace hl := hl.upd hu10 fun i hi h => by have hi := hlb _ hi; have h : i = b5 := h; omega
        replace hU := hU.trans (hu10.mono fun i _ h => by have h : i = b5 := h; show n0 ≤ i; omega)
        replace hB1 := hB1.upd hu10 fun h => by have h : b1 = b5 := h; omega
        replace hB6 := hB6.upd hu10 fun h => by have h : b6 = b5 := h; omega
        replace hPx := NOwn.upd' (fun _ => rfl) hPx hu10 fun i hi h => own_ne hPx.1 hB5 (by decide) i hi h
        replace hIx := NOwn.upd' (fun _ => rfl) hIx hu10 fun i hi h => own_ne hIx.1 hB5 (by decide) i hi h
        replace hPy := NOwn.upd' (fun _ => rfl) hPy hu10 fun i hi h => own_ne hPy.1 hB5 (by decide) i hi h
        replace hIy := NOwn.upd' (fun _ => rfl) hIy hu10 fun i hi h => own_ne hIy.1 hB5 (by decide) i hi h
        replace hB5 : Blk w10 b5 #[p_x, (.slice none 0 0), i_x, (.bool (off))] 26 := hb10
        refine L_op0 (X_storeW (b := b6) (ys := [p_y, (.slice none 0 0), i_y, (.bool (off))]) A26 rfl rfl (List.forall_mem_cons.2 ⟨(hPy.1.sv.one), (List.forall_mem_cons.2 ⟨rfl, (List.forall_mem_cons.2 ⟨(hIy.1.sv.one), (List.forall_mem_cons.2 ⟨rfl, (fun _ h => by cases h)⟩)⟩)⟩)⟩) rfl hB6 rfl ?_)
        intro w11 hu11 hb11
        have hz11 := hu11.size
        replace hp := hp.upd hu11 fun i h1 h2 h => by have h : i = b6 := h; omega
        replace hc := hc.upd hu11 fun i h1 h2 h => by have h : i = b6 := h; omega
        replace hb := hb.upd hu11 fun i h1 h2 h => by have h : i = b6 := h; omega
        replace hl := hl.upd hu11 fun i hi h => by have hi := hlb _ hi; have h : i = b6 := h; omega
        replace hU := hU.trans (hu11.mono fun i _ h => by have h : i = b6 := h; show n0 ≤ i; omega)
        replace hB1 := hB1.upd hu11 fun h => by have h : b1 = b6 := h; omega
        replace hPx := NOwn.upd' (fun _ => rfl) hPx hu11 fun i hi h => own_ne hPx.1 hB6 (by decide) i hi h
        replace hIx := NOwn.upd' (fun _ => rfl) hIx hu11 fun i hi h => own_ne hIx.1 hB6 (by decide) i hi h
        replace hPy := NOwn.upd' (fun _ => rfl) hPy hu11 fun i hi h => own_ne hPy.1 hB6 (by decide) i hi h
        replace hIy := NOwn.upd' (fun _ => rfl) hIy hu11 fun i hi h => own_ne hIy.1 hB6 (by decide) i hi h
        replace hB5 := hB5.upd hu11 fun h => by have h : b5 = b6 := h; omega
        replace hB6 : Blk w11 b6 #[p_y, (.slice none 0 0), i_y, (.bool (off))] 26 := hb11
        refine L_nil ?_
        refine T_n ?_
        refine W_seq ?_
        refine W_seq ?_
        have hb5l := hB5.lt; have hb6l := hB6.lt
        have hpxsv := hPx.1.sv; have hpysv := hPy.1.sv; have hixsv := hIx.1.sv; have hiysv := hIy.1.sv
        refine W_reg ?_
        refine L_op rfl (X_fldP (b := b5) (o := 0) (r := 1) Fd26_1 rfl rfl ?_)
        refine L_op rfl (X_load (p := (ptr b5 (1))) (v := (.slice none 0 0)) T23 rfl (hB5.at1 rfl) ?_)
        refine L_op rfl (X_len (v := (.slice none 0 0)) (n := 0) Try.underlying23 rfl (Own.nil w 0 5 1).sv ?_)
        refine L_op rfl (X_cmp (k := .i64) (a := 0) (b := 0) (r := false) rfl rfl rfl rfl ?_)
        refine L_op rfl (X_move (v := (.bool (false))) rfl ?_)
        refine L_gy (dj := 36) rfl rfl rfl (X_fldP (b := b5) (o := 0) (r := 0) Fd26_0 rfl rfl ?_)
        refine L_gy (dj := 36) rfl rfl rfl (X_load (p := (ptr b5 (0))) (v := p_x) T22 rfl (hB5.at1 rfl) ?_)
        refine L_gy (dj := 36) rfl rfl rfl (X_len (v := p_x) (n := (crSt ps bs cs ls cs.length).1.length) Try.underlying22 rfl hPx.1.sv ?_)
        refine L_gy (dj := 36) rfl rfl rfl (X_fldP (b := b1) (o := 0) (r := 0) Fd26_0 rfl rfl ?_)
        refine L_gy (dj := 36) rfl rfl rfl (X_load (p := (ptr b1 (0))) (v := pv) T22 rfl (hB1.at1 rfl) ?_)
        refine L_gy (dj := 36) rfl rfl rfl (X_len (v := pv) (n := ps.length) Try.underlying22 rfl hp.sv ?_)
        refine L_gy (dj := 36) rfl rfl rfl (X_cmp (k := .i64) (a := (((crSt ps bs cs ls cs.length).1.length : Nat) : Int)) (b := ((ps.length : Nat) : Int)) (r := false) rfl rfl rfl (decide_eq_false (p := (((((crSt ps bs cs ls cs.length).1.length : Nat) : Int)) : Int) ≠ ((((ps.length : Nat) : Int)) : Int)) (by omega)) ?_)
        refine L_op rfl (X_pick (t := false) (v := (.bool (false))) rfl rfl ?_)
        refine L_op rfl (X_move (v := (.bool (false))) rfl ?_)
        refine L_gy (dj := 45) rfl rfl rfl (X_fldP (b := b6) (o := 0) (r := 0) Fd26_0 rfl rfl ?_)
        refine L_gy (dj := 45) rfl rfl rfl (X_load (p := (ptr b6 (0))) (v := p_y) T22 rfl (hB6.at1 rfl) ?_)
        refine L_gy (dj := 45) rfl rfl rfl (X_len (v := p_y) (n := ps.length) Try.underlying22 rfl hPy.1.sv ?_)
        refine L_gy (dj := 45) rfl rfl rfl (X_fldP (b := b1) (o := 0) (r := 0) Fd26_0 rfl rfl ?_)
        refine L_gy (dj := 45) rfl rfl rfl (X_load (p := (ptr b1 (0))) (v := pv) T22 rfl (hB1.at1 rfl) ?_)
        refine L_gy (dj := 45) rfl rfl rfl (X_len (v := pv) (n := ps.length) Try.underlying22 rfl hp.sv ?_)
        refine L_gy (dj := 45) rfl rfl rfl (X_cmp (k := .i64) (a := ((ps.length : Nat) : Int)) (b := ((ps.length : Nat) : Int)) (r := false) rfl rfl rfl (decide_eq_false (p := ((((ps.length : Nat) : Int)) : Int) ≠ ((((ps.length : Nat) : Int)) : Int)) (by omega)) ?_)
        refine L_op rfl (X_pick (t := false) (v := (.bool (false))) rfl rfl ?_)
        refine L_op rfl (X_move (v := (.bool (false))) rfl ?_)
        refine L_gy (dj := 54) rfl rfl rfl (X_fldP (b := b5) (o := 0) (r := 3) Fd26_3 rfl rfl ?_)
        refine L_gy (dj := 54) rfl rfl rfl (X_load (p := (ptr b5 (3))) (v := .bool false) T4 rfl (hB5.at1 (by rw [ho7]; rfl)) ?_)
        refine L_op rfl (X_pick (t := false) (v := (.bool (false))) rfl rfl ?_)
        refine L_nil ?_
        refine T_n ?_
        refine W_cf rfl ?_
        refine W_skip ?_
        refine T_n ?_
        refine W_seq ?_
        refine W_reg ?_
        refine L_op rfl (X_fldP (b := b1) (o := 0) (r := 0) Fd26_0 rfl rfl ?_)
        refine L_op rfl (X_load (p := (ptr b1 (0))) (v := pv) T22 rfl (hB1.at1 rfl) ?_)
        refine L_op rfl (X_len (v := pv) (n := ps.length) Try.underlying22 rfl hp.sv ?_)
        refine L_op rfl (X_makeSlice (n := ps.length) S31 rfl rfl rfl (by omega) (by omega) ?_)
        intro bT wT hnT
        have hbnT := hnT.num; have hbsT := hnT.size
        replace hp := hp.ext hnT.ext
        replace hc := hc.ext hnT.ext
        replace hb := hb.ext hnT.ext
        replace hl := hl.ext hnT.ext
        replace hU := hU.trans (Ext.upd hnT.ext)
        replace hB1 := hB1.ext hnT.ext
        replace hPx := hPx.ext hnT.ext
        replace hIx := hIx.ext hnT.ext
        replace hPy := hPy.ext hnT.ext
        replace hIy := hIy.ext hnT.ext
        replace hB5 := hB5.ext hnT.ext
        replace hB6 := hB6.ext hnT.ext
        have hBT := hnT.blk
        have hT : Own wT bT 4 1 (.slice (some ⟨bT, 0, none⟩) ps.length ps.length) ps.length ((tabI [] ps.length).map Value.bool) := own_lit (by rw [tabI_nil, List.map_replicate]; exact hBT) (by rw [List.length_map, tabI_len]) (by unfold maxLen; omega)
        obtain ⟨vT, hvT⟩ : ∃ v : Value, v = .slice (some ⟨bT, 0, none⟩) ps.length ps.length := ⟨_, rfl⟩
        rw [← hvT] at hT ⊢
        have hT_b : ∀ b, obk vT = some b → b = bT := fun b hb => by rw [hvT] at hb; exact lit_b hb
        refine L_op rfl (X_assign (v := vT) rfl ?_)
        refine L_nil ?_
        refine T_n ?_
        refine W_seq ?_
        refine W_seq ?_
        refine W_reg ?_
        refine L_op rfl (X_assign (v := (.int .i64 (0))) rfl ?_)
        refine L_nil ?_
        refine T_n ?_
        refine W_block ?_
        have hbTw0 : bT < wT.heap.size := by omega
        refine W_loop (α := Nat) [8, 62, 63, 64, 65, 66, 67, 68, 69, 70, 71, 72, 73, 74, 75, 76, 77, 78, 79, 80, 81, 82, 83, 84, 85, 86, 87, 88, 89, 90, 91, 92, 93, 94, 95] (fun k => [(8, (.int .i64 (((k : Nat) : Int))))]) (fun k w_ => k ≤ cs.length ∧ Own w_ bT 4 1 vT ps.length ((tabI (fstW (cs.take k)) ps.length).map Value.bool) ∧ bT < w_.heap.size ∧ NRd LP w_ 0 n0 pv ps ∧ NRd LW w_ 0 n0 cv cs ∧ NRd LI w_ 0 n0 bv bs ∧ NOwn LP w_ 33 5 s3 u2 p_x (crSt ps bs cs ls cs.length).1 ∧ NOwn LP w_ 33 5 s3 u4 p_y ps ∧ Blk w_ b1 #[pv, cv, bv, .bool off] 26 ∧ Blk w_ b5 #[p_x, .slice none 0 0, i_x, .bool off] 26 ∧ Blk w_ b6 #[p_y, .slice none 0 0, i_y, .bool off] 26 ∧ Rd w_ 1 lv ls.length (ls.map byteV) ∧ Upd (fun i => n0 ≤ i) w w_) (fun k => cs.length - k) ⟨rfl, 0, ⟨Nat.zero_le _, hT, hbTw0, hp, hc, hb, hPx, hPy, hB1, hB5, hB6, hl, hU⟩, Out.refl _ _, ⟨rfl, trivial⟩⟩ ?_
        rintro k w12 _ ⟨hkl, hT, hbTw, hp, hc, hb, hPx, hPy, hB1, hB5, hB6, hl, hU⟩
        have hsz_ := hU.size
        have hbTl : bT < w12.heap.size := by have h := hbTw; omega
        refine W_seq ?_
        refine W_seq ?_
        refine W_reg ?_
        refine L_op rfl (X_move (v := (.int .i64 (((k : Nat) : Int)))) rfl ?_)
        refine L_op rfl (X_fldP (b := b1) (o := 0) (r := 1) Fd26_1 rfl rfl ?_)
        refine L_op rfl (X_load (p := (ptr b1 (1))) (v := cv) T23 rfl (hB1.at1 rfl) ?_)
        refine L_op rfl (X_len (v := cv) (n := cs.length) Try.underlying23 rfl hc.sv ?_)
        by_cases hc13 : (((k : Nat) : Int) : Int) < (((cs.length : Nat) : Int))
        · refine L_op rfl (X_cmp (k := .i64) (a := ((k : Nat) : Int)) (b := ((cs.length : Nat) : Int)) (r := true) rfl rfl rfl (decide_eq_true (p := ((((k : Nat) : Int)) : Int) < ((((cs.length : Nat) : Int)) : Int)) (by omega)) ?_)
          have hk : k < cs.length := by omega
          obtain ⟨e, hei⟩ : ∃ e, cs[k]? = some e := ⟨_, List.getElem?_eq_getElem hk⟩
          refine L_nil ?_
          refine T_n ?_
          refine W_ct rfl ?_
          refine W_skip ?_
          refine T_n ?_
          refine W_seq ?_
          refine W_block ?_
          refine W_seq ?_
          rcases Bool.eq_false_or_eq_true (decide (0 ≤ e.1)) with hs14 | hs14
          · rcases Bool.eq_false_or_eq_true (decide (e.1 < ((ps.length : Nat) : Int))) with hs15 | hs15
            · have h_16_ := of_decide_eq_true hs14
              have h_17_ := of_decide_eq_true hs15
              refine W_draw 17 [[], [0], [], [0, 1, 2], [0, 1, 2, 3], [0, 1, 2, 3, 4], [0, 1, 2, 3, 4, 5], [0, 1, 2, 3, 4, 5, 6], [0, 1, 2, 3, 4, 5, 6, 7], [0, 1, 2, 3, 4, 5, 6, 7, 8], [0, 1, 2, 3, 4, 5, 6, 7], [0, 1, 2, 3, 4, 5, 6, 7, 8, 9, 10], [0, 1, 2, 3, 4, 5, 6, 7, 8, 9, 10, 11], [0, 1, 2, 3, 4, 5, 6, 7, 8, 9, 10, 11, 12], [0, 1, 2, 3, 4, 5, 6, 7], [0, 1, 2, 3, 4, 5, 6, 7, 14], [0, 1, 2, 3, 4, 5, 6, 7, 14, 15], [0, 1, 2, 3, 4, 5, 6, 7, 8, 9, 10, 11, 12, 13, 14, 15, 16], [0, 1, 2, 3, 4, 5, 6, 7, 8, 9, 10, 11, 12, 13, 14, 15, 16, 17]] mixed (by kernel_rfl) ?_
              refine ⟨.det (fun val => (ptr b1 (1))), ⟨fun _ _ hv => rfl, fun _ _ _ _ _ => trivial⟩, fun val h_ W hx he => ⟨trivial, ?_⟩, ?_⟩
              · replace hx := (Upd.drew _ _).trans hx
                replace hp := hp.ext hx
                replace hc := hc.ext hx
                replace hb := hb.ext hx
                replace hPx := hPx.ext hx
                replace hPy := hPy.ext hx
                replace hB1 := hB1.ext hx
                replace hB5 := hB5.ext hx
                replace hB6 := hB6.ext hx
                replace hl := hl.ext hx
                replace hT := hT.ext hx
                have hE := Upd.refl (fun _ => False) W
                refine id (X_fldP (b := b1) (o := 0) (r := 1) Fd26_1 rfl rfl ?_)
                exact ⟨hE, rfl⟩
              refine ⟨.det (fun val => cv), ⟨fun _ _ hv => rfl, fun _ _ _ _ _ => trivial⟩, fun val h_ W hx he => ⟨trivial, ?_⟩, ?_⟩
              · replace hx := (Upd.drew _ _).trans hx
                replace hp := hp.ext hx
                replace hc := hc.ext hx
                replace hb := hb.ext hx
                replace hPx := hPx.ext hx
                replace hPy := hPy.ext hx
                replace hB1 := hB1.ext hx
                replace hB5 := hB5.ext hx
                replace hB6 := hB6.ext hx
                replace hl := hl.ext hx
                replace hT := hT.ext hx
                have hE := Upd.refl (fun _ => False) W
                refine id (X_load (p := (ptr b1 (1))) (v := cv) T23 rfl (hB1.at1 rfl) ?_)
                exact ⟨hE, rfl⟩
              refine ⟨.det (fun val => (.int .i64 (((k : Nat) : Int)))), ⟨fun _ _ hv => rfl, fun _ _ _ _ _ => trivial⟩, fun val h_ W hx he => ⟨trivial, ?_⟩, ?_⟩
              · replace hx := (Upd.drew _ _).trans hx
                replace hp := hp.ext hx
                replace hc := hc.ext hx
                replace hb := hb.ext hx
                replace hPx := hPx.ext hx
                replace hPy := hPy.ext hx
                replace hB1 := hB1.ext hx
                replace hB5 := hB5.ext hx
                replace hB6 := hB6.ext hx
                replace hl := hl.ext hx
                replace hT := hT.ext hx
                have hE := Upd.refl (fun _ => False) W
                refine id (X_move (v := (.int .i64 (((k : Nat) : Int)))) rfl ?_)
                exact ⟨hE, rfl⟩
              refine ⟨.det (fun val => (pof cv ((((k : Nat) : Int) : Int).toNat * 257))), ⟨fun _ _ hv => rfl, fun _ _ _ _ _ => trivial⟩, fun val h_ W hx he => ⟨trivial, ?_⟩, ?_⟩
              · replace hx := (Upd.drew _ _).trans hx
                replace hp := hp.ext hx
                replace hc := hc.ext hx
                replace hb := hb.ext hx
                replace hPx := hPx.ext hx
                replace hPy := hPy.ext hx
                replace hB1 := hB1.ext hx
                replace hB5 := hB5.ext hx
                replace hB6 := hB6.ext hx
                replace hl := hl.ext hx
                replace hT := hT.ext hx
                have hE := Upd.refl (fun _ => False) W
                refine id (X_idx (v := cv) (n := cs.length) (k := .i64) (i := ((k : Nat) : Int)) S23 rfl hc.sv rfl (by omega) (by omega) ?_)
                exact ⟨hE, rfl⟩
              refine ⟨.det (fun val => (pof cv ((((k : Nat) : Int) : Int).toNat * 257 + 0))), ⟨fun _ _ hv => rfl, fun _ _ _ _ _ => trivial⟩, fun val h_ W hx he => ⟨trivial, ?_⟩, ?_⟩
              · replace hx := (Upd.drew _ _).trans hx
                replace hp := hp.ext hx
                replace hc := hc.ext hx
                replace hb := hb.ext hx
                replace hPx := hPx.ext hx
                replace hPy := hPy.ext hx
                replace hB1 := hB1.ext hx
                replace hB5 := hB5.ext hx
                replace hB6 := hB6.ext hx
                replace hl := hl.ext hx
                replace hT := hT.ext hx
                have hE := Upd.refl (fun _ => False) W
                refine id (X_fldS (v := cv) (o := (((k : Nat) : Int) : Int).toNat * 257) Fd35_0 rfl hc.sv (by omega) ?_)
                exact ⟨hE, rfl⟩
              refine ⟨.det (fun val => (.int .i64 (e.1))), ⟨fun _ _ hv => rfl, fun _ _ _ _ _ => trivial⟩, fun val h_ W hx he => ⟨trivial, ?_⟩, ?_⟩
              · replace hx := (Upd.drew _ _).trans hx
                replace hp := hp.ext hx
                replace hc := hc.ext hx
                replace hb := hb.ext hx
                replace hPx := hPx.ext hx
                replace hPy := hPy.ext hx
                replace hB1 := hB1.ext hx
                replace hB5 := hB5.ext hx
                replace hB6 := hB6.ext hx
                replace hl := hl.ext hx
                replace hT := hT.ext hx
                have hE := Upd.refl (fun _ => False) W
                refine id (X_load (v := .int .i64 e.1) T3 rfl (wat hc (Int.toNat_natCast _) hei) ?_)
                exact ⟨hE, rfl⟩
              refine ⟨.det (fun val => (.bool (true))), ⟨fun _ _ hv => rfl, fun _ _ _ _ _ => trivial⟩, fun val h_ W hx he => ⟨trivial, ?_⟩, ?_⟩
              · replace hx := (Upd.drew _ _).trans hx
                replace hp := hp.ext hx
                replace hc := hc.ext hx
                replace hb := hb.ext hx
                replace hPx := hPx.ext hx
                replace hPy := hPy.ext hx
                replace hB1 := hB1.ext hx
                replace hB5 := hB5.ext hx
                replace hB6 := hB6.ext hx
                replace hl := hl.ext hx
                replace hT := hT.ext hx
                have hE := Upd.refl (fun _ => False) W
                refine id (X_cmp (k := .i64) (a := e.1) (b := 0) (r := true) rfl rfl rfl (decide_eq_true (p := ((0) : Int) ≤ ((e.1) : Int)) (by have h_ := of_decide_eq_true hs14; omega)) ?_)
                exact ⟨hE, rfl⟩
              refine ⟨.det (fun val => (.bool (true))), ⟨fun _ _ hv => rfl, fun _ _ _ _ _ => trivial⟩, fun val h_ W hx he => ⟨trivial, ?_⟩, ?_⟩
              · replace hx := (Upd.drew _ _).trans hx
                replace hp := hp.ext hx
                replace hc := hc.ext hx
                replace hb := hb.ext hx
                replace hPx := hPx.ext hx
                replace hPy := hPy.ext hx
                replace hB1 := hB1.ext hx
                replace hB5 := hB5.ext hx
                replace hB6 := hB6.ext hx
                replace hl := hl.ext hx
                replace hT := hT.ext hx
                have hE := Upd.refl (fun _ => False) W
                refine id (X_move (v := (.bool (true))) rfl ?_)
                exact ⟨hE, rfl⟩
              refine ⟨.det (fun val => (ptr b1 (1))), ⟨fun _ _ hv => rfl, fun _ _ _ _ _ => trivial⟩, fun val h_ W hx he => ⟨⟨76, rfl, rfl⟩, ?_⟩, ?_⟩
              · replace hx := (Upd.drew _ _).trans hx
                replace hp := hp.ext hx
                replace hc := hc.ext hx
                replace hb := hb.ext hx
                replace hPx := hPx.ext hx
                replace hPy := hPy.ext hx
                replace hB1 := hB1.ext hx
                replace hB5 := hB5.ext hx
                replace hB6 := hB6.ext hx
                replace hl := hl.ext hx
                replace hT := hT.ext hx
                have hE := Upd.refl (fun _ => False) W
                refine id (X_fldP (b := b1) (o := 0) (r := 1) Fd26_1 rfl rfl ?_)
                exact ⟨hE, rfl⟩
              refine ⟨.det (fun val => cv), ⟨fun _ _ hv => rfl, fun _ _ _ _ _ => trivial⟩, fun val h_ W hx he => ⟨⟨76, rfl, rfl⟩, ?_⟩, ?_⟩
              · replace hx := (Upd.drew _ _).trans hx
                replace hp := hp.ext hx
                replace hc := hc.ext hx
                replace hb := hb.ext hx
                replace hPx := hPx.ext hx
                replace hPy := hPy.ext hx
                replace hB1 := hB1.ext hx
                replace hB5 := hB5.ext hx
                replace hB6 := hB6.ext hx
                replace hl := hl.ext hx
                replace hT := hT.ext hx
                have hE := Upd.refl (fun _ => False) W
                refine id (X_load (p := (ptr b1 (1))) (v := cv) T23 rfl (hB1.at1 rfl) ?_)
                exact ⟨hE, rfl⟩
              refine ⟨.det (fun val => (.int .i64 (((k : Nat) : Int)))), ⟨fun _ _ hv => rfl, fun _ _ _ _ _ => trivial⟩, fun val h_ W hx he => ⟨⟨76, rfl, rfl⟩, ?_⟩, ?_⟩
              · replace hx := (Upd.drew _ _).trans hx
                replace hp := hp.ext hx
                replace hc := hc.ext hx
                replace hb := hb.ext hx
                replace hPx := hPx.ext hx
                replace hPy := hPy.ext hx
                replace hB1 := hB1.ext hx
                replace hB5 := hB5.ext hx
                replace hB6 := hB6.ext hx
                replace hl := hl.ext hx
                replace hT := hT.ext hx
                have hE := Upd.refl (fun _ => False) W
                refine id (X_move (v := (.int .i64 (((k : Nat) : Int)))) rfl ?_)
                exact ⟨hE, rfl⟩
              refine ⟨.det (fun val => (pof cv ((((k : Nat) : Int) : Int).toNat * 257))), ⟨fun _ _ hv => rfl, fun _ _ _ _ _ => trivial⟩, fun val h_ W hx he => ⟨⟨76, rfl, rfl⟩, ?_⟩, ?_⟩
              · replace hx := (Upd.drew _ _).trans hx
                replace hp := hp.ext hx
                replace hc := hc.ext hx
                replace hb := hb.ext hx
                replace hPx := hPx.ext hx
                replace hPy := hPy.ext hx
                replace hB1 := hB1.ext hx
                replace hB5 := hB5.ext hx
                replace hB6 := hB6.ext hx
                replace hl := hl.ext hx
                replace hT := hT.ext hx
                have hE := Upd.refl (fun _ => False) W
                refine id (X_idx (v := cv) (n := cs.length) (k := .i64) (i := ((k : Nat) : Int)) S23 rfl hc.sv rfl (by omega) (by omega) ?_)
                exact ⟨hE, rfl⟩
              refine ⟨.det (fun val => (pof cv ((((k : Nat) : Int) : Int).toNat * 257 + 0))), ⟨fun _ _ hv => rfl, fun _ _ _ _ _ => trivial⟩, fun val h_ W hx he => ⟨⟨76, rfl, rfl⟩, ?_⟩, ?_⟩
              · replace hx := (Upd.drew _ _).trans hx
                replace hp := hp.ext hx
                replace hc := hc.ext hx
                replace hb := hb.ext hx
                replace hPx := hPx.ext hx
                replace hPy := hPy.ext hx
                replace hB1 := hB1.ext hx
                replace hB5 := hB5.ext hx
                replace hB6 := hB6.ext hx
                replace hl := hl.ext hx
                replace hT := hT.ext hx
                have hE := Upd.refl (fun _ => False) W
                refine id (X_fldS (v := cv) (o := (((k : Nat) : Int) : Int).toNat * 257) Fd35_0 rfl hc.sv (by omega) ?_)
                exact ⟨hE, rfl⟩
              refine ⟨.det (fun val => (.int .i64 (e.1))), ⟨fun _ _ hv => rfl, fun _ _ _ _ _ => trivial⟩, fun val h_ W hx he => ⟨⟨76, rfl, rfl⟩, ?_⟩, ?_⟩
              · replace hx := (Upd.drew _ _).trans hx
                replace hp := hp.ext hx
                replace hc := hc.ext hx
                replace hb := hb.ext hx
                replace hPx := hPx.ext hx
                replace hPy := hPy.ext hx
                replace hB1 := hB1.ext hx
                replace hB5 := hB5.ext hx
                replace hB6 := hB6.ext hx
                replace hl := hl.ext hx
                replace hT := hT.ext hx
                have hE := Upd.refl (fun _ => False) W
                refine id (X_load (v := .int .i64 e.1) T3 rfl (wat hc (Int.toNat_natCast _) hei) ?_)
                exact ⟨hE, rfl⟩
              refine ⟨.det (fun val => (ptr b1 (0))), ⟨fun _ _ hv => rfl, fun _ _ _ _ _ => trivial⟩, fun val h_ W hx he => ⟨⟨76, rfl, rfl⟩, ?_⟩, ?_⟩
              · replace hx := (Upd.drew _ _).trans hx
                replace hp := hp.ext hx
                replace hc := hc.ext hx
                replace hb := hb.ext hx
                replace hPx := hPx.ext hx
                replace hPy := hPy.ext hx
                replace hB1 := hB1.ext hx
                replace hB5 := hB5.ext hx
                replace hB6 := hB6.ext hx
                replace hl := hl.ext hx
                replace hT := hT.ext hx
                have hE := Upd.refl (fun _ => False) W
                refine id (X_fldP (b := b1) (o := 0) (r := 0) Fd26_0 rfl rfl ?_)
                exact ⟨hE, rfl⟩
              refine ⟨.det (fun val => pv), ⟨fun _ _ hv => rfl, fun _ _ _ _ _ => trivial⟩, fun val h_ W hx he => ⟨⟨76, rfl, rfl⟩, ?_⟩, ?_⟩
              · replace hx := (Upd.drew _ _).trans hx
                replace hp := hp.ext hx
                replace hc := hc.ext hx
                replace hb := hb.ext hx
                replace hPx := hPx.ext hx
                replace hPy := hPy.ext hx
                replace hB1 := hB1.ext hx
                replace hB5 := hB5.ext hx
                replace hB6 := hB6.ext hx
                replace hl := hl.ext hx
                replace hT := hT.ext hx
                have hE := Upd.refl (fun _ => False) W
                refine id (X_load (p := (ptr b1 (0))) (v := pv) T22 rfl (hB1.at1 rfl) ?_)
                exact ⟨hE, rfl⟩
              refine ⟨.det (fun val => (.int .i64 (((ps.length : Nat) : Int)))), ⟨fun _ _ hv => rfl, fun _ _ _ _ _ => trivial⟩, fun val h_ W hx he => ⟨⟨76, rfl, rfl⟩, ?_⟩, ?_⟩
              · replace hx := (Upd.drew _ _).trans hx
                replace hp := hp.ext hx
                replace hc := hc.ext hx
                replace hb := hb.ext hx
                replace hPx := hPx.ext hx
                replace hPy := hPy.ext hx
                replace hB1 := hB1.ext hx
                replace hB5 := hB5.ext hx
                replace hB6 := hB6.ext hx
                replace hl := hl.ext hx
                replace hT := hT.ext hx
                have hE := Upd.refl (fun _ => False) W
                refine id (X_len (v := pv) (n := ps.length) Try.underlying22 rfl hp.sv ?_)
                exact ⟨hE, rfl⟩
              intro val W18 hx18 he18
              replace hx18 := (Upd.drew _ _).trans hx18
              have hz18 := hx18.size
              replace hp := hp.ext hx18
              replace hc := hc.ext hx18
              replace hb := hb.ext hx18
              replace hPx := hPx.ext hx18
              replace hPy := hPy.ext hx18
              replace hB1 := hB1.ext hx18
              replace hB5 := hB5.ext hx18
              replace hB6 := hB6.ext hx18
              replace hl := hl.ext hx18
              replace hU := hU.trans (Ext.upd hx18)
              replace hT := hT.ext hx18
              refine L_gy (dj := 76) rfl rfl rfl (X_cmp (k := .i64) (a := e.1) (b := ((ps.length : Nat) : Int)) (r := true) rfl rfl rfl (decide_eq_true (p := ((e.1) : Int) < ((((ps.length : Nat) : Int)) : Int)) (by have h_ := of_decide_eq_true hs15; omega)) ?_)
              refine L_op rfl (X_pick (t := true) (v := (.bool (true))) rfl rfl ?_)
              refine L_nil ?_
              refine T_n ?_
              refine W_ct rfl ?_
              refine W_reg ?_
              refine L_op rfl (X_move (v := vT) rfl ?_)
              refine L_op rfl (X_fldP (b := b1) (o := 0) (r := 1) Fd26_1 rfl rfl ?_)
              refine L_op rfl (X_load (p := (ptr b1 (1))) (v := cv) T23 rfl (hB1.at1 rfl) ?_)
              refine L_op rfl (X_move (v := (.int .i64 (((k : Nat) : Int)))) rfl ?_)
              refine L_op rfl (X_idx (v := cv) (n := cs.length) (k := .i64) (i := ((k : Nat) : Int)) S23 rfl hc.sv rfl (by omega) (by omega) ?_)
              refine L_op rfl (X_fldS (v := cv) (o := (((k : Nat) : Int) : Int).toNat * 257) Fd35_0 rfl hc.sv (by omega) ?_)
              refine L_op rfl (X_load (v := .int .i64 e.1) T3 rfl (wat hc (Int.toNat_natCast _) hei) ?_)
              refine L_op rfl (X_idx (v := vT) (n := ps.length) (k := .i64) (i := e.1) S31 rfl hT.sv rfl (by omega) (by omega) ?_)
              refine L_op0 (X_storeOwnC (i := (e.1).toNat * 1) (u := .bool true) T4 hT (by omega) rfl rfl rfl ?_)
              intro w9 hO9 hu9
              have hz9 := hu9.size
              rw [Nat.mul_one, ← List.map_set, ← tabI_push (by omega) (by omega), ← fstW_step hei] at hO9
              have hT9 := hO9
              replace hp := hp.upd hu9 fun i h1 h2 h => by have h := hT_b _ h; omega
              replace hc := hc.upd hu9 fun i h1 h2 h => by have h := hT_b _ h; omega
              replace hb := hb.upd hu9 fun i h1 h2 h => by have h := hT_b _ h; omega
              replace hPx := hPx.upd hu9 fun i h1 h2 h => by have h := hT_b _ h; omega
              replace hPy := hPy.upd hu9 fun i h1 h2 h => by have h := hT_b _ h; omega
              replace hB1 := hB1.upd hu9 fun h => by have h := hT_b _ h; omega
              replace hB5 := hB5.upd hu9 fun h => by have h := hT_b _ h; omega
              replace hB6 := hB6.upd hu9 fun h => by have h := hT_b _ h; omega
              replace hl := hl.upd hu9 fun i hi h => by have hi := hlb _ hi; have h := hT_b _ h; omega
              replace hU := hU.trans (hu9.mono fun i _ h => by have h := hT_b _ h; show n0 ≤ i; omega)
              refine L_nil ?_
              refine B_n ?_
              refine T_n ?_
              refine W_reg ?_
              refine L_op rfl (X_move (v := (.int .i64 (((k : Nat) : Int)))) rfl ?_)
              refine L_op rfl (X_arith (k := .i64) (a := ((k : Nat) : Int)) (b := 1) (r := ((k + 1 : Nat) : Int)) rfl rfl rfl (iadd64 (by omega) (by omega) (by omega)) ?_)
              refine L_op rfl (X_assign (v := (.int .i64 (((k + 1 : Nat) : Int)))) rfl ?_)
              refine L_nil ?_
              refine T_n ?_
              exact ⟨rfl, k + 1, ⟨⟨hk, hT9, by omega, hp, hc, hb, hPx, hPy, hB1, hB5, hB6, hl, hU⟩, (by show cs.length - (k + 1) < cs.length - k; omega)⟩, (Out.mk rfl), ⟨rfl, trivial⟩⟩
            · have h_19_ := of_decide_eq_true hs14
              have h_20_ := of_decide_eq_false hs15
              refine W_draw 17 [[], [0], [], [0, 1, 2], [0, 1, 2, 3], [0, 1, 2, 3, 4], [0, 1, 2, 3, 4, 5], [0, 1, 2, 3, 4, 5, 6], [0, 1, 2, 3, 4, 5, 6, 7], [0, 1, 2, 3, 4, 5, 6, 7, 8], [0, 1, 2, 3, 4, 5, 6, 7], [0, 1, 2, 3, 4, 5, 6, 7, 8, 9, 10], [0, 1, 2, 3, 4, 5, 6, 7, 8, 9, 10, 11], [0, 1, 2, 3, 4, 5, 6, 7, 8, 9, 10, 11, 12], [0, 1, 2, 3, 4, 5, 6, 7], [0, 1, 2, 3, 4, 5, 6, 7, 14], [0, 1, 2, 3, 4, 5, 6, 7, 14, 15], [0, 1, 2, 3, 4, 5, 6, 7, 8, 9, 10, 11, 12, 13, 14, 15, 16], [0, 1, 2, 3, 4, 5, 6, 7, 8, 9, 10, 11, 12, 13, 14, 15, 16, 17]] mixed (by kernel_rfl) ?_
              refine ⟨.det (fun val => (ptr b1 (1))), ⟨fun _ _ hv => rfl, fun _ _ _ _ _ => trivial⟩, fun val h_ W hx he => ⟨trivial, ?_⟩, ?_⟩
              · replace hx := (Upd.drew _ _).trans hx
                replace hp := hp.ext hx
                replace hc := hc.ext hx
                replace hb := hb.ext hx
                replace hPx := hPx.ext hx
                replace hPy := hPy.ext hx
                replace hB1 := hB1.ext hx
                replace hB5 := hB5.ext hx
                replace hB6 := hB6.ext hx
                replace hl := hl.ext hx
                replace hT := hT.ext hx
                have hE := Upd.refl (fun _ => False) W
                refine id (X_fldP (b := b1) (o := 0) (r := 1) Fd26_1 rfl rfl ?_)
                exact ⟨hE, rfl⟩
              refine ⟨.det (fun val => cv), ⟨fun _ _ hv => rfl, fun _ _ _ _ _ => trivial⟩, fun val h_ W hx he => ⟨trivial, ?_⟩, ?_⟩
              · replace hx := (Upd.drew _ _).trans hx
                replace hp := hp.ext hx
                replace hc := hc.ext hx
                replace hb := hb.ext hx
                replace hPx := hPx.ext hx
                replace hPy := hPy.ext hx
                replace hB1 := hB1.ext hx
                replace hB5 := hB5.ext hx
                replace hB6 := hB6.ext hx
                replace hl := hl.ext hx
                replace hT := hT.ext hx
                have hE := Upd.refl (fun _ => False) W
                refine id (X_load (p := (ptr b1 (1))) (v := cv) T23 rfl (hB1.at1 rfl) ?_)
                exact ⟨hE, rfl⟩
              refine ⟨.det (fun val => (.int .i64 (((k : Nat) : Int)))), ⟨fun _ _ hv => rfl, fun _ _ _ _ _ => trivial⟩, fun val h_ W hx he => ⟨trivial, ?_⟩, ?_⟩
              · replace hx := (Upd.drew _ _).trans hx
                replace hp := hp.ext hx
                replace hc := hc.ext hx
                replace hb := hb.ext hx
                replace hPx := hPx.ext hx
                replace hPy := hPy.ext hx
                replace hB1 := hB1.ext hx
                replace hB5 := hB5.ext hx
                replace hB6 := hB6.ext hx
                replace hl := hl.ext hx
                replace hT := hT.ext hx
                have hE := Upd.refl (fun _ => False) W
                refine id (X_move (v := (.int .i64 (((k : Nat) : Int)))) rfl ?_)
                exact ⟨hE, rfl⟩
              refine ⟨.det (fun val => (pof cv ((((k : Nat) : Int) : Int).toNat * 257))), ⟨fun _ _ hv => rfl, fun _ _ _ _ _ => trivial⟩, fun val h_ W hx he => ⟨trivial, ?_⟩, ?_⟩
              · replace hx := (Upd.drew _ _).trans hx
                replace hp := hp.ext hx
                replace hc := hc.ext hx
                replace hb := hb.ext hx
                replace hPx := hPx.ext hx
                replace hPy := hPy.ext hx
                replace hB1 := hB1.ext hx
                replace hB5 := hB5.ext hx
                replace hB6 := hB6.ext hx
                replace hl := hl.ext hx
                replace hT := hT.ext hx
                have hE := Upd.refl (fun _ => False) W
                refine id (X_idx (v := cv) (n := cs.length) (k := .i64) (i := ((k : Nat) : Int)) S23 rfl hc.sv rfl (by omega) (by omega) ?_)
                exact ⟨hE, rfl⟩
              refine ⟨.det (fun val => (pof cv ((((k : Nat) : Int) : Int).toNat * 257 + 0))), ⟨fun _ _ hv => rfl, fun _ _ _ _ _ => trivial⟩, fun val h_ W hx he => ⟨trivial, ?_⟩, ?_⟩
              · replace hx := (Upd.drew _ _).trans hx
                replace hp := hp.ext hx
                replace hc := hc.ext hx
                replace hb := hb.ext hx
                replace hPx := hPx.ext hx
                replace hPy := hPy.ext hx
                replace hB1 := hB1.ext hx
                replace hB5 := hB5.ext hx
                replace hB6 := hB6.ext hx
                replace hl := hl.ext hx
                replace hT := hT.ext hx
                have hE := Upd.refl (fun _ => False) W
                refine id (X_fldS (v := cv) (o := (((k : Nat) : Int) : Int).toNat * 257) Fd35_0 rfl hc.sv (by omega) ?_)
                exact ⟨hE, rfl⟩
              refine ⟨.det (fun val => (.int .i64 (e.1))), ⟨fun _ _ hv => rfl, fun _ _ _ _ _ => trivial⟩, fun val h_ W hx he => ⟨trivial, ?_⟩, ?_⟩
              · replace hx := (Upd.drew _ _).trans hx
                replace hp := hp.ext hx
                replace hc := hc.ext hx
                replace hb := hb.ext hx
                replace hPx := hPx.ext hx
                replace hPy := hPy.ext hx
                replace hB1 := hB1.ext hx
                replace hB5 := hB5.ext hx
                replace hB6 := hB6.ext hx
                replace hl := hl.ext hx
                replace hT := hT.ext hx
                have hE := Upd.refl (fun _ => False) W
                refine id (X_load (v := .int .i64 e.1) T3 rfl (wat hc (Int.toNat_natCast _) hei) ?_)
                exact ⟨hE, rfl⟩
              refine ⟨.det (fun val => (.bool (true))), ⟨fun _ _ hv => rfl, fun _ _ _ _ _ => trivial⟩, fun val h_ W hx he => ⟨trivial, ?_⟩, ?_⟩
              · replace hx := (Upd.drew _ _).trans hx
                replace hp := hp.ext hx
                replace hc := hc.ext hx
                replace hb := hb.ext hx
                replace hPx := hPx.ext hx
                replace hPy := hPy.ext hx
                replace hB1 := hB1.ext hx
                replace hB5 := hB5.ext hx
                replace hB6 := hB6.ext hx
                replace hl := hl.ext hx
                replace hT := hT.ext hx
                have hE := Upd.refl (fun _ => False) W
                refine id (X_cmp (k := .i64) (a := e.1) (b := 0) (r := true) rfl rfl rfl (decide_eq_true (p := ((0) : Int) ≤ ((e.1) : Int)) (by have h_ := of_decide_eq_true hs14; omega)) ?_)
                exact ⟨hE, rfl⟩
              refine ⟨.det (fun val => (.bool (true))), ⟨fun _ _ hv => rfl, fun _ _ _ _ _ => trivial⟩, fun val h_ W hx he => ⟨trivial, ?_⟩, ?_⟩
              · replace hx := (Upd.drew _ _).trans hx
                replace hp := hp.ext hx
                replace hc := hc.ext hx
                replace hb := hb.ext hx
                replace hPx := hPx.ext hx
                replace hPy := hPy.ext hx
                replace hB1 := hB1.ext hx
                replace hB5 := hB5.ext hx
                replace hB6 := hB6.ext hx
                replace hl := hl.ext hx
                replace hT := hT.ext hx
                have hE := Upd.refl (fun _ => False) W
                refine id (X_move (v := (.bool (true))) rfl ?_)
                exact ⟨hE, rfl⟩
              refine ⟨.det (fun val => (ptr b1 (1))), ⟨fun _ _ hv => rfl, fun _ _ _ _ _ => trivial⟩, fun val h_ W hx he => ⟨⟨76, rfl, rfl⟩, ?_⟩, ?_⟩
              · replace hx := (Upd.drew _ _).trans hx
                replace hp := hp.ext hx
                replace hc := hc.ext hx
                replace hb := hb.ext hx
                replace hPx := hPx.ext hx
                replace hPy := hPy.ext hx
                replace hB1 := hB1.ext hx
                replace hB5 := hB5.ext hx
                replace hB6 := hB6.ext hx
                replace hl := hl.ext hx
                replace hT := hT.ext hx
                have hE := Upd.refl (fun _ => False) W
                refine id (X_fldP (b := b1) (o := 0) (r := 1) Fd26_1 rfl rfl ?_)
                exact ⟨hE, rfl⟩
              refine ⟨.det (fun val => cv), ⟨fun _ _ hv => rfl, fun _ _ _ _ _ => trivial⟩, fun val h_ W hx he => ⟨⟨76, rfl, rfl⟩, ?_⟩, ?_⟩
              · replace hx := (Upd.drew _ _).trans hx
                replace hp := hp.ext hx
                replace hc := hc.ext hx
                replace hb := hb.ext hx
                replace hPx := hPx.ext hx
                replace hPy := hPy.ext hx
                replace hB1 := hB1.ext hx
                replace hB5 := hB5.ext hx
                replace hB6 := hB6.ext hx
                replace hl := hl.ext hx
                replace hT := hT.ext hx
                have hE := Upd.refl (fun _ => False) W
                refine id (X_load (p := (ptr b1 (1))) (v := cv) T23 rfl (hB1.at1 rfl) ?_)
                exact ⟨hE, rfl⟩
              refine ⟨.det (fun val => (.int .i64 (((k : Nat) : Int)))), ⟨fun _ _ hv => rfl, fun _ _ _ _ _ => trivial⟩, fun val h_ W hx he => ⟨⟨76, rfl, rfl⟩, ?_⟩, ?_⟩
              · replace hx := (Upd.drew _ _).trans hx
                replace hp := hp.ext hx
                replace hc := hc.ext hx
                replace hb := hb.ext hx
                replace hPx := hPx.ext hx
                replace hPy := hPy.ext hx
                replace hB1 := hB1.ext hx
                replace hB5 := hB5.ext hx
                replace hB6 := hB6.ext hx
                replace hl := hl.ext hx
                replace hT := hT.ext hx
                have hE := Upd.refl (fun _ => False) W
                refine id (X_move (v := (.int .i64 (((k : Nat) : Int)))) rfl ?_)
                exact ⟨hE, rfl⟩
              refine ⟨.det (fun val => (pof cv ((((k : Nat) : Int) : Int).toNat * 257))), ⟨fun _ _ hv => rfl, fun _ _ _ _ _ => trivial⟩, fun val h_ W hx he => ⟨⟨76, rfl, rfl⟩, ?_⟩, ?_⟩
              · replace hx := (Upd.drew _ _).trans hx
                replace hp := hp.ext hx
                replace hc := hc.ext hx
                replace hb := hb.ext hx
                replace hPx := hPx.ext hx
                replace hPy := hPy.ext hx
                replace hB1 := hB1.ext hx
                replace hB5 := hB5.ext hx
                replace hB6 := hB6.ext hx
                replace hl := hl.ext hx
                replace hT := hT.ext hx
                have hE := Upd.refl (fun _ => False) W
                refine id (X_idx (v := cv) (n := cs.length) (k := .i64) (i := ((k : Nat) : Int)) S23 rfl hc.sv rfl (by omega) (by omega) ?_)
                exact ⟨hE, rfl⟩
              refine ⟨.det (fun val => (pof cv ((((k : Nat) : Int) : Int).toNat * 257 + 0))), ⟨fun _ _ hv => rfl, fun _ _ _ _ _ => trivial⟩, fun val h_ W hx he => ⟨⟨76, rfl, rfl⟩, ?_⟩, ?_⟩
              · replace hx := (Upd.drew _ _).trans hx
                replace hp := hp.ext hx
                replace hc := hc.ext hx
                replace hb := hb.ext hx
                replace hPx := hPx.ext hx
                replace hPy := hPy.ext hx
                replace hB1 := hB1.ext hx
                replace hB5 := hB5.ext hx
                replace hB6 := hB6.ext hx
                replace hl := hl.ext hx
                replace hT := hT.ext hx
                have hE := Upd.refl (fun _ => False) W
                refine id (X_fldS (v := cv) (o := (((k : Nat) : Int) : Int).toNat * 257) Fd35_0 rfl hc.sv (by omega) ?_)
                exact ⟨hE, rfl⟩
              refine ⟨.det (fun val => (.int .i64 (e.1))), ⟨fun _ _ hv => rfl, fun _ _ _ _ _ => trivial⟩, fun val h_ W hx he => ⟨⟨76, rfl, rfl⟩, ?_⟩, ?_⟩
              · replace hx := (Upd.drew _ _).trans hx
                replace hp := hp.ext hx
                replace hc := hc.ext hx
                replace hb := hb.ext hx
                replace hPx := hPx.ext hx
                replace hPy := hPy.ext hx
                replace hB1 := hB1.ext hx
                replace hB5 := hB5.ext hx
                replace hB6 := hB6.ext hx
                replace hl := hl.ext hx
                replace hT := hT.ext hx
                have hE := Upd.refl (fun _ => False) W
                refine id (X_load (v := .int .i64 e.1) T3 rfl (wat hc (Int.toNat_natCast _) hei) ?_)
                exact ⟨hE, rfl⟩
              refine ⟨.det (fun val => (ptr b1 (0))), ⟨fun _ _ hv => rfl, fun _ _ _ _ _ => trivial⟩, fun val h_ W hx he => ⟨⟨76, rfl, rfl⟩, ?_⟩, ?_⟩
              · replace hx := (Upd.drew _ _).trans hx
                replace hp := hp.ext hx
                replace hc := hc.ext hx
                replace hb := hb.ext hx
                replace hPx := hPx.ext hx
                replace hPy := hPy.ext hx
                replace hB1 := hB1.ext hx
                replace hB5 := hB5.ext hx
                replace hB6 := hB6.ext hx
                replace hl := hl.ext hx
                replace hT := hT.ext hx
                have hE := Upd.refl (fun _ => False) W
                refine id (X_fldP (b := b1) (o := 0) (r := 0) Fd26_0 rfl rfl ?_)
                exact ⟨hE, rfl⟩
              refine ⟨.det (fun val => pv), ⟨fun _ _ hv => rfl, fun _ _ _ _ _ => trivial⟩, fun val h_ W hx he => ⟨⟨76, rfl, rfl⟩, ?_⟩, ?_⟩
              · replace hx := (Upd.drew _ _).trans hx
                replace hp := hp.ext hx
                replace hc := hc.ext hx
                replace hb := hb.ext hx
                replace hPx := hPx.ext hx
                replace hPy := hPy.ext hx
                replace hB1 := hB1.ext hx
                replace hB5 := hB5.ext hx
                replace hB6 := hB6.ext hx
                replace hl := hl.ext hx
                replace hT := hT.ext hx
                have hE := Upd.refl (fun _ => False) W
                refine id (X_load (p := (ptr b1 (0))) (v := pv) T22 rfl (hB1.at1 rfl) ?_)
                exact ⟨hE, rfl⟩
              refine ⟨.det (fun val => (.int .i64 (((ps.length : Nat) : Int)))), ⟨fun _ _ hv => rfl, fun _ _ _ _ _ => trivial⟩, fun val h_ W hx he => ⟨⟨76, rfl, rfl⟩, ?_⟩, ?_⟩
              · replace hx := (Upd.drew _ _).trans hx
                replace hp := hp.ext hx
                replace hc := hc.ext hx
                replace hb := hb.ext hx
                replace hPx := hPx.ext hx
                replace hPy := hPy.ext hx
                replace hB1 := hB1.ext hx
                replace hB5 := hB5.ext hx
                replace hB6 := hB6.ext hx
                replace hl := hl.ext hx
                replace hT := hT.ext hx
                have hE := Upd.refl (fun _ => False) W
                refine id (X_len (v := pv) (n := ps.length) Try.underlying22 rfl hp.sv ?_)
                exact ⟨hE, rfl⟩
              intro val W21 hx21 he21
              replace hx21 := (Upd.drew _ _).trans hx21
              have hz21 := hx21.size
              replace hp := hp.ext hx21
              replace hc := hc.ext hx21
              replace hb := hb.ext hx21
              replace hPx := hPx.ext hx21
              replace hPy := hPy.ext hx21
              replace hB1 := hB1.ext hx21
              replace hB5 := hB5.ext hx21
              replace hB6 := hB6.ext hx21
              replace hl := hl.ext hx21
              replace hU := hU.trans (Ext.upd hx21)
              replace hT := hT.ext hx21
              refine L_gy (dj := 76) rfl rfl rfl (X_cmp (k := .i64) (a := e.1) (b := ((ps.length : Nat) : Int)) (r := false) rfl rfl rfl (decide_eq_false (p := ((e.1) : Int) < ((((ps.length : Nat) : Int)) : Int)) (by have h_ := of_decide_eq_false hs15; omega)) ?_)
              refine L_op rfl (X_pick (t := true) (v := (.bool (false))) rfl rfl ?_)
              refine L_nil ?_
              refine T_n ?_
              refine W_cf rfl ?_
              refine W_skip ?_
              refine B_n ?_
              refine T_n ?_
              refine W_reg ?_
              refine L_op rfl (X_move (v := (.int .i64 (((k : Nat) : Int)))) rfl ?_)
              refine L_op rfl (X_arith (k := .i64) (a := ((k : Nat) : Int)) (b := 1) (r := ((k + 1 : Nat) : Int)) rfl rfl rfl (iadd64 (by omega) (by omega) (by omega)) ?_)
              refine L_op rfl (X_assign (v := (.int .i64 (((k + 1 : Nat) : Int)))) rfl ?_)
              refine L_nil ?_
              refine T_n ?_
              exact ⟨rfl, k + 1, ⟨⟨hk, by rw [fstW_step hei, tabI_skip (by omega)]; exact hT, by omega, hp, hc, hb, hPx, hPy, hB1, hB5, hB6, hl, hU⟩, (by show cs.length - (k + 1) < cs.length - k; omega)⟩, (Out.mk rfl), ⟨rfl, trivial⟩⟩
          · have h_22_ := of_decide_eq_false hs14
            refine W_draw 17 [[], [0], [], [0, 1, 2], [0, 1, 2, 3], [0, 1, 2, 3, 4], [0, 1, 2, 3, 4, 5], [0, 1, 2, 3, 4, 5, 6], [0, 1, 2, 3, 4, 5, 6, 7], [0, 1, 2, 3, 4, 5, 6, 7, 8], [0, 1, 2, 3, 4, 5, 6, 7], [0, 1, 2, 3, 4, 5, 6, 7, 8, 9, 10], [0, 1, 2, 3, 4, 5, 6, 7, 8, 9, 10, 11], [0, 1, 2, 3, 4, 5, 6, 7, 8, 9, 10, 11, 12], [0, 1, 2, 3, 4, 5, 6, 7], [0, 1, 2, 3, 4, 5, 6, 7, 14], [0, 1, 2, 3, 4, 5, 6, 7, 14, 15], [0, 1, 2, 3, 4, 5, 6, 7, 8, 9, 10, 11, 12, 13, 14, 15, 16], [0, 1, 2, 3, 4, 5, 6, 7, 8, 9, 10, 11, 12, 13, 14, 15, 16, 17]] mixed (by kernel_rfl) ?_
            refine ⟨.det (fun val => (ptr b1 (1))), ⟨fun _ _ hv => rfl, fun _ _ _ _ _ => trivial⟩, fun val h_ W hx he => ⟨trivial, ?_⟩, ?_⟩
            · replace hx := (Upd.drew _ _).trans hx
              replace hp := hp.ext hx
              replace hc := hc.ext hx
              replace hb := hb.ext hx
              replace hPx := hPx.ext hx
              replace hPy := hPy.ext hx
              replace hB1 := hB1.ext hx
              replace hB5 := hB5.ext hx
              replace hB6 := hB6.ext hx
              replace hl := hl.ext hx
              replace hT := hT.ext hx
              have hE := Upd.refl (fun _ => False) W
              refine id (X_fldP (b := b1) (o := 0) (r := 1) Fd26_1 rfl rfl ?_)
              exact ⟨hE, rfl⟩
            refine ⟨.det (fun val => cv), ⟨fun _ _ hv => rfl, fun _ _ _ _ _ => trivial⟩, fun val h_ W hx he => ⟨trivial, ?_⟩, ?_⟩
            · replace hx := (Upd.drew _ _).trans hx
              replace hp := hp.ext hx
              replace hc := hc.ext hx
              replace hb := hb.ext hx
              replace hPx := hPx.ext hx
              replace hPy := hPy.ext hx
              replace hB1 := hB1.ext hx
              replace hB5 := hB5.ext hx
              replace hB6 := hB6.ext hx
              replace hl := hl.ext hx
              replace hT := hT.ext hx
              have hE := Upd.refl (fun _ => False) W
              refine id (X_load (p := (ptr b1 (1))) (v := cv) T23 rfl (hB1.at1 rfl) ?_)
              exact ⟨hE, rfl⟩
            refine ⟨.det (fun val => (.int .i64 (((k : Nat) : Int)))), ⟨fun _ _ hv => rfl, fun _ _ _ _ _ => trivial⟩, fun val h_ W hx he => ⟨trivial, ?_⟩, ?_⟩
            · replace hx := (Upd.drew _ _).trans hx
              replace hp := hp.ext hx
              replace hc := hc.ext hx
              replace hb := hb.ext hx
              replace hPx := hPx.ext hx
              replace hPy := hPy.ext hx
              replace hB1 := hB1.ext hx
              replace hB5 := hB5.ext hx
              replace hB6 := hB6.ext hx
              replace hl := hl.ext hx
              replace hT := hT.ext hx
              have hE := Upd.refl (fun _ => False) W
              refine id (X_move (v := (.int .i64 (((k : Nat) : Int)))) rfl ?_)
              exact ⟨hE, rfl⟩
            refine ⟨.det (fun val => (pof cv ((((k : Nat) : Int) : Int).toNat * 257))), ⟨fun _ _ hv => rfl, fun _ _ _ _ _ => trivial⟩, fun val h_ W hx he => ⟨trivial, ?_⟩, ?_⟩
            · replace hx := (Upd.drew _ _).trans hx
              replace hp := hp.ext hx
              replace hc := hc.ext hx
              replace hb := hb.ext hx
              replace hPx := hPx.ext hx
              replace hPy := hPy.ext hx
              replace hB1 := hB1.ext hx
              replace hB5 := hB5.ext hx
              replace hB6 := hB6.ext hx
              replace hl := hl.ext hx
              replace hT := hT.ext hx
              have hE := Upd.refl (fun _ => False) W
              refine id (X_idx (v := cv) (n := cs.length) (k := .i64) (i := ((k : Nat) : Int)) S23 rfl hc.sv rfl (by omega) (by omega) ?_)
              exact ⟨hE, rfl⟩
            refine ⟨.det (fun val => (pof cv ((((k : Nat) : Int) : Int).toNat * 257 + 0))), ⟨fun _ _ hv => rfl, fun _ _ _ _ _ => trivial⟩, fun val h_ W hx he => ⟨trivial, ?_⟩, ?_⟩
            · replace hx := (Upd.drew _ _).trans hx
              replace hp := hp.ext hx
              replace hc := hc.ext hx
              replace hb := hb.ext hx
              replace hPx := hPx.ext hx
              replace hPy := hPy.ext hx
              replace hB1 := hB1.ext hx
              replace hB5 := hB5.ext hx
              replace hB6 := hB6.ext hx
              replace hl := hl.ext hx
              replace hT := hT.ext hx
              have hE := Upd.refl (fun _ => False) W
              refine id (X_fldS (v := cv) (o := (((k : Nat) : Int) : Int).toNat * 257) Fd35_0 rfl hc.sv (by omega) ?_)
              exact ⟨hE, rfl⟩
            refine ⟨.det (fun val => (.int .i64 (e.1))), ⟨fun _ _ hv => rfl, fun _ _ _ _ _ => trivial⟩, fun val h_ W hx he => ⟨trivial, ?_⟩, ?_⟩
            · replace hx := (Upd.drew _ _).trans hx
              replace hp := hp.ext hx
              replace hc := hc.ext hx
              replace hb := hb.ext hx
              replace hPx := hPx.ext hx
              replace hPy := hPy.ext hx
              replace hB1 := hB1.ext hx
              replace hB5 := hB5.ext hx
              replace hB6 := hB6.ext hx
              replace hl := hl.ext hx
              replace hT := hT.ext hx
              have hE := Upd.refl (fun _ => False) W
              refine id (X_load (v := .int .i64 e.1) T3 rfl (wat hc (Int.toNat_natCast _) hei) ?_)
              exact ⟨hE, rfl⟩
            refine ⟨.det (fun val => (.bool (false))), ⟨fun _ _ hv => rfl, fun _ _ _ _ _ => trivial⟩, fun val h_ W hx he => ⟨trivial, ?_⟩, ?_⟩
            · replace hx := (Upd.drew _ _).trans hx
              replace hp := hp.ext hx
              replace hc := hc.ext hx
              replace hb := hb.ext hx
              replace hPx := hPx.ext hx
              replace hPy := hPy.ext hx
              replace hB1 := hB1.ext hx
              replace hB5 := hB5.ext hx
              replace hB6 := hB6.ext hx
              replace hl := hl.ext hx
              replace hT := hT.ext hx
              have hE := Upd.refl (fun _ => False) W
              refine id (X_cmp (k := .i64) (a := e.1) (b := 0) (r := false) rfl rfl rfl (decide_eq_false (p := ((0) : Int) ≤ ((e.1) : Int)) (by have h_ := of_decide_eq_false hs14; omega)) ?_)
              exact ⟨hE, rfl⟩
            refine ⟨.det (fun val => (.bool (false))), ⟨fun _ _ hv => rfl, fun _ _ _ _ _ => trivial⟩, fun val h_ W hx he => ⟨trivial, ?_⟩, ?_⟩
            · replace hx := (Upd.drew _ _).trans hx
              replace hp := hp.ext hx
              replace hc := hc.ext hx
              replace hb := hb.ext hx
              replace hPx := hPx.ext hx
              replace hPy := hPy.ext hx
              replace hB1 := hB1.ext hx
              replace hB5 := hB5.ext hx
              replace hB6 := hB6.ext hx
              replace hl := hl.ext hx
              replace hT := hT.ext hx
              have hE := Upd.refl (fun _ => False) W
              refine id (X_move (v := (.bool (false))) rfl ?_)
              exact ⟨hE, rfl⟩
            refine ⟨.no, ⟨fun _ _ _ => trivial, fun _ _ _ _ _ => trivial⟩, fun val h_ W hx he => ⟨76, rfl, .inl rfl⟩, ?_⟩
            refine ⟨.no, ⟨fun _ _ _ => trivial, fun _ _ _ _ _ => trivial⟩, fun val h_ W hx he => ⟨76, rfl, .inl rfl⟩, ?_⟩
            refine ⟨.no, ⟨fun _ _ _ => trivial, fun _ _ _ _ _ => trivial⟩, fun val h_ W hx he => ⟨76, rfl, .inl rfl⟩, ?_⟩
            refine ⟨.no, ⟨fun _ _ _ => trivial, fun _ _ _ _ _ => trivial⟩, fun val h_ W hx he => ⟨76, rfl, .inl rfl⟩, ?_⟩
            refine ⟨.no, ⟨fun _ _ _ => trivial, fun _ _ _ _ _ => trivial⟩, fun val h_ W hx he => ⟨76, rfl, .inl rfl⟩, ?_⟩
            refine ⟨.no, ⟨fun _ _ _ => trivial, fun _ _ _ _ _ => trivial⟩, fun val h_ W hx he => ⟨76, rfl, .inl rfl⟩, ?_⟩
            refine ⟨.no, ⟨fun _ _ _ => trivial, fun _ _ _ _ _ => trivial⟩, fun val h_ W hx he => ⟨76, rfl, .inl rfl⟩, ?_⟩
            refine ⟨.no, ⟨fun _ _ _ => trivial, fun _ _ _ _ _ => trivial⟩, fun val h_ W hx he => ⟨76, rfl, .inl rfl⟩, ?_⟩
            refine ⟨.no, ⟨fun _ _ _ => trivial, fun _ _ _ _ _ => trivial⟩, fun val h_ W hx he => ⟨76, rfl, .inl rfl⟩, ?_⟩
            intro val W23 hx23 he23
            replace hx23 := (Upd.drew _ _).trans hx23
            have hz23 := hx23.size
            replace hp := hp.ext hx23
            replace hc := hc.ext hx23
            replace hb := hb.ext hx23
            replace hPx := hPx.ext hx23
            replace hPy := hPy.ext hx23
            replace hB1 := hB1.ext hx23
            replace hB5 := hB5.ext hx23
            replace hB6 := hB6.ext hx23
            replace hl := hl.ext hx23
            replace hU := hU.trans (Ext.upd hx23)
            replace hT := hT.ext hx23
            refine L_gn (dj := 76) (t := false) rfl rfl rfl rfl ?_
            refine L_op rfl (X_pick (t := false) (v := (.bool (false))) rfl rfl ?_)
            refine L_nil ?_
            refine T_n ?_
            refine W_cf rfl ?_
            refine W_skip ?_
            refine B_n ?_
            refine T_n ?_
            refine W_reg ?_
            refine L_op rfl (X_move (v := (.int .i64 (((k : Nat) : Int)))) rfl ?_)
            refine L_op rfl (X_arith (k := .i64) (a := ((k : Nat) : Int)) (b := 1) (r := ((k + 1 : Nat) : Int)) rfl rfl rfl (iadd64 (by omega) (by omega) (by omega)) ?_)
            refine L_op rfl (X_assign (v := (.int .i64 (((k + 1 : Nat) : Int)))) rfl ?_)
            refine L_nil ?_
            refine T_n ?_
            exact ⟨rfl, k + 1, ⟨⟨hk, by rw [fstW_step hei, tabI_skip (by omega)]; exact hT, by omega, hp, hc, hb, hPx, hPy, hB1, hB5, hB6, hl, hU⟩, (by show cs.length - (k + 1) < cs.length - k; omega)⟩, (Out.mk rfl), ⟨rfl, trivial⟩⟩
        · refine L_op rfl (X_cmp (k := .i64) (a := ((k : Nat) : Int)) (b := ((cs.length : Nat) : Int)) (r := false) rfl rfl rfl (decide_eq_false (p := ((((k : Nat) : Int)) : Int) < ((((cs.length : Nat) : Int)) : Int)) (by omega)) ?_)
          obtain rfl : k = cs.length := by omega
          rw [List.take_length] at hT
          refine L_nil ?_
          refine T_n ?_
          refine W_cf rfl ?_
          refine W_exit ?_
          refine T_e ?_
          refine T_e ?_
          refine B_x ?_
          refine T_n ?_
          refine W_seq ?_
          refine W_seq ?_
          refine W_reg ?_
          refine L_op rfl (X_assign (v := (.int .i64 (0))) rfl ?_)
          refine L_nil ?_
          refine T_n ?_
          refine W_block ?_
          refine W_loop (α := Nat) [4, 9, 96, 97, 98, 99, 100, 101, 102, 103, 104, 105, 106, 107, 108, 109, 110, 111, 112, 113, 114, 115, 116, 117, 118, 119, 120, 121, 122, 123, 124, 125, 126, 127, 128, 129, 130, 131, 132, 133] (fun i => [(9, (.int .i64 (((i : Nat) : Int))))]) (fun i w_ => i ≤ ps.length ∧ Own w_ bT 4 1 vT ps.length ((tabI (fstW cs) ps.length).map Value.bool) ∧ bT < w_.heap.size ∧ NRd LP w_ 0 n0 pv ps ∧ NRd LW w_ 0 n0 cv cs ∧ NRd LI w_ 0 n0 bv bs ∧ NOwn LP w_ 33 5 s3 u2 p_x (crSt ps bs cs ls cs.length).1 ∧ NOwn LP w_ 33 5 s3 u4 p_y ps ∧ Blk w_ b1 #[pv, cv, bv, .bool off] 26 ∧ Blk w_ b5 #[p_x, .slice none 0 0, i_x, .bool off] 26 ∧ Blk w_ b6 #[p_y, .slice none 0 0, i_y, .bool off] 26 ∧ Rd w_ 1 lv ls.length (ls.map byteV) ∧ Upd (fun i => n0 ≤ i) w w_) (fun i => ps.length - i) ⟨rfl, 0, ⟨Nat.zero_le _, hT, by omega, hp, hc, hb, hPx, hPy, hB1, hB5, hB6, hl, hU⟩, Out.refl _ _, ⟨rfl, trivial⟩⟩ ?_
          rintro i w24 _ ⟨hil, hT, hbTw, hp, hc, hb, hPx, hPy, hB1, hB5, hB6, hl, hU⟩
          have hsz_ := hU.size
          have hbTl : bT < w24.heap.size := by have h := hbTw; omega
          refine W_seq ?_
          refine W_seq ?_
          refine W_reg ?_
          refine L_op rfl (X_move (v := (.int .i64 (((i : Nat) : Int)))) rfl ?_)
          refine L_op rfl (X_fldP (b := b1) (o := 0) (r := 0) Fd26_0 rfl rfl ?_)
          refine L_op rfl (X_load (p := (ptr b1 (0))) (v := pv) T22 rfl (hB1.at1 rfl) ?_)
          refine L_op rfl (X_len (v := pv) (n := ps.length) Try.underlying22 rfl hp.sv ?_)
          by_cases hc25 : (((i : Nat) : Int) : Int) < (((ps.length : Nat) : Int))
          · refine L_op rfl (X_cmp (k := .i64) (a := ((i : Nat) : Int)) (b := ((ps.length : Nat) : Int)) (r := true) rfl rfl rfl (decide_eq_true (p := ((((i : Nat) : Int)) : Int) < ((((ps.length : Nat) : Int)) : Int)) (by omega)) ?_)
            have hi : i < ps.length := by omega
            obtain ⟨pi, hpi⟩ : ∃ x, ps[i]? = some x := ⟨_, List.getElem?_eq_getElem hi⟩
            have hti := tabI_at (S := fstW cs) hi
            refine L_nil ?_
            refine T_n ?_
            refine W_ct rfl ?_
            refine W_skip ?_
            refine T_n ?_
            refine W_seq ?_
            refine W_block ?_
            refine W_seq ?_
            rcases Bool.eq_false_or_eq_true (decide (((i : Nat) : Int) ∈ fstW cs)) with hs26 | hs26
            · rw [hs26] at hti
              refine W_draw 28 [[], [0], [], [0, 1, 2], [0, 1, 2, 3], [], [5], [], [5, 6, 7], [5, 6, 7, 8], [0, 1, 2, 3, 4, 5, 6, 7, 8, 9], [0, 1, 2, 3, 4, 5, 6, 7, 8, 9, 10], [0, 1, 2, 3, 4, 5, 6, 7, 8, 9, 10, 11], [0, 1, 2, 3, 4, 5, 6, 7, 8, 9, 10, 11], [0, 1, 2, 3, 4, 5, 6, 7, 8, 9, 10, 11, 12, 13], [0, 1, 2, 3, 4, 5, 6, 7, 8, 9, 10, 11, 12, 13, 14], [0, 1, 2, 3, 4, 5, 6, 7, 8, 9, 10, 11, 12, 13, 14, 15], [0, 1, 2, 3, 4, 5, 6, 7, 8, 9, 10, 11, 12, 13, 14, 15, 16], [0, 1, 2, 3, 4, 5, 6, 7, 8, 9, 10, 11, 12, 13, 14, 15, 16, 17], [0, 1, 2, 3, 4, 5, 6, 7, 8, 9, 10, 11, 12, 13, 14, 15, 16, 17, 18], [0, 1, 2, 3, 4, 5, 6, 7, 8, 9, 10, 11, 12, 13, 14, 15, 16, 17], [0, 1, 2, 3, 4, 5, 6, 7, 8, 9, 10, 11, 12, 13, 14, 15, 16, 17, 18, 19, 20], [0, 1, 2, 3, 4, 5, 6, 7, 8, 9, 10, 11, 12, 13, 14, 15, 16, 17, 18, 19, 20, 21], [0, 1, 2, 3, 4, 5, 6, 7, 8, 9, 10, 11, 12, 13, 14, 15, 16, 17], [0, 1, 2, 3, 4, 5, 6, 7, 8, 9, 10, 11, 12, 13, 14, 15, 16, 17, 23], [0, 1, 2, 3, 4, 5, 6, 7, 8, 9, 10, 11, 12, 13, 14, 15, 16, 17], [0, 1, 2, 3, 4, 5, 6, 7, 8, 9, 10, 11, 12, 13, 14, 15, 16, 17, 23, 24, 25], [0, 1, 2, 3, 4, 5, 6, 7, 8, 9, 10, 11, 12, 13, 14, 15, 16, 17, 23, 24, 25, 26], [0, 1, 2, 3, 4, 5, 6, 7, 8, 9, 10, 11, 12, 13, 14, 15, 16, 17, 18, 19, 20, 21, 22, 23, 24, 25, 26, 27], [0, 1, 2, 3, 4, 5, 6, 7, 8, 9, 10, 11, 12, 13, 14, 15, 16, 17, 18, 19, 20, 21, 22, 23, 24, 25, 26, 27, 28], [0, 1, 2, 3, 4, 5, 6, 7, 8, 9, 10, 11, 12, 13, 14, 15, 16, 17, 18, 19, 20, 21, 22, 23, 24, 25, 26, 27, 28, 29]] mixed (by kernel_rfl) ?_
              refine ⟨.det (fun val => (ptr b6 (0))), ⟨fun _ _ hv => rfl, fun _ _ _ _ _ => trivial⟩, fun val h_ W hx he => ⟨trivial, ?_⟩, ?_⟩
              · replace hx := (Upd.drew _ _).trans hx
                replace hp := hp.ext hx
                replace hc := hc.ext hx
                replace hb := hb.ext hx
                replace hPx := hPx.ext hx
                replace hPy := hPy.ext hx
                replace hB1 := hB1.ext hx
                replace hB5 := hB5.ext hx
                replace hB6 := hB6.ext hx
                replace hl := hl.ext hx
                replace hT := hT.ext hx
                have hE := Upd.refl (fun _ => False) W
                refine id (X_fldP (b := b6) (o := 0) (r := 0) Fd26_0 rfl rfl ?_)
                exact ⟨hE, rfl⟩
              refine ⟨.det (fun val => p_y), ⟨fun _ _ hv => rfl, fun _ _ _ _ _ => trivial⟩, fun val h_ W hx he => ⟨trivial, ?_⟩, ?_⟩
              · replace hx := (Upd.drew _ _).trans hx
                replace hp := hp.ext hx
                replace hc := hc.ext hx
                replace hb := hb.ext hx
                replace hPx := hPx.ext hx
                replace hPy := hPy.ext hx
                replace hB1 := hB1.ext hx
                replace hB5 := hB5.ext hx
                replace hB6 := hB6.ext hx
                replace hl := hl.ext hx
                replace hT := hT.ext hx
                have hE := Upd.refl (fun _ => False) W
                refine id (X_load (p := (ptr b6 (0))) (v := p_y) T22 rfl (hB6.at1 rfl) ?_)
                exact ⟨hE, rfl⟩
              refine ⟨.det (fun val => (.int .i64 (((i : Nat) : Int)))), ⟨fun _ _ hv => rfl, fun _ _ _ _ _ => trivial⟩, fun val h_ W hx he => ⟨trivial, ?_⟩, ?_⟩
              · replace hx := (Upd.drew _ _).trans hx
                replace hp := hp.ext hx
                replace hc := hc.ext hx
                replace hb := hb.ext hx
                replace hPx := hPx.ext hx
                replace hPy := hPy.ext hx
                replace hB1 := hB1.ext hx
                replace hB5 := hB5.ext hx
                replace hB6 := hB6.ext hx
                replace hl := hl.ext hx
                replace hT := hT.ext hx
                have hE := Upd.refl (fun _ => False) W
                refine id (X_move (v := (.int .i64 (((i : Nat) : Int)))) rfl ?_)
                exact ⟨hE, rfl⟩
              refine ⟨.det (fun val => (pof p_y ((((i : Nat) : Int) : Int).toNat * 256))), ⟨fun _ _ hv => rfl, fun _ _ _ _ _ => trivial⟩, fun val h_ W hx he => ⟨trivial, ?_⟩, ?_⟩
              · replace hx := (Upd.drew _ _).trans hx
                replace hp := hp.ext hx
                replace hc := hc.ext hx
                replace hb := hb.ext hx
                replace hPx := hPx.ext hx
                replace hPy := hPy.ext hx
                replace hB1 := hB1.ext hx
                replace hB5 := hB5.ext hx
                replace hB6 := hB6.ext hx
                replace hl := hl.ext hx
                replace hT := hT.ext hx
                have hE := Upd.refl (fun _ => False) W
                refine id (X_idx (v := p_y) (n := ps.length) (k := .i64) (i := ((i : Nat) : Int)) S22 rfl hpysv rfl (by omega) (by omega) ?_)
                exact ⟨hE, rfl⟩
              refine ⟨.det (fun val => (.agg (((pi.1).map byteV)).toArray)), ⟨fun _ _ hv => rfl, fun _ _ _ _ _ => trivial⟩, fun val h_ W hx he => ⟨trivial, ?_⟩, ?_⟩
              · replace hx := (Upd.drew _ _).trans hx
                replace hp := hp.ext hx
                replace hc := hc.ext hx
                replace hb := hb.ext hx
                replace hPx := hPx.ext hx
                replace hPy := hPy.ext hx
                replace hB1 := hB1.ext hx
                replace hB5 := hB5.ext hx
                replace hB6 := hB6.ext hx
                replace hl := hl.ext hx
                replace hT := hT.ext hx
                have hE := Upd.refl (fun _ => False) W
                refine id (X_loadA (xs := pi.1.map byteV) A33 rfl (pall hPy.rd (Int.toNat_natCast _) hpi) (by rw [List.length_map]; exact pi.2) ?_)
                exact ⟨hE, rfl⟩
              refine ⟨.det (fun val => (ptr b1 (0))), ⟨fun _ _ hv => rfl, fun _ _ _ _ _ => trivial⟩, fun val h_ W hx he => ⟨trivial, ?_⟩, ?_⟩
              · replace hx := (Upd.drew _ _).trans hx
                replace hp := hp.ext hx
                replace hc := hc.ext hx
                replace hb := hb.ext hx
                replace hPx := hPx.ext hx
                replace hPy := hPy.ext hx
                replace hB1 := hB1.ext hx
                replace hB5 := hB5.ext hx
                replace hB6 := hB6.ext hx
                replace hl := hl.ext hx
                replace hT := hT.ext hx
                have hE := Upd.refl (fun _ => False) W
                refine id (X_fldP (b := b1) (o := 0) (r := 0) Fd26_0 rfl rfl ?_)
                exact ⟨hE, rfl⟩
              refine ⟨.det (fun val => pv), ⟨fun _ _ hv => rfl, fun _ _ _ _ _ => trivial⟩, fun val h_ W hx he => ⟨trivial, ?_⟩, ?_⟩
              · replace hx := (Upd.drew _ _).trans hx
                replace hp := hp.ext hx
                replace hc := hc.ext hx
                replace hb := hb.ext hx
                replace hPx := hPx.ext hx
                replace hPy := hPy.ext hx
                replace hB1 := hB1.ext hx
                replace hB5 := hB5.ext hx
                replace hB6 := hB6.ext hx
                replace hl := hl.ext hx
                replace hT := hT.ext hx
                have hE := Upd.refl (fun _ => False) W
                refine id (X_load (p := (ptr b1 (0))) (v := pv) T22 rfl (hB1.at1 rfl) ?_)
                exact ⟨hE, rfl⟩
              refine ⟨.det (fun val => (.int .i64 (((i : Nat) : Int)))), ⟨fun _ _ hv => rfl, fun _ _ _ _ _ => trivial⟩, fun val h_ W hx he => ⟨trivial, ?_⟩, ?_⟩
              · replace hx := (Upd.drew _ _).trans hx
                replace hp := hp.ext hx
                replace hc := hc.ext hx
                replace hb := hb.ext hx
                replace hPx := hPx.ext hx
                replace hPy := hPy.ext hx
                replace hB1 := hB1.ext hx
                replace hB5 := hB5.ext hx
                replace hB6 := hB6.ext hx
                replace hl := hl.ext hx
                replace hT := hT.ext hx
                have hE := Upd.refl (fun _ => False) W
                refine id (X_move (v := (.int .i64 (((i : Nat) : Int)))) rfl ?_)
                exact ⟨hE, rfl⟩
              refine ⟨.det (fun val => (pof pv ((((i : Nat) : Int) : Int).toNat * 256))), ⟨fun _ _ hv => rfl, fun _ _ _ _ _ => trivial⟩, fun val h_ W hx he => ⟨trivial, ?_⟩, ?_⟩
              · replace hx := (Upd.drew _ _).trans hx
                replace hp := hp.ext hx
                replace hc := hc.ext hx
                replace hb := hb.ext hx
                replace hPx := hPx.ext hx
                replace hPy := hPy.ext hx
                replace hB1 := hB1.ext hx
                replace hB5 := hB5.ext hx
                replace hB6 := hB6.ext hx
                replace hl := hl.ext hx
                replace hT := hT.ext hx
                have hE := Upd.refl (fun _ => False) W
                refine id (X_idx (v := pv) (n := ps.length) (k := .i64) (i := ((i : Nat) : Int)) S22 rfl hp.sv rfl (by omega) (by omega) ?_)
                exact ⟨hE, rfl⟩
              refine ⟨.det (fun val => (.agg (((pi.1).map byteV)).toArray)), ⟨fun _ _ hv => rfl, fun _ _ _ _ _ => trivial⟩, fun val h_ W hx he => ⟨trivial, ?_⟩, ?_⟩
              · replace hx := (Upd.drew _ _).trans hx
                replace hp := hp.ext hx
                replace hc := hc.ext hx
                replace hb := hb.ext hx
                replace hPx := hPx.ext hx
                replace hPy := hPy.ext hx
                replace hB1 := hB1.ext hx
                replace hB5 := hB5.ext hx
                replace hB6 := hB6.ext hx
                replace hl := hl.ext hx
                replace hT := hT.ext hx
                have hE := Upd.refl (fun _ => False) W
                refine id (X_loadA (xs := pi.1.map byteV) A33 rfl (pall hp (Int.toNat_natCast _) hpi) (by rw [List.length_map]; exact pi.2) ?_)
                exact ⟨hE, rfl⟩
              refine ⟨.det (fun val => (.bool (false))), ⟨fun _ _ hv => rfl, fun _ _ _ _ _ => trivial⟩, fun val h_ W hx he => ⟨trivial, ?_⟩, ?_⟩
              · replace hx := (Upd.drew _ _).trans hx
                replace hp := hp.ext hx
                replace hc := hc.ext hx
                replace hb := hb.ext hx
                replace hPx := hPx.ext hx
                replace hPy := hPy.ext hx
                replace hB1 := hB1.ext hx
                replace hB5 := hB5.ext hx
                replace hB6 := hB6.ext hx
                replace hl := hl.ext hx
                replace hT := hT.ext hx
                have hE := Upd.refl (fun _ => False) W
                refine id (X_eqA (n := 256) (l := pi.1) (m := pi.1) (r := false) Try.underlying33 Try.underlying5 (by kernel_rfl) (by kernel_rfl) (by kernel_rfl) rfl rfl (pi.2) (pi.2) (.inr ⟨rfl, (by rw [beq_self_eq_true]; rfl)⟩) ?_)
                exact ⟨hE, rfl⟩
              refine ⟨.det (fun val => (.bool (false))), ⟨fun _ _ hv => rfl, fun _ _ _ _ _ => trivial⟩, fun val h_ W hx he => ⟨trivial, ?_⟩, ?_⟩
              · replace hx := (Upd.drew _ _).trans hx
                replace hp := hp.ext hx
                replace hc := hc.ext hx
                replace hb := hb.ext hx
                replace hPx := hPx.ext hx
                replace hPy := hPy.ext hx
                replace hB1 := hB1.ext hx
                replace hB5 := hB5.ext hx
                replace hB6 := hB6.ext hx
                replace hl := hl.ext hx
                replace hT := hT.ext hx
                have hE := Upd.refl (fun _ => False) W
                refine id (X_move (v := (.bool (false))) rfl ?_)
                exact ⟨hE, rfl⟩
              refine ⟨.det (fun val => vT), ⟨fun _ _ hv => rfl, fun _ _ _ _ _ => trivial⟩, fun val h_ W hx he => ⟨⟨114, rfl, rfl⟩, ?_⟩, ?_⟩
              · replace hx := (Upd.drew _ _).trans hx
                replace hp := hp.ext hx
                replace hc := hc.ext hx
                replace hb := hb.ext hx
                replace hPx := hPx.ext hx
                replace hPy := hPy.ext hx
                replace hB1 := hB1.ext hx
                replace hB5 := hB5.ext hx
                replace hB6 := hB6.ext hx
                replace hl := hl.ext hx
                replace hT := hT.ext hx
                have hE := Upd.refl (fun _ => False) W
                refine id (X_move (v := vT) rfl ?_)
                exact ⟨hE, rfl⟩
              refine ⟨.det (fun val => (.int .i64 (((i : Nat) : Int)))), ⟨fun _ _ hv => rfl, fun _ _ _ _ _ => trivial⟩, fun val h_ W hx he => ⟨⟨114, rfl, rfl⟩, ?_⟩, ?_⟩
              · replace hx := (Upd.drew _ _).trans hx
                replace hp := hp.ext hx
                replace hc := hc.ext hx
                replace hb := hb.ext hx
                replace hPx := hPx.ext hx
                replace hPy := hPy.ext hx
                replace hB1 := hB1.ext hx
                replace hB5 := hB5.ext hx
                replace hB6 := hB6.ext hx
                replace hl := hl.ext hx
                replace hT := hT.ext hx
                have hE := Upd.refl (fun _ => False) W
                refine id (X_move (v := (.int .i64 (((i : Nat) : Int)))) rfl ?_)
                exact ⟨hE, rfl⟩
              refine ⟨.det (fun val => (pof vT ((((i : Nat) : Int) : Int).toNat * 1))), ⟨fun _ _ hv => rfl, fun _ _ _ _ _ => trivial⟩, fun val h_ W hx he => ⟨⟨114, rfl, rfl⟩, ?_⟩, ?_⟩
              · replace hx := (Upd.drew _ _).trans hx
                replace hp := hp.ext hx
                replace hc := hc.ext hx
                replace hb := hb.ext hx
                replace hPx := hPx.ext hx
                replace hPy := hPy.ext hx
                replace hB1 := hB1.ext hx
                replace hB5 := hB5.ext hx
                replace hB6 := hB6.ext hx
                replace hl := hl.ext hx
                replace hT := hT.ext hx
                have hE := Upd.refl (fun _ => False) W
                refine id (X_idx (v := vT) (n := ps.length) (k := .i64) (i := ((i : Nat) : Int)) S31 rfl hT.sv rfl (by omega) (by omega) ?_)
                exact ⟨hE, rfl⟩
              refine ⟨.det (fun val => (.bool (true))), ⟨fun _ _ hv => rfl, fun _ _ _ _ _ => trivial⟩, fun val h_ W hx he => ⟨⟨114, rfl, rfl⟩, ?_⟩, ?_⟩
              · replace hx := (Upd.drew _ _).trans hx
                replace hp := hp.ext hx
                replace hc := hc.ext hx
                replace hb := hb.ext hx
                replace hPx := hPx.ext hx
                replace hPy := hPy.ext hx
                replace hB1 := hB1.ext hx
                replace hB5 := hB5.ext hx
                replace hB6 := hB6.ext hx
                replace hl := hl.ext hx
                replace hT := hT.ext hx
                have hE := Upd.refl (fun _ => False) W
                refine id (X_load (v := .bool true) T4 rfl (hT.rd.cell (by rw [show (((i : Nat) : Int).toNat * 1) = i by omega, List.getElem?_map, hti]; rfl)) ?_)
                exact ⟨hE, rfl⟩
              refine ⟨.det (fun val => (.bool (false))), ⟨fun _ _ hv => rfl, fun _ _ _ _ _ => trivial⟩, fun val h_ W hx he => ⟨⟨114, rfl, rfl⟩, ?_⟩, ?_⟩
              · replace hx := (Upd.drew _ _).trans hx
                replace hp := hp.ext hx
                replace hc := hc.ext hx
                replace hb := hb.ext hx
                replace hPx := hPx.ext hx
                replace hPy := hPy.ext hx
                replace hB1 := hB1.ext hx
                replace hB5 := hB5.ext hx
                replace hB6 := hB6.ext hx
                replace hl := hl.ext hx
                replace hT := hT.ext hx
                have hE := Upd.refl (fun _ => False) W
                refine id (X_not (b := true) (r := false) rfl rfl ?_)
                exact ⟨hE, rfl⟩
              refine ⟨.det (fun val => (.bool (false))), ⟨fun _ _ hv => rfl, fun _ _ _ _ _ => trivial⟩, fun val h_ W hx he => ⟨⟨114, rfl, rfl⟩, ?_⟩, ?_⟩
              · replace hx := (Upd.drew _ _).trans hx
                replace hp := hp.ext hx
                replace hc := hc.ext hx
                replace hb := hb.ext hx
                replace hPx := hPx.ext hx
                replace hPy := hPy.ext hx
                replace hB1 := hB1.ext hx
                replace hB5 := hB5.ext hx
                replace hB6 := hB6.ext hx
                replace hl := hl.ext hx
                replace hT := hT.ext hx
                have hE := Upd.refl (fun _ => False) W
                refine id (X_move (v := (.bool (false))) rfl ?_)
                exact ⟨hE, rfl⟩
              refine ⟨.no, ⟨fun _ _ _ => trivial, fun _ _ _ _ _ => trivial⟩, fun val h_ W hx he => ⟨120, rfl, .inl rfl⟩, ?_⟩
              refine ⟨.no, ⟨fun _ _ _ => trivial, fun _ _ _ _ _ => trivial⟩, fun val h_ W hx he => ⟨120, rfl, .inl rfl⟩, ?_⟩
              refine ⟨.no, ⟨fun _ _ _ => trivial, fun _ _ _ _ _ => trivial⟩, fun val h_ W hx he => ⟨120, rfl, .inl rfl⟩, ?_⟩
              refine ⟨.no, ⟨fun _ _ _ => trivial, fun _ _ _ _ _ => trivial⟩, fun val h_ W hx he => ⟨120, rfl, .inl rfl⟩, ?_⟩
              refine ⟨.no, ⟨fun _ _ _ => trivial, fun _ _ _ _ _ => trivial⟩, fun val h_ W hx he => ⟨120, rfl, .inl rfl⟩, ?_⟩
              refine ⟨.no, ⟨fun _ _ _ => trivial, fun _ _ _ _ _ => trivial⟩, fun val h_ W hx he => ⟨120, rfl, .inl rfl⟩, ?_⟩
              refine ⟨.no, ⟨fun _ _ _ => trivial, fun _ _ _ _ _ => trivial⟩, fun val h_ W hx he => ⟨120, rfl, .inl rfl⟩, ?_⟩
              refine ⟨.no, ⟨fun _ _ _ => trivial, fun _ _ _ _ _ => trivial⟩, fun val h_ W hx he => ⟨120, rfl, .inl rfl⟩, ?_⟩
              refine ⟨.no, ⟨fun _ _ _ => trivial, fun _ _ _ _ _ => trivial⟩, fun val h_ W hx he => ⟨120, rfl, .inl rfl⟩, ?_⟩
              refine ⟨.no, ⟨fun _ _ _ => trivial, fun _ _ _ _ _ => trivial⟩, fun val h_ W hx he => ⟨120, rfl, .inl rfl⟩, ?_⟩
              intro val W27 hx27 he27
              replace hx27 := (Upd.drew _ _).trans hx27
              have hz27 := hx27.size
              replace hp := hp.ext hx27
              replace hc := hc.ext hx27
              replace hb := hb.ext hx27
              replace hPx := hPx.ext hx27
              replace hPy := hPy.ext hx27
              replace hB1 := hB1.ext hx27
              replace hB5 := hB5.ext hx27
              replace hB6 := hB6.ext hx27
              replace hl := hl.ext hx27
              replace hU := hU.trans (Ext.upd hx27)
              replace hT := hT.ext hx27
              refine L_gn (dj := 120) (t := false) rfl rfl rfl rfl ?_
              refine L_gy (dj := 114) rfl rfl rfl (X_pick (t := false) (v := (.bool (false))) rfl rfl ?_)
              refine L_op rfl (X_pick (t := false) (v := (.bool (false))) rfl rfl ?_)
              refine L_nil ?_
              refine T_n ?_
              refine W_cf rfl ?_
              refine W_skip ?_
              refine B_n ?_
              refine T_n ?_
              refine W_reg ?_
              refine L_op rfl (X_move (v := (.int .i64 (((i : Nat) : Int)))) rfl ?_)
              refine L_op rfl (X_arith (k := .i64) (a := ((i : Nat) : Int)) (b := 1) (r := ((i + 1 : Nat) : Int)) rfl rfl rfl (iadd64 (by omega) (by omega) (by omega)) ?_)
              refine L_op rfl (X_assign (v := (.int .i64 (((i + 1 : Nat) : Int)))) rfl ?_)
              refine L_nil ?_
              refine T_n ?_
              exact ⟨rfl, i + 1, ⟨⟨hi, hT, by omega, hp, hc, hb, hPx, hPy, hB1, hB5, hB6, hl, hU⟩, (by show ps.length - (i + 1) < ps.length - i; omega)⟩, (Out.mk rfl), ⟨rfl, trivial⟩⟩
            · rw [hs26] at hti
              have hxi : (crSt ps bs cs ls cs.length).1[i]? = some pi := by rw [crSt_other cs.length (fst_no (of_decide_eq_false hs26))]; exact hpi
              refine W_draw 28 [[], [0], [], [0, 1, 2], [0, 1, 2, 3], [], [5], [], [5, 6, 7], [5, 6, 7, 8], [0, 1, 2, 3, 4, 5, 6, 7, 8, 9], [0, 1, 2, 3, 4, 5, 6, 7, 8, 9, 10], [0, 1, 2, 3, 4, 5, 6, 7, 8, 9, 10, 11], [0, 1, 2, 3, 4, 5, 6, 7, 8, 9, 10, 11], [0, 1, 2, 3, 4, 5, 6, 7, 8, 9, 10, 11, 12, 13], [0, 1, 2, 3, 4, 5, 6, 7, 8, 9, 10, 11, 12, 13, 14], [0, 1, 2, 3, 4, 5, 6, 7, 8, 9, 10, 11, 12, 13, 14, 15], [0, 1, 2, 3, 4, 5, 6, 7, 8, 9, 10, 11, 12, 13, 14, 15, 16], [0, 1, 2, 3, 4, 5, 6, 7, 8, 9, 10, 11, 12, 13, 14, 15, 16, 17], [0, 1, 2, 3, 4, 5, 6, 7, 8, 9, 10, 11, 12, 13, 14, 15, 16, 17, 18], [0, 1, 2, 3, 4, 5, 6, 7, 8, 9, 10, 11, 12, 13, 14, 15, 16, 17], [0, 1, 2, 3, 4, 5, 6, 7, 8, 9, 10, 11, 12, 13, 14, 15, 16, 17, 18, 19, 20], [0, 1, 2, 3, 4, 5, 6, 7, 8, 9, 10, 11, 12, 13, 14, 15, 16, 17, 18, 19, 20, 21], [0, 1, 2, 3, 4, 5, 6, 7, 8, 9, 10, 11, 12, 13, 14, 15, 16, 17], [0, 1, 2, 3, 4, 5, 6, 7, 8, 9, 10, 11, 12, 13, 14, 15, 16, 17, 23], [0, 1, 2, 3, 4, 5, 6, 7, 8, 9, 10, 11, 12, 13, 14, 15, 16, 17], [0, 1, 2, 3, 4, 5, 6, 7, 8, 9, 10, 11, 12, 13, 14, 15, 16, 17, 23, 24, 25], [0, 1, 2, 3, 4, 5, 6, 7, 8, 9, 10, 11, 12, 13, 14, 15, 16, 17, 23, 24, 25, 26], [0, 1, 2, 3, 4, 5, 6, 7, 8, 9, 10, 11, 12, 13, 14, 15, 16, 17, 18, 19, 20, 21, 22, 23, 24, 25, 26, 27], [0, 1, 2, 3, 4, 5, 6, 7, 8, 9, 10, 11, 12, 13, 14, 15, 16, 17, 18, 19, 20, 21, 22, 23, 24, 25, 26, 27, 28], [0, 1, 2, 3, 4, 5, 6, 7, 8, 9, 10, 11, 12, 13, 14, 15, 16, 17, 18, 19, 20, 21, 22, 23, 24, 25, 26, 27, 28, 29]] mixed (by kernel_rfl) ?_
              refine ⟨.det (fun val => (ptr b6 (0))), ⟨fun _ _ hv => rfl, fun _ _ _ _ _ => trivial⟩, fun val h_ W hx he => ⟨trivial, ?_⟩, ?_⟩
              · replace hx := (Upd.drew _ _).trans hx
                replace hp := hp.ext hx
                replace hc := hc.ext hx
                replace hb := hb.ext hx
                replace hPx := hPx.ext hx
                replace hPy := hPy.ext hx
                replace hB1 := hB1.ext hx
                replace hB5 := hB5.ext hx
                replace hB6 := hB6.ext hx
                replace hl := hl.ext hx
                replace hT := hT.ext hx
                have hE := Upd.refl (fun _ => False) W
                refine id (X_fldP (b := b6) (o := 0) (r := 0) Fd26_0 rfl rfl ?_)
                exact ⟨hE, rfl⟩
              refine ⟨.det (fun val => p_y), ⟨fun _ _ hv => rfl, fun _ _ _ _ _ => trivial⟩, fun val h_ W hx he => ⟨trivial, ?_⟩, ?_⟩
              · replace hx := (Upd.drew _ _).trans hx
                replace hp := hp.ext hx
                replace hc := hc.ext hx
                replace hb := hb.ext hx
                replace hPx := hPx.ext hx
                replace hPy := hPy.ext hx
                replace hB1 := hB1.ext hx
                replace hB5 := hB5.ext hx
                replace hB6 := hB6.ext hx
                replace hl := hl.ext hx
                replace hT := hT.ext hx
                have hE := Upd.refl (fun _ => False) W
                refine id (X_load (p := (ptr b6 (0))) (v := p_y) T22 rfl (hB6.at1 rfl) ?_)
                exact ⟨hE, rfl⟩
              refine ⟨.det (fun val => (.int .i64 (((i : Nat) : Int)))), ⟨fun _ _ hv => rfl, fun _ _ _ _ _ => trivial⟩, fun val h_ W hx he => ⟨trivial, ?_⟩, ?_⟩
              · replace hx := (Upd.drew _ _).trans hx
                replace hp := hp.ext hx
                replace hc := hc.ext hx
                replace hb := hb.ext hx
                replace hPx := hPx.ext hx
                replace hPy := hPy.ext hx
                replace hB1 := hB1.ext hx
                replace hB5 := hB5.ext hx
                replace hB6 := hB6.ext hx
                replace hl := hl.ext hx
                replace hT := hT.ext hx
                have hE := Upd.refl (fun _ => False) W
                refine id (X_move (v := (.int .i64 (((i : Nat) : Int)))) rfl ?_)
                exact ⟨hE, rfl⟩
              refine ⟨.det (fun val => (pof p_y ((((i : Nat) : Int) : Int).toNat * 256))), ⟨fun _ _ hv => rfl, fun _ _ _ _ _ => trivial⟩, fun val h_ W hx he => ⟨trivial, ?_⟩, ?_⟩
              · replace hx := (Upd.drew _ _).trans hx
                replace hp := hp.ext hx
                replace hc := hc.ext hx
                replace hb := hb.ext hx
                replace hPx := hPx.ext hx
                replace hPy := hPy.ext hx
                replace hB1 := hB1.ext hx
                replace hB5 := hB5.ext hx
                replace hB6 := hB6.ext hx
                replace hl := hl.ext hx
                replace hT := hT.ext hx
                have hE := Upd.refl (fun _ => False) W
                refine id (X_idx (v := p_y) (n := ps.length) (k := .i64) (i := ((i : Nat) : Int)) S22 rfl hpysv rfl (by omega) (by omega) ?_)
                exact ⟨hE, rfl⟩
              refine ⟨.det (fun val => (.agg (((pi.1).map byteV)).toArray)), ⟨fun _ _ hv => rfl, fun _ _ _ _ _ => trivial⟩, fun val h_ W hx he => ⟨trivial, ?_⟩, ?_⟩
              · replace hx := (Upd.drew _ _).trans hx
                replace hp := hp.ext hx
                replace hc := hc.ext hx
                replace hb := hb.ext hx
                replace hPx := hPx.ext hx
                replace hPy := hPy.ext hx
                replace hB1 := hB1.ext hx
                replace hB5 := hB5.ext hx
                replace hB6 := hB6.ext hx
                replace hl := hl.ext hx
                replace hT := hT.ext hx
                have hE := Upd.refl (fun _ => False) W
                refine id (X_loadA (xs := pi.1.map byteV) A33 rfl (pall hPy.rd (Int.toNat_natCast _) hpi) (by rw [List.length_map]; exact pi.2) ?_)
                exact ⟨hE, rfl⟩
              refine ⟨.det (fun val => (ptr b1 (0))), ⟨fun _ _ hv => rfl, fun _ _ _ _ _ => trivial⟩, fun val h_ W hx he => ⟨trivial, ?_⟩, ?_⟩
              · replace hx := (Upd.drew _ _).trans hx
                replace hp := hp.ext hx
                replace hc := hc.ext hx
                replace hb := hb.ext hx
                replace hPx := hPx.ext hx
                replace hPy := hPy.ext hx
                replace hB1 := hB1.ext hx
                replace hB5 := hB5.ext hx
                replace hB6 := hB6.ext hx
                replace hl := hl.ext hx
                replace hT := hT.ext hx
                have hE := Upd.refl (fun _ => False) W
                refine id (X_fldP (b := b1) (o := 0) (r := 0) Fd26_0 rfl rfl ?_)
                exact ⟨hE, rfl⟩
              refine ⟨.det (fun val => pv), ⟨fun _ _ hv => rfl, fun _ _ _ _ _ => trivial⟩, fun val h_ W hx he => ⟨trivial, ?_⟩, ?_⟩
              · replace hx := (Upd.drew _ _).trans hx
                replace hp := hp.ext hx
                replace hc := hc.ext hx
                replace hb := hb.ext hx
                replace hPx := hPx.ext hx
                replace hPy := hPy.ext hx
                replace hB1 := hB1.ext hx
                replace hB5 := hB5.ext hx
                replace hB6 := hB6.ext hx
                replace hl := hl.ext hx
                replace hT := hT.ext hx
                have hE := Upd.refl (fun _ => False) W
                refine id (X_load (p := (ptr b1 (0))) (v := pv) T22 rfl (hB1.at1 rfl) ?_)
                exact ⟨hE, rfl⟩
              refine ⟨.det (fun val => (.int .i64 (((i : Nat) : Int)))), ⟨fun _ _ hv => rfl, fun _ _ _ _ _ => trivial⟩, fun val h_ W hx he => ⟨trivial, ?_⟩, ?_⟩
              · replace hx := (Upd.drew _ _).trans hx
                replace hp := hp.ext hx
                replace hc := hc.ext hx
                replace hb := hb.ext hx
                replace hPx := hPx.ext hx
                replace hPy := hPy.ext hx
                replace hB1 := hB1.ext hx
                replace hB5 := hB5.ext hx
                replace hB6 := hB6.ext hx
                replace hl := hl.ext hx
                replace hT := hT.ext hx
                have hE := Upd.refl (fun _ => False) W
                refine id (X_move (v := (.int .i64 (((i : Nat) : Int)))) rfl ?_)
                exact ⟨hE, rfl⟩
              refine ⟨.det (fun val => (pof pv ((((i : Nat) : Int) : Int).toNat * 256))), ⟨fun _ _ hv => rfl, fun _ _ _ _ _ => trivial⟩, fun val h_ W hx he => ⟨trivial, ?_⟩, ?_⟩
              · replace hx := (Upd.drew _ _).trans hx
                replace hp := hp.ext hx
                replace hc := hc.ext hx
                replace hb := hb.ext hx
                replace hPx := hPx.ext hx
                replace hPy := hPy.ext hx
                replace hB1 := hB1.ext hx
                replace hB5 := hB5.ext hx
                replace hB6 := hB6.ext hx
                replace hl := hl.ext hx
                replace hT := hT.ext hx
                have hE := Upd.refl (fun _ => False) W
                refine id (X_idx (v := pv) (n := ps.length) (k := .i64) (i := ((i : Nat) : Int)) S22 rfl hp.sv rfl (by omega) (by omega) ?_)
                exact ⟨hE, rfl⟩
              refine ⟨.det (fun val => (.agg (((pi.1).map byteV)).toArray)), ⟨fun _ _ hv => rfl, fun _ _ _ _ _ => trivial⟩, fun val h_ W hx he => ⟨trivial, ?_⟩, ?_⟩
              · replace hx := (Upd.drew _ _).trans hx
                replace hp := hp.ext hx
                replace hc := hc.ext hx
                replace hb := hb.ext hx
                replace hPx := hPx.ext hx
                replace hPy := hPy.ext hx
                replace hB1 := hB1.ext hx
                replace hB5 := hB5.ext hx
                replace hB6 := hB6.ext hx
                replace hl := hl.ext hx
                replace hT := hT.ext hx
                have hE := Upd.refl (fun _ => False) W
                refine id (X_loadA (xs := pi.1.map byteV) A33 rfl (pall hp (Int.toNat_natCast _) hpi) (by rw [List.length_map]; exact pi.2) ?_)
                exact ⟨hE, rfl⟩
              refine ⟨.det (fun val => (.bool (false))), ⟨fun _ _ hv => rfl, fun _ _ _ _ _ => trivial⟩, fun val h_ W hx he => ⟨trivial, ?_⟩, ?_⟩
              · replace hx := (Upd.drew _ _).trans hx
                replace hp := hp.ext hx
                replace hc := hc.ext hx
                replace hb := hb.ext hx
                replace hPx := hPx.ext hx
                replace hPy := hPy.ext hx
                replace hB1 := hB1.ext hx
                replace hB5 := hB5.ext hx
                replace hB6 := hB6.ext hx
                replace hl := hl.ext hx
                replace hT := hT.ext hx
                have hE := Upd.refl (fun _ => False) W
                refine id (X_eqA (n := 256) (l := pi.1) (m := pi.1) (r := false) Try.underlying33 Try.underlying5 (by kernel_rfl) (by kernel_rfl) (by kernel_rfl) rfl rfl (pi.2) (pi.2) (.inr ⟨rfl, (by rw [beq_self_eq_true]; rfl)⟩) ?_)
                exact ⟨hE, rfl⟩
              refine ⟨.det (fun val => (.bool (false))), ⟨fun _ _ hv => rfl, fun _ _ _ _ _ => trivial⟩, fun val h_ W hx he => ⟨trivial, ?_⟩, ?_⟩
              · replace hx := (Upd.drew _ _).trans hx
                replace hp := hp.ext hx
                replace hc := hc.ext hx
                replace hb := hb.ext hx
                replace hPx := hPx.ext hx
                replace hPy := hPy.ext hx
                replace hB1 := hB1.ext hx
                replace hB5 := hB5.ext hx
                replace hB6 := hB6.ext hx
                replace hl := hl.ext hx
                replace hT := hT.ext hx
                have hE := Upd.refl (fun _ => False) W
                refine id (X_move (v := (.bool (false))) rfl ?_)
                exact ⟨hE, rfl⟩
              refine ⟨.det (fun val => vT), ⟨fun _ _ hv => rfl, fun _ _ _ _ _ => trivial⟩, fun val h_ W hx he => ⟨⟨114, rfl, rfl⟩, ?_⟩, ?_⟩
              · replace hx := (Upd.drew _ _).trans hx
                replace hp := hp.ext hx
                replace hc := hc.ext hx
                replace hb := hb.ext hx
                replace hPx := hPx.ext hx
                replace hPy := hPy.ext hx
                replace hB1 := hB1.ext hx
                replace hB5 := hB5.ext hx
                replace hB6 := hB6.ext hx
                replace hl := hl.ext hx
                replace hT := hT.ext hx
                have hE := Upd.refl (fun _ => False) W
                refine id (X_move (v := vT) rfl ?_)
                exact ⟨hE, rfl⟩
              refine ⟨.det (fun val => (.int .i64 (((i : Nat) : Int)))), ⟨fun _ _ hv => rfl, fun _ _ _ _ _ => trivial⟩, fun val h_ W hx he => ⟨⟨114, rfl, rfl⟩, ?_⟩, ?_⟩
              · replace hx := (Upd.drew _ _).trans hx
                replace hp := hp.ext hx
                replace hc := hc.ext hx
                replace hb := hb.ext hx
                replace hPx := hPx.ext hx
                replace hPy := hPy.ext hx
                replace hB1 := hB1.ext hx
                replace hB5 := hB5.ext hx
                replace hB6 := hB6.ext hx
                replace hl := hl.ext hx
                replace hT := hT.ext hx
                have hE := Upd.refl (fun _ => False) W
                refine id (X_move (v := (.int .i64 (((i : Nat) : Int)))) rfl ?_)
                exact ⟨hE, rfl⟩
              refine ⟨.det (fun val => (pof vT ((((i : Nat) : Int) : Int).toNat * 1))), ⟨fun _ _ hv => rfl, fun _ _ _ _ _ => trivial⟩, fun val h_ W hx he => ⟨⟨114, rfl, rfl⟩, ?_⟩, ?_⟩
              · replace hx := (Upd.drew _ _).trans hx
                replace hp := hp.ext hx
                replace hc := hc.ext hx
                replace hb := hb.ext hx
                replace hPx := hPx.ext hx
                replace hPy := hPy.ext hx
                replace hB1 := hB1.ext hx
                replace hB5 := hB5.ext hx
                replace hB6 := hB6.ext hx
                replace hl := hl.ext hx
                replace hT := hT.ext hx
                have hE := Upd.refl (fun _ => False) W
                refine id (X_idx (v := vT) (n := ps.length) (k := .i64) (i := ((i : Nat) : Int)) S31 rfl hT.sv rfl (by omega) (by omega) ?_)
                exact ⟨hE, rfl⟩
              refine ⟨.det (fun val => (.bool (false))), ⟨fun _ _ hv => rfl, fun _ _ _ _ _ => trivial⟩, fun val h_ W hx he => ⟨⟨114, rfl, rfl⟩, ?_⟩, ?_⟩
              · replace hx := (Upd.drew _ _).trans hx
                replace hp := hp.ext hx
                replace hc := hc.ext hx
                replace hb := hb.ext hx
                replace hPx := hPx.ext hx
                replace hPy := hPy.ext hx
                replace hB1 := hB1.ext hx
                replace hB5 := hB5.ext hx
                replace hB6 := hB6.ext hx
                replace hl := hl.ext hx
                replace hT := hT.ext hx
                have hE := Upd.refl (fun _ => False) W
                refine id (X_load (v := .bool false) T4 rfl (hT.rd.cell (by rw [show (((i : Nat) : Int).toNat * 1) = i by omega, List.getElem?_map, hti]; rfl)) ?_)
                exact ⟨hE, rfl⟩
              refine ⟨.det (fun val => (.bool (true))), ⟨fun _ _ hv => rfl, fun _ _ _ _ _ => trivial⟩, fun val h_ W hx he => ⟨⟨114, rfl, rfl⟩, ?_⟩, ?_⟩
              · replace hx := (Upd.drew _ _).trans hx
                replace hp := hp.ext hx
                replace hc := hc.ext hx
                replace hb := hb.ext hx
                replace hPx := hPx.ext hx
                replace hPy := hPy.ext hx
                replace hB1 := hB1.ext hx
                replace hB5 := hB5.ext hx
                replace hB6 := hB6.ext hx
                replace hl := hl.ext hx
                replace hT := hT.ext hx
                have hE := Upd.refl (fun _ => False) W
                refine id (X_not (b := false) (r := true) rfl rfl ?_)
                exact ⟨hE, rfl⟩
              refine ⟨.det (fun val => (.bool (true))), ⟨fun _ _ hv => rfl, fun _ _ _ _ _ => trivial⟩, fun val h_ W hx he => ⟨⟨114, rfl, rfl⟩, ?_⟩, ?_⟩
              · replace hx := (Upd.drew _ _).trans hx
                replace hp := hp.ext hx
                replace hc := hc.ext hx
                replace hb := hb.ext hx
                replace hPx := hPx.ext hx
                replace hPy := hPy.ext hx
                replace hB1 := hB1.ext hx
                replace hB5 := hB5.ext hx
                replace hB6 := hB6.ext hx
                replace hl := hl.ext hx
                replace hT := hT.ext hx
                have hE := Upd.refl (fun _ => False) W
                refine id (X_move (v := (.bool (true))) rfl ?_)
                exact ⟨hE, rfl⟩
              refine ⟨.det (fun val => (ptr b5 (0))), ⟨fun _ _ hv => rfl, fun _ _ _ _ _ => trivial⟩, fun val h_ W hx he => ⟨⟨120, rfl, rfl⟩, ?_⟩, ?_⟩
              · replace hx := (Upd.drew _ _).trans hx
                replace hp := hp.ext hx
                replace hc := hc.ext hx
                replace hb := hb.ext hx
                replace hPx := hPx.ext hx
                replace hPy := hPy.ext hx
                replace hB1 := hB1.ext hx
                replace hB5 := hB5.ext hx
                replace hB6 := hB6.ext hx
                replace hl := hl.ext hx
                replace hT := hT.ext hx
                have hE := Upd.refl (fun _ => False) W
                refine id (X_fldP (b := b5) (o := 0) (r := 0) Fd26_0 rfl rfl ?_)
                exact ⟨hE, rfl⟩
              refine ⟨.det (fun val => p_x), ⟨fun _ _ hv => rfl, fun _ _ _ _ _ => trivial⟩, fun val h_ W hx he => ⟨⟨120, rfl, rfl⟩, ?_⟩, ?_⟩
              · replace hx := (Upd.drew _ _).trans hx
                replace hp := hp.ext hx
                replace hc := hc.ext hx
                replace hb := hb.ext hx
                replace hPx := hPx.ext hx
                replace hPy := hPy.ext hx
                replace hB1 := hB1.ext hx
                replace hB5 := hB5.ext hx
                replace hB6 := hB6.ext hx
                replace hl := hl.ext hx
                replace hT := hT.ext hx
                have hE := Upd.refl (fun _ => False) W
                refine id (X_load (p := (ptr b5 (0))) (v := p_x) T22 rfl (hB5.at1 rfl) ?_)
                exact ⟨hE, rfl⟩
              refine ⟨.det (fun val => (.int .i64 (((i : Nat) : Int)))), ⟨fun _ _ hv => rfl, fun _ _ _ _ _ => trivial⟩, fun val h_ W hx he => ⟨⟨120, rfl, rfl⟩, ?_⟩, ?_⟩
              · replace hx := (Upd.drew _ _).trans hx
                replace hp := hp.ext hx
                replace hc := hc.ext hx
                replace hb := hb.ext hx
                replace hPx := hPx.ext hx
                replace hPy := hPy.ext hx
                replace hB1 := hB1.ext hx
                replace hB5 := hB5.ext hx
                replace hB6 := hB6.ext hx
                replace hl := hl.ext hx
                replace hT := hT.ext hx
                have hE := Upd.refl (fun _ => False) W
                refine id (X_move (v := (.int .i64 (((i : Nat) : Int)))) rfl ?_)
                exact ⟨hE, rfl⟩
              refine ⟨.det (fun val => (pof p_x ((((i : Nat) : Int) : Int).toNat * 256))), ⟨fun _ _ hv => rfl, fun _ _ _ _ _ => trivial⟩, fun val h_ W hx he => ⟨⟨120, rfl, rfl⟩, ?_⟩, ?_⟩
              · replace hx := (Upd.drew _ _).trans hx
                replace hp := hp.ext hx
                replace hc := hc.ext hx
                replace hb := hb.ext hx
                replace hPx := hPx.ext hx
                replace hPy := hPy.ext hx
                replace hB1 := hB1.ext hx
                replace hB5 := hB5.ext hx
                replace hB6 := hB6.ext hx
                replace hl := hl.ext hx
                replace hT := hT.ext hx
                have hE := Upd.refl (fun _ => False) W
                refine id (X_idx (v := p_x) (n := (crSt ps bs cs ls cs.length).1.length) (k := .i64) (i := ((i : Nat) : Int)) S22 rfl hpxsv rfl (by omega) (by omega) ?_)
                exact ⟨hE, rfl⟩
              refine ⟨.det (fun val => (.agg (((pi.1).map byteV)).toArray)), ⟨fun _ _ hv => rfl, fun _ _ _ _ _ => trivial⟩, fun val h_ W hx he => ⟨⟨120, rfl, rfl⟩, ?_⟩, ?_⟩
              · replace hx := (Upd.drew _ _).trans hx
                replace hp := hp.ext hx
                replace hc := hc.ext hx
                replace hb := hb.ext hx
                replace hPx := hPx.ext hx
                replace hPy := hPy.ext hx
                replace hB1 := hB1.ext hx
                replace hB5 := hB5.ext hx
                replace hB6 := hB6.ext hx
                replace hl := hl.ext hx
                replace hT := hT.ext hx
                have hE := Upd.refl (fun _ => False) W
                refine id (X_loadA (xs := pi.1.map byteV) A33 rfl (pall hPx.rd (Int.toNat_natCast _) hxi) (by rw [List.length_map]; exact pi.2) ?_)
                exact ⟨hE, rfl⟩
              refine ⟨.det (fun val => (ptr b1 (0))), ⟨fun _ _ hv => rfl, fun _ _ _ _ _ => trivial⟩, fun val h_ W hx he => ⟨⟨120, rfl, rfl⟩, ?_⟩, ?_⟩
              · replace hx := (Upd.drew _ _).trans hx
                replace hp := hp.ext hx
                replace hc := hc.ext hx
                replace hb := hb.ext hx
                replace hPx := hPx.ext hx
                replace hPy := hPy.ext hx
                replace hB1 := hB1.ext hx
                replace hB5 := hB5.ext hx
                replace hB6 := hB6.ext hx
                replace hl := hl.ext hx
                replace hT := hT.ext hx
                have hE := Upd.refl (fun _ => False) W
                refine id (X_fldP (b := b1) (o := 0) (r := 0) Fd26_0 rfl rfl ?_)
                exact ⟨hE, rfl⟩
              refine ⟨.det (fun val => pv), ⟨fun _ _ hv => rfl, fun _ _ _ _ _ => trivial⟩, fun val h_ W hx he => ⟨⟨120, rfl, rfl⟩, ?_⟩, ?_⟩
              · replace hx := (Upd.drew _ _).trans hx
                replace hp := hp.ext hx
                replace hc := hc.ext hx
                replace hb := hb.ext hx
                replace hPx := hPx.ext hx
                replace hPy := hPy.ext hx
                replace hB1 := hB1.ext hx
                replace hB5 := hB5.ext hx
                replace hB6 := hB6.ext hx
                replace hl := hl.ext hx
                replace hT := hT.ext hx
                have hE := Upd.refl (fun _ => False) W
                refine id (X_load (p := (ptr b1 (0))) (v := pv) T22 rfl (hB1.at1 rfl) ?_)
                exact ⟨hE, rfl⟩
              refine ⟨.det (fun val => (.int .i64 (((i : Nat) : Int)))), ⟨fun _ _ hv => rfl, fun _ _ _ _ _ => trivial⟩, fun val h_ W hx he => ⟨⟨120, rfl, rfl⟩, ?_⟩, ?_⟩
              · replace hx := (Upd.drew _ _).trans hx
                replace hp := hp.ext hx
                replace hc := hc.ext hx
                replace hb := hb.ext hx
                replace hPx := hPx.ext hx
                replace hPy := hPy.ext hx
                replace hB1 := hB1.ext hx
                replace hB5 := hB5.ext hx
                replace hB6 := hB6.ext hx
                replace hl := hl.ext hx
                replace hT := hT.ext hx
                have hE := Upd.refl (fun _ => False) W
                refine id (X_move (v := (.int .i64 (((i : Nat) : Int)))) rfl ?_)
                exact ⟨hE, rfl⟩
              refine ⟨.det (fun val => (pof pv ((((i : Nat) : Int) : Int).toNat * 256))), ⟨fun _ _ hv => rfl, fun _ _ _ _ _ => trivial⟩, fun val h_ W hx he => ⟨⟨120, rfl, rfl⟩, ?_⟩, ?_⟩
              · replace hx := (Upd.drew _ _).trans hx
                replace hp := hp.ext hx
                replace hc := hc.ext hx
                replace hb := hb.ext hx
                replace hPx := hPx.ext hx
                replace hPy := hPy.ext hx
                replace hB1 := hB1.ext hx
                replace hB5 := hB5.ext hx
                replace hB6 := hB6.ext hx
                replace hl := hl.ext hx
                replace hT := hT.ext hx
                have hE := Upd.refl (fun _ => False) W
                refine id (X_idx (v := pv) (n := ps.length) (k := .i64) (i := ((i : Nat) : Int)) S22 rfl hp.sv rfl (by omega) (by omega) ?_)
                exact ⟨hE, rfl⟩
              refine ⟨.det (fun val => (.agg (((pi.1).map byteV)).toArray)), ⟨fun _ _ hv => rfl, fun _ _ _ _ _ => trivial⟩, fun val h_ W hx he => ⟨⟨120, rfl, rfl⟩, ?_⟩, ?_⟩
              · replace hx := (Upd.drew _ _).trans hx
                replace hp := hp.ext hx
                replace hc := hc.ext hx
                replace hb := hb.ext hx
                replace hPx := hPx.ext hx
                replace hPy := hPy.ext hx
                replace hB1 := hB1.ext hx
                replace hB5 := hB5.ext hx
                replace hB6 := hB6.ext hx
                replace hl := hl.ext hx
                replace hT := hT.ext hx
                have hE := Upd.refl (fun _ => False) W
                refine id (X_loadA (xs := pi.1.map byteV) A33 rfl (pall hp (Int.toNat_natCast _) hpi) (by rw [List.length_map]; exact pi.2) ?_)
                exact ⟨hE, rfl⟩
              intro val W28 hx28 he28
              replace hx28 := (Upd.drew _ _).trans hx28
              have hz28 := hx28.size
              replace hp := hp.ext hx28
              replace hc := hc.ext hx28
              replace hb := hb.ext hx28
              replace hPx := hPx.ext hx28
              replace hPy := hPy.ext hx28
              replace hB1 := hB1.ext hx28
              replace hB5 := hB5.ext hx28
              replace hB6 := hB6.ext hx28
              replace hl := hl.ext hx28
              replace hU := hU.trans (Ext.upd hx28)
              replace hT := hT.ext hx28
              refine L_gy (dj := 120) rfl rfl rfl (X_eqA (n := 256) (l := pi.1) (m := pi.1) (r := false) Try.underlying33 Try.underlying5 (by kernel_rfl) (by kernel_rfl) (by kernel_rfl) rfl rfl (pi.2) (pi.2) (.inr ⟨rfl, (by rw [beq_self_eq_true]; rfl)⟩) ?_)
              refine L_gy (dj := 114) rfl rfl rfl (X_pick (t := true) (v := (.bool (false))) rfl rfl ?_)
              refine L_op rfl (X_pick (t := false) (v := (.bool (false))) rfl rfl ?_)
              refine L_nil ?_
              refine T_n ?_
              refine W_cf rfl ?_
              refine W_skip ?_
              refine B_n ?_
              refine T_n ?_
              refine W_reg ?_
              refine L_op rfl (X_move (v := (.int .i64 (((i : Nat) : Int)))) rfl ?_)
              refine L_op rfl (X_arith (k := .i64) (a := ((i : Nat) : Int)) (b := 1) (r := ((i + 1 : Nat) : Int)) rfl rfl rfl (iadd64 (by omega) (by omega) (by omega)) ?_)
              refine L_op rfl (X_assign (v := (.int .i64 (((i + 1 : Nat) : Int)))) rfl ?_)
              refine L_nil ?_
              refine T_n ?_
              exact ⟨rfl, i + 1, ⟨⟨hi, hT, by omega, hp, hc, hb, hPx, hPy, hB1, hB5, hB6, hl, hU⟩, (by show ps.length - (i + 1) < ps.length - i; omega)⟩, (Out.mk rfl), ⟨rfl, trivial⟩⟩
          · refine L_op rfl (X_cmp (k := .i64) (a := ((i : Nat) : Int)) (b := ((ps.length : Nat) : Int)) (r := false) rfl rfl rfl (decide_eq_false (p := ((((i : Nat) : Int)) : Int) < ((((ps.length : Nat) : Int)) : Int)) (by omega)) ?_)
            refine L_nil ?_
            refine T_n ?_
            refine W_cf rfl ?_
            refine W_exit ?_
            refine T_e ?_
            refine T_e ?_
            refine B_x ?_
            refine T_n ?_
            refine W_seq ?_
            refine W_reg ?_
            refine L_op rfl (X_fldP (b := b1) (o := 0) (r := 1) Fd26_1 rfl rfl ?_)
            refine L_op rfl (X_load (p := (ptr b1 (1))) (v := cv) T23 rfl (hB1.at1 rfl) ?_)
            refine L_op rfl (X_len (v := cv) (n := cs.length) Try.underlying23 rfl hc.sv ?_)
            refine L_op rfl (X_makeSlice (n := cs.length) S27 rfl rfl rfl (by omega) (by omega) ?_)
            intro bO wO hnO
            have hbnO := hnO.num; have hbsO := hnO.size
            replace hp := hp.ext hnO.ext
            replace hc := hc.ext hnO.ext
            replace hb := hb.ext hnO.ext
            replace hPx := hPx.ext hnO.ext
            replace hPy := hPy.ext hnO.ext
            replace hB1 := hB1.ext hnO.ext
            replace hB5 := hB5.ext hnO.ext
            replace hB6 := hB6.ext hnO.ext
            replace hl := hl.ext hnO.ext
            replace hU := hU.trans (Ext.upd hnO.ext)
            replace hT := hT.ext hnO.ext
            have hBO := hnO.blk
            have hO : Own wO bO 5 1 (.slice (some ⟨bO, 0, none⟩) cs.length cs.length) cs.length ((onesTo cs.length 0).map byteV) := own_lit (by unfold onesTo; rw [List.replicate_zero, List.nil_append, List.map_replicate]; exact hBO) (by rw [List.length_map, onesTo_len (Nat.zero_le _)]) (by unfold maxLen; omega)
            obtain ⟨vO, hvO⟩ : ∃ v : Value, v = .slice (some ⟨bO, 0, none⟩) cs.length cs.length := ⟨_, rfl⟩
            rw [← hvO] at hO ⊢
            have hO_b : ∀ b, obk vO = some b → b = bO := fun b hb => by rw [hvO] at hb; exact lit_b hb
            refine L_op rfl (X_assign (v := vO) rfl ?_)
            refine L_nil ?_
            refine T_n ?_
            refine W_seq ?_
            refine W_seq ?_
            refine W_reg ?_
            refine L_op rfl (X_assign (v := (.int .i64 (0))) rfl ?_)
            refine L_nil ?_
            refine T_n ?_
            refine W_block ?_
            refine W_loop (α := Nat) [11, 138, 139, 140, 141, 142, 143, 144, 145, 146] (fun k => [(11, (.int .i64 (((k : Nat) : Int))))]) (fun k w_ => k ≤ cs.length ∧ Own w_ bO 5 1 vO cs.length ((onesTo cs.length k).map byteV) ∧ bO < w_.heap.size ∧ NRd LP w_ 0 n0 pv ps ∧ NRd LW w_ 0 n0 cv cs ∧ NRd LI w_ 0 n0 bv bs ∧ NOwn LP w_ 33 5 s3 u2 p_x (crSt ps bs cs ls cs.length).1 ∧ NOwn LP w_ 33 5 s3 u4 p_y ps ∧ Blk w_ b1 #[pv, cv, bv, .bool off] 26 ∧ Blk w_ b5 #[p_x, .slice none 0 0, i_x, .bool off] 26 ∧ Blk w_ b6 #[p_y, .slice none 0 0, i_y, .bool off] 26 ∧ Rd w_ 1 lv ls.length (ls.map byteV) ∧ Upd (fun i => n0 ≤ i) w w_) (fun k => cs.length - k) ⟨rfl, 0, ⟨Nat.zero_le _, hO, by omega, hp, hc, hb, hPx, hPy, hB1, hB5, hB6, hl, hU⟩, Out.refl _ _, ⟨rfl, trivial⟩⟩ ?_
            rintro k w29 _ ⟨hkl, hO, hbOw, hp, hc, hb, hPx, hPy, hB1, hB5, hB6, hl, hU⟩
            have hsz_ := hU.size
            refine W_seq ?_
            refine W_seq ?_
            refine W_reg ?_
            refine L_op rfl (X_move (v := (.int .i64 (((k : Nat) : Int)))) rfl ?_)
            refine L_op rfl (X_move (v := vO) rfl ?_)
            refine L_op rfl (X_len (v := vO) (n := cs.length) Try.underlying27 rfl hO.sv ?_)
            by_cases hc30 : (((k : Nat) : Int) : Int) < (((cs.length : Nat) : Int))
            · refine L_op rfl (X_cmp (k := .i64) (a := ((k : Nat) : Int)) (b := ((cs.length : Nat) : Int)) (r := true) rfl rfl rfl (decide_eq_true (p := ((((k : Nat) : Int)) : Int) < ((((cs.length : Nat) : Int)) : Int)) (by omega)) ?_)
              have hk : k < cs.length := by omega
              refine L_nil ?_
              refine T_n ?_
              refine W_ct rfl ?_
              refine W_skip ?_
              refine T_n ?_
              refine W_seq ?_
              refine W_block ?_
              refine W_reg ?_
              refine L_op rfl (X_move (v := vO) rfl ?_)
              refine L_op rfl (X_move (v := (.int .i64 (((k : Nat) : Int)))) rfl ?_)
              refine L_op rfl (X_idx (v := vO) (n := cs.length) (k := .i64) (i := ((k : Nat) : Int)) S27 rfl hO.sv rfl (by omega) (by omega) ?_)
              refine L_op0 (X_storeOwnC (i := ((k : Nat) : Int).toNat * 1) (u := byteV 1) T5 hO (by omega) rfl rfl rfl ?_)
              intro w9 hO9 hu9
              have hz9 := hu9.size
              rw [Nat.mul_one, Int.toNat_natCast, ← List.map_set, onesTo_step hk] at hO9
              replace hp := hp.upd hu9 fun i h1 h2 h => by have h := hO_b _ h; omega
              replace hc := hc.upd hu9 fun i h1 h2 h => by have h := hO_b _ h; omega
              replace hb := hb.upd hu9 fun i h1 h2 h => by have h := hO_b _ h; omega
              replace hPx := hPx.upd hu9 fun i h1 h2 h => by have h := hO_b _ h; omega
              replace hPy := hPy.upd hu9 fun i h1 h2 h => by have h := hO_b _ h; omega
              replace hB1 := hB1.upd hu9 fun h => by have h := hO_b _ h; omega
              replace hB5 := hB5.upd hu9 fun h => by have h := hO_b _ h; omega
              replace hB6 := hB6.upd hu9 fun h => by have h := hO_b _ h; omega
              replace hl := hl.upd hu9 fun i hi h => by have hi := hlb _ hi; have h := hO_b _ h; omega
              replace hU := hU.trans (hu9.mono fun i _ h => by have h := hO_b _ h; show n0 ≤ i; omega)
              refine L_nil ?_
              refine B_n ?_
              refine T_n ?_
              refine W_reg ?_
              refine L_op rfl (X_move (v := (.int .i64 (((k : Nat) : Int)))) rfl ?_)
              refine L_op rfl (X_arith (k := .i64) (a := ((k : Nat) : Int)) (b := 1) (r := ((k + 1 : Nat) : Int)) rfl rfl rfl (iadd64 (by omega) (by omega) (by omega)) ?_)
              refine L_op rfl (X_assign (v := (.int .i64 (((k + 1 : Nat) : Int)))) rfl ?_)
              refine L_nil ?_
              refine T_n ?_
              exact ⟨rfl, k + 1, ⟨⟨hk, hO9, by omega, hp, hc, hb, hPx, hPy, hB1, hB5, hB6, hl, hU⟩, (by show cs.length - (k + 1) < cs.length - k; omega)⟩, (Out.mk rfl), ⟨rfl, trivial⟩⟩
            · refine L_op rfl (X_cmp (k := .i64) (a := ((k : Nat) : Int)) (b := ((cs.length : Nat) : Int)) (r := false) rfl rfl rfl (decide_eq_false (p := ((((k : Nat) : Int)) : Int) < ((((cs.length : Nat) : Int)) : Int)) (by omega)) ?_)
              obtain rfl : k = cs.length := by omega
              rw [onesTo_all] at hO
              refine L_nil ?_
              refine T_n ?_
              refine W_cf rfl ?_
              refine W_exit ?_
              refine T_e ?_
              refine T_e ?_
              refine B_x ?_
              refine T_n ?_
              refine W_seq ?_
              refine W_seq ?_
              refine W_reg ?_
              refine L_op rfl (X_assign (v := (.int .i64 (0))) rfl ?_)
              refine L_nil ?_
              refine T_n ?_
              refine W_block ?_
              refine W_loop (α := Nat) [4, 12, 147, 148, 149, 150, 151, 152, 153, 154, 155, 156, 157, 158, 159, 160, 161, 162, 163, 164, 165, 166, 167, 168, 169, 170, 171, 172, 173] (fun k => [(12, (.int .i64 (((k : Nat) : Int))))]) (fun k w_ => k ≤ cs.length ∧ (∀ (j : Nat) (e : Wr), j < k → cs[j]? = some e → 0 ≤ e.1 ∧ e.1 < (ps.length : Int)) ∧ Own w_ bO 5 1 vO cs.length ((List.replicate cs.length (1 : UInt8)).map byteV) ∧ bO < w_.heap.size ∧ NRd LP w_ 0 n0 pv ps ∧ NRd LW w_ 0 n0 cv cs ∧ NRd LI w_ 0 n0 bv bs ∧ NOwn LP w_ 33 5 s3 u2 p_x (crSt ps bs cs ls cs.length).1 ∧ NOwn LP w_ 33 5 s3 u4 p_y ps ∧ Blk w_ b1 #[pv, cv, bv, .bool off] 26 ∧ Blk w_ b5 #[p_x, .slice none 0 0, i_x, .bool off] 26 ∧ Blk w_ b6 #[p_y, .slice none 0 0, i_y, .bool off] 26 ∧ Rd w_ 1 lv ls.length (ls.map byteV) ∧ Upd (fun i => n0 ≤ i) w w_) (fun k => cs.length - k) ⟨rfl, 0, ⟨Nat.zero_le _, fun j e h => absurd h (Nat.not_lt_zero j), hO, by omega, hp, hc, hb, hPx, hPy, hB1, hB5, hB6, hl, hU⟩, Out.refl _ _, ⟨rfl, trivial⟩⟩ ?_
              rintro k w31 _ ⟨hkl, hin, hO, hbOw, hp, hc, hb, hPx, hPy, hB1, hB5, hB6, hl, hU⟩
              have hsz_ := hU.size
              refine W_seq ?_
              refine W_seq ?_
              refine W_reg ?_
              refine L_op rfl (X_move (v := (.int .i64 (((k : Nat) : Int)))) rfl ?_)
              refine L_op rfl (X_fldP (b := b1) (o := 0) (r := 1) Fd26_1 rfl rfl ?_)
              refine L_op rfl (X_load (p := (ptr b1 (1))) (v := cv) T23 rfl (hB1.at1 rfl) ?_)
              refine L_op rfl (X_len (v := cv) (n := cs.length) Try.underlying23 rfl hc.sv ?_)
              by_cases hc32 : (((k : Nat) : Int) : Int) < (((cs.length : Nat) : Int))
              · refine L_op rfl (X_cmp (k := .i64) (a := ((k : Nat) : Int)) (b := ((cs.length : Nat) : Int)) (r := true) rfl rfl rfl (decide_eq_true (p := ((((k : Nat) : Int)) : Int) < ((((cs.length : Nat) : Int)) : Int)) (by omega)) ?_)
                have hk : k < cs.length := by omega
                obtain ⟨e, hei⟩ : ∃ e, cs[k]? = some e := ⟨_, List.getElem?_eq_getElem hk⟩
                refine L_nil ?_
                refine T_n ?_
                refine W_ct rfl ?_
                refine W_skip ?_
                refine T_n ?_
                refine W_seq ?_
                refine W_block ?_
                refine W_seq ?_
                rcases Bool.eq_false_or_eq_true (decide (e.1 < 0)) with hs33 | hs33
                · have h_34_ := of_decide_eq_true hs33
                  refine W_draw 17 [[], [0], [], [0, 1, 2], [0, 1, 2, 3], [0, 1, 2, 3, 4], [0, 1, 2, 3, 4, 5], [0, 1, 2, 3, 4, 5, 6], [0, 1, 2, 3, 4, 5, 6, 7], [0, 1, 2, 3, 4, 5, 6, 7, 8], [0, 1, 2, 3, 4, 5, 6, 7], [0, 1, 2, 3, 4, 5, 6, 7, 8, 9, 10], [0, 1, 2, 3, 4, 5, 6, 7, 8, 9, 10, 11], [0, 1, 2, 3, 4, 5, 6, 7, 8, 9, 10, 11, 12], [0, 1, 2, 3, 4, 5, 6, 7], [0, 1, 2, 3, 4, 5, 6, 7, 14], [0, 1, 2, 3, 4, 5, 6, 7, 14, 15], [0, 1, 2, 3, 4, 5, 6, 7, 8, 9, 10, 11, 12, 13, 14, 15, 16], [0, 1, 2, 3, 4, 5, 6, 7, 8, 9, 10, 11, 12, 13, 14, 15, 16, 17]] mixed (by kernel_rfl) ?_
                  refine ⟨.det (fun val => (ptr b1 (1))), ⟨fun _ _ hv => rfl, fun _ _ _ _ _ => trivial⟩, fun val h_ W hx he => ⟨trivial, ?_⟩, ?_⟩
                  · replace hx := (Upd.drew _ _).trans hx
                    replace hp := hp.ext hx
                    replace hc := hc.ext hx
                    replace hb := hb.ext hx
                    replace hPx := hPx.ext hx
                    replace hPy := hPy.ext hx
                    replace hB1 := hB1.ext hx
                    replace hB5 := hB5.ext hx
                    replace hB6 := hB6.ext hx
                    replace hl := hl.ext hx
                    replace hO := hO.ext hx
                    have hE := Upd.refl (fun _ => False) W
                    refine id (X_fldP (b := b1) (o := 0) (r := 1) Fd26_1 rfl rfl ?_)
                    exact ⟨hE, rfl⟩
                  refine ⟨.det (fun val => cv), ⟨fun _ _ hv => rfl, fun _ _ _ _ _ => trivial⟩, fun val h_ W hx he => ⟨trivial, ?_⟩, ?_⟩
                  · replace hx := (Upd.drew _ _).trans hx
                    replace hp := hp.ext hx
                    replace hc := hc.ext hx
                    replace hb := hb.ext hx
                    replace hPx := hPx.ext hx
                    replace hPy := hPy.ext hx
                    replace hB1 := hB1.ext hx
                    replace hB5 := hB5.ext hx
                    replace hB6 := hB6.ext hx
                    replace hl := hl.ext hx
                    replace hO := hO.ext hx
                    have hE := Upd.refl (fun _ => False) W
                    refine id (X_load (p := (ptr b1 (1))) (v := cv) T23 rfl (hB1.at1 rfl) ?_)
                    exact ⟨hE, rfl⟩
                  refine ⟨.det (fun val => (.int .i64 (((k : Nat) : Int)))), ⟨fun _ _ hv => rfl, fun _ _ _ _ _ => trivial⟩, fun val h_ W hx he => ⟨trivial, ?_⟩, ?_⟩
                  · replace hx := (Upd.drew _ _).trans hx
                    replace hp := hp.ext hx
                    replace hc := hc.ext hx
                    replace hb := hb.ext hx
                    replace hPx := hPx.ext hx
                    replace hPy := hPy.ext hx
                    replace hB1 := hB1.ext hx
                    replace hB5 := hB5.ext hx
                    replace hB6 := hB6.ext hx
                    replace hl := hl.ext hx
                    replace hO := hO.ext hx
                    have hE := Upd.refl (fun _ => False) W
                    refine id (X_move (v := (.int .i64 (((k : Nat) : Int)))) rfl ?_)
                    exact ⟨hE, rfl⟩
                  refine ⟨.det (fun val => (pof cv ((((k : Nat) : Int) : Int).toNat * 257))), ⟨fun _ _ hv => rfl, fun _ _ _ _ _ => trivial⟩, fun val h_ W hx he => ⟨trivial, ?_⟩, ?_⟩
                  · replace hx := (Upd.drew _ _).trans hx
                    replace hp := hp.ext hx
                    replace hc := hc.ext hx
                    replace hb := hb.ext hx
                    replace hPx := hPx.ext hx
                    replace hPy := hPy.ext hx
                    replace hB1 := hB1.ext hx
                    replace hB5 := hB5.ext hx
                    replace hB6 := hB6.ext hx
                    replace hl := hl.ext hx
                    replace hO := hO.ext hx
                    have hE := Upd.refl (fun _ => False) W
                    refine id (X_idx (v := cv) (n := cs.length) (k := .i64) (i := ((k : Nat) : Int)) S23 rfl hc.sv rfl (by omega) (by omega) ?_)
                    exact ⟨hE, rfl⟩
                  refine ⟨.det (fun val => (pof cv ((((k : Nat) : Int) : Int).toNat * 257 + 0))), ⟨fun _ _ hv => rfl, fun _ _ _ _ _ => trivial⟩, fun val h_ W hx he => ⟨trivial, ?_⟩, ?_⟩
                  · replace hx := (Upd.drew _ _).trans hx
                    replace hp := hp.ext hx
                    replace hc := hc.ext hx
                    replace hb := hb.ext hx
                    replace hPx := hPx.ext hx
                    replace hPy := hPy.ext hx
                    replace hB1 := hB1.ext hx
                    replace hB5 := hB5.ext hx
                    replace hB6 := hB6.ext hx
                    replace hl := hl.ext hx
                    replace hO := hO.ext hx
                    have hE := Upd.refl (fun _ => False) W
                    refine id (X_fldS (v := cv) (o := (((k : Nat) : Int) : Int).toNat * 257) Fd35_0 rfl hc.sv (by omega) ?_)
                    exact ⟨hE, rfl⟩
                  refine ⟨.det (fun val => (.int .i64 (e.1))), ⟨fun _ _ hv => rfl, fun _ _ _ _ _ => trivial⟩, fun val h_ W hx he => ⟨trivial, ?_⟩, ?_⟩
                  · replace hx := (Upd.drew _ _).trans hx
                    replace hp := hp.ext hx
                    replace hc := hc.ext hx
                    replace hb := hb.ext hx
                    replace hPx := hPx.ext hx
                    replace hPy := hPy.ext hx
                    replace hB1 := hB1.ext hx
                    replace hB5 := hB5.ext hx
                    replace hB6 := hB6.ext hx
                    replace hl := hl.ext hx
                    replace hO := hO.ext hx
                    have hE := Upd.refl (fun _ => False) W
                    refine id (X_load (v := .int .i64 e.1) T3 rfl (wat hc (Int.toNat_natCast _) hei) ?_)
                    exact ⟨hE, rfl⟩
                  refine ⟨.det (fun val => (.bool (true))), ⟨fun _ _ hv => rfl, fun _ _ _ _ _ => trivial⟩, fun val h_ W hx he => ⟨trivial, ?_⟩, ?_⟩
                  · replace hx := (Upd.drew _ _).trans hx
                    replace hp := hp.ext hx
                    replace hc := hc.ext hx
                    replace hb := hb.ext hx
                    replace hPx := hPx.ext hx
                    replace hPy := hPy.ext hx
                    replace hB1 := hB1.ext hx
                    replace hB5 := hB5.ext hx
                    replace hB6 := hB6.ext hx
                    replace hl := hl.ext hx
                    replace hO := hO.ext hx
                    have hE := Upd.refl (fun _ => False) W
                    refine id (X_cmp (k := .i64) (a := e.1) (b := 0) (r := true) rfl rfl rfl (decide_eq_true (p := ((e.1) : Int) < ((0) : Int)) (by have h_ := of_decide_eq_true hs33; omega)) ?_)
                    exact ⟨hE, rfl⟩
                  refine ⟨.det (fun val => (.bool (true))), ⟨fun _ _ hv => rfl, fun _ _ _ _ _ => trivial⟩, fun val h_ W hx he => ⟨trivial, ?_⟩, ?_⟩
                  · replace hx := (Upd.drew _ _).trans hx
                    replace hp := hp.ext hx
                    replace hc := hc.ext hx
                    replace hb := hb.ext hx
                    replace hPx := hPx.ext hx
                    replace hPy := hPy.ext hx
                    replace hB1 := hB1.ext hx
                    replace hB5 := hB5.ext hx
                    replace hB6 := hB6.ext hx
                    replace hl := hl.ext hx
                    replace hO := hO.ext hx
                    have hE := Upd.refl (fun _ => False) W
                    refine id (X_move (v := (.bool (true))) rfl ?_)
                    exact ⟨hE, rfl⟩
                  refine ⟨.no, ⟨fun _ _ _ => trivial, fun _ _ _ _ _ => trivial⟩, fun val h_ W hx he => ⟨161, rfl, .inl rfl⟩, ?_⟩
                  refine ⟨.no, ⟨fun _ _ _ => trivial, fun _ _ _ _ _ => trivial⟩, fun val h_ W hx he => ⟨161, rfl, .inl rfl⟩, ?_⟩
                  refine ⟨.no, ⟨fun _ _ _ => trivial, fun _ _ _ _ _ => trivial⟩, fun val h_ W hx he => ⟨161, rfl, .inl rfl⟩, ?_⟩
                  refine ⟨.no, ⟨fun _ _ _ => trivial, fun _ _ _ _ _ => trivial⟩, fun val h_ W hx he => ⟨161, rfl, .inl rfl⟩, ?_⟩
                  refine ⟨.no, ⟨fun _ _ _ => trivial, fun _ _ _ _ _ => trivial⟩, fun val h_ W hx he => ⟨161, rfl, .inl rfl⟩, ?_⟩
                  refine ⟨.no, ⟨fun _ _ _ => trivial, fun _ _ _ _ _ => trivial⟩, fun val h_ W hx he => ⟨161, rfl, .inl rfl⟩, ?_⟩
                  refine ⟨.no, ⟨fun _ _ _ => trivial, fun _ _ _ _ _ => trivial⟩, fun val h_ W hx he => ⟨161, rfl, .inl rfl⟩, ?_⟩
                  refine ⟨.no, ⟨fun _ _ _ => trivial, fun _ _ _ _ _ => trivial⟩, fun val h_ W hx he => ⟨161, rfl, .inl rfl⟩, ?_⟩
                  refine ⟨.no, ⟨fun _ _ _ => trivial, fun _ _ _ _ _ => trivial⟩, fun val h_ W hx he => ⟨161, rfl, .inl rfl⟩, ?_⟩
                  intro val W35 hx35 he35
                  replace hx35 := (Upd.drew _ _).trans hx35
                  have hz35 := hx35.size
                  replace hp := hp.ext hx35
                  replace hc := hc.ext hx35
                  replace hb := hb.ext hx35
                  replace hPx := hPx.ext hx35
                  replace hPy := hPy.ext hx35
                  replace hB1 := hB1.ext hx35
                  replace hB5 := hB5.ext hx35
                  replace hB6 := hB6.ext hx35
                  replace hl := hl.ext hx35
                  replace hU := hU.trans (Ext.upd hx35)
                  replace hO := hO.ext hx35
                  refine L_gn (dj := 161) (t := true) rfl rfl rfl rfl ?_
                  refine L_op rfl (X_pick (t := true) (v := (.bool (true))) rfl rfl ?_)
                  refine L_nil ?_
                  refine T_n ?_
                  refine W_ct rfl ?_
                  refine W_seq ?_
                  refine W_reg ?_
                  refine L_op rfl (X_fn (vs := []) en8 rfl (CT.mono (c_wakes4 _) ?_))
                  rintro vb36 w36 ⟨hvb36, hu36⟩
                  have hz36 := hu36.size
                  replace hp := hp.ext hu36
                  replace hc := hc.ext hu36
                  replace hb := hb.ext hu36
                  replace hPx := hPx.ext hu36
                  replace hPy := hPy.ext hu36
                  replace hB1 := hB1.ext hu36
                  replace hB5 := hB5.ext hu36
                  replace hB6 := hB6.ext hu36
                  replace hl := hl.ext hu36
                  replace hU := hU.trans (Ext.upd hu36)
                  replace hO := hO.ext hu36
                  subst hvb36
                  refine L_op rfl (X_assign (v := (.bool (true))) rfl ?_)
                  refine L_nil ?_
                  refine T_n ?_
                  refine W_ret ?_
                  refine B_r ?_
                  refine T_r ?_
                  refine T_r ?_
                  refine B_r ?_
                  refine T_r ?_
                  exact BQ_r (End_1 Try.results3 (v := .bool true) rfl ⟨rfl, hU.own hn0⟩)
                · rcases Bool.eq_false_or_eq_true (decide (((ps.length : Nat) : Int) ≤ e.1)) with hs37 | hs37
                  · have h_38_ := of_decide_eq_false hs33
                    have h_39_ := of_decide_eq_true hs37
                    refine W_draw 17 [[], [0], [], [0, 1, 2], [0, 1, 2, 3], [0, 1, 2, 3, 4], [0, 1, 2, 3, 4, 5], [0, 1, 2, 3, 4, 5, 6], [0, 1, 2, 3, 4, 5, 6, 7], [0, 1, 2, 3, 4, 5, 6, 7, 8], [0, 1, 2, 3, 4, 5, 6, 7], [0, 1, 2, 3, 4, 5, 6, 7, 8, 9, 10], [0, 1, 2, 3, 4, 5, 6, 7, 8, 9, 10, 11], [0, 1, 2, 3, 4, 5, 6, 7, 8, 9, 10, 11, 12], [0, 1, 2, 3, 4, 5, 6, 7], [0, 1, 2, 3, 4, 5, 6, 7, 14], [0, 1, 2, 3, 4, 5, 6, 7, 14, 15], [0, 1, 2, 3, 4, 5, 6, 7, 8, 9, 10, 11, 12, 13, 14, 15, 16], [0, 1, 2, 3, 4, 5, 6, 7, 8, 9, 10, 11, 12, 13, 14, 15, 16, 17]] mixed (by kernel_rfl) ?_
                    refine ⟨.det (fun val => (ptr b1 (1))), ⟨fun _ _ hv => rfl, fun _ _ _ _ _ => trivial⟩, fun val h_ W hx he => ⟨trivial, ?_⟩, ?_⟩
                    · replace hx := (Upd.drew _ _).trans hx
                      replace hp := hp.ext hx
                      replace hc := hc.ext hx
                      replace hb := hb.ext hx
                      replace hPx := hPx.ext hx
                      replace hPy := hPy.ext hx
                      replace hB1 := hB1.ext hx
                      replace hB5 := hB5.ext hx
                      replace hB6 := hB6.ext hx
                      replace hl := hl.ext hx
                      replace hO := hO.ext hx
                      have hE := Upd.refl (fun _ => False) W
                      refine id (X_fldP (b := b1) (o := 0) (r := 1) Fd26_1 rfl rfl ?_)
                      exact ⟨hE, rfl⟩
                    refine ⟨.det (fun val => cv), ⟨fun _ _ hv => rfl, fun _ _ _ _ _ => trivial⟩, fun val h_ W hx he => ⟨trivial, ?_⟩, ?_⟩
                    · replace hx := (Upd.drew _ _).trans hx
                      replace hp := hp.ext hx
                      replace hc := hc.ext hx
                      replace hb := hb.ext hx
                      replace hPx := hPx.ext hx
                      replace hPy := hPy.ext hx
                      replace hB1 := hB1.ext hx
                      replace hB5 := hB5.ext hx
                      replace hB6 := hB6.ext hx
                      replace hl := hl.ext hx
                      replace hO := hO.ext hx
                      have hE := Upd.refl (fun _ => False) W
                      refine id (X_load (p := (ptr b1 (1))) (v := cv) T23 rfl (hB1.at1 rfl) ?_)
                      exact ⟨hE, rfl⟩
                    refine ⟨.det (fun val => (.int .i64 (((k : Nat) : Int)))), ⟨fun _ _ hv => rfl, fun _ _ _ _ _ => trivial⟩, fun val h_ W hx he => ⟨trivial, ?_⟩, ?_⟩
                    · replace hx := (Upd.drew _ _).trans hx
                      replace hp := hp.ext hx
                      replace hc := hc.ext hx
                      replace hb := hb.ext hx
                      replace hPx := hPx.ext hx
                      replace hPy := hPy.ext hx
                      replace hB1 := hB1.ext hx
                      replace hB5 := hB5.ext hx
                      replace hB6 := hB6.ext hx
                      replace hl := hl.ext hx
                      replace hO := hO.ext hx
                      have hE := Upd.refl (fun _ => False) W
                      refine id (X_move (v := (.int .i64 (((k : Nat) : Int)))) rfl ?_)
                      exact ⟨hE, rfl⟩
                    refine ⟨.det (fun val => (pof cv ((((k : Nat) : Int) : Int).toNat * 257))), ⟨fun _ _ hv => rfl, fun _ _ _ _ _ => trivial⟩, fun val h_ W hx he => ⟨trivial, ?_⟩, ?_⟩
                    · replace hx := (Upd.drew _ _).trans hx
                      replace hp := hp.ext hx
                      replace hc := hc.ext hx
                      replace hb := hb.ext hx
                      replace hPx := hPx.ext hx
                      replace hPy := hPy.ext hx
                      replace hB1 := hB1.ext hx
                      replace hB5 := hB5.ext hx
                      replace hB6 := hB6.ext hx
                      replace hl := hl.ext hx
                      replace hO := hO.ext hx
                      have hE := Upd.refl (fun _ => False) W
                      refine id (X_idx (v := cv) (n := cs.length) (k := .i64) (i := ((k : Nat) : Int)) S23 rfl hc.sv rfl (by omega) (by omega) ?_)
                      exact ⟨hE, rfl⟩
                    refine ⟨.det (fun val => (pof cv ((((k : Nat) : Int) : Int).toNat * 257 + 0))), ⟨fun _ _ hv => rfl, fun _ _ _ _ _ => trivial⟩, fun val h_ W hx he => ⟨trivial, ?_⟩, ?_⟩
                    · replace hx := (Upd.drew _ _).trans hx
                      replace hp := hp.ext hx
                      replace hc := hc.ext hx
                      replace hb := hb.ext hx
                      replace hPx := hPx.ext hx
                      replace hPy := hPy.ext hx
                      replace hB1 := hB1.ext hx
                      replace hB5 := hB5.ext hx
                      replace hB6 := hB6.ext hx
                      replace hl := hl.ext hx
                      replace hO := hO.ext hx
                      have hE := Upd.refl (fun _ => False) W
                      refine id (X_fldS (v := cv) (o := (((k : Nat) : Int) : Int).toNat * 257) Fd35_0 rfl hc.sv (by omega) ?_)
                      exact ⟨hE, rfl⟩
                    refine ⟨.det (fun val => (.int .i64 (e.1))), ⟨fun _ _ hv => rfl, fun _ _ _ _ _ => trivial⟩, fun val h_ W hx he => ⟨trivial, ?_⟩, ?_⟩
                    · replace hx := (Upd.drew _ _).trans hx
                      replace hp := hp.ext hx
                      replace hc := hc.ext hx
                      replace hb := hb.ext hx
                      replace hPx := hPx.ext hx
                      replace hPy := hPy.ext hx
                      replace hB1 := hB1.ext hx
                      replace hB5 := hB5.ext hx
                      replace hB6 := hB6.ext hx
                      replace hl := hl.ext hx
                      replace hO := hO.ext hx
                      have hE := Upd.refl (fun _ => False) W
                      refine id (X_load (v := .int .i64 e.1) T3 rfl (wat hc (Int.toNat_natCast _) hei) ?_)
                      exact ⟨hE, rfl⟩
                    refine ⟨.det (fun val => (.bool (false))), ⟨fun _ _ hv => rfl, fun _ _ _ _ _ => trivial⟩, fun val h_ W hx he => ⟨trivial, ?_⟩, ?_⟩
                    · replace hx := (Upd.drew _ _).trans hx
                      replace hp := hp.ext hx
                      replace hc := hc.ext hx
                      replace hb := hb.ext hx
                      replace hPx := hPx.ext hx
                      replace hPy := hPy.ext hx
                      replace hB1 := hB1.ext hx
                      replace hB5 := hB5.ext hx
                      replace hB6 := hB6.ext hx
                      replace hl := hl.ext hx
                      replace hO := hO.ext hx
                      have hE := Upd.refl (fun _ => False) W
                      refine id (X_cmp (k := .i64) (a := e.1) (b := 0) (r := false) rfl rfl rfl (decide_eq_false (p := ((e.1) : Int) < ((0) : Int)) (by have h_ := of_decide_eq_false hs33; omega)) ?_)
                      exact ⟨hE, rfl⟩
                    refine ⟨.det (fun val => (.bool (false))), ⟨fun _ _ hv => rfl, fun _ _ _ _ _ => trivial⟩, fun val h_ W hx he => ⟨trivial, ?_⟩, ?_⟩
                    · replace hx := (Upd.drew _ _).trans hx
                      replace hp := hp.ext hx
                      replace hc := hc.ext hx
                      replace hb := hb.ext hx
                      replace hPx := hPx.ext hx
                      replace hPy := hPy.ext hx
                      replace hB1 := hB1.ext hx
                      replace hB5 := hB5.ext hx
                      replace hB6 := hB6.ext hx
                      replace hl := hl.ext hx
                      replace hO := hO.ext hx
                      have hE := Upd.refl (fun _ => False) W
                      refine id (X_move (v := (.bool (false))) rfl ?_)
                      exact ⟨hE, rfl⟩
                    refine ⟨.det (fun val => (ptr b1 (1))), ⟨fun _ _ hv => rfl, fun _ _ _ _ _ => trivial⟩, fun val h_ W hx he => ⟨⟨161, rfl, rfl⟩, ?_⟩, ?_⟩
                    · replace hx := (Upd.drew _ _).trans hx
                      replace hp := hp.ext hx
                      replace hc := hc.ext hx
                      replace hb := hb.ext hx
                      replace hPx := hPx.ext hx
                      replace hPy := hPy.ext hx
                      replace hB1 := hB1.ext hx
                      replace hB5 := hB5.ext hx
                      replace hB6 := hB6.ext hx
                      replace hl := hl.ext hx
                      replace hO := hO.ext hx
                      have hE := Upd.refl (fun _ => False) W
                      refine id (X_fldP (b := b1) (o := 0) (r := 1) Fd26_1 rfl rfl ?_)
                      exact ⟨hE, rfl⟩
                    refine ⟨.det (fun val => cv), ⟨fun _ _ hv => rfl, fun _ _ _ _ _ => trivial⟩, fun val h_ W hx he => ⟨⟨161, rfl, rfl⟩, ?_⟩, ?_⟩
                    · replace hx := (Upd.drew _ _).trans hx
                      replace hp := hp.ext hx
                      replace hc := hc.ext hx
                      replace hb := hb.ext hx
                      replace hPx := hPx.ext hx
                      replace hPy := hPy.ext hx
                      replace hB1 := hB1.ext hx
                      replace hB5 := hB5.ext hx
                      replace hB6 := hB6.ext hx
                      replace hl := hl.ext hx
                      replace hO := hO.ext hx
                      have hE := Upd.refl (fun _ => False) W
                      refine id (X_load (p := (ptr b1 (1))) (v := cv) T23 rfl (hB1.at1 rfl) ?_)
                      exact ⟨hE, rfl⟩
                    refine ⟨.det (fun val => (.int .i64 (((k : Nat) : Int)))), ⟨fun _ _ hv => rfl, fun _ _ _ _ _ => trivial⟩, fun val h_ W hx he => ⟨⟨161, rfl, rfl⟩, ?_⟩, ?_⟩
                    · replace hx := (Upd.drew _ _).trans hx
                      replace hp := hp.ext hx
                      replace hc := hc.ext hx
                      replace hb := hb.ext hx
                      replace hPx := hPx.ext hx
                      replace hPy := hPy.ext hx
                      replace hB1 := hB1.ext hx
                      replace hB5 := hB5.ext hx
                      replace hB6 := hB6.ext hx
                      replace hl := hl.ext hx
                      replace hO := hO.ext hx
                      have hE := Upd.refl (fun _ => False) W
                      refine id (X_move (v := (.int .i64 (((k : Nat) : Int)))) rfl ?_)
                      exact ⟨hE, rfl⟩
                    refine ⟨.det (fun val => (pof cv ((((k : Nat) : Int) : Int).toNat * 257))), ⟨fun _ _ hv => rfl, fun _ _ _ _ _ => trivial⟩, fun val h_ W hx he => ⟨⟨161, rfl, rfl⟩, ?_⟩, ?_⟩
                    · replace hx := (Upd.drew _ _).trans hx
                      replace hp := hp.ext hx
                      replace hc := hc.ext hx
                      replace hb := hb.ext hx
                      replace hPx := hPx.ext hx
                      replace hPy := hPy.ext hx
                      replace hB1 := hB1.ext hx
                      replace hB5 := hB5.ext hx
                      replace hB6 := hB6.ext hx
                      replace hl := hl.ext hx
                      replace hO := hO.ext hx
                      have hE := Upd.refl (fun _ => False) W
                      refine id (X_idx (v := cv) (n := cs.length) (k := .i64) (i := ((k : Nat) : Int)) S23 rfl hc.sv rfl (by omega) (by omega) ?_)
                      exact ⟨hE, rfl⟩
                    refine ⟨.det (fun val => (pof cv ((((k : Nat) : Int) : Int).toNat * 257 + 0))), ⟨fun _ _ hv => rfl, fun _ _ _ _ _ => trivial⟩, fun val h_ W hx he => ⟨⟨161, rfl, rfl⟩, ?_⟩, ?_⟩
                    · replace hx := (Upd.drew _ _).trans hx
                      replace hp := hp.ext hx
                      replace hc := hc.ext hx
                      replace hb := hb.ext hx
                      replace hPx := hPx.ext hx
                      replace hPy := hPy.ext hx
                      replace hB1 := hB1.ext hx
                      replace hB5 := hB5.ext hx
                      replace hB6 := hB6.ext hx
                      replace hl := hl.ext hx
                      replace hO := hO.ext hx
                      have hE := Upd.refl (fun _ => False) W
                      refine id (X_fldS (v := cv) (o := (((k : Nat) : Int) : Int).toNat * 257) Fd35_0 rfl hc.sv (by omega) ?_)
                      exact ⟨hE, rfl⟩
                    refine ⟨.det (fun val => (.int .i64 (e.1))), ⟨fun _ _ hv => rfl, fun _ _ _ _ _ => trivial⟩, fun val h_ W hx he => ⟨⟨161, rfl, rfl⟩, ?_⟩, ?_⟩
                    · replace hx := (Upd.drew _ _).trans hx
                      replace hp := hp.ext hx
                      replace hc := hc.ext hx
                      replace hb := hb.ext hx
                      replace hPx := hPx.ext hx
                      replace hPy := hPy.ext hx
                      replace hB1 := hB1.ext hx
                      replace hB5 := hB5.ext hx
                      replace hB6 := hB6.ext hx
                      replace hl := hl.ext hx
                      replace hO := hO.ext hx
                      have hE := Upd.refl (fun _ => False) W
                      refine id (X_load (v := .int .i64 e.1) T3 rfl (wat hc (Int.toNat_natCast _) hei) ?_)
                      exact ⟨hE, rfl⟩
                    refine ⟨.det (fun val => (ptr b1 (0))), ⟨fun _ _ hv => rfl, fun _ _ _ _ _ => trivial⟩, fun val h_ W hx he => ⟨⟨161, rfl, rfl⟩, ?_⟩, ?_⟩
                    · replace hx := (Upd.drew _ _).trans hx
                      replace hp := hp.ext hx
                      replace hc := hc.ext hx
                      replace hb := hb.ext hx
                      replace hPx := hPx.ext hx
                      replace hPy := hPy.ext hx
                      replace hB1 := hB1.ext hx
                      replace hB5 := hB5.ext hx
                      replace hB6 := hB6.ext hx
                      replace hl := hl.ext hx
                      replace hO := hO.ext hx
                      have hE := Upd.refl (fun _ => False) W
                      refine id (X_fldP (b := b1) (o := 0) (r := 0) Fd26_0 rfl rfl ?_)
                      exact ⟨hE, rfl⟩
                    refine ⟨.det (fun val => pv), ⟨fun _ _ hv => rfl, fun _ _ _ _ _ => trivial⟩, fun val h_ W hx he => ⟨⟨161, rfl, rfl⟩, ?_⟩, ?_⟩
                    · replace hx := (Upd.drew _ _).trans hx
                      replace hp := hp.ext hx
                      replace hc := hc.ext hx
                      replace hb := hb.ext hx
                      replace hPx := hPx.ext hx
                      replace hPy := hPy.ext hx
                      replace hB1 := hB1.ext hx
                      replace hB5 := hB5.ext hx
                      replace hB6 := hB6.ext hx
                      replace hl := hl.ext hx
                      replace hO := hO.ext hx
                      have hE := Upd.refl (fun _ => False) W
                      refine id (X_load (p := (ptr b1 (0))) (v := pv) T22 rfl (hB1.at1 rfl) ?_)
                      exact ⟨hE, rfl⟩
                    refine ⟨.det (fun val => (.int .i64 (((ps.length : Nat) : Int)))), ⟨fun _ _ hv => rfl, fun _ _ _ _ _ => trivial⟩, fun val h_ W hx he => ⟨⟨161, rfl, rfl⟩, ?_⟩, ?_⟩
                    · replace hx := (Upd.drew _ _).trans hx
                      replace hp := hp.ext hx
                      replace hc := hc.ext hx
                      replace hb := hb.ext hx
                      replace hPx := hPx.ext hx
                      replace hPy := hPy.ext hx
                      replace hB1 := hB1.ext hx
                      replace hB5 := hB5.ext hx
                      replace hB6 := hB6.ext hx
                      replace hl := hl.ext hx
                      replace hO := hO.ext hx
                      have hE := Upd.refl (fun _ => False) W
                      refine id (X_len (v := pv) (n := ps.length) Try.underlying22 rfl hp.sv ?_)
                      exact ⟨hE, rfl⟩
                    intro val W40 hx40 he40
                    replace hx40 := (Upd.drew _ _).trans hx40
                    have hz40 := hx40.size
                    replace hp := hp.ext hx40
                    replace hc := hc.ext hx40
                    replace hb := hb.ext hx40
                    replace hPx := hPx.ext hx40
                    replace hPy := hPy.ext hx40
                    replace hB1 := hB1.ext hx40
                    replace hB5 := hB5.ext hx40
                    replace hB6 := hB6.ext hx40
                    replace hl := hl.ext hx40
                    replace hU := hU.trans (Ext.upd hx40)
                    replace hO := hO.ext hx40
                    refine L_gy (dj := 161) rfl rfl rfl (X_cmp (k := .i64) (a := e.1) (b := ((ps.length : Nat) : Int)) (r := true) rfl rfl rfl (decide_eq_true (p := ((((ps.length : Nat) : Int)) : Int) ≤ ((e.1) : Int)) (by have h_ := of_decide_eq_true hs37; omega)) ?_)
                    refine L_op rfl (X_pick (t := false) (v := (.bool (true))) rfl rfl ?_)
                    refine L_nil ?_
                    refine T_n ?_
                    refine W_ct rfl ?_
                    refine W_seq ?_
                    refine W_reg ?_
                    refine L_op rfl (X_fn (vs := []) en8 rfl (CT.mono (c_wakes4 _) ?_))
                    rintro vb41 w41 ⟨hvb41, hu41⟩
                    have hz41 := hu41.size
                    replace hp := hp.ext hu41
                    replace hc := hc.ext hu41
                    replace hb := hb.ext hu41
                    replace hPx := hPx.ext hu41
                    replace hPy := hPy.ext hu41
                    replace hB1 := hB1.ext hu41
                    replace hB5 := hB5.ext hu41
                    replace hB6 := hB6.ext hu41
                    replace hl := hl.ext hu41
                    replace hU := hU.trans (Ext.upd hu41)
                    replace hO := hO.ext hu41
                    subst hvb41
                    refine L_op rfl (X_assign (v := (.bool (true))) rfl ?_)
                    refine L_nil ?_
                    refine T_n ?_
                    refine W_ret ?_
                    refine B_r ?_
                    refine T_r ?_
                    refine T_r ?_
                    refine B_r ?_
                    refine T_r ?_
                    exact BQ_r (End_1 Try.results3 (v := .bool true) rfl ⟨rfl, hU.own hn0⟩)
                  · have h_42_ := of_decide_eq_false hs33
                    have h_43_ := of_decide_eq_false hs37
                    refine W_draw 17 [[], [0], [], [0, 1, 2], [0, 1, 2, 3], [0, 1, 2, 3, 4], [0, 1, 2, 3, 4, 5], [0, 1, 2, 3, 4, 5, 6], [0, 1, 2, 3, 4, 5, 6, 7], [0, 1, 2, 3, 4, 5, 6, 7, 8], [0, 1, 2, 3, 4, 5, 6, 7], [0, 1, 2, 3, 4, 5, 6, 7, 8, 9, 10], [0, 1, 2, 3, 4, 5, 6, 7, 8, 9, 10, 11], [0, 1, 2, 3, 4, 5, 6, 7, 8, 9, 10, 11, 12], [0, 1, 2, 3, 4, 5, 6, 7], [0, 1, 2, 3, 4, 5, 6, 7, 14], [0, 1, 2, 3, 4, 5, 6, 7, 14, 15], [0, 1, 2, 3, 4, 5, 6, 7, 8, 9, 10, 11, 12, 13, 14, 15, 16], [0, 1, 2, 3, 4, 5, 6, 7, 8, 9, 10, 11, 12, 13, 14, 15, 16, 17]] mixed (by kernel_rfl) ?_
                    refine ⟨.det (fun val => (ptr b1 (1))), ⟨fun _ _ hv => rfl, fun _ _ _ _ _ => trivial⟩, fun val h_ W hx he => ⟨trivial, ?_⟩, ?_⟩
                    · replace hx := (Upd.drew _ _).trans hx
                      replace hp := hp.ext hx
                      replace hc := hc.ext hx
                      replace hb := hb.ext hx
                      replace hPx := hPx.ext hx
                      replace hPy := hPy.ext hx
                      replace hB1 := hB1.ext hx
                      replace hB5 := hB5.ext hx
                      replace hB6 := hB6.ext hx
                      replace hl := hl.ext hx
                      replace hO := hO.ext hx
                      have hE := Upd.refl (fun _ => False) W
                      refine id (X_fldP (b := b1) (o := 0) (r := 1) Fd26_1 rfl rfl ?_)
                      exact ⟨hE, rfl⟩
                    refine ⟨.det (fun val => cv), ⟨fun _ _ hv => rfl, fun _ _ _ _ _ => trivial⟩, fun val h_ W hx he => ⟨trivial, ?_⟩, ?_⟩
                    · replace hx := (Upd.drew _ _).trans hx
                      replace hp := hp.ext hx
                      replace hc := hc.ext hx
                      replace hb := hb.ext hx
                      replace hPx := hPx.ext hx
                      replace hPy := hPy.ext hx
                      replace hB1 := hB1.ext hx
                      replace hB5 := hB5.ext hx
                      replace hB6 := hB6.ext hx
                      replace hl := hl.ext hx
                      replace hO := hO.ext hx
                      have hE := Upd.refl (fun _ => False) W
                      refine id (X_load (p := (ptr b1 (1))) (v := cv) T23 rfl (hB1.at1 rfl) ?_)
                      exact ⟨hE, rfl⟩
                    refine ⟨.det (fun val => (.int .i64 (((k : Nat) : Int)))), ⟨fun _ _ hv => rfl, fun _ _ _ _ _ => trivial⟩, fun val h_ W hx he => ⟨trivial, ?_⟩, ?_⟩
                    · replace hx := (Upd.drew _ _).trans hx
                      replace hp := hp.ext hx
                      replace hc := hc.ext hx
                      replace hb := hb.ext hx
                      replace hPx := hPx.ext hx
                      replace hPy := hPy.ext hx
                      replace hB1 := hB1.ext hx
                      replace hB5 := hB5.ext hx
                      replace hB6 := hB6.ext hx
                      replace hl := hl.ext hx
                      replace hO := hO.ext hx
                      have hE := Upd.refl (fun _ => False) W
                      refine id (X_move (v := (.int .i64 (((k : Nat) : Int)))) rfl ?_)
                      exact ⟨hE, rfl⟩
                    refine ⟨.det (fun val => (pof cv ((((k : Nat) : Int) : Int).toNat * 257))), ⟨fun _ _ hv => rfl, fun _ _ _ _ _ => trivial⟩, fun val h_ W hx he => ⟨trivial, ?_⟩, ?_⟩
                    · replace hx := (Upd.drew _ _).trans hx
                      replace hp := hp.ext hx
                      replace hc := hc.ext hx
                      replace hb := hb.ext hx
                      replace hPx := hPx.ext hx
                      replace hPy := hPy.ext hx
                      replace hB1 := hB1.ext hx
                      replace hB5 := hB5.ext hx
                      replace hB6 := hB6.ext hx
                      replace hl := hl.ext hx
                      replace hO := hO.ext hx
                      have hE := Upd.refl (fun _ => False) W
                      refine id (X_idx (v := cv) (n := cs.length) (k := .i64) (i := ((k : Nat) : Int)) S23 rfl hc.sv rfl (by omega) (by omega) ?_)
                      exact ⟨hE, rfl⟩
                    refine ⟨.det (fun val => (pof cv ((((k : Nat) : Int) : Int).toNat * 257 + 0))), ⟨fun _ _ hv => rfl, fun _ _ _ _ _ => trivial⟩, fun val h_ W hx he => ⟨trivial, ?_⟩, ?_⟩
                    · replace hx := (Upd.drew _ _).trans hx
                      replace hp := hp.ext hx
                      replace hc := hc.ext hx
                      replace hb := hb.ext hx
                      replace hPx := hPx.ext hx
                      replace hPy := hPy.ext hx
                      replace hB1 := hB1.ext hx
                      replace hB5 := hB5.ext hx
                      replace hB6 := hB6.ext hx
                      replace hl := hl.ext hx
                      replace hO := hO.ext hx
                      have hE := Upd.refl (fun _ => False) W
                      refine id (X_fldS (v := cv) (o := (((k : Nat) : Int) : Int).toNat * 257) Fd35_0 rfl hc.sv (by omega) ?_)
                      exact ⟨hE, rfl⟩
                    refine ⟨.det (fun val => (.int .i64 (e.1))), ⟨fun _ _ hv => rfl, fun _ _ _ _ _ => trivial⟩, fun val h_ W hx he => ⟨trivial, ?_⟩, ?_⟩
                    · replace hx := (Upd.drew _ _).trans hx
                      replace hp := hp.ext hx
                      replace hc := hc.ext hx
                      replace hb := hb.ext hx
                      replace hPx := hPx.ext hx
                      replace hPy := hPy.ext hx
                      replace hB1 := hB1.ext hx
                      replace hB5 := hB5.ext hx
                      replace hB6 := hB6.ext hx
                      replace hl := hl.ext hx
                      replace hO := hO.ext hx
                      have hE := Upd.refl (fun _ => False) W
                      refine id (X_load (v := .int .i64 e.1) T3 rfl (wat hc (Int.toNat_natCast _) hei) ?_)
                      exact ⟨hE, rfl⟩
                    refine ⟨.det (fun val => (.bool (false))), ⟨fun _ _ hv => rfl, fun _ _ _ _ _ => trivial⟩, fun val h_ W hx he => ⟨trivial, ?_⟩, ?_⟩
                    · replace hx := (Upd.drew _ _).trans hx
                      replace hp := hp.ext hx
                      replace hc := hc.ext hx
                      replace hb := hb.ext hx
                      replace hPx := hPx.ext hx
                      replace hPy := hPy.ext hx
                      replace hB1 := hB1.ext hx
                      replace hB5 := hB5.ext hx
                      replace hB6 := hB6.ext hx
                      replace hl := hl.ext hx
                      replace hO := hO.ext hx
                      have hE := Upd.refl (fun _ => False) W
                      refine id (X_cmp (k := .i64) (a := e.1) (b := 0) (r := false) rfl rfl rfl (decide_eq_false (p := ((e.1) : Int) < ((0) : Int)) (by have h_ := of_decide_eq_false hs33; omega)) ?_)
                      exact ⟨hE, rfl⟩
                    refine ⟨.det (fun val => (.bool (false))), ⟨fun _ _ hv => rfl, fun _ _ _ _ _ => trivial⟩, fun val h_ W hx he => ⟨trivial, ?_⟩, ?_⟩
                    · replace hx := (Upd.drew _ _).trans hx
                      replace hp := hp.ext hx
                      replace hc := hc.ext hx
                      replace hb := hb.ext hx
                      replace hPx := hPx.ext hx
                      replace hPy := hPy.ext hx
                      replace hB1 := hB1.ext hx
                      replace hB5 := hB5.ext hx
                      replace hB6 := hB6.ext hx
                      replace hl := hl.ext hx
                      replace hO := hO.ext hx
                      have hE := Upd.refl (fun _ => False) W
                      refine id (X_move (v := (.bool (false))) rfl ?_)
                      exact ⟨hE, rfl⟩
                    refine ⟨.det (fun val => (ptr b1 (1))), ⟨fun _ _ hv => rfl, fun _ _ _ _ _ => trivial⟩, fun val h_ W hx he => ⟨⟨161, rfl, rfl⟩, ?_⟩, ?_⟩
                    · replace hx := (Upd.drew _ _).trans hx
                      replace hp := hp.ext hx
                      replace hc := hc.ext hx
                      replace hb := hb.ext hx
                      replace hPx := hPx.ext hx
                      replace hPy := hPy.ext hx
                      replace hB1 := hB1.ext hx
                      replace hB5 := hB5.ext hx
                      replace hB6 := hB6.ext hx
                      replace hl := hl.ext hx
                      replace hO := hO.ext hx
                      have hE := Upd.refl (fun _ => False) W
                      refine id (X_fldP (b := b1) (o := 0) (r := 1) Fd26_1 rfl rfl ?_)
                      exact ⟨hE, rfl⟩
                    refine ⟨.det (fun val => cv), ⟨fun _ _ hv => rfl, fun _ _ _ _ _ => trivial⟩, fun val h_ W hx he => ⟨⟨161, rfl, rfl⟩, ?_⟩, ?_⟩
                    · replace hx := (Upd.drew _ _).trans hx
                      replace hp := hp.ext hx
                      replace hc := hc.ext hx
                      replace hb := hb.ext hx
                      replace hPx := hPx.ext hx
                      replace hPy := hPy.ext hx
                      replace hB1 := hB1.ext hx
                      replace hB5 := hB5.ext hx
                      replace hB6 := hB6.ext hx
                      replace hl := hl.ext hx
                      replace hO := hO.ext hx
                      have hE := Upd.refl (fun _ => False) W
                      refine id (X_load (p := (ptr b1 (1))) (v := cv) T23 rfl (hB1.at1 rfl) ?_)
                      exact ⟨hE, rfl⟩
                    refine ⟨.det (fun val => (.int .i64 (((k : Nat) : Int)))), ⟨fun _ _ hv => rfl, fun _ _ _ _ _ => trivial⟩, fun val h_ W hx he => ⟨⟨161, rfl, rfl⟩, ?_⟩, ?_⟩
                    · replace hx := (Upd.drew _ _).trans hx
                      replace hp := hp.ext hx
                      replace hc := hc.ext hx
                      replace hb := hb.ext hx
                      replace hPx := hPx.ext hx
                      replace hPy := hPy.ext hx
                      replace hB1 := hB1.ext hx
                      replace hB5 := hB5.ext hx
                      replace hB6 := hB6.ext hx
                      replace hl := hl.ext hx
                      replace hO := hO.ext hx
                      have hE := Upd.refl (fun _ => False) W
                      refine id (X_move (v := (.int .i64 (((k : Nat) : Int)))) rfl ?_)
                      exact ⟨hE, rfl⟩
                    refine ⟨.det (fun val => (pof cv ((((k : Nat) : Int) : Int).toNat * 257))), ⟨fun _ _ hv => rfl, fun _ _ _ _ _ => trivial⟩, fun val h_ W hx he => ⟨⟨161, rfl, rfl⟩, ?_⟩, ?_⟩
                    · replace hx := (Upd.drew _ _).trans hx
                      replace hp := hp.ext hx
                      replace hc := hc.ext hx
                      replace hb := hb.ext hx
                      replace hPx := hPx.ext hx
                      replace hPy := hPy.ext hx
                      replace hB1 := hB1.ext hx
                      replace hB5 := hB5.ext hx
                      replace hB6 := hB6.ext hx
                      replace hl := hl.ext hx
                      replace hO := hO.ext hx
                      have hE := Upd.refl (fun _ => False) W
                      refine id (X_idx (v := cv) (n := cs.length) (k := .i64) (i := ((k : Nat) : Int)) S23 rfl hc.sv rfl (by omega) (by omega) ?_)
                      exact ⟨hE, rfl⟩
                    refine ⟨.det (fun val => (pof cv ((((k : Nat) : Int) : Int).toNat * 257 + 0))), ⟨fun _ _ hv => rfl, fun _ _ _ _ _ => trivial⟩, fun val h_ W hx he => ⟨⟨161, rfl, rfl⟩, ?_⟩, ?_⟩
                    · replace hx := (Upd.drew _ _).trans hx
                      replace hp := hp.ext hx
                      replace hc := hc.ext hx
                      replace hb := hb.ext hx
                      replace hPx := hPx.ext hx
                      replace hPy := hPy.ext hx
                      replace hB1 := hB1.ext hx
                      replace hB5 := hB5.ext hx
                      replace hB6 := hB6.ext hx
                      replace hl := hl.ext hx
                      replace hO := hO.ext hx
                      have hE := Upd.refl (fun _ => False) W
                      refine id (X_fldS (v := cv) (o := (((k : Nat) : Int) : Int).toNat * 257) Fd35_0 rfl hc.sv (by omega) ?_)
                      exact ⟨hE, rfl⟩
                    refine ⟨.det (fun val => (.int .i64 (e.1))), ⟨fun _ _ hv => rfl, fun _ _ _ _ _ => trivial⟩, fun val h_ W hx he => ⟨⟨161, rfl, rfl⟩, ?_⟩, ?_⟩
                    · replace hx := (Upd.drew _ _).trans hx
                      replace hp := hp.ext hx
                      replace hc := hc.ext hx
                      replace hb := hb.ext hx
                      replace hPx := hPx.ext hx
                      replace hPy := hPy.ext hx
                      replace hB1 := hB1.ext hx
                      replace hB5 := hB5.ext hx
                      replace hB6 := hB6.ext hx
                      replace hl := hl.ext hx
                      replace hO := hO.ext hx
                      have hE := Upd.refl (fun _ => False) W
                      refine id (X_load (v := .int .i64 e.1) T3 rfl (wat hc (Int.toNat_natCast _) hei) ?_)
                      exact ⟨hE, rfl⟩
                    refine ⟨.det (fun val => (ptr b1 (0))), ⟨fun _ _ hv => rfl, fun _ _ _ _ _ => trivial⟩, fun val h_ W hx he => ⟨⟨161, rfl, rfl⟩, ?_⟩, ?_⟩
                    · replace hx := (Upd.drew _ _).trans hx
                      replace hp := hp.ext hx
                      replace hc := hc.ext hx
                      replace hb := hb.ext hx
                      replace hPx := hPx.ext hx
                      replace hPy := hPy.ext hx
                      replace hB1 := hB1.ext hx
                      replace hB5 := hB5.ext hx
                      replace hB6 := hB6.ext hx
                      replace hl := hl.ext hx
                      replace hO := hO.ext hx
                      have hE := Upd.refl (fun _ => False) W
                      refine id (X_fldP (b := b1) (o := 0) (r := 0) Fd26_0 rfl rfl ?_)
                      exact ⟨hE, rfl⟩
                    refine ⟨.det (fun val => pv), ⟨fun _ _ hv => rfl, fun _ _ _ _ _ => trivial⟩, fun val h_ W hx he => ⟨⟨161, rfl, rfl⟩, ?_⟩, ?_⟩
                    · replace hx := (Upd.drew _ _).trans hx
                      replace hp := hp.ext hx
                      replace hc := hc.ext hx
                      replace hb := hb.ext hx
                      replace hPx := hPx.ext hx
                      replace hPy := hPy.ext hx
                      replace hB1 := hB1.ext hx
                      replace hB5 := hB5.ext hx
                      replace hB6 := hB6.ext hx
                      replace hl := hl.ext hx
                      replace hO := hO.ext hx
                      have hE := Upd.refl (fun _ => False) W
                      refine id (X_load (p := (ptr b1 (0))) (v := pv) T22 rfl (hB1.at1 rfl) ?_)
                      exact ⟨hE, rfl⟩
                    refine ⟨.det (fun val => (.int .i64 (((ps.length : Nat) : Int)))), ⟨fun _ _ hv => rfl, fun _ _ _ _ _ => trivial⟩, fun val h_ W hx he => ⟨⟨161, rfl, rfl⟩, ?_⟩, ?_⟩
                    · replace hx := (Upd.drew _ _).trans hx
                      replace hp := hp.ext hx
                      replace hc := hc.ext hx
                      replace hb := hb.ext hx
                      replace hPx := hPx.ext hx
                      replace hPy := hPy.ext hx
                      replace hB1 := hB1.ext hx
                      replace hB5 := hB5.ext hx
                      replace hB6 := hB6.ext hx
                      replace hl := hl.ext hx
                      replace hO := hO.ext hx
                      have hE := Upd.refl (fun _ => False) W
                      refine id (X_len (v := pv) (n := ps.length) Try.underlying22 rfl hp.sv ?_)
                      exact ⟨hE, rfl⟩
                    intro val W44 hx44 he44
                    replace hx44 := (Upd.drew _ _).trans hx44
                    have hz44 := hx44.size
                    replace hp := hp.ext hx44
                    replace hc := hc.ext hx44
                    replace hb := hb.ext hx44
                    replace hPx := hPx.ext hx44
                    replace hPy := hPy.ext hx44
                    replace hB1 := hB1.ext hx44
                    replace hB5 := hB5.ext hx44
                    replace hB6 := hB6.ext hx44
                    replace hl := hl.ext hx44
                    replace hU := hU.trans (Ext.upd hx44)
                    replace hO := hO.ext hx44
                    refine L_gy (dj := 161) rfl rfl rfl (X_cmp (k := .i64) (a := e.1) (b := ((ps.length : Nat) : Int)) (r := false) rfl rfl rfl (decide_eq_false (p := ((((ps.length : Nat) : Int)) : Int) ≤ ((e.1) : Int)) (by have h_ := of_decide_eq_false hs37; omega)) ?_)
                    refine L_op rfl (X_pick (t := false) (v := (.bool (false))) rfl rfl ?_)
                    refine L_nil ?_
                    refine T_n ?_
                    refine W_cf rfl ?_
                    refine W_skip ?_
                    refine B_n ?_
                    refine T_n ?_
                    refine W_reg ?_
                    refine L_op rfl (X_move (v := (.int .i64 (((k : Nat) : Int)))) rfl ?_)
                    refine L_op rfl (X_arith (k := .i64) (a := ((k : Nat) : Int)) (b := 1) (r := ((k + 1 : Nat) : Int)) rfl rfl rfl (iadd64 (by omega) (by omega) (by omega)) ?_)
                    refine L_op rfl (X_assign (v := (.int .i64 (((k + 1 : Nat) : Int)))) rfl ?_)
                    refine L_nil ?_
                    refine T_n ?_
                    exact ⟨rfl, k + 1, ⟨⟨hk, fun j e2 h1 h2 => (Nat.lt_or_ge j k).elim (fun h3 => hin j e2 h3 h2) fun h3 => (by obtain rfl : j = k := by { omega }; rw [hei] at h2; cases h2; omega), hO, by omega, hp, hc, hb, hPx, hPy, hB1, hB5, hB6, hl, hU⟩, (by show cs.length - (k + 1) < cs.length - k; omega)⟩, (Out.mk rfl), ⟨rfl, trivial⟩⟩
              · refine L_op rfl (X_cmp (k := .i64) (a := ((k : Nat) : Int)) (b := ((cs.length : Nat) : Int)) (r := false) rfl rfl rfl (decide_eq_false (p := ((((k : Nat) : Int)) : Int) < ((((cs.length : Nat) : Int)) : Int)) (by omega)) ?_)
                obtain rfl : k = cs.length := by omega
                have hin2 : ∀ (j : Nat) (e : Wr), cs[j]? = some e → 0 ≤ e.1 ∧ e.1 < (ps.length : Int) := fun j e h => hin j e (List.getElem?_eq_some_iff.1 h).1 h
                refine L_nil ?_
                refine T_n ?_
                refine W_cf rfl ?_
                refine W_exit ?_
                refine T_e ?_
                refine T_e ?_
                refine B_x ?_
                refine T_n ?_
                refine W_seq ?_
                refine W_reg ?_
                refine L_op rfl (X_loadA (p := (ptr b1 (0))) (xs := [pv, cv, bv, (.bool (off))]) A26 rfl hB1.atAll rfl ?_)
                obtain ⟨s_g, hs_g⟩ : ∃ n, n = w31.heap.size := ⟨_, rfl⟩
                refine L_op rfl (X_fn (vs := [(.agg ([pv, cv, bv, (.bool (off))]).toArray)]) en10 rfl (CT.mono (c_flushR pv cv bv ps cs bs off _ 0 n0 (by omega) hp hc hb (by omega) (by omega) (by omega)) ?_))
                rintro _ w45 ⟨p_g, c_g, i_g, q_g, d_g, a_g, rfl, hPg, hCg, hIg, hok_g, hno_g, hu45⟩
                have hz45 := hu45.size
                replace hp := hp.ext hu45
                replace hc := hc.ext hu45
                replace hb := hb.ext hu45
                replace hPx := hPx.ext hu45
                replace hPy := hPy.ext hu45
                replace hB1 := hB1.ext hu45
                replace hB5 := hB5.ext hu45
                replace hB6 := hB6.ext hu45
                replace hl := hl.ext hu45
                replace hU := hU.trans (Ext.upd hu45)
                replace hO := hO.ext hu45
                obtain ⟨u_g, hu_g⟩ : ∃ n, n = w45.heap.size := ⟨_, rfl⟩
                rw [← hs_g, ← hu_g] at hPg hCg hIg
                refine L_op rfl (X_move (v := (.tuple #[(.agg #[p_g, c_g, i_g, (.bool (off))]), (.int .i64 ((askE ps.length cs bs off 0)))])) rfl ?_)
                refine L_op rfl (X_extract (l := [(.agg #[p_g, c_g, i_g, (.bool (off))]), (.int .i64 ((askE ps.length cs bs off 0)))]) (v := (.agg #[p_g, c_g, i_g, (.bool (off))])) rfl rfl ?_)
                refine L_op rfl (X_extract (l := [(.agg #[p_g, c_g, i_g, (.bool (off))]), (.int .i64 ((askE ps.length cs bs off 0)))]) (v := (.int .i64 ((askE ps.length cs bs off 0)))) rfl rfl ?_)
                refine L_op rfl (X_alloc (z := (.agg #[(.slice none 0 0), (.slice none 0 0), (.slice none 0 0), (.bool (false))])) (c := #[(.slice none 0 0), (.slice none 0 0), (.slice none 0 0), (.bool (false))]) Zv26 rfl ?_)
                intro b46 w46 hn46
                have hbn46 := hn46.num; have hbs46 := hn46.size
                replace hp := hp.ext hn46.ext
                replace hc := hc.ext hn46.ext
                replace hb := hb.ext hn46.ext
                replace hPx := hPx.ext hn46.ext
                replace hPy := hPy.ext hn46.ext
                replace hB1 := hB1.ext hn46.ext
                replace hB5 := hB5.ext hn46.ext
                replace hB6 := hB6.ext hn46.ext
                replace hl := hl.ext hn46.ext
                replace hU := hU.trans (Ext.upd hn46.ext)
                replace hO := hO.ext hn46.ext
                replace hPg := hPg.ext hn46.ext
                replace hCg := hCg.ext hn46.ext
                replace hIg := hIg.ext hn46.ext
                have hB46 := hn46.blk
                refine L_op0 (X_storeW (b := b46) (ys := [p_g, c_g, i_g, (.bool (off))]) A26 rfl rfl (List.forall_mem_cons.2 ⟨(hPg.1.sv.one), (List.forall_mem_cons.2 ⟨(hCg.1.sv.one), (List.forall_mem_cons.2 ⟨(hIg.1.sv.one), (List.forall_mem_cons.2 ⟨rfl, (fun _ h => by cases h)⟩)⟩)⟩)⟩) rfl hB46 rfl ?_)
                intro w47 hu47 hb47
                have hz47 := hu47.size
                replace hp := hp.upd hu47 fun i h1 h2 h => by have h : i = b46 := h; omega
                replace hc := hc.upd hu47 fun i h1 h2 h => by have h : i = b46 := h; omega
                replace hb := hb.upd hu47 fun i h1 h2 h => by have h : i = b46 := h; omega
                replace hPx := hPx.upd hu47 fun i h1 h2 h => by have h : i = b46 := h; omega
                replace hPy := hPy.upd hu47 fun i h1 h2 h => by have h : i = b46 := h; omega
                replace hB1 := hB1.upd hu47 fun h => by have h : b1 = b46 := h; omega
                replace hB5 := hB5.upd hu47 fun h => by have h : b5 = b46 := h; omega
                replace hB6 := hB6.upd hu47 fun h => by have h : b6 = b46 := h; omega
                replace hl := hl.upd hu47 fun i hi h => by have hi := hlb _ hi; have h : i = b46 := h; omega
                replace hU := hU.trans (hu47.mono fun i _ h => by have h : i = b46 := h; show n0 ≤ i; omega)
                replace hO := hO.upd hu47 fun i hi h => by have hi := hO_b _ hi; have h : i = b46 := h; omega
                replace hPg := hPg.upd hu47 fun i h1 h2 h => by have h : i = b46 := h; omega
                replace hCg := hCg.upd hu47 fun i h1 h2 h => by have h : i = b46 := h; omega
                replace hIg := hIg.upd hu47 fun i h1 h2 h => by have h : i = b46 := h; omega
                replace hB46 : Blk w47 b46 #[p_g, c_g, i_g, (.bool (off))] 26 := hb47
                refine L_op rfl (X_assign (v := (.int .i64 ((askE ps.length cs bs off 0)))) rfl ?_)
                refine L_nil ?_
                refine T_n ?_
                refine W_seq ?_
                obtain ⟨s28, hs28⟩ : ∃ n, n = w47.heap.size := ⟨_, rfl⟩
                rcases Bool.eq_false_or_eq_true (decide (askE ps.length cs bs off 0 = 0)) with hs48 | hs48
                · refine W_draw 7 [[], [0], [0, 1], [0, 1, 2], [0, 1, 2], [0, 1, 2, 3, 4], [0, 1, 2], [0, 1, 2, 3, 4, 5, 6], [0, 1, 2, 3, 4, 5, 6, 7], [0, 1, 2, 3, 4, 5, 6, 7, 8], [0, 1, 2, 3, 4, 5, 6, 7, 8, 9], [0, 1, 2, 3, 4, 5, 6, 7, 8, 9, 10], [0, 1, 2, 3, 4, 5, 6, 7, 8, 9, 10, 11]] mixed (by kernel_rfl) ?_
                  refine ⟨.det (fun val => (.int .i64 ((askE ps.length cs bs off 0)))), ⟨fun _ _ hv => rfl, fun _ _ _ _ _ => trivial⟩, fun val h_ W hx he => ⟨trivial, ?_⟩, ?_⟩
                  · replace hx := (Upd.drew _ _).trans hx
                    replace hp := hp.ext hx
                    replace hc := hc.ext hx
                    replace hb := hb.ext hx
                    replace hPx := hPx.ext hx
                    replace hPy := hPy.ext hx
                    replace hB1 := hB1.ext hx
                    replace hB5 := hB5.ext hx
                    replace hB6 := hB6.ext hx
                    replace hl := hl.ext hx
                    replace hO := hO.ext hx
                    replace hPg := hPg.ext hx
                    replace hCg := hCg.ext hx
                    replace hIg := hIg.ext hx
                    replace hB46 := hB46.ext hx
                    have hE := Upd.refl (fun _ => False) W
                    refine id (X_move (v := (.int .i64 ((askE ps.length cs bs off 0)))) rfl ?_)
                    exact ⟨hE, rfl⟩
                  refine ⟨.det (fun val => (.bool (false))), ⟨fun _ _ hv => rfl, fun _ _ _ _ _ => trivial⟩, fun val h_ W hx he => ⟨trivial, ?_⟩, ?_⟩
                  · replace hx := (Upd.drew _ _).trans hx
                    replace hp := hp.ext hx
                    replace hc := hc.ext hx
                    replace hb := hb.ext hx
                    replace hPx := hPx.ext hx
                    replace hPy := hPy.ext hx
                    replace hB1 := hB1.ext hx
                    replace hB5 := hB5.ext hx
                    replace hB6 := hB6.ext hx
                    replace hl := hl.ext hx
                    replace hO := hO.ext hx
                    replace hPg := hPg.ext hx
                    replace hCg := hCg.ext hx
                    replace hIg := hIg.ext hx
                    replace hB46 := hB46.ext hx
                    have hE := Upd.refl (fun _ => False) W
                    refine id (X_cmp (k := .i64) (a := askE ps.length cs bs off 0) (b := 0) (r := false) rfl rfl rfl (decide_eq_false (fun h_ => h_ (of_decide_eq_true hs48))) ?_)
                    exact ⟨hE, rfl⟩
                  refine ⟨.det (fun val => (.bool (false))), ⟨fun _ _ hv => rfl, fun _ _ _ _ _ => trivial⟩, fun val h_ W hx he => ⟨trivial, ?_⟩, ?_⟩
                  · replace hx := (Upd.drew _ _).trans hx
                    replace hp := hp.ext hx
                    replace hc := hc.ext hx
                    replace hb := hb.ext hx
                    replace hPx := hPx.ext hx
                    replace hPy := hPy.ext hx
                    replace hB1 := hB1.ext hx
                    replace hB5 := hB5.ext hx
                    replace hB6 := hB6.ext hx
                    replace hl := hl.ext hx
                    replace hO := hO.ext hx
                    replace hPg := hPg.ext hx
                    replace hCg := hCg.ext hx
                    replace hIg := hIg.ext hx
                    replace hB46 := hB46.ext hx
                    have hE := Upd.refl (fun _ => False) W
                    refine id (X_move (v := (.bool (false))) rfl ?_)
                    exact ⟨hE, rfl⟩
                  refine ⟨.det (fun val => (.agg ([pv, cv, bv, (.bool (off))]).toArray)), ⟨fun _ _ hv => rfl, fun _ _ _ _ _ => trivial⟩, fun val h_ W hx he => ⟨⟨181, rfl, rfl⟩, ?_⟩, ?_⟩
                  · replace hx := (Upd.drew _ _).trans hx
                    replace hp := hp.ext hx
                    replace hc := hc.ext hx
                    replace hb := hb.ext hx
                    replace hPx := hPx.ext hx
                    replace hPy := hPy.ext hx
                    replace hB1 := hB1.ext hx
                    replace hB5 := hB5.ext hx
                    replace hB6 := hB6.ext hx
                    replace hl := hl.ext hx
                    replace hO := hO.ext hx
                    replace hPg := hPg.ext hx
                    replace hCg := hCg.ext hx
                    replace hIg := hIg.ext hx
                    replace hB46 := hB46.ext hx
                    have hE := Upd.refl (fun _ => False) W
                    refine id (X_loadA (p := (ptr b1 (0))) (xs := [pv, cv, bv, (.bool (off))]) A26 rfl hB1.atAll rfl ?_)
                    exact ⟨hE, rfl⟩
                  refine ⟨.det (fun val => vO), ⟨fun _ _ hv => rfl, fun _ _ _ _ _ => trivial⟩, fun val h_ W hx he => ⟨⟨181, rfl, rfl⟩, ?_⟩, ?_⟩
                  · replace hx := (Upd.drew _ _).trans hx
                    replace hp := hp.ext hx
                    replace hc := hc.ext hx
                    replace hb := hb.ext hx
                    replace hPx := hPx.ext hx
                    replace hPy := hPy.ext hx
                    replace hB1 := hB1.ext hx
                    replace hB5 := hB5.ext hx
                    replace hB6 := hB6.ext hx
                    replace hl := hl.ext hx
                    replace hO := hO.ext hx
                    replace hPg := hPg.ext hx
                    replace hCg := hCg.ext hx
                    replace hIg := hIg.ext hx
                    replace hB46 := hB46.ext hx
                    have hE := Upd.refl (fun _ => False) W
                    refine id (X_move (v := vO) rfl ?_)
                    exact ⟨hE, rfl⟩
                  refine ⟨.abs (fun _ x_ W_ => ∃ p2 i2 u, x_ = .agg #[p2, .slice none 0 0, i2, .bool off] ∧ u ≤ W_.heap.size ∧ NOwn LP W_ 33 5 s28 u p2 (crSt ps bs cs (List.replicate cs.length 1) cs.length).1 ∧ NOwn LI W_ 3 5 s28 u i2 (crSt ps bs cs (List.replicate cs.length 1) cs.length).2), ⟨fun _ _ _ => rfl, fun _ _ _ _ hu h => (by obtain ⟨a1, a2, u, e1, e2, e3, e4⟩ := h; exact ⟨a1, a2, u, e1, Nat.le_trans e2 hu.size, NOwn.ext e3 hu, NOwn.ext e4 hu⟩)⟩, fun val h_ W hx he => ⟨⟨181, rfl, rfl⟩, ?_⟩, ?_⟩
                  · replace hx := (Upd.drew _ _).trans hx
                    replace hp := hp.ext hx
                    replace hc := hc.ext hx
                    replace hb := hb.ext hx
                    replace hPx := hPx.ext hx
                    replace hPy := hPy.ext hx
                    replace hB1 := hB1.ext hx
                    replace hB5 := hB5.ext hx
                    replace hB6 := hB6.ext hx
                    replace hl := hl.ext hx
                    replace hO := hO.ext hx
                    replace hPg := hPg.ext hx
                    replace hCg := hCg.ext hx
                    replace hIg := hIg.ext hx
                    replace hB46 := hB46.ext hx
                    have hE := Upd.refl (fun _ => False) W
                    have hxs := hx.size
                    have hcr_ := c_crash pv cv bv ps cs bs off vO (List.replicate cs.length 1) W 0 n0 (by omega) hp hc hb (hO.rd.eq (by rw [List.length_replicate]) rfl) (by omega) (by omega) (by omega)
                    refine X_fn (vs := [.agg #[pv, cv, bv, .bool off], vO]) en9 rfl ?_
                    refine CT.mono hcr_ ?_
                    rintro v9 w9 ⟨p9, i9, rfl, hP9, hI9, hu9⟩
                    exact ⟨hu9, p9, i9, _, rfl, Nat.le_refl _, hP9.mono (by omega) (Nat.le_refl _), hI9.mono (by omega) (Nat.le_refl _)⟩
                  refine ⟨.det (fun val => (.agg ([p_g, c_g, i_g, (.bool (off))]).toArray)), ⟨fun _ _ hv => rfl, fun _ _ _ _ _ => trivial⟩, fun val h_ W hx he => ⟨⟨181, rfl, rfl⟩, ?_⟩, ?_⟩
                  · replace hx := (Upd.drew _ _).trans hx
                    replace hp := hp.ext hx
                    replace hc := hc.ext hx
                    replace hb := hb.ext hx
                    replace hPx := hPx.ext hx
                    replace hPy := hPy.ext hx
                    replace hB1 := hB1.ext hx
                    replace hB5 := hB5.ext hx
                    replace hB6 := hB6.ext hx
                    replace hl := hl.ext hx
                    replace hO := hO.ext hx
                    replace hPg := hPg.ext hx
                    replace hCg := hCg.ext hx
                    replace hIg := hIg.ext hx
                    replace hB46 := hB46.ext hx
                    have hE := Upd.refl (fun _ => False) W
                    refine id (X_loadA (p := (ptr b46 (0))) (xs := [p_g, c_g, i_g, (.bool (off))]) A26 rfl hB46.atAll rfl ?_)
                    exact ⟨hE, rfl⟩
                  intro val W49 hx49 he49
                  replace hx49 := (Upd.drew _ _).trans hx49
                  have hz49 := hx49.size
                  replace hp := hp.ext hx49
                  replace hc := hc.ext hx49
                  replace hb := hb.ext hx49
                  replace hPx := hPx.ext hx49
                  replace hPy := hPy.ext hx49
                  replace hB1 := hB1.ext hx49
                  replace hB5 := hB5.ext hx49
                  replace hB6 := hB6.ext hx49
                  replace hl := hl.ext hx49
                  replace hU := hU.trans (Ext.upd hx49)
                  replace hO := hO.ext hx49
                  replace hPg := hPg.ext hx49
                  replace hCg := hCg.ext hx49
                  replace hIg := hIg.ext hx49
                  replace hB46 := hB46.ext hx49
                  obtain ⟨⟨p_z, i_z, u5, he_5z, hul5, hPz, hIz⟩, he49⟩ := he49
                  obtain ⟨hq1, hq2, hq3⟩ := hok_g (of_decide_eq_true hs48)
                  have hso := crSt_ones (bs := bs) hin2 cs.length (Nat.le_refl _)
                  rw [List.take_length] at hso
                  refine L_gy (dj := 181) rfl rfl rfl (X_fn (vs := [.agg #[p_z, .slice none 0 0, i_z, .bool off], .agg #[p_g, c_g, i_g, .bool off]]) en11 (congrArg (fun z => [z, Value.agg #[p_g, c_g, i_g, .bool off]]) he_5z) (CT.mono (c_same4 p_z (.slice none 0 0) i_z (crSt ps bs cs (List.replicate cs.length 1) cs.length).1 [] (crSt ps bs cs (List.replicate cs.length 1) cs.length).2 off p_g c_g i_g q_g d_g a_g off _ s28 u5 s_g u_g hPz.rd (NRd.nil _ _ _) hIz.rd hPg.rd hCg.rd hIg.rd) ?_))
                  rintro _ w50 ⟨⟨g50, rfl, hg50⟩, hu50⟩
                  have hz50 := hu50.size
                  replace hp := hp.ext hu50
                  replace hc := hc.ext hu50
                  replace hb := hb.ext hu50
                  replace hPx := hPx.ext hu50
                  replace hPy := hPy.ext hu50
                  replace hB1 := hB1.ext hu50
                  replace hB5 := hB5.ext hu50
                  replace hB6 := hB6.ext hu50
                  replace hl := hl.ext hu50
                  replace hU := hU.trans (Ext.upd hu50)
                  replace hO := hO.ext hu50
                  replace hPg := hPg.ext hu50
                  replace hCg := hCg.ext hu50
                  replace hIg := hIg.ext hu50
                  replace hB46 := hB46.ext hu50
                  replace hPz := hPz.ext hu50
                  replace hIz := hIz.ext hu50
                  obtain rfl : g50 = true := hg50.2 ⟨by rw [hso, hq1], hq2.symm, by rw [hso, hq3], rfl⟩
                  refine L_op rfl (X_pick (t := false) (v := (.bool (true))) rfl rfl ?_)
                  refine L_op rfl (X_move (v := (.bool (true))) rfl ?_)
                  refine L_gy (dj := 188) rfl rfl rfl (X_fn (vs := []) en8 rfl (CT.mono (c_wakes4 _) ?_))
                  rintro vb51 w51 ⟨hvb51, hu51⟩
                  have hz51 := hu51.size
                  replace hp := hp.ext hu51
                  replace hc := hc.ext hu51
                  replace hb := hb.ext hu51
                  replace hPx := hPx.ext hu51
                  replace hPy := hPy.ext hu51
                  replace hB1 := hB1.ext hu51
                  replace hB5 := hB5.ext hu51
                  replace hB6 := hB6.ext hu51
                  replace hl := hl.ext hu51
                  replace hU := hU.trans (Ext.upd hu51)
                  replace hO := hO.ext hu51
                  replace hPg := hPg.ext hu51
                  replace hCg := hCg.ext hu51
                  replace hIg := hIg.ext hu51
                  replace hB46 := hB46.ext hu51
                  replace hPz := hPz.ext hu51
                  replace hIz := hIz.ext hu51
                  subst hvb51
                  refine L_op rfl (X_pick (t := true) (v := (.bool (true))) rfl rfl ?_)
                  refine L_op rfl (X_assign (v := (.bool (true))) rfl ?_)
                  refine L_nil ?_
                  refine T_n ?_
                  refine W_ret ?_
                  exact BQ_r (End_1 Try.results3 (v := .bool true) rfl ⟨rfl, hU.own hn0⟩)
                · refine W_draw 7 [[], [0], [0, 1], [0, 1, 2], [0, 1, 2], [0, 1, 2, 3, 4], [0, 1, 2], [0, 1, 2, 3, 4, 5, 6], [0, 1, 2, 3, 4, 5, 6, 7], [0, 1, 2, 3, 4, 5, 6, 7, 8], [0, 1, 2, 3, 4, 5, 6, 7, 8, 9], [0, 1, 2, 3, 4, 5, 6, 7, 8, 9, 10], [0, 1, 2, 3, 4, 5, 6, 7, 8, 9, 10, 11]] mixed (by kernel_rfl) ?_
                  refine ⟨.det (fun val => (.int .i64 ((askE ps.length cs bs off 0)))), ⟨fun _ _ hv => rfl, fun _ _ _ _ _ => trivial⟩, fun val h_ W hx he => ⟨trivial, ?_⟩, ?_⟩
                  · replace hx := (Upd.drew _ _).trans hx
                    replace hp := hp.ext hx
                    replace hc := hc.ext hx
                    replace hb := hb.ext hx
                    replace hPx := hPx.ext hx
                    replace hPy := hPy.ext hx
                    replace hB1 := hB1.ext hx
                    replace hB5 := hB5.ext hx
                    replace hB6 := hB6.ext hx
                    replace hl := hl.ext hx
                    replace hO := hO.ext hx
                    replace hPg := hPg.ext hx
                    replace hCg := hCg.ext hx
                    replace hIg := hIg.ext hx
                    replace hB46 := hB46.ext hx
                    have hE := Upd.refl (fun _ => False) W
                    refine id (X_move (v := (.int .i64 ((askE ps.length cs bs off 0)))) rfl ?_)
                    exact ⟨hE, rfl⟩
                  refine ⟨.det (fun val => (.bool (true))), ⟨fun _ _ hv => rfl, fun _ _ _ _ _ => trivial⟩, fun val h_ W hx he => ⟨trivial, ?_⟩, ?_⟩
                  · replace hx := (Upd.drew _ _).trans hx
                    replace hp := hp.ext hx
                    replace hc := hc.ext hx
                    replace hb := hb.ext hx
                    replace hPx := hPx.ext hx
                    replace hPy := hPy.ext hx
                    replace hB1 := hB1.ext hx
                    replace hB5 := hB5.ext hx
                    replace hB6 := hB6.ext hx
                    replace hl := hl.ext hx
                    replace hO := hO.ext hx
                    replace hPg := hPg.ext hx
                    replace hCg := hCg.ext hx
                    replace hIg := hIg.ext hx
                    replace hB46 := hB46.ext hx
                    have hE := Upd.refl (fun _ => False) W
                    refine id (X_cmp (k := .i64) (a := askE ps.length cs bs off 0) (b := 0) (r := true) rfl rfl rfl (decide_eq_true (of_decide_eq_false hs48)) ?_)
                    exact ⟨hE, rfl⟩
                  refine ⟨.det (fun val => (.bool (true))), ⟨fun _ _ hv => rfl, fun _ _ _ _ _ => trivial⟩, fun val h_ W hx he => ⟨trivial, ?_⟩, ?_⟩
                  · replace hx := (Upd.drew _ _).trans hx
                    replace hp := hp.ext hx
                    replace hc := hc.ext hx
                    replace hb := hb.ext hx
                    replace hPx := hPx.ext hx
                    replace hPy := hPy.ext hx
                    replace hB1 := hB1.ext hx
                    replace hB5 := hB5.ext hx
                    replace hB6 := hB6.ext hx
                    replace hl := hl.ext hx
                    replace hO := hO.ext hx
                    replace hPg := hPg.ext hx
                    replace hCg := hCg.ext hx
                    replace hIg := hIg.ext hx
                    replace hB46 := hB46.ext hx
                    have hE := Upd.refl (fun _ => False) W
                    refine id (X_move (v := (.bool (true))) rfl ?_)
                    exact ⟨hE, rfl⟩
                  refine ⟨.no, ⟨fun _ _ _ => trivial, fun _ _ _ _ _ => trivial⟩, fun val h_ W hx he => ⟨181, rfl, .inl rfl⟩, ?_⟩
                  refine ⟨.no, ⟨fun _ _ _ => trivial, fun _ _ _ _ _ => trivial⟩, fun val h_ W hx he => ⟨181, rfl, .inl rfl⟩, ?_⟩
                  refine ⟨.no, ⟨fun _ _ _ => trivial, fun _ _ _ _ _ => trivial⟩, fun val h_ W hx he => ⟨181, rfl, .inl rfl⟩, ?_⟩
                  refine ⟨.no, ⟨fun _ _ _ => trivial, fun _ _ _ _ _ => trivial⟩, fun val h_ W hx he => ⟨181, rfl, .inl rfl⟩, ?_⟩
                  intro val W52 hx52 he52
                  replace hx52 := (Upd.drew _ _).trans hx52
                  have hz52 := hx52.size
                  replace hp := hp.ext hx52
                  replace hc := hc.ext hx52
                  replace hb := hb.ext hx52
                  replace hPx := hPx.ext hx52
                  replace hPy := hPy.ext hx52
                  replace hB1 := hB1.ext hx52
                  replace hB5 := hB5.ext hx52
                  replace hB6 := hB6.ext hx52
                  replace hl := hl.ext hx52
                  replace hU := hU.trans (Ext.upd hx52)
                  replace hO := hO.ext hx52
                  replace hPg := hPg.ext hx52
                  replace hCg := hCg.ext hx52
                  replace hIg := hIg.ext hx52
                  replace hB46 := hB46.ext hx52
                  refine L_gn (dj := 181) (t := true) rfl rfl rfl rfl ?_
                  refine L_op rfl (X_pick (t := true) (v := (.bool (true))) rfl rfl ?_)
                  refine L_op rfl (X_move (v := (.bool (true))) rfl ?_)
                  refine L_gy (dj := 188) rfl rfl rfl (X_fn (vs := []) en8 rfl (CT.mono (c_wakes4 _) ?_))
                  rintro vb53 w53 ⟨hvb53, hu53⟩
                  have hz53 := hu53.size
                  replace hp := hp.ext hu53
                  replace hc := hc.ext hu53
                  replace hb := hb.ext hu53
                  replace hPx := hPx.ext hu53
                  replace hPy := hPy.ext hu53
                  replace hB1 := hB1.ext hu53
                  replace hB5 := hB5.ext hu53
                  replace hB6 := hB6.ext hu53
                  replace hl := hl.ext hu53
                  replace hU := hU.trans (Ext.upd hu53)
                  replace hO := hO.ext hu53
                  replace hPg := hPg.ext hu53
                  replace hCg := hCg.ext hu53
                  replace hIg := hIg.ext hu53
                  replace hB46 := hB46.ext hu53
                  subst hvb53
                  refine L_op rfl (X_pick (t := true) (v := (.bool (true))) rfl rfl ?_)
                  refine L_op rfl (X_assign (v := (.bool (true))) rfl ?_)
                  refine L_nil ?_
                  refine T_n ?_
                  refine W_ret ?_
                  exact BQ_r (End_1 Try.results3 (v := .bool true) rfl ⟨rfl, hU.own hn0⟩)
end Go.Proofs.Ytfmgjkchhajpmaa
