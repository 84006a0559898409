/-
  The walk of VdevWaits. (Printed by wip/gen/t03o.py of this repo.)
-/
import Derived.Test.YthongcaijgfojaaWaitsLaw
import Derived.Test.YthongcaijgfojaaDiskH
import Derived.Test.YthongcaijgfojaaBack
namespace Go.Proofs.Ythongcaijgfojaa
open Go Go.SL Go.Proofs
set_option linter.unusedVariables false

theorem zc50_tab : zc50 = (tabI [] 256).map Value.bool := by rw [tabI_nil, List.map_replicate]; rfl
theorem tab_set {S : List Int} {a : Int} (h0 : 0 ≤ a) (h1 : a < 256) : ((tabI S 256).map Value.bool).toArray.setIfInBounds a.toNat (.bool true) = ((tabI (S ++ [a]) 256).map Value.bool).toArray := by
  rw [tabI_push h0 h1, List.map_set, List.setIfInBounds_toArray]
theorem tab_get {S : List Int} {a : Int} (h0 : 0 ≤ a) (h1 : a < 256) : ((tabI S 256).map Value.bool).toArray[a.toNat]? = some (.bool (decide (a ∈ S))) := by
  rw [List.getElem?_toArray, List.getElem?_map, tabI_at (by omega), show ((a.toNat : Nat) : Int) = a by omega]; rfl
theorem tab_size (S : List Int) : ((tabI S 256).map Value.bool).toArray.size = 256 := by rw [List.size_toArray, List.length_map, tabI_len]
theorem fst_in {n : Nat} {cs : List Wr} (h : InC n cs cs.length) (hn : n ≤ 256) : ∀ x ∈ fstW cs, 0 ≤ x ∧ x < (256 : Nat) := by
  intro x hx
  obtain ⟨c, hc, rfl⟩ := List.mem_map.1 hx
  obtain ⟨j, hj, rfl⟩ := List.getElem_of_mem hc
  have h1 := h j _ hj (List.getElem?_eq_getElem hj)
  omega

set_option maxRecDepth 10000 in
set_option maxHeartbeats 2000000 in
theorem c_vdevWaits (pv cv bv : Value) (ps : List Pg) (cs : List Wr) (bs : List Int) (off : Bool) (m : Int) (p : Pg) (w : World) (hp : NRd LP w 0 w.heap.size pv ps) (hc : NRd LW w 0 w.heap.size cv cs) (hb : NRd LI w 0 w.heap.size bv bs) : CT Try.prog 7 #[(.agg #[pv, cv, bv, (.bool (off))]), (.int .i64 (m)), (pageV p)] w fun v w' => v = .bool true ∧ Ext w w' := by
  obtain ⟨n0, hn0⟩ : ∃ n, n = w.heap.size := ⟨_, rfl⟩
  have hU : Upd (fun i => n0 ≤ i) w w := Upd.refl _ _
  have hpl := hp.sv.len
  have hcl := hc.sv.len
  have hbl := hb.sv.len
  rw [← hn0] at hp hc hb
  refine CT_of Try.func7 rfl rfl rfl ?_
  refine W_seq ?_
  refine W_reg ?_
  refine L_op rfl (X_box (v := (.agg #[pv, cv, bv, (.bool (off))])) (c := ([pv, cv, bv, (.bool (off))]).toArray) rfl rfl ?_)
  intro b1 w1 hn1
  have hbn1 := hn1.num; have hbs1 := hn1.size
  replace hp := hp.ext hn1.ext
  replace hc := hc.ext hn1.ext
  replace hb := hb.ext hn1.ext
  replace hU := hU.trans (Ext.upd hn1.ext)
  have hB1 := hn1.blk
  refine L_op rfl (X_box (v := (pageV p)) (c := ((p.1).map byteV).toArray) rfl rfl ?_)
  intro b2 w2 hn2
  have hbn2 := hn2.num; have hbs2 := hn2.size
  replace hp := hp.ext hn2.ext
  replace hc := hc.ext hn2.ext
  replace hb := hb.ext hn2.ext
  replace hU := hU.trans (Ext.upd hn2.ext)
  replace hB1 := hB1.ext hn2.ext
  have hB2 := hn2.blk
  refine L_op rfl (X_assign (v := (.bool (false))) rfl ?_)
  refine L_nil ?_
  refine T_n ?_
  refine W_seq ?_
  refine W_seq ?_
  refine W_reg ?_
  refine L_op rfl (X_loadA (p := (ptr b1 (0))) (xs := [pv, cv, bv, (.bool (off))]) A26 rfl hB1.atAll rfl ?_)
  refine L_op rfl (X_buildSliceL (vs := [(.agg ([pv, cv, bv, (.bool (off))]).toArray)]) (c := [pv, cv, bv, (.bool (off))]) S41 (by decide) rfl rfl (List.forall_mem_cons.2 ⟨rfl, (fun _ h => by cases h)⟩) rfl ?_)
  intro b3 w3 hn3
  have hbn3 := hn3.num; have hbs3 := hn3.size
  replace hp := hp.ext hn3.ext
  replace hc := hc.ext hn3.ext
  replace hb := hb.ext hn3.ext
  replace hU := hU.trans (Ext.upd hn3.ext)
  replace hB1 := hB1.ext hn3.ext
  replace hB2 := hB2.ext hn3.ext
  have hB3 := hn3.blk
  refine L_op rfl (X_fn (vs := [(.slice (some ⟨b3, 0, none⟩) 1 1)]) en8 rfl (CT.mono (c_great _ [⟨pv, cv, bv, ps, cs, bs, off⟩] _ (hB3.rd (o := 0) (n := 1) (c := 1) (sz := 4) (by decide) (by decide) rfl (fun j u hj => by rw [Nat.zero_add]; simpa [LD, Dk.cel] using hj)) (List.forall_mem_cons.2 ⟨⟨hp.sv, hc.sv, hb.sv⟩, (fun _ h => by cases h)⟩)) ?_))
  rintro _ _ ⟨⟨gG, rfl, hgG⟩, rfl⟩
  rcases Bool.eq_false_or_eq_true (gG) with hc4 | hc4
  · rw [hc4]
    refine L_op rfl (X_move (v := (.bool (true))) rfl ?_)
    refine L_gn (dj := 20) (t := true) rfl rfl rfl rfl ?_
    refine L_gn (dj := 20) (t := true) rfl rfl rfl rfl ?_
    refine L_gn (dj := 20) (t := true) rfl rfl rfl rfl ?_
    refine L_op rfl (X_pick (t := true) (v := (.bool (true))) rfl rfl ?_)
    refine L_op rfl (X_move (v := (.bool (true))) rfl ?_)
    refine L_gn (dj := 25) (t := true) rfl rfl rfl rfl ?_
    refine L_gn (dj := 25) (t := true) rfl rfl rfl rfl ?_
    refine L_op rfl (X_pick (t := true) (v := (.bool (true))) rfl rfl ?_)
    refine L_op rfl (X_move (v := (.bool (true))) rfl ?_)
    refine L_gn (dj := 29) (t := true) rfl rfl rfl rfl ?_
    refine L_gn (dj := 29) (t := true) rfl rfl rfl rfl ?_
    refine L_op rfl (X_pick (t := true) (v := (.bool (true))) rfl rfl ?_)
    refine L_op rfl (X_move (v := (.bool (true))) rfl ?_)
    refine L_gn (dj := 33) (t := true) rfl rfl rfl rfl ?_
    refine L_gn (dj := 33) (t := true) rfl rfl rfl rfl ?_
    refine L_gn (dj := 33) (t := true) rfl rfl rfl rfl ?_
    refine L_gn (dj := 33) (t := true) rfl rfl rfl rfl ?_
    refine L_gn (dj := 33) (t := true) rfl rfl rfl rfl ?_
    refine L_op rfl (X_pick (t := true) (v := (.bool (true))) rfl rfl ?_)
    refine L_nil ?_
    refine T_n ?_
    refine W_ct rfl ?_
    refine W_seq ?_
    refine W_reg ?_
    refine L_op rfl (X_fn (vs := []) en10 rfl (CT.mono (c_wakes _) ?_))
    rintro vb5 w5 ⟨hvb5, hu5⟩
    have hz5 := hu5.size
    replace hp := hp.ext hu5
    replace hc := hc.ext hu5
    replace hb := hb.ext hu5
    replace hU := hU.trans (Ext.upd hu5)
    replace hB1 := hB1.ext hu5
    replace hB2 := hB2.ext hu5
    subst hvb5
    refine L_op rfl (X_assign (v := (.bool (true))) rfl ?_)
    refine L_nil ?_
    refine T_n ?_
    refine W_ret ?_
    refine T_r ?_
    exact BQ_r (End_1 Try.results7 (v := .bool true) rfl ⟨rfl, hU.own hn0⟩)
  · rw [hc4]
    refine L_op rfl (X_move (v := (.bool (false))) rfl ?_)
    refine L_gy (dj := 20) rfl rfl rfl (X_loadA (p := (ptr b1 (0))) (xs := [pv, cv, bv, (.bool (off))]) A26 rfl hB1.atAll rfl ?_)
    refine L_gy (dj := 20) rfl rfl rfl (X_fn (vs := [(.agg ([pv, cv, bv, (.bool (off))]).toArray)]) en9 rfl (CT.mono (c_mayR pv cv bv ps cs bs off _ 0 n0 hp hc hb) ?_))
    rintro _ w6 ⟨⟨gM, rfl, hgM⟩, hu6⟩
    have hz6 := hu6.size
    replace hp := hp.ext hu6
    replace hc := hc.ext hu6
    replace hb := hb.ext hu6
    replace hU := hU.trans (Ext.upd hu6)
    replace hB1 := hB1.ext hu6
    replace hB2 := hB2.ext hu6
    rcases Bool.eq_false_or_eq_true (gM) with hc7 | hc7
    · rw [hc7]
      refine L_gy (dj := 20) rfl rfl rfl (X_not (b := true) (r := false) rfl rfl ?_)
      refine L_op rfl (X_pick (t := false) (v := (.bool (false))) rfl rfl ?_)
      refine L_op rfl (X_move (v := (.bool (false))) rfl ?_)
      refine L_gy (dj := 25) rfl rfl rfl (X_fldP (b := b1) (o := 0) (r := 3) Fd26_3 rfl rfl ?_)
      rcases Bool.eq_false_or_eq_true off with ho8 | ho8
      · refine L_gy (dj := 25) rfl rfl rfl (X_load (p := (ptr b1 (3))) (v := .bool true) T4 rfl (hB1.at1 (by rw [ho8]; rfl)) ?_)
        refine L_op rfl (X_pick (t := false) (v := (.bool (true))) rfl rfl ?_)
        refine L_op rfl (X_move (v := (.bool (true))) rfl ?_)
        refine L_gn (dj := 29) (t := true) rfl rfl rfl rfl ?_
        refine L_gn (dj := 29) (t := true) rfl rfl rfl rfl ?_
        refine L_op rfl (X_pick (t := true) (v := (.bool (true))) rfl rfl ?_)
        refine L_op rfl (X_move (v := (.bool (true))) rfl ?_)
        refine L_gn (dj := 33) (t := true) rfl rfl rfl rfl ?_
        refine L_gn (dj := 33) (t := true) rfl rfl rfl rfl ?_
        refine L_gn (dj := 33) (t := true) rfl rfl rfl rfl ?_
        refine L_gn (dj := 33) (t := true) rfl rfl rfl rfl ?_
        refine L_gn (dj := 33) (t := true) rfl rfl rfl rfl ?_
        refine L_op rfl (X_pick (t := true) (v := (.bool (true))) rfl rfl ?_)
        refine L_nil ?_
        refine T_n ?_
        refine W_ct rfl ?_
        refine W_seq ?_
        refine W_reg ?_
        refine L_op rfl (X_fn (vs := []) en10 rfl (CT.mono (c_wakes _) ?_))
        rintro vb9 w9 ⟨hvb9, hu9⟩
        have hz9 := hu9.size
        replace hp := hp.ext hu9
        replace hc := hc.ext hu9
        replace hb := hb.ext hu9
        replace hU := hU.trans (Ext.upd hu9)
        replace hB1 := hB1.ext hu9
        replace hB2 := hB2.ext hu9
        subst hvb9
        refine L_op rfl (X_assign (v := (.bool (true))) rfl ?_)
        refine L_nil ?_
        refine T_n ?_
        refine W_ret ?_
        refine T_r ?_
        exact BQ_r (End_1 Try.results7 (v := .bool true) rfl ⟨rfl, hU.own hn0⟩)
      · refine L_gy (dj := 25) rfl rfl rfl (X_load (p := (ptr b1 (3))) (v := .bool false) T4 rfl (hB1.at1 (by rw [ho8]; rfl)) ?_)
        refine L_op rfl (X_pick (t := false) (v := (.bool (false))) rfl rfl ?_)
        refine L_op rfl (X_move (v := (.bool (false))) rfl ?_)
        refine L_gy (dj := 29) rfl rfl rfl (X_move (v := (.int .i64 (m))) rfl ?_)
        by_cases hc10 : (m : Int) < (0)
        · refine L_gy (dj := 29) rfl rfl rfl (X_cmp (k := .i64) (a := m) (b := 0) (r := true) rfl rfl rfl (decide_eq_true (p := ((m) : Int) < ((0) : Int)) (by omega)) ?_)
          refine L_op rfl (X_pick (t := false) (v := (.bool (true))) rfl rfl ?_)
          refine L_op rfl (X_move (v := (.bool (true))) rfl ?_)
          refine L_gn (dj := 33) (t := true) rfl rfl rfl rfl ?_
          refine L_gn (dj := 33) (t := true) rfl rfl rfl rfl ?_
          refine L_gn (dj := 33) (t := true) rfl rfl rfl rfl ?_
          refine L_gn (dj := 33) (t := true) rfl rfl rfl rfl ?_
          refine L_gn (dj := 33) (t := true) rfl rfl rfl rfl ?_
          refine L_op rfl (X_pick (t := true) (v := (.bool (true))) rfl rfl ?_)
          refine L_nil ?_
          refine T_n ?_
          refine W_ct rfl ?_
          refine W_seq ?_
          refine W_reg ?_
          refine L_op rfl (X_fn (vs := []) en10 rfl (CT.mono (c_wakes _) ?_))
          rintro vb11 w11 ⟨hvb11, hu11⟩
          have hz11 := hu11.size
          replace hp := hp.ext hu11
          replace hc := hc.ext hu11
          replace hb := hb.ext hu11
          replace hU := hU.trans (Ext.upd hu11)
          replace hB1 := hB1.ext hu11
          replace hB2 := hB2.ext hu11
          subst hvb11
          refine L_op rfl (X_assign (v := (.bool (true))) rfl ?_)
          refine L_nil ?_
          refine T_n ?_
          refine W_ret ?_
          refine T_r ?_
          exact BQ_r (End_1 Try.results7 (v := .bool true) rfl ⟨rfl, hU.own hn0⟩)
        · refine L_gy (dj := 29) rfl rfl rfl (X_cmp (k := .i64) (a := m) (b := 0) (r := false) rfl rfl rfl (decide_eq_false (p := ((m) : Int) < ((0) : Int)) (by omega)) ?_)
          refine L_op rfl (X_pick (t := false) (v := (.bool (false))) rfl rfl ?_)
          refine L_op rfl (X_move (v := (.bool (false))) rfl ?_)
          refine L_gy (dj := 33) rfl rfl rfl (X_move (v := (.int .i64 (m))) rfl ?_)
          refine L_gy (dj := 33) rfl rfl rfl (X_fldP (b := b1) (o := 0) (r := 0) Fd26_0 rfl rfl ?_)
          refine L_gy (dj := 33) rfl rfl rfl (X_load (p := (ptr b1 (0))) (v := pv) T22 rfl (hB1.at1 rfl) ?_)
          refine L_gy (dj := 33) rfl rfl rfl (X_len (v := pv) (n := ps.length) Try.underlying22 rfl hp.sv ?_)
          by_cases hc12 : (m : Int) ≥ (((ps.length : Nat) : Int))
          · refine L_gy (dj := 33) rfl rfl rfl (X_cmp (k := .i64) (a := m) (b := ((ps.length : Nat) : Int)) (r := true) rfl rfl rfl (decide_eq_true (p := ((((ps.length : Nat) : Int)) : Int) ≤ ((m) : Int)) (by omega)) ?_)
            refine L_op rfl (X_pick (t := false) (v := (.bool (true))) rfl rfl ?_)
            refine L_nil ?_
            refine T_n ?_
            refine W_ct rfl ?_
            refine W_seq ?_
            refine W_reg ?_
            refine L_op rfl (X_fn (vs := []) en10 rfl (CT.mono (c_wakes _) ?_))
            rintro vb13 w13 ⟨hvb13, hu13⟩
            have hz13 := hu13.size
            replace hp := hp.ext hu13
            replace hc := hc.ext hu13
            replace hb := hb.ext hu13
            replace hU := hU.trans (Ext.upd hu13)
            replace hB1 := hB1.ext hu13
            replace hB2 := hB2.ext hu13
            subst hvb13
            refine L_op rfl (X_assign (v := (.bool (true))) rfl ?_)
            refine L_nil ?_
            refine T_n ?_
            refine W_ret ?_
            refine T_r ?_
            exact BQ_r (End_1 Try.results7 (v := .bool true) rfl ⟨rfl, hU.own hn0⟩)
          · refine L_gy (dj := 33) rfl rfl rfl (X_cmp (k := .i64) (a := m) (b := ((ps.length : Nat) : Int)) (r := false) rfl rfl rfl (decide_eq_false (p := ((((ps.length : Nat) : Int)) : Int) ≤ ((m) : Int)) (by omega)) ?_)
            refine L_op rfl (X_pick (t := false) (v := (.bool (false))) rfl rfl ?_)
            refine L_nil ?_
            refine T_n ?_
            refine W_cf rfl ?_
            refine W_skip ?_
            refine T_n ?_
            refine W_seq ?_
            have hgd := hgG hc4 _ (List.mem_singleton.2 rfl)
            have hM := hgM.1 hc7
            have hof := ho8
            replace hgd : ps.length ≤ 300 ∧ cs.length ≤ 60 ∧ bs.length ≤ 300 := hgd
            have hzm := askE_ok (n := m) hM (by omega) (by omega) hof
            have hW1 := write_ok p hzm (by omega)
            have hnp := hM.1.2.1
            have hfi := fst_in hM.2.1 hnp
            have hlen1 := cntI_len (waits_lt cs) (waits_mem cs) hfi
            have hlen2 := cntI_len (waits_lt (cs ++ [(m, p)])) (waits_mem (cs ++ [(m, p)])) (fst_in (mayD_push (p := p) hM (by omega) (by omega) hof (by omega)).2.1 hnp)
            have hcp := cntI_push (fstW cs) m.toNat 256
            rw [show ((m.toNat : Nat) : Int) = m by omega] at hcp
            have hwl : (waitsW cs).length ≤ 256 := by rw [hlen1]; exact cntI_le _ _
            rw [show fstW (cs ++ [(m, p)]) = fstW cs ++ [m] by unfold fstW; rw [List.map_append]; rfl, hcp] at hlen2
            refine W_reg ?_
            refine L_op rfl (X_loadA (p := (ptr b1 (0))) (xs := [pv, cv, bv, (.bool (off))]) A26 rfl hB1.atAll rfl ?_)
            obtain ⟨s_l, hs_l⟩ : ∃ n, n = w6.heap.size := ⟨_, rfl⟩
            refine L_op rfl (X_fn (vs := [(.agg ([pv, cv, bv, (.bool (off))]).toArray)]) en14 rfl (CT.mono (c_waits pv cv bv ps cs bs off _ 0 n0 (by omega) hp hc hb (by omega)) ?_))
            rintro v_l w14 ⟨_, hLl, rfl, hu14⟩
            have hz14 := hu14.size
            replace hp := hp.ext hu14
            replace hc := hc.ext hu14
            replace hb := hb.ext hu14
            replace hU := hU.trans (Ext.upd hu14)
            replace hB1 := hB1.ext hu14
            replace hB2 := hB2.ext hu14
            obtain ⟨u_l, hu_l⟩ : ∃ n, n = w14.heap.size := ⟨_, rfl⟩
            rw [← hs_l, ← hu_l] at hLl
            refine L_op rfl (X_assign (v := v_l) rfl ?_)
            refine L_nil ?_
            refine T_n ?_
            refine W_seq ?_
            refine W_reg ?_
            refine L_op rfl (X_alloc (z := zv50) (c := zc50.toArray) Zv50 rfl ?_)
            intro b15 w15 hn15
            have hbn15 := hn15.num; have hbs15 := hn15.size
            replace hp := hp.ext hn15.ext
            replace hc := hc.ext hn15.ext
            replace hb := hb.ext hn15.ext
            replace hU := hU.trans (Ext.upd hn15.ext)
            replace hB1 := hB1.ext hn15.ext
            replace hB2 := hB2.ext hn15.ext
            replace hLl := hLl.ext hn15.ext
            have hB15 := hn15.blk
            rw [zc50_tab] at hB15
            refine L_nil ?_
            refine T_n ?_
            refine W_seq ?_
            refine W_seq ?_
            refine W_reg ?_
            refine L_op rfl (X_assign (v := (.int .i64 (0))) rfl ?_)
            refine L_nil ?_
            refine T_n ?_
            refine W_block ?_
            refine W_loop (α := Nat) [9, 43, 44, 45, 46, 47, 48, 49, 50, 51, 52, 53, 54, 55, 56] (fun i => [(9, (.int .i64 (((i : Nat) : Int))))]) (fun i w_ => i ≤ cs.length ∧ NRd LP w_ 0 n0 pv ps ∧ NRd LW w_ 0 n0 cv cs ∧ NRd LI w_ 0 n0 bv bs ∧ NOwn LI w_ 3 5 s_l u_l v_l (waitsW cs) ∧ Blk w_ b1 #[pv, cv, bv, .bool off] 26 ∧ Blk w_ b2 (p.1.map byteV).toArray 28 ∧ Blk w_ b15 ((tabI (fstW (cs.take i)) 256).map Value.bool).toArray 50 ∧ Upd (fun i => n0 ≤ i) w w_ ∧ u_l ≤ w_.heap.size ∧ b15 < w_.heap.size ∧ u_l ≤ b15) (fun i => cs.length - i) ⟨rfl, 0, ⟨Nat.zero_le _, hp, hc, hb, hLl, hB1, hB2, hB15, hU, (by omega), (by omega), (by omega)⟩, Out.refl _ _, ⟨rfl, trivial⟩⟩ ?_
            rintro i w16 _ ⟨hil, hp, hc, hb, hLl, hB1, hB2, hB15, hU, hul_, hbT_, hulT_⟩
            have hsz_ := hU.size
            refine W_seq ?_
            refine W_seq ?_
            refine W_reg ?_
            refine L_op rfl (X_move (v := (.int .i64 (((i : Nat) : Int)))) rfl ?_)
            refine L_op rfl (X_fldP (b := b1) (o := 0) (r := 1) Fd26_1 rfl rfl ?_)
            refine L_op rfl (X_load (p := (ptr b1 (1))) (v := cv) T23 rfl (hB1.at1 rfl) ?_)
            refine L_op rfl (X_len (v := cv) (n := cs.length) Try.underlying23 rfl hc.sv ?_)
            by_cases hc17 : (((i : Nat) : Int) : Int) < (((cs.length : Nat) : Int))
            · refine L_op rfl (X_cmp (k := .i64) (a := ((i : Nat) : Int)) (b := ((cs.length : Nat) : Int)) (r := true) rfl rfl rfl (decide_eq_true (p := ((((i : Nat) : Int)) : Int) < ((((cs.length : Nat) : Int)) : Int)) (by omega)) ?_)
              have hi : i < cs.length := by omega
              obtain ⟨e, hei⟩ : ∃ e, cs[i]? = some e := ⟨_, List.getElem?_eq_getElem hi⟩
              have hin := hM.2.1 i e hi hei
              refine L_nil ?_
              refine T_n ?_
              refine W_ct rfl ?_
              refine W_skip ?_
              refine T_n ?_
              refine W_seq ?_
              refine W_block ?_
              refine W_reg ?_
              refine L_op rfl (X_fldP (b := b1) (o := 0) (r := 1) Fd26_1 rfl rfl ?_)
              refine L_op rfl (X_load (p := (ptr b1 (1))) (v := cv) T23 rfl (hB1.at1 rfl) ?_)
              refine L_op rfl (X_move (v := (.int .i64 (((i : Nat) : Int)))) rfl ?_)
              refine L_op rfl (X_idx (v := cv) (n := cs.length) (k := .i64) (i := ((i : Nat) : Int)) S23 rfl hc.sv rfl (by omega) (by omega) ?_)
              refine L_op rfl (X_fldS (v := cv) (o := (((i : Nat) : Int) : Int).toNat * 257) Fd43_0 rfl hc.sv (by omega) ?_)
              refine L_op rfl (X_load (v := .int .i64 e.1) T3 rfl (wat hc (Int.toNat_natCast _) hei) ?_)
              refine L_op rfl (X_idxAP (len := 256) (sz := 1) (b := b15) (o := 0) (k := .i64) (i := e.1) (r := (e.1 : Int).toNat) Try.underlying50 Z4 rfl rfl (by omega) (by omega) (by omega) ?_)
              refine L_op0 (X_store (b := b15) (o := e.1.toNat) T4 rfl rfl rfl hB15 (by rw [tab_size]; omega) ?_)
              intro w5 hu5 hb5
              have hz5 := hu5.size
              replace hb5 : Blk w5 b15 (((tabI (fstW (cs.take i)) 256).map Value.bool).toArray.setIfInBounds e.1.toNat (.bool true)) 50 := hb5
              rw [tab_set (by omega) (by omega), ← fstW_step hei] at hb5
              replace hp := hp.upd hu5 fun i h1 h2 h => by have h : i = b15 := h; omega
              replace hc := hc.upd hu5 fun i h1 h2 h => by have h : i = b15 := h; omega
              replace hb := hb.upd hu5 fun i h1 h2 h => by have h : i = b15 := h; omega
              replace hLl := hLl.upd hu5 fun i h1 h2 h => by have h : i = b15 := h; omega
              replace hB1 := hB1.upd hu5 fun h => by have h : b1 = b15 := h; omega
              replace hB2 := hB2.upd hu5 fun h => by have h : b2 = b15 := h; omega
              replace hU := hU.trans (hu5.mono fun i _ h => by have h : i = b15 := h; show n0 ≤ i; omega)
              replace hB15 := hb5
              refine L_nil ?_
              refine B_n ?_
              refine T_n ?_
              refine W_reg ?_
              refine L_op rfl (X_move (v := (.int .i64 (((i : Nat) : Int)))) rfl ?_)
              refine L_op rfl (X_arith (k := .i64) (a := ((i : Nat) : Int)) (b := 1) (r := ((i + 1 : Nat) : Int)) rfl rfl rfl (iadd64 (by omega) (by omega) (by omega)) ?_)
              refine L_op rfl (X_assign (v := (.int .i64 (((i + 1 : Nat) : Int)))) rfl ?_)
              refine L_nil ?_
              refine T_n ?_
              exact ⟨rfl, i + 1, ⟨⟨hi, hp, hc, hb, hLl, hB1, hB2, hB15, hU, (by omega), (by omega), (by omega)⟩, (by show cs.length - (i + 1) < cs.length - i; omega)⟩, (Out.mk rfl), ⟨rfl, trivial⟩⟩
            · refine L_op rfl (X_cmp (k := .i64) (a := ((i : Nat) : Int)) (b := ((cs.length : Nat) : Int)) (r := false) rfl rfl rfl (decide_eq_false (p := ((((i : Nat) : Int)) : Int) < ((((cs.length : Nat) : Int)) : Int)) (by omega)) ?_)
              obtain rfl : i = cs.length := by omega
              rw [List.take_length] at hB15
              refine L_nil ?_
              refine T_n ?_
              refine W_cf rfl ?_
              refine W_exit ?_
              refine T_e ?_
              refine T_e ?_
              refine B_x ?_
              refine T_n ?_
              refine W_seq ?_
              refine W_reg ?_
              refine L_op rfl (X_assign (v := (.int .i64 (0))) rfl ?_)
              refine L_nil ?_
              refine T_n ?_
              refine W_seq ?_
              refine W_seq ?_
              refine W_reg ?_
              refine L_op rfl (X_assign (v := (.int .i64 (0))) rfl ?_)
              refine L_nil ?_
              refine T_n ?_
              refine W_block ?_
              refine W_loop (α := Nat × Nat) [10, 11, 57, 58, 59, 60, 61, 62, 63, 64, 65] (fun ⟨i, n⟩ => [(11, (.int .i64 (((i : Nat) : Int)))), (10, (.int .i64 (((n : Nat) : Int))))]) (fun ⟨i, n⟩ w_ => w16 = w_ ∧ i ≤ 256 ∧ n = cntI (fstW cs) i) (fun ⟨i, n⟩ => 256 - i) ⟨rfl, (0, 0), ⟨rfl, Nat.zero_le _, rfl⟩, Out.refl _ _, ⟨rfl, rfl, trivial⟩⟩ ?_
              rintro ⟨i, n⟩ w18 _ ⟨rfl, hil, hn⟩
              refine W_seq ?_
              refine W_seq ?_
              refine W_reg ?_
              refine L_op rfl (X_move (v := (.int .i64 (((i : Nat) : Int)))) rfl ?_)
              by_cases hc19 : (((i : Nat) : Int) : Int) < (256)
              · refine L_op rfl (X_cmp (k := .i64) (a := ((i : Nat) : Int)) (b := 256) (r := true) rfl rfl rfl (decide_eq_true (p := ((((i : Nat) : Int)) : Int) < ((256) : Int)) (by omega)) ?_)
                have hi : i < 256 := by omega
                have hnl := cntI_le (fstW cs) i
                refine L_nil ?_
                refine T_n ?_
                refine W_ct rfl ?_
                refine W_skip ?_
                refine T_n ?_
                refine W_seq ?_
                refine W_block ?_
                refine W_seq ?_
                refine W_reg ?_
                refine L_op rfl (X_move (v := (.int .i64 (((i : Nat) : Int)))) rfl ?_)
                refine L_op rfl (X_idxAP (len := 256) (sz := 1) (b := b15) (o := 0) (k := .i64) (i := ((i : Nat) : Int)) (r := (((i : Nat) : Int) : Int).toNat) Try.underlying50 Z4 rfl rfl (by omega) (by omega) (by omega) ?_)
                refine L_op rfl (X_load (p := (ptr b15 ((((i : Nat) : Int) : Int).toNat))) (v := .bool (decide (((i : Nat) : Int) ∈ fstW cs))) T4 rfl (hB15.at1 (by rw [show (((i : Nat) : Int) : Int).toNat = (((i : Nat) : Int) : Int).toNat by omega]; exact tab_get (by omega) (by omega))) ?_)
                refine L_nil ?_
                refine T_n ?_
                refine W_cb (t := decide (((i : Nat) : Int) ∈ fstW cs)) rfl (fun hq20 => ?_) (fun hq20 => ?_)
                · refine W_reg ?_
                  refine L_op rfl (X_move (v := (.int .i64 (((n : Nat) : Int)))) rfl ?_)
                  refine L_op rfl (X_arith (k := .i64) (a := ((n : Nat) : Int)) (b := 1) (r := ((n + 1 : Nat) : Int)) rfl rfl rfl (iadd64 (by omega) (by omega) (by omega)) ?_)
                  refine L_op rfl (X_assign (v := (.int .i64 (((n + 1 : Nat) : Int)))) rfl ?_)
                  refine L_nil ?_
                  refine B_n ?_
                  refine T_n ?_
                  refine W_reg ?_
                  refine L_op rfl (X_move (v := (.int .i64 (((i : Nat) : Int)))) rfl ?_)
                  refine L_op rfl (X_arith (k := .i64) (a := ((i : Nat) : Int)) (b := 1) (r := ((i + 1 : Nat) : Int)) rfl rfl rfl (iadd64 (by omega) (by omega) (by omega)) ?_)
                  refine L_op rfl (X_assign (v := (.int .i64 (((i + 1 : Nat) : Int)))) rfl ?_)
                  refine L_nil ?_
                  refine T_n ?_
                  exact ⟨rfl, (i + 1, n + 1), ⟨⟨rfl, hi, by rw [cntI_step, hn, if_pos (of_decide_eq_true hq20)]⟩, (by show 256 - (i + 1) < 256 - i; omega)⟩, (Out.mk rfl), ⟨rfl, rfl, trivial⟩⟩
                · refine W_skip ?_
                  refine B_n ?_
                  refine T_n ?_
                  refine W_reg ?_
                  refine L_op rfl (X_move (v := (.int .i64 (((i : Nat) : Int)))) rfl ?_)
                  refine L_op rfl (X_arith (k := .i64) (a := ((i : Nat) : Int)) (b := 1) (r := ((i + 1 : Nat) : Int)) rfl rfl rfl (iadd64 (by omega) (by omega) (by omega)) ?_)
                  refine L_op rfl (X_assign (v := (.int .i64 (((i + 1 : Nat) : Int)))) rfl ?_)
                  refine L_nil ?_
                  refine T_n ?_
                  exact ⟨rfl, (i + 1, n), ⟨⟨rfl, hi, by rw [cntI_step, hn, if_neg (of_decide_eq_false hq20)]; rfl⟩, (by show 256 - (i + 1) < 256 - i; omega)⟩, (Out.mk rfl), ⟨rfl, rfl, trivial⟩⟩
              · refine L_op rfl (X_cmp (k := .i64) (a := ((i : Nat) : Int)) (b := 256) (r := false) rfl rfl rfl (decide_eq_false (p := ((((i : Nat) : Int)) : Int) < ((256) : Int)) (by omega)) ?_)
                obtain rfl : i = 256 := by omega
                refine L_nil ?_
                refine T_n ?_
                refine W_cf rfl ?_
                refine W_exit ?_
                refine T_e ?_
                refine T_e ?_
                refine B_x ?_
                refine T_n ?_
                refine W_seq ?_
                refine W_seq ?_
                refine W_reg ?_
                refine L_op rfl (X_assign (v := (.int .i64 (0))) rfl ?_)
                refine L_nil ?_
                refine T_n ?_
                refine W_block ?_
                refine W_loop (α := Nat) [6, 12, 66, 67, 68, 69, 70, 71, 72, 73, 74, 75, 76, 77, 78, 79, 80, 81, 82, 83, 84, 85, 86, 87, 88, 89, 90, 91, 92, 93, 94, 95, 96, 97, 98, 99, 100, 101, 102, 103, 104, 105, 106, 107, 108] (fun i => [(12, (.int .i64 (((i : Nat) : Int))))]) (fun i w_ => i ≤ (waitsW cs).length ∧ NRd LP w_ 0 n0 pv ps ∧ NRd LW w_ 0 n0 cv cs ∧ NRd LI w_ 0 n0 bv bs ∧ NOwn LI w_ 3 5 s_l u_l v_l (waitsW cs) ∧ Blk w_ b1 #[pv, cv, bv, .bool off] 26 ∧ Blk w_ b2 (p.1.map byteV).toArray 28 ∧ Blk w_ b15 ((tabI (fstW cs) 256).map Value.bool).toArray 50 ∧ Upd (fun i => n0 ≤ i) w w_ ∧ u_l ≤ w_.heap.size ∧ b15 < w_.heap.size ∧ u_l ≤ b15) (fun i => (waitsW cs).length - i) ⟨rfl, 0, ⟨Nat.zero_le _, hp, hc, hb, hLl, hB1, hB2, hB15, hU, (by omega), (by omega), (by omega)⟩, Out.refl _ _, ⟨rfl, trivial⟩⟩ ?_
                rintro i w21 _ ⟨hil, hp, hc, hb, hLl, hB1, hB2, hB15, hU, hul_, hbT_, hulT_⟩
                have hsz_ := hU.size
                refine W_seq ?_
                refine W_seq ?_
                refine W_reg ?_
                refine L_op rfl (X_move (v := (.int .i64 (((i : Nat) : Int)))) rfl ?_)
                refine L_op rfl (X_move (v := v_l) rfl ?_)
                refine L_op rfl (X_len (v := v_l) (n := (waitsW cs).length) Try.underlying24 rfl hLl.1.sv ?_)
                by_cases hc22 : (((i : Nat) : Int) : Int) < ((((waitsW cs).length : Nat) : Int))
                · refine L_op rfl (X_cmp (k := .i64) (a := ((i : Nat) : Int)) (b := (((waitsW cs).length : Nat) : Int)) (r := true) rfl rfl rfl (decide_eq_true (p := ((((i : Nat) : Int)) : Int) < (((((waitsW cs).length : Nat) : Int)) : Int)) (by omega)) ?_)
                  have hi : i < (waitsW cs).length := by omega
                  obtain ⟨a, hai⟩ : ∃ a, (waitsW cs)[i]? = some a := ⟨_, List.getElem?_eq_getElem hi⟩
                  have haS := (waits_mem cs a).1 (List.mem_of_getElem? hai)
                  have ha2 := hfi a haS
                  refine L_nil ?_
                  refine T_n ?_
                  refine W_ct rfl ?_
                  refine W_skip ?_
                  refine T_n ?_
                  refine W_seq ?_
                  refine W_block ?_
                  refine W_seq ?_
                  rcases Bool.eq_false_or_eq_true (decide (0 < i)) with hs23 | hs23
                  · have hi0 := of_decide_eq_true hs23
                    obtain ⟨a0, ha0⟩ : ∃ a, (waitsW cs)[i - 1]? = some a := ⟨_, List.getElem?_eq_getElem (by omega)⟩
                    have haa : a0 < a := by have h1 := (List.pairwise_iff_getElem.1 (waits_lt cs)) (i - 1) i (by omega) hi (by omega); rwa [(List.getElem?_eq_some_iff.1 hai).2, (List.getElem?_eq_some_iff.1 ha0).2] at h1
                    refine W_draw 34 [[], [], [0, 1], [0, 1, 2], [0, 1, 2, 3], [0, 1, 2, 3, 4], [0, 1, 2, 3, 4, 5], [0, 1, 2, 3, 4, 5], [0, 1, 2, 3, 4, 5, 6, 7], [0, 1, 2, 3, 4, 5, 6, 7, 8], [0, 1, 2, 3, 4, 5, 6, 7, 8, 9], [0, 1, 2, 3, 4, 5, 6, 7, 8, 9, 10], [0, 1, 2, 3, 4, 5, 6, 7, 8, 9, 10, 11], [0, 1, 2, 3, 4, 5, 6, 7, 8, 9, 10, 11, 12], [0, 1, 2, 3, 4, 5, 6, 7, 8, 9, 10, 11, 12], [0, 1, 2, 3, 4, 5, 6, 7, 8, 9, 10, 11, 12, 13, 14], [0, 1, 2, 3, 4, 5, 6, 7, 8, 9, 10, 11, 12, 13, 14, 15], [0, 1, 2, 3, 4, 5, 6, 7, 8, 9, 10, 11, 12, 13, 14, 15, 16], [0, 1, 2, 3, 4, 5, 6, 7, 8, 9, 10, 11, 12, 13, 14, 15, 16, 17], [0, 1, 2, 3, 4, 5, 6, 7, 8, 9, 10, 11, 12, 13, 14, 15, 16, 17, 18], [0, 1, 2, 3, 4, 5, 6, 7, 8, 9, 10, 11, 12, 13, 14, 15, 16, 17, 18, 19], [0, 1, 2, 3, 4, 5, 6, 7, 8, 9, 10, 11, 12, 13, 14, 15, 16, 17, 18, 19, 20], [0, 1, 2, 3, 4, 5, 6, 7, 8, 9, 10, 11, 12, 13, 14, 15, 16, 17, 18, 19, 20, 21], [0, 1, 2, 3, 4, 5, 6, 7, 8, 9, 10, 11, 12, 13, 14, 15, 16, 17, 18, 19, 20, 21, 22], [0, 1, 2, 3, 4, 5, 6, 7, 8, 9, 10, 11, 12, 13, 14, 15, 16, 17, 18, 19, 20, 21, 22, 23], [0, 1, 2, 3, 4, 5, 6, 7, 8, 9, 10, 11, 12, 13, 14, 15, 16, 17, 18, 19, 20, 21, 22, 23, 24], [0, 1, 2, 3, 4, 5, 6, 7, 8, 9, 10, 11, 12, 13, 14, 15, 16, 17, 18, 19, 20, 21, 22, 23, 24], [0, 1, 2, 3, 4, 5, 6, 7, 8, 9, 10, 11, 12, 13, 14, 15, 16, 17, 18, 19, 20, 21, 22, 23, 24, 26], [0, 1, 2, 3, 4, 5, 6, 7, 8, 9, 10, 11, 12, 13, 14, 15, 16, 17, 18, 19, 20, 21, 22, 23, 24, 25, 26, 27], [0, 1, 2, 3, 4, 5, 6, 7, 8, 9, 10, 11, 12, 13, 14, 15, 16, 17, 18, 19, 20, 21, 22, 23, 24, 25, 26, 27, 28], [0, 1, 2, 3, 4, 5, 6, 7, 8, 9, 10, 11, 12, 13, 14, 15, 16, 17, 18, 19, 20, 21, 22, 23, 24], [0, 1, 2, 3, 4, 5, 6, 7, 8, 9, 10, 11, 12, 13, 14, 15, 16, 17, 18, 19, 20, 21, 22, 23, 24], [0, 1, 2, 3, 4, 5, 6, 7, 8, 9, 10, 11, 12, 13, 14, 15, 16, 17, 18, 19, 20, 21, 22, 23, 24, 30, 31], [0, 1, 2, 3, 4, 5, 6, 7, 8, 9, 10, 11, 12, 13, 14, 15, 16, 17, 18, 19, 20, 21, 22, 23, 24, 30, 31, 32], [0, 1, 2, 3, 4, 5, 6, 7, 8, 9, 10, 11, 12, 13, 14, 15, 16, 17, 18, 19, 20, 21, 22, 23, 24, 25, 26, 27, 28, 29, 30, 31, 32, 33], [0, 1, 2, 3, 4, 5, 6, 7, 8, 9, 10, 11, 12, 13, 14, 15, 16, 17, 18, 19, 20, 21, 22, 23, 24, 25, 26, 27, 28, 29, 30, 31, 32, 33, 34], [0, 1, 2, 3, 4, 5, 6, 7, 8, 9, 10, 11, 12, 13, 14, 15, 16, 17, 18, 19, 20, 21, 22, 23, 24, 25, 26, 27, 28, 29, 30, 31, 32, 33, 34, 35]] mixed (by kernel_rfl) ?_
                    refine ⟨.det (fun val => v_l), ⟨fun _ _ hv => rfl, fun _ _ _ _ _ => trivial⟩, fun val h_ W hx he => ⟨trivial, ?_⟩, ?_⟩
                    · replace hx := (Upd.drew _ _).trans hx
                      replace hp := hp.ext hx
                      replace hc := hc.ext hx
                      replace hb := hb.ext hx
                      replace hLl := hLl.ext hx
                      replace hB1 := hB1.ext hx
                      replace hB2 := hB2.ext hx
                      replace hB15 := hB15.ext hx
                      have hE := Upd.refl (fun _ => False) W
                      refine id (X_move (v := v_l) rfl ?_)
                      exact ⟨hE, rfl⟩
                    refine ⟨.det (fun val => (.int .i64 (((i : Nat) : Int)))), ⟨fun _ _ hv => rfl, fun _ _ _ _ _ => trivial⟩, fun val h_ W hx he => ⟨trivial, ?_⟩, ?_⟩
                    · replace hx := (Upd.drew _ _).trans hx
                      replace hp := hp.ext hx
                      replace hc := hc.ext hx
                      replace hb := hb.ext hx
                      replace hLl := hLl.ext hx
                      replace hB1 := hB1.ext hx
                      replace hB2 := hB2.ext hx
                      replace hB15 := hB15.ext hx
                      have hE := Upd.refl (fun _ => False) W
                      refine id (X_move (v := (.int .i64 (((i : Nat) : Int)))) rfl ?_)
                      exact ⟨hE, rfl⟩
                    refine ⟨.det (fun val => (pof v_l ((((i : Nat) : Int)).toNat * 1))), ⟨fun _ _ hv => rfl, fun _ _ _ _ _ => trivial⟩, fun val h_ W hx he => ⟨trivial, ?_⟩, ?_⟩
                    · replace hx := (Upd.drew _ _).trans hx
                      replace hp := hp.ext hx
                      replace hc := hc.ext hx
                      replace hb := hb.ext hx
                      replace hLl := hLl.ext hx
                      replace hB1 := hB1.ext hx
                      replace hB2 := hB2.ext hx
                      replace hB15 := hB15.ext hx
                      have hE := Upd.refl (fun _ => False) W
                      refine id (X_idx (v := v_l) (n := (waitsW cs).length) (k := .i64) (i := ((i : Nat) : Int)) S24 rfl hLl.1.sv rfl (by omega) (by omega) ?_)
                      exact ⟨hE, rfl⟩
                    refine ⟨.det (fun val => (.int .i64 (a))), ⟨fun _ _ hv => rfl, fun _ _ _ _ _ => trivial⟩, fun val h_ W hx he => ⟨trivial, ?_⟩, ?_⟩
                    · replace hx := (Upd.drew _ _).trans hx
                      replace hp := hp.ext hx
                      replace hc := hc.ext hx
                      replace hb := hb.ext hx
                      replace hLl := hLl.ext hx
                      replace hB1 := hB1.ext hx
                      replace hB2 := hB2.ext hx
                      replace hB15 := hB15.ext hx
                      have hE := Upd.refl (fun _ => False) W
                      refine id (X_load (v := .int .i64 a) T3 rfl (iat hLl.rd (Int.toNat_natCast _) hai) ?_)
                      exact ⟨hE, rfl⟩
                    refine ⟨.det (fun val => (.bool (false))), ⟨fun _ _ hv => rfl, fun _ _ _ _ _ => trivial⟩, fun val h_ W hx he => ⟨trivial, ?_⟩, ?_⟩
                    · replace hx := (Upd.drew _ _).trans hx
                      replace hp := hp.ext hx
                      replace hc := hc.ext hx
                      replace hb := hb.ext hx
                      replace hLl := hLl.ext hx
                      replace hB1 := hB1.ext hx
                      replace hB2 := hB2.ext hx
                      replace hB15 := hB15.ext hx
                      have hE := Upd.refl (fun _ => False) W
                      refine id (X_cmp (k := .i64) (a := a) (b := 0) (r := false) rfl rfl rfl (decide_eq_false (p := ((a) : Int) < ((0) : Int)) (by omega)) ?_)
                      exact ⟨hE, rfl⟩
                    refine ⟨.det (fun val => (.bool (false))), ⟨fun _ _ hv => rfl, fun _ _ _ _ _ => trivial⟩, fun val h_ W hx he => ⟨trivial, ?_⟩, ?_⟩
                    · replace hx := (Upd.drew _ _).trans hx
                      replace hp := hp.ext hx
                      replace hc := hc.ext hx
                      replace hb := hb.ext hx
                      replace hLl := hLl.ext hx
                      replace hB1 := hB1.ext hx
                      replace hB2 := hB2.ext hx
                      replace hB15 := hB15.ext hx
                      have hE := Upd.refl (fun _ => False) W
                      refine id (X_move (v := (.bool (false))) rfl ?_)
                      exact ⟨hE, rfl⟩
                    refine ⟨.det (fun val => v_l), ⟨fun _ _ hv => rfl, fun _ _ _ _ _ => trivial⟩, fun val h_ W hx he => ⟨⟨77, rfl, rfl⟩, ?_⟩, ?_⟩
                    · replace hx := (Upd.drew _ _).trans hx
                      replace hp := hp.ext hx
                      replace hc := hc.ext hx
                      replace hb := hb.ext hx
                      replace hLl := hLl.ext hx
                      replace hB1 := hB1.ext hx
                      replace hB2 := hB2.ext hx
                      replace hB15 := hB15.ext hx
                      have hE := Upd.refl (fun _ => False) W
                      refine id (X_move (v := v_l) rfl ?_)
                      exact ⟨hE, rfl⟩
                    refine ⟨.det (fun val => (.int .i64 (((i : Nat) : Int)))), ⟨fun _ _ hv => rfl, fun _ _ _ _ _ => trivial⟩, fun val h_ W hx he => ⟨⟨77, rfl, rfl⟩, ?_⟩, ?_⟩
                    · replace hx := (Upd.drew _ _).trans hx
                      replace hp := hp.ext hx
                      replace hc := hc.ext hx
                      replace hb := hb.ext hx
                      replace hLl := hLl.ext hx
                      replace hB1 := hB1.ext hx
                      replace hB2 := hB2.ext hx
                      replace hB15 := hB15.ext hx
                      have hE := Upd.refl (fun _ => False) W
                      refine id (X_move (v := (.int .i64 (((i : Nat) : Int)))) rfl ?_)
                      exact ⟨hE, rfl⟩
                    refine ⟨.det (fun val => (pof v_l ((((i : Nat) : Int)).toNat * 1))), ⟨fun _ _ hv => rfl, fun _ _ _ _ _ => trivial⟩, fun val h_ W hx he => ⟨⟨77, rfl, rfl⟩, ?_⟩, ?_⟩
                    · replace hx := (Upd.drew _ _).trans hx
                      replace hp := hp.ext hx
                      replace hc := hc.ext hx
                      replace hb := hb.ext hx
                      replace hLl := hLl.ext hx
                      replace hB1 := hB1.ext hx
                      replace hB2 := hB2.ext hx
                      replace hB15 := hB15.ext hx
                      have hE := Upd.refl (fun _ => False) W
                      refine id (X_idx (v := v_l) (n := (waitsW cs).length) (k := .i64) (i := ((i : Nat) : Int)) S24 rfl hLl.1.sv rfl (by omega) (by omega) ?_)
                      exact ⟨hE, rfl⟩
                    refine ⟨.det (fun val => (.int .i64 (a))), ⟨fun _ _ hv => rfl, fun _ _ _ _ _ => trivial⟩, fun val h_ W hx he => ⟨⟨77, rfl, rfl⟩, ?_⟩, ?_⟩
                    · replace hx := (Upd.drew _ _).trans hx
                      replace hp := hp.ext hx
                      replace hc := hc.ext hx
                      replace hb := hb.ext hx
                      replace hLl := hLl.ext hx
                      replace hB1 := hB1.ext hx
                      replace hB2 := hB2.ext hx
                      replace hB15 := hB15.ext hx
                      have hE := Upd.refl (fun _ => False) W
                      refine id (X_load (v := .int .i64 a) T3 rfl (iat hLl.rd (Int.toNat_natCast _) hai) ?_)
                      exact ⟨hE, rfl⟩
                    refine ⟨.det (fun val => (.bool (false))), ⟨fun _ _ hv => rfl, fun _ _ _ _ _ => trivial⟩, fun val h_ W hx he => ⟨⟨77, rfl, rfl⟩, ?_⟩, ?_⟩
                    · replace hx := (Upd.drew _ _).trans hx
                      replace hp := hp.ext hx
                      replace hc := hc.ext hx
                      replace hb := hb.ext hx
                      replace hLl := hLl.ext hx
                      replace hB1 := hB1.ext hx
                      replace hB2 := hB2.ext hx
                      replace hB15 := hB15.ext hx
                      have hE := Upd.refl (fun _ => False) W
                      refine id (X_cmp (k := .i64) (a := a) (b := 256) (r := false) rfl rfl rfl (decide_eq_false (p := ((256) : Int) ≤ ((a) : Int)) (by omega)) ?_)
                      exact ⟨hE, rfl⟩
                    refine ⟨.det (fun val => (.bool (false))), ⟨fun _ _ hv => rfl, fun _ _ _ _ _ => trivial⟩, fun val h_ W hx he => ⟨trivial, ?_⟩, ?_⟩
                    · replace hx := (Upd.drew _ _).trans hx
                      replace hp := hp.ext hx
                      replace hc := hc.ext hx
                      replace hb := hb.ext hx
                      replace hLl := hLl.ext hx
                      replace hB1 := hB1.ext hx
                      replace hB2 := hB2.ext hx
                      replace hB15 := hB15.ext hx
                      have hE := Upd.refl (fun _ => False) W
                      refine id (X_pick (t := false) (v := (.bool (false))) rfl rfl ?_)
                      exact ⟨hE, rfl⟩
                    refine ⟨.det (fun val => (.bool (false))), ⟨fun _ _ hv => rfl, fun _ _ _ _ _ => trivial⟩, fun val h_ W hx he => ⟨trivial, ?_⟩, ?_⟩
                    · replace hx := (Upd.drew _ _).trans hx
                      replace hp := hp.ext hx
                      replace hc := hc.ext hx
                      replace hb := hb.ext hx
                      replace hLl := hLl.ext hx
                      replace hB1 := hB1.ext hx
                      replace hB2 := hB2.ext hx
                      replace hB15 := hB15.ext hx
                      have hE := Upd.refl (fun _ => False) W
                      refine id (X_move (v := (.bool (false))) rfl ?_)
                      exact ⟨hE, rfl⟩
                    refine ⟨.det (fun val => v_l), ⟨fun _ _ hv => rfl, fun _ _ _ _ _ => trivial⟩, fun val h_ W hx he => ⟨⟨84, rfl, rfl⟩, ?_⟩, ?_⟩
                    · replace hx := (Upd.drew _ _).trans hx
                      replace hp := hp.ext hx
                      replace hc := hc.ext hx
                      replace hb := hb.ext hx
                      replace hLl := hLl.ext hx
                      replace hB1 := hB1.ext hx
                      replace hB2 := hB2.ext hx
                      replace hB15 := hB15.ext hx
                      have hE := Upd.refl (fun _ => False) W
                      refine id (X_move (v := v_l) rfl ?_)
                      exact ⟨hE, rfl⟩
                    refine ⟨.det (fun val => (.int .i64 (((i : Nat) : Int)))), ⟨fun _ _ hv => rfl, fun _ _ _ _ _ => trivial⟩, fun val h_ W hx he => ⟨⟨84, rfl, rfl⟩, ?_⟩, ?_⟩
                    · replace hx := (Upd.drew _ _).trans hx
                      replace hp := hp.ext hx
                      replace hc := hc.ext hx
                      replace hb := hb.ext hx
                      replace hLl := hLl.ext hx
                      replace hB1 := hB1.ext hx
                      replace hB2 := hB2.ext hx
                      replace hB15 := hB15.ext hx
                      have hE := Upd.refl (fun _ => False) W
                      refine id (X_move (v := (.int .i64 (((i : Nat) : Int)))) rfl ?_)
                      exact ⟨hE, rfl⟩
                    refine ⟨.det (fun val => (pof v_l ((((i : Nat) : Int)).toNat * 1))), ⟨fun _ _ hv => rfl, fun _ _ _ _ _ => trivial⟩, fun val h_ W hx he => ⟨⟨84, rfl, rfl⟩, ?_⟩, ?_⟩
                    · replace hx := (Upd.drew _ _).trans hx
                      replace hp := hp.ext hx
                      replace hc := hc.ext hx
                      replace hb := hb.ext hx
                      replace hLl := hLl.ext hx
                      replace hB1 := hB1.ext hx
                      replace hB2 := hB2.ext hx
                      replace hB15 := hB15.ext hx
                      have hE := Upd.refl (fun _ => False) W
                      refine id (X_idx (v := v_l) (n := (waitsW cs).length) (k := .i64) (i := ((i : Nat) : Int)) S24 rfl hLl.1.sv rfl (by omega) (by omega) ?_)
                      exact ⟨hE, rfl⟩
                    refine ⟨.det (fun val => (.int .i64 (a))), ⟨fun _ _ hv => rfl, fun _ _ _ _ _ => trivial⟩, fun val h_ W hx he => ⟨⟨84, rfl, rfl⟩, ?_⟩, ?_⟩
                    · replace hx := (Upd.drew _ _).trans hx
                      replace hp := hp.ext hx
                      replace hc := hc.ext hx
                      replace hb := hb.ext hx
                      replace hLl := hLl.ext hx
                      replace hB1 := hB1.ext hx
                      replace hB2 := hB2.ext hx
                      replace hB15 := hB15.ext hx
                      have hE := Upd.refl (fun _ => False) W
                      refine id (X_load (v := .int .i64 a) T3 rfl (iat hLl.rd (Int.toNat_natCast _) hai) ?_)
                      exact ⟨hE, rfl⟩
                    refine ⟨.det (fun val => (ptr b15 ((a : Int).toNat))), ⟨fun _ _ hv => rfl, fun _ _ _ _ _ => trivial⟩, fun val h_ W hx he => ⟨⟨84, rfl, rfl⟩, ?_⟩, ?_⟩
                    · replace hx := (Upd.drew _ _).trans hx
                      replace hp := hp.ext hx
                      replace hc := hc.ext hx
                      replace hb := hb.ext hx
                      replace hLl := hLl.ext hx
                      replace hB1 := hB1.ext hx
                      replace hB2 := hB2.ext hx
                      replace hB15 := hB15.ext hx
                      have hE := Upd.refl (fun _ => False) W
                      refine id (X_idxAP (len := 256) (sz := 1) (b := b15) (o := 0) (k := .i64) (i := a) (r := (a : Int).toNat) Try.underlying50 Z4 rfl rfl (by omega) (by omega) (by omega) ?_)
                      exact ⟨hE, rfl⟩
                    refine ⟨.det (fun val => (.bool (true))), ⟨fun _ _ hv => rfl, fun _ _ _ _ _ => trivial⟩, fun val h_ W hx he => ⟨⟨84, rfl, rfl⟩, ?_⟩, ?_⟩
                    · replace hx := (Upd.drew _ _).trans hx
                      replace hp := hp.ext hx
                      replace hc := hc.ext hx
                      replace hb := hb.ext hx
                      replace hLl := hLl.ext hx
                      replace hB1 := hB1.ext hx
                      replace hB2 := hB2.ext hx
                      replace hB15 := hB15.ext hx
                      have hE := Upd.refl (fun _ => False) W
                      refine id (X_load (p := (ptr b15 ((a : Int).toNat))) (v := .bool true) T4 rfl (hB15.at1 (by rw [show (a : Int).toNat = (a : Int).toNat by omega, tab_get (by omega) (by omega), decide_eq_true haS])) ?_)
                      exact ⟨hE, rfl⟩
                    refine ⟨.det (fun val => (.bool (false))), ⟨fun _ _ hv => rfl, fun _ _ _ _ _ => trivial⟩, fun val h_ W hx he => ⟨⟨84, rfl, rfl⟩, ?_⟩, ?_⟩
                    · replace hx := (Upd.drew _ _).trans hx
                      replace hp := hp.ext hx
                      replace hc := hc.ext hx
                      replace hb := hb.ext hx
                      replace hLl := hLl.ext hx
                      replace hB1 := hB1.ext hx
                      replace hB2 := hB2.ext hx
                      replace hB15 := hB15.ext hx
                      have hE := Upd.refl (fun _ => False) W
                      refine id (X_not (b := true) (r := false) rfl rfl ?_)
                      exact ⟨hE, rfl⟩
                    refine ⟨.det (fun val => (.bool (false))), ⟨fun _ _ hv => rfl, fun _ _ _ _ _ => trivial⟩, fun val h_ W hx he => ⟨trivial, ?_⟩, ?_⟩
                    · replace hx := (Upd.drew _ _).trans hx
                      replace hp := hp.ext hx
                      replace hc := hc.ext hx
                      replace hb := hb.ext hx
                      replace hLl := hLl.ext hx
                      replace hB1 := hB1.ext hx
                      replace hB2 := hB2.ext hx
                      replace hB15 := hB15.ext hx
                      have hE := Upd.refl (fun _ => False) W
                      refine id (X_pick (t := false) (v := (.bool (false))) rfl rfl ?_)
                      exact ⟨hE, rfl⟩
                    refine ⟨.det (fun val => (.bool (false))), ⟨fun _ _ hv => rfl, fun _ _ _ _ _ => trivial⟩, fun val h_ W hx he => ⟨trivial, ?_⟩, ?_⟩
                    · replace hx := (Upd.drew _ _).trans hx
                      replace hp := hp.ext hx
                      replace hc := hc.ext hx
                      replace hb := hb.ext hx
                      replace hLl := hLl.ext hx
                      replace hB1 := hB1.ext hx
                      replace hB2 := hB2.ext hx
                      replace hB15 := hB15.ext hx
                      have hE := Upd.refl (fun _ => False) W
                      refine id (X_move (v := (.bool (false))) rfl ?_)
                      exact ⟨hE, rfl⟩
                    refine ⟨.det (fun val => (.int .i64 (((i : Nat) : Int)))), ⟨fun _ _ hv => rfl, fun _ _ _ _ _ => trivial⟩, fun val h_ W hx he => ⟨⟨93, rfl, rfl⟩, ?_⟩, ?_⟩
                    · replace hx := (Upd.drew _ _).trans hx
                      replace hp := hp.ext hx
                      replace hc := hc.ext hx
                      replace hb := hb.ext hx
                      replace hLl := hLl.ext hx
                      replace hB1 := hB1.ext hx
                      replace hB2 := hB2.ext hx
                      replace hB15 := hB15.ext hx
                      have hE := Upd.refl (fun _ => False) W
                      refine id (X_move (v := (.int .i64 (((i : Nat) : Int)))) rfl ?_)
                      exact ⟨hE, rfl⟩
                    refine ⟨.det (fun val => (.bool (true))), ⟨fun _ _ hv => rfl, fun _ _ _ _ _ => trivial⟩, fun val h_ W hx he => ⟨⟨93, rfl, rfl⟩, ?_⟩, ?_⟩
                    · replace hx := (Upd.drew _ _).trans hx
                      replace hp := hp.ext hx
                      replace hc := hc.ext hx
                      replace hb := hb.ext hx
                      replace hLl := hLl.ext hx
                      replace hB1 := hB1.ext hx
                      replace hB2 := hB2.ext hx
                      replace hB15 := hB15.ext hx
                      have hE := Upd.refl (fun _ => False) W
                      refine id (X_cmp (k := .i64) (a := ((i : Nat) : Int)) (b := 0) (r := true) rfl rfl rfl (decide_eq_true (p := ((0) : Int) < ((((i : Nat) : Int)) : Int)) (by have h_ := of_decide_eq_true hs23; omega)) ?_)
                      exact ⟨hE, rfl⟩
                    refine ⟨.det (fun val => (.bool (true))), ⟨fun _ _ hv => rfl, fun _ _ _ _ _ => trivial⟩, fun val h_ W hx he => ⟨⟨93, rfl, rfl⟩, ?_⟩, ?_⟩
                    · replace hx := (Upd.drew _ _).trans hx
                      replace hp := hp.ext hx
                      replace hc := hc.ext hx
                      replace hb := hb.ext hx
                      replace hLl := hLl.ext hx
                      replace hB1 := hB1.ext hx
                      replace hB2 := hB2.ext hx
                      replace hB15 := hB15.ext hx
                      have hE := Upd.refl (fun _ => False) W
                      refine id (X_move (v := (.bool (true))) rfl ?_)
                      exact ⟨hE, rfl⟩
                    refine ⟨.det (fun val => v_l), ⟨fun _ _ hv => rfl, fun _ _ _ _ _ => trivial⟩, fun val h_ W hx he => ⟨⟨96, rfl, rfl⟩, ?_⟩, ?_⟩
                    · replace hx := (Upd.drew _ _).trans hx
                      replace hp := hp.ext hx
                      replace hc := hc.ext hx
                      replace hb := hb.ext hx
                      replace hLl := hLl.ext hx
                      replace hB1 := hB1.ext hx
                      replace hB2 := hB2.ext hx
                      replace hB15 := hB15.ext hx
                      have hE := Upd.refl (fun _ => False) W
                      refine id (X_move (v := v_l) rfl ?_)
                      exact ⟨hE, rfl⟩
                    refine ⟨.det (fun val => (.int .i64 (((i : Nat) : Int)))), ⟨fun _ _ hv => rfl, fun _ _ _ _ _ => trivial⟩, fun val h_ W hx he => ⟨⟨96, rfl, rfl⟩, ?_⟩, ?_⟩
                    · replace hx := (Upd.drew _ _).trans hx
                      replace hp := hp.ext hx
                      replace hc := hc.ext hx
                      replace hb := hb.ext hx
                      replace hLl := hLl.ext hx
                      replace hB1 := hB1.ext hx
                      replace hB2 := hB2.ext hx
                      replace hB15 := hB15.ext hx
                      have hE := Upd.refl (fun _ => False) W
                      refine id (X_move (v := (.int .i64 (((i : Nat) : Int)))) rfl ?_)
                      exact ⟨hE, rfl⟩
                    refine ⟨.det (fun val => (.int .i64 (((i - 1 : Nat) : Int)))), ⟨fun _ _ hv => rfl, fun _ _ _ _ _ => trivial⟩, fun val h_ W hx he => ⟨⟨96, rfl, rfl⟩, ?_⟩, ?_⟩
                    · replace hx := (Upd.drew _ _).trans hx
                      replace hp := hp.ext hx
                      replace hc := hc.ext hx
                      replace hb := hb.ext hx
                      replace hLl := hLl.ext hx
                      replace hB1 := hB1.ext hx
                      replace hB2 := hB2.ext hx
                      replace hB15 := hB15.ext hx
                      have hE := Upd.refl (fun _ => False) W
                      refine id (X_arith (k := .i64) (a := ((i : Nat) : Int)) (b := 1) (r := ((i - 1 : Nat) : Int)) rfl rfl rfl (isub64 (by omega) (by omega) (by omega)) ?_)
                      exact ⟨hE, rfl⟩
                    refine ⟨.det (fun val => (pof v_l ((((i - 1 : Nat) : Int)).toNat * 1))), ⟨fun _ _ hv => rfl, fun _ _ _ _ _ => trivial⟩, fun val h_ W hx he => ⟨⟨96, rfl, rfl⟩, ?_⟩, ?_⟩
                    · replace hx := (Upd.drew _ _).trans hx
                      replace hp := hp.ext hx
                      replace hc := hc.ext hx
                      replace hb := hb.ext hx
                      replace hLl := hLl.ext hx
                      replace hB1 := hB1.ext hx
                      replace hB2 := hB2.ext hx
                      replace hB15 := hB15.ext hx
                      have hE := Upd.refl (fun _ => False) W
                      refine id (X_idx (v := v_l) (n := (waitsW cs).length) (k := .i64) (i := ((i - 1 : Nat) : Int)) S24 rfl hLl.1.sv rfl (by omega) (by omega) ?_)
                      exact ⟨hE, rfl⟩
                    refine ⟨.det (fun val => (.int .i64 (a0))), ⟨fun _ _ hv => rfl, fun _ _ _ _ _ => trivial⟩, fun val h_ W hx he => ⟨⟨96, rfl, rfl⟩, ?_⟩, ?_⟩
                    · replace hx := (Upd.drew _ _).trans hx
                      replace hp := hp.ext hx
                      replace hc := hc.ext hx
                      replace hb := hb.ext hx
                      replace hLl := hLl.ext hx
                      replace hB1 := hB1.ext hx
                      replace hB2 := hB2.ext hx
                      replace hB15 := hB15.ext hx
                      have hE := Upd.refl (fun _ => False) W
                      refine id (X_load (v := .int .i64 a0) T3 rfl (iat hLl.rd (Int.toNat_natCast _) ha0) ?_)
                      exact ⟨hE, rfl⟩
                    refine ⟨.det (fun val => v_l), ⟨fun _ _ hv => rfl, fun _ _ _ _ _ => trivial⟩, fun val h_ W hx he => ⟨⟨96, rfl, rfl⟩, ?_⟩, ?_⟩
                    · replace hx := (Upd.drew _ _).trans hx
                      replace hp := hp.ext hx
                      replace hc := hc.ext hx
                      replace hb := hb.ext hx
                      replace hLl := hLl.ext hx
                      replace hB1 := hB1.ext hx
                      replace hB2 := hB2.ext hx
                      replace hB15 := hB15.ext hx
                      have hE := Upd.refl (fun _ => False) W
                      refine id (X_move (v := v_l) rfl ?_)
                      exact ⟨hE, rfl⟩
                    refine ⟨.det (fun val => (.int .i64 (((i : Nat) : Int)))), ⟨fun _ _ hv => rfl, fun _ _ _ _ _ => trivial⟩, fun val h_ W hx he => ⟨⟨96, rfl, rfl⟩, ?_⟩, ?_⟩
                    · replace hx := (Upd.drew _ _).trans hx
                      replace hp := hp.ext hx
                      replace hc := hc.ext hx
                      replace hb := hb.ext hx
                      replace hLl := hLl.ext hx
                      replace hB1 := hB1.ext hx
                      replace hB2 := hB2.ext hx
                      replace hB15 := hB15.ext hx
                      have hE := Upd.refl (fun _ => False) W
                      refine id (X_move (v := (.int .i64 (((i : Nat) : Int)))) rfl ?_)
                      exact ⟨hE, rfl⟩
                    refine ⟨.det (fun val => (pof v_l ((((i : Nat) : Int)).toNat * 1))), ⟨fun _ _ hv => rfl, fun _ _ _ _ _ => trivial⟩, fun val h_ W hx he => ⟨⟨96, rfl, rfl⟩, ?_⟩, ?_⟩
                    · replace hx := (Upd.drew _ _).trans hx
                      replace hp := hp.ext hx
                      replace hc := hc.ext hx
                      replace hb := hb.ext hx
                      replace hLl := hLl.ext hx
                      replace hB1 := hB1.ext hx
                      replace hB2 := hB2.ext hx
                      replace hB15 := hB15.ext hx
                      have hE := Upd.refl (fun _ => False) W
                      refine id (X_idx (v := v_l) (n := (waitsW cs).length) (k := .i64) (i := ((i : Nat) : Int)) S24 rfl hLl.1.sv rfl (by omega) (by omega) ?_)
                      exact ⟨hE, rfl⟩
                    refine ⟨.det (fun val => (.int .i64 (a))), ⟨fun _ _ hv => rfl, fun _ _ _ _ _ => trivial⟩, fun val h_ W hx he => ⟨⟨96, rfl, rfl⟩, ?_⟩, ?_⟩
                    · replace hx := (Upd.drew _ _).trans hx
                      replace hp := hp.ext hx
                      replace hc := hc.ext hx
                      replace hb := hb.ext hx
                      replace hLl := hLl.ext hx
                      replace hB1 := hB1.ext hx
                      replace hB2 := hB2.ext hx
                      replace hB15 := hB15.ext hx
                      have hE := Upd.refl (fun _ => False) W
                      refine id (X_load (v := .int .i64 a) T3 rfl (iat hLl.rd (Int.toNat_natCast _) hai) ?_)
                      exact ⟨hE, rfl⟩
                    intro val W24 hx24 he24
                    replace hx24 := (Upd.drew _ _).trans hx24
                    have hz24 := hx24.size
                    replace hp := hp.ext hx24
                    replace hc := hc.ext hx24
                    replace hb := hb.ext hx24
                    replace hLl := hLl.ext hx24
                    replace hB1 := hB1.ext hx24
                    replace hB2 := hB2.ext hx24
                    replace hB15 := hB15.ext hx24
                    replace hU := hU.trans (Ext.upd hx24)
                    refine L_gy (dj := 96) rfl rfl rfl (X_cmp (k := .i64) (a := a0) (b := a) (r := false) rfl rfl rfl (decide_eq_false (p := ((a) : Int) ≤ ((a0) : Int)) (by omega)) ?_)
                    refine L_gy (dj := 93) rfl rfl rfl (X_pick (t := true) (v := (.bool (false))) rfl rfl ?_)
                    refine L_op rfl (X_pick (t := false) (v := (.bool (false))) rfl rfl ?_)
                    refine L_nil ?_
                    refine T_n ?_
                    refine W_cf rfl ?_
                    refine W_skip ?_
                    refine B_n ?_
                    refine T_n ?_
                    refine W_reg ?_
                    refine L_op rfl (X_move (v := (.int .i64 (((i : Nat) : Int)))) rfl ?_)
                    refine L_op rfl (X_arith (k := .i64) (a := ((i : Nat) : Int)) (b := 1) (r := ((i + 1 : Nat) : Int)) rfl rfl rfl (iadd64 (by omega) (by omega) (by omega)) ?_)
                    refine L_op rfl (X_assign (v := (.int .i64 (((i + 1 : Nat) : Int)))) rfl ?_)
                    refine L_nil ?_
                    refine T_n ?_
                    exact ⟨rfl, i + 1, ⟨⟨hi, hp, hc, hb, hLl, hB1, hB2, hB15, hU, (by omega), (by omega), (by omega)⟩, (by show (waitsW cs).length - (i + 1) < (waitsW cs).length - i; omega)⟩, (Out.mk rfl), ⟨rfl, trivial⟩⟩
                  · refine W_draw 34 [[], [], [0, 1], [0, 1, 2], [0, 1, 2, 3], [0, 1, 2, 3, 4], [0, 1, 2, 3, 4, 5], [0, 1, 2, 3, 4, 5], [0, 1, 2, 3, 4, 5, 6, 7], [0, 1, 2, 3, 4, 5, 6, 7, 8], [0, 1, 2, 3, 4, 5, 6, 7, 8, 9], [0, 1, 2, 3, 4, 5, 6, 7, 8, 9, 10], [0, 1, 2, 3, 4, 5, 6, 7, 8, 9, 10, 11], [0, 1, 2, 3, 4, 5, 6, 7, 8, 9, 10, 11, 12], [0, 1, 2, 3, 4, 5, 6, 7, 8, 9, 10, 11, 12], [0, 1, 2, 3, 4, 5, 6, 7, 8, 9, 10, 11, 12, 13, 14], [0, 1, 2, 3, 4, 5, 6, 7, 8, 9, 10, 11, 12, 13, 14, 15], [0, 1, 2, 3, 4, 5, 6, 7, 8, 9, 10, 11, 12, 13, 14, 15, 16], [0, 1, 2, 3, 4, 5, 6, 7, 8, 9, 10, 11, 12, 13, 14, 15, 16, 17], [0, 1, 2, 3, 4, 5, 6, 7, 8, 9, 10, 11, 12, 13, 14, 15, 16, 17, 18], [0, 1, 2, 3, 4, 5, 6, 7, 8, 9, 10, 11, 12, 13, 14, 15, 16, 17, 18, 19], [0, 1, 2, 3, 4, 5, 6, 7, 8, 9, 10, 11, 12, 13, 14, 15, 16, 17, 18, 19, 20], [0, 1, 2, 3, 4, 5, 6, 7, 8, 9, 10, 11, 12, 13, 14, 15, 16, 17, 18, 19, 20, 21], [0, 1, 2, 3, 4, 5, 6, 7, 8, 9, 10, 11, 12, 13, 14, 15, 16, 17, 18, 19, 20, 21, 22], [0, 1, 2, 3, 4, 5, 6, 7, 8, 9, 10, 11, 12, 13, 14, 15, 16, 17, 18, 19, 20, 21, 22, 23], [0, 1, 2, 3, 4, 5, 6, 7, 8, 9, 10, 11, 12, 13, 14, 15, 16, 17, 18, 19, 20, 21, 22, 23, 24], [0, 1, 2, 3, 4, 5, 6, 7, 8, 9, 10, 11, 12, 13, 14, 15, 16, 17, 18, 19, 20, 21, 22, 23, 24], [0, 1, 2, 3, 4, 5, 6, 7, 8, 9, 10, 11, 12, 13, 14, 15, 16, 17, 18, 19, 20, 21, 22, 23, 24, 26], [0, 1, 2, 3, 4, 5, 6, 7, 8, 9, 10, 11, 12, 13, 14, 15, 16, 17, 18, 19, 20, 21, 22, 23, 24, 25, 26, 27], [0, 1, 2, 3, 4, 5, 6, 7, 8, 9, 10, 11, 12, 13, 14, 15, 16, 17, 18, 19, 20, 21, 22, 23, 24, 25, 26, 27, 28], [0, 1, 2, 3, 4, 5, 6, 7, 8, 9, 10, 11, 12, 13, 14, 15, 16, 17, 18, 19, 20, 21, 22, 23, 24], [0, 1, 2, 3, 4, 5, 6, 7, 8, 9, 10, 11, 12, 13, 14, 15, 16, 17, 18, 19, 20, 21, 22, 23, 24], [0, 1, 2, 3, 4, 5, 6, 7, 8, 9, 10, 11, 12, 13, 14, 15, 16, 17, 18, 19, 20, 21, 22, 23, 24, 30, 31], [0, 1, 2, 3, 4, 5, 6, 7, 8, 9, 10, 11, 12, 13, 14, 15, 16, 17, 18, 19, 20, 21, 22, 23, 24, 30, 31, 32], [0, 1, 2, 3, 4, 5, 6, 7, 8, 9, 10, 11, 12, 13, 14, 15, 16, 17, 18, 19, 20, 21, 22, 23, 24, 25, 26, 27, 28, 29, 30, 31, 32, 33], [0, 1, 2, 3, 4, 5, 6, 7, 8, 9, 10, 11, 12, 13, 14, 15, 16, 17, 18, 19, 20, 21, 22, 23, 24, 25, 26, 27, 28, 29, 30, 31, 32, 33, 34], [0, 1, 2, 3, 4, 5, 6, 7, 8, 9, 10, 11, 12, 13, 14, 15, 16, 17, 18, 19, 20, 21, 22, 23, 24, 25, 26, 27, 28, 29, 30, 31, 32, 33, 34, 35]] mixed (by kernel_rfl) ?_
                    refine ⟨.det (fun val => v_l), ⟨fun _ _ hv => rfl, fun _ _ _ _ _ => trivial⟩, fun val h_ W hx he => ⟨trivial, ?_⟩, ?_⟩
                    · replace hx := (Upd.drew _ _).trans hx
                      replace hp := hp.ext hx
                      replace hc := hc.ext hx
                      replace hb := hb.ext hx
                      replace hLl := hLl.ext hx
                      replace hB1 := hB1.ext hx
                      replace hB2 := hB2.ext hx
                      replace hB15 := hB15.ext hx
                      have hE := Upd.refl (fun _ => False) W
                      refine id (X_move (v := v_l) rfl ?_)
                      exact ⟨hE, rfl⟩
                    refine ⟨.det (fun val => (.int .i64 (((i : Nat) : Int)))), ⟨fun _ _ hv => rfl, fun _ _ _ _ _ => trivial⟩, fun val h_ W hx he => ⟨trivial, ?_⟩, ?_⟩
                    · replace hx := (Upd.drew _ _).trans hx
                      replace hp := hp.ext hx
                      replace hc := hc.ext hx
                      replace hb := hb.ext hx
                      replace hLl := hLl.ext hx
                      replace hB1 := hB1.ext hx
                      replace hB2 := hB2.ext hx
                      replace hB15 := hB15.ext hx
                      have hE := Upd.refl (fun _ => False) W
                      refine id (X_move (v := (.int .i64 (((i : Nat) : Int)))) rfl ?_)
                      exact ⟨hE, rfl⟩
                    refine ⟨.det (fun val => (pof v_l ((((i : Nat) : Int)).toNat * 1))), ⟨fun _ _ hv => rfl, fun _ _ _ _ _ => trivial⟩, fun val h_ W hx he => ⟨trivial, ?_⟩, ?_⟩
                    · replace hx := (Upd.drew _ _).trans hx
                      replace hp := hp.ext hx
                      replace hc := hc.ext hx
                      replace hb := hb.ext hx
                      replace hLl := hLl.ext hx
                      replace hB1 := hB1.ext hx
                      replace hB2 := hB2.ext hx
                      replace hB15 := hB15.ext hx
                      have hE := Upd.refl (fun _ => False) W
                      refine id (X_idx (v := v_l) (n := (waitsW cs).length) (k := .i64) (i := ((i : Nat) : Int)) S24 rfl hLl.1.sv rfl (by omega) (by omega) ?_)
                      exact ⟨hE, rfl⟩
                    refine ⟨.det (fun val => (.int .i64 (a))), ⟨fun _ _ hv => rfl, fun _ _ _ _ _ => trivial⟩, fun val h_ W hx he => ⟨trivial, ?_⟩, ?_⟩
                    · replace hx := (Upd.drew _ _).trans hx
                      replace hp := hp.ext hx
                      replace hc := hc.ext hx
                      replace hb := hb.ext hx
                      replace hLl := hLl.ext hx
                      replace hB1 := hB1.ext hx
                      replace hB2 := hB2.ext hx
                      replace hB15 := hB15.ext hx
                      have hE := Upd.refl (fun _ => False) W
                      refine id (X_load (v := .int .i64 a) T3 rfl (iat hLl.rd (Int.toNat_natCast _) hai) ?_)
                      exact ⟨hE, rfl⟩
                    refine ⟨.det (fun val => (.bool (false))), ⟨fun _ _ hv => rfl, fun _ _ _ _ _ => trivial⟩, fun val h_ W hx he => ⟨trivial, ?_⟩, ?_⟩
                    · replace hx := (Upd.drew _ _).trans hx
                      replace hp := hp.ext hx
                      replace hc := hc.ext hx
                      replace hb := hb.ext hx
                      replace hLl := hLl.ext hx
                      replace hB1 := hB1.ext hx
                      replace hB2 := hB2.ext hx
                      replace hB15 := hB15.ext hx
                      have hE := Upd.refl (fun _ => False) W
                      refine id (X_cmp (k := .i64) (a := a) (b := 0) (r := false) rfl rfl rfl (decide_eq_false (p := ((a) : Int) < ((0) : Int)) (by omega)) ?_)
                      exact ⟨hE, rfl⟩
                    refine ⟨.det (fun val => (.bool (false))), ⟨fun _ _ hv => rfl, fun _ _ _ _ _ => trivial⟩, fun val h_ W hx he => ⟨trivial, ?_⟩, ?_⟩
                    · replace hx := (Upd.drew _ _).trans hx
                      replace hp := hp.ext hx
                      replace hc := hc.ext hx
                      replace hb := hb.ext hx
                      replace hLl := hLl.ext hx
                      replace hB1 := hB1.ext hx
                      replace hB2 := hB2.ext hx
                      replace hB15 := hB15.ext hx
                      have hE := Upd.refl (fun _ => False) W
                      refine id (X_move (v := (.bool (false))) rfl ?_)
                      exact ⟨hE, rfl⟩
                    refine ⟨.det (fun val => v_l), ⟨fun _ _ hv => rfl, fun _ _ _ _ _ => trivial⟩, fun val h_ W hx he => ⟨⟨77, rfl, rfl⟩, ?_⟩, ?_⟩
                    · replace hx := (Upd.drew _ _).trans hx
                      replace hp := hp.ext hx
                      replace hc := hc.ext hx
                      replace hb := hb.ext hx
                      replace hLl := hLl.ext hx
                      replace hB1 := hB1.ext hx
                      replace hB2 := hB2.ext hx
                      replace hB15 := hB15.ext hx
                      have hE := Upd.refl (fun _ => False) W
                      refine id (X_move (v := v_l) rfl ?_)
                      exact ⟨hE, rfl⟩
                    refine ⟨.det (fun val => (.int .i64 (((i : Nat) : Int)))), ⟨fun _ _ hv => rfl, fun _ _ _ _ _ => trivial⟩, fun val h_ W hx he => ⟨⟨77, rfl, rfl⟩, ?_⟩, ?_⟩
                    · replace hx := (Upd.drew _ _).trans hx
                      replace hp := hp.ext hx
                      replace hc := hc.ext hx
                      replace hb := hb.ext hx
                      replace hLl := hLl.ext hx
                      replace hB1 := hB1.ext hx
                      replace hB2 := hB2.ext hx
                      replace hB15 := hB15.ext hx
                      have hE := Upd.refl (fun _ => False) W
                      refine id (X_move (v := (.int .i64 (((i : Nat) : Int)))) rfl ?_)
                      exact ⟨hE, rfl⟩
                    refine ⟨.det (fun val => (pof v_l ((((i : Nat) : Int)).toNat * 1))), ⟨fun _ _ hv => rfl, fun _ _ _ _ _ => trivial⟩, fun val h_ W hx he => ⟨⟨77, rfl, rfl⟩, ?_⟩, ?_⟩
                    · replace hx := (Upd.drew _ _).trans hx
                      replace hp := hp.ext hx
                      replace hc := hc.ext hx
                      replace hb := hb.ext hx
                      replace hLl := hLl.ext hx
                      replace hB1 := hB1.ext hx
                      replace hB2 := hB2.ext hx
                      replace hB15 := hB15.ext hx
                      have hE := Upd.refl (fun _ => False) W
                      refine id (X_idx (v := v_l) (n := (waitsW cs).length) (k := .i64) (i := ((i : Nat) : Int)) S24 rfl hLl.1.sv rfl (by omega) (by omega) ?_)
                      exact ⟨hE, rfl⟩
                    refine ⟨.det (fun val => (.int .i64 (a))), ⟨fun _ _ hv => rfl, fun _ _ _ _ _ => trivial⟩, fun val h_ W hx he => ⟨⟨77, rfl, rfl⟩, ?_⟩, ?_⟩
                    · replace hx := (Upd.drew _ _).trans hx
                      replace hp := hp.ext hx
                      replace hc := hc.ext hx
                      replace hb := hb.ext hx
                      replace hLl := hLl.ext hx
                      replace hB1 := hB1.ext hx
                      replace hB2 := hB2.ext hx
                      replace hB15 := hB15.ext hx
                      have hE := Upd.refl (fun _ => False) W
                      refine id (X_load (v := .int .i64 a) T3 rfl (iat hLl.rd (Int.toNat_natCast _) hai) ?_)
                      exact ⟨hE, rfl⟩
                    refine ⟨.det (fun val => (.bool (false))), ⟨fun _ _ hv => rfl, fun _ _ _ _ _ => trivial⟩, fun val h_ W hx he => ⟨⟨77, rfl, rfl⟩, ?_⟩, ?_⟩
                    · replace hx := (Upd.drew _ _).trans hx
                      replace hp := hp.ext hx
                      replace hc := hc.ext hx
                      replace hb := hb.ext hx
                      replace hLl := hLl.ext hx
                      replace hB1 := hB1.ext hx
                      replace hB2 := hB2.ext hx
                      replace hB15 := hB15.ext hx
                      have hE := Upd.refl (fun _ => False) W
                      refine id (X_cmp (k := .i64) (a := a) (b := 256) (r := false) rfl rfl rfl (decide_eq_false (p := ((256) : Int) ≤ ((a) : Int)) (by omega)) ?_)
                      exact ⟨hE, rfl⟩
                    refine ⟨.det (fun val => (.bool (false))), ⟨fun _ _ hv => rfl, fun _ _ _ _ _ => trivial⟩, fun val h_ W hx he => ⟨trivial, ?_⟩, ?_⟩
                    · replace hx := (Upd.drew _ _).trans hx
                      replace hp := hp.ext hx
                      replace hc := hc.ext hx
                      replace hb := hb.ext hx
                      replace hLl := hLl.ext hx
                      replace hB1 := hB1.ext hx
                      replace hB2 := hB2.ext hx
                      replace hB15 := hB15.ext hx
                      have hE := Upd.refl (fun _ => False) W
                      refine id (X_pick (t := false) (v := (.bool (false))) rfl rfl ?_)
                      exact ⟨hE, rfl⟩
                    refine ⟨.det (fun val => (.bool (false))), ⟨fun _ _ hv => rfl, fun _ _ _ _ _ => trivial⟩, fun val h_ W hx he => ⟨trivial, ?_⟩, ?_⟩
                    · replace hx := (Upd.drew _ _).trans hx
                      replace hp := hp.ext hx
                      replace hc := hc.ext hx
                      replace hb := hb.ext hx
                      replace hLl := hLl.ext hx
                      replace hB1 := hB1.ext hx
                      replace hB2 := hB2.ext hx
                      replace hB15 := hB15.ext hx
                      have hE := Upd.refl (fun _ => False) W
                      refine id (X_move (v := (.bool (false))) rfl ?_)
                      exact ⟨hE, rfl⟩
                    refine ⟨.det (fun val => v_l), ⟨fun _ _ hv => rfl, fun _ _ _ _ _ => trivial⟩, fun val h_ W hx he => ⟨⟨84, rfl, rfl⟩, ?_⟩, ?_⟩
                    · replace hx := (Upd.drew _ _).trans hx
                      replace hp := hp.ext hx
                      replace hc := hc.ext hx
                      replace hb := hb.ext hx
                      replace hLl := hLl.ext hx
                      replace hB1 := hB1.ext hx
                      replace hB2 := hB2.ext hx
                      replace hB15 := hB15.ext hx
                      have hE := Upd.refl (fun _ => False) W
                      refine id (X_move (v := v_l) rfl ?_)
                      exact ⟨hE, rfl⟩
                    refine ⟨.det (fun val => (.int .i64 (((i : Nat) : Int)))), ⟨fun _ _ hv => rfl, fun _ _ _ _ _ => trivial⟩, fun val h_ W hx he => ⟨⟨84, rfl, rfl⟩, ?_⟩, ?_⟩
                    · replace hx := (Upd.drew _ _).trans hx
                      replace hp := hp.ext hx
                      replace hc := hc.ext hx
                      replace hb := hb.ext hx
                      replace hLl := hLl.ext hx
                      replace hB1 := hB1.ext hx
                      replace hB2 := hB2.ext hx
                      replace hB15 := hB15.ext hx
                      have hE := Upd.refl (fun _ => False) W
                      refine id (X_move (v := (.int .i64 (((i : Nat) : Int)))) rfl ?_)
                      exact ⟨hE, rfl⟩
                    refine ⟨.det (fun val => (pof v_l ((((i : Nat) : Int)).toNat * 1))), ⟨fun _ _ hv => rfl, fun _ _ _ _ _ => trivial⟩, fun val h_ W hx he => ⟨⟨84, rfl, rfl⟩, ?_⟩, ?_⟩
                    · replace hx := (Upd.drew _ _).trans hx
                      replace hp := hp.ext hx
                      replace hc := hc.ext hx
                      replace hb := hb.ext hx
                      replace hLl := hLl.ext hx
                      replace hB1 := hB1.ext hx
                      replace hB2 := hB2.ext hx
                      replace hB15 := hB15.ext hx
                      have hE := Upd.refl (fun _ => False) W
                      refine id (X_idx (v := v_l) (n := (waitsW cs).length) (k := .i64) (i := ((i : Nat) : Int)) S24 rfl hLl.1.sv rfl (by omega) (by omega) ?_)
                      exact ⟨hE, rfl⟩
                    refine ⟨.det (fun val => (.int .i64 (a))), ⟨fun _ _ hv => rfl, fun _ _ _ _ _ => trivial⟩, fun val h_ W hx he => ⟨⟨84, rfl, rfl⟩, ?_⟩, ?_⟩
                    · replace hx := (Upd.drew _ _).trans hx
                      replace hp := hp.ext hx
                      replace hc := hc.ext hx
                      replace hb := hb.ext hx
                      replace hLl := hLl.ext hx
                      replace hB1 := hB1.ext hx
                      replace hB2 := hB2.ext hx
                      replace hB15 := hB15.ext hx
                      have hE := Upd.refl (fun _ => False) W
                      refine id (X_load (v := .int .i64 a) T3 rfl (iat hLl.rd (Int.toNat_natCast _) hai) ?_)
                      exact ⟨hE, rfl⟩
                    refine ⟨.det (fun val => (ptr b15 ((a : Int).toNat))), ⟨fun _ _ hv => rfl, fun _ _ _ _ _ => trivial⟩, fun val h_ W hx he => ⟨⟨84, rfl, rfl⟩, ?_⟩, ?_⟩
                    · replace hx := (Upd.drew _ _).trans hx
                      replace hp := hp.ext hx
                      replace hc := hc.ext hx
                      replace hb := hb.ext hx
                      replace hLl := hLl.ext hx
                      replace hB1 := hB1.ext hx
                      replace hB2 := hB2.ext hx
                      replace hB15 := hB15.ext hx
                      have hE := Upd.refl (fun _ => False) W
                      refine id (X_idxAP (len := 256) (sz := 1) (b := b15) (o := 0) (k := .i64) (i := a) (r := (a : Int).toNat) Try.underlying50 Z4 rfl rfl (by omega) (by omega) (by omega) ?_)
                      exact ⟨hE, rfl⟩
                    refine ⟨.det (fun val => (.bool (true))), ⟨fun _ _ hv => rfl, fun _ _ _ _ _ => trivial⟩, fun val h_ W hx he => ⟨⟨84, rfl, rfl⟩, ?_⟩, ?_⟩
                    · replace hx := (Upd.drew _ _).trans hx
                      replace hp := hp.ext hx
                      replace hc := hc.ext hx
                      replace hb := hb.ext hx
                      replace hLl := hLl.ext hx
                      replace hB1 := hB1.ext hx
                      replace hB2 := hB2.ext hx
                      replace hB15 := hB15.ext hx
                      have hE := Upd.refl (fun _ => False) W
                      refine id (X_load (p := (ptr b15 ((a : Int).toNat))) (v := .bool true) T4 rfl (hB15.at1 (by rw [show (a : Int).toNat = (a : Int).toNat by omega, tab_get (by omega) (by omega), decide_eq_true haS])) ?_)
                      exact ⟨hE, rfl⟩
                    refine ⟨.det (fun val => (.bool (false))), ⟨fun _ _ hv => rfl, fun _ _ _ _ _ => trivial⟩, fun val h_ W hx he => ⟨⟨84, rfl, rfl⟩, ?_⟩, ?_⟩
                    · replace hx := (Upd.drew _ _).trans hx
                      replace hp := hp.ext hx
                      replace hc := hc.ext hx
                      replace hb := hb.ext hx
                      replace hLl := hLl.ext hx
                      replace hB1 := hB1.ext hx
                      replace hB2 := hB2.ext hx
                      replace hB15 := hB15.ext hx
                      have hE := Upd.refl (fun _ => False) W
                      refine id (X_not (b := true) (r := false) rfl rfl ?_)
                      exact ⟨hE, rfl⟩
                    refine ⟨.det (fun val => (.bool (false))), ⟨fun _ _ hv => rfl, fun _ _ _ _ _ => trivial⟩, fun val h_ W hx he => ⟨trivial, ?_⟩, ?_⟩
                    · replace hx := (Upd.drew _ _).trans hx
                      replace hp := hp.ext hx
                      replace hc := hc.ext hx
                      replace hb := hb.ext hx
                      replace hLl := hLl.ext hx
                      replace hB1 := hB1.ext hx
                      replace hB2 := hB2.ext hx
                      replace hB15 := hB15.ext hx
                      have hE := Upd.refl (fun _ => False) W
                      refine id (X_pick (t := false) (v := (.bool (false))) rfl rfl ?_)
                      exact ⟨hE, rfl⟩
                    refine ⟨.det (fun val => (.bool (false))), ⟨fun _ _ hv => rfl, fun _ _ _ _ _ => trivial⟩, fun val h_ W hx he => ⟨trivial, ?_⟩, ?_⟩
                    · replace hx := (Upd.drew _ _).trans hx
                      replace hp := hp.ext hx
                      replace hc := hc.ext hx
                      replace hb := hb.ext hx
                      replace hLl := hLl.ext hx
                      replace hB1 := hB1.ext hx
                      replace hB2 := hB2.ext hx
                      replace hB15 := hB15.ext hx
                      have hE := Upd.refl (fun _ => False) W
                      refine id (X_move (v := (.bool (false))) rfl ?_)
                      exact ⟨hE, rfl⟩
                    refine ⟨.det (fun val => (.int .i64 (((i : Nat) : Int)))), ⟨fun _ _ hv => rfl, fun _ _ _ _ _ => trivial⟩, fun val h_ W hx he => ⟨⟨93, rfl, rfl⟩, ?_⟩, ?_⟩
                    · replace hx := (Upd.drew _ _).trans hx
                      replace hp := hp.ext hx
                      replace hc := hc.ext hx
                      replace hb := hb.ext hx
                      replace hLl := hLl.ext hx
                      replace hB1 := hB1.ext hx
                      replace hB2 := hB2.ext hx
                      replace hB15 := hB15.ext hx
                      have hE := Upd.refl (fun _ => False) W
                      refine id (X_move (v := (.int .i64 (((i : Nat) : Int)))) rfl ?_)
                      exact ⟨hE, rfl⟩
                    refine ⟨.det (fun val => (.bool (false))), ⟨fun _ _ hv => rfl, fun _ _ _ _ _ => trivial⟩, fun val h_ W hx he => ⟨⟨93, rfl, rfl⟩, ?_⟩, ?_⟩
                    · replace hx := (Upd.drew _ _).trans hx
                      replace hp := hp.ext hx
                      replace hc := hc.ext hx
                      replace hb := hb.ext hx
                      replace hLl := hLl.ext hx
                      replace hB1 := hB1.ext hx
                      replace hB2 := hB2.ext hx
                      replace hB15 := hB15.ext hx
                      have hE := Upd.refl (fun _ => False) W
                      refine id (X_cmp (k := .i64) (a := ((i : Nat) : Int)) (b := 0) (r := false) rfl rfl rfl (decide_eq_false (p := ((0) : Int) < ((((i : Nat) : Int)) : Int)) (by have h_ := of_decide_eq_false hs23; omega)) ?_)
                      exact ⟨hE, rfl⟩
                    refine ⟨.det (fun val => (.bool (false))), ⟨fun _ _ hv => rfl, fun _ _ _ _ _ => trivial⟩, fun val h_ W hx he => ⟨⟨93, rfl, rfl⟩, ?_⟩, ?_⟩
                    · replace hx := (Upd.drew _ _).trans hx
                      replace hp := hp.ext hx
                      replace hc := hc.ext hx
                      replace hb := hb.ext hx
                      replace hLl := hLl.ext hx
                      replace hB1 := hB1.ext hx
                      replace hB2 := hB2.ext hx
                      replace hB15 := hB15.ext hx
                      have hE := Upd.refl (fun _ => False) W
                      refine id (X_move (v := (.bool (false))) rfl ?_)
                      exact ⟨hE, rfl⟩
                    refine ⟨.no, ⟨fun _ _ _ => trivial, fun _ _ _ _ _ => trivial⟩, fun val h_ W hx he => ⟨96, rfl, .inl rfl⟩, ?_⟩
                    refine ⟨.no, ⟨fun _ _ _ => trivial, fun _ _ _ _ _ => trivial⟩, fun val h_ W hx he => ⟨96, rfl, .inl rfl⟩, ?_⟩
                    refine ⟨.no, ⟨fun _ _ _ => trivial, fun _ _ _ _ _ => trivial⟩, fun val h_ W hx he => ⟨96, rfl, .inl rfl⟩, ?_⟩
                    refine ⟨.no, ⟨fun _ _ _ => trivial, fun _ _ _ _ _ => trivial⟩, fun val h_ W hx he => ⟨96, rfl, .inl rfl⟩, ?_⟩
                    refine ⟨.no, ⟨fun _ _ _ => trivial, fun _ _ _ _ _ => trivial⟩, fun val h_ W hx he => ⟨96, rfl, .inl rfl⟩, ?_⟩
                    refine ⟨.no, ⟨fun _ _ _ => trivial, fun _ _ _ _ _ => trivial⟩, fun val h_ W hx he => ⟨96, rfl, .inl rfl⟩, ?_⟩
                    refine ⟨.no, ⟨fun _ _ _ => trivial, fun _ _ _ _ _ => trivial⟩, fun val h_ W hx he => ⟨96, rfl, .inl rfl⟩, ?_⟩
                    refine ⟨.no, ⟨fun _ _ _ => trivial, fun _ _ _ _ _ => trivial⟩, fun val h_ W hx he => ⟨96, rfl, .inl rfl⟩, ?_⟩
                    refine ⟨.no, ⟨fun _ _ _ => trivial, fun _ _ _ _ _ => trivial⟩, fun val h_ W hx he => ⟨96, rfl, .inl rfl⟩, ?_⟩
                    intro val W25 hx25 he25
                    replace hx25 := (Upd.drew _ _).trans hx25
                    have hz25 := hx25.size
                    replace hp := hp.ext hx25
                    replace hc := hc.ext hx25
                    replace hb := hb.ext hx25
                    replace hLl := hLl.ext hx25
                    replace hB1 := hB1.ext hx25
                    replace hB2 := hB2.ext hx25
                    replace hB15 := hB15.ext hx25
                    replace hU := hU.trans (Ext.upd hx25)
                    refine L_gn (dj := 96) (t := false) rfl rfl rfl rfl ?_
                    refine L_gy (dj := 93) rfl rfl rfl (X_pick (t := false) (v := (.bool (false))) rfl rfl ?_)
                    refine L_op rfl (X_pick (t := false) (v := (.bool (false))) rfl rfl ?_)
                    refine L_nil ?_
                    refine T_n ?_
                    refine W_cf rfl ?_
                    refine W_skip ?_
                    refine B_n ?_
                    refine T_n ?_
                    refine W_reg ?_
                    refine L_op rfl (X_move (v := (.int .i64 (((i : Nat) : Int)))) rfl ?_)
                    refine L_op rfl (X_arith (k := .i64) (a := ((i : Nat) : Int)) (b := 1) (r := ((i + 1 : Nat) : Int)) rfl rfl rfl (iadd64 (by omega) (by omega) (by omega)) ?_)
                    refine L_op rfl (X_assign (v := (.int .i64 (((i + 1 : Nat) : Int)))) rfl ?_)
                    refine L_nil ?_
                    refine T_n ?_
                    exact ⟨rfl, i + 1, ⟨⟨hi, hp, hc, hb, hLl, hB1, hB2, hB15, hU, (by omega), (by omega), (by omega)⟩, (by show (waitsW cs).length - (i + 1) < (waitsW cs).length - i; omega)⟩, (Out.mk rfl), ⟨rfl, trivial⟩⟩
                · refine L_op rfl (X_cmp (k := .i64) (a := ((i : Nat) : Int)) (b := (((waitsW cs).length : Nat) : Int)) (r := false) rfl rfl rfl (decide_eq_false (p := ((((i : Nat) : Int)) : Int) < (((((waitsW cs).length : Nat) : Int)) : Int)) (by omega)) ?_)
                  refine L_nil ?_
                  refine T_n ?_
                  refine W_cf rfl ?_
                  refine W_exit ?_
                  refine T_e ?_
                  refine T_e ?_
                  refine B_x ?_
                  refine T_n ?_
                  refine W_seq ?_
                  refine W_reg ?_
                  refine L_op rfl (X_loadA (p := (ptr b1 (0))) (xs := [pv, cv, bv, (.bool (off))]) A26 rfl hB1.atAll rfl ?_)
                  refine L_op rfl (X_move (v := (.int .i64 (m))) rfl ?_)
                  refine L_op rfl (X_loadA (p := (ptr b2 (0))) (xs := ((p.1).map byteV)) A28 rfl hB2.atAll (by rw [List.length_map]; exact p.2) ?_)
                  obtain ⟨s_o, hs_o⟩ : ∃ n, n = w21.heap.size := ⟨_, rfl⟩
                  refine L_op rfl (X_fn (vs := [(.agg ([pv, cv, bv, (.bool (off))]).toArray), (.int .i64 (m)), (.agg (((p.1).map byteV)).toArray)]) en12 rfl (CT.mono (c_write pv cv bv ps cs bs off m p _ 0 n0 (by omega) hp hc hb (by omega) (by omega) (by omega)) ?_))
                  rintro _ w26 ⟨p_o, c_o, i_o, rfl, hPo, hCo, hIo, hu26⟩
                  have hz26 := hu26.size
                  replace hp := hp.ext hu26
                  replace hc := hc.ext hu26
                  replace hb := hb.ext hu26
                  replace hLl := hLl.ext hu26
                  replace hB1 := hB1.ext hu26
                  replace hB2 := hB2.ext hu26
                  replace hB15 := hB15.ext hu26
                  replace hU := hU.trans (Ext.upd hu26)
                  rw [(hW1).1]
                  rw [(hW1).2] at hCo
                  obtain ⟨u_o, hu_o⟩ : ∃ n, n = w26.heap.size := ⟨_, rfl⟩
                  rw [← hs_o, ← hu_o] at hPo hCo hIo
                  refine L_op rfl (X_move (v := (.tuple #[(.agg #[p_o, c_o, i_o, (.bool (off))]), (.int .i64 (0))])) rfl ?_)
                  refine L_op rfl (X_extract (l := [(.agg #[p_o, c_o, i_o, (.bool (off))]), (.int .i64 (0))]) (v := (.agg #[p_o, c_o, i_o, (.bool (off))])) rfl rfl ?_)
                  refine L_op rfl (X_extract (l := [(.agg #[p_o, c_o, i_o, (.bool (off))]), (.int .i64 (0))]) (v := (.int .i64 (0))) rfl rfl ?_)
                  refine L_op rfl (X_alloc (z := (.agg #[(.slice none 0 0), (.slice none 0 0), (.slice none 0 0), (.bool (false))])) (c := #[(.slice none 0 0), (.slice none 0 0), (.slice none 0 0), (.bool (false))]) Zv26 rfl ?_)
                  intro b27 w27 hn27
                  have hbn27 := hn27.num; have hbs27 := hn27.size
                  replace hp := hp.ext hn27.ext
                  replace hc := hc.ext hn27.ext
                  replace hb := hb.ext hn27.ext
                  replace hLl := hLl.ext hn27.ext
                  replace hB1 := hB1.ext hn27.ext
                  replace hB2 := hB2.ext hn27.ext
                  replace hB15 := hB15.ext hn27.ext
                  replace hU := hU.trans (Ext.upd hn27.ext)
                  replace hPo := hPo.ext hn27.ext
                  replace hCo := hCo.ext hn27.ext
                  replace hIo := hIo.ext hn27.ext
                  have hB27 := hn27.blk
                  refine L_op0 (X_storeW (b := b27) (ys := [p_o, c_o, i_o, (.bool (off))]) A26 rfl rfl (List.forall_mem_cons.2 ⟨(hPo.1.sv.one), (List.forall_mem_cons.2 ⟨(hCo.1.sv.one), (List.forall_mem_cons.2 ⟨(hIo.1.sv.one), (List.forall_mem_cons.2 ⟨rfl, (fun _ h => by cases h)⟩)⟩)⟩)⟩) rfl hB27 rfl ?_)
                  intro w28 hu28 hb28
                  have hz28 := hu28.size
                  replace hp := hp.upd hu28 fun i h1 h2 h => by have h : i = b27 := h; omega
                  replace hc := hc.upd hu28 fun i h1 h2 h => by have h : i = b27 := h; omega
                  replace hb := hb.upd hu28 fun i h1 h2 h => by have h : i = b27 := h; omega
                  replace hLl := hLl.upd hu28 fun i h1 h2 h => by have h : i = b27 := h; omega
                  replace hB1 := hB1.upd hu28 fun h => by have h : b1 = b27 := h; omega
                  replace hB2 := hB2.upd hu28 fun h => by have h : b2 = b27 := h; omega
                  replace hB15 := hB15.upd hu28 fun h => by have h : b15 = b27 := h; omega
                  replace hU := hU.trans (hu28.mono fun i _ h => by have h : i = b27 := h; show n0 ≤ i; omega)
                  replace hPo := hPo.upd hu28 fun i h1 h2 h => by have h : i = b27 := h; omega
                  replace hCo := hCo.upd hu28 fun i h1 h2 h => by have h : i = b27 := h; omega
                  replace hIo := hIo.upd hu28 fun i h1 h2 h => by have h : i = b27 := h; omega
                  replace hB27 : Blk w28 b27 #[p_o, c_o, i_o, (.bool (off))] 26 := hb28
                  refine L_op rfl (X_assign (v := (.int .i64 (0))) rfl ?_)
                  refine L_nil ?_
                  refine T_n ?_
                  refine W_seq ?_
                  refine W_reg ?_
                  refine L_op rfl (X_loadA (p := (ptr b27 (0))) (xs := [p_o, c_o, i_o, (.bool (off))]) A26 rfl hB27.atAll rfl ?_)
                  obtain ⟨s_m, hs_m⟩ : ∃ n, n = w28.heap.size := ⟨_, rfl⟩
                  refine L_op rfl (X_fn (vs := [(.agg ([p_o, c_o, i_o, (.bool (off))]).toArray)]) en14 rfl (CT.mono (c_waits p_o c_o i_o ps (cs ++ [(m, p)]) bs off _ s_o u_o (by omega) hPo.rd hCo.rd hIo.rd (by simp only [List.length_append, List.length_singleton]; omega)) ?_))
                  rintro v_m w29 ⟨_, hLm, rfl, hu29⟩
                  have hz29 := hu29.size
                  replace hp := hp.ext hu29
                  replace hc := hc.ext hu29
                  replace hb := hb.ext hu29
                  replace hLl := hLl.ext hu29
                  replace hB1 := hB1.ext hu29
                  replace hB2 := hB2.ext hu29
                  replace hB15 := hB15.ext hu29
                  replace hU := hU.trans (Ext.upd hu29)
                  replace hPo := hPo.ext hu29
                  replace hCo := hCo.ext hu29
                  replace hIo := hIo.ext hu29
                  replace hB27 := hB27.ext hu29
                  obtain ⟨u_m, hu_m⟩ : ∃ n, n = w29.heap.size := ⟨_, rfl⟩
                  rw [← hs_m, ← hu_m] at hLm
                  refine L_op rfl (X_assign (v := v_m) rfl ?_)
                  refine L_nil ?_
                  refine T_n ?_
                  refine W_seq ?_
                  refine W_reg ?_
                  refine L_op rfl (X_assign (v := (.int .i64 (1))) rfl ?_)
                  refine L_nil ?_
                  refine T_n ?_
                  refine W_seq ?_
                  refine W_seq ?_
                  refine W_reg ?_
                  refine L_op rfl (X_move (v := (.int .i64 (m))) rfl ?_)
                  refine L_op rfl (X_idxAP (len := 256) (sz := 1) (b := b15) (o := 0) (k := .i64) (i := m) (r := (m : Int).toNat) Try.underlying50 Z4 rfl rfl (by omega) (by omega) (by omega) ?_)
                  refine L_op rfl (X_load (p := (ptr b15 ((m : Int).toNat))) (v := .bool (decide (m ∈ fstW cs))) T4 rfl (hB15.at1 (by rw [show (m : Int).toNat = (m : Int).toNat by omega]; exact tab_get (by omega) (by omega))) ?_)
                  refine L_nil ?_
                  refine T_n ?_
                  refine W_cb (t := decide (m ∈ fstW cs)) rfl (fun hq30 => ?_) (fun hq30 => ?_)
                  · refine W_reg ?_
                    refine L_op rfl (X_assign (v := (.int .i64 (0))) rfl ?_)
                    refine L_nil ?_
                    refine T_n ?_
                    refine W_seq ?_
                    refine W_reg ?_
                    rw [if_pos (.inl (of_decide_eq_true hq30))] at hlen2
                    refine L_op rfl (X_move (v := (.int .i64 (0))) rfl ?_)
                    refine L_op rfl (X_cmp (k := .i64) (a := 0) (b := 0) (r := true) rfl rfl rfl rfl ?_)
                    refine L_op rfl (X_move (v := (.bool (true))) rfl ?_)
                    refine L_gy (dj := 123) rfl rfl rfl (X_move (v := v_l) rfl ?_)
                    refine L_gy (dj := 123) rfl rfl rfl (X_len (v := v_l) (n := (waitsW cs).length) Try.underlying24 rfl hLl.1.sv ?_)
                    refine L_gy (dj := 123) rfl rfl rfl (X_move (v := (.int .i64 (((n : Nat) : Int)))) rfl ?_)
                    refine L_gy (dj := 123) rfl rfl rfl (X_cmp (k := .i64) (a := (((waitsW cs).length : Nat) : Int)) (b := ((n : Nat) : Int)) (r := true) rfl rfl rfl (decide_eq_true (p := (((((waitsW cs).length : Nat) : Int)) : Int) = ((((n : Nat) : Int)) : Int)) (by omega)) ?_)
                    refine L_op rfl (X_pick (t := true) (v := (.bool (true))) rfl rfl ?_)
                    refine L_op rfl (X_move (v := (.bool (true))) rfl ?_)
                    refine L_gy (dj := 129) rfl rfl rfl (X_move (v := v_m) rfl ?_)
                    refine L_gy (dj := 129) rfl rfl rfl (X_len (v := v_m) (n := (waitsW (cs ++ [(m, p)])).length) Try.underlying24 rfl hLm.1.sv ?_)
                    refine L_gy (dj := 129) rfl rfl rfl (X_move (v := (.int .i64 (((n : Nat) : Int)))) rfl ?_)
                    refine L_gy (dj := 129) rfl rfl rfl (X_move (v := (.int .i64 (0))) rfl ?_)
                    refine L_gy (dj := 129) rfl rfl rfl (X_arith (k := .i64) (a := ((n : Nat) : Int)) (b := 0) (r := (((n : Nat) : Int) + 0 : Int)) rfl rfl rfl (iadd64 rfl (by omega) (by omega)) ?_)
                    refine L_gy (dj := 129) rfl rfl rfl (X_cmp (k := .i64) (a := (((waitsW (cs ++ [(m, p)])).length : Nat) : Int)) (b := (((n : Nat) : Int) + 0 : Int)) (r := true) rfl rfl rfl (decide_eq_true (p := (((((waitsW (cs ++ [(m, p)])).length : Nat) : Int)) : Int) = (((((n : Nat) : Int) + 0 : Int)) : Int)) (by omega)) ?_)
                    refine L_op rfl (X_pick (t := true) (v := (.bool (true))) rfl rfl ?_)
                    refine L_op rfl (X_move (v := (.bool (true))) rfl ?_)
                    refine L_gy (dj := 137) rfl rfl rfl (X_fn (vs := []) en10 rfl (CT.mono (c_wakes _) ?_))
                    rintro vb31 w31 ⟨hvb31, hu31⟩
                    have hz31 := hu31.size
                    replace hp := hp.ext hu31
                    replace hc := hc.ext hu31
                    replace hb := hb.ext hu31
                    replace hLl := hLl.ext hu31
                    replace hB1 := hB1.ext hu31
                    replace hB2 := hB2.ext hu31
                    replace hB15 := hB15.ext hu31
                    replace hU := hU.trans (Ext.upd hu31)
                    replace hPo := hPo.ext hu31
                    replace hCo := hCo.ext hu31
                    replace hIo := hIo.ext hu31
                    replace hB27 := hB27.ext hu31
                    replace hLm := hLm.ext hu31
                    subst hvb31
                    refine L_op rfl (X_pick (t := true) (v := (.bool (true))) rfl rfl ?_)
                    refine L_op rfl (X_assign (v := (.bool (true))) rfl ?_)
                    refine L_nil ?_
                    refine T_n ?_
                    refine W_ret ?_
                    exact BQ_r (End_1 Try.results7 (v := .bool true) rfl ⟨rfl, hU.own hn0⟩)
                  · refine W_skip ?_
                    refine T_n ?_
                    refine W_seq ?_
                    refine W_reg ?_
                    rw [if_neg (fun h_ => h_.elim (of_decide_eq_false hq30) (fun h2_ => by omega))] at hlen2
                    refine L_op rfl (X_move (v := (.int .i64 (0))) rfl ?_)
                    refine L_op rfl (X_cmp (k := .i64) (a := 0) (b := 0) (r := true) rfl rfl rfl rfl ?_)
                    refine L_op rfl (X_move (v := (.bool (true))) rfl ?_)
                    refine L_gy (dj := 123) rfl rfl rfl (X_move (v := v_l) rfl ?_)
                    refine L_gy (dj := 123) rfl rfl rfl (X_len (v := v_l) (n := (waitsW cs).length) Try.underlying24 rfl hLl.1.sv ?_)
                    refine L_gy (dj := 123) rfl rfl rfl (X_move (v := (.int .i64 (((n : Nat) : Int)))) rfl ?_)
                    refine L_gy (dj := 123) rfl rfl rfl (X_cmp (k := .i64) (a := (((waitsW cs).length : Nat) : Int)) (b := ((n : Nat) : Int)) (r := true) rfl rfl rfl (decide_eq_true (p := (((((waitsW cs).length : Nat) : Int)) : Int) = ((((n : Nat) : Int)) : Int)) (by omega)) ?_)
                    refine L_op rfl (X_pick (t := true) (v := (.bool (true))) rfl rfl ?_)
                    refine L_op rfl (X_move (v := (.bool (true))) rfl ?_)
                    refine L_gy (dj := 129) rfl rfl rfl (X_move (v := v_m) rfl ?_)
                    refine L_gy (dj := 129) rfl rfl rfl (X_len (v := v_m) (n := (waitsW (cs ++ [(m, p)])).length) Try.underlying24 rfl hLm.1.sv ?_)
                    refine L_gy (dj := 129) rfl rfl rfl (X_move (v := (.int .i64 (((n : Nat) : Int)))) rfl ?_)
                    refine L_gy (dj := 129) rfl rfl rfl (X_move (v := (.int .i64 (1))) rfl ?_)
                    refine L_gy (dj := 129) rfl rfl rfl (X_arith (k := .i64) (a := ((n : Nat) : Int)) (b := 1) (r := (((n : Nat) : Int) + 1 : Int)) rfl rfl rfl (iadd64 rfl (by omega) (by omega)) ?_)
                    refine L_gy (dj := 129) rfl rfl rfl (X_cmp (k := .i64) (a := (((waitsW (cs ++ [(m, p)])).length : Nat) : Int)) (b := (((n : Nat) : Int) + 1 : Int)) (r := true) rfl rfl rfl (decide_eq_true (p := (((((waitsW (cs ++ [(m, p)])).length : Nat) : Int)) : Int) = (((((n : Nat) : Int) + 1 : Int)) : Int)) (by omega)) ?_)
                    refine L_op rfl (X_pick (t := true) (v := (.bool (true))) rfl rfl ?_)
                    refine L_op rfl (X_move (v := (.bool (true))) rfl ?_)
                    refine L_gy (dj := 137) rfl rfl rfl (X_fn (vs := []) en10 rfl (CT.mono (c_wakes _) ?_))
                    rintro vb32 w32 ⟨hvb32, hu32⟩
                    have hz32 := hu32.size
                    replace hp := hp.ext hu32
                    replace hc := hc.ext hu32
                    replace hb := hb.ext hu32
                    replace hLl := hLl.ext hu32
                    replace hB1 := hB1.ext hu32
                    replace hB2 := hB2.ext hu32
                    replace hB15 := hB15.ext hu32
                    replace hU := hU.trans (Ext.upd hu32)
                    replace hPo := hPo.ext hu32
                    replace hCo := hCo.ext hu32
                    replace hIo := hIo.ext hu32
                    replace hB27 := hB27.ext hu32
                    replace hLm := hLm.ext hu32
                    subst hvb32
                    refine L_op rfl (X_pick (t := true) (v := (.bool (true))) rfl rfl ?_)
                    refine L_op rfl (X_assign (v := (.bool (true))) rfl ?_)
                    refine L_nil ?_
                    refine T_n ?_
                    refine W_ret ?_
                    exact BQ_r (End_1 Try.results7 (v := .bool true) rfl ⟨rfl, hU.own hn0⟩)
    · rw [hc7]
      refine L_gy (dj := 20) rfl rfl rfl (X_not (b := false) (r := true) rfl rfl ?_)
      refine L_op rfl (X_pick (t := false) (v := (.bool (true))) rfl rfl ?_)
      refine L_op rfl (X_move (v := (.bool (true))) rfl ?_)
      refine L_gn (dj := 25) (t := true) rfl rfl rfl rfl ?_
      refine L_gn (dj := 25) (t := true) rfl rfl rfl rfl ?_
      refine L_op rfl (X_pick (t := true) (v := (.bool (true))) rfl rfl ?_)
      refine L_op rfl (X_move (v := (.bool (true))) rfl ?_)
      refine L_gn (dj := 29) (t := true) rfl rfl rfl rfl ?_
      refine L_gn (dj := 29) (t := true) rfl rfl rfl rfl ?_
      refine L_op rfl (X_pick (t := true) (v := (.bool (true))) rfl rfl ?_)
      refine L_op rfl (X_move (v := (.bool (true))) rfl ?_)
      refine L_gn (dj := 33) (t := true) rfl rfl rfl rfl ?_
      refine L_gn (dj := 33) (t := true) rfl rfl rfl rfl ?_
      refine L_gn (dj := 33) (t := true) rfl rfl rfl rfl ?_
      refine L_gn (dj := 33) (t := true) rfl rfl rfl rfl ?_
      refine L_gn (dj := 33) (t := true) rfl rfl rfl rfl ?_
      refine L_op rfl (X_pick (t := true) (v := (.bool (true))) rfl rfl ?_)
      refine L_nil ?_
      refine T_n ?_
      refine W_ct rfl ?_
      refine W_seq ?_
      refine W_reg ?_
      refine L_op rfl (X_fn (vs := []) en10 rfl (CT.mono (c_wakes _) ?_))
      rintro vb33 w33 ⟨hvb33, hu33⟩
      have hz33 := hu33.size
      replace hp := hp.ext hu33
      replace hc := hc.ext hu33
      replace hb := hb.ext hu33
      replace hU := hU.trans (Ext.upd hu33)
      replace hB1 := hB1.ext hu33
      replace hB2 := hB2.ext hu33
      subst hvb33
      refine L_op rfl (X_assign (v := (.bool (true))) rfl ?_)
      refine L_nil ?_
      refine T_n ?_
      refine W_ret ?_
      refine T_r ?_
      exact BQ_r (End_1 Try.results7 (v := .bool true) rfl ⟨rfl, hU.own hn0⟩)
end Go.Proofs.Ythongcaijgfojaa
