/-
  The references of chapter 08: Decode, Many. (Printed by wip/gen/t08t.py of this repo.)
-/
import Derived.Test.YtmggaahkfidfaaaDoorRefsC
namespace Go.Proofs.YtmggaahkfidfaaaDoor
open Go Go.SL Go.Proofs
set_option linter.unusedVariables false

theorem c_decodeR (p : List UInt8) (w : World) (hp : p.length = 256) : CT Tryd.prog 12 #[(.agg ((p).map byteV).toArray)] w fun v w' => ∃ s, v = .tuple #[s, .agg (ptC (decN p)).toArray, .int .i64 (decE p)] ∧ Own w' w.heap.size 5 1 s (decB p).length ((decB p).map byteV) ∧ Ext w w' := by
  obtain ⟨n0, hn0⟩ : ∃ n, n = w.heap.size := ⟨_, rfl⟩
  have hU : Upd (fun i => n0 ≤ i) w w := Upd.refl _ _
  refine CT_of Tryd.func12 rfl rfl rfl ?_
  refine W_seq ?_
  refine W_reg ?_
  refine L_op rfl (X_box (v := (.agg ((p).map byteV).toArray)) (c := ((p).map byteV).toArray) rfl rfl ?_)
  intro b1 w1 hn1
  have hbn1 := hn1.num; have hbs1 := hn1.size
  replace hU := hU.trans (Ext.upd hn1.ext)
  have hB1 := hn1.blk
  refine L_op rfl (X_assign (v := (.slice none 0 0)) rfl ?_)
  refine L_op rfl (X_alloc (z := (.agg #[(.int .u8 (0)), (.int .u16 (0)), (.int .u16 (0)), (.int .u32 (0)), (.int .u64 (0))])) (c := #[(.int .u8 (0)), (.int .u16 (0)), (.int .u16 (0)), (.int .u32 (0)), (.int .u64 (0))]) Zv28 rfl ?_)
  intro b2 w2 hn2
  have hbn2 := hn2.num; have hbs2 := hn2.size
  replace hU := hU.trans (Ext.upd hn2.ext)
  replace hB1 := hB1.ext hn2.ext
  have hB2 := hn2.blk
  refine L_op rfl (X_assign (v := (.int .i64 (0))) rfl ?_)
  refine L_nil ?_
  refine T_n ?_
  refine W_seq ?_
  refine W_reg ?_
  refine L_op rfl (X_sliceAL (len := 256) (sz := 1) (b := b1) (l := 1) (h' := 256) (kl := .i64) (kh := .i64) Tryd.underlying30 Z5 rfl rfl rfl (by decide) (by decide) ?_)
  have hLp : Rd w2 1 (cutv (.slice (some ⟨b1, 0, none⟩) 256 256) 1 (1) (256)) (dL p).length ((dL p).map byteV) := (hB1.rdL (n := 256) (hp) (by decide) (lo := 1) (hi := 256) (by decide) (by decide) (m := (dL p)) rfl)
  obtain ⟨sT, hsT⟩ : ∃ n, n = w2.heap.size := ⟨_, rfl⟩
  refine L_op rfl (X_fn (vs := [(cutv (.slice (some ⟨b1, 0, none⟩) 256 256) 1 (1) (256)), (.int .i64 (200))]) en29 rfl (CT.mono (c_takeBytesR _ (dL p) 200 _ hLp) ?_))
  rintro _ w4 ⟨s, r, rfl, hOs, hRr, hrb, hu4⟩
  have hz4 := hu4.size
  rw [← hsT] at hOs
  replace hU := hU.trans (Ext.upd hu4)
  replace hB1 := hB1.ext hu4
  replace hB2 := hB2.ext hu4
  have hOs_c : ∀ b, obk s = some b → sT ≤ b ∧ b < w4.heap.size := fun b hb => hOs.lt hb
  have hRr_b : ∀ b, rbk r = some b → b = b1 := fun b hb => (Option.some.inj (show some b1 = some b from hrb b hb)).symm
  refine L_op rfl (X_move (v := (.tuple #[s, r, (.int .i64 ((takeE (dL p) 200)))])) rfl ?_)
  refine L_op rfl (X_extract (l := [s, r, (.int .i64 ((takeE (dL p) 200)))]) (v := s) rfl rfl ?_)
  refine L_op rfl (X_extract (l := [s, r, (.int .i64 ((takeE (dL p) 200)))]) (v := r) rfl rfl ?_)
  refine L_op rfl (X_extract (l := [s, r, (.int .i64 ((takeE (dL p) 200)))]) (v := (.int .i64 ((takeE (dL p) 200)))) rfl rfl ?_)
  refine L_op rfl (X_assign (v := s) rfl ?_)
  refine L_op rfl (X_assign (v := r) rfl ?_)
  refine L_op rfl (X_assign (v := (.int .i64 ((takeE (dL p) 200)))) rfl ?_)
  refine L_nil ?_
  refine T_n ?_
  refine W_seq ?_
  refine W_seq ?_
  refine W_reg ?_
  refine L_op rfl (X_move (v := (.int .i64 ((takeE (dL p) 200)))) rfl ?_)
  by_cases hc5 : ((takeE (dL p) 200) : Int) ≠ (0)
  · refine L_op rfl (X_cmp (k := .i64) (a := (takeE (dL p) 200)) (b := 0) (r := true) rfl rfl rfl (decide_eq_true (p := (((takeE (dL p) 200)) : Int) ≠ ((0) : Int)) (by omega)) ?_)
    refine L_nil ?_
    refine T_n ?_
    refine W_ct rfl ?_
    refine W_seq ?_
    refine W_reg ?_
    refine L_op rfl (X_build built28z ?_)
    refine L_op rfl (X_assign (v := (.slice none 0 0)) rfl ?_)
    refine L_op0 (X_storeSameW A28 rfl rfl (ptC_one ptZ) rfl hB2 ?_)
    refine L_op rfl (X_assign (v := (.int .i64 (50))) rfl ?_)
    refine L_nil ?_
    refine T_n ?_
    refine W_ret ?_
    refine T_r ?_
    have hno : ¬ DecOk p := fun h => by obtain ⟨h1, h2, h3, h4⟩ := h; omega
    exact BQ_r (End_3 Tryd.results12 (v1 := .slice none 0 0) rfl (RV_A A28 rfl hB2.atAll rfl) (v3 := .int .i64 50) rfl ⟨.slice none 0 0, by rw [show decN p = ptZ from if_neg hno, show decE p = 50 from if_neg hno]; rfl, by rw [show decB p = [] from if_neg hno]; exact Own.nil _ _ _ _, hU.own hn0⟩)
  · refine L_op rfl (X_cmp (k := .i64) (a := (takeE (dL p) 200)) (b := 0) (r := false) rfl rfl rfl (decide_eq_false (p := (((takeE (dL p) 200)) : Int) ≠ ((0) : Int)) (by omega)) ?_)
    refine L_nil ?_
    refine T_n ?_
    refine W_cf rfl ?_
    refine W_skip ?_
    refine T_n ?_
    refine W_seq ?_
    refine W_reg ?_
    refine L_op rfl (X_move (v := r) rfl ?_)
    refine L_op rfl (X_fn (vs := [r]) en30 rfl (CT.mono (c_ptrTakeR r (dR p) _ hRr) ?_))
    rintro _ w6 ⟨r2, rfl, _, _, hu6⟩
    have hz6 := hu6.size
    replace hU := hU.trans (Ext.upd hu6)
    replace hB1 := hB1.ext hu6
    replace hB2 := hB2.ext hu6
    replace hOs := hOs.ext hu6
    replace hRr := hRr.ext hu6
    refine L_op rfl (X_move (v := (.tuple #[(.agg (ptC (dQ p)).toArray), r2, (.int .i64 ((takeQE (dR p))))])) rfl ?_)
    refine L_op rfl (X_extract (l := [(.agg (ptC (dQ p)).toArray), r2, (.int .i64 ((takeQE (dR p))))]) (v := (.agg (ptC (dQ p)).toArray)) rfl rfl ?_)
    refine L_op rfl (X_extract (l := [(.agg (ptC (dQ p)).toArray), r2, (.int .i64 ((takeQE (dR p))))]) (v := r2) rfl rfl ?_)
    refine L_op rfl (X_extract (l := [(.agg (ptC (dQ p)).toArray), r2, (.int .i64 ((takeQE (dR p))))]) (v := (.int .i64 ((takeQE (dR p))))) rfl rfl ?_)
    refine L_op rfl (X_alloc (z := (.agg #[(.int .u8 (0)), (.int .u16 (0)), (.int .u16 (0)), (.int .u32 (0)), (.int .u64 (0))])) (c := #[(.int .u8 (0)), (.int .u16 (0)), (.int .u16 (0)), (.int .u32 (0)), (.int .u64 (0))]) Zv28 rfl ?_)
    intro b7 w7 hn7
    have hbn7 := hn7.num; have hbs7 := hn7.size
    replace hU := hU.trans (Ext.upd hn7.ext)
    replace hB1 := hB1.ext hn7.ext
    replace hB2 := hB2.ext hn7.ext
    replace hOs := hOs.ext hn7.ext
    replace hRr := hRr.ext hn7.ext
    have hB7 := hn7.blk
    refine L_op0 (X_storeW (b := b7) (ys := [(.int .u8 ((dQ p).1)), (.int .u16 ((dQ p).2.1)), (.int .u16 ((dQ p).2.2.1)), (.int .u32 ((dQ p).2.2.2.1)), (.int .u64 ((dQ p).2.2.2.2))]) A28 rfl rfl (List.forall_mem_cons.2 ⟨rfl, (List.forall_mem_cons.2 ⟨rfl, (List.forall_mem_cons.2 ⟨rfl, (List.forall_mem_cons.2 ⟨rfl, (List.forall_mem_cons.2 ⟨rfl, (fun _ h => by cases h)⟩)⟩)⟩)⟩)⟩) rfl hB7 rfl ?_)
    intro w8 hu8 hb8
    have hz8 := hu8.size
    replace hU := hU.trans (hu8.mono fun i _ h => by have h : i = b7 := h; show n0 ≤ i; omega)
    replace hB1 := hB1.upd hu8 fun h => by have h : b1 = b7 := h; omega
    replace hB2 := hB2.upd hu8 fun h => by have h : b2 = b7 := h; omega
    replace hOs := hOs.upd hu8 fun i hi h => by have hi := hOs_c _ hi; have h : i = b7 := h; omega
    replace hRr := hRr.upd hu8 fun i hi h => by have hi := hRr_b _ hi; have h : i = b7 := h; omega
    replace hB7 : Blk w8 b7 #[(.int .u8 ((dQ p).1)), (.int .u16 ((dQ p).2.1)), (.int .u16 ((dQ p).2.2.1)), (.int .u32 ((dQ p).2.2.2.1)), (.int .u64 ((dQ p).2.2.2.2))] 28 := hb8
    refine L_op rfl (X_assign (v := r2) rfl ?_)
    refine L_op rfl (X_assign (v := (.int .i64 ((takeQE (dR p))))) rfl ?_)
    refine L_nil ?_
    refine T_n ?_
    refine W_seq ?_
    refine W_seq ?_
    refine W_reg ?_
    refine L_op rfl (X_move (v := (.int .i64 ((takeQE (dR p))))) rfl ?_)
    by_cases hc9 : ((takeQE (dR p)) : Int) ≠ (0)
    · refine L_op rfl (X_cmp (k := .i64) (a := (takeQE (dR p))) (b := 0) (r := true) rfl rfl rfl (decide_eq_true (p := (((takeQE (dR p))) : Int) ≠ ((0) : Int)) (by omega)) ?_)
      refine L_nil ?_
      refine T_n ?_
      refine W_ct rfl ?_
      refine W_seq ?_
      refine W_reg ?_
      refine L_op rfl (X_build built28z ?_)
      refine L_op rfl (X_assign (v := (.slice none 0 0)) rfl ?_)
      refine L_op0 (X_storeSameW A28 rfl rfl (ptC_one ptZ) rfl hB2 ?_)
      refine L_op rfl (X_assign (v := (.int .i64 (50))) rfl ?_)
      refine L_nil ?_
      refine T_n ?_
      refine W_ret ?_
      refine T_r ?_
      have hno : ¬ DecOk p := fun h => by obtain ⟨h1, h2, h3, h4⟩ := h; omega
      exact BQ_r (End_3 Tryd.results12 (v1 := .slice none 0 0) rfl (RV_A A28 rfl hB2.atAll rfl) (v3 := .int .i64 50) rfl ⟨.slice none 0 0, by rw [show decN p = ptZ from if_neg hno, show decE p = 50 from if_neg hno]; rfl, by rw [show decB p = [] from if_neg hno]; exact Own.nil _ _ _ _, hU.own hn0⟩)
    · refine L_op rfl (X_cmp (k := .i64) (a := (takeQE (dR p))) (b := 0) (r := false) rfl rfl rfl (decide_eq_false (p := (((takeQE (dR p))) : Int) ≠ ((0) : Int)) (by omega)) ?_)
      refine L_nil ?_
      refine T_n ?_
      refine W_cf rfl ?_
      refine W_skip ?_
      refine T_n ?_
      refine W_seq ?_
      refine W_reg ?_
      refine L_op rfl (X_move (v := s) rfl ?_)
      refine L_op rfl (X_loadA (p := (ptr b7 (0))) (xs := ptC (dQ p)) A28 rfl hB7.atAll rfl ?_)
      refine L_op rfl (X_fn (vs := [s, (.agg (ptC (dQ p)).toArray)]) en11 rfl (CT.mono (c_encodeR s (dS p) (dQ p) _ (takeQ_ok _) hOs.rd) ?_))
      rintro _ w10 ⟨rfl, hu10⟩
      have hz10 := hu10.size
      replace hU := hU.trans (Ext.upd hu10)
      replace hB1 := hB1.ext hu10
      replace hB2 := hB2.ext hu10
      replace hOs := hOs.ext hu10
      replace hRr := hRr.ext hu10
      replace hB7 := hB7.ext hu10
      refine L_op rfl (X_move (v := (.tuple #[(.agg (((encP (dS p) (dQ p))).map byteV).toArray), (.int .i64 ((encE (dS p) (dQ p))))])) rfl ?_)
      refine L_op rfl (X_extract (l := [(.agg (((encP (dS p) (dQ p))).map byteV).toArray), (.int .i64 ((encE (dS p) (dQ p))))]) (v := (.agg (((encP (dS p) (dQ p))).map byteV).toArray)) rfl rfl ?_)
      refine L_op rfl (X_extract (l := [(.agg (((encP (dS p) (dQ p))).map byteV).toArray), (.int .i64 ((encE (dS p) (dQ p))))]) (v := (.int .i64 ((encE (dS p) (dQ p))))) rfl rfl ?_)
      refine L_op rfl (X_alloc (z := zv30) (c := zc30.toArray) Zv30 rfl ?_)
      intro b11 w11 hn11
      have hbn11 := hn11.num; have hbs11 := hn11.size
      replace hU := hU.trans (Ext.upd hn11.ext)
      replace hB1 := hB1.ext hn11.ext
      replace hB2 := hB2.ext hn11.ext
      replace hOs := hOs.ext hn11.ext
      replace hRr := hRr.ext hn11.ext
      replace hB7 := hB7.ext hn11.ext
      have hB11 := hn11.blk
      rw [zc30_eq] at hB11
      refine L_op0 (X_storeW (b := b11) (ys := (((encP (dS p) (dQ p))).map byteV)) A30 rfl rfl (byteV_one _) (by rw [List.length_map]; exact (encP_len _ _)) hB11 (by rw [List.size_toArray]; exact (by rw [List.length_map]; exact List.length_replicate)) ?_)
      intro w12 hu12 hb12
      have hz12 := hu12.size
      replace hU := hU.trans (hu12.mono fun i _ h => by have h : i = b11 := h; show n0 ≤ i; omega)
      replace hB1 := hB1.upd hu12 fun h => by have h : b1 = b11 := h; omega
      replace hB2 := hB2.upd hu12 fun h => by have h : b2 = b11 := h; omega
      replace hOs := hOs.upd hu12 fun i hi h => by have hi := hOs_c _ hi; have h : i = b11 := h; omega
      replace hRr := hRr.upd hu12 fun i hi h => by have hi := hRr_b _ hi; have h : i = b11 := h; omega
      replace hB7 := hB7.upd hu12 fun h => by have h : b7 = b11 := h; omega
      replace hB11 := hb12
      refine L_op rfl (X_assign (v := (.int .i64 ((encE (dS p) (dQ p))))) rfl ?_)
      refine L_nil ?_
      refine T_n ?_
      refine W_seq ?_
      refine W_seq ?_
      refine W_reg ?_
      refine L_op rfl (X_move (v := (.int .i64 ((encE (dS p) (dQ p))))) rfl ?_)
      by_cases hc13 : ((encE (dS p) (dQ p)) : Int) ≠ (0)
      · refine L_op rfl (X_cmp (k := .i64) (a := (encE (dS p) (dQ p))) (b := 0) (r := true) rfl rfl rfl (decide_eq_true (p := (((encE (dS p) (dQ p))) : Int) ≠ ((0) : Int)) (by omega)) ?_)
        refine L_op rfl (X_move (v := (.bool (true))) rfl ?_)
        refine L_gn (dj := 37) (t := true) rfl rfl rfl rfl ?_
        refine L_gn (dj := 37) (t := true) rfl rfl rfl rfl ?_
        refine L_gn (dj := 37) (t := true) rfl rfl rfl rfl ?_
        refine L_op rfl (X_pick (t := true) (v := (.bool (true))) rfl rfl ?_)
        refine L_nil ?_
        refine T_n ?_
        refine W_ct rfl ?_
        refine W_seq ?_
        refine W_reg ?_
        refine L_op rfl (X_build built28z ?_)
        refine L_op rfl (X_assign (v := (.slice none 0 0)) rfl ?_)
        refine L_op0 (X_storeSameW A28 rfl rfl (ptC_one ptZ) rfl hB2 ?_)
        refine L_op rfl (X_assign (v := (.int .i64 (50))) rfl ?_)
        refine L_nil ?_
        refine T_n ?_
        refine W_ret ?_
        refine T_r ?_
        have hno : ¬ DecOk p := fun h => by obtain ⟨h1, h2, h3, h4⟩ := h; omega
        exact BQ_r (End_3 Tryd.results12 (v1 := .slice none 0 0) rfl (RV_A A28 rfl hB2.atAll rfl) (v3 := .int .i64 50) rfl ⟨.slice none 0 0, by rw [show decN p = ptZ from if_neg hno, show decE p = 50 from if_neg hno]; rfl, by rw [show decB p = [] from if_neg hno]; exact Own.nil _ _ _ _, hU.own hn0⟩)
      · refine L_op rfl (X_cmp (k := .i64) (a := (encE (dS p) (dQ p))) (b := 0) (r := false) rfl rfl rfl (decide_eq_false (p := (((encE (dS p) (dQ p))) : Int) ≠ ((0) : Int)) (by omega)) ?_)
        refine L_op rfl (X_move (v := (.bool (false))) rfl ?_)
        refine L_gy (dj := 37) rfl rfl rfl (X_loadA (p := (ptr b11 (0))) (xs := (((encP (dS p) (dQ p))).map byteV)) A30 rfl hB11.atAll (by rw [List.length_map]; exact (encP_len _ _)) ?_)
        refine L_gy (dj := 37) rfl rfl rfl (X_loadA (p := (ptr b1 (0))) (xs := ((p).map byteV)) A30 rfl hB1.atAll (by rw [List.length_map]; exact hp) ?_)
        rcases Bool.eq_false_or_eq_true ((encP (dS p) (dQ p)) == p) with hc14 | hc14
        · refine L_gy (dj := 37) rfl rfl rfl (X_eqA (n := 256) (l := (encP (dS p) (dQ p))) (m := p) (r := false) Tryd.underlying30 Tryd.underlying5 (by kernel_rfl) (by kernel_rfl) (by kernel_rfl) rfl rfl ((encP_len _ _)) (hp) (.inr ⟨rfl, by rw [hc14]; rfl⟩) ?_)
          refine L_op rfl (X_pick (t := false) (v := (.bool (false))) rfl rfl ?_)
          refine L_nil ?_
          refine T_n ?_
          refine W_cf rfl ?_
          refine W_skip ?_
          refine T_n ?_
          refine W_seq ?_
          refine W_drawB 3 [[], [], [0], [0, 1, 2], [0, 1, 2, 3]] mixed (by kernel_rfl) ?_
          refine ⟨.det (fun val => s), ⟨fun _ _ hv => rfl, fun _ _ _ _ _ => trivial⟩, fun val h_ W hx he => ⟨trivial, ?_⟩, ?_⟩
          · replace hx := (Upd.drew _ _).trans hx
            replace hB1 := hB1.ext hx
            replace hB2 := hB2.ext hx
            replace hOs := hOs.ext hx
            replace hRr := hRr.ext hx
            replace hB7 := hB7.ext hx
            replace hB11 := hB11.ext hx
            have hE := Upd.refl (fun _ => False) W
            refine id (X_move (v := s) rfl ?_)
            exact ⟨hE, rfl⟩
          refine ⟨.det (fun val => (.agg (ptC (dQ p)).toArray)), ⟨fun _ _ hv => rfl, fun _ _ _ _ _ => trivial⟩, fun val h_ W hx he => ⟨trivial, ?_⟩, ?_⟩
          · replace hx := (Upd.drew _ _).trans hx
            replace hB1 := hB1.ext hx
            replace hB2 := hB2.ext hx
            replace hOs := hOs.ext hx
            replace hRr := hRr.ext hx
            replace hB7 := hB7.ext hx
            replace hB11 := hB11.ext hx
            have hE := Upd.refl (fun _ => False) W
            refine id (X_loadA (p := (ptr b7 (0))) (xs := ptC (dQ p)) A28 rfl hB7.atAll rfl ?_)
            exact ⟨hE, rfl⟩
          refine ⟨.det (fun val => s), ⟨fun _ _ hv => rfl, fun _ _ _ _ _ => trivial⟩, fun val h_ W hx he => ⟨trivial, ?_⟩, ?_⟩
          · replace hx := (Upd.drew _ _).trans hx
            replace hB1 := hB1.ext hx
            replace hB2 := hB2.ext hx
            replace hOs := hOs.ext hx
            replace hRr := hRr.ext hx
            replace hB7 := hB7.ext hx
            replace hB11 := hB11.ext hx
            have hE := Upd.refl (fun _ => False) W
            refine id (X_assign (v := s) rfl ?_)
            exact ⟨hE, rfl⟩
          intro val W15 hx15 he15
          replace hx15 := (Upd.drew _ _).trans hx15
          have hz15 := hx15.size
          replace hU := hU.trans (Ext.upd hx15)
          replace hB1 := hB1.ext hx15
          replace hB2 := hB2.ext hx15
          replace hOs := hOs.ext hx15
          replace hRr := hRr.ext hx15
          replace hB7 := hB7.ext hx15
          replace hB11 := hB11.ext hx15
          refine L_op0 (X_storeW (b := b2) (ys := ptC (dQ p)) A28 rfl rfl (ptC_one _) rfl hB2 rfl ?_)
          intro w7 hu7 hb7
          replace hU := hU.trans (hu7.mono fun i _ h => by have h : i = b2 := h; show n0 ≤ i; omega)
          replace hB1 := hB1.upd hu7 fun h => by have h : b1 = b2 := h; omega
          replace hOs := hOs.upd hu7 fun i hi h => by have hi := hOs_c _ hi; have h : i = b2 := h; omega
          replace hRr := hRr.upd hu7 fun i hi h => by have hi := hRr_b _ hi; have h : i = b2 := h; omega
          replace hB7 := hB7.upd hu7 fun h => by have h : b7 = b2 := h; omega
          replace hB11 := hB11.upd hu7 fun h => by have h : b11 = b2 := h; omega
          refine L_op rfl (X_assign (v := (.int .i64 (0))) rfl ?_)
          refine L_nil ?_
          refine T_n ?_
          refine W_ret ?_
          have hdec : DecOk p := ⟨by omega, by omega, by omega, eq_of_beq hc14⟩
          exact BQ_r (End_3 Tryd.results12 (v1 := s) rfl (RV_A A28 rfl hb7.atAll rfl) (v3 := .int .i64 0) rfl ⟨s, by rw [show decN p = dQ p from if_pos hdec, show decE p = 0 from if_pos hdec], by rw [show decB p = dS p from if_pos hdec]; exact hOs.more (by omega), hU.own hn0⟩)
        · refine L_gy (dj := 37) rfl rfl rfl (X_eqA (n := 256) (l := (encP (dS p) (dQ p))) (m := p) (r := true) Tryd.underlying30 Tryd.underlying5 (by kernel_rfl) (by kernel_rfl) (by kernel_rfl) rfl rfl ((encP_len _ _)) (hp) (.inr ⟨rfl, by rw [hc14]; rfl⟩) ?_)
          refine L_op rfl (X_pick (t := false) (v := (.bool (true))) rfl rfl ?_)
          refine L_nil ?_
          refine T_n ?_
          refine W_ct rfl ?_
          refine W_seq ?_
          refine W_reg ?_
          refine L_op rfl (X_build built28z ?_)
          refine L_op rfl (X_assign (v := (.slice none 0 0)) rfl ?_)
          refine L_op0 (X_storeSameW A28 rfl rfl (ptC_one ptZ) rfl hB2 ?_)
          refine L_op rfl (X_assign (v := (.int .i64 (50))) rfl ?_)
          refine L_nil ?_
          refine T_n ?_
          refine W_ret ?_
          refine T_r ?_
          have hno : ¬ DecOk p := fun h => by obtain ⟨h1, h2, h3, h4⟩ := h; exact ne_of_beq_false hc14 h4
          exact BQ_r (End_3 Tryd.results12 (v1 := .slice none 0 0) rfl (RV_A A28 rfl hB2.atAll rfl) (v3 := .int .i64 50) rfl ⟨.slice none 0 0, by rw [show decN p = ptZ from if_neg hno, show decE p = 50 from if_neg hno]; rfl, by rw [show decB p = [] from if_neg hno]; exact Own.nil _ _ _ _, hU.own hn0⟩)

theorem c_manyR (n : Int) (w : World) (hn : n < 9223372036854775808) : CT Tryd.prog 14 #[(.int .i64 (n))] w fun v w' => v = .int .i64 (manyN n) ∧ w = w' := by
  refine CT_of Tryd.func14 rfl rfl rfl ?_
  refine W_seq ?_
  refine W_reg ?_
  refine L_op rfl (X_assign (v := (.int .i64 (0))) rfl ?_)
  refine L_nil ?_
  refine T_n ?_
  refine W_seq ?_
  refine W_seq ?_
  refine W_reg ?_
  refine L_op rfl (X_move (v := (.int .i64 (n))) rfl ?_)
  by_cases hc1 : (n : Int) < (1)
  · refine L_op rfl (X_cmp (k := .i64) (a := n) (b := 1) (r := true) rfl rfl rfl (decide_eq_true (p := ((n) : Int) < ((1) : Int)) (by omega)) ?_)
    refine L_nil ?_
    refine T_n ?_
    refine W_ct rfl ?_
    refine W_seq ?_
    refine W_reg ?_
    refine L_op rfl (X_assign (v := (.int .i64 (0))) rfl ?_)
    refine L_nil ?_
    refine T_n ?_
    refine W_ret ?_
    refine T_r ?_
    exact BQ_r (End_1 Tryd.results14 (v := .int .i64 (0)) rfl ⟨by rw [show manyN n = 0 from if_pos (by omega)], rfl⟩)
  · refine L_op rfl (X_cmp (k := .i64) (a := n) (b := 1) (r := false) rfl rfl rfl (decide_eq_false (p := ((n) : Int) < ((1) : Int)) (by omega)) ?_)
    refine L_nil ?_
    refine T_n ?_
    refine W_cf rfl ?_
    refine W_skip ?_
    refine T_n ?_
    refine W_seq ?_
    refine W_reg ?_
    refine L_op rfl (X_move (v := (.int .i64 (n))) rfl ?_)
    refine L_op rfl (X_arith (k := .i64) (a := n) (b := 1) (r := (n - 1 : Int)) rfl rfl rfl (isub64 rfl (by omega) (by omega)) ?_)
    refine L_op rfl (X_arith (k := .i64) (a := (n - 1 : Int)) (b := 200) (r := ((n - 1 : Int) / 200 : Int)) rfl rfl rfl (iquo64 (by omega) rfl (by omega) (by omega)) ?_)
    refine L_op rfl (X_arith (k := .i64) (a := ((n - 1 : Int) / 200 : Int)) (b := 1) (r := (((n - 1 : Int) / 200 : Int) + 1 : Int)) rfl rfl rfl (iadd64 rfl (by omega) (by omega)) ?_)
    refine L_op rfl (X_assign (v := (.int .i64 ((((n - 1 : Int) / 200 : Int) + 1 : Int)))) rfl ?_)
    refine L_nil ?_
    refine T_n ?_
    refine W_ret ?_
    exact BQ_r (End_1 Tryd.results14 (v := .int .i64 ((((n - 1 : Int) / 200 : Int) + 1 : Int))) rfl ⟨by rw [show manyN n = (n - 1) / 200 + 1 from if_neg (by omega)], rfl⟩)
end Go.Proofs.YtmggaahkfidfaaaDoor
