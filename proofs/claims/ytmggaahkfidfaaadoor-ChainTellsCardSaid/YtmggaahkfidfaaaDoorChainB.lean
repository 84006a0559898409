/-
  The contracts of chains: Decode. (Printed by wip/gen/t08h.py of this repo.)
-/
import Derived.Test.YtmggaahkfidfaaaDoorChain
namespace Go.Proofs.YtmggaahkfidfaaaDoor
open Go Go.SL Go.Proofs
set_option linter.unusedVariables false

theorem c_decode (p : List UInt8) (w : World) (hp : p.length = 256) (hT : TabR w) : CT Tryd.prog 10 #[(.agg ((p).map byteV).toArray)] w fun v w' => ∃ s, v = .tuple #[s, .agg (ptC (decN p)).toArray, .int .i64 (decE p)] ∧ Own w' w.heap.size 5 1 s (decB p).length ((decB p).map byteV) ∧ Ext w w' := by
  obtain ⟨n0, hn0⟩ : ∃ n, n = w.heap.size := ⟨_, rfl⟩
  have hU : Upd (fun i => n0 ≤ i) w w := Upd.refl _ _
  have hn1 := tab_pos hT
  refine CT_of Tryd.func10 rfl rfl rfl ?_
  refine W_seq ?_
  refine W_reg ?_
  refine L_op rfl (X_box (v := (.agg ((p).map byteV).toArray)) (c := ((p).map byteV).toArray) rfl rfl ?_)
  intro b1 w1 hn1
  have hbn1 := hn1.num; have hbs1 := hn1.size
  replace hU := hU.trans (Ext.upd hn1.ext)
  replace hT := hT.ext hn1.ext
  have hB1 := hn1.blk
  refine L_op rfl (X_assign (v := (.slice none 0 0)) rfl ?_)
  refine L_op rfl (X_alloc (z := (.agg #[(.int .u8 (0)), (.int .u16 (0)), (.int .u16 (0)), (.int .u32 (0)), (.int .u64 (0))])) (c := #[(.int .u8 (0)), (.int .u16 (0)), (.int .u16 (0)), (.int .u32 (0)), (.int .u64 (0))]) Zv28 rfl ?_)
  intro b2 w2 hn2
  have hbn2 := hn2.num; have hbs2 := hn2.size
  replace hU := hU.trans (Ext.upd hn2.ext)
  replace hT := hT.ext hn2.ext
  replace hB1 := hB1.ext hn2.ext
  have hB2 := hn2.blk
  refine L_op rfl (X_assign (v := (.int .i64 (0))) rfl ?_)
  refine L_nil ?_
  refine T_n ?_
  refine W_scopeQ ?_
  refine W_seq ?_
  refine W_reg ?_
  refine L_op rfl (X_assign (v := (.int .i64 (50))) rfl ?_)
  refine L_nil ?_
  refine T_n ?_
  refine W_seq ?_
  refine W_label ?_
  refine T_n ?_
  refine W_seq ?_
  refine W_seq ?_
  refine W_reg ?_
  refine L_op rfl (X_move (v := (.int .i64 (0))) rfl ?_)
  refine L_nil ?_
  refine T_n ?_
  refine W_block ?_
  refine W_loop (α := Nat × Value × Int) [2, 4, 5, 6, 7, 8, 9, 10, 11, 12, 13, 14, 15, 16, 17, 18, 19, 20, 21, 22, 23, 24, 25, 26, 27, 28, 29, 30, 31, 32, 33, 34, 35, 36, 37, 38, 39, 40, 41, 42, 43, 44, 45] (fun ⟨i, u, e⟩ => [(12, (.int .i64 (((i : Nat) : Int)))), (2, u), (4, (.int .i64 (e)))]) (fun ⟨i, u, e⟩ w_ => (i = 0 ∧ u = .slice none 0 0 ∧ e = 50 ∧ Blk w_ b2 (ptC ptZ).toArray 28 ∧ Blk w_ b1 (p.map byteV).toArray 30 ∧ TabR w_ ∧ Upd (fun i => n0 ≤ i) w w_) ∨ (i = 1 ∧ e = 0 ∧ DecOk p ∧ Own w_ n0 5 1 u (dS p).length ((dS p).map byteV) ∧ Blk w_ b2 (ptC (dQ p)).toArray 28 ∧ Upd (fun i => n0 ≤ i) w w_)) (fun ⟨i, u, e⟩ => 1 - i) ⟨rfl, (0, .slice none 0 0, 50), .inl ⟨rfl, rfl, rfl, hB2, hB1, hT, hU⟩, Out.refl _ _, ⟨rfl, rfl, rfl, trivial⟩⟩ ?_
  rintro ⟨i, u, e⟩ w3 _ (⟨rfl, rfl, rfl, hB2, hB1, hT, hU⟩ | ⟨rfl, rfl, hdec, hO, hB2, hU⟩)
  · have hsz_ := hU.size
    have hb1l := hB1.lt; have hb2l := hB2.lt
    refine W_seq ?_
    refine W_reg ?_
    refine L_op rfl (X_cmp (k := .i64) (a := 0) (b := 1) (r := true) rfl rfl rfl rfl ?_)
    refine L_nil ?_
    refine T_n ?_
    refine W_seq ?_
    refine W_ct rfl ?_
    refine W_skip ?_
    refine T_n ?_
    refine W_seq ?_
    refine W_block ?_
    refine W_seq ?_
    refine W_reg ?_
    refine L_op rfl (X_sliceAL (len := 256) (sz := 1) (b := b1) (l := 1) (h' := 256) (kl := .i64) (kh := .i64) Tryd.underlying30 Z5 rfl rfl rfl (by decide) (by decide) ?_)
    have hLp : Rd w3 1 (cutv (.slice (some ⟨b1, 0, none⟩) 256 256) 1 (1) (256)) (dL p).length ((dL p).map byteV) := (hB1.rdL (n := 256) (hp) (by decide) (lo := 1) (hi := 256) (by decide) (by decide) (m := (dL p)) rfl)
    refine L_op rfl (X_fn (vs := [(cutv (.slice (some ⟨b1, 0, none⟩) 256 256) 1 (1) (256)), (.int .i64 (200))]) en23 rfl (CT.mono (c_takeBytes _ (dL p) 200 _ hLp) ?_))
    rintro _ w5 ⟨s, r, rfl, hOs, hRr, hrb, hu5⟩
    have hz5 := hu5.size
    obtain ⟨sT, hsT⟩ : ∃ n, n = w3.heap.size := ⟨_, rfl⟩
    rw [← hsT] at hOs
    replace hB1 := hB1.ext hu5
    replace hB2 := hB2.ext hu5
    replace hT := hT.ext hu5
    replace hU := hU.trans (Ext.upd hu5)
    have hOs_b : ∀ b, obk s = some b → b < w5.heap.size := fun b hb => (hOs.lt hb).2
    have hOs_c : ∀ b, obk s = some b → sT ≤ b ∧ b < w5.heap.size := fun b hb => hOs.lt hb
    have hRr_b : ∀ b, rbk r = some b → b = b1 := fun b hb => (Option.some.inj (show some b1 = some b from hrb b hb)).symm
    refine L_op rfl (X_move (v := (.tuple #[s, r, (.int .i64 ((takeE (dL p) 200)))])) rfl ?_)
    refine L_op rfl (X_extract (l := [s, r, (.int .i64 ((takeE (dL p) 200)))]) (v := s) rfl rfl ?_)
    refine L_op rfl (X_extract (l := [s, r, (.int .i64 ((takeE (dL p) 200)))]) (v := r) rfl rfl ?_)
    refine L_op rfl (X_extract (l := [s, r, (.int .i64 ((takeE (dL p) 200)))]) (v := (.int .i64 ((takeE (dL p) 200)))) rfl rfl ?_)
    refine L_op rfl (X_assign (v := s) rfl ?_)
    refine L_op rfl (X_assign (v := r) rfl ?_)
    refine L_op rfl (X_assign (v := (.int .i64 ((takeE (dL p) 200)))) rfl ?_)
    refine L_nil ?_
    refine T_n ?_
    refine W_seq ?_
    refine W_seq ?_
    refine W_reg ?_
    refine L_op rfl (X_move (v := (.int .i64 ((takeE (dL p) 200)))) rfl ?_)
    by_cases hc6 : ((takeE (dL p) 200) : Int) ≠ (0)
    · refine L_op rfl (X_cmp (k := .i64) (a := (takeE (dL p) 200)) (b := 0) (r := true) rfl rfl rfl (decide_eq_true (p := (((takeE (dL p) 200)) : Int) ≠ ((0) : Int)) (by omega)) ?_)
      refine L_nil ?_
      refine T_n ?_
      refine W_ct rfl ?_
      refine W_exit ?_
      refine T_e ?_
      refine B_e rfl ?_
      refine T_e ?_
      refine T_e ?_
      refine B_x ?_
      refine T_n ?_
      refine W_seq ?_
      refine W_drawB 5 [[], [], [], [0], [0, 1, 3], [0, 1, 2, 3, 4]] mixed (by kernel_rfl) ?_
      refine ⟨.det (fun val => (.slice none 0 0)), ⟨fun _ _ hv => rfl, fun _ _ _ _ _ => trivial⟩, fun val h_ W hx he => ⟨trivial, ?_⟩, ?_⟩
      · replace hx := (Upd.drew _ _).trans hx
        replace hB1 := hB1.ext hx
        replace hB2 := hB2.ext hx
        replace hT := hT.ext hx
        replace hOs := hOs.ext hx
        replace hRr := hRr.ext hx
        have hE := Upd.refl (fun _ => False) W
        refine id (X_move (v := (.slice none 0 0)) rfl ?_)
        exact ⟨hE, rfl⟩
      refine ⟨.det (fun val => (.agg (ptC ptZ).toArray)), ⟨fun _ _ hv => rfl, fun _ _ _ _ _ => trivial⟩, fun val h_ W hx he => ⟨trivial, ?_⟩, ?_⟩
      · replace hx := (Upd.drew _ _).trans hx
        replace hB1 := hB1.ext hx
        replace hB2 := hB2.ext hx
        replace hT := hT.ext hx
        replace hOs := hOs.ext hx
        replace hRr := hRr.ext hx
        have hE := Upd.refl (fun _ => False) W
        refine id (X_loadA (p := (ptr b2 (0))) (xs := ptC ptZ) A28 rfl hB2.atAll rfl ?_)
        exact ⟨hE, rfl⟩
      refine ⟨.det (fun val => (.int .i64 (50))), ⟨fun _ _ hv => rfl, fun _ _ _ _ _ => trivial⟩, fun val h_ W hx he => ⟨trivial, ?_⟩, ?_⟩
      · replace hx := (Upd.drew _ _).trans hx
        replace hB1 := hB1.ext hx
        replace hB2 := hB2.ext hx
        replace hT := hT.ext hx
        replace hOs := hOs.ext hx
        replace hRr := hRr.ext hx
        have hE := Upd.refl (fun _ => False) W
        refine id (X_move (v := (.int .i64 (50))) rfl ?_)
        exact ⟨hE, rfl⟩
      refine ⟨.det (fun val => (.slice none 0 0)), ⟨fun _ _ hv => rfl, fun _ _ _ _ _ => trivial⟩, fun val h_ W hx he => ⟨trivial, ?_⟩, ?_⟩
      · replace hx := (Upd.drew _ _).trans hx
        replace hB1 := hB1.ext hx
        replace hB2 := hB2.ext hx
        replace hT := hT.ext hx
        replace hOs := hOs.ext hx
        replace hRr := hRr.ext hx
        have hE := Upd.refl (fun _ => False) W
        refine id (X_assign (v := (.slice none 0 0)) rfl ?_)
        exact ⟨hE, rfl⟩
      refine ⟨.det (fun _ => undef), ⟨fun _ _ _ => rfl, fun _ _ _ _ _ => trivial⟩, fun val h_ W hx he => ⟨trivial, ?_⟩, ?_⟩
      · replace hx := (Upd.drew _ _).trans hx
        replace hB1 := hB1.ext hx
        replace hB2 := hB2.ext hx
        replace hT := hT.ext hx
        replace hOs := hOs.ext hx
        replace hRr := hRr.ext hx
        have hE := Upd.refl (fun _ => False) W
        refine X_storeSameW (ys := ptC ptZ) A28 rfl rfl (ptC_one _) rfl hB2 ?_
        exact ⟨hE, rfl⟩
      intro val W7 hx7 he7
      replace hx7 := (Upd.drew _ _).trans hx7
      have hz7 := hx7.size
      replace hB1 := hB1.ext hx7
      replace hB2 := hB2.ext hx7
      replace hT := hT.ext hx7
      replace hU := hU.trans (Ext.upd hx7)
      replace hOs := hOs.ext hx7
      replace hRr := hRr.ext hx7
      refine L_op rfl (X_assign (v := (.int .i64 (50))) rfl ?_)
      refine L_nil ?_
      refine T_n ?_
      refine W_ret ?_
      refine S_r ?_
      have hno : ¬ DecOk p := fun h => by obtain ⟨h1, h2, h3, h4⟩ := h; omega
      exact BQ_r (End_3 Tryd.results10 (v1 := .slice none 0 0) rfl (RV_A A28 rfl hB2.atAll rfl) (v3 := .int .i64 50) rfl ⟨_, by rw [show decN p = ptZ from if_neg hno, show decE p = 50 from if_neg hno], by rw [show decB p = [] from if_neg hno]; exact Own.nil _ _ _ _, hU.own hn0⟩)
    · refine L_op rfl (X_cmp (k := .i64) (a := (takeE (dL p) 200)) (b := 0) (r := false) rfl rfl rfl (decide_eq_false (p := (((takeE (dL p) 200)) : Int) ≠ ((0) : Int)) (by omega)) ?_)
      refine L_nil ?_
      refine T_n ?_
      refine W_cf rfl ?_
      refine W_skip ?_
      refine T_n ?_
      refine W_seq ?_
      refine W_reg ?_
      refine L_op rfl (X_move (v := r) rfl ?_)
      refine L_op rfl (X_fn (vs := [r]) en24 rfl (CT.mono (c_ptrTake r (dR p) _ hRr hT) ?_))
      rintro _ w8 ⟨r2, rfl, _, _, hu8⟩
      have hz8 := hu8.size
      replace hB1 := hB1.ext hu8
      replace hB2 := hB2.ext hu8
      replace hT := hT.ext hu8
      replace hU := hU.trans (Ext.upd hu8)
      replace hOs := hOs.ext hu8
      replace hRr := hRr.ext hu8
      refine L_op rfl (X_move (v := (.tuple #[(.agg (ptC (dQ p)).toArray), r2, (.int .i64 ((takeQE (dR p))))])) rfl ?_)
      refine L_op rfl (X_extract (l := [(.agg (ptC (dQ p)).toArray), r2, (.int .i64 ((takeQE (dR p))))]) (v := (.agg (ptC (dQ p)).toArray)) rfl rfl ?_)
      refine L_op rfl (X_extract (l := [(.agg (ptC (dQ p)).toArray), r2, (.int .i64 ((takeQE (dR p))))]) (v := r2) rfl rfl ?_)
      refine L_op rfl (X_extract (l := [(.agg (ptC (dQ p)).toArray), r2, (.int .i64 ((takeQE (dR p))))]) (v := (.int .i64 ((takeQE (dR p))))) rfl rfl ?_)
      refine L_op rfl (X_alloc (z := (.agg #[(.int .u8 (0)), (.int .u16 (0)), (.int .u16 (0)), (.int .u32 (0)), (.int .u64 (0))])) (c := #[(.int .u8 (0)), (.int .u16 (0)), (.int .u16 (0)), (.int .u32 (0)), (.int .u64 (0))]) Zv28 rfl ?_)
      intro b9 w9 hn9
      have hbn9 := hn9.num; have hbs9 := hn9.size
      replace hB1 := hB1.ext hn9.ext
      replace hB2 := hB2.ext hn9.ext
      replace hT := hT.ext hn9.ext
      replace hU := hU.trans (Ext.upd hn9.ext)
      replace hOs := hOs.ext hn9.ext
      replace hRr := hRr.ext hn9.ext
      have hB9 := hn9.blk
      refine L_op0 (X_storeW (b := b9) (ys := [(.int .u8 ((dQ p).1)), (.int .u16 ((dQ p).2.1)), (.int .u16 ((dQ p).2.2.1)), (.int .u32 ((dQ p).2.2.2.1)), (.int .u64 ((dQ p).2.2.2.2))]) A28 rfl rfl (List.forall_mem_cons.2 ⟨rfl, (List.forall_mem_cons.2 ⟨rfl, (List.forall_mem_cons.2 ⟨rfl, (List.forall_mem_cons.2 ⟨rfl, (List.forall_mem_cons.2 ⟨rfl, (fun _ h => by cases h)⟩)⟩)⟩)⟩)⟩) rfl hB9 rfl ?_)
      intro w10 hu10 hb10
      have hz10 := hu10.size
      replace hB1 := hB1.upd hu10 fun h => by have h : b1 = b9 := h; omega
      replace hB2 := hB2.upd hu10 fun h => by have h : b2 = b9 := h; omega
      replace hT := hT.upd hu10 fun i h1 h2 h => by have h : i = b9 := h; omega
      replace hU := hU.trans (hu10.mono fun i _ h => by have h : i = b9 := h; show n0 ≤ i; omega)
      replace hOs := hOs.upd hu10 fun i hi h => by have hi := hOs_c _ hi; have h : i = b9 := h; omega
      replace hRr := hRr.upd hu10 fun i hi h => by have hi := hRr_b _ hi; have h : i = b9 := h; omega
      replace hB9 : Blk w10 b9 #[(.int .u8 ((dQ p).1)), (.int .u16 ((dQ p).2.1)), (.int .u16 ((dQ p).2.2.1)), (.int .u32 ((dQ p).2.2.2.1)), (.int .u64 ((dQ p).2.2.2.2))] 28 := hb10
      refine L_op rfl (X_assign (v := r2) rfl ?_)
      refine L_op rfl (X_assign (v := (.int .i64 ((takeQE (dR p))))) rfl ?_)
      refine L_nil ?_
      refine T_n ?_
      refine W_seq ?_
      refine W_seq ?_
      refine W_reg ?_
      refine L_op rfl (X_move (v := (.int .i64 ((takeQE (dR p))))) rfl ?_)
      by_cases hc11 : ((takeQE (dR p)) : Int) ≠ (0)
      · refine L_op rfl (X_cmp (k := .i64) (a := (takeQE (dR p))) (b := 0) (r := true) rfl rfl rfl (decide_eq_true (p := (((takeQE (dR p))) : Int) ≠ ((0) : Int)) (by omega)) ?_)
        refine L_nil ?_
        refine T_n ?_
        refine W_ct rfl ?_
        refine W_exit ?_
        refine T_e ?_
        refine B_e rfl ?_
        refine T_e ?_
        refine T_e ?_
        refine B_x ?_
        refine T_n ?_
        refine W_seq ?_
        refine W_drawB 5 [[], [], [], [0], [0, 1, 3], [0, 1, 2, 3, 4]] mixed (by kernel_rfl) ?_
        refine ⟨.det (fun val => (.slice none 0 0)), ⟨fun _ _ hv => rfl, fun _ _ _ _ _ => trivial⟩, fun val h_ W hx he => ⟨trivial, ?_⟩, ?_⟩
        · replace hx := (Upd.drew _ _).trans hx
          replace hB1 := hB1.ext hx
          replace hB2 := hB2.ext hx
          replace hT := hT.ext hx
          replace hOs := hOs.ext hx
          replace hRr := hRr.ext hx
          replace hB9 := hB9.ext hx
          have hE := Upd.refl (fun _ => False) W
          refine id (X_move (v := (.slice none 0 0)) rfl ?_)
          exact ⟨hE, rfl⟩
        refine ⟨.det (fun val => (.agg (ptC ptZ).toArray)), ⟨fun _ _ hv => rfl, fun _ _ _ _ _ => trivial⟩, fun val h_ W hx he => ⟨trivial, ?_⟩, ?_⟩
        · replace hx := (Upd.drew _ _).trans hx
          replace hB1 := hB1.ext hx
          replace hB2 := hB2.ext hx
          replace hT := hT.ext hx
          replace hOs := hOs.ext hx
          replace hRr := hRr.ext hx
          replace hB9 := hB9.ext hx
          have hE := Upd.refl (fun _ => False) W
          refine id (X_loadA (p := (ptr b2 (0))) (xs := ptC ptZ) A28 rfl hB2.atAll rfl ?_)
          exact ⟨hE, rfl⟩
        refine ⟨.det (fun val => (.int .i64 (50))), ⟨fun _ _ hv => rfl, fun _ _ _ _ _ => trivial⟩, fun val h_ W hx he => ⟨trivial, ?_⟩, ?_⟩
        · replace hx := (Upd.drew _ _).trans hx
          replace hB1 := hB1.ext hx
          replace hB2 := hB2.ext hx
          replace hT := hT.ext hx
          replace hOs := hOs.ext hx
          replace hRr := hRr.ext hx
          replace hB9 := hB9.ext hx
          have hE := Upd.refl (fun _ => False) W
          refine id (X_move (v := (.int .i64 (50))) rfl ?_)
          exact ⟨hE, rfl⟩
        refine ⟨.det (fun val => (.slice none 0 0)), ⟨fun _ _ hv => rfl, fun _ _ _ _ _ => trivial⟩, fun val h_ W hx he => ⟨trivial, ?_⟩, ?_⟩
        · replace hx := (Upd.drew _ _).trans hx
          replace hB1 := hB1.ext hx
          replace hB2 := hB2.ext hx
          replace hT := hT.ext hx
          replace hOs := hOs.ext hx
          replace hRr := hRr.ext hx
          replace hB9 := hB9.ext hx
          have hE := Upd.refl (fun _ => False) W
          refine id (X_assign (v := (.slice none 0 0)) rfl ?_)
          exact ⟨hE, rfl⟩
        refine ⟨.det (fun _ => undef), ⟨fun _ _ _ => rfl, fun _ _ _ _ _ => trivial⟩, fun val h_ W hx he => ⟨trivial, ?_⟩, ?_⟩
        · replace hx := (Upd.drew _ _).trans hx
          replace hB1 := hB1.ext hx
          replace hB2 := hB2.ext hx
          replace hT := hT.ext hx
          replace hOs := hOs.ext hx
          replace hRr := hRr.ext hx
          replace hB9 := hB9.ext hx
          have hE := Upd.refl (fun _ => False) W
          refine X_storeSameW (ys := ptC ptZ) A28 rfl rfl (ptC_one _) rfl hB2 ?_
          exact ⟨hE, rfl⟩
        intro val W12 hx12 he12
        replace hx12 := (Upd.drew _ _).trans hx12
        have hz12 := hx12.size
        replace hB1 := hB1.ext hx12
        replace hB2 := hB2.ext hx12
        replace hT := hT.ext hx12
        replace hU := hU.trans (Ext.upd hx12)
        replace hOs := hOs.ext hx12
        replace hRr := hRr.ext hx12
        replace hB9 := hB9.ext hx12
        refine L_op rfl (X_assign (v := (.int .i64 (50))) rfl ?_)
        refine L_nil ?_
        refine T_n ?_
        refine W_ret ?_
        refine S_r ?_
        have hno : ¬ DecOk p := fun h => by obtain ⟨h1, h2, h3, h4⟩ := h; omega
        exact BQ_r (End_3 Tryd.results10 (v1 := .slice none 0 0) rfl (RV_A A28 rfl hB2.atAll rfl) (v3 := .int .i64 50) rfl ⟨_, by rw [show decN p = ptZ from if_neg hno, show decE p = 50 from if_neg hno], by rw [show decB p = [] from if_neg hno]; exact Own.nil _ _ _ _, hU.own hn0⟩)
      · refine L_op rfl (X_cmp (k := .i64) (a := (takeQE (dR p))) (b := 0) (r := false) rfl rfl rfl (decide_eq_false (p := (((takeQE (dR p))) : Int) ≠ ((0) : Int)) (by omega)) ?_)
        refine L_nil ?_
        refine T_n ?_
        refine W_cf rfl ?_
        refine W_skip ?_
        refine T_n ?_
        refine W_seq ?_
        refine W_seq ?_
        refine W_reg ?_
        refine L_op rfl (X_move (v := s) rfl ?_)
        refine L_op rfl (X_loadA (p := (ptr b9 (0))) (xs := ptC (dQ p)) A28 rfl hB9.atAll rfl ?_)
        refine L_op rfl (X_fn (vs := [s, (.agg (ptC (dQ p)).toArray)]) en8 rfl (CT.mono (c_encode s (dS p) (dQ p) _ (takeQ_ok _) hOs.rd hT) ?_))
        rintro _ w13 ⟨rfl, hu13⟩
        have hz13 := hu13.size
        replace hB1 := hB1.ext hu13
        replace hB2 := hB2.ext hu13
        replace hT := hT.ext hu13
        replace hU := hU.trans (Ext.upd hu13)
        replace hOs := hOs.ext hu13
        replace hRr := hRr.ext hu13
        replace hB9 := hB9.ext hu13
        refine L_op rfl (X_move (v := (.tuple #[(.agg (((encP (dS p) (dQ p))).map byteV).toArray), (.int .i64 ((encE (dS p) (dQ p))))])) rfl ?_)
        refine L_op rfl (X_extract (l := [(.agg (((encP (dS p) (dQ p))).map byteV).toArray), (.int .i64 ((encE (dS p) (dQ p))))]) (v := (.agg (((encP (dS p) (dQ p))).map byteV).toArray)) rfl rfl ?_)
        refine L_op rfl (X_extract (l := [(.agg (((encP (dS p) (dQ p))).map byteV).toArray), (.int .i64 ((encE (dS p) (dQ p))))]) (v := (.int .i64 ((encE (dS p) (dQ p))))) rfl rfl ?_)
        refine L_op rfl (X_alloc (z := zv30) (c := zc30.toArray) Zv30 rfl ?_)
        intro b14 w14 hn14
        have hbn14 := hn14.num; have hbs14 := hn14.size
        replace hB1 := hB1.ext hn14.ext
        replace hB2 := hB2.ext hn14.ext
        replace hT := hT.ext hn14.ext
        replace hU := hU.trans (Ext.upd hn14.ext)
        replace hOs := hOs.ext hn14.ext
        replace hRr := hRr.ext hn14.ext
        replace hB9 := hB9.ext hn14.ext
        have hB14 := hn14.blk
        rw [zc30_eq] at hB14
        refine L_op0 (X_storeW (b := b14) (ys := (((encP (dS p) (dQ p))).map byteV)) A30 rfl rfl (byteV_one _) (by rw [List.length_map]; exact (encP_len _ _)) hB14 (by rw [List.size_toArray]; exact (by rw [List.length_map]; exact List.length_replicate)) ?_)
        intro w15 hu15 hb15
        have hz15 := hu15.size
        replace hB1 := hB1.upd hu15 fun h => by have h : b1 = b14 := h; omega
        replace hB2 := hB2.upd hu15 fun h => by have h : b2 = b14 := h; omega
        replace hT := hT.upd hu15 fun i h1 h2 h => by have h : i = b14 := h; omega
        replace hU := hU.trans (hu15.mono fun i _ h => by have h : i = b14 := h; show n0 ≤ i; omega)
        replace hOs := hOs.upd hu15 fun i hi h => by have hi := hOs_c _ hi; have h : i = b14 := h; omega
        replace hRr := hRr.upd hu15 fun i hi h => by have hi := hRr_b _ hi; have h : i = b14 := h; omega
        replace hB9 := hB9.upd hu15 fun h => by have h : b9 = b14 := h; omega
        replace hB14 := hb15
        refine L_op rfl (X_assign (v := (.int .i64 ((encE (dS p) (dQ p))))) rfl ?_)
        refine L_nil ?_
        refine T_n ?_
        refine W_seq ?_
        refine W_reg ?_
        refine L_op rfl (X_move (v := (.int .i64 ((encE (dS p) (dQ p))))) rfl ?_)
        by_cases hc16 : ((encE (dS p) (dQ p)) : Int) ≠ (0)
        · refine L_op rfl (X_cmp (k := .i64) (a := (encE (dS p) (dQ p))) (b := 0) (r := true) rfl rfl rfl (decide_eq_true (p := (((encE (dS p) (dQ p))) : Int) ≠ ((0) : Int)) (by omega)) ?_)
          refine L_op rfl (X_move (v := (.bool (true))) rfl ?_)
          refine L_gn (dj := 38) (t := true) rfl rfl rfl rfl ?_
          refine L_gn (dj := 38) (t := true) rfl rfl rfl rfl ?_
          refine L_gn (dj := 38) (t := true) rfl rfl rfl rfl ?_
          refine L_op rfl (X_pick (t := true) (v := (.bool (true))) rfl rfl ?_)
          refine L_nil ?_
          refine T_n ?_
          refine W_ct rfl ?_
          refine W_exit ?_
          refine T_e ?_
          refine B_e rfl ?_
          refine T_e ?_
          refine T_e ?_
          refine B_x ?_
          refine T_n ?_
          refine W_seq ?_
          refine W_drawB 5 [[], [], [], [0], [0, 1, 3], [0, 1, 2, 3, 4]] mixed (by kernel_rfl) ?_
          refine ⟨.det (fun val => (.slice none 0 0)), ⟨fun _ _ hv => rfl, fun _ _ _ _ _ => trivial⟩, fun val h_ W hx he => ⟨trivial, ?_⟩, ?_⟩
          · replace hx := (Upd.drew _ _).trans hx
            replace hB1 := hB1.ext hx
            replace hB2 := hB2.ext hx
            replace hT := hT.ext hx
            replace hOs := hOs.ext hx
            replace hRr := hRr.ext hx
            replace hB9 := hB9.ext hx
            replace hB14 := hB14.ext hx
            have hE := Upd.refl (fun _ => False) W
            refine id (X_move (v := (.slice none 0 0)) rfl ?_)
            exact ⟨hE, rfl⟩
          refine ⟨.det (fun val => (.agg (ptC ptZ).toArray)), ⟨fun _ _ hv => rfl, fun _ _ _ _ _ => trivial⟩, fun val h_ W hx he => ⟨trivial, ?_⟩, ?_⟩
          · replace hx := (Upd.drew _ _).trans hx
            replace hB1 := hB1.ext hx
            replace hB2 := hB2.ext hx
            replace hT := hT.ext hx
            replace hOs := hOs.ext hx
            replace hRr := hRr.ext hx
            replace hB9 := hB9.ext hx
            replace hB14 := hB14.ext hx
            have hE := Upd.refl (fun _ => False) W
            refine id (X_loadA (p := (ptr b2 (0))) (xs := ptC ptZ) A28 rfl hB2.atAll rfl ?_)
            exact ⟨hE, rfl⟩
          refine ⟨.det (fun val => (.int .i64 (50))), ⟨fun _ _ hv => rfl, fun _ _ _ _ _ => trivial⟩, fun val h_ W hx he => ⟨trivial, ?_⟩, ?_⟩
          · replace hx := (Upd.drew _ _).trans hx
            replace hB1 := hB1.ext hx
            replace hB2 := hB2.ext hx
            replace hT := hT.ext hx
            replace hOs := hOs.ext hx
            replace hRr := hRr.ext hx
            replace hB9 := hB9.ext hx
            replace hB14 := hB14.ext hx
            have hE := Upd.refl (fun _ => False) W
            refine id (X_move (v := (.int .i64 (50))) rfl ?_)
            exact ⟨hE, rfl⟩
          refine ⟨.det (fun val => (.slice none 0 0)), ⟨fun _ _ hv => rfl, fun _ _ _ _ _ => trivial⟩, fun val h_ W hx he => ⟨trivial, ?_⟩, ?_⟩
          · replace hx := (Upd.drew _ _).trans hx
            replace hB1 := hB1.ext hx
            replace hB2 := hB2.ext hx
            replace hT := hT.ext hx
            replace hOs := hOs.ext hx
            replace hRr := hRr.ext hx
            replace hB9 := hB9.ext hx
            replace hB14 := hB14.ext hx
            have hE := Upd.refl (fun _ => False) W
            refine id (X_assign (v := (.slice none 0 0)) rfl ?_)
            exact ⟨hE, rfl⟩
          refine ⟨.det (fun _ => undef), ⟨fun _ _ _ => rfl, fun _ _ _ _ _ => trivial⟩, fun val h_ W hx he => ⟨trivial, ?_⟩, ?_⟩
          · replace hx := (Upd.drew _ _).trans hx
            replace hB1 := hB1.ext hx
            replace hB2 := hB2.ext hx
            replace hT := hT.ext hx
            replace hOs := hOs.ext hx
            replace hRr := hRr.ext hx
            replace hB9 := hB9.ext hx
            replace hB14 := hB14.ext hx
            have hE := Upd.refl (fun _ => False) W
            refine X_storeSameW (ys := ptC ptZ) A28 rfl rfl (ptC_one _) rfl hB2 ?_
            exact ⟨hE, rfl⟩
          intro val W17 hx17 he17
          replace hx17 := (Upd.drew _ _).trans hx17
          have hz17 := hx17.size
          replace hB1 := hB1.ext hx17
          replace hB2 := hB2.ext hx17
          replace hT := hT.ext hx17
          replace hU := hU.trans (Ext.upd hx17)
          replace hOs := hOs.ext hx17
          replace hRr := hRr.ext hx17
          replace hB9 := hB9.ext hx17
          replace hB14 := hB14.ext hx17
          refine L_op rfl (X_assign (v := (.int .i64 (50))) rfl ?_)
          refine L_nil ?_
          refine T_n ?_
          refine W_ret ?_
          refine S_r ?_
          have hno : ¬ DecOk p := fun h => by obtain ⟨h1, h2, h3, h4⟩ := h; omega
          exact BQ_r (End_3 Tryd.results10 (v1 := .slice none 0 0) rfl (RV_A A28 rfl hB2.atAll rfl) (v3 := .int .i64 50) rfl ⟨_, by rw [show decN p = ptZ from if_neg hno, show decE p = 50 from if_neg hno], by rw [show decB p = [] from if_neg hno]; exact Own.nil _ _ _ _, hU.own hn0⟩)
        · refine L_op rfl (X_cmp (k := .i64) (a := (encE (dS p) (dQ p))) (b := 0) (r := false) rfl rfl rfl (decide_eq_false (p := (((encE (dS p) (dQ p))) : Int) ≠ ((0) : Int)) (by omega)) ?_)
          refine L_op rfl (X_move (v := (.bool (false))) rfl ?_)
          refine L_gy (dj := 38) rfl rfl rfl (X_loadA (p := (ptr b14 (0))) (xs := (((encP (dS p) (dQ p))).map byteV)) A30 rfl hB14.atAll (by rw [List.length_map]; exact (encP_len _ _)) ?_)
          refine L_gy (dj := 38) rfl rfl rfl (X_loadA (p := (ptr b1 (0))) (xs := ((p).map byteV)) A30 rfl hB1.atAll (by rw [List.length_map]; exact hp) ?_)
          rcases Bool.eq_false_or_eq_true ((encP (dS p) (dQ p)) == p) with hc18 | hc18
          · refine L_gy (dj := 38) rfl rfl rfl (X_eqA (n := 256) (l := (encP (dS p) (dQ p))) (m := p) (r := false) Tryd.underlying30 Tryd.underlying5 (by kernel_rfl) (by kernel_rfl) (by kernel_rfl) rfl rfl ((encP_len _ _)) (hp) (.inr ⟨rfl, by rw [hc18]; rfl⟩) ?_)
            refine L_op rfl (X_pick (t := false) (v := (.bool (false))) rfl rfl ?_)
            refine L_nil ?_
            refine T_n ?_
            refine W_cf rfl ?_
            refine W_skip ?_
            refine T_n ?_
            have hdec : DecOk p := ⟨by omega, by omega, by omega, eq_of_beq hc18⟩
            replace hOs := hOs.more (show n0 ≤ sT by omega)
            refine W_draw 3 [[], [], [0], [0, 1, 2], [0, 1, 2, 3]] mixed (by kernel_rfl) ?_
            refine ⟨.det (fun val => s), ⟨fun _ _ hv => rfl, fun _ _ _ _ _ => trivial⟩, fun val h_ W hx he => ⟨trivial, ?_⟩, ?_⟩
            · replace hx := (Upd.drew _ _).trans hx
              replace hB1 := hB1.ext hx
              replace hB2 := hB2.ext hx
              replace hT := hT.ext hx
              replace hOs := hOs.ext hx
              replace hRr := hRr.ext hx
              replace hB9 := hB9.ext hx
              replace hB14 := hB14.ext hx
              have hE := Upd.refl (fun _ => False) W
              refine id (X_move (v := s) rfl ?_)
              exact ⟨hE, rfl⟩
            refine ⟨.det (fun val => (.agg (ptC (dQ p)).toArray)), ⟨fun _ _ hv => rfl, fun _ _ _ _ _ => trivial⟩, fun val h_ W hx he => ⟨trivial, ?_⟩, ?_⟩
            · replace hx := (Upd.drew _ _).trans hx
              replace hB1 := hB1.ext hx
              replace hB2 := hB2.ext hx
              replace hT := hT.ext hx
              replace hOs := hOs.ext hx
              replace hRr := hRr.ext hx
              replace hB9 := hB9.ext hx
              replace hB14 := hB14.ext hx
              have hE := Upd.refl (fun _ => False) W
              refine id (X_loadA (p := (ptr b9 (0))) (xs := ptC (dQ p)) A28 rfl hB9.atAll rfl ?_)
              exact ⟨hE, rfl⟩
            refine ⟨.det (fun val => s), ⟨fun _ _ hv => rfl, fun _ _ _ _ _ => trivial⟩, fun val h_ W hx he => ⟨trivial, ?_⟩, ?_⟩
            · replace hx := (Upd.drew _ _).trans hx
              replace hB1 := hB1.ext hx
              replace hB2 := hB2.ext hx
              replace hT := hT.ext hx
              replace hOs := hOs.ext hx
              replace hRr := hRr.ext hx
              replace hB9 := hB9.ext hx
              replace hB14 := hB14.ext hx
              have hE := Upd.refl (fun _ => False) W
              refine id (X_assign (v := s) rfl ?_)
              exact ⟨hE, rfl⟩
            intro val W19 hx19 he19
            replace hx19 := (Upd.drew _ _).trans hx19
            have hz19 := hx19.size
            replace hB1 := hB1.ext hx19
            replace hB2 := hB2.ext hx19
            replace hT := hT.ext hx19
            replace hU := hU.trans (Ext.upd hx19)
            replace hOs := hOs.ext hx19
            replace hRr := hRr.ext hx19
            replace hB9 := hB9.ext hx19
            replace hB14 := hB14.ext hx19
            refine L_op0 (X_storeW (b := b2) (ys := [(.int .u8 ((dQ p).1)), (.int .u16 ((dQ p).2.1)), (.int .u16 ((dQ p).2.2.1)), (.int .u32 ((dQ p).2.2.2.1)), (.int .u64 ((dQ p).2.2.2.2))]) A28 rfl rfl (List.forall_mem_cons.2 ⟨rfl, (List.forall_mem_cons.2 ⟨rfl, (List.forall_mem_cons.2 ⟨rfl, (List.forall_mem_cons.2 ⟨rfl, (List.forall_mem_cons.2 ⟨rfl, (fun _ h => by cases h)⟩)⟩)⟩)⟩)⟩) rfl hB2 rfl ?_)
            intro w20 hu20 hb20
            have hz20 := hu20.size
            replace hB1 := hB1.upd hu20 fun h => by have h : b1 = b2 := h; omega
            replace hT := hT.upd hu20 fun i h1 h2 h => by have h : i = b2 := h; omega
            replace hU := hU.trans (hu20.mono fun i _ h => by have h : i = b2 := h; show n0 ≤ i; omega)
            replace hOs := hOs.upd hu20 fun i hi h => by have hi := hOs_c _ hi; have h : i = b2 := h; omega
            replace hRr := hRr.upd hu20 fun i hi h => by have hi := hRr_b _ hi; have h : i = b2 := h; omega
            replace hB9 := hB9.upd hu20 fun h => by have h : b9 = b2 := h; omega
            replace hB14 := hB14.upd hu20 fun h => by have h : b14 = b2 := h; omega
            replace hB2 : Blk w20 b2 #[(.int .u8 ((dQ p).1)), (.int .u16 ((dQ p).2.1)), (.int .u16 ((dQ p).2.2.1)), (.int .u32 ((dQ p).2.2.2.1)), (.int .u64 ((dQ p).2.2.2.2))] 28 := hb20
            refine L_op rfl (X_assign (v := (.int .i64 (0))) rfl ?_)
            refine L_nil ?_
            refine B_n ?_
            refine T_n ?_
            refine W_reg ?_
            refine L_op rfl (X_arith (k := .i64) (a := 0) (b := 1) (r := 1) rfl rfl rfl rfl ?_)
            refine L_op rfl (X_move (v := (.int .i64 (1))) rfl ?_)
            refine L_nil ?_
            refine T_n ?_
            exact ⟨rfl, (1, s, 0), ⟨.inr ⟨rfl, rfl, hdec, hOs, hB2, hU⟩, (by show 1 - 1 < 1 - 0; decide)⟩, (Out.mk rfl), ⟨rfl, rfl, rfl, trivial⟩⟩
          · refine L_gy (dj := 38) rfl rfl rfl (X_eqA (n := 256) (l := (encP (dS p) (dQ p))) (m := p) (r := true) Tryd.underlying30 Tryd.underlying5 (by kernel_rfl) (by kernel_rfl) (by kernel_rfl) rfl rfl ((encP_len _ _)) (hp) (.inr ⟨rfl, by rw [hc18]; rfl⟩) ?_)
            refine L_op rfl (X_pick (t := false) (v := (.bool (true))) rfl rfl ?_)
            refine L_nil ?_
            refine T_n ?_
            refine W_ct rfl ?_
            refine W_exit ?_
            refine T_e ?_
            refine B_e rfl ?_
            refine T_e ?_
            refine T_e ?_
            refine B_x ?_
            refine T_n ?_
            refine W_seq ?_
            refine W_drawB 5 [[], [], [], [0], [0, 1, 3], [0, 1, 2, 3, 4]] mixed (by kernel_rfl) ?_
            refine ⟨.det (fun val => (.slice none 0 0)), ⟨fun _ _ hv => rfl, fun _ _ _ _ _ => trivial⟩, fun val h_ W hx he => ⟨trivial, ?_⟩, ?_⟩
            · replace hx := (Upd.drew _ _).trans hx
              replace hB1 := hB1.ext hx
              replace hB2 := hB2.ext hx
              replace hT := hT.ext hx
              replace hOs := hOs.ext hx
              replace hRr := hRr.ext hx
              replace hB9 := hB9.ext hx
              replace hB14 := hB14.ext hx
              have hE := Upd.refl (fun _ => False) W
              refine id (X_move (v := (.slice none 0 0)) rfl ?_)
              exact ⟨hE, rfl⟩
            refine ⟨.det (fun val => (.agg (ptC ptZ).toArray)), ⟨fun _ _ hv => rfl, fun _ _ _ _ _ => trivial⟩, fun val h_ W hx he => ⟨trivial, ?_⟩, ?_⟩
            · replace hx := (Upd.drew _ _).trans hx
              replace hB1 := hB1.ext hx
              replace hB2 := hB2.ext hx
              replace hT := hT.ext hx
              replace hOs := hOs.ext hx
              replace hRr := hRr.ext hx
              replace hB9 := hB9.ext hx
              replace hB14 := hB14.ext hx
              have hE := Upd.refl (fun _ => False) W
              refine id (X_loadA (p := (ptr b2 (0))) (xs := ptC ptZ) A28 rfl hB2.atAll rfl ?_)
              exact ⟨hE, rfl⟩
            refine ⟨.det (fun val => (.int .i64 (50))), ⟨fun _ _ hv => rfl, fun _ _ _ _ _ => trivial⟩, fun val h_ W hx he => ⟨trivial, ?_⟩, ?_⟩
            · replace hx := (Upd.drew _ _).trans hx
              replace hB1 := hB1.ext hx
              replace hB2 := hB2.ext hx
              replace hT := hT.ext hx
              replace hOs := hOs.ext hx
              replace hRr := hRr.ext hx
              replace hB9 := hB9.ext hx
              replace hB14 := hB14.ext hx
              have hE := Upd.refl (fun _ => False) W
              refine id (X_move (v := (.int .i64 (50))) rfl ?_)
              exact ⟨hE, rfl⟩
            refine ⟨.det (fun val => (.slice none 0 0)), ⟨fun _ _ hv => rfl, fun _ _ _ _ _ => trivial⟩, fun val h_ W hx he => ⟨trivial, ?_⟩, ?_⟩
            · replace hx := (Upd.drew _ _).trans hx
              replace hB1 := hB1.ext hx
              replace hB2 := hB2.ext hx
              replace hT := hT.ext hx
              replace hOs := hOs.ext hx
              replace hRr := hRr.ext hx
              replace hB9 := hB9.ext hx
              replace hB14 := hB14.ext hx
              have hE := Upd.refl (fun _ => False) W
              refine id (X_assign (v := (.slice none 0 0)) rfl ?_)
              exact ⟨hE, rfl⟩
            refine ⟨.det (fun _ => undef), ⟨fun _ _ _ => rfl, fun _ _ _ _ _ => trivial⟩, fun val h_ W hx he => ⟨trivial, ?_⟩, ?_⟩
            · replace hx := (Upd.drew _ _).trans hx
              replace hB1 := hB1.ext hx
              replace hB2 := hB2.ext hx
              replace hT := hT.ext hx
              replace hOs := hOs.ext hx
              replace hRr := hRr.ext hx
              replace hB9 := hB9.ext hx
              replace hB14 := hB14.ext hx
              have hE := Upd.refl (fun _ => False) W
              refine X_storeSameW (ys := ptC ptZ) A28 rfl rfl (ptC_one _) rfl hB2 ?_
              exact ⟨hE, rfl⟩
            intro val W21 hx21 he21
            replace hx21 := (Upd.drew _ _).trans hx21
            have hz21 := hx21.size
            replace hB1 := hB1.ext hx21
            replace hB2 := hB2.ext hx21
            replace hT := hT.ext hx21
            replace hU := hU.trans (Ext.upd hx21)
            replace hOs := hOs.ext hx21
            replace hRr := hRr.ext hx21
            replace hB9 := hB9.ext hx21
            replace hB14 := hB14.ext hx21
            refine L_op rfl (X_assign (v := (.int .i64 (50))) rfl ?_)
            refine L_nil ?_
            refine T_n ?_
            refine W_ret ?_
            refine S_r ?_
            have hno : ¬ DecOk p := fun h => by obtain ⟨h1, h2, h3, h4⟩ := h; exact ne_of_beq_false hc18 h4
            exact BQ_r (End_3 Tryd.results10 (v1 := .slice none 0 0) rfl (RV_A A28 rfl hB2.atAll rfl) (v3 := .int .i64 50) rfl ⟨_, by rw [show decN p = ptZ from if_neg hno, show decE p = 50 from if_neg hno], by rw [show decB p = [] from if_neg hno]; exact Own.nil _ _ _ _, hU.own hn0⟩)
  · have hsz_ := hU.size
    have hO_b : ∀ b, obk u = some b → b < w3.heap.size := fun b hb => (hO.lt hb).2
    refine W_seq ?_
    refine W_reg ?_
    refine L_op rfl (X_cmp (k := .i64) (a := 1) (b := 1) (r := false) rfl rfl rfl rfl ?_)
    refine L_nil ?_
    refine T_n ?_
    refine W_seq ?_
    refine W_cf rfl ?_
    refine W_exit ?_
    refine T_e ?_
    refine T_e ?_
    refine B_x ?_
    refine T_n ?_
    refine W_seq ?_
    refine W_drawB 5 [[], [], [], [0], [0, 1, 3], [0, 1, 2, 3, 4]] mixed (by kernel_rfl) ?_
    refine ⟨.det (fun val => u), ⟨fun _ _ hv => rfl, fun _ _ _ _ _ => trivial⟩, fun val h_ W hx he => ⟨trivial, ?_⟩, ?_⟩
    · replace hx := (Upd.drew _ _).trans hx
      replace hB2 := hB2.ext hx
      replace hO := hO.ext hx
      have hE := Upd.refl (fun _ => False) W
      refine id (X_move (v := u) rfl ?_)
      exact ⟨hE, rfl⟩
    refine ⟨.det (fun val => (.agg (ptC (dQ p)).toArray)), ⟨fun _ _ hv => rfl, fun _ _ _ _ _ => trivial⟩, fun val h_ W hx he => ⟨trivial, ?_⟩, ?_⟩
    · replace hx := (Upd.drew _ _).trans hx
      replace hB2 := hB2.ext hx
      replace hO := hO.ext hx
      have hE := Upd.refl (fun _ => False) W
      refine id (X_loadA (p := (ptr b2 (0))) (xs := ptC (dQ p)) A28 rfl hB2.atAll rfl ?_)
      exact ⟨hE, rfl⟩
    refine ⟨.det (fun val => (.int .i64 (0))), ⟨fun _ _ hv => rfl, fun _ _ _ _ _ => trivial⟩, fun val h_ W hx he => ⟨trivial, ?_⟩, ?_⟩
    · replace hx := (Upd.drew _ _).trans hx
      replace hB2 := hB2.ext hx
      replace hO := hO.ext hx
      have hE := Upd.refl (fun _ => False) W
      refine id (X_move (v := (.int .i64 (0))) rfl ?_)
      exact ⟨hE, rfl⟩
    refine ⟨.det (fun val => u), ⟨fun _ _ hv => rfl, fun _ _ _ _ _ => trivial⟩, fun val h_ W hx he => ⟨trivial, ?_⟩, ?_⟩
    · replace hx := (Upd.drew _ _).trans hx
      replace hB2 := hB2.ext hx
      replace hO := hO.ext hx
      have hE := Upd.refl (fun _ => False) W
      refine id (X_assign (v := u) rfl ?_)
      exact ⟨hE, rfl⟩
    refine ⟨.det (fun _ => undef), ⟨fun _ _ _ => rfl, fun _ _ _ _ _ => trivial⟩, fun val h_ W hx he => ⟨trivial, ?_⟩, ?_⟩
    · replace hx := (Upd.drew _ _).trans hx
      replace hB2 := hB2.ext hx
      replace hO := hO.ext hx
      have hE := Upd.refl (fun _ => False) W
      refine X_storeSameW (ys := ptC (dQ p)) A28 rfl rfl (ptC_one _) rfl hB2 ?_
      exact ⟨hE, rfl⟩
    intro val W22 hx22 he22
    replace hx22 := (Upd.drew _ _).trans hx22
    have hz22 := hx22.size
    replace hB2 := hB2.ext hx22
    replace hU := hU.trans (Ext.upd hx22)
    replace hO := hO.ext hx22
    refine L_op rfl (X_assign (v := (.int .i64 (0))) rfl ?_)
    refine L_nil ?_
    refine T_n ?_
    refine W_ret ?_
    refine S_r ?_
    exact BQ_r (End_3 Tryd.results10 (v1 := u) rfl (RV_A A28 rfl hB2.atAll rfl) (v3 := .int .i64 0) rfl ⟨u, by rw [show decN p = dQ p from if_pos hdec, show decE p = 0 from if_pos hdec], by rw [show decB p = dS p from if_pos hdec]; exact hn0 ▸ hO, hU.own hn0⟩)
end Go.Proofs.YtmggaahkfidfaaaDoor
