/-
  The contracts of branches: kids that may be. (Printed by wip/gen/t07f.py of this repo.)
-/
import Derived.Test.YtbgpegccnalkeaaDoorKids
namespace Go.Proofs.YtbgpegccnalkeaaDoor
open Go Go.SL Go.Proofs
set_option linter.unusedVariables false

abbrev dK (ks : List KD) (j : Nat) : KD := ks.getD j ([], ptZ)
/-- the kid j may stand where it does -/
def StepK (ks : List KD) (j : Nat) : Prop := (MetaP (dK ks j).2 ∧ RightP (dK ks j).2 256 ∧ (dK ks j).2.1 = (dK ks 0).2.1) ∧ (0 < j → 1 ≤ (dK ks j).1.length ∧ (dK ks j).1.length ≤ 8 ∧ Op.bytesLess (dK ks (j - 1)).1 (dK ks j).1 = true)
instance (ks : List KD) (j : Nat) : Decidable (StepK ks j) := by unfold StepK; infer_instance
/-- kids that may be -/
def RightK (ks : List KD) : Prop := (2 ≤ ks.length ∧ ks.length ≤ 6 ∧ (dK ks 0).1.length = 0) ∧ ∀ j, j < ks.length → StepK ks j
instance (ks : List KD) : Decidable (RightK ks) := by unfold RightK; infer_instance
theorem dK_at {es : List KE} {i : Nat} {e : KE} (h : es[i]? = some e) : dK (es.map (fun (x : KE) => x.2)) i = e.2 := by
  unfold dK
  rw [List.getD_eq_getElem?_getD, List.getElem?_map, h]; rfl
theorem dK_get {ks : List KD} {i : Nat} (h : i < ks.length) : dK ks i = ks[i] := by
  unfold dK
  rw [List.getD_eq_getElem?_getD, List.getElem?_eq_getElem h]; rfl
theorem right_len {ks : List KD} (h : RightK ks) : ∀ d ∈ ks, d.1.length ≤ 8 := by
  intro d hd
  obtain ⟨j, hj, rfl⟩ := List.getElem_of_mem hd
  rw [← dK_get hj]
  rcases Nat.eq_zero_or_pos j with rfl | hp
  · have := h.1.2.2; omega
  · exact ((h.2 j hj).2 hp).2.1

theorem c_rightK (l : Value) (es : List KE) (w : World) (lo up : Nat) (hup : up ≤ w.heap.size) (hl : NRd LK w lo up l es) (hpt : ∀ e ∈ es, PtOk e.2.2) : CT Tryd.prog 11 #[l] w fun v w' => v = .bool (decide (RightK (es.map (fun (x : KE) => x.2)))) ∧ Ext w w' := by
  obtain ⟨n0, hn0⟩ : ∃ n, n = w.heap.size := ⟨_, rfl⟩
  have hU : Upd (fun i => n0 ≤ i) w w := Upd.refl _ _
  have hmx := hl.sv.len
  rw [← hn0] at hup
  refine CT_of Tryd.func11 rfl rfl rfl ?_
  refine W_seq ?_
  refine W_reg ?_
  refine L_op rfl (X_assign (v := (.bool (false))) rfl ?_)
  refine L_nil ?_
  refine T_n ?_
  refine W_scopeQ ?_
  refine W_seq ?_
  refine W_seq ?_
  refine W_reg ?_
  refine L_op rfl (X_move (v := l) rfl ?_)
  refine L_op rfl (X_len (v := l) (n := es.length) Tryd.underlying22 rfl hl.sv ?_)
  by_cases hc1 : (((es.length : Nat) : Int) : Int) ≥ (2)
  · refine L_op rfl (X_cmp (k := .i64) (a := ((es.length : Nat) : Int)) (b := 2) (r := true) rfl rfl rfl (decide_eq_true (p := ((2) : Int) ≤ ((((es.length : Nat) : Int)) : Int)) (by omega)) ?_)
    refine L_op rfl (X_move (v := (.bool (true))) rfl ?_)
    refine L_gy (dj := 9) rfl rfl rfl (X_move (v := l) rfl ?_)
    refine L_gy (dj := 9) rfl rfl rfl (X_len (v := l) (n := es.length) Tryd.underlying22 rfl hl.sv ?_)
    by_cases hc2 : (((es.length : Nat) : Int) : Int) ≤ (6)
    · refine L_gy (dj := 9) rfl rfl rfl (X_cmp (k := .i64) (a := ((es.length : Nat) : Int)) (b := 6) (r := true) rfl rfl rfl (decide_eq_true (p := ((((es.length : Nat) : Int)) : Int) ≤ ((6) : Int)) (by omega)) ?_)
      obtain ⟨e0, he0⟩ : ∃ e, es[0]? = some e := ⟨_, List.getElem?_eq_getElem (by omega)⟩
      have hd0 := dK_at he0
      have hkl0 := (krd hl he0).len
      refine L_op rfl (X_pick (t := true) (v := (.bool (true))) rfl rfl ?_)
      refine L_op rfl (X_move (v := (.bool (true))) rfl ?_)
      refine L_gy (dj := 14) rfl rfl rfl (X_move (v := l) rfl ?_)
      refine L_gy (dj := 14) rfl rfl rfl (X_idx (v := l) (n := es.length) (k := .i64) (i := 0) S22 rfl hl.sv rfl (by omega) (by omega) ?_)
      refine L_gy (dj := 14) rfl rfl rfl (X_fldS (v := l) (o := (0 : Int).toNat * 6) Fd44_0 rfl hl.sv (by omega) ?_)
      refine L_gy (dj := 14) rfl rfl rfl (X_load (v := e0.1) T42 rfl (kkey hl (rfl) he0) ?_)
      refine L_gy (dj := 14) rfl rfl rfl (X_len (v := e0.1) (n := e0.2.1.length) Tryd.underlying42 rfl (krd hl he0).sv ?_)
      by_cases hc4 : (((e0.2.1.length : Nat) : Int) : Int) = (0)
      · refine L_gy (dj := 14) rfl rfl rfl (X_cmp (k := .i64) (a := ((e0.2.1.length : Nat) : Int)) (b := 0) (r := true) rfl rfl rfl (decide_eq_true (p := ((((e0.2.1.length : Nat) : Int)) : Int) = ((0) : Int)) (by omega)) ?_)
        refine L_op rfl (X_pick (t := true) (v := (.bool (true))) rfl rfl ?_)
        refine L_op rfl (X_assign (v := (.bool (true))) rfl ?_)
        refine L_nil ?_
        refine T_n ?_
        refine W_seq ?_
        refine W_reg ?_
        refine L_op rfl (X_move (v := (.bool (true))) rfl ?_)
        refine L_op rfl (X_not (b := true) (r := false) rfl rfl ?_)
        refine L_nil ?_
        refine T_n ?_
        refine W_cf rfl ?_
        refine W_skip ?_
        refine T_n ?_
        refine W_seq ?_
        refine W_reg ?_
        refine L_op rfl (X_move (v := l) rfl ?_)
        refine L_op rfl (X_idx (v := l) (n := es.length) (k := .i64) (i := 0) S22 rfl hl.sv rfl (by omega) (by omega) ?_)
        refine L_op rfl (X_fldS (v := l) (o := (0 : Int).toNat * 6) Fd44_1 rfl hl.sv (by omega) ?_)
        refine L_op rfl (X_fldS (v := l) (o := (0 : Int).toNat * 6 + 1) Fd41_0 rfl hl.sv (by omega) ?_)
        refine L_op rfl (X_load (v := .int .u8 e0.2.2.1) T5 rfl (show At _ (pof l _) _ from hl.cell he0 (j := 1) rfl) ?_)
        refine L_op rfl (X_assign (v := (.int .u8 (e0.2.2.1))) rfl ?_)
        refine L_nil ?_
        refine T_n ?_
        refine W_seq ?_
        refine W_label ?_
        refine T_n ?_
        refine W_seq ?_
        refine W_seq ?_
        refine W_reg ?_
        refine L_op rfl (X_move (v := l) rfl ?_)
        refine L_op rfl (X_len (v := l) (n := es.length) Tryd.underlying22 rfl hl.sv ?_)
        refine L_op rfl (X_move (v := (.int .i64 (0))) rfl ?_)
        refine L_nil ?_
        refine T_n ?_
        refine W_block ?_
        refine W_loop (α := Nat) [2, 4, 5, 31, 32, 33, 34, 35, 36, 37, 38, 39, 40, 41, 42, 43, 44, 45, 46, 47, 48, 49, 50, 51, 52, 53, 54, 55, 56, 57, 58, 59, 60, 61, 62, 63, 64, 65, 66, 67, 68, 69, 70, 71, 72, 73, 74, 75, 76, 77, 78, 79, 80, 81] (fun i => [(31, (.int .i64 (((i : Nat) : Int)))), (2, (.bool (true)))]) (fun i w_ => i ≤ es.length ∧ NRd LK w_ lo up l es ∧ (∀ j, j < i → StepK (es.map (fun (x : KE) => x.2)) j) ∧ Upd (fun i => n0 ≤ i) w w_) (fun i => es.length - i) ⟨rfl, 0, ⟨Nat.zero_le _, hl, fun j h => absurd h (Nat.not_lt_zero j), hU⟩, Out.refl _ _, ⟨rfl, rfl, trivial⟩⟩ ?_
        rintro i w5 _ ⟨hil, hl, hz, hU⟩
        have hsz_ := hU.size
        refine W_seq ?_
        refine W_reg ?_
        by_cases hc6 : (((i : Nat) : Int) : Int) < (((es.length : Nat) : Int))
        · refine L_op rfl (X_cmp (k := .i64) (a := ((i : Nat) : Int)) (b := ((es.length : Nat) : Int)) (r := true) rfl rfl rfl (decide_eq_true (p := ((((i : Nat) : Int)) : Int) < ((((es.length : Nat) : Int)) : Int)) (by omega)) ?_)
          have hi : i < es.length := by omega
          obtain ⟨e, hei⟩ : ∃ e, es[i]? = some e := ⟨_, List.getElem?_eq_getElem hi⟩
          obtain ⟨c, hci⟩ : ∃ c, es[i - 1]? = some c := ⟨_, List.getElem?_eq_getElem (by omega)⟩
          have hke := (krd hl hei).len
          have hst : StepK (es.map (fun (x : KE) => x.2)) i ↔ (MetaP e.2.2 ∧ RightP e.2.2 256 ∧ e.2.2.1 = e0.2.2.1) ∧ (0 < i → 1 ≤ e.2.1.length ∧ e.2.1.length ≤ 8 ∧ Op.bytesLess c.2.1 e.2.1 = true) := by unfold StepK; rw [dK_at hei, hd0, dK_at hci]
          refine L_nil ?_
          refine T_n ?_
          refine W_seq ?_
          refine W_ct rfl ?_
          refine W_skip ?_
          refine T_n ?_
          refine W_seq ?_
          refine W_block ?_
          refine W_seq ?_
          refine W_reg ?_
          refine L_op rfl (X_move (v := (.int .i64 (((i : Nat) : Int)))) rfl ?_)
          refine L_op rfl (X_idx (v := l) (n := es.length) (k := .i64) (i := ((i : Nat) : Int)) S22 rfl hl.sv rfl (by omega) (by omega) ?_)
          refine L_op rfl (X_loadA (xs := e.1 :: ptC e.2.2) A44 rfl (kall hl (Int.toNat_natCast _) hei) rfl ?_)
          refine L_op rfl (X_alloc (z := (.agg #[(.slice none 0 0), (.int .u8 (0)), (.int .u16 (0)), (.int .u16 (0)), (.int .u32 (0)), (.int .u64 (0))])) (c := #[(.slice none 0 0), (.int .u8 (0)), (.int .u16 (0)), (.int .u16 (0)), (.int .u32 (0)), (.int .u64 (0))]) Zv44 rfl ?_)
          intro b7 w7 hn7
          have hbn7 := hn7.num; have hbs7 := hn7.size
          replace hl := hl.ext hn7.ext
          replace hU := hU.trans (Ext.upd hn7.ext)
          have hB7 := hn7.blk
          refine L_op rfl (X_assign (v := (.int .i64 (((i : Nat) : Int)))) rfl ?_)
          refine L_op0 (X_storeW (b := b7) (ys := e.1 :: ptC e.2.2) A44 rfl rfl (kone hl hei) rfl hB7 rfl ?_)
          intro w8 hu8 hb8
          have hz8 := hu8.size
          replace hl := hl.upd hu8 fun i h1 h2 h => by have h : i = b7 := h; omega
          replace hU := hU.trans (hu8.mono fun i _ h => by have h : i = b7 := h; show n0 ≤ i; omega)
          replace hB7 := hb8
          refine L_nil ?_
          refine T_n ?_
          refine W_seq ?_
          refine W_reg ?_
          refine L_op rfl (X_fldP (b := b7) (o := 0) (r := 1) Fd44_1 rfl rfl ?_)
          refine L_op rfl (X_loadA (p := (ptr b7 (1))) (xs := ptC e.2.2) A41 rfl (kid_ptr hB7) rfl ?_)
          refine L_op rfl (X_fn (vs := [(.agg (ptC e.2.2).toArray)]) en26 rfl (CT.mono (c_meta e.2.2 _) ?_))
          rintro _ w9 ⟨rfl, hu9⟩
          have hz9 := hu9.size
          replace hl := hl.ext hu9
          replace hU := hU.trans (Ext.upd hu9)
          replace hB7 := hB7.ext hu9
          rcases Bool.eq_false_or_eq_true (decide (MetaP e.2.2)) with hc10 | hc10
          · rw [hc10]
            refine L_op rfl (X_move (v := (.bool (true))) rfl ?_)
            refine L_gy (dj := 39) rfl rfl rfl (X_fldP (b := b7) (o := 0) (r := 1) Fd44_1 rfl rfl ?_)
            refine L_gy (dj := 39) rfl rfl rfl (X_loadA (p := (ptr b7 (1))) (xs := ptC e.2.2) A41 rfl (kid_ptr hB7) rfl ?_)
            refine L_gy (dj := 39) rfl rfl rfl (X_fn (vs := [(.agg (ptC e.2.2).toArray), (.int .i64 (256))]) en27 rfl (CT.mono (c_right e.2.2 256 _ (hpt e (List.mem_of_getElem? hei))) ?_))
            rintro _ w11 ⟨rfl, hu11⟩
            have hz11 := hu11.size
            replace hl := hl.ext hu11
            replace hU := hU.trans (Ext.upd hu11)
            replace hB7 := hB7.ext hu11
            rcases Bool.eq_false_or_eq_true (decide (RightP e.2.2 256)) with hc12 | hc12
            · rw [hc12]
              refine L_op rfl (X_pick (t := true) (v := (.bool (true))) rfl rfl ?_)
              refine L_op rfl (X_move (v := (.bool (true))) rfl ?_)
              refine L_gy (dj := 44) rfl rfl rfl (X_fldP (b := b7) (o := 0) (r := 1) Fd44_1 rfl rfl ?_)
              refine L_gy (dj := 44) rfl rfl rfl (X_fldP (b := b7) (o := 1) (r := 1) Fd41_0 rfl rfl ?_)
              refine L_gy (dj := 44) rfl rfl rfl (X_load (p := (ptr b7 (1))) (v := (.int .u8 (e.2.2.1))) T5 rfl (hB7.at1 rfl) ?_)
              refine L_gy (dj := 44) rfl rfl rfl (X_move (v := (.int .u8 (e0.2.2.1))) rfl ?_)
              by_cases hc13 : (e.2.2.1 : Int) = (e0.2.2.1)
              · refine L_gy (dj := 44) rfl rfl rfl (X_cmp (k := .u8) (a := e.2.2.1) (b := e0.2.2.1) (r := true) rfl rfl rfl (decide_eq_true (p := ((e.2.2.1) : Int) = ((e0.2.2.1) : Int)) (by omega)) ?_)
                refine L_op rfl (X_pick (t := true) (v := (.bool (true))) rfl rfl ?_)
                refine L_op rfl (X_assign (v := (.bool (true))) rfl ?_)
                refine L_nil ?_
                refine T_n ?_
                refine W_seq ?_
                refine W_seq ?_
                refine W_reg ?_
                refine L_op rfl (X_move (v := (.int .i64 (((i : Nat) : Int)))) rfl ?_)
                by_cases hc14 : (((i : Nat) : Int) : Int) > (0)
                · refine L_op rfl (X_cmp (k := .i64) (a := ((i : Nat) : Int)) (b := 0) (r := true) rfl rfl rfl (decide_eq_true (p := ((0) : Int) < ((((i : Nat) : Int)) : Int)) (by omega)) ?_)
                  refine L_nil ?_
                  refine T_n ?_
                  refine W_ct rfl ?_
                  rcases Bool.eq_false_or_eq_true (decide (1 ≤ e.2.1.length)) with hs15 | hs15
                  · rcases Bool.eq_false_or_eq_true (decide (e.2.1.length ≤ 8)) with hs16 | hs16
                    · rcases Bool.eq_false_or_eq_true (scmp .lss (c.2.1) (e.2.1)) with hs17 | hs17
                      · have hs15_ := of_decide_eq_true hs15
                        have hs16_ := of_decide_eq_true hs16
                        refine W_draw 24 [[], [0], [0, 1], [0, 1, 2], [0, 1, 2, 3], [0, 1, 2, 3, 4], [0, 1, 2, 3, 4, 5], [0, 1, 2, 3, 4, 5, 6], [0, 1, 2, 3, 4, 5, 6, 7], [0, 1, 2, 3, 4, 5, 6, 7, 8], [0, 1, 2, 3, 4, 5, 6, 7, 8, 9], [0, 1, 2, 3, 4, 5, 6, 7, 8, 9, 10], [0, 1, 2, 3, 4, 5, 6, 7, 8, 9, 10, 11], [0, 1, 2, 3, 4, 5, 6, 7, 8, 9, 10, 11, 12], [0, 1, 2, 3, 4, 5, 6, 7, 8, 9, 10, 11, 12, 13], [0, 1, 2, 3, 4, 5, 6, 7, 8, 9, 10, 11, 12, 13], [0, 1, 2, 3, 4, 5, 6, 7, 8, 9, 10, 11, 12, 13, 15], [0, 1, 2, 3, 4, 5, 6, 7, 8, 9, 10, 11, 12, 13, 14, 15, 16], [0, 1, 2, 3, 4, 5, 6, 7, 8, 9, 10, 11, 12, 13, 14, 15, 16, 17], [0, 1, 2, 3, 4, 5, 6, 7, 8, 9, 10, 11, 12, 13, 14, 15, 16, 17, 18], [0, 1, 2, 3, 4, 5, 6, 7, 8, 9, 10, 11, 12, 13, 14, 15, 16, 17, 18, 19], [0, 1, 2, 3, 4, 5, 6, 7, 8, 9, 10, 11, 12, 13], [0, 1, 2, 3, 4, 5, 6, 7, 8, 9, 10, 11, 12, 13, 21], [0, 1, 2, 3, 4, 5, 6, 7, 8, 9, 10, 11, 12, 13, 21, 22], [0, 1, 2, 3, 4, 5, 6, 7, 8, 9, 10, 11, 12, 13, 14, 15, 16, 17, 18, 19, 20, 21, 22, 23], [0, 1, 2, 3, 4, 5, 6, 7, 8, 9, 10, 11, 12, 13, 14, 15, 16, 17, 18, 19, 20, 21, 22, 23, 24], [0, 1, 2, 3, 4, 5, 6, 7, 8, 9, 10, 11, 12, 13, 14, 15, 16, 17, 18, 19, 20, 21, 22, 23, 24, 25]] mixed (by kernel_rfl) ?_
                        refine ⟨.det (fun val => (.bool (true))), ⟨fun _ _ hv => rfl, fun _ _ _ _ _ => trivial⟩, fun val h_ W hx he => ⟨trivial, ?_⟩, ?_⟩
                        · replace hx := (Upd.drew _ _).trans hx
                          replace hl := hl.ext hx
                          replace hB7 := hB7.ext hx
                          have hE := Upd.refl (fun _ => False) W
                          refine id (X_move (v := (.bool (true))) rfl ?_)
                          exact ⟨hE, rfl⟩
                        refine ⟨.det (fun val => (.bool (true))), ⟨fun _ _ hv => rfl, fun _ _ _ _ _ => trivial⟩, fun val h_ W hx he => ⟨trivial, ?_⟩, ?_⟩
                        · replace hx := (Upd.drew _ _).trans hx
                          replace hl := hl.ext hx
                          replace hB7 := hB7.ext hx
                          have hE := Upd.refl (fun _ => False) W
                          refine id (X_move (v := (.bool (true))) rfl ?_)
                          exact ⟨hE, rfl⟩
                        refine ⟨.det (fun val => (ptr b7 (0))), ⟨fun _ _ hv => rfl, fun _ _ _ _ _ => trivial⟩, fun val h_ W hx he => ⟨⟨54, rfl, rfl⟩, ?_⟩, ?_⟩
                        · replace hx := (Upd.drew _ _).trans hx
                          replace hl := hl.ext hx
                          replace hB7 := hB7.ext hx
                          have hE := Upd.refl (fun _ => False) W
                          refine id (X_fldP (b := b7) (o := 0) (r := 0) Fd44_0 rfl rfl ?_)
                          exact ⟨hE, rfl⟩
                        refine ⟨.det (fun val => e.1), ⟨fun _ _ hv => rfl, fun _ _ _ _ _ => trivial⟩, fun val h_ W hx he => ⟨⟨54, rfl, rfl⟩, ?_⟩, ?_⟩
                        · replace hx := (Upd.drew _ _).trans hx
                          replace hl := hl.ext hx
                          replace hB7 := hB7.ext hx
                          have hE := Upd.refl (fun _ => False) W
                          refine id (X_load (p := (ptr b7 (0))) (v := e.1) T42 rfl (hB7.at1 rfl) ?_)
                          exact ⟨hE, rfl⟩
                        refine ⟨.det (fun val => (.int .i64 (((e.2.1.length : Nat) : Int)))), ⟨fun _ _ hv => rfl, fun _ _ _ _ _ => trivial⟩, fun val h_ W hx he => ⟨⟨54, rfl, rfl⟩, ?_⟩, ?_⟩
                        · replace hx := (Upd.drew _ _).trans hx
                          replace hl := hl.ext hx
                          replace hB7 := hB7.ext hx
                          have hE := Upd.refl (fun _ => False) W
                          refine id (X_len (v := e.1) (n := e.2.1.length) Tryd.underlying42 rfl (krd hl hei).sv ?_)
                          exact ⟨hE, rfl⟩
                        refine ⟨.det (fun val => (.bool (true))), ⟨fun _ _ hv => rfl, fun _ _ _ _ _ => trivial⟩, fun val h_ W hx he => ⟨⟨54, rfl, rfl⟩, ?_⟩, ?_⟩
                        · replace hx := (Upd.drew _ _).trans hx
                          replace hl := hl.ext hx
                          replace hB7 := hB7.ext hx
                          have hE := Upd.refl (fun _ => False) W
                          refine id (X_cmp (k := .i64) (a := ((e.2.1.length : Nat) : Int)) (b := 1) (r := true) rfl rfl rfl (decide_eq_true (p := ((1) : Int) ≤ ((((e.2.1.length : Nat) : Int)) : Int)) (by omega)) ?_)
                          exact ⟨hE, rfl⟩
                        refine ⟨.det (fun val => (.bool (true))), ⟨fun _ _ hv => rfl, fun _ _ _ _ _ => trivial⟩, fun val h_ W hx he => ⟨trivial, ?_⟩, ?_⟩
                        · replace hx := (Upd.drew _ _).trans hx
                          replace hl := hl.ext hx
                          replace hB7 := hB7.ext hx
                          have hE := Upd.refl (fun _ => False) W
                          refine id (X_pick (t := true) (v := (.bool (true))) rfl rfl ?_)
                          exact ⟨hE, rfl⟩
                        refine ⟨.det (fun val => (.bool (true))), ⟨fun _ _ hv => rfl, fun _ _ _ _ _ => trivial⟩, fun val h_ W hx he => ⟨trivial, ?_⟩, ?_⟩
                        · replace hx := (Upd.drew _ _).trans hx
                          replace hl := hl.ext hx
                          replace hB7 := hB7.ext hx
                          have hE := Upd.refl (fun _ => False) W
                          refine id (X_move (v := (.bool (true))) rfl ?_)
                          exact ⟨hE, rfl⟩
                        refine ⟨.det (fun val => (ptr b7 (0))), ⟨fun _ _ hv => rfl, fun _ _ _ _ _ => trivial⟩, fun val h_ W hx he => ⟨⟨60, rfl, rfl⟩, ?_⟩, ?_⟩
                        · replace hx := (Upd.drew _ _).trans hx
                          replace hl := hl.ext hx
                          replace hB7 := hB7.ext hx
                          have hE := Upd.refl (fun _ => False) W
                          refine id (X_fldP (b := b7) (o := 0) (r := 0) Fd44_0 rfl rfl ?_)
                          exact ⟨hE, rfl⟩
                        refine ⟨.det (fun val => e.1), ⟨fun _ _ hv => rfl, fun _ _ _ _ _ => trivial⟩, fun val h_ W hx he => ⟨⟨60, rfl, rfl⟩, ?_⟩, ?_⟩
                        · replace hx := (Upd.drew _ _).trans hx
                          replace hl := hl.ext hx
                          replace hB7 := hB7.ext hx
                          have hE := Upd.refl (fun _ => False) W
                          refine id (X_load (p := (ptr b7 (0))) (v := e.1) T42 rfl (hB7.at1 rfl) ?_)
                          exact ⟨hE, rfl⟩
                        refine ⟨.det (fun val => (.int .i64 (((e.2.1.length : Nat) : Int)))), ⟨fun _ _ hv => rfl, fun _ _ _ _ _ => trivial⟩, fun val h_ W hx he => ⟨⟨60, rfl, rfl⟩, ?_⟩, ?_⟩
                        · replace hx := (Upd.drew _ _).trans hx
                          replace hl := hl.ext hx
                          replace hB7 := hB7.ext hx
                          have hE := Upd.refl (fun _ => False) W
                          refine id (X_len (v := e.1) (n := e.2.1.length) Tryd.underlying42 rfl (krd hl hei).sv ?_)
                          exact ⟨hE, rfl⟩
                        refine ⟨.det (fun val => (.bool (true))), ⟨fun _ _ hv => rfl, fun _ _ _ _ _ => trivial⟩, fun val h_ W hx he => ⟨⟨60, rfl, rfl⟩, ?_⟩, ?_⟩
                        · replace hx := (Upd.drew _ _).trans hx
                          replace hl := hl.ext hx
                          replace hB7 := hB7.ext hx
                          have hE := Upd.refl (fun _ => False) W
                          refine id (X_cmp (k := .i64) (a := ((e.2.1.length : Nat) : Int)) (b := 8) (r := true) rfl rfl rfl (decide_eq_true (p := ((((e.2.1.length : Nat) : Int)) : Int) ≤ ((8) : Int)) (by omega)) ?_)
                          exact ⟨hE, rfl⟩
                        refine ⟨.det (fun val => (.bool (true))), ⟨fun _ _ hv => rfl, fun _ _ _ _ _ => trivial⟩, fun val h_ W hx he => ⟨trivial, ?_⟩, ?_⟩
                        · replace hx := (Upd.drew _ _).trans hx
                          replace hl := hl.ext hx
                          replace hB7 := hB7.ext hx
                          have hE := Upd.refl (fun _ => False) W
                          refine id (X_pick (t := true) (v := (.bool (true))) rfl rfl ?_)
                          exact ⟨hE, rfl⟩
                        refine ⟨.det (fun val => (.bool (true))), ⟨fun _ _ hv => rfl, fun _ _ _ _ _ => trivial⟩, fun val h_ W hx he => ⟨trivial, ?_⟩, ?_⟩
                        · replace hx := (Upd.drew _ _).trans hx
                          replace hl := hl.ext hx
                          replace hB7 := hB7.ext hx
                          have hE := Upd.refl (fun _ => False) W
                          refine id (X_move (v := (.bool (true))) rfl ?_)
                          exact ⟨hE, rfl⟩
                        refine ⟨.det (fun val => l), ⟨fun _ _ hv => rfl, fun _ _ _ _ _ => trivial⟩, fun val h_ W hx he => ⟨⟨66, rfl, rfl⟩, ?_⟩, ?_⟩
                        · replace hx := (Upd.drew _ _).trans hx
                          replace hl := hl.ext hx
                          replace hB7 := hB7.ext hx
                          have hE := Upd.refl (fun _ => False) W
                          refine id (X_move (v := l) rfl ?_)
                          exact ⟨hE, rfl⟩
                        refine ⟨.det (fun val => (.int .i64 (((i : Nat) : Int)))), ⟨fun _ _ hv => rfl, fun _ _ _ _ _ => trivial⟩, fun val h_ W hx he => ⟨⟨66, rfl, rfl⟩, ?_⟩, ?_⟩
                        · replace hx := (Upd.drew _ _).trans hx
                          replace hl := hl.ext hx
                          replace hB7 := hB7.ext hx
                          have hE := Upd.refl (fun _ => False) W
                          refine id (X_move (v := (.int .i64 (((i : Nat) : Int)))) rfl ?_)
                          exact ⟨hE, rfl⟩
                        refine ⟨.det (fun val => (.int .i64 (((i - 1 : Nat) : Int)))), ⟨fun _ _ hv => rfl, fun _ _ _ _ _ => trivial⟩, fun val h_ W hx he => ⟨⟨66, rfl, rfl⟩, ?_⟩, ?_⟩
                        · replace hx := (Upd.drew _ _).trans hx
                          replace hl := hl.ext hx
                          replace hB7 := hB7.ext hx
                          have hE := Upd.refl (fun _ => False) W
                          refine id (X_arith (k := .i64) (a := ((i : Nat) : Int)) (b := 1) (r := ((i - 1 : Nat) : Int)) rfl rfl rfl (isub64 (by omega) (by omega) (by omega)) ?_)
                          exact ⟨hE, rfl⟩
                        refine ⟨.det (fun val => (pof l ((((i - 1 : Nat) : Int) : Int).toNat * 6))), ⟨fun _ _ hv => rfl, fun _ _ _ _ _ => trivial⟩, fun val h_ W hx he => ⟨⟨66, rfl, rfl⟩, ?_⟩, ?_⟩
                        · replace hx := (Upd.drew _ _).trans hx
                          replace hl := hl.ext hx
                          replace hB7 := hB7.ext hx
                          have hE := Upd.refl (fun _ => False) W
                          refine id (X_idx (v := l) (n := es.length) (k := .i64) (i := ((i - 1 : Nat) : Int)) S22 rfl hl.sv rfl (by omega) (by omega) ?_)
                          exact ⟨hE, rfl⟩
                        refine ⟨.det (fun val => (pof l ((((i - 1 : Nat) : Int) : Int).toNat * 6 + 0))), ⟨fun _ _ hv => rfl, fun _ _ _ _ _ => trivial⟩, fun val h_ W hx he => ⟨⟨66, rfl, rfl⟩, ?_⟩, ?_⟩
                        · replace hx := (Upd.drew _ _).trans hx
                          replace hl := hl.ext hx
                          replace hB7 := hB7.ext hx
                          have hE := Upd.refl (fun _ => False) W
                          refine id (X_fldS (v := l) (o := (((i - 1 : Nat) : Int) : Int).toNat * 6) Fd44_0 rfl hl.sv (by omega) ?_)
                          exact ⟨hE, rfl⟩
                        refine ⟨.det (fun val => c.1), ⟨fun _ _ hv => rfl, fun _ _ _ _ _ => trivial⟩, fun val h_ W hx he => ⟨⟨66, rfl, rfl⟩, ?_⟩, ?_⟩
                        · replace hx := (Upd.drew _ _).trans hx
                          replace hl := hl.ext hx
                          replace hB7 := hB7.ext hx
                          have hE := Upd.refl (fun _ => False) W
                          refine id (X_load (v := c.1) T42 rfl (kkey hl (Int.toNat_natCast _) hci) ?_)
                          exact ⟨hE, rfl⟩
                        refine ⟨.det (fun val => (strV (c.2.1))), ⟨fun _ _ hv => rfl, fun _ _ _ _ _ => trivial⟩, fun val h_ W hx he => ⟨⟨66, rfl, rfl⟩, ?_⟩, ?_⟩
                        · replace hx := (Upd.drew _ _).trans hx
                          replace hl := hl.ext hx
                          replace hB7 := hB7.ext hx
                          have hE := Upd.refl (fun _ => False) W
                          refine id (X_str (v := c.1) (l := c.2.1) Tryd.underlying42 Tryd.underlying5 Tryd.underlying9 rfl (krd hl hci) ?_)
                          exact ⟨hE, rfl⟩
                        refine ⟨.det (fun val => (ptr b7 (0))), ⟨fun _ _ hv => rfl, fun _ _ _ _ _ => trivial⟩, fun val h_ W hx he => ⟨⟨66, rfl, rfl⟩, ?_⟩, ?_⟩
                        · replace hx := (Upd.drew _ _).trans hx
                          replace hl := hl.ext hx
                          replace hB7 := hB7.ext hx
                          have hE := Upd.refl (fun _ => False) W
                          refine id (X_fldP (b := b7) (o := 0) (r := 0) Fd44_0 rfl rfl ?_)
                          exact ⟨hE, rfl⟩
                        refine ⟨.det (fun val => e.1), ⟨fun _ _ hv => rfl, fun _ _ _ _ _ => trivial⟩, fun val h_ W hx he => ⟨⟨66, rfl, rfl⟩, ?_⟩, ?_⟩
                        · replace hx := (Upd.drew _ _).trans hx
                          replace hl := hl.ext hx
                          replace hB7 := hB7.ext hx
                          have hE := Upd.refl (fun _ => False) W
                          refine id (X_load (p := (ptr b7 (0))) (v := e.1) T42 rfl (hB7.at1 rfl) ?_)
                          exact ⟨hE, rfl⟩
                        refine ⟨.det (fun val => (strV (e.2.1))), ⟨fun _ _ hv => rfl, fun _ _ _ _ _ => trivial⟩, fun val h_ W hx he => ⟨⟨66, rfl, rfl⟩, ?_⟩, ?_⟩
                        · replace hx := (Upd.drew _ _).trans hx
                          replace hl := hl.ext hx
                          replace hB7 := hB7.ext hx
                          have hE := Upd.refl (fun _ => False) W
                          refine id (X_str (v := e.1) (l := e.2.1) Tryd.underlying42 Tryd.underlying5 Tryd.underlying9 rfl (krd hl hei) ?_)
                          exact ⟨hE, rfl⟩
                        intro val W18 hx18 he18
                        replace hx18 := (Upd.drew _ _).trans hx18
                        have hz18 := hx18.size
                        replace hl := hl.ext hx18
                        replace hU := hU.trans (Ext.upd hx18)
                        replace hB7 := hB7.ext hx18
                        refine L_gy (dj := 66) rfl rfl rfl (X_scmp (a := c.2.1) (b := e.2.1) (r := true) rfl rfl rfl hs17 ?_)
                        refine L_op rfl (X_pick (t := true) (v := (.bool (true))) rfl rfl ?_)
                        refine L_op rfl (X_assign (v := (.bool (true))) rfl ?_)
                        refine L_nil ?_
                        refine T_n ?_
                        refine W_seq ?_
                        refine W_reg ?_
                        refine L_op rfl (X_move (v := (.bool (true))) rfl ?_)
                        refine L_op rfl (X_not (b := true) (r := false) rfl rfl ?_)
                        refine L_nil ?_
                        refine T_n ?_
                        refine W_cf rfl ?_
                        refine W_skip ?_
                        refine B_n ?_
                        refine T_n ?_
                        refine W_reg ?_
                        refine L_op rfl (X_arith (k := .i64) (a := ((i : Nat) : Int)) (b := 1) (r := ((i + 1 : Nat) : Int)) rfl rfl rfl (iadd64 (by omega) (by omega) (by omega)) ?_)
                        refine L_op rfl (X_move (v := (.int .i64 (((i + 1 : Nat) : Int)))) rfl ?_)
                        refine L_nil ?_
                        refine T_n ?_
                        exact ⟨rfl, i + 1, ⟨⟨hi, hl, fun j hj => (Nat.lt_or_ge j i).elim (hz j) fun h1 => by obtain rfl : j = i := by { omega }; exact hst.2 ⟨⟨of_decide_eq_true hc10, of_decide_eq_true hc12, by omega⟩, fun _ => ⟨by omega, by omega, hs17⟩⟩, hU⟩, (by show es.length - (i + 1) < es.length - i; omega)⟩, (Out.mk rfl), ⟨rfl, rfl, trivial⟩⟩
                      · have hs15_ := of_decide_eq_true hs15
                        have hs16_ := of_decide_eq_true hs16
                        refine W_draw 24 [[], [0], [0, 1], [0, 1, 2], [0, 1, 2, 3], [0, 1, 2, 3, 4], [0, 1, 2, 3, 4, 5], [0, 1, 2, 3, 4, 5, 6], [0, 1, 2, 3, 4, 5, 6, 7], [0, 1, 2, 3, 4, 5, 6, 7, 8], [0, 1, 2, 3, 4, 5, 6, 7, 8, 9], [0, 1, 2, 3, 4, 5, 6, 7, 8, 9, 10], [0, 1, 2, 3, 4, 5, 6, 7, 8, 9, 10, 11], [0, 1, 2, 3, 4, 5, 6, 7, 8, 9, 10, 11, 12], [0, 1, 2, 3, 4, 5, 6, 7, 8, 9, 10, 11, 12, 13], [0, 1, 2, 3, 4, 5, 6, 7, 8, 9, 10, 11, 12, 13], [0, 1, 2, 3, 4, 5, 6, 7, 8, 9, 10, 11, 12, 13, 15], [0, 1, 2, 3, 4, 5, 6, 7, 8, 9, 10, 11, 12, 13, 14, 15, 16], [0, 1, 2, 3, 4, 5, 6, 7, 8, 9, 10, 11, 12, 13, 14, 15, 16, 17], [0, 1, 2, 3, 4, 5, 6, 7, 8, 9, 10, 11, 12, 13, 14, 15, 16, 17, 18], [0, 1, 2, 3, 4, 5, 6, 7, 8, 9, 10, 11, 12, 13, 14, 15, 16, 17, 18, 19], [0, 1, 2, 3, 4, 5, 6, 7, 8, 9, 10, 11, 12, 13], [0, 1, 2, 3, 4, 5, 6, 7, 8, 9, 10, 11, 12, 13, 21], [0, 1, 2, 3, 4, 5, 6, 7, 8, 9, 10, 11, 12, 13, 21, 22], [0, 1, 2, 3, 4, 5, 6, 7, 8, 9, 10, 11, 12, 13, 14, 15, 16, 17, 18, 19, 20, 21, 22, 23], [0, 1, 2, 3, 4, 5, 6, 7, 8, 9, 10, 11, 12, 13, 14, 15, 16, 17, 18, 19, 20, 21, 22, 23, 24], [0, 1, 2, 3, 4, 5, 6, 7, 8, 9, 10, 11, 12, 13, 14, 15, 16, 17, 18, 19, 20, 21, 22, 23, 24, 25]] mixed (by kernel_rfl) ?_
                        refine ⟨.det (fun val => (.bool (true))), ⟨fun _ _ hv => rfl, fun _ _ _ _ _ => trivial⟩, fun val h_ W hx he => ⟨trivial, ?_⟩, ?_⟩
                        · replace hx := (Upd.drew _ _).trans hx
                          replace hl := hl.ext hx
                          replace hB7 := hB7.ext hx
                          have hE := Upd.refl (fun _ => False) W
                          refine id (X_move (v := (.bool (true))) rfl ?_)
                          exact ⟨hE, rfl⟩
                        refine ⟨.det (fun val => (.bool (true))), ⟨fun _ _ hv => rfl, fun _ _ _ _ _ => trivial⟩, fun val h_ W hx he => ⟨trivial, ?_⟩, ?_⟩
                        · replace hx := (Upd.drew _ _).trans hx
                          replace hl := hl.ext hx
                          replace hB7 := hB7.ext hx
                          have hE := Upd.refl (fun _ => False) W
                          refine id (X_move (v := (.bool (true))) rfl ?_)
                          exact ⟨hE, rfl⟩
                        refine ⟨.det (fun val => (ptr b7 (0))), ⟨fun _ _ hv => rfl, fun _ _ _ _ _ => trivial⟩, fun val h_ W hx he => ⟨⟨54, rfl, rfl⟩, ?_⟩, ?_⟩
                        · replace hx := (Upd.drew _ _).trans hx
                          replace hl := hl.ext hx
                          replace hB7 := hB7.ext hx
                          have hE := Upd.refl (fun _ => False) W
                          refine id (X_fldP (b := b7) (o := 0) (r := 0) Fd44_0 rfl rfl ?_)
                          exact ⟨hE, rfl⟩
                        refine ⟨.det (fun val => e.1), ⟨fun _ _ hv => rfl, fun _ _ _ _ _ => trivial⟩, fun val h_ W hx he => ⟨⟨54, rfl, rfl⟩, ?_⟩, ?_⟩
                        · replace hx := (Upd.drew _ _).trans hx
                          replace hl := hl.ext hx
                          replace hB7 := hB7.ext hx
                          have hE := Upd.refl (fun _ => False) W
                          refine id (X_load (p := (ptr b7 (0))) (v := e.1) T42 rfl (hB7.at1 rfl) ?_)
                          exact ⟨hE, rfl⟩
                        refine ⟨.det (fun val => (.int .i64 (((e.2.1.length : Nat) : Int)))), ⟨fun _ _ hv => rfl, fun _ _ _ _ _ => trivial⟩, fun val h_ W hx he => ⟨⟨54, rfl, rfl⟩, ?_⟩, ?_⟩
                        · replace hx := (Upd.drew _ _).trans hx
                          replace hl := hl.ext hx
                          replace hB7 := hB7.ext hx
                          have hE := Upd.refl (fun _ => False) W
                          refine id (X_len (v := e.1) (n := e.2.1.length) Tryd.underlying42 rfl (krd hl hei).sv ?_)
                          exact ⟨hE, rfl⟩
                        refine ⟨.det (fun val => (.bool (true))), ⟨fun _ _ hv => rfl, fun _ _ _ _ _ => trivial⟩, fun val h_ W hx he => ⟨⟨54, rfl, rfl⟩, ?_⟩, ?_⟩
                        · replace hx := (Upd.drew _ _).trans hx
                          replace hl := hl.ext hx
                          replace hB7 := hB7.ext hx
                          have hE := Upd.refl (fun _ => False) W
                          refine id (X_cmp (k := .i64) (a := ((e.2.1.length : Nat) : Int)) (b := 1) (r := true) rfl rfl rfl (decide_eq_true (p := ((1) : Int) ≤ ((((e.2.1.length : Nat) : Int)) : Int)) (by omega)) ?_)
                          exact ⟨hE, rfl⟩
                        refine ⟨.det (fun val => (.bool (true))), ⟨fun _ _ hv => rfl, fun _ _ _ _ _ => trivial⟩, fun val h_ W hx he => ⟨trivial, ?_⟩, ?_⟩
                        · replace hx := (Upd.drew _ _).trans hx
                          replace hl := hl.ext hx
                          replace hB7 := hB7.ext hx
                          have hE := Upd.refl (fun _ => False) W
                          refine id (X_pick (t := true) (v := (.bool (true))) rfl rfl ?_)
                          exact ⟨hE, rfl⟩
                        refine ⟨.det (fun val => (.bool (true))), ⟨fun _ _ hv => rfl, fun _ _ _ _ _ => trivial⟩, fun val h_ W hx he => ⟨trivial, ?_⟩, ?_⟩
                        · replace hx := (Upd.drew _ _).trans hx
                          replace hl := hl.ext hx
                          replace hB7 := hB7.ext hx
                          have hE := Upd.refl (fun _ => False) W
                          refine id (X_move (v := (.bool (true))) rfl ?_)
                          exact ⟨hE, rfl⟩
                        refine ⟨.det (fun val => (ptr b7 (0))), ⟨fun _ _ hv => rfl, fun _ _ _ _ _ => trivial⟩, fun val h_ W hx he => ⟨⟨60, rfl, rfl⟩, ?_⟩, ?_⟩
                        · replace hx := (Upd.drew _ _).trans hx
                          replace hl := hl.ext hx
                          replace hB7 := hB7.ext hx
                          have hE := Upd.refl (fun _ => False) W
                          refine id (X_fldP (b := b7) (o := 0) (r := 0) Fd44_0 rfl rfl ?_)
                          exact ⟨hE, rfl⟩
                        refine ⟨.det (fun val => e.1), ⟨fun _ _ hv => rfl, fun _ _ _ _ _ => trivial⟩, fun val h_ W hx he => ⟨⟨60, rfl, rfl⟩, ?_⟩, ?_⟩
                        · replace hx := (Upd.drew _ _).trans hx
                          replace hl := hl.ext hx
                          replace hB7 := hB7.ext hx
                          have hE := Upd.refl (fun _ => False) W
                          refine id (X_load (p := (ptr b7 (0))) (v := e.1) T42 rfl (hB7.at1 rfl) ?_)
                          exact ⟨hE, rfl⟩
                        refine ⟨.det (fun val => (.int .i64 (((e.2.1.length : Nat) : Int)))), ⟨fun _ _ hv => rfl, fun _ _ _ _ _ => trivial⟩, fun val h_ W hx he => ⟨⟨60, rfl, rfl⟩, ?_⟩, ?_⟩
                        · replace hx := (Upd.drew _ _).trans hx
                          replace hl := hl.ext hx
                          replace hB7 := hB7.ext hx
                          have hE := Upd.refl (fun _ => False) W
                          refine id (X_len (v := e.1) (n := e.2.1.length) Tryd.underlying42 rfl (krd hl hei).sv ?_)
                          exact ⟨hE, rfl⟩
                        refine ⟨.det (fun val => (.bool (true))), ⟨fun _ _ hv => rfl, fun _ _ _ _ _ => trivial⟩, fun val h_ W hx he => ⟨⟨60, rfl, rfl⟩, ?_⟩, ?_⟩
                        · replace hx := (Upd.drew _ _).trans hx
                          replace hl := hl.ext hx
                          replace hB7 := hB7.ext hx
                          have hE := Upd.refl (fun _ => False) W
                          refine id (X_cmp (k := .i64) (a := ((e.2.1.length : Nat) : Int)) (b := 8) (r := true) rfl rfl rfl (decide_eq_true (p := ((((e.2.1.length : Nat) : Int)) : Int) ≤ ((8) : Int)) (by omega)) ?_)
                          exact ⟨hE, rfl⟩
                        refine ⟨.det (fun val => (.bool (true))), ⟨fun _ _ hv => rfl, fun _ _ _ _ _ => trivial⟩, fun val h_ W hx he => ⟨trivial, ?_⟩, ?_⟩
                        · replace hx := (Upd.drew _ _).trans hx
                          replace hl := hl.ext hx
                          replace hB7 := hB7.ext hx
                          have hE := Upd.refl (fun _ => False) W
                          refine id (X_pick (t := true) (v := (.bool (true))) rfl rfl ?_)
                          exact ⟨hE, rfl⟩
                        refine ⟨.det (fun val => (.bool (true))), ⟨fun _ _ hv => rfl, fun _ _ _ _ _ => trivial⟩, fun val h_ W hx he => ⟨trivial, ?_⟩, ?_⟩
                        · replace hx := (Upd.drew _ _).trans hx
                          replace hl := hl.ext hx
                          replace hB7 := hB7.ext hx
                          have hE := Upd.refl (fun _ => False) W
                          refine id (X_move (v := (.bool (true))) rfl ?_)
                          exact ⟨hE, rfl⟩
                        refine ⟨.det (fun val => l), ⟨fun _ _ hv => rfl, fun _ _ _ _ _ => trivial⟩, fun val h_ W hx he => ⟨⟨66, rfl, rfl⟩, ?_⟩, ?_⟩
                        · replace hx := (Upd.drew _ _).trans hx
                          replace hl := hl.ext hx
                          replace hB7 := hB7.ext hx
                          have hE := Upd.refl (fun _ => False) W
                          refine id (X_move (v := l) rfl ?_)
                          exact ⟨hE, rfl⟩
                        refine ⟨.det (fun val => (.int .i64 (((i : Nat) : Int)))), ⟨fun _ _ hv => rfl, fun _ _ _ _ _ => trivial⟩, fun val h_ W hx he => ⟨⟨66, rfl, rfl⟩, ?_⟩, ?_⟩
                        · replace hx := (Upd.drew _ _).trans hx
                          replace hl := hl.ext hx
                          replace hB7 := hB7.ext hx
                          have hE := Upd.refl (fun _ => False) W
                          refine id (X_move (v := (.int .i64 (((i : Nat) : Int)))) rfl ?_)
                          exact ⟨hE, rfl⟩
                        refine ⟨.det (fun val => (.int .i64 (((i - 1 : Nat) : Int)))), ⟨fun _ _ hv => rfl, fun _ _ _ _ _ => trivial⟩, fun val h_ W hx he => ⟨⟨66, rfl, rfl⟩, ?_⟩, ?_⟩
                        · replace hx := (Upd.drew _ _).trans hx
                          replace hl := hl.ext hx
                          replace hB7 := hB7.ext hx
                          have hE := Upd.refl (fun _ => False) W
                          refine id (X_arith (k := .i64) (a := ((i : Nat) : Int)) (b := 1) (r := ((i - 1 : Nat) : Int)) rfl rfl rfl (isub64 (by omega) (by omega) (by omega)) ?_)
                          exact ⟨hE, rfl⟩
                        refine ⟨.det (fun val => (pof l ((((i - 1 : Nat) : Int) : Int).toNat * 6))), ⟨fun _ _ hv => rfl, fun _ _ _ _ _ => trivial⟩, fun val h_ W hx he => ⟨⟨66, rfl, rfl⟩, ?_⟩, ?_⟩
                        · replace hx := (Upd.drew _ _).trans hx
                          replace hl := hl.ext hx
                          replace hB7 := hB7.ext hx
                          have hE := Upd.refl (fun _ => False) W
                          refine id (X_idx (v := l) (n := es.length) (k := .i64) (i := ((i - 1 : Nat) : Int)) S22 rfl hl.sv rfl (by omega) (by omega) ?_)
                          exact ⟨hE, rfl⟩
                        refine ⟨.det (fun val => (pof l ((((i - 1 : Nat) : Int) : Int).toNat * 6 + 0))), ⟨fun _ _ hv => rfl, fun _ _ _ _ _ => trivial⟩, fun val h_ W hx he => ⟨⟨66, rfl, rfl⟩, ?_⟩, ?_⟩
                        · replace hx := (Upd.drew _ _).trans hx
                          replace hl := hl.ext hx
                          replace hB7 := hB7.ext hx
                          have hE := Upd.refl (fun _ => False) W
                          refine id (X_fldS (v := l) (o := (((i - 1 : Nat) : Int) : Int).toNat * 6) Fd44_0 rfl hl.sv (by omega) ?_)
                          exact ⟨hE, rfl⟩
                        refine ⟨.det (fun val => c.1), ⟨fun _ _ hv => rfl, fun _ _ _ _ _ => trivial⟩, fun val h_ W hx he => ⟨⟨66, rfl, rfl⟩, ?_⟩, ?_⟩
                        · replace hx := (Upd.drew _ _).trans hx
                          replace hl := hl.ext hx
                          replace hB7 := hB7.ext hx
                          have hE := Upd.refl (fun _ => False) W
                          refine id (X_load (v := c.1) T42 rfl (kkey hl (Int.toNat_natCast _) hci) ?_)
                          exact ⟨hE, rfl⟩
                        refine ⟨.det (fun val => (strV (c.2.1))), ⟨fun _ _ hv => rfl, fun _ _ _ _ _ => trivial⟩, fun val h_ W hx he => ⟨⟨66, rfl, rfl⟩, ?_⟩, ?_⟩
                        · replace hx := (Upd.drew _ _).trans hx
                          replace hl := hl.ext hx
                          replace hB7 := hB7.ext hx
                          have hE := Upd.refl (fun _ => False) W
                          refine id (X_str (v := c.1) (l := c.2.1) Tryd.underlying42 Tryd.underlying5 Tryd.underlying9 rfl (krd hl hci) ?_)
                          exact ⟨hE, rfl⟩
                        refine ⟨.det (fun val => (ptr b7 (0))), ⟨fun _ _ hv => rfl, fun _ _ _ _ _ => trivial⟩, fun val h_ W hx he => ⟨⟨66, rfl, rfl⟩, ?_⟩, ?_⟩
                        · replace hx := (Upd.drew _ _).trans hx
                          replace hl := hl.ext hx
                          replace hB7 := hB7.ext hx
                          have hE := Upd.refl (fun _ => False) W
                          refine id (X_fldP (b := b7) (o := 0) (r := 0) Fd44_0 rfl rfl ?_)
                          exact ⟨hE, rfl⟩
                        refine ⟨.det (fun val => e.1), ⟨fun _ _ hv => rfl, fun _ _ _ _ _ => trivial⟩, fun val h_ W hx he => ⟨⟨66, rfl, rfl⟩, ?_⟩, ?_⟩
                        · replace hx := (Upd.drew _ _).trans hx
                          replace hl := hl.ext hx
                          replace hB7 := hB7.ext hx
                          have hE := Upd.refl (fun _ => False) W
                          refine id (X_load (p := (ptr b7 (0))) (v := e.1) T42 rfl (hB7.at1 rfl) ?_)
                          exact ⟨hE, rfl⟩
                        refine ⟨.det (fun val => (strV (e.2.1))), ⟨fun _ _ hv => rfl, fun _ _ _ _ _ => trivial⟩, fun val h_ W hx he => ⟨⟨66, rfl, rfl⟩, ?_⟩, ?_⟩
                        · replace hx := (Upd.drew _ _).trans hx
                          replace hl := hl.ext hx
                          replace hB7 := hB7.ext hx
                          have hE := Upd.refl (fun _ => False) W
                          refine id (X_str (v := e.1) (l := e.2.1) Tryd.underlying42 Tryd.underlying5 Tryd.underlying9 rfl (krd hl hei) ?_)
                          exact ⟨hE, rfl⟩
                        intro val W20 hx20 he20
                        replace hx20 := (Upd.drew _ _).trans hx20
                        have hz20 := hx20.size
                        replace hl := hl.ext hx20
                        replace hU := hU.trans (Ext.upd hx20)
                        replace hB7 := hB7.ext hx20
                        refine L_gy (dj := 66) rfl rfl rfl (X_scmp (a := c.2.1) (b := e.2.1) (r := false) rfl rfl rfl hs17 ?_)
                        refine L_op rfl (X_pick (t := true) (v := (.bool (false))) rfl rfl ?_)
                        refine L_op rfl (X_assign (v := (.bool (false))) rfl ?_)
                        refine L_nil ?_
                        refine T_n ?_
                        refine W_seq ?_
                        refine W_reg ?_
                        refine L_op rfl (X_move (v := (.bool (false))) rfl ?_)
                        refine L_op rfl (X_not (b := false) (r := true) rfl rfl ?_)
                        refine L_nil ?_
                        refine T_n ?_
                        refine W_ct rfl ?_
                        refine W_exit ?_
                        refine B_e rfl ?_
                        refine T_e ?_
                        refine T_e ?_
                        refine B_x ?_
                        refine T_n ?_
                        refine W_seq ?_
                        refine W_reg ?_
                        refine L_op rfl (X_move (v := (.bool (false))) rfl ?_)
                        refine L_op rfl (X_assign (v := (.bool (false))) rfl ?_)
                        refine L_nil ?_
                        refine T_n ?_
                        refine W_ret ?_
                        refine S_r ?_
                        have hR : ¬ RightK (es.map (fun (x : KE) => x.2)) := fun h => by obtain ⟨⟨h1, h2, h3⟩, h4⟩ := hst.1 (h.2 i (by rw [List.length_map]; exact hi)); have h5 := (h4 (by omega)).2.2; rw [show Op.bytesLess c.2.1 e.2.1 = false from hs17] at h5; cases h5
                        exact BQ_r (End_1 Tryd.results11 (v := .bool false) rfl ⟨by rw [decide_eq_false hR], hU.own hn0⟩)
                    · have hs15_ := of_decide_eq_true hs15
                      have hs16_ := of_decide_eq_false hs16
                      refine W_draw 24 [[], [0], [0, 1], [0, 1, 2], [0, 1, 2, 3], [0, 1, 2, 3, 4], [0, 1, 2, 3, 4, 5], [0, 1, 2, 3, 4, 5, 6], [0, 1, 2, 3, 4, 5, 6, 7], [0, 1, 2, 3, 4, 5, 6, 7, 8], [0, 1, 2, 3, 4, 5, 6, 7, 8, 9], [0, 1, 2, 3, 4, 5, 6, 7, 8, 9, 10], [0, 1, 2, 3, 4, 5, 6, 7, 8, 9, 10, 11], [0, 1, 2, 3, 4, 5, 6, 7, 8, 9, 10, 11, 12], [0, 1, 2, 3, 4, 5, 6, 7, 8, 9, 10, 11, 12, 13], [0, 1, 2, 3, 4, 5, 6, 7, 8, 9, 10, 11, 12, 13], [0, 1, 2, 3, 4, 5, 6, 7, 8, 9, 10, 11, 12, 13, 15], [0, 1, 2, 3, 4, 5, 6, 7, 8, 9, 10, 11, 12, 13, 14, 15, 16], [0, 1, 2, 3, 4, 5, 6, 7, 8, 9, 10, 11, 12, 13, 14, 15, 16, 17], [0, 1, 2, 3, 4, 5, 6, 7, 8, 9, 10, 11, 12, 13, 14, 15, 16, 17, 18], [0, 1, 2, 3, 4, 5, 6, 7, 8, 9, 10, 11, 12, 13, 14, 15, 16, 17, 18, 19], [0, 1, 2, 3, 4, 5, 6, 7, 8, 9, 10, 11, 12, 13], [0, 1, 2, 3, 4, 5, 6, 7, 8, 9, 10, 11, 12, 13, 21], [0, 1, 2, 3, 4, 5, 6, 7, 8, 9, 10, 11, 12, 13, 21, 22], [0, 1, 2, 3, 4, 5, 6, 7, 8, 9, 10, 11, 12, 13, 14, 15, 16, 17, 18, 19, 20, 21, 22, 23], [0, 1, 2, 3, 4, 5, 6, 7, 8, 9, 10, 11, 12, 13, 14, 15, 16, 17, 18, 19, 20, 21, 22, 23, 24], [0, 1, 2, 3, 4, 5, 6, 7, 8, 9, 10, 11, 12, 13, 14, 15, 16, 17, 18, 19, 20, 21, 22, 23, 24, 25]] mixed (by kernel_rfl) ?_
                      refine ⟨.det (fun val => (.bool (true))), ⟨fun _ _ hv => rfl, fun _ _ _ _ _ => trivial⟩, fun val h_ W hx he => ⟨trivial, ?_⟩, ?_⟩
                      · replace hx := (Upd.drew _ _).trans hx
                        replace hl := hl.ext hx
                        replace hB7 := hB7.ext hx
                        have hE := Upd.refl (fun _ => False) W
                        refine id (X_move (v := (.bool (true))) rfl ?_)
                        exact ⟨hE, rfl⟩
                      refine ⟨.det (fun val => (.bool (true))), ⟨fun _ _ hv => rfl, fun _ _ _ _ _ => trivial⟩, fun val h_ W hx he => ⟨trivial, ?_⟩, ?_⟩
                      · replace hx := (Upd.drew _ _).trans hx
                        replace hl := hl.ext hx
                        replace hB7 := hB7.ext hx
                        have hE := Upd.refl (fun _ => False) W
                        refine id (X_move (v := (.bool (true))) rfl ?_)
                        exact ⟨hE, rfl⟩
                      refine ⟨.det (fun val => (ptr b7 (0))), ⟨fun _ _ hv => rfl, fun _ _ _ _ _ => trivial⟩, fun val h_ W hx he => ⟨⟨54, rfl, rfl⟩, ?_⟩, ?_⟩
                      · replace hx := (Upd.drew _ _).trans hx
                        replace hl := hl.ext hx
                        replace hB7 := hB7.ext hx
                        have hE := Upd.refl (fun _ => False) W
                        refine id (X_fldP (b := b7) (o := 0) (r := 0) Fd44_0 rfl rfl ?_)
                        exact ⟨hE, rfl⟩
                      refine ⟨.det (fun val => e.1), ⟨fun _ _ hv => rfl, fun _ _ _ _ _ => trivial⟩, fun val h_ W hx he => ⟨⟨54, rfl, rfl⟩, ?_⟩, ?_⟩
                      · replace hx := (Upd.drew _ _).trans hx
                        replace hl := hl.ext hx
                        replace hB7 := hB7.ext hx
                        have hE := Upd.refl (fun _ => False) W
                        refine id (X_load (p := (ptr b7 (0))) (v := e.1) T42 rfl (hB7.at1 rfl) ?_)
                        exact ⟨hE, rfl⟩
                      refine ⟨.det (fun val => (.int .i64 (((e.2.1.length : Nat) : Int)))), ⟨fun _ _ hv => rfl, fun _ _ _ _ _ => trivial⟩, fun val h_ W hx he => ⟨⟨54, rfl, rfl⟩, ?_⟩, ?_⟩
                      · replace hx := (Upd.drew _ _).trans hx
                        replace hl := hl.ext hx
                        replace hB7 := hB7.ext hx
                        have hE := Upd.refl (fun _ => False) W
                        refine id (X_len (v := e.1) (n := e.2.1.length) Tryd.underlying42 rfl (krd hl hei).sv ?_)
                        exact ⟨hE, rfl⟩
                      refine ⟨.det (fun val => (.bool (true))), ⟨fun _ _ hv => rfl, fun _ _ _ _ _ => trivial⟩, fun val h_ W hx he => ⟨⟨54, rfl, rfl⟩, ?_⟩, ?_⟩
                      · replace hx := (Upd.drew _ _).trans hx
                        replace hl := hl.ext hx
                        replace hB7 := hB7.ext hx
                        have hE := Upd.refl (fun _ => False) W
                        refine id (X_cmp (k := .i64) (a := ((e.2.1.length : Nat) : Int)) (b := 1) (r := true) rfl rfl rfl (decide_eq_true (p := ((1) : Int) ≤ ((((e.2.1.length : Nat) : Int)) : Int)) (by omega)) ?_)
                        exact ⟨hE, rfl⟩
                      refine ⟨.det (fun val => (.bool (true))), ⟨fun _ _ hv => rfl, fun _ _ _ _ _ => trivial⟩, fun val h_ W hx he => ⟨trivial, ?_⟩, ?_⟩
                      · replace hx := (Upd.drew _ _).trans hx
                        replace hl := hl.ext hx
                        replace hB7 := hB7.ext hx
                        have hE := Upd.refl (fun _ => False) W
                        refine id (X_pick (t := true) (v := (.bool (true))) rfl rfl ?_)
                        exact ⟨hE, rfl⟩
                      refine ⟨.det (fun val => (.bool (true))), ⟨fun _ _ hv => rfl, fun _ _ _ _ _ => trivial⟩, fun val h_ W hx he => ⟨trivial, ?_⟩, ?_⟩
                      · replace hx := (Upd.drew _ _).trans hx
                        replace hl := hl.ext hx
                        replace hB7 := hB7.ext hx
                        have hE := Upd.refl (fun _ => False) W
                        refine id (X_move (v := (.bool (true))) rfl ?_)
                        exact ⟨hE, rfl⟩
                      refine ⟨.det (fun val => (ptr b7 (0))), ⟨fun _ _ hv => rfl, fun _ _ _ _ _ => trivial⟩, fun val h_ W hx he => ⟨⟨60, rfl, rfl⟩, ?_⟩, ?_⟩
                      · replace hx := (Upd.drew _ _).trans hx
                        replace hl := hl.ext hx
                        replace hB7 := hB7.ext hx
                        have hE := Upd.refl (fun _ => False) W
                        refine id (X_fldP (b := b7) (o := 0) (r := 0) Fd44_0 rfl rfl ?_)
                        exact ⟨hE, rfl⟩
                      refine ⟨.det (fun val => e.1), ⟨fun _ _ hv => rfl, fun _ _ _ _ _ => trivial⟩, fun val h_ W hx he => ⟨⟨60, rfl, rfl⟩, ?_⟩, ?_⟩
                      · replace hx := (Upd.drew _ _).trans hx
                        replace hl := hl.ext hx
                        replace hB7 := hB7.ext hx
                        have hE := Upd.refl (fun _ => False) W
                        refine id (X_load (p := (ptr b7 (0))) (v := e.1) T42 rfl (hB7.at1 rfl) ?_)
                        exact ⟨hE, rfl⟩
                      refine ⟨.det (fun val => (.int .i64 (((e.2.1.length : Nat) : Int)))), ⟨fun _ _ hv => rfl, fun _ _ _ _ _ => trivial⟩, fun val h_ W hx he => ⟨⟨60, rfl, rfl⟩, ?_⟩, ?_⟩
                      · replace hx := (Upd.drew _ _).trans hx
                        replace hl := hl.ext hx
                        replace hB7 := hB7.ext hx
                        have hE := Upd.refl (fun _ => False) W
                        refine id (X_len (v := e.1) (n := e.2.1.length) Tryd.underlying42 rfl (krd hl hei).sv ?_)
                        exact ⟨hE, rfl⟩
                      refine ⟨.det (fun val => (.bool (false))), ⟨fun _ _ hv => rfl, fun _ _ _ _ _ => trivial⟩, fun val h_ W hx he => ⟨⟨60, rfl, rfl⟩, ?_⟩, ?_⟩
                      · replace hx := (Upd.drew _ _).trans hx
                        replace hl := hl.ext hx
                        replace hB7 := hB7.ext hx
                        have hE := Upd.refl (fun _ => False) W
                        refine id (X_cmp (k := .i64) (a := ((e.2.1.length : Nat) : Int)) (b := 8) (r := false) rfl rfl rfl (decide_eq_false (p := ((((e.2.1.length : Nat) : Int)) : Int) ≤ ((8) : Int)) (by omega)) ?_)
                        exact ⟨hE, rfl⟩
                      refine ⟨.det (fun val => (.bool (false))), ⟨fun _ _ hv => rfl, fun _ _ _ _ _ => trivial⟩, fun val h_ W hx he => ⟨trivial, ?_⟩, ?_⟩
                      · replace hx := (Upd.drew _ _).trans hx
                        replace hl := hl.ext hx
                        replace hB7 := hB7.ext hx
                        have hE := Upd.refl (fun _ => False) W
                        refine id (X_pick (t := true) (v := (.bool (false))) rfl rfl ?_)
                        exact ⟨hE, rfl⟩
                      refine ⟨.det (fun val => (.bool (false))), ⟨fun _ _ hv => rfl, fun _ _ _ _ _ => trivial⟩, fun val h_ W hx he => ⟨trivial, ?_⟩, ?_⟩
                      · replace hx := (Upd.drew _ _).trans hx
                        replace hl := hl.ext hx
                        replace hB7 := hB7.ext hx
                        have hE := Upd.refl (fun _ => False) W
                        refine id (X_move (v := (.bool (false))) rfl ?_)
                        exact ⟨hE, rfl⟩
                      refine ⟨.no, ⟨fun _ _ _ => trivial, fun _ _ _ _ _ => trivial⟩, fun val h_ W hx he => ⟨66, rfl, .inl rfl⟩, ?_⟩
                      refine ⟨.no, ⟨fun _ _ _ => trivial, fun _ _ _ _ _ => trivial⟩, fun val h_ W hx he => ⟨66, rfl, .inl rfl⟩, ?_⟩
                      refine ⟨.no, ⟨fun _ _ _ => trivial, fun _ _ _ _ _ => trivial⟩, fun val h_ W hx he => ⟨66, rfl, .inl rfl⟩, ?_⟩
                      refine ⟨.no, ⟨fun _ _ _ => trivial, fun _ _ _ _ _ => trivial⟩, fun val h_ W hx he => ⟨66, rfl, .inl rfl⟩, ?_⟩
                      refine ⟨.no, ⟨fun _ _ _ => trivial, fun _ _ _ _ _ => trivial⟩, fun val h_ W hx he => ⟨66, rfl, .inl rfl⟩, ?_⟩
                      refine ⟨.no, ⟨fun _ _ _ => trivial, fun _ _ _ _ _ => trivial⟩, fun val h_ W hx he => ⟨66, rfl, .inl rfl⟩, ?_⟩
                      refine ⟨.no, ⟨fun _ _ _ => trivial, fun _ _ _ _ _ => trivial⟩, fun val h_ W hx he => ⟨66, rfl, .inl rfl⟩, ?_⟩
                      refine ⟨.no, ⟨fun _ _ _ => trivial, fun _ _ _ _ _ => trivial⟩, fun val h_ W hx he => ⟨66, rfl, .inl rfl⟩, ?_⟩
                      refine ⟨.no, ⟨fun _ _ _ => trivial, fun _ _ _ _ _ => trivial⟩, fun val h_ W hx he => ⟨66, rfl, .inl rfl⟩, ?_⟩
                      refine ⟨.no, ⟨fun _ _ _ => trivial, fun _ _ _ _ _ => trivial⟩, fun val h_ W hx he => ⟨66, rfl, .inl rfl⟩, ?_⟩
                      intro val W22 hx22 he22
                      replace hx22 := (Upd.drew _ _).trans hx22
                      have hz22 := hx22.size
                      replace hl := hl.ext hx22
                      replace hU := hU.trans (Ext.upd hx22)
                      replace hB7 := hB7.ext hx22
                      refine L_gn (dj := 66) (t := false) rfl rfl rfl rfl ?_
                      refine L_op rfl (X_pick (t := false) (v := (.bool (false))) rfl rfl ?_)
                      refine L_op rfl (X_assign (v := (.bool (false))) rfl ?_)
                      refine L_nil ?_
                      refine T_n ?_
                      refine W_seq ?_
                      refine W_reg ?_
                      refine L_op rfl (X_move (v := (.bool (false))) rfl ?_)
                      refine L_op rfl (X_not (b := false) (r := true) rfl rfl ?_)
                      refine L_nil ?_
                      refine T_n ?_
                      refine W_ct rfl ?_
                      refine W_exit ?_
                      refine B_e rfl ?_
                      refine T_e ?_
                      refine T_e ?_
                      refine B_x ?_
                      refine T_n ?_
                      refine W_seq ?_
                      refine W_reg ?_
                      refine L_op rfl (X_move (v := (.bool (false))) rfl ?_)
                      refine L_op rfl (X_assign (v := (.bool (false))) rfl ?_)
                      refine L_nil ?_
                      refine T_n ?_
                      refine W_ret ?_
                      refine S_r ?_
                      have hR : ¬ RightK (es.map (fun (x : KE) => x.2)) := fun h => by obtain ⟨⟨h1, h2, h3⟩, h4⟩ := hst.1 (h.2 i (by rw [List.length_map]; exact hi)); have h5 := h4 (by omega); omega
                      exact BQ_r (End_1 Tryd.results11 (v := .bool false) rfl ⟨by rw [decide_eq_false hR], hU.own hn0⟩)
                  · have hs15_ := of_decide_eq_false hs15
                    refine W_draw 24 [[], [0], [0, 1], [0, 1, 2], [0, 1, 2, 3], [0, 1, 2, 3, 4], [0, 1, 2, 3, 4, 5], [0, 1, 2, 3, 4, 5, 6], [0, 1, 2, 3, 4, 5, 6, 7], [0, 1, 2, 3, 4, 5, 6, 7, 8], [0, 1, 2, 3, 4, 5, 6, 7, 8, 9], [0, 1, 2, 3, 4, 5, 6, 7, 8, 9, 10], [0, 1, 2, 3, 4, 5, 6, 7, 8, 9, 10, 11], [0, 1, 2, 3, 4, 5, 6, 7, 8, 9, 10, 11, 12], [0, 1, 2, 3, 4, 5, 6, 7, 8, 9, 10, 11, 12, 13], [0, 1, 2, 3, 4, 5, 6, 7, 8, 9, 10, 11, 12, 13], [0, 1, 2, 3, 4, 5, 6, 7, 8, 9, 10, 11, 12, 13, 15], [0, 1, 2, 3, 4, 5, 6, 7, 8, 9, 10, 11, 12, 13, 14, 15, 16], [0, 1, 2, 3, 4, 5, 6, 7, 8, 9, 10, 11, 12, 13, 14, 15, 16, 17], [0, 1, 2, 3, 4, 5, 6, 7, 8, 9, 10, 11, 12, 13, 14, 15, 16, 17, 18], [0, 1, 2, 3, 4, 5, 6, 7, 8, 9, 10, 11, 12, 13, 14, 15, 16, 17, 18, 19], [0, 1, 2, 3, 4, 5, 6, 7, 8, 9, 10, 11, 12, 13], [0, 1, 2, 3, 4, 5, 6, 7, 8, 9, 10, 11, 12, 13, 21], [0, 1, 2, 3, 4, 5, 6, 7, 8, 9, 10, 11, 12, 13, 21, 22], [0, 1, 2, 3, 4, 5, 6, 7, 8, 9, 10, 11, 12, 13, 14, 15, 16, 17, 18, 19, 20, 21, 22, 23], [0, 1, 2, 3, 4, 5, 6, 7, 8, 9, 10, 11, 12, 13, 14, 15, 16, 17, 18, 19, 20, 21, 22, 23, 24], [0, 1, 2, 3, 4, 5, 6, 7, 8, 9, 10, 11, 12, 13, 14, 15, 16, 17, 18, 19, 20, 21, 22, 23, 24, 25]] mixed (by kernel_rfl) ?_
                    refine ⟨.det (fun val => (.bool (true))), ⟨fun _ _ hv => rfl, fun _ _ _ _ _ => trivial⟩, fun val h_ W hx he => ⟨trivial, ?_⟩, ?_⟩
                    · replace hx := (Upd.drew _ _).trans hx
                      replace hl := hl.ext hx
                      replace hB7 := hB7.ext hx
                      have hE := Upd.refl (fun _ => False) W
                      refine id (X_move (v := (.bool (true))) rfl ?_)
                      exact ⟨hE, rfl⟩
                    refine ⟨.det (fun val => (.bool (true))), ⟨fun _ _ hv => rfl, fun _ _ _ _ _ => trivial⟩, fun val h_ W hx he => ⟨trivial, ?_⟩, ?_⟩
                    · replace hx := (Upd.drew _ _).trans hx
                      replace hl := hl.ext hx
                      replace hB7 := hB7.ext hx
                      have hE := Upd.refl (fun _ => False) W
                      refine id (X_move (v := (.bool (true))) rfl ?_)
                      exact ⟨hE, rfl⟩
                    refine ⟨.det (fun val => (ptr b7 (0))), ⟨fun _ _ hv => rfl, fun _ _ _ _ _ => trivial⟩, fun val h_ W hx he => ⟨⟨54, rfl, rfl⟩, ?_⟩, ?_⟩
                    · replace hx := (Upd.drew _ _).trans hx
                      replace hl := hl.ext hx
                      replace hB7 := hB7.ext hx
                      have hE := Upd.refl (fun _ => False) W
                      refine id (X_fldP (b := b7) (o := 0) (r := 0) Fd44_0 rfl rfl ?_)
                      exact ⟨hE, rfl⟩
                    refine ⟨.det (fun val => e.1), ⟨fun _ _ hv => rfl, fun _ _ _ _ _ => trivial⟩, fun val h_ W hx he => ⟨⟨54, rfl, rfl⟩, ?_⟩, ?_⟩
                    · replace hx := (Upd.drew _ _).trans hx
                      replace hl := hl.ext hx
                      replace hB7 := hB7.ext hx
                      have hE := Upd.refl (fun _ => False) W
                      refine id (X_load (p := (ptr b7 (0))) (v := e.1) T42 rfl (hB7.at1 rfl) ?_)
                      exact ⟨hE, rfl⟩
                    refine ⟨.det (fun val => (.int .i64 (((e.2.1.length : Nat) : Int)))), ⟨fun _ _ hv => rfl, fun _ _ _ _ _ => trivial⟩, fun val h_ W hx he => ⟨⟨54, rfl, rfl⟩, ?_⟩, ?_⟩
                    · replace hx := (Upd.drew _ _).trans hx
                      replace hl := hl.ext hx
                      replace hB7 := hB7.ext hx
                      have hE := Upd.refl (fun _ => False) W
                      refine id (X_len (v := e.1) (n := e.2.1.length) Tryd.underlying42 rfl (krd hl hei).sv ?_)
                      exact ⟨hE, rfl⟩
                    refine ⟨.det (fun val => (.bool (false))), ⟨fun _ _ hv => rfl, fun _ _ _ _ _ => trivial⟩, fun val h_ W hx he => ⟨⟨54, rfl, rfl⟩, ?_⟩, ?_⟩
                    · replace hx := (Upd.drew _ _).trans hx
                      replace hl := hl.ext hx
                      replace hB7 := hB7.ext hx
                      have hE := Upd.refl (fun _ => False) W
                      refine id (X_cmp (k := .i64) (a := ((e.2.1.length : Nat) : Int)) (b := 1) (r := false) rfl rfl rfl (decide_eq_false (p := ((1) : Int) ≤ ((((e.2.1.length : Nat) : Int)) : Int)) (by omega)) ?_)
                      exact ⟨hE, rfl⟩
                    refine ⟨.det (fun val => (.bool (false))), ⟨fun _ _ hv => rfl, fun _ _ _ _ _ => trivial⟩, fun val h_ W hx he => ⟨trivial, ?_⟩, ?_⟩
                    · replace hx := (Upd.drew _ _).trans hx
                      replace hl := hl.ext hx
                      replace hB7 := hB7.ext hx
                      have hE := Upd.refl (fun _ => False) W
                      refine id (X_pick (t := true) (v := (.bool (false))) rfl rfl ?_)
                      exact ⟨hE, rfl⟩
                    refine ⟨.det (fun val => (.bool (false))), ⟨fun _ _ hv => rfl, fun _ _ _ _ _ => trivial⟩, fun val h_ W hx he => ⟨trivial, ?_⟩, ?_⟩
                    · replace hx := (Upd.drew _ _).trans hx
                      replace hl := hl.ext hx
                      replace hB7 := hB7.ext hx
                      have hE := Upd.refl (fun _ => False) W
                      refine id (X_move (v := (.bool (false))) rfl ?_)
                      exact ⟨hE, rfl⟩
                    refine ⟨.no, ⟨fun _ _ _ => trivial, fun _ _ _ _ _ => trivial⟩, fun val h_ W hx he => ⟨60, rfl, .inl rfl⟩, ?_⟩
                    refine ⟨.no, ⟨fun _ _ _ => trivial, fun _ _ _ _ _ => trivial⟩, fun val h_ W hx he => ⟨60, rfl, .inl rfl⟩, ?_⟩
                    refine ⟨.no, ⟨fun _ _ _ => trivial, fun _ _ _ _ _ => trivial⟩, fun val h_ W hx he => ⟨60, rfl, .inl rfl⟩, ?_⟩
                    refine ⟨.no, ⟨fun _ _ _ => trivial, fun _ _ _ _ _ => trivial⟩, fun val h_ W hx he => ⟨60, rfl, .inl rfl⟩, ?_⟩
                    refine ⟨.det (fun val => (.bool (false))), ⟨fun _ _ hv => rfl, fun _ _ _ _ _ => trivial⟩, fun val h_ W hx he => ⟨trivial, ?_⟩, ?_⟩
                    · replace hx := (Upd.drew _ _).trans hx
                      replace hl := hl.ext hx
                      replace hB7 := hB7.ext hx
                      have hE := Upd.refl (fun _ => False) W
                      refine id (X_pick (t := false) (v := (.bool (false))) rfl rfl ?_)
                      exact ⟨hE, rfl⟩
                    refine ⟨.det (fun val => (.bool (false))), ⟨fun _ _ hv => rfl, fun _ _ _ _ _ => trivial⟩, fun val h_ W hx he => ⟨trivial, ?_⟩, ?_⟩
                    · replace hx := (Upd.drew _ _).trans hx
                      replace hl := hl.ext hx
                      replace hB7 := hB7.ext hx
                      have hE := Upd.refl (fun _ => False) W
                      refine id (X_move (v := (.bool (false))) rfl ?_)
                      exact ⟨hE, rfl⟩
                    refine ⟨.no, ⟨fun _ _ _ => trivial, fun _ _ _ _ _ => trivial⟩, fun val h_ W hx he => ⟨66, rfl, .inl rfl⟩, ?_⟩
                    refine ⟨.no, ⟨fun _ _ _ => trivial, fun _ _ _ _ _ => trivial⟩, fun val h_ W hx he => ⟨66, rfl, .inl rfl⟩, ?_⟩
                    refine ⟨.no, ⟨fun _ _ _ => trivial, fun _ _ _ _ _ => trivial⟩, fun val h_ W hx he => ⟨66, rfl, .inl rfl⟩, ?_⟩
                    refine ⟨.no, ⟨fun _ _ _ => trivial, fun _ _ _ _ _ => trivial⟩, fun val h_ W hx he => ⟨66, rfl, .inl rfl⟩, ?_⟩
                    refine ⟨.no, ⟨fun _ _ _ => trivial, fun _ _ _ _ _ => trivial⟩, fun val h_ W hx he => ⟨66, rfl, .inl rfl⟩, ?_⟩
                    refine ⟨.no, ⟨fun _ _ _ => trivial, fun _ _ _ _ _ => trivial⟩, fun val h_ W hx he => ⟨66, rfl, .inl rfl⟩, ?_⟩
                    refine ⟨.no, ⟨fun _ _ _ => trivial, fun _ _ _ _ _ => trivial⟩, fun val h_ W hx he => ⟨66, rfl, .inl rfl⟩, ?_⟩
                    refine ⟨.no, ⟨fun _ _ _ => trivial, fun _ _ _ _ _ => trivial⟩, fun val h_ W hx he => ⟨66, rfl, .inl rfl⟩, ?_⟩
                    refine ⟨.no, ⟨fun _ _ _ => trivial, fun _ _ _ _ _ => trivial⟩, fun val h_ W hx he => ⟨66, rfl, .inl rfl⟩, ?_⟩
                    refine ⟨.no, ⟨fun _ _ _ => trivial, fun _ _ _ _ _ => trivial⟩, fun val h_ W hx he => ⟨66, rfl, .inl rfl⟩, ?_⟩
                    intro val W23 hx23 he23
                    replace hx23 := (Upd.drew _ _).trans hx23
                    have hz23 := hx23.size
                    replace hl := hl.ext hx23
                    replace hU := hU.trans (Ext.upd hx23)
                    replace hB7 := hB7.ext hx23
                    refine L_gn (dj := 66) (t := false) rfl rfl rfl rfl ?_
                    refine L_op rfl (X_pick (t := false) (v := (.bool (false))) rfl rfl ?_)
                    refine L_op rfl (X_assign (v := (.bool (false))) rfl ?_)
                    refine L_nil ?_
                    refine T_n ?_
                    refine W_seq ?_
                    refine W_reg ?_
                    refine L_op rfl (X_move (v := (.bool (false))) rfl ?_)
                    refine L_op rfl (X_not (b := false) (r := true) rfl rfl ?_)
                    refine L_nil ?_
                    refine T_n ?_
                    refine W_ct rfl ?_
                    refine W_exit ?_
                    refine B_e rfl ?_
                    refine T_e ?_
                    refine T_e ?_
                    refine B_x ?_
                    refine T_n ?_
                    refine W_seq ?_
                    refine W_reg ?_
                    refine L_op rfl (X_move (v := (.bool (false))) rfl ?_)
                    refine L_op rfl (X_assign (v := (.bool (false))) rfl ?_)
                    refine L_nil ?_
                    refine T_n ?_
                    refine W_ret ?_
                    refine S_r ?_
                    have hR : ¬ RightK (es.map (fun (x : KE) => x.2)) := fun h => by obtain ⟨⟨h1, h2, h3⟩, h4⟩ := hst.1 (h.2 i (by rw [List.length_map]; exact hi)); have h5 := h4 (by omega); omega
                    exact BQ_r (End_1 Tryd.results11 (v := .bool false) rfl ⟨by rw [decide_eq_false hR], hU.own hn0⟩)
                · refine L_op rfl (X_cmp (k := .i64) (a := ((i : Nat) : Int)) (b := 0) (r := false) rfl rfl rfl (decide_eq_false (p := ((0) : Int) < ((((i : Nat) : Int)) : Int)) (by omega)) ?_)
                  refine L_nil ?_
                  refine T_n ?_
                  refine W_cf rfl ?_
                  refine W_skip ?_
                  refine T_n ?_
                  refine W_seq ?_
                  refine W_reg ?_
                  refine L_op rfl (X_move (v := (.bool (true))) rfl ?_)
                  refine L_op rfl (X_not (b := true) (r := false) rfl rfl ?_)
                  refine L_nil ?_
                  refine T_n ?_
                  refine W_cf rfl ?_
                  refine W_skip ?_
                  refine B_n ?_
                  refine T_n ?_
                  refine W_reg ?_
                  refine L_op rfl (X_arith (k := .i64) (a := ((i : Nat) : Int)) (b := 1) (r := ((i + 1 : Nat) : Int)) rfl rfl rfl (iadd64 (by omega) (by omega) (by omega)) ?_)
                  refine L_op rfl (X_move (v := (.int .i64 (((i + 1 : Nat) : Int)))) rfl ?_)
                  refine L_nil ?_
                  refine T_n ?_
                  exact ⟨rfl, i + 1, ⟨⟨hi, hl, fun j hj => (Nat.lt_or_ge j i).elim (hz j) fun h1 => by obtain rfl : j = i := by { omega }; exact hst.2 ⟨⟨of_decide_eq_true hc10, of_decide_eq_true hc12, by omega⟩, fun hp => absurd hp (by omega)⟩, hU⟩, (by show es.length - (i + 1) < es.length - i; omega)⟩, (Out.mk rfl), ⟨rfl, rfl, trivial⟩⟩
              · refine L_gy (dj := 44) rfl rfl rfl (X_cmp (k := .u8) (a := e.2.2.1) (b := e0.2.2.1) (r := false) rfl rfl rfl (decide_eq_false (p := ((e.2.2.1) : Int) = ((e0.2.2.1) : Int)) (by omega)) ?_)
                refine L_op rfl (X_pick (t := true) (v := (.bool (false))) rfl rfl ?_)
                refine L_op rfl (X_assign (v := (.bool (false))) rfl ?_)
                refine L_nil ?_
                refine T_n ?_
                refine W_seq ?_
                refine W_seq ?_
                refine W_reg ?_
                refine L_op rfl (X_move (v := (.int .i64 (((i : Nat) : Int)))) rfl ?_)
                by_cases hc24 : (((i : Nat) : Int) : Int) > (0)
                · refine L_op rfl (X_cmp (k := .i64) (a := ((i : Nat) : Int)) (b := 0) (r := true) rfl rfl rfl (decide_eq_true (p := ((0) : Int) < ((((i : Nat) : Int)) : Int)) (by omega)) ?_)
                  refine L_nil ?_
                  refine T_n ?_
                  refine W_ct rfl ?_
                  refine W_draw 24 [[], [0], [0, 1], [0, 1, 2], [0, 1, 2, 3], [0, 1, 2, 3, 4], [0, 1, 2, 3, 4, 5], [0, 1, 2, 3, 4, 5, 6], [0, 1, 2, 3, 4, 5, 6, 7], [0, 1, 2, 3, 4, 5, 6, 7, 8], [0, 1, 2, 3, 4, 5, 6, 7, 8, 9], [0, 1, 2, 3, 4, 5, 6, 7, 8, 9, 10], [0, 1, 2, 3, 4, 5, 6, 7, 8, 9, 10, 11], [0, 1, 2, 3, 4, 5, 6, 7, 8, 9, 10, 11, 12], [0, 1, 2, 3, 4, 5, 6, 7, 8, 9, 10, 11, 12, 13], [0, 1, 2, 3, 4, 5, 6, 7, 8, 9, 10, 11, 12, 13], [0, 1, 2, 3, 4, 5, 6, 7, 8, 9, 10, 11, 12, 13, 15], [0, 1, 2, 3, 4, 5, 6, 7, 8, 9, 10, 11, 12, 13, 14, 15, 16], [0, 1, 2, 3, 4, 5, 6, 7, 8, 9, 10, 11, 12, 13, 14, 15, 16, 17], [0, 1, 2, 3, 4, 5, 6, 7, 8, 9, 10, 11, 12, 13, 14, 15, 16, 17, 18], [0, 1, 2, 3, 4, 5, 6, 7, 8, 9, 10, 11, 12, 13, 14, 15, 16, 17, 18, 19], [0, 1, 2, 3, 4, 5, 6, 7, 8, 9, 10, 11, 12, 13], [0, 1, 2, 3, 4, 5, 6, 7, 8, 9, 10, 11, 12, 13, 21], [0, 1, 2, 3, 4, 5, 6, 7, 8, 9, 10, 11, 12, 13, 21, 22], [0, 1, 2, 3, 4, 5, 6, 7, 8, 9, 10, 11, 12, 13, 14, 15, 16, 17, 18, 19, 20, 21, 22, 23], [0, 1, 2, 3, 4, 5, 6, 7, 8, 9, 10, 11, 12, 13, 14, 15, 16, 17, 18, 19, 20, 21, 22, 23, 24], [0, 1, 2, 3, 4, 5, 6, 7, 8, 9, 10, 11, 12, 13, 14, 15, 16, 17, 18, 19, 20, 21, 22, 23, 24, 25]] mixed (by kernel_rfl) ?_
                  refine ⟨.det (fun val => (.bool (false))), ⟨fun _ _ hv => rfl, fun _ _ _ _ _ => trivial⟩, fun val h_ W hx he => ⟨trivial, ?_⟩, ?_⟩
                  · replace hx := (Upd.drew _ _).trans hx
                    replace hl := hl.ext hx
                    replace hB7 := hB7.ext hx
                    have hE := Upd.refl (fun _ => False) W
                    refine id (X_move (v := (.bool (false))) rfl ?_)
                    exact ⟨hE, rfl⟩
                  refine ⟨.det (fun val => (.bool (false))), ⟨fun _ _ hv => rfl, fun _ _ _ _ _ => trivial⟩, fun val h_ W hx he => ⟨trivial, ?_⟩, ?_⟩
                  · replace hx := (Upd.drew _ _).trans hx
                    replace hl := hl.ext hx
                    replace hB7 := hB7.ext hx
                    have hE := Upd.refl (fun _ => False) W
                    refine id (X_move (v := (.bool (false))) rfl ?_)
                    exact ⟨hE, rfl⟩
                  refine ⟨.no, ⟨fun _ _ _ => trivial, fun _ _ _ _ _ => trivial⟩, fun val h_ W hx he => ⟨54, rfl, .inl rfl⟩, ?_⟩
                  refine ⟨.no, ⟨fun _ _ _ => trivial, fun _ _ _ _ _ => trivial⟩, fun val h_ W hx he => ⟨54, rfl, .inl rfl⟩, ?_⟩
                  refine ⟨.no, ⟨fun _ _ _ => trivial, fun _ _ _ _ _ => trivial⟩, fun val h_ W hx he => ⟨54, rfl, .inl rfl⟩, ?_⟩
                  refine ⟨.no, ⟨fun _ _ _ => trivial, fun _ _ _ _ _ => trivial⟩, fun val h_ W hx he => ⟨54, rfl, .inl rfl⟩, ?_⟩
                  refine ⟨.det (fun val => (.bool (false))), ⟨fun _ _ hv => rfl, fun _ _ _ _ _ => trivial⟩, fun val h_ W hx he => ⟨trivial, ?_⟩, ?_⟩
                  · replace hx := (Upd.drew _ _).trans hx
                    replace hl := hl.ext hx
                    replace hB7 := hB7.ext hx
                    have hE := Upd.refl (fun _ => False) W
                    refine id (X_pick (t := false) (v := (.bool (false))) rfl rfl ?_)
                    exact ⟨hE, rfl⟩
                  refine ⟨.det (fun val => (.bool (false))), ⟨fun _ _ hv => rfl, fun _ _ _ _ _ => trivial⟩, fun val h_ W hx he => ⟨trivial, ?_⟩, ?_⟩
                  · replace hx := (Upd.drew _ _).trans hx
                    replace hl := hl.ext hx
                    replace hB7 := hB7.ext hx
                    have hE := Upd.refl (fun _ => False) W
                    refine id (X_move (v := (.bool (false))) rfl ?_)
                    exact ⟨hE, rfl⟩
                  refine ⟨.no, ⟨fun _ _ _ => trivial, fun _ _ _ _ _ => trivial⟩, fun val h_ W hx he => ⟨60, rfl, .inl rfl⟩, ?_⟩
                  refine ⟨.no, ⟨fun _ _ _ => trivial, fun _ _ _ _ _ => trivial⟩, fun val h_ W hx he => ⟨60, rfl, .inl rfl⟩, ?_⟩
                  refine ⟨.no, ⟨fun _ _ _ => trivial, fun _ _ _ _ _ => trivial⟩, fun val h_ W hx he => ⟨60, rfl, .inl rfl⟩, ?_⟩
                  refine ⟨.no, ⟨fun _ _ _ => trivial, fun _ _ _ _ _ => trivial⟩, fun val h_ W hx he => ⟨60, rfl, .inl rfl⟩, ?_⟩
                  refine ⟨.det (fun val => (.bool (false))), ⟨fun _ _ hv => rfl, fun _ _ _ _ _ => trivial⟩, fun val h_ W hx he => ⟨trivial, ?_⟩, ?_⟩
                  · replace hx := (Upd.drew _ _).trans hx
                    replace hl := hl.ext hx
                    replace hB7 := hB7.ext hx
                    have hE := Upd.refl (fun _ => False) W
                    refine id (X_pick (t := false) (v := (.bool (false))) rfl rfl ?_)
                    exact ⟨hE, rfl⟩
                  refine ⟨.det (fun val => (.bool (false))), ⟨fun _ _ hv => rfl, fun _ _ _ _ _ => trivial⟩, fun val h_ W hx he => ⟨trivial, ?_⟩, ?_⟩
                  · replace hx := (Upd.drew _ _).trans hx
                    replace hl := hl.ext hx
                    replace hB7 := hB7.ext hx
                    have hE := Upd.refl (fun _ => False) W
                    refine id (X_move (v := (.bool (false))) rfl ?_)
                    exact ⟨hE, rfl⟩
                  refine ⟨.no, ⟨fun _ _ _ => trivial, fun _ _ _ _ _ => trivial⟩, fun val h_ W hx he => ⟨66, rfl, .inl rfl⟩, ?_⟩
                  refine ⟨.no, ⟨fun _ _ _ => trivial, fun _ _ _ _ _ => trivial⟩, fun val h_ W hx he => ⟨66, rfl, .inl rfl⟩, ?_⟩
                  refine ⟨.no, ⟨fun _ _ _ => trivial, fun _ _ _ _ _ => trivial⟩, fun val h_ W hx he => ⟨66, rfl, .inl rfl⟩, ?_⟩
                  refine ⟨.no, ⟨fun _ _ _ => trivial, fun _ _ _ _ _ => trivial⟩, fun val h_ W hx he => ⟨66, rfl, .inl rfl⟩, ?_⟩
                  refine ⟨.no, ⟨fun _ _ _ => trivial, fun _ _ _ _ _ => trivial⟩, fun val h_ W hx he => ⟨66, rfl, .inl rfl⟩, ?_⟩
                  refine ⟨.no, ⟨fun _ _ _ => trivial, fun _ _ _ _ _ => trivial⟩, fun val h_ W hx he => ⟨66, rfl, .inl rfl⟩, ?_⟩
                  refine ⟨.no, ⟨fun _ _ _ => trivial, fun _ _ _ _ _ => trivial⟩, fun val h_ W hx he => ⟨66, rfl, .inl rfl⟩, ?_⟩
                  refine ⟨.no, ⟨fun _ _ _ => trivial, fun _ _ _ _ _ => trivial⟩, fun val h_ W hx he => ⟨66, rfl, .inl rfl⟩, ?_⟩
                  refine ⟨.no, ⟨fun _ _ _ => trivial, fun _ _ _ _ _ => trivial⟩, fun val h_ W hx he => ⟨66, rfl, .inl rfl⟩, ?_⟩
                  refine ⟨.no, ⟨fun _ _ _ => trivial, fun _ _ _ _ _ => trivial⟩, fun val h_ W hx he => ⟨66, rfl, .inl rfl⟩, ?_⟩
                  intro val W25 hx25 he25
                  replace hx25 := (Upd.drew _ _).trans hx25
                  have hz25 := hx25.size
                  replace hl := hl.ext hx25
                  replace hU := hU.trans (Ext.upd hx25)
                  replace hB7 := hB7.ext hx25
                  refine L_gn (dj := 66) (t := false) rfl rfl rfl rfl ?_
                  refine L_op rfl (X_pick (t := false) (v := (.bool (false))) rfl rfl ?_)
                  refine L_op rfl (X_assign (v := (.bool (false))) rfl ?_)
                  refine L_nil ?_
                  refine T_n ?_
                  refine W_seq ?_
                  refine W_reg ?_
                  refine L_op rfl (X_move (v := (.bool (false))) rfl ?_)
                  refine L_op rfl (X_not (b := false) (r := true) rfl rfl ?_)
                  refine L_nil ?_
                  refine T_n ?_
                  refine W_ct rfl ?_
                  refine W_exit ?_
                  refine B_e rfl ?_
                  refine T_e ?_
                  refine T_e ?_
                  refine B_x ?_
                  refine T_n ?_
                  refine W_seq ?_
                  refine W_reg ?_
                  refine L_op rfl (X_move (v := (.bool (false))) rfl ?_)
                  refine L_op rfl (X_assign (v := (.bool (false))) rfl ?_)
                  refine L_nil ?_
                  refine T_n ?_
                  refine W_ret ?_
                  refine S_r ?_
                  have hR : ¬ RightK (es.map (fun (x : KE) => x.2)) := fun h => by obtain ⟨⟨h1, h2, h3⟩, h4⟩ := hst.1 (h.2 i (by rw [List.length_map]; exact hi)); omega
                  exact BQ_r (End_1 Tryd.results11 (v := .bool false) rfl ⟨by rw [decide_eq_false hR], hU.own hn0⟩)
                · refine L_op rfl (X_cmp (k := .i64) (a := ((i : Nat) : Int)) (b := 0) (r := false) rfl rfl rfl (decide_eq_false (p := ((0) : Int) < ((((i : Nat) : Int)) : Int)) (by omega)) ?_)
                  refine L_nil ?_
                  refine T_n ?_
                  refine W_cf rfl ?_
                  refine W_skip ?_
                  refine T_n ?_
                  refine W_seq ?_
                  refine W_reg ?_
                  refine L_op rfl (X_move (v := (.bool (false))) rfl ?_)
                  refine L_op rfl (X_not (b := false) (r := true) rfl rfl ?_)
                  refine L_nil ?_
                  refine T_n ?_
                  refine W_ct rfl ?_
                  refine W_exit ?_
                  refine B_e rfl ?_
                  refine T_e ?_
                  refine T_e ?_
                  refine B_x ?_
                  refine T_n ?_
                  refine W_seq ?_
                  refine W_reg ?_
                  refine L_op rfl (X_move (v := (.bool (false))) rfl ?_)
                  refine L_op rfl (X_assign (v := (.bool (false))) rfl ?_)
                  refine L_nil ?_
                  refine T_n ?_
                  refine W_ret ?_
                  refine S_r ?_
                  have hR : ¬ RightK (es.map (fun (x : KE) => x.2)) := fun h => by obtain ⟨⟨h1, h2, h3⟩, h4⟩ := hst.1 (h.2 i (by rw [List.length_map]; exact hi)); omega
                  exact BQ_r (End_1 Tryd.results11 (v := .bool false) rfl ⟨by rw [decide_eq_false hR], hU.own hn0⟩)
            · rw [hc12]
              refine L_op rfl (X_pick (t := true) (v := (.bool (false))) rfl rfl ?_)
              refine L_op rfl (X_move (v := (.bool (false))) rfl ?_)
              refine L_gn (dj := 44) (t := false) rfl rfl rfl rfl ?_
              refine L_gn (dj := 44) (t := false) rfl rfl rfl rfl ?_
              refine L_gn (dj := 44) (t := false) rfl rfl rfl rfl ?_
              refine L_gn (dj := 44) (t := false) rfl rfl rfl rfl ?_
              refine L_gn (dj := 44) (t := false) rfl rfl rfl rfl ?_
              refine L_op rfl (X_pick (t := false) (v := (.bool (false))) rfl rfl ?_)
              refine L_op rfl (X_assign (v := (.bool (false))) rfl ?_)
              refine L_nil ?_
              refine T_n ?_
              refine W_seq ?_
              refine W_seq ?_
              refine W_reg ?_
              refine L_op rfl (X_move (v := (.int .i64 (((i : Nat) : Int)))) rfl ?_)
              by_cases hc26 : (((i : Nat) : Int) : Int) > (0)
              · refine L_op rfl (X_cmp (k := .i64) (a := ((i : Nat) : Int)) (b := 0) (r := true) rfl rfl rfl (decide_eq_true (p := ((0) : Int) < ((((i : Nat) : Int)) : Int)) (by omega)) ?_)
                refine L_nil ?_
                refine T_n ?_
                refine W_ct rfl ?_
                refine W_draw 24 [[], [0], [0, 1], [0, 1, 2], [0, 1, 2, 3], [0, 1, 2, 3, 4], [0, 1, 2, 3, 4, 5], [0, 1, 2, 3, 4, 5, 6], [0, 1, 2, 3, 4, 5, 6, 7], [0, 1, 2, 3, 4, 5, 6, 7, 8], [0, 1, 2, 3, 4, 5, 6, 7, 8, 9], [0, 1, 2, 3, 4, 5, 6, 7, 8, 9, 10], [0, 1, 2, 3, 4, 5, 6, 7, 8, 9, 10, 11], [0, 1, 2, 3, 4, 5, 6, 7, 8, 9, 10, 11, 12], [0, 1, 2, 3, 4, 5, 6, 7, 8, 9, 10, 11, 12, 13], [0, 1, 2, 3, 4, 5, 6, 7, 8, 9, 10, 11, 12, 13], [0, 1, 2, 3, 4, 5, 6, 7, 8, 9, 10, 11, 12, 13, 15], [0, 1, 2, 3, 4, 5, 6, 7, 8, 9, 10, 11, 12, 13, 14, 15, 16], [0, 1, 2, 3, 4, 5, 6, 7, 8, 9, 10, 11, 12, 13, 14, 15, 16, 17], [0, 1, 2, 3, 4, 5, 6, 7, 8, 9, 10, 11, 12, 13, 14, 15, 16, 17, 18], [0, 1, 2, 3, 4, 5, 6, 7, 8, 9, 10, 11, 12, 13, 14, 15, 16, 17, 18, 19], [0, 1, 2, 3, 4, 5, 6, 7, 8, 9, 10, 11, 12, 13], [0, 1, 2, 3, 4, 5, 6, 7, 8, 9, 10, 11, 12, 13, 21], [0, 1, 2, 3, 4, 5, 6, 7, 8, 9, 10, 11, 12, 13, 21, 22], [0, 1, 2, 3, 4, 5, 6, 7, 8, 9, 10, 11, 12, 13, 14, 15, 16, 17, 18, 19, 20, 21, 22, 23], [0, 1, 2, 3, 4, 5, 6, 7, 8, 9, 10, 11, 12, 13, 14, 15, 16, 17, 18, 19, 20, 21, 22, 23, 24], [0, 1, 2, 3, 4, 5, 6, 7, 8, 9, 10, 11, 12, 13, 14, 15, 16, 17, 18, 19, 20, 21, 22, 23, 24, 25]] mixed (by kernel_rfl) ?_
                refine ⟨.det (fun val => (.bool (false))), ⟨fun _ _ hv => rfl, fun _ _ _ _ _ => trivial⟩, fun val h_ W hx he => ⟨trivial, ?_⟩, ?_⟩
                · replace hx := (Upd.drew _ _).trans hx
                  replace hl := hl.ext hx
                  replace hB7 := hB7.ext hx
                  have hE := Upd.refl (fun _ => False) W
                  refine id (X_move (v := (.bool (false))) rfl ?_)
                  exact ⟨hE, rfl⟩
                refine ⟨.det (fun val => (.bool (false))), ⟨fun _ _ hv => rfl, fun _ _ _ _ _ => trivial⟩, fun val h_ W hx he => ⟨trivial, ?_⟩, ?_⟩
                · replace hx := (Upd.drew _ _).trans hx
                  replace hl := hl.ext hx
                  replace hB7 := hB7.ext hx
                  have hE := Upd.refl (fun _ => False) W
                  refine id (X_move (v := (.bool (false))) rfl ?_)
                  exact ⟨hE, rfl⟩
                refine ⟨.no, ⟨fun _ _ _ => trivial, fun _ _ _ _ _ => trivial⟩, fun val h_ W hx he => ⟨54, rfl, .inl rfl⟩, ?_⟩
                refine ⟨.no, ⟨fun _ _ _ => trivial, fun _ _ _ _ _ => trivial⟩, fun val h_ W hx he => ⟨54, rfl, .inl rfl⟩, ?_⟩
                refine ⟨.no, ⟨fun _ _ _ => trivial, fun _ _ _ _ _ => trivial⟩, fun val h_ W hx he => ⟨54, rfl, .inl rfl⟩, ?_⟩
                refine ⟨.no, ⟨fun _ _ _ => trivial, fun _ _ _ _ _ => trivial⟩, fun val h_ W hx he => ⟨54, rfl, .inl rfl⟩, ?_⟩
                refine ⟨.det (fun val => (.bool (false))), ⟨fun _ _ hv => rfl, fun _ _ _ _ _ => trivial⟩, fun val h_ W hx he => ⟨trivial, ?_⟩, ?_⟩
                · replace hx := (Upd.drew _ _).trans hx
                  replace hl := hl.ext hx
                  replace hB7 := hB7.ext hx
                  have hE := Upd.refl (fun _ => False) W
                  refine id (X_pick (t := false) (v := (.bool (false))) rfl rfl ?_)
                  exact ⟨hE, rfl⟩
                refine ⟨.det (fun val => (.bool (false))), ⟨fun _ _ hv => rfl, fun _ _ _ _ _ => trivial⟩, fun val h_ W hx he => ⟨trivial, ?_⟩, ?_⟩
                · replace hx := (Upd.drew _ _).trans hx
                  replace hl := hl.ext hx
                  replace hB7 := hB7.ext hx
                  have hE := Upd.refl (fun _ => False) W
                  refine id (X_move (v := (.bool (false))) rfl ?_)
                  exact ⟨hE, rfl⟩
                refine ⟨.no, ⟨fun _ _ _ => trivial, fun _ _ _ _ _ => trivial⟩, fun val h_ W hx he => ⟨60, rfl, .inl rfl⟩, ?_⟩
                refine ⟨.no, ⟨fun _ _ _ => trivial, fun _ _ _ _ _ => trivial⟩, fun val h_ W hx he => ⟨60, rfl, .inl rfl⟩, ?_⟩
                refine ⟨.no, ⟨fun _ _ _ => trivial, fun _ _ _ _ _ => trivial⟩, fun val h_ W hx he => ⟨60, rfl, .inl rfl⟩, ?_⟩
                refine ⟨.no, ⟨fun _ _ _ => trivial, fun _ _ _ _ _ => trivial⟩, fun val h_ W hx he => ⟨60, rfl, .inl rfl⟩, ?_⟩
                refine ⟨.det (fun val => (.bool (false))), ⟨fun _ _ hv => rfl, fun _ _ _ _ _ => trivial⟩, fun val h_ W hx he => ⟨trivial, ?_⟩, ?_⟩
                · replace hx := (Upd.drew _ _).trans hx
                  replace hl := hl.ext hx
                  replace hB7 := hB7.ext hx
                  have hE := Upd.refl (fun _ => False) W
                  refine id (X_pick (t := false) (v := (.bool (false))) rfl rfl ?_)
                  exact ⟨hE, rfl⟩
                refine ⟨.det (fun val => (.bool (false))), ⟨fun _ _ hv => rfl, fun _ _ _ _ _ => trivial⟩, fun val h_ W hx he => ⟨trivial, ?_⟩, ?_⟩
                · replace hx := (Upd.drew _ _).trans hx
                  replace hl := hl.ext hx
                  replace hB7 := hB7.ext hx
                  have hE := Upd.refl (fun _ => False) W
                  refine id (X_move (v := (.bool (false))) rfl ?_)
                  exact ⟨hE, rfl⟩
                refine ⟨.no, ⟨fun _ _ _ => trivial, fun _ _ _ _ _ => trivial⟩, fun val h_ W hx he => ⟨66, rfl, .inl rfl⟩, ?_⟩
                refine ⟨.no, ⟨fun _ _ _ => trivial, fun _ _ _ _ _ => trivial⟩, fun val h_ W hx he => ⟨66, rfl, .inl rfl⟩, ?_⟩
                refine ⟨.no, ⟨fun _ _ _ => trivial, fun _ _ _ _ _ => trivial⟩, fun val h_ W hx he => ⟨66, rfl, .inl rfl⟩, ?_⟩
                refine ⟨.no, ⟨fun _ _ _ => trivial, fun _ _ _ _ _ => trivial⟩, fun val h_ W hx he => ⟨66, rfl, .inl rfl⟩, ?_⟩
                refine ⟨.no, ⟨fun _ _ _ => trivial, fun _ _ _ _ _ => trivial⟩, fun val h_ W hx he => ⟨66, rfl, .inl rfl⟩, ?_⟩
                refine ⟨.no, ⟨fun _ _ _ => trivial, fun _ _ _ _ _ => trivial⟩, fun val h_ W hx he => ⟨66, rfl, .inl rfl⟩, ?_⟩
                refine ⟨.no, ⟨fun _ _ _ => trivial, fun _ _ _ _ _ => trivial⟩, fun val h_ W hx he => ⟨66, rfl, .inl rfl⟩, ?_⟩
                refine ⟨.no, ⟨fun _ _ _ => trivial, fun _ _ _ _ _ => trivial⟩, fun val h_ W hx he => ⟨66, rfl, .inl rfl⟩, ?_⟩
                refine ⟨.no, ⟨fun _ _ _ => trivial, fun _ _ _ _ _ => trivial⟩, fun val h_ W hx he => ⟨66, rfl, .inl rfl⟩, ?_⟩
                refine ⟨.no, ⟨fun _ _ _ => trivial, fun _ _ _ _ _ => trivial⟩, fun val h_ W hx he => ⟨66, rfl, .inl rfl⟩, ?_⟩
                intro val W27 hx27 he27
                replace hx27 := (Upd.drew _ _).trans hx27
                have hz27 := hx27.size
                replace hl := hl.ext hx27
                replace hU := hU.trans (Ext.upd hx27)
                replace hB7 := hB7.ext hx27
                refine L_gn (dj := 66) (t := false) rfl rfl rfl rfl ?_
                refine L_op rfl (X_pick (t := false) (v := (.bool (false))) rfl rfl ?_)
                refine L_op rfl (X_assign (v := (.bool (false))) rfl ?_)
                refine L_nil ?_
                refine T_n ?_
                refine W_seq ?_
                refine W_reg ?_
                refine L_op rfl (X_move (v := (.bool (false))) rfl ?_)
                refine L_op rfl (X_not (b := false) (r := true) rfl rfl ?_)
                refine L_nil ?_
                refine T_n ?_
                refine W_ct rfl ?_
                refine W_exit ?_
                refine B_e rfl ?_
                refine T_e ?_
                refine T_e ?_
                refine B_x ?_
                refine T_n ?_
                refine W_seq ?_
                refine W_reg ?_
                refine L_op rfl (X_move (v := (.bool (false))) rfl ?_)
                refine L_op rfl (X_assign (v := (.bool (false))) rfl ?_)
                refine L_nil ?_
                refine T_n ?_
                refine W_ret ?_
                refine S_r ?_
                have hR : ¬ RightK (es.map (fun (x : KE) => x.2)) := fun h => by obtain ⟨⟨h1, h2, h3⟩, h4⟩ := hst.1 (h.2 i (by rw [List.length_map]; exact hi)); exact absurd h2 (of_decide_eq_false hc12)
                exact BQ_r (End_1 Tryd.results11 (v := .bool false) rfl ⟨by rw [decide_eq_false hR], hU.own hn0⟩)
              · refine L_op rfl (X_cmp (k := .i64) (a := ((i : Nat) : Int)) (b := 0) (r := false) rfl rfl rfl (decide_eq_false (p := ((0) : Int) < ((((i : Nat) : Int)) : Int)) (by omega)) ?_)
                refine L_nil ?_
                refine T_n ?_
                refine W_cf rfl ?_
                refine W_skip ?_
                refine T_n ?_
                refine W_seq ?_
                refine W_reg ?_
                refine L_op rfl (X_move (v := (.bool (false))) rfl ?_)
                refine L_op rfl (X_not (b := false) (r := true) rfl rfl ?_)
                refine L_nil ?_
                refine T_n ?_
                refine W_ct rfl ?_
                refine W_exit ?_
                refine B_e rfl ?_
                refine T_e ?_
                refine T_e ?_
                refine B_x ?_
                refine T_n ?_
                refine W_seq ?_
                refine W_reg ?_
                refine L_op rfl (X_move (v := (.bool (false))) rfl ?_)
                refine L_op rfl (X_assign (v := (.bool (false))) rfl ?_)
                refine L_nil ?_
                refine T_n ?_
                refine W_ret ?_
                refine S_r ?_
                have hR : ¬ RightK (es.map (fun (x : KE) => x.2)) := fun h => by obtain ⟨⟨h1, h2, h3⟩, h4⟩ := hst.1 (h.2 i (by rw [List.length_map]; exact hi)); exact absurd h2 (of_decide_eq_false hc12)
                exact BQ_r (End_1 Tryd.results11 (v := .bool false) rfl ⟨by rw [decide_eq_false hR], hU.own hn0⟩)
          · rw [hc10]
            refine L_op rfl (X_move (v := (.bool (false))) rfl ?_)
            refine L_gn (dj := 39) (t := false) rfl rfl rfl rfl ?_
            refine L_gn (dj := 39) (t := false) rfl rfl rfl rfl ?_
            refine L_gn (dj := 39) (t := false) rfl rfl rfl rfl ?_
            refine L_op rfl (X_pick (t := false) (v := (.bool (false))) rfl rfl ?_)
            refine L_op rfl (X_move (v := (.bool (false))) rfl ?_)
            refine L_gn (dj := 44) (t := false) rfl rfl rfl rfl ?_
            refine L_gn (dj := 44) (t := false) rfl rfl rfl rfl ?_
            refine L_gn (dj := 44) (t := false) rfl rfl rfl rfl ?_
            refine L_gn (dj := 44) (t := false) rfl rfl rfl rfl ?_
            refine L_gn (dj := 44) (t := false) rfl rfl rfl rfl ?_
            refine L_op rfl (X_pick (t := false) (v := (.bool (false))) rfl rfl ?_)
            refine L_op rfl (X_assign (v := (.bool (false))) rfl ?_)
            refine L_nil ?_
            refine T_n ?_
            refine W_seq ?_
            refine W_seq ?_
            refine W_reg ?_
            refine L_op rfl (X_move (v := (.int .i64 (((i : Nat) : Int)))) rfl ?_)
            by_cases hc28 : (((i : Nat) : Int) : Int) > (0)
            · refine L_op rfl (X_cmp (k := .i64) (a := ((i : Nat) : Int)) (b := 0) (r := true) rfl rfl rfl (decide_eq_true (p := ((0) : Int) < ((((i : Nat) : Int)) : Int)) (by omega)) ?_)
              refine L_nil ?_
              refine T_n ?_
              refine W_ct rfl ?_
              refine W_draw 24 [[], [0], [0, 1], [0, 1, 2], [0, 1, 2, 3], [0, 1, 2, 3, 4], [0, 1, 2, 3, 4, 5], [0, 1, 2, 3, 4, 5, 6], [0, 1, 2, 3, 4, 5, 6, 7], [0, 1, 2, 3, 4, 5, 6, 7, 8], [0, 1, 2, 3, 4, 5, 6, 7, 8, 9], [0, 1, 2, 3, 4, 5, 6, 7, 8, 9, 10], [0, 1, 2, 3, 4, 5, 6, 7, 8, 9, 10, 11], [0, 1, 2, 3, 4, 5, 6, 7, 8, 9, 10, 11, 12], [0, 1, 2, 3, 4, 5, 6, 7, 8, 9, 10, 11, 12, 13], [0, 1, 2, 3, 4, 5, 6, 7, 8, 9, 10, 11, 12, 13], [0, 1, 2, 3, 4, 5, 6, 7, 8, 9, 10, 11, 12, 13, 15], [0, 1, 2, 3, 4, 5, 6, 7, 8, 9, 10, 11, 12, 13, 14, 15, 16], [0, 1, 2, 3, 4, 5, 6, 7, 8, 9, 10, 11, 12, 13, 14, 15, 16, 17], [0, 1, 2, 3, 4, 5, 6, 7, 8, 9, 10, 11, 12, 13, 14, 15, 16, 17, 18], [0, 1, 2, 3, 4, 5, 6, 7, 8, 9, 10, 11, 12, 13, 14, 15, 16, 17, 18, 19], [0, 1, 2, 3, 4, 5, 6, 7, 8, 9, 10, 11, 12, 13], [0, 1, 2, 3, 4, 5, 6, 7, 8, 9, 10, 11, 12, 13, 21], [0, 1, 2, 3, 4, 5, 6, 7, 8, 9, 10, 11, 12, 13, 21, 22], [0, 1, 2, 3, 4, 5, 6, 7, 8, 9, 10, 11, 12, 13, 14, 15, 16, 17, 18, 19, 20, 21, 22, 23], [0, 1, 2, 3, 4, 5, 6, 7, 8, 9, 10, 11, 12, 13, 14, 15, 16, 17, 18, 19, 20, 21, 22, 23, 24], [0, 1, 2, 3, 4, 5, 6, 7, 8, 9, 10, 11, 12, 13, 14, 15, 16, 17, 18, 19, 20, 21, 22, 23, 24, 25]] mixed (by kernel_rfl) ?_
              refine ⟨.det (fun val => (.bool (false))), ⟨fun _ _ hv => rfl, fun _ _ _ _ _ => trivial⟩, fun val h_ W hx he => ⟨trivial, ?_⟩, ?_⟩
              · replace hx := (Upd.drew _ _).trans hx
                replace hl := hl.ext hx
                replace hB7 := hB7.ext hx
                have hE := Upd.refl (fun _ => False) W
                refine id (X_move (v := (.bool (false))) rfl ?_)
                exact ⟨hE, rfl⟩
              refine ⟨.det (fun val => (.bool (false))), ⟨fun _ _ hv => rfl, fun _ _ _ _ _ => trivial⟩, fun val h_ W hx he => ⟨trivial, ?_⟩, ?_⟩
              · replace hx := (Upd.drew _ _).trans hx
                replace hl := hl.ext hx
                replace hB7 := hB7.ext hx
                have hE := Upd.refl (fun _ => False) W
                refine id (X_move (v := (.bool (false))) rfl ?_)
                exact ⟨hE, rfl⟩
              refine ⟨.no, ⟨fun _ _ _ => trivial, fun _ _ _ _ _ => trivial⟩, fun val h_ W hx he => ⟨54, rfl, .inl rfl⟩, ?_⟩
              refine ⟨.no, ⟨fun _ _ _ => trivial, fun _ _ _ _ _ => trivial⟩, fun val h_ W hx he => ⟨54, rfl, .inl rfl⟩, ?_⟩
              refine ⟨.no, ⟨fun _ _ _ => trivial, fun _ _ _ _ _ => trivial⟩, fun val h_ W hx he => ⟨54, rfl, .inl rfl⟩, ?_⟩
              refine ⟨.no, ⟨fun _ _ _ => trivial, fun _ _ _ _ _ => trivial⟩, fun val h_ W hx he => ⟨54, rfl, .inl rfl⟩, ?_⟩
              refine ⟨.det (fun val => (.bool (false))), ⟨fun _ _ hv => rfl, fun _ _ _ _ _ => trivial⟩, fun val h_ W hx he => ⟨trivial, ?_⟩, ?_⟩
              · replace hx := (Upd.drew _ _).trans hx
                replace hl := hl.ext hx
                replace hB7 := hB7.ext hx
                have hE := Upd.refl (fun _ => False) W
                refine id (X_pick (t := false) (v := (.bool (false))) rfl rfl ?_)
                exact ⟨hE, rfl⟩
              refine ⟨.det (fun val => (.bool (false))), ⟨fun _ _ hv => rfl, fun _ _ _ _ _ => trivial⟩, fun val h_ W hx he => ⟨trivial, ?_⟩, ?_⟩
              · replace hx := (Upd.drew _ _).trans hx
                replace hl := hl.ext hx
                replace hB7 := hB7.ext hx
                have hE := Upd.refl (fun _ => False) W
                refine id (X_move (v := (.bool (false))) rfl ?_)
                exact ⟨hE, rfl⟩
              refine ⟨.no, ⟨fun _ _ _ => trivial, fun _ _ _ _ _ => trivial⟩, fun val h_ W hx he => ⟨60, rfl, .inl rfl⟩, ?_⟩
              refine ⟨.no, ⟨fun _ _ _ => trivial, fun _ _ _ _ _ => trivial⟩, fun val h_ W hx he => ⟨60, rfl, .inl rfl⟩, ?_⟩
              refine ⟨.no, ⟨fun _ _ _ => trivial, fun _ _ _ _ _ => trivial⟩, fun val h_ W hx he => ⟨60, rfl, .inl rfl⟩, ?_⟩
              refine ⟨.no, ⟨fun _ _ _ => trivial, fun _ _ _ _ _ => trivial⟩, fun val h_ W hx he => ⟨60, rfl, .inl rfl⟩, ?_⟩
              refine ⟨.det (fun val => (.bool (false))), ⟨fun _ _ hv => rfl, fun _ _ _ _ _ => trivial⟩, fun val h_ W hx he => ⟨trivial, ?_⟩, ?_⟩
              · replace hx := (Upd.drew _ _).trans hx
                replace hl := hl.ext hx
                replace hB7 := hB7.ext hx
                have hE := Upd.refl (fun _ => False) W
                refine id (X_pick (t := false) (v := (.bool (false))) rfl rfl ?_)
                exact ⟨hE, rfl⟩
              refine ⟨.det (fun val => (.bool (false))), ⟨fun _ _ hv => rfl, fun _ _ _ _ _ => trivial⟩, fun val h_ W hx he => ⟨trivial, ?_⟩, ?_⟩
              · replace hx := (Upd.drew _ _).trans hx
                replace hl := hl.ext hx
                replace hB7 := hB7.ext hx
                have hE := Upd.refl (fun _ => False) W
                refine id (X_move (v := (.bool (false))) rfl ?_)
                exact ⟨hE, rfl⟩
              refine ⟨.no, ⟨fun _ _ _ => trivial, fun _ _ _ _ _ => trivial⟩, fun val h_ W hx he => ⟨66, rfl, .inl rfl⟩, ?_⟩
              refine ⟨.no, ⟨fun _ _ _ => trivial, fun _ _ _ _ _ => trivial⟩, fun val h_ W hx he => ⟨66, rfl, .inl rfl⟩, ?_⟩
              refine ⟨.no, ⟨fun _ _ _ => trivial, fun _ _ _ _ _ => trivial⟩, fun val h_ W hx he => ⟨66, rfl, .inl rfl⟩, ?_⟩
              refine ⟨.no, ⟨fun _ _ _ => trivial, fun _ _ _ _ _ => trivial⟩, fun val h_ W hx he => ⟨66, rfl, .inl rfl⟩, ?_⟩
              refine ⟨.no, ⟨fun _ _ _ => trivial, fun _ _ _ _ _ => trivial⟩, fun val h_ W hx he => ⟨66, rfl, .inl rfl⟩, ?_⟩
              refine ⟨.no, ⟨fun _ _ _ => trivial, fun _ _ _ _ _ => trivial⟩, fun val h_ W hx he => ⟨66, rfl, .inl rfl⟩, ?_⟩
              refine ⟨.no, ⟨fun _ _ _ => trivial, fun _ _ _ _ _ => trivial⟩, fun val h_ W hx he => ⟨66, rfl, .inl rfl⟩, ?_⟩
              refine ⟨.no, ⟨fun _ _ _ => trivial, fun _ _ _ _ _ => trivial⟩, fun val h_ W hx he => ⟨66, rfl, .inl rfl⟩, ?_⟩
              refine ⟨.no, ⟨fun _ _ _ => trivial, fun _ _ _ _ _ => trivial⟩, fun val h_ W hx he => ⟨66, rfl, .inl rfl⟩, ?_⟩
              refine ⟨.no, ⟨fun _ _ _ => trivial, fun _ _ _ _ _ => trivial⟩, fun val h_ W hx he => ⟨66, rfl, .inl rfl⟩, ?_⟩
              intro val W29 hx29 he29
              replace hx29 := (Upd.drew _ _).trans hx29
              have hz29 := hx29.size
              replace hl := hl.ext hx29
              replace hU := hU.trans (Ext.upd hx29)
              replace hB7 := hB7.ext hx29
              refine L_gn (dj := 66) (t := false) rfl rfl rfl rfl ?_
              refine L_op rfl (X_pick (t := false) (v := (.bool (false))) rfl rfl ?_)
              refine L_op rfl (X_assign (v := (.bool (false))) rfl ?_)
              refine L_nil ?_
              refine T_n ?_
              refine W_seq ?_
              refine W_reg ?_
              refine L_op rfl (X_move (v := (.bool (false))) rfl ?_)
              refine L_op rfl (X_not (b := false) (r := true) rfl rfl ?_)
              refine L_nil ?_
              refine T_n ?_
              refine W_ct rfl ?_
              refine W_exit ?_
              refine B_e rfl ?_
              refine T_e ?_
              refine T_e ?_
              refine B_x ?_
              refine T_n ?_
              refine W_seq ?_
              refine W_reg ?_
              refine L_op rfl (X_move (v := (.bool (false))) rfl ?_)
              refine L_op rfl (X_assign (v := (.bool (false))) rfl ?_)
              refine L_nil ?_
              refine T_n ?_
              refine W_ret ?_
              refine S_r ?_
              have hR : ¬ RightK (es.map (fun (x : KE) => x.2)) := fun h => by obtain ⟨⟨h1, h2, h3⟩, h4⟩ := hst.1 (h.2 i (by rw [List.length_map]; exact hi)); exact absurd h1 (of_decide_eq_false hc10)
              exact BQ_r (End_1 Tryd.results11 (v := .bool false) rfl ⟨by rw [decide_eq_false hR], hU.own hn0⟩)
            · refine L_op rfl (X_cmp (k := .i64) (a := ((i : Nat) : Int)) (b := 0) (r := false) rfl rfl rfl (decide_eq_false (p := ((0) : Int) < ((((i : Nat) : Int)) : Int)) (by omega)) ?_)
              refine L_nil ?_
              refine T_n ?_
              refine W_cf rfl ?_
              refine W_skip ?_
              refine T_n ?_
              refine W_seq ?_
              refine W_reg ?_
              refine L_op rfl (X_move (v := (.bool (false))) rfl ?_)
              refine L_op rfl (X_not (b := false) (r := true) rfl rfl ?_)
              refine L_nil ?_
              refine T_n ?_
              refine W_ct rfl ?_
              refine W_exit ?_
              refine B_e rfl ?_
              refine T_e ?_
              refine T_e ?_
              refine B_x ?_
              refine T_n ?_
              refine W_seq ?_
              refine W_reg ?_
              refine L_op rfl (X_move (v := (.bool (false))) rfl ?_)
              refine L_op rfl (X_assign (v := (.bool (false))) rfl ?_)
              refine L_nil ?_
              refine T_n ?_
              refine W_ret ?_
              refine S_r ?_
              have hR : ¬ RightK (es.map (fun (x : KE) => x.2)) := fun h => by obtain ⟨⟨h1, h2, h3⟩, h4⟩ := hst.1 (h.2 i (by rw [List.length_map]; exact hi)); exact absurd h1 (of_decide_eq_false hc10)
              exact BQ_r (End_1 Tryd.results11 (v := .bool false) rfl ⟨by rw [decide_eq_false hR], hU.own hn0⟩)
        · refine L_op rfl (X_cmp (k := .i64) (a := ((i : Nat) : Int)) (b := ((es.length : Nat) : Int)) (r := false) rfl rfl rfl (decide_eq_false (p := ((((i : Nat) : Int)) : Int) < ((((es.length : Nat) : Int)) : Int)) (by omega)) ?_)
          refine L_nil ?_
          refine T_n ?_
          refine W_seq ?_
          refine W_cf rfl ?_
          refine W_exit ?_
          refine T_e ?_
          refine T_e ?_
          refine B_x ?_
          refine T_n ?_
          refine W_seq ?_
          refine W_reg ?_
          refine L_op rfl (X_move (v := (.bool (true))) rfl ?_)
          refine L_op rfl (X_assign (v := (.bool (true))) rfl ?_)
          refine L_nil ?_
          refine T_n ?_
          refine W_ret ?_
          refine S_r ?_
          have hR : RightK (es.map (fun (x : KE) => x.2)) := ⟨⟨by rw [List.length_map]; omega, by rw [List.length_map]; omega, by rw [hd0]; omega⟩, fun j hj => hz j (by rw [List.length_map] at hj; omega)⟩
          exact BQ_r (End_1 Tryd.results11 (v := .bool true) rfl ⟨by rw [decide_eq_true hR], hU.own hn0⟩)
      · refine L_gy (dj := 14) rfl rfl rfl (X_cmp (k := .i64) (a := ((e0.2.1.length : Nat) : Int)) (b := 0) (r := false) rfl rfl rfl (decide_eq_false (p := ((((e0.2.1.length : Nat) : Int)) : Int) = ((0) : Int)) (by omega)) ?_)
        refine L_op rfl (X_pick (t := true) (v := (.bool (false))) rfl rfl ?_)
        refine L_op rfl (X_assign (v := (.bool (false))) rfl ?_)
        refine L_nil ?_
        refine T_n ?_
        refine W_seq ?_
        refine W_reg ?_
        refine L_op rfl (X_move (v := (.bool (false))) rfl ?_)
        refine L_op rfl (X_not (b := false) (r := true) rfl rfl ?_)
        refine L_nil ?_
        refine T_n ?_
        refine W_ct rfl ?_
        refine W_seq ?_
        refine W_reg ?_
        refine L_op rfl (X_assign (v := (.bool (false))) rfl ?_)
        refine L_nil ?_
        refine T_n ?_
        refine W_ret ?_
        refine T_r ?_
        refine S_r ?_
        have hR : ¬ RightK (es.map (fun (x : KE) => x.2)) := fun h => by obtain ⟨⟨h1, h2, h3⟩, _⟩ := h; rw [List.length_map] at h1 h2; first | omega | (rw [hd0] at h3; omega)
        exact BQ_r (End_1 Tryd.results11 (v := .bool false) rfl ⟨by rw [decide_eq_false hR], hU.own hn0⟩)
    · refine L_gy (dj := 9) rfl rfl rfl (X_cmp (k := .i64) (a := ((es.length : Nat) : Int)) (b := 6) (r := false) rfl rfl rfl (decide_eq_false (p := ((((es.length : Nat) : Int)) : Int) ≤ ((6) : Int)) (by omega)) ?_)
      refine L_op rfl (X_pick (t := true) (v := (.bool (false))) rfl rfl ?_)
      refine L_op rfl (X_move (v := (.bool (false))) rfl ?_)
      refine L_gn (dj := 14) (t := false) rfl rfl rfl rfl ?_
      refine L_gn (dj := 14) (t := false) rfl rfl rfl rfl ?_
      refine L_gn (dj := 14) (t := false) rfl rfl rfl rfl ?_
      refine L_gn (dj := 14) (t := false) rfl rfl rfl rfl ?_
      refine L_gn (dj := 14) (t := false) rfl rfl rfl rfl ?_
      refine L_gn (dj := 14) (t := false) rfl rfl rfl rfl ?_
      refine L_op rfl (X_pick (t := false) (v := (.bool (false))) rfl rfl ?_)
      refine L_op rfl (X_assign (v := (.bool (false))) rfl ?_)
      refine L_nil ?_
      refine T_n ?_
      refine W_seq ?_
      refine W_reg ?_
      refine L_op rfl (X_move (v := (.bool (false))) rfl ?_)
      refine L_op rfl (X_not (b := false) (r := true) rfl rfl ?_)
      refine L_nil ?_
      refine T_n ?_
      refine W_ct rfl ?_
      refine W_seq ?_
      refine W_reg ?_
      refine L_op rfl (X_assign (v := (.bool (false))) rfl ?_)
      refine L_nil ?_
      refine T_n ?_
      refine W_ret ?_
      refine T_r ?_
      refine S_r ?_
      have hR : ¬ RightK (es.map (fun (x : KE) => x.2)) := fun h => by obtain ⟨⟨h1, h2, h3⟩, _⟩ := h; rw [List.length_map] at h1 h2; first | omega | (rw [hd0] at h3; omega)
      exact BQ_r (End_1 Tryd.results11 (v := .bool false) rfl ⟨by rw [decide_eq_false hR], hU.own hn0⟩)
  · refine L_op rfl (X_cmp (k := .i64) (a := ((es.length : Nat) : Int)) (b := 2) (r := false) rfl rfl rfl (decide_eq_false (p := ((2) : Int) ≤ ((((es.length : Nat) : Int)) : Int)) (by omega)) ?_)
    refine L_op rfl (X_move (v := (.bool (false))) rfl ?_)
    refine L_gn (dj := 9) (t := false) rfl rfl rfl rfl ?_
    refine L_gn (dj := 9) (t := false) rfl rfl rfl rfl ?_
    refine L_gn (dj := 9) (t := false) rfl rfl rfl rfl ?_
    refine L_op rfl (X_pick (t := false) (v := (.bool (false))) rfl rfl ?_)
    refine L_op rfl (X_move (v := (.bool (false))) rfl ?_)
    refine L_gn (dj := 14) (t := false) rfl rfl rfl rfl ?_
    refine L_gn (dj := 14) (t := false) rfl rfl rfl rfl ?_
    refine L_gn (dj := 14) (t := false) rfl rfl rfl rfl ?_
    refine L_gn (dj := 14) (t := false) rfl rfl rfl rfl ?_
    refine L_gn (dj := 14) (t := false) rfl rfl rfl rfl ?_
    refine L_gn (dj := 14) (t := false) rfl rfl rfl rfl ?_
    refine L_op rfl (X_pick (t := false) (v := (.bool (false))) rfl rfl ?_)
    refine L_op rfl (X_assign (v := (.bool (false))) rfl ?_)
    refine L_nil ?_
    refine T_n ?_
    refine W_seq ?_
    refine W_reg ?_
    refine L_op rfl (X_move (v := (.bool (false))) rfl ?_)
    refine L_op rfl (X_not (b := false) (r := true) rfl rfl ?_)
    refine L_nil ?_
    refine T_n ?_
    refine W_ct rfl ?_
    refine W_seq ?_
    refine W_reg ?_
    refine L_op rfl (X_assign (v := (.bool (false))) rfl ?_)
    refine L_nil ?_
    refine T_n ?_
    refine W_ret ?_
    refine T_r ?_
    refine S_r ?_
    have hR : ¬ RightK (es.map (fun (x : KE) => x.2)) := fun h => by obtain ⟨⟨h1, h2, h3⟩, _⟩ := h; rw [List.length_map] at h1 h2; first | omega | (rw [hd0] at h3; omega)
    exact BQ_r (End_1 Tryd.results11 (v := .bool false) rfl ⟨by rw [decide_eq_false hR], hU.own hn0⟩)
end Go.Proofs.YtbgpegccnalkeaaDoor
