/-
  The contracts of leaves: items that may be. (Printed by wip/gen/t06f.py of this repo.)
-/
import Derived.Test.YtmddmghgkkjbiaaDoorItems
namespace Go.Proofs.YtmddmghgkkjbiaaDoor
open Go Go.SL Go.Proofs
set_option linter.unusedVariables false

theorem ext27 : Extern.find Tryd.f50 = some Extern.BytealgCompare.compare := by kernel_rfl
theorem extn27 : Extern.findNext Tryd.f50 = none := by kernel_rfl

theorem c_compare (a b : Value) (l m : List UInt8) (w : World) (ha : Rd w 1 a l.length (l.map byteV)) (hb : Rd w 1 b m.length (m.map byteV)) : CT Tryd.prog 28 #[a, b] w fun v w' => v = .int .i64 (cmpB l m) ∧ w = w' := by
  refine CT_of Tryd.func28 rfl rfl rfl ?_
  refine W_seq ?_
  refine W_reg ?_
  refine L_op rfl (X_assign (v := (.int .i64 (0))) rfl ?_)
  refine L_nil ?_
  refine T_n ?_
  refine W_seq ?_
  refine W_reg ?_
  refine L_op rfl (X_move (v := a) rfl ?_)
  refine L_op rfl (X_move (v := b) rfl ?_)
  refine L_op rfl (X_ext (vs := [a, b]) Tryd.func50 rfl rfl extn27 ext27 rfl (compare_run ha hb) ?_)
  refine L_op rfl (X_assign (v := (.int .i64 (cmpB l m))) rfl ?_)
  refine L_nil ?_
  refine T_n ?_
  refine W_ret ?_
  exact BQ_r (End_1 Tryd.results28 (v := .int .i64 (cmpB l m)) rfl ⟨rfl, rfl⟩)

theorem lt_cmp : ∀ (a b : List UInt8), decide (cmpB a b < 0) = Op.bytesLess a b
  | [], [] => rfl
  | [], y :: b => by rw [cmpB_eq]; simp [cmpW, Op.bytesLess]
  | x :: a, [] => by rw [cmpB_eq]; simp [cmpW, Op.bytesLess]
  | x :: a, y :: b => by
    have ih := lt_cmp a b
    rw [cmpB_eq] at ih ⊢
    rw [cmpW_cons]
    simp only [Op.bytesLess]
    by_cases h : x = y
    · subst h
      rw [if_pos rfl, ih]
      simp [UInt8.lt_irrefl]
    · rw [if_neg h]
      by_cases h2 : x < y
      · simp [h2]
      · simp [h2, h]
theorem cmp_lt {a b : List UInt8} (h : Op.bytesLess a b = true) : cmpB a b < 0 := of_decide_eq_true ((lt_cmp a b).trans h)
theorem cmp_ge {a b : List UInt8} (h : Op.bytesLess a b = false) : ¬ cmpB a b < 0 := of_decide_eq_false ((lt_cmp a b).trans h)
/-- an item may be -/
abbrev RightT (d : ID) : Prop := (1 ≤ d.1.length ∧ d.1.length ≤ 8) ∧ ((d.2.2.1.1 = 0 ∧ d.2.1.length ≤ 16 ∧ d.2.2.1 = ptZ ∧ d.2.2.2 = 0) ∨ (d.2.2.1.1 = 3 ∧ d.2.1.length = 0 ∧ 16 < d.2.2.2 ∧ d.2.2.2 ≤ 600 ∧ RightP d.2.2.1 256))
abbrev dT (ds : List ID) (j : Nat) : ID := ds.getD j ([], [], ptZ, 0)
def StepI (ds : List ID) (j : Nat) : Prop := RightT (dT ds j) ∧ (0 < j → Op.bytesLess (dT ds (j - 1)).1 (dT ds j).1 = true)
instance (ds : List ID) (j : Nat) : Decidable (StepI ds j) := by unfold StepI; infer_instance
/-- items that may be -/
def RightI (ds : List ID) : Prop := ds.length ≤ 6 ∧ ∀ j, j < ds.length → StepI ds j
instance (ds : List ID) : Decidable (RightI ds) := by unfold RightI; infer_instance
theorem dT_at {es : List IE} {i : Nat} {e : IE} (h : es[i]? = some e) : dT (dsI es) i = e.2.2 := by
  unfold dT dsI
  rw [List.getD_eq_getElem?_getD, List.getElem?_map, h]; rfl
theorem dT_get {ds : List ID} {i : Nat} (h : i < ds.length) : dT ds i = ds[i] := by
  unfold dT
  rw [List.getD_eq_getElem?_getD, List.getElem?_eq_getElem h]; rfl
theorem dsI_len (es : List IE) : (dsI es).length = es.length := List.length_map ..

theorem c_rightT (e : IE) (w : World) (hk : SV e.1 e.2.2.1.length) (hv : SV e.2.1 e.2.2.2.1.length) (hp : PtOk e.2.2.2.2.1) : CT Tryd.prog 27 #[(.agg (itC e).toArray)] w fun v w' => v = .bool (decide (RightT e.2.2)) ∧ Ext w w' := by
  obtain ⟨n0, hn0⟩ : ∃ n, n = w.heap.size := ⟨_, rfl⟩
  have hU : Upd (fun i => n0 ≤ i) w w := Upd.refl _ _
  have hkl := hk.len
  have hvl := hv.len
  refine CT_of Tryd.func27 rfl rfl rfl ?_
  refine W_seq ?_
  refine W_reg ?_
  refine L_op rfl (X_box (v := .agg (itC e).toArray) (c := (itC e).toArray) rfl rfl ?_)
  intro b1 w1 hn1
  have hbn1 := hn1.num; have hbs1 := hn1.size
  replace hU := hU.trans (Ext.upd hn1.ext)
  have hB1 := hn1.blk
  refine L_op rfl (X_assign (v := (.bool (false))) rfl ?_)
  refine L_nil ?_
  refine T_n ?_
  refine W_seq ?_
  refine W_reg ?_
  refine L_op rfl (X_fldP (b := b1) (o := 0) (r := 0) Fd43_0 rfl rfl ?_)
  refine L_op rfl (X_load (p := (ptr b1 (0))) (v := e.1) T35 rfl (hB1.at1 rfl) ?_)
  refine L_op rfl (X_len (v := e.1) (n := e.2.2.1.length) Tryd.underlying35 rfl hk ?_)
  by_cases hc2 : (((e.2.2.1.length : Nat) : Int) : Int) ≥ (1)
  · refine L_op rfl (X_cmp (k := .i64) (a := ((e.2.2.1.length : Nat) : Int)) (b := 1) (r := true) rfl rfl rfl (decide_eq_true (p := ((1) : Int) ≤ ((((e.2.2.1.length : Nat) : Int)) : Int)) (by omega)) ?_)
    refine L_op rfl (X_move (v := (.bool (true))) rfl ?_)
    refine L_gy (dj := 8) rfl rfl rfl (X_fldP (b := b1) (o := 0) (r := 0) Fd43_0 rfl rfl ?_)
    refine L_gy (dj := 8) rfl rfl rfl (X_load (p := (ptr b1 (0))) (v := e.1) T35 rfl (hB1.at1 rfl) ?_)
    refine L_gy (dj := 8) rfl rfl rfl (X_len (v := e.1) (n := e.2.2.1.length) Tryd.underlying35 rfl hk ?_)
    by_cases hc3 : (((e.2.2.1.length : Nat) : Int) : Int) ≤ (8)
    · refine L_gy (dj := 8) rfl rfl rfl (X_cmp (k := .i64) (a := ((e.2.2.1.length : Nat) : Int)) (b := 8) (r := true) rfl rfl rfl (decide_eq_true (p := ((((e.2.2.1.length : Nat) : Int)) : Int) ≤ ((8) : Int)) (by omega)) ?_)
      refine L_op rfl (X_pick (t := true) (v := (.bool (true))) rfl rfl ?_)
      refine L_op rfl (X_assign (v := (.bool (true))) rfl ?_)
      refine L_nil ?_
      refine T_n ?_
      refine W_seq ?_
      refine W_seq ?_
      refine W_reg ?_
      refine L_op rfl (X_fldP (b := b1) (o := 0) (r := 2) Fd43_2 rfl rfl ?_)
      refine L_op rfl (X_fldP (b := b1) (o := 2) (r := 2) Fd41_0 rfl rfl ?_)
      refine L_op rfl (X_load (p := (ptr b1 (2))) (v := (.int .u8 (e.2.2.2.2.1.1))) T5 rfl (hB1.at1 rfl) ?_)
      refine L_nil ?_
      refine T_n ?_
      refine W_block ?_
      refine W_seq ?_
      refine W_reg ?_
      by_cases hc4 : (e.2.2.2.2.1.1 : Int) = (0)
      · refine L_op rfl (X_cmp (k := .u8) (a := e.2.2.2.2.1.1) (b := 0) (r := true) rfl rfl rfl (decide_eq_true (p := ((e.2.2.2.2.1.1) : Int) = ((0) : Int)) (by omega)) ?_)
        refine L_op rfl (X_assign (v := (.bool (true))) rfl ?_)
        refine L_nil ?_
        refine T_n ?_
        refine W_ct rfl ?_
        refine W_seq ?_
        refine W_reg ?_
        refine L_op rfl (X_move (v := (.bool (true))) rfl ?_)
        refine L_op rfl (X_move (v := (.bool (true))) rfl ?_)
        refine L_gy (dj := 20) rfl rfl rfl (X_fldP (b := b1) (o := 0) (r := 1) Fd43_1 rfl rfl ?_)
        refine L_gy (dj := 20) rfl rfl rfl (X_load (p := (ptr b1 (1))) (v := e.2.1) T35 rfl (hB1.at1 rfl) ?_)
        refine L_gy (dj := 20) rfl rfl rfl (X_len (v := e.2.1) (n := e.2.2.2.1.length) Tryd.underlying35 rfl hv ?_)
        by_cases hc5 : (((e.2.2.2.1.length : Nat) : Int) : Int) ≤ (16)
        · refine L_gy (dj := 20) rfl rfl rfl (X_cmp (k := .i64) (a := ((e.2.2.2.1.length : Nat) : Int)) (b := 16) (r := true) rfl rfl rfl (decide_eq_true (p := ((((e.2.2.2.1.length : Nat) : Int)) : Int) ≤ ((16) : Int)) (by omega)) ?_)
          refine L_op rfl (X_pick (t := true) (v := (.bool (true))) rfl rfl ?_)
          refine L_op rfl (X_move (v := (.bool (true))) rfl ?_)
          refine L_gy (dj := 26) rfl rfl rfl (X_fldP (b := b1) (o := 0) (r := 2) Fd43_2 rfl rfl ?_)
          refine L_gy (dj := 26) rfl rfl rfl (X_loadA (p := (ptr b1 (2))) (xs := ptC e.2.2.2.2.1) A41 rfl (it_over hB1) rfl ?_)
          refine L_gy (dj := 26) rfl rfl rfl (X_build built41z ?_)
          rcases Bool.eq_false_or_eq_true (e.2.2.2.2.1 == ptZ) with hc6 | hc6
          · refine L_gy (dj := 26) rfl rfl rfl (X_eqP (p := e.2.2.2.2.1) (q := ptZ) (r := true) Tryd.underlying41 u28 (by kernel_rfl) (by decide) ⟨rfl, rfl, rfl, rfl⟩ Tryd.underlying5 Tryd.underlying37 (by kernel_rfl) Tryd.underlying36 (ie := _) rfl (by kernel_rfl) Tryd.underlying38 Tryd.underlying39 (by kernel_rfl) rfl rfl (.inl ⟨rfl, hc6⟩) ?_)
            refine L_op rfl (X_pick (t := true) (v := (.bool (true))) rfl rfl ?_)
            refine L_op rfl (X_move (v := (.bool (true))) rfl ?_)
            refine L_gy (dj := 32) rfl rfl rfl (X_fldP (b := b1) (o := 0) (r := 7) Fd43_3 rfl rfl ?_)
            refine L_gy (dj := 32) rfl rfl rfl (X_load (p := (ptr b1 (7))) (v := (.int .u16 (e.2.2.2.2.2))) T36 rfl (hB1.at1 rfl) ?_)
            by_cases hc7 : (e.2.2.2.2.2 : Int) = (0)
            · refine L_gy (dj := 32) rfl rfl rfl (X_cmp (k := .u16) (a := e.2.2.2.2.2) (b := 0) (r := true) rfl rfl rfl (decide_eq_true (p := ((e.2.2.2.2.2) : Int) = ((0) : Int)) (by omega)) ?_)
              refine L_op rfl (X_pick (t := true) (v := (.bool (true))) rfl rfl ?_)
              refine L_op rfl (X_assign (v := (.bool (true))) rfl ?_)
              refine L_nil ?_
              refine T_n ?_
              refine W_ret ?_
              refine B_r ?_
              refine T_r ?_
              have hR : RightT e.2.2 := ⟨⟨by omega, by omega⟩, .inl ⟨by omega, by omega, eq_of_beq hc6, by omega⟩⟩
              exact BQ_r (End_1 Tryd.results27 (v := .bool true) rfl ⟨by rw [decide_eq_true hR], hU.own hn0⟩)
            · refine L_gy (dj := 32) rfl rfl rfl (X_cmp (k := .u16) (a := e.2.2.2.2.2) (b := 0) (r := false) rfl rfl rfl (decide_eq_false (p := ((e.2.2.2.2.2) : Int) = ((0) : Int)) (by omega)) ?_)
              refine L_op rfl (X_pick (t := true) (v := (.bool (false))) rfl rfl ?_)
              refine L_op rfl (X_assign (v := (.bool (false))) rfl ?_)
              refine L_nil ?_
              refine T_n ?_
              refine W_ret ?_
              refine B_r ?_
              refine T_r ?_
              have hR : ¬ RightT e.2.2 := fun h => by obtain ⟨⟨h1, h2⟩, ⟨h3, h4, h5, h6⟩ | ⟨h3, h4, h5, h6, h7⟩⟩ := h; (· omega); (· omega)
              exact BQ_r (End_1 Tryd.results27 (v := .bool false) rfl ⟨by rw [decide_eq_false hR], hU.own hn0⟩)
          · refine L_gy (dj := 26) rfl rfl rfl (X_eqP (p := e.2.2.2.2.1) (q := ptZ) (r := false) Tryd.underlying41 u28 (by kernel_rfl) (by decide) ⟨rfl, rfl, rfl, rfl⟩ Tryd.underlying5 Tryd.underlying37 (by kernel_rfl) Tryd.underlying36 (ie := _) rfl (by kernel_rfl) Tryd.underlying38 Tryd.underlying39 (by kernel_rfl) rfl rfl (.inl ⟨rfl, hc6⟩) ?_)
            refine L_op rfl (X_pick (t := true) (v := (.bool (false))) rfl rfl ?_)
            refine L_op rfl (X_move (v := (.bool (false))) rfl ?_)
            refine L_gn (dj := 32) (t := false) rfl rfl rfl rfl ?_
            refine L_gn (dj := 32) (t := false) rfl rfl rfl rfl ?_
            refine L_gn (dj := 32) (t := false) rfl rfl rfl rfl ?_
            refine L_op rfl (X_pick (t := false) (v := (.bool (false))) rfl rfl ?_)
            refine L_op rfl (X_assign (v := (.bool (false))) rfl ?_)
            refine L_nil ?_
            refine T_n ?_
            refine W_ret ?_
            refine B_r ?_
            refine T_r ?_
            have hR : ¬ RightT e.2.2 := fun h => by obtain ⟨⟨h1, h2⟩, ⟨h3, h4, h5, h6⟩ | ⟨h3, h4, h5, h6, h7⟩⟩ := h; (· exact ne_of_beq_false hc6 h5); (· omega)
            exact BQ_r (End_1 Tryd.results27 (v := .bool false) rfl ⟨by rw [decide_eq_false hR], hU.own hn0⟩)
        · refine L_gy (dj := 20) rfl rfl rfl (X_cmp (k := .i64) (a := ((e.2.2.2.1.length : Nat) : Int)) (b := 16) (r := false) rfl rfl rfl (decide_eq_false (p := ((((e.2.2.2.1.length : Nat) : Int)) : Int) ≤ ((16) : Int)) (by omega)) ?_)
          refine L_op rfl (X_pick (t := true) (v := (.bool (false))) rfl rfl ?_)
          refine L_op rfl (X_move (v := (.bool (false))) rfl ?_)
          refine L_gn (dj := 26) (t := false) rfl rfl rfl rfl ?_
          refine L_gn (dj := 26) (t := false) rfl rfl rfl rfl ?_
          refine L_gn (dj := 26) (t := false) rfl rfl rfl rfl ?_
          refine L_gn (dj := 26) (t := false) rfl rfl rfl rfl ?_
          refine L_op rfl (X_pick (t := false) (v := (.bool (false))) rfl rfl ?_)
          refine L_op rfl (X_move (v := (.bool (false))) rfl ?_)
          refine L_gn (dj := 32) (t := false) rfl rfl rfl rfl ?_
          refine L_gn (dj := 32) (t := false) rfl rfl rfl rfl ?_
          refine L_gn (dj := 32) (t := false) rfl rfl rfl rfl ?_
          refine L_op rfl (X_pick (t := false) (v := (.bool (false))) rfl rfl ?_)
          refine L_op rfl (X_assign (v := (.bool (false))) rfl ?_)
          refine L_nil ?_
          refine T_n ?_
          refine W_ret ?_
          refine B_r ?_
          refine T_r ?_
          have hR : ¬ RightT e.2.2 := fun h => by obtain ⟨⟨h1, h2⟩, ⟨h3, h4, h5, h6⟩ | ⟨h3, h4, h5, h6, h7⟩⟩ := h; (· omega); (· omega)
          exact BQ_r (End_1 Tryd.results27 (v := .bool false) rfl ⟨by rw [decide_eq_false hR], hU.own hn0⟩)
      · refine L_op rfl (X_cmp (k := .u8) (a := e.2.2.2.2.1.1) (b := 0) (r := false) rfl rfl rfl (decide_eq_false (p := ((e.2.2.2.2.1.1) : Int) = ((0) : Int)) (by omega)) ?_)
        refine L_op rfl (X_assign (v := (.bool (false))) rfl ?_)
        refine L_nil ?_
        refine T_n ?_
        refine W_cf rfl ?_
        refine W_seq ?_
        refine W_reg ?_
        by_cases hc8 : (e.2.2.2.2.1.1 : Int) = (3)
        · refine L_op rfl (X_cmp (k := .u8) (a := e.2.2.2.2.1.1) (b := 3) (r := true) rfl rfl rfl (decide_eq_true (p := ((e.2.2.2.2.1.1) : Int) = ((3) : Int)) (by omega)) ?_)
          refine L_op rfl (X_assign (v := (.bool (true))) rfl ?_)
          refine L_nil ?_
          refine T_n ?_
          refine W_ct rfl ?_
          refine W_seq ?_
          refine W_reg ?_
          refine L_op rfl (X_move (v := (.bool (true))) rfl ?_)
          refine L_op rfl (X_move (v := (.bool (true))) rfl ?_)
          refine L_gy (dj := 40) rfl rfl rfl (X_fldP (b := b1) (o := 0) (r := 1) Fd43_1 rfl rfl ?_)
          refine L_gy (dj := 40) rfl rfl rfl (X_load (p := (ptr b1 (1))) (v := e.2.1) T35 rfl (hB1.at1 rfl) ?_)
          refine L_gy (dj := 40) rfl rfl rfl (X_len (v := e.2.1) (n := e.2.2.2.1.length) Tryd.underlying35 rfl hv ?_)
          by_cases hc9 : (((e.2.2.2.1.length : Nat) : Int) : Int) = (0)
          · refine L_gy (dj := 40) rfl rfl rfl (X_cmp (k := .i64) (a := ((e.2.2.2.1.length : Nat) : Int)) (b := 0) (r := true) rfl rfl rfl (decide_eq_true (p := ((((e.2.2.2.1.length : Nat) : Int)) : Int) = ((0) : Int)) (by omega)) ?_)
            refine L_op rfl (X_pick (t := true) (v := (.bool (true))) rfl rfl ?_)
            refine L_op rfl (X_move (v := (.bool (true))) rfl ?_)
            refine L_gy (dj := 46) rfl rfl rfl (X_fldP (b := b1) (o := 0) (r := 7) Fd43_3 rfl rfl ?_)
            refine L_gy (dj := 46) rfl rfl rfl (X_load (p := (ptr b1 (7))) (v := (.int .u16 (e.2.2.2.2.2))) T36 rfl (hB1.at1 rfl) ?_)
            by_cases hc10 : (e.2.2.2.2.2 : Int) > (16)
            · refine L_gy (dj := 46) rfl rfl rfl (X_cmp (k := .u16) (a := e.2.2.2.2.2) (b := 16) (r := true) rfl rfl rfl (decide_eq_true (p := ((16) : Int) < ((e.2.2.2.2.2) : Int)) (by omega)) ?_)
              refine L_op rfl (X_pick (t := true) (v := (.bool (true))) rfl rfl ?_)
              refine L_op rfl (X_move (v := (.bool (true))) rfl ?_)
              refine L_gy (dj := 51) rfl rfl rfl (X_fldP (b := b1) (o := 0) (r := 7) Fd43_3 rfl rfl ?_)
              refine L_gy (dj := 51) rfl rfl rfl (X_load (p := (ptr b1 (7))) (v := (.int .u16 (e.2.2.2.2.2))) T36 rfl (hB1.at1 rfl) ?_)
              by_cases hc11 : (e.2.2.2.2.2 : Int) ≤ (600)
              · refine L_gy (dj := 51) rfl rfl rfl (X_cmp (k := .u16) (a := e.2.2.2.2.2) (b := 600) (r := true) rfl rfl rfl (decide_eq_true (p := ((e.2.2.2.2.2) : Int) ≤ ((600) : Int)) (by omega)) ?_)
                refine L_op rfl (X_pick (t := true) (v := (.bool (true))) rfl rfl ?_)
                refine L_op rfl (X_move (v := (.bool (true))) rfl ?_)
                refine L_gy (dj := 56) rfl rfl rfl (X_fldP (b := b1) (o := 0) (r := 2) Fd43_2 rfl rfl ?_)
                refine L_gy (dj := 56) rfl rfl rfl (X_loadA (p := (ptr b1 (2))) (xs := ptC e.2.2.2.2.1) A41 rfl (it_over hB1) rfl ?_)
                refine L_gy (dj := 56) rfl rfl rfl (X_fn (vs := [(.agg (ptC e.2.2.2.2.1).toArray), (.int .i64 (256))]) en49 rfl (CT.mono (c_right e.2.2.2.2.1 256 _ hp) ?_))
                rintro _ w12 ⟨rfl, hu12⟩
                have hz12 := hu12.size
                replace hU := hU.trans (Ext.upd hu12)
                replace hB1 := hB1.ext hu12
                rcases Bool.eq_false_or_eq_true (decide (RightP e.2.2.2.2.1 256)) with hc13 | hc13
                · rw [hc13]
                  refine L_op rfl (X_pick (t := true) (v := (.bool (true))) rfl rfl ?_)
                  refine L_op rfl (X_assign (v := (.bool (true))) rfl ?_)
                  refine L_nil ?_
                  refine T_n ?_
                  refine W_ret ?_
                  refine B_r ?_
                  refine T_r ?_
                  have hR : RightT e.2.2 := ⟨⟨by omega, by omega⟩, .inr ⟨by omega, by omega, by omega, by omega, of_decide_eq_true hc13⟩⟩
                  exact BQ_r (End_1 Tryd.results27 (v := .bool true) rfl ⟨by rw [decide_eq_true hR], hU.own hn0⟩)
                · rw [hc13]
                  refine L_op rfl (X_pick (t := true) (v := (.bool (false))) rfl rfl ?_)
                  refine L_op rfl (X_assign (v := (.bool (false))) rfl ?_)
                  refine L_nil ?_
                  refine T_n ?_
                  refine W_ret ?_
                  refine B_r ?_
                  refine T_r ?_
                  have hR : ¬ RightT e.2.2 := fun h => by obtain ⟨⟨h1, h2⟩, ⟨h3, h4, h5, h6⟩ | ⟨h3, h4, h5, h6, h7⟩⟩ := h; (· omega); (· exact of_decide_eq_false hc13 h7)
                  exact BQ_r (End_1 Tryd.results27 (v := .bool false) rfl ⟨by rw [decide_eq_false hR], hU.own hn0⟩)
              · refine L_gy (dj := 51) rfl rfl rfl (X_cmp (k := .u16) (a := e.2.2.2.2.2) (b := 600) (r := false) rfl rfl rfl (decide_eq_false (p := ((e.2.2.2.2.2) : Int) ≤ ((600) : Int)) (by omega)) ?_)
                refine L_op rfl (X_pick (t := true) (v := (.bool (false))) rfl rfl ?_)
                refine L_op rfl (X_move (v := (.bool (false))) rfl ?_)
                refine L_gn (dj := 56) (t := false) rfl rfl rfl rfl ?_
                refine L_gn (dj := 56) (t := false) rfl rfl rfl rfl ?_
                refine L_gn (dj := 56) (t := false) rfl rfl rfl rfl ?_
                refine L_op rfl (X_pick (t := false) (v := (.bool (false))) rfl rfl ?_)
                refine L_op rfl (X_assign (v := (.bool (false))) rfl ?_)
                refine L_nil ?_
                refine T_n ?_
                refine W_ret ?_
                refine B_r ?_
                refine T_r ?_
                have hR : ¬ RightT e.2.2 := fun h => by obtain ⟨⟨h1, h2⟩, ⟨h3, h4, h5, h6⟩ | ⟨h3, h4, h5, h6, h7⟩⟩ := h; (· omega); (· omega)
                exact BQ_r (End_1 Tryd.results27 (v := .bool false) rfl ⟨by rw [decide_eq_false hR], hU.own hn0⟩)
            · refine L_gy (dj := 46) rfl rfl rfl (X_cmp (k := .u16) (a := e.2.2.2.2.2) (b := 16) (r := false) rfl rfl rfl (decide_eq_false (p := ((16) : Int) < ((e.2.2.2.2.2) : Int)) (by omega)) ?_)
              refine L_op rfl (X_pick (t := true) (v := (.bool (false))) rfl rfl ?_)
              refine L_op rfl (X_move (v := (.bool (false))) rfl ?_)
              refine L_gn (dj := 51) (t := false) rfl rfl rfl rfl ?_
              refine L_gn (dj := 51) (t := false) rfl rfl rfl rfl ?_
              refine L_gn (dj := 51) (t := false) rfl rfl rfl rfl ?_
              refine L_op rfl (X_pick (t := false) (v := (.bool (false))) rfl rfl ?_)
              refine L_op rfl (X_move (v := (.bool (false))) rfl ?_)
              refine L_gn (dj := 56) (t := false) rfl rfl rfl rfl ?_
              refine L_gn (dj := 56) (t := false) rfl rfl rfl rfl ?_
              refine L_gn (dj := 56) (t := false) rfl rfl rfl rfl ?_
              refine L_op rfl (X_pick (t := false) (v := (.bool (false))) rfl rfl ?_)
              refine L_op rfl (X_assign (v := (.bool (false))) rfl ?_)
              refine L_nil ?_
              refine T_n ?_
              refine W_ret ?_
              refine B_r ?_
              refine T_r ?_
              have hR : ¬ RightT e.2.2 := fun h => by obtain ⟨⟨h1, h2⟩, ⟨h3, h4, h5, h6⟩ | ⟨h3, h4, h5, h6, h7⟩⟩ := h; (· omega); (· omega)
              exact BQ_r (End_1 Tryd.results27 (v := .bool false) rfl ⟨by rw [decide_eq_false hR], hU.own hn0⟩)
          · refine L_gy (dj := 40) rfl rfl rfl (X_cmp (k := .i64) (a := ((e.2.2.2.1.length : Nat) : Int)) (b := 0) (r := false) rfl rfl rfl (decide_eq_false (p := ((((e.2.2.2.1.length : Nat) : Int)) : Int) = ((0) : Int)) (by omega)) ?_)
            refine L_op rfl (X_pick (t := true) (v := (.bool (false))) rfl rfl ?_)
            refine L_op rfl (X_move (v := (.bool (false))) rfl ?_)
            refine L_gn (dj := 46) (t := false) rfl rfl rfl rfl ?_
            refine L_gn (dj := 46) (t := false) rfl rfl rfl rfl ?_
            refine L_gn (dj := 46) (t := false) rfl rfl rfl rfl ?_
            refine L_op rfl (X_pick (t := false) (v := (.bool (false))) rfl rfl ?_)
            refine L_op rfl (X_move (v := (.bool (false))) rfl ?_)
            refine L_gn (dj := 51) (t := false) rfl rfl rfl rfl ?_
            refine L_gn (dj := 51) (t := false) rfl rfl rfl rfl ?_
            refine L_gn (dj := 51) (t := false) rfl rfl rfl rfl ?_
            refine L_op rfl (X_pick (t := false) (v := (.bool (false))) rfl rfl ?_)
            refine L_op rfl (X_move (v := (.bool (false))) rfl ?_)
            refine L_gn (dj := 56) (t := false) rfl rfl rfl rfl ?_
            refine L_gn (dj := 56) (t := false) rfl rfl rfl rfl ?_
            refine L_gn (dj := 56) (t := false) rfl rfl rfl rfl ?_
            refine L_op rfl (X_pick (t := false) (v := (.bool (false))) rfl rfl ?_)
            refine L_op rfl (X_assign (v := (.bool (false))) rfl ?_)
            refine L_nil ?_
            refine T_n ?_
            refine W_ret ?_
            refine B_r ?_
            refine T_r ?_
            have hR : ¬ RightT e.2.2 := fun h => by obtain ⟨⟨h1, h2⟩, ⟨h3, h4, h5, h6⟩ | ⟨h3, h4, h5, h6, h7⟩⟩ := h; (· omega); (· omega)
            exact BQ_r (End_1 Tryd.results27 (v := .bool false) rfl ⟨by rw [decide_eq_false hR], hU.own hn0⟩)
        · refine L_op rfl (X_cmp (k := .u8) (a := e.2.2.2.2.1.1) (b := 3) (r := false) rfl rfl rfl (decide_eq_false (p := ((e.2.2.2.2.1.1) : Int) = ((3) : Int)) (by omega)) ?_)
          refine L_op rfl (X_assign (v := (.bool (false))) rfl ?_)
          refine L_nil ?_
          refine T_n ?_
          refine W_cf rfl ?_
          refine W_skip ?_
          refine B_n ?_
          refine T_n ?_
          refine W_seq ?_
          refine W_reg ?_
          refine L_op rfl (X_assign (v := (.bool (false))) rfl ?_)
          refine L_nil ?_
          refine T_n ?_
          refine W_ret ?_
          have hR : ¬ RightT e.2.2 := fun h => by obtain ⟨⟨h1, h2⟩, ⟨h3, h4, h5, h6⟩ | ⟨h3, h4, h5, h6, h7⟩⟩ := h; (· omega); (· omega)
          exact BQ_r (End_1 Tryd.results27 (v := .bool false) rfl ⟨by rw [decide_eq_false hR], hU.own hn0⟩)
    · refine L_gy (dj := 8) rfl rfl rfl (X_cmp (k := .i64) (a := ((e.2.2.1.length : Nat) : Int)) (b := 8) (r := false) rfl rfl rfl (decide_eq_false (p := ((((e.2.2.1.length : Nat) : Int)) : Int) ≤ ((8) : Int)) (by omega)) ?_)
      refine L_op rfl (X_pick (t := true) (v := (.bool (false))) rfl rfl ?_)
      refine L_op rfl (X_assign (v := (.bool (false))) rfl ?_)
      refine L_nil ?_
      refine T_n ?_
      refine W_seq ?_
      refine W_seq ?_
      refine W_reg ?_
      refine L_op rfl (X_fldP (b := b1) (o := 0) (r := 2) Fd43_2 rfl rfl ?_)
      refine L_op rfl (X_fldP (b := b1) (o := 2) (r := 2) Fd41_0 rfl rfl ?_)
      refine L_op rfl (X_load (p := (ptr b1 (2))) (v := (.int .u8 (e.2.2.2.2.1.1))) T5 rfl (hB1.at1 rfl) ?_)
      refine L_nil ?_
      refine T_n ?_
      refine W_block ?_
      refine W_seq ?_
      refine W_reg ?_
      by_cases hc14 : (e.2.2.2.2.1.1 : Int) = (0)
      · refine L_op rfl (X_cmp (k := .u8) (a := e.2.2.2.2.1.1) (b := 0) (r := true) rfl rfl rfl (decide_eq_true (p := ((e.2.2.2.2.1.1) : Int) = ((0) : Int)) (by omega)) ?_)
        refine L_op rfl (X_assign (v := (.bool (true))) rfl ?_)
        refine L_nil ?_
        refine T_n ?_
        refine W_ct rfl ?_
        refine W_seq ?_
        refine W_reg ?_
        refine L_op rfl (X_move (v := (.bool (false))) rfl ?_)
        refine L_op rfl (X_move (v := (.bool (false))) rfl ?_)
        refine L_gn (dj := 20) (t := false) rfl rfl rfl rfl ?_
        refine L_gn (dj := 20) (t := false) rfl rfl rfl rfl ?_
        refine L_gn (dj := 20) (t := false) rfl rfl rfl rfl ?_
        refine L_gn (dj := 20) (t := false) rfl rfl rfl rfl ?_
        refine L_op rfl (X_pick (t := false) (v := (.bool (false))) rfl rfl ?_)
        refine L_op rfl (X_move (v := (.bool (false))) rfl ?_)
        refine L_gn (dj := 26) (t := false) rfl rfl rfl rfl ?_
        refine L_gn (dj := 26) (t := false) rfl rfl rfl rfl ?_
        refine L_gn (dj := 26) (t := false) rfl rfl rfl rfl ?_
        refine L_gn (dj := 26) (t := false) rfl rfl rfl rfl ?_
        refine L_op rfl (X_pick (t := false) (v := (.bool (false))) rfl rfl ?_)
        refine L_op rfl (X_move (v := (.bool (false))) rfl ?_)
        refine L_gn (dj := 32) (t := false) rfl rfl rfl rfl ?_
        refine L_gn (dj := 32) (t := false) rfl rfl rfl rfl ?_
        refine L_gn (dj := 32) (t := false) rfl rfl rfl rfl ?_
        refine L_op rfl (X_pick (t := false) (v := (.bool (false))) rfl rfl ?_)
        refine L_op rfl (X_assign (v := (.bool (false))) rfl ?_)
        refine L_nil ?_
        refine T_n ?_
        refine W_ret ?_
        refine B_r ?_
        refine T_r ?_
        have hR : ¬ RightT e.2.2 := fun h => by obtain ⟨⟨h1, h2⟩, ⟨h3, h4, h5, h6⟩ | ⟨h3, h4, h5, h6, h7⟩⟩ := h; (· omega); (· omega)
        exact BQ_r (End_1 Tryd.results27 (v := .bool false) rfl ⟨by rw [decide_eq_false hR], hU.own hn0⟩)
      · refine L_op rfl (X_cmp (k := .u8) (a := e.2.2.2.2.1.1) (b := 0) (r := false) rfl rfl rfl (decide_eq_false (p := ((e.2.2.2.2.1.1) : Int) = ((0) : Int)) (by omega)) ?_)
        refine L_op rfl (X_assign (v := (.bool (false))) rfl ?_)
        refine L_nil ?_
        refine T_n ?_
        refine W_cf rfl ?_
        refine W_seq ?_
        refine W_reg ?_
        by_cases hc15 : (e.2.2.2.2.1.1 : Int) = (3)
        · refine L_op rfl (X_cmp (k := .u8) (a := e.2.2.2.2.1.1) (b := 3) (r := true) rfl rfl rfl (decide_eq_true (p := ((e.2.2.2.2.1.1) : Int) = ((3) : Int)) (by omega)) ?_)
          refine L_op rfl (X_assign (v := (.bool (true))) rfl ?_)
          refine L_nil ?_
          refine T_n ?_
          refine W_ct rfl ?_
          refine W_seq ?_
          refine W_reg ?_
          refine L_op rfl (X_move (v := (.bool (false))) rfl ?_)
          refine L_op rfl (X_move (v := (.bool (false))) rfl ?_)
          refine L_gn (dj := 40) (t := false) rfl rfl rfl rfl ?_
          refine L_gn (dj := 40) (t := false) rfl rfl rfl rfl ?_
          refine L_gn (dj := 40) (t := false) rfl rfl rfl rfl ?_
          refine L_gn (dj := 40) (t := false) rfl rfl rfl rfl ?_
          refine L_op rfl (X_pick (t := false) (v := (.bool (false))) rfl rfl ?_)
          refine L_op rfl (X_move (v := (.bool (false))) rfl ?_)
          refine L_gn (dj := 46) (t := false) rfl rfl rfl rfl ?_
          refine L_gn (dj := 46) (t := false) rfl rfl rfl rfl ?_
          refine L_gn (dj := 46) (t := false) rfl rfl rfl rfl ?_
          refine L_op rfl (X_pick (t := false) (v := (.bool (false))) rfl rfl ?_)
          refine L_op rfl (X_move (v := (.bool (false))) rfl ?_)
          refine L_gn (dj := 51) (t := false) rfl rfl rfl rfl ?_
          refine L_gn (dj := 51) (t := false) rfl rfl rfl rfl ?_
          refine L_gn (dj := 51) (t := false) rfl rfl rfl rfl ?_
          refine L_op rfl (X_pick (t := false) (v := (.bool (false))) rfl rfl ?_)
          refine L_op rfl (X_move (v := (.bool (false))) rfl ?_)
          refine L_gn (dj := 56) (t := false) rfl rfl rfl rfl ?_
          refine L_gn (dj := 56) (t := false) rfl rfl rfl rfl ?_
          refine L_gn (dj := 56) (t := false) rfl rfl rfl rfl ?_
          refine L_op rfl (X_pick (t := false) (v := (.bool (false))) rfl rfl ?_)
          refine L_op rfl (X_assign (v := (.bool (false))) rfl ?_)
          refine L_nil ?_
          refine T_n ?_
          refine W_ret ?_
          refine B_r ?_
          refine T_r ?_
          have hR : ¬ RightT e.2.2 := fun h => by obtain ⟨⟨h1, h2⟩, ⟨h3, h4, h5, h6⟩ | ⟨h3, h4, h5, h6, h7⟩⟩ := h; (· omega); (· omega)
          exact BQ_r (End_1 Tryd.results27 (v := .bool false) rfl ⟨by rw [decide_eq_false hR], hU.own hn0⟩)
        · refine L_op rfl (X_cmp (k := .u8) (a := e.2.2.2.2.1.1) (b := 3) (r := false) rfl rfl rfl (decide_eq_false (p := ((e.2.2.2.2.1.1) : Int) = ((3) : Int)) (by omega)) ?_)
          refine L_op rfl (X_assign (v := (.bool (false))) rfl ?_)
          refine L_nil ?_
          refine T_n ?_
          refine W_cf rfl ?_
          refine W_skip ?_
          refine B_n ?_
          refine T_n ?_
          refine W_seq ?_
          refine W_reg ?_
          refine L_op rfl (X_assign (v := (.bool (false))) rfl ?_)
          refine L_nil ?_
          refine T_n ?_
          refine W_ret ?_
          have hR : ¬ RightT e.2.2 := fun h => by obtain ⟨⟨h1, h2⟩, ⟨h3, h4, h5, h6⟩ | ⟨h3, h4, h5, h6, h7⟩⟩ := h; (· omega); (· omega)
          exact BQ_r (End_1 Tryd.results27 (v := .bool false) rfl ⟨by rw [decide_eq_false hR], hU.own hn0⟩)
  · refine L_op rfl (X_cmp (k := .i64) (a := ((e.2.2.1.length : Nat) : Int)) (b := 1) (r := false) rfl rfl rfl (decide_eq_false (p := ((1) : Int) ≤ ((((e.2.2.1.length : Nat) : Int)) : Int)) (by omega)) ?_)
    refine L_op rfl (X_move (v := (.bool (false))) rfl ?_)
    refine L_gn (dj := 8) (t := false) rfl rfl rfl rfl ?_
    refine L_gn (dj := 8) (t := false) rfl rfl rfl rfl ?_
    refine L_gn (dj := 8) (t := false) rfl rfl rfl rfl ?_
    refine L_gn (dj := 8) (t := false) rfl rfl rfl rfl ?_
    refine L_op rfl (X_pick (t := false) (v := (.bool (false))) rfl rfl ?_)
    refine L_op rfl (X_assign (v := (.bool (false))) rfl ?_)
    refine L_nil ?_
    refine T_n ?_
    refine W_seq ?_
    refine W_seq ?_
    refine W_reg ?_
    refine L_op rfl (X_fldP (b := b1) (o := 0) (r := 2) Fd43_2 rfl rfl ?_)
    refine L_op rfl (X_fldP (b := b1) (o := 2) (r := 2) Fd41_0 rfl rfl ?_)
    refine L_op rfl (X_load (p := (ptr b1 (2))) (v := (.int .u8 (e.2.2.2.2.1.1))) T5 rfl (hB1.at1 rfl) ?_)
    refine L_nil ?_
    refine T_n ?_
    refine W_block ?_
    refine W_seq ?_
    refine W_reg ?_
    by_cases hc16 : (e.2.2.2.2.1.1 : Int) = (0)
    · refine L_op rfl (X_cmp (k := .u8) (a := e.2.2.2.2.1.1) (b := 0) (r := true) rfl rfl rfl (decide_eq_true (p := ((e.2.2.2.2.1.1) : Int) = ((0) : Int)) (by omega)) ?_)
      refine L_op rfl (X_assign (v := (.bool (true))) rfl ?_)
      refine L_nil ?_
      refine T_n ?_
      refine W_ct rfl ?_
      refine W_seq ?_
      refine W_reg ?_
      refine L_op rfl (X_move (v := (.bool (false))) rfl ?_)
      refine L_op rfl (X_move (v := (.bool (false))) rfl ?_)
      refine L_gn (dj := 20) (t := false) rfl rfl rfl rfl ?_
      refine L_gn (dj := 20) (t := false) rfl rfl rfl rfl ?_
      refine L_gn (dj := 20) (t := false) rfl rfl rfl rfl ?_
      refine L_gn (dj := 20) (t := false) rfl rfl rfl rfl ?_
      refine L_op rfl (X_pick (t := false) (v := (.bool (false))) rfl rfl ?_)
      refine L_op rfl (X_move (v := (.bool (false))) rfl ?_)
      refine L_gn (dj := 26) (t := false) rfl rfl rfl rfl ?_
      refine L_gn (dj := 26) (t := false) rfl rfl rfl rfl ?_
      refine L_gn (dj := 26) (t := false) rfl rfl rfl rfl ?_
      refine L_gn (dj := 26) (t := false) rfl rfl rfl rfl ?_
      refine L_op rfl (X_pick (t := false) (v := (.bool (false))) rfl rfl ?_)
      refine L_op rfl (X_move (v := (.bool (false))) rfl ?_)
      refine L_gn (dj := 32) (t := false) rfl rfl rfl rfl ?_
      refine L_gn (dj := 32) (t := false) rfl rfl rfl rfl ?_
      refine L_gn (dj := 32) (t := false) rfl rfl rfl rfl ?_
      refine L_op rfl (X_pick (t := false) (v := (.bool (false))) rfl rfl ?_)
      refine L_op rfl (X_assign (v := (.bool (false))) rfl ?_)
      refine L_nil ?_
      refine T_n ?_
      refine W_ret ?_
      refine B_r ?_
      refine T_r ?_
      have hR : ¬ RightT e.2.2 := fun h => by obtain ⟨⟨h1, h2⟩, ⟨h3, h4, h5, h6⟩ | ⟨h3, h4, h5, h6, h7⟩⟩ := h; (· omega); (· omega)
      exact BQ_r (End_1 Tryd.results27 (v := .bool false) rfl ⟨by rw [decide_eq_false hR], hU.own hn0⟩)
    · refine L_op rfl (X_cmp (k := .u8) (a := e.2.2.2.2.1.1) (b := 0) (r := false) rfl rfl rfl (decide_eq_false (p := ((e.2.2.2.2.1.1) : Int) = ((0) : Int)) (by omega)) ?_)
      refine L_op rfl (X_assign (v := (.bool (false))) rfl ?_)
      refine L_nil ?_
      refine T_n ?_
      refine W_cf rfl ?_
      refine W_seq ?_
      refine W_reg ?_
      by_cases hc17 : (e.2.2.2.2.1.1 : Int) = (3)
      · refine L_op rfl (X_cmp (k := .u8) (a := e.2.2.2.2.1.1) (b := 3) (r := true) rfl rfl rfl (decide_eq_true (p := ((e.2.2.2.2.1.1) : Int) = ((3) : Int)) (by omega)) ?_)
        refine L_op rfl (X_assign (v := (.bool (true))) rfl ?_)
        refine L_nil ?_
        refine T_n ?_
        refine W_ct rfl ?_
        refine W_seq ?_
        refine W_reg ?_
        refine L_op rfl (X_move (v := (.bool (false))) rfl ?_)
        refine L_op rfl (X_move (v := (.bool (false))) rfl ?_)
        refine L_gn (dj := 40) (t := false) rfl rfl rfl rfl ?_
        refine L_gn (dj := 40) (t := false) rfl rfl rfl rfl ?_
        refine L_gn (dj := 40) (t := false) rfl rfl rfl rfl ?_
        refine L_gn (dj := 40) (t := false) rfl rfl rfl rfl ?_
        refine L_op rfl (X_pick (t := false) (v := (.bool (false))) rfl rfl ?_)
        refine L_op rfl (X_move (v := (.bool (false))) rfl ?_)
        refine L_gn (dj := 46) (t := false) rfl rfl rfl rfl ?_
        refine L_gn (dj := 46) (t := false) rfl rfl rfl rfl ?_
        refine L_gn (dj := 46) (t := false) rfl rfl rfl rfl ?_
        refine L_op rfl (X_pick (t := false) (v := (.bool (false))) rfl rfl ?_)
        refine L_op rfl (X_move (v := (.bool (false))) rfl ?_)
        refine L_gn (dj := 51) (t := false) rfl rfl rfl rfl ?_
        refine L_gn (dj := 51) (t := false) rfl rfl rfl rfl ?_
        refine L_gn (dj := 51) (t := false) rfl rfl rfl rfl ?_
        refine L_op rfl (X_pick (t := false) (v := (.bool (false))) rfl rfl ?_)
        refine L_op rfl (X_move (v := (.bool (false))) rfl ?_)
        refine L_gn (dj := 56) (t := false) rfl rfl rfl rfl ?_
        refine L_gn (dj := 56) (t := false) rfl rfl rfl rfl ?_
        refine L_gn (dj := 56) (t := false) rfl rfl rfl rfl ?_
        refine L_op rfl (X_pick (t := false) (v := (.bool (false))) rfl rfl ?_)
        refine L_op rfl (X_assign (v := (.bool (false))) rfl ?_)
        refine L_nil ?_
        refine T_n ?_
        refine W_ret ?_
        refine B_r ?_
        refine T_r ?_
        have hR : ¬ RightT e.2.2 := fun h => by obtain ⟨⟨h1, h2⟩, ⟨h3, h4, h5, h6⟩ | ⟨h3, h4, h5, h6, h7⟩⟩ := h; (· omega); (· omega)
        exact BQ_r (End_1 Tryd.results27 (v := .bool false) rfl ⟨by rw [decide_eq_false hR], hU.own hn0⟩)
      · refine L_op rfl (X_cmp (k := .u8) (a := e.2.2.2.2.1.1) (b := 3) (r := false) rfl rfl rfl (decide_eq_false (p := ((e.2.2.2.2.1.1) : Int) = ((3) : Int)) (by omega)) ?_)
        refine L_op rfl (X_assign (v := (.bool (false))) rfl ?_)
        refine L_nil ?_
        refine T_n ?_
        refine W_cf rfl ?_
        refine W_skip ?_
        refine B_n ?_
        refine T_n ?_
        refine W_seq ?_
        refine W_reg ?_
        refine L_op rfl (X_assign (v := (.bool (false))) rfl ?_)
        refine L_nil ?_
        refine T_n ?_
        refine W_ret ?_
        have hR : ¬ RightT e.2.2 := fun h => by obtain ⟨⟨h1, h2⟩, ⟨h3, h4, h5, h6⟩ | ⟨h3, h4, h5, h6, h7⟩⟩ := h; (· omega); (· omega)
        exact BQ_r (End_1 Tryd.results27 (v := .bool false) rfl ⟨by rw [decide_eq_false hR], hU.own hn0⟩)

theorem c_rightTR (e : IE) (w : World) (hk : SV e.1 e.2.2.1.length) (hv : SV e.2.1 e.2.2.2.1.length) (hp : PtOk e.2.2.2.2.1) : CT Tryd.prog 24 #[(.agg (itC e).toArray)] w fun v w' => v = .bool (decide (RightT e.2.2)) ∧ Ext w w' := by
  obtain ⟨n0, hn0⟩ : ∃ n, n = w.heap.size := ⟨_, rfl⟩
  have hU : Upd (fun i => n0 ≤ i) w w := Upd.refl _ _
  have hkl := hk.len
  have hvl := hv.len
  refine CT_of Tryd.func24 rfl rfl rfl ?_
  refine W_seq ?_
  refine W_reg ?_
  refine L_op rfl (X_box (v := .agg (itC e).toArray) (c := (itC e).toArray) rfl rfl ?_)
  intro b1 w1 hn1
  have hbn1 := hn1.num; have hbs1 := hn1.size
  replace hU := hU.trans (Ext.upd hn1.ext)
  have hB1 := hn1.blk
  refine L_op rfl (X_assign (v := (.bool (false))) rfl ?_)
  refine L_nil ?_
  refine T_n ?_
  refine W_seq ?_
  refine W_seq ?_
  refine W_reg ?_
  refine L_op rfl (X_fldP (b := b1) (o := 0) (r := 0) Fd43_0 rfl rfl ?_)
  refine L_op rfl (X_load (p := (ptr b1 (0))) (v := e.1) T35 rfl (hB1.at1 rfl) ?_)
  refine L_op rfl (X_len (v := e.1) (n := e.2.2.1.length) Tryd.underlying35 rfl hk ?_)
  by_cases hc2 : (((e.2.2.1.length : Nat) : Int) : Int) < (1)
  · refine L_op rfl (X_cmp (k := .i64) (a := ((e.2.2.1.length : Nat) : Int)) (b := 1) (r := true) rfl rfl rfl (decide_eq_true (p := ((((e.2.2.1.length : Nat) : Int)) : Int) < ((1) : Int)) (by omega)) ?_)
    refine L_op rfl (X_move (v := (.bool (true))) rfl ?_)
    refine L_gn (dj := 7) (t := true) rfl rfl rfl rfl ?_
    refine L_gn (dj := 7) (t := true) rfl rfl rfl rfl ?_
    refine L_gn (dj := 7) (t := true) rfl rfl rfl rfl ?_
    refine L_gn (dj := 7) (t := true) rfl rfl rfl rfl ?_
    refine L_op rfl (X_pick (t := true) (v := (.bool (true))) rfl rfl ?_)
    refine L_nil ?_
    refine T_n ?_
    refine W_ct rfl ?_
    refine W_seq ?_
    refine W_reg ?_
    refine L_op rfl (X_assign (v := (.bool (false))) rfl ?_)
    refine L_nil ?_
    refine T_n ?_
    refine W_ret ?_
    refine T_r ?_
    have hR : ¬ RightT e.2.2 := fun h => by obtain ⟨⟨h1, h2⟩, ⟨h3, h4, h5, h6⟩ | ⟨h3, h4, h5, h6, h7⟩⟩ := h; (· omega); (· omega)
    exact BQ_r (End_1 Tryd.results24 (v := .bool false) rfl ⟨by rw [decide_eq_false hR], hU.own hn0⟩)
  · refine L_op rfl (X_cmp (k := .i64) (a := ((e.2.2.1.length : Nat) : Int)) (b := 1) (r := false) rfl rfl rfl (decide_eq_false (p := ((((e.2.2.1.length : Nat) : Int)) : Int) < ((1) : Int)) (by omega)) ?_)
    refine L_op rfl (X_move (v := (.bool (false))) rfl ?_)
    refine L_gy (dj := 7) rfl rfl rfl (X_fldP (b := b1) (o := 0) (r := 0) Fd43_0 rfl rfl ?_)
    refine L_gy (dj := 7) rfl rfl rfl (X_load (p := (ptr b1 (0))) (v := e.1) T35 rfl (hB1.at1 rfl) ?_)
    refine L_gy (dj := 7) rfl rfl rfl (X_len (v := e.1) (n := e.2.2.1.length) Tryd.underlying35 rfl hk ?_)
    by_cases hc3 : (((e.2.2.1.length : Nat) : Int) : Int) > (8)
    · refine L_gy (dj := 7) rfl rfl rfl (X_cmp (k := .i64) (a := ((e.2.2.1.length : Nat) : Int)) (b := 8) (r := true) rfl rfl rfl (decide_eq_true (p := ((8) : Int) < ((((e.2.2.1.length : Nat) : Int)) : Int)) (by omega)) ?_)
      refine L_op rfl (X_pick (t := false) (v := (.bool (true))) rfl rfl ?_)
      refine L_nil ?_
      refine T_n ?_
      refine W_ct rfl ?_
      refine W_seq ?_
      refine W_reg ?_
      refine L_op rfl (X_assign (v := (.bool (false))) rfl ?_)
      refine L_nil ?_
      refine T_n ?_
      refine W_ret ?_
      refine T_r ?_
      have hR : ¬ RightT e.2.2 := fun h => by obtain ⟨⟨h1, h2⟩, ⟨h3, h4, h5, h6⟩ | ⟨h3, h4, h5, h6, h7⟩⟩ := h; (· omega); (· omega)
      exact BQ_r (End_1 Tryd.results24 (v := .bool false) rfl ⟨by rw [decide_eq_false hR], hU.own hn0⟩)
    · refine L_gy (dj := 7) rfl rfl rfl (X_cmp (k := .i64) (a := ((e.2.2.1.length : Nat) : Int)) (b := 8) (r := false) rfl rfl rfl (decide_eq_false (p := ((8) : Int) < ((((e.2.2.1.length : Nat) : Int)) : Int)) (by omega)) ?_)
      refine L_op rfl (X_pick (t := false) (v := (.bool (false))) rfl rfl ?_)
      refine L_nil ?_
      refine T_n ?_
      refine W_cf rfl ?_
      refine W_skip ?_
      refine T_n ?_
      refine W_seq ?_
      refine W_seq ?_
      refine W_reg ?_
      refine L_op rfl (X_fldP (b := b1) (o := 0) (r := 2) Fd43_2 rfl rfl ?_)
      refine L_op rfl (X_fldP (b := b1) (o := 2) (r := 2) Fd41_0 rfl rfl ?_)
      refine L_op rfl (X_load (p := (ptr b1 (2))) (v := (.int .u8 (e.2.2.2.2.1.1))) T5 rfl (hB1.at1 rfl) ?_)
      by_cases hc4 : (e.2.2.2.2.1.1 : Int) = (0)
      · refine L_op rfl (X_cmp (k := .u8) (a := e.2.2.2.2.1.1) (b := 0) (r := true) rfl rfl rfl (decide_eq_true (p := ((e.2.2.2.2.1.1) : Int) = ((0) : Int)) (by omega)) ?_)
        refine L_nil ?_
        refine T_n ?_
        refine W_ct rfl ?_
        refine W_seq ?_
        refine W_reg ?_
        refine L_op rfl (X_fldP (b := b1) (o := 0) (r := 1) Fd43_1 rfl rfl ?_)
        refine L_op rfl (X_load (p := (ptr b1 (1))) (v := e.2.1) T35 rfl (hB1.at1 rfl) ?_)
        refine L_op rfl (X_len (v := e.2.1) (n := e.2.2.2.1.length) Tryd.underlying35 rfl hv ?_)
        by_cases hc5 : (((e.2.2.2.1.length : Nat) : Int) : Int) ≤ (16)
        · refine L_op rfl (X_cmp (k := .i64) (a := ((e.2.2.2.1.length : Nat) : Int)) (b := 16) (r := true) rfl rfl rfl (decide_eq_true (p := ((((e.2.2.2.1.length : Nat) : Int)) : Int) ≤ ((16) : Int)) (by omega)) ?_)
          refine L_op rfl (X_move (v := (.bool (true))) rfl ?_)
          refine L_gy (dj := 21) rfl rfl rfl (X_fldP (b := b1) (o := 0) (r := 2) Fd43_2 rfl rfl ?_)
          refine L_gy (dj := 21) rfl rfl rfl (X_loadA (p := (ptr b1 (2))) (xs := ptC e.2.2.2.2.1) A41 rfl (it_over hB1) rfl ?_)
          refine L_gy (dj := 21) rfl rfl rfl (X_build built41z ?_)
          rcases Bool.eq_false_or_eq_true (e.2.2.2.2.1 == ptZ) with hc6 | hc6
          · refine L_gy (dj := 21) rfl rfl rfl (X_eqP (p := e.2.2.2.2.1) (q := ptZ) (r := true) Tryd.underlying41 u28 (by kernel_rfl) (by decide) ⟨rfl, rfl, rfl, rfl⟩ Tryd.underlying5 Tryd.underlying37 (by kernel_rfl) Tryd.underlying36 (ie := _) rfl (by kernel_rfl) Tryd.underlying38 Tryd.underlying39 (by kernel_rfl) rfl rfl (.inl ⟨rfl, hc6⟩) ?_)
            refine L_op rfl (X_pick (t := true) (v := (.bool (true))) rfl rfl ?_)
            refine L_op rfl (X_move (v := (.bool (true))) rfl ?_)
            refine L_gy (dj := 27) rfl rfl rfl (X_fldP (b := b1) (o := 0) (r := 7) Fd43_3 rfl rfl ?_)
            refine L_gy (dj := 27) rfl rfl rfl (X_load (p := (ptr b1 (7))) (v := (.int .u16 (e.2.2.2.2.2))) T36 rfl (hB1.at1 rfl) ?_)
            by_cases hc7 : (e.2.2.2.2.2 : Int) = (0)
            · refine L_gy (dj := 27) rfl rfl rfl (X_cmp (k := .u16) (a := e.2.2.2.2.2) (b := 0) (r := true) rfl rfl rfl (decide_eq_true (p := ((e.2.2.2.2.2) : Int) = ((0) : Int)) (by omega)) ?_)
              refine L_op rfl (X_pick (t := true) (v := (.bool (true))) rfl rfl ?_)
              refine L_op rfl (X_assign (v := (.bool (true))) rfl ?_)
              refine L_nil ?_
              refine T_n ?_
              refine W_ret ?_
              refine T_r ?_
              have hR : RightT e.2.2 := ⟨⟨by omega, by omega⟩, .inl ⟨by omega, by omega, eq_of_beq hc6, by omega⟩⟩
              exact BQ_r (End_1 Tryd.results24 (v := .bool true) rfl ⟨by rw [decide_eq_true hR], hU.own hn0⟩)
            · refine L_gy (dj := 27) rfl rfl rfl (X_cmp (k := .u16) (a := e.2.2.2.2.2) (b := 0) (r := false) rfl rfl rfl (decide_eq_false (p := ((e.2.2.2.2.2) : Int) = ((0) : Int)) (by omega)) ?_)
              refine L_op rfl (X_pick (t := true) (v := (.bool (false))) rfl rfl ?_)
              refine L_op rfl (X_assign (v := (.bool (false))) rfl ?_)
              refine L_nil ?_
              refine T_n ?_
              refine W_ret ?_
              refine T_r ?_
              have hR : ¬ RightT e.2.2 := fun h => by obtain ⟨⟨h1, h2⟩, ⟨h3, h4, h5, h6⟩ | ⟨h3, h4, h5, h6, h7⟩⟩ := h; (· omega); (· omega)
              exact BQ_r (End_1 Tryd.results24 (v := .bool false) rfl ⟨by rw [decide_eq_false hR], hU.own hn0⟩)
          · refine L_gy (dj := 21) rfl rfl rfl (X_eqP (p := e.2.2.2.2.1) (q := ptZ) (r := false) Tryd.underlying41 u28 (by kernel_rfl) (by decide) ⟨rfl, rfl, rfl, rfl⟩ Tryd.underlying5 Tryd.underlying37 (by kernel_rfl) Tryd.underlying36 (ie := _) rfl (by kernel_rfl) Tryd.underlying38 Tryd.underlying39 (by kernel_rfl) rfl rfl (.inl ⟨rfl, hc6⟩) ?_)
            refine L_op rfl (X_pick (t := true) (v := (.bool (false))) rfl rfl ?_)
            refine L_op rfl (X_move (v := (.bool (false))) rfl ?_)
            refine L_gn (dj := 27) (t := false) rfl rfl rfl rfl ?_
            refine L_gn (dj := 27) (t := false) rfl rfl rfl rfl ?_
            refine L_gn (dj := 27) (t := false) rfl rfl rfl rfl ?_
            refine L_op rfl (X_pick (t := false) (v := (.bool (false))) rfl rfl ?_)
            refine L_op rfl (X_assign (v := (.bool (false))) rfl ?_)
            refine L_nil ?_
            refine T_n ?_
            refine W_ret ?_
            refine T_r ?_
            have hR : ¬ RightT e.2.2 := fun h => by obtain ⟨⟨h1, h2⟩, ⟨h3, h4, h5, h6⟩ | ⟨h3, h4, h5, h6, h7⟩⟩ := h; (· exact ne_of_beq_false hc6 h5); (· omega)
            exact BQ_r (End_1 Tryd.results24 (v := .bool false) rfl ⟨by rw [decide_eq_false hR], hU.own hn0⟩)
        · refine L_op rfl (X_cmp (k := .i64) (a := ((e.2.2.2.1.length : Nat) : Int)) (b := 16) (r := false) rfl rfl rfl (decide_eq_false (p := ((((e.2.2.2.1.length : Nat) : Int)) : Int) ≤ ((16) : Int)) (by omega)) ?_)
          refine L_op rfl (X_move (v := (.bool (false))) rfl ?_)
          refine L_gn (dj := 21) (t := false) rfl rfl rfl rfl ?_
          refine L_gn (dj := 21) (t := false) rfl rfl rfl rfl ?_
          refine L_gn (dj := 21) (t := false) rfl rfl rfl rfl ?_
          refine L_gn (dj := 21) (t := false) rfl rfl rfl rfl ?_
          refine L_op rfl (X_pick (t := false) (v := (.bool (false))) rfl rfl ?_)
          refine L_op rfl (X_move (v := (.bool (false))) rfl ?_)
          refine L_gn (dj := 27) (t := false) rfl rfl rfl rfl ?_
          refine L_gn (dj := 27) (t := false) rfl rfl rfl rfl ?_
          refine L_gn (dj := 27) (t := false) rfl rfl rfl rfl ?_
          refine L_op rfl (X_pick (t := false) (v := (.bool (false))) rfl rfl ?_)
          refine L_op rfl (X_assign (v := (.bool (false))) rfl ?_)
          refine L_nil ?_
          refine T_n ?_
          refine W_ret ?_
          refine T_r ?_
          have hR : ¬ RightT e.2.2 := fun h => by obtain ⟨⟨h1, h2⟩, ⟨h3, h4, h5, h6⟩ | ⟨h3, h4, h5, h6, h7⟩⟩ := h; (· omega); (· omega)
          exact BQ_r (End_1 Tryd.results24 (v := .bool false) rfl ⟨by rw [decide_eq_false hR], hU.own hn0⟩)
      · refine L_op rfl (X_cmp (k := .u8) (a := e.2.2.2.2.1.1) (b := 0) (r := false) rfl rfl rfl (decide_eq_false (p := ((e.2.2.2.2.1.1) : Int) = ((0) : Int)) (by omega)) ?_)
        refine L_nil ?_
        refine T_n ?_
        refine W_cf rfl ?_
        refine W_skip ?_
        refine T_n ?_
        refine W_seq ?_
        refine W_reg ?_
        refine L_op rfl (X_fldP (b := b1) (o := 0) (r := 2) Fd43_2 rfl rfl ?_)
        refine L_op rfl (X_fldP (b := b1) (o := 2) (r := 2) Fd41_0 rfl rfl ?_)
        refine L_op rfl (X_load (p := (ptr b1 (2))) (v := (.int .u8 (e.2.2.2.2.1.1))) T5 rfl (hB1.at1 rfl) ?_)
        by_cases hc8 : (e.2.2.2.2.1.1 : Int) = (3)
        · refine L_op rfl (X_cmp (k := .u8) (a := e.2.2.2.2.1.1) (b := 3) (r := true) rfl rfl rfl (decide_eq_true (p := ((e.2.2.2.2.1.1) : Int) = ((3) : Int)) (by omega)) ?_)
          refine L_op rfl (X_move (v := (.bool (true))) rfl ?_)
          refine L_gy (dj := 36) rfl rfl rfl (X_fldP (b := b1) (o := 0) (r := 1) Fd43_1 rfl rfl ?_)
          refine L_gy (dj := 36) rfl rfl rfl (X_load (p := (ptr b1 (1))) (v := e.2.1) T35 rfl (hB1.at1 rfl) ?_)
          refine L_gy (dj := 36) rfl rfl rfl (X_len (v := e.2.1) (n := e.2.2.2.1.length) Tryd.underlying35 rfl hv ?_)
          by_cases hc9 : (((e.2.2.2.1.length : Nat) : Int) : Int) = (0)
          · refine L_gy (dj := 36) rfl rfl rfl (X_cmp (k := .i64) (a := ((e.2.2.2.1.length : Nat) : Int)) (b := 0) (r := true) rfl rfl rfl (decide_eq_true (p := ((((e.2.2.2.1.length : Nat) : Int)) : Int) = ((0) : Int)) (by omega)) ?_)
            refine L_op rfl (X_pick (t := true) (v := (.bool (true))) rfl rfl ?_)
            refine L_op rfl (X_move (v := (.bool (true))) rfl ?_)
            refine L_gy (dj := 42) rfl rfl rfl (X_fldP (b := b1) (o := 0) (r := 7) Fd43_3 rfl rfl ?_)
            refine L_gy (dj := 42) rfl rfl rfl (X_load (p := (ptr b1 (7))) (v := (.int .u16 (e.2.2.2.2.2))) T36 rfl (hB1.at1 rfl) ?_)
            by_cases hc10 : (e.2.2.2.2.2 : Int) > (16)
            · refine L_gy (dj := 42) rfl rfl rfl (X_cmp (k := .u16) (a := e.2.2.2.2.2) (b := 16) (r := true) rfl rfl rfl (decide_eq_true (p := ((16) : Int) < ((e.2.2.2.2.2) : Int)) (by omega)) ?_)
              refine L_op rfl (X_pick (t := true) (v := (.bool (true))) rfl rfl ?_)
              refine L_op rfl (X_move (v := (.bool (true))) rfl ?_)
              refine L_gy (dj := 47) rfl rfl rfl (X_fldP (b := b1) (o := 0) (r := 7) Fd43_3 rfl rfl ?_)
              refine L_gy (dj := 47) rfl rfl rfl (X_load (p := (ptr b1 (7))) (v := (.int .u16 (e.2.2.2.2.2))) T36 rfl (hB1.at1 rfl) ?_)
              by_cases hc11 : (e.2.2.2.2.2 : Int) ≤ (600)
              · refine L_gy (dj := 47) rfl rfl rfl (X_cmp (k := .u16) (a := e.2.2.2.2.2) (b := 600) (r := true) rfl rfl rfl (decide_eq_true (p := ((e.2.2.2.2.2) : Int) ≤ ((600) : Int)) (by omega)) ?_)
                refine L_op rfl (X_pick (t := true) (v := (.bool (true))) rfl rfl ?_)
                refine L_op rfl (X_move (v := (.bool (true))) rfl ?_)
                refine L_gy (dj := 52) rfl rfl rfl (X_fldP (b := b1) (o := 0) (r := 2) Fd43_2 rfl rfl ?_)
                refine L_gy (dj := 52) rfl rfl rfl (X_loadA (p := (ptr b1 (2))) (xs := ptC e.2.2.2.2.1) A41 rfl (it_over hB1) rfl ?_)
                refine L_gy (dj := 52) rfl rfl rfl (X_fn (vs := [(.agg (ptC e.2.2.2.2.1).toArray), (.int .i64 (256))]) en43 rfl (CT.mono (c_rightR e.2.2.2.2.1 256 _ hp) ?_))
                rintro _ w12 ⟨rfl, hu12⟩
                have hz12 := hu12.size
                replace hU := hU.trans (Ext.upd hu12)
                replace hB1 := hB1.ext hu12
                rcases Bool.eq_false_or_eq_true (decide (RightP e.2.2.2.2.1 256)) with hc13 | hc13
                · rw [hc13]
                  refine L_op rfl (X_pick (t := true) (v := (.bool (true))) rfl rfl ?_)
                  refine L_op rfl (X_assign (v := (.bool (true))) rfl ?_)
                  refine L_nil ?_
                  refine T_n ?_
                  refine W_ret ?_
                  have hR : RightT e.2.2 := ⟨⟨by omega, by omega⟩, .inr ⟨by omega, by omega, by omega, by omega, of_decide_eq_true hc13⟩⟩
                  exact BQ_r (End_1 Tryd.results24 (v := .bool true) rfl ⟨by rw [decide_eq_true hR], hU.own hn0⟩)
                · rw [hc13]
                  refine L_op rfl (X_pick (t := true) (v := (.bool (false))) rfl rfl ?_)
                  refine L_op rfl (X_assign (v := (.bool (false))) rfl ?_)
                  refine L_nil ?_
                  refine T_n ?_
                  refine W_ret ?_
                  have hR : ¬ RightT e.2.2 := fun h => by obtain ⟨⟨h1, h2⟩, ⟨h3, h4, h5, h6⟩ | ⟨h3, h4, h5, h6, h7⟩⟩ := h; (· omega); (· exact of_decide_eq_false hc13 h7)
                  exact BQ_r (End_1 Tryd.results24 (v := .bool false) rfl ⟨by rw [decide_eq_false hR], hU.own hn0⟩)
              · refine L_gy (dj := 47) rfl rfl rfl (X_cmp (k := .u16) (a := e.2.2.2.2.2) (b := 600) (r := false) rfl rfl rfl (decide_eq_false (p := ((e.2.2.2.2.2) : Int) ≤ ((600) : Int)) (by omega)) ?_)
                refine L_op rfl (X_pick (t := true) (v := (.bool (false))) rfl rfl ?_)
                refine L_op rfl (X_move (v := (.bool (false))) rfl ?_)
                refine L_gn (dj := 52) (t := false) rfl rfl rfl rfl ?_
                refine L_gn (dj := 52) (t := false) rfl rfl rfl rfl ?_
                refine L_gn (dj := 52) (t := false) rfl rfl rfl rfl ?_
                refine L_op rfl (X_pick (t := false) (v := (.bool (false))) rfl rfl ?_)
                refine L_op rfl (X_assign (v := (.bool (false))) rfl ?_)
                refine L_nil ?_
                refine T_n ?_
                refine W_ret ?_
                have hR : ¬ RightT e.2.2 := fun h => by obtain ⟨⟨h1, h2⟩, ⟨h3, h4, h5, h6⟩ | ⟨h3, h4, h5, h6, h7⟩⟩ := h; (· omega); (· omega)
                exact BQ_r (End_1 Tryd.results24 (v := .bool false) rfl ⟨by rw [decide_eq_false hR], hU.own hn0⟩)
            · refine L_gy (dj := 42) rfl rfl rfl (X_cmp (k := .u16) (a := e.2.2.2.2.2) (b := 16) (r := false) rfl rfl rfl (decide_eq_false (p := ((16) : Int) < ((e.2.2.2.2.2) : Int)) (by omega)) ?_)
              refine L_op rfl (X_pick (t := true) (v := (.bool (false))) rfl rfl ?_)
              refine L_op rfl (X_move (v := (.bool (false))) rfl ?_)
              refine L_gn (dj := 47) (t := false) rfl rfl rfl rfl ?_
              refine L_gn (dj := 47) (t := false) rfl rfl rfl rfl ?_
              refine L_gn (dj := 47) (t := false) rfl rfl rfl rfl ?_
              refine L_op rfl (X_pick (t := false) (v := (.bool (false))) rfl rfl ?_)
              refine L_op rfl (X_move (v := (.bool (false))) rfl ?_)
              refine L_gn (dj := 52) (t := false) rfl rfl rfl rfl ?_
              refine L_gn (dj := 52) (t := false) rfl rfl rfl rfl ?_
              refine L_gn (dj := 52) (t := false) rfl rfl rfl rfl ?_
              refine L_op rfl (X_pick (t := false) (v := (.bool (false))) rfl rfl ?_)
              refine L_op rfl (X_assign (v := (.bool (false))) rfl ?_)
              refine L_nil ?_
              refine T_n ?_
              refine W_ret ?_
              have hR : ¬ RightT e.2.2 := fun h => by obtain ⟨⟨h1, h2⟩, ⟨h3, h4, h5, h6⟩ | ⟨h3, h4, h5, h6, h7⟩⟩ := h; (· omega); (· omega)
              exact BQ_r (End_1 Tryd.results24 (v := .bool false) rfl ⟨by rw [decide_eq_false hR], hU.own hn0⟩)
          · refine L_gy (dj := 36) rfl rfl rfl (X_cmp (k := .i64) (a := ((e.2.2.2.1.length : Nat) : Int)) (b := 0) (r := false) rfl rfl rfl (decide_eq_false (p := ((((e.2.2.2.1.length : Nat) : Int)) : Int) = ((0) : Int)) (by omega)) ?_)
            refine L_op rfl (X_pick (t := true) (v := (.bool (false))) rfl rfl ?_)
            refine L_op rfl (X_move (v := (.bool (false))) rfl ?_)
            refine L_gn (dj := 42) (t := false) rfl rfl rfl rfl ?_
            refine L_gn (dj := 42) (t := false) rfl rfl rfl rfl ?_
            refine L_gn (dj := 42) (t := false) rfl rfl rfl rfl ?_
            refine L_op rfl (X_pick (t := false) (v := (.bool (false))) rfl rfl ?_)
            refine L_op rfl (X_move (v := (.bool (false))) rfl ?_)
            refine L_gn (dj := 47) (t := false) rfl rfl rfl rfl ?_
            refine L_gn (dj := 47) (t := false) rfl rfl rfl rfl ?_
            refine L_gn (dj := 47) (t := false) rfl rfl rfl rfl ?_
            refine L_op rfl (X_pick (t := false) (v := (.bool (false))) rfl rfl ?_)
            refine L_op rfl (X_move (v := (.bool (false))) rfl ?_)
            refine L_gn (dj := 52) (t := false) rfl rfl rfl rfl ?_
            refine L_gn (dj := 52) (t := false) rfl rfl rfl rfl ?_
            refine L_gn (dj := 52) (t := false) rfl rfl rfl rfl ?_
            refine L_op rfl (X_pick (t := false) (v := (.bool (false))) rfl rfl ?_)
            refine L_op rfl (X_assign (v := (.bool (false))) rfl ?_)
            refine L_nil ?_
            refine T_n ?_
            refine W_ret ?_
            have hR : ¬ RightT e.2.2 := fun h => by obtain ⟨⟨h1, h2⟩, ⟨h3, h4, h5, h6⟩ | ⟨h3, h4, h5, h6, h7⟩⟩ := h; (· omega); (· omega)
            exact BQ_r (End_1 Tryd.results24 (v := .bool false) rfl ⟨by rw [decide_eq_false hR], hU.own hn0⟩)
        · refine L_op rfl (X_cmp (k := .u8) (a := e.2.2.2.2.1.1) (b := 3) (r := false) rfl rfl rfl (decide_eq_false (p := ((e.2.2.2.2.1.1) : Int) = ((3) : Int)) (by omega)) ?_)
          refine L_op rfl (X_move (v := (.bool (false))) rfl ?_)
          refine L_gn (dj := 36) (t := false) rfl rfl rfl rfl ?_
          refine L_gn (dj := 36) (t := false) rfl rfl rfl rfl ?_
          refine L_gn (dj := 36) (t := false) rfl rfl rfl rfl ?_
          refine L_gn (dj := 36) (t := false) rfl rfl rfl rfl ?_
          refine L_op rfl (X_pick (t := false) (v := (.bool (false))) rfl rfl ?_)
          refine L_op rfl (X_move (v := (.bool (false))) rfl ?_)
          refine L_gn (dj := 42) (t := false) rfl rfl rfl rfl ?_
          refine L_gn (dj := 42) (t := false) rfl rfl rfl rfl ?_
          refine L_gn (dj := 42) (t := false) rfl rfl rfl rfl ?_
          refine L_op rfl (X_pick (t := false) (v := (.bool (false))) rfl rfl ?_)
          refine L_op rfl (X_move (v := (.bool (false))) rfl ?_)
          refine L_gn (dj := 47) (t := false) rfl rfl rfl rfl ?_
          refine L_gn (dj := 47) (t := false) rfl rfl rfl rfl ?_
          refine L_gn (dj := 47) (t := false) rfl rfl rfl rfl ?_
          refine L_op rfl (X_pick (t := false) (v := (.bool (false))) rfl rfl ?_)
          refine L_op rfl (X_move (v := (.bool (false))) rfl ?_)
          refine L_gn (dj := 52) (t := false) rfl rfl rfl rfl ?_
          refine L_gn (dj := 52) (t := false) rfl rfl rfl rfl ?_
          refine L_gn (dj := 52) (t := false) rfl rfl rfl rfl ?_
          refine L_op rfl (X_pick (t := false) (v := (.bool (false))) rfl rfl ?_)
          refine L_op rfl (X_assign (v := (.bool (false))) rfl ?_)
          refine L_nil ?_
          refine T_n ?_
          refine W_ret ?_
          have hR : ¬ RightT e.2.2 := fun h => by obtain ⟨⟨h1, h2⟩, ⟨h3, h4, h5, h6⟩ | ⟨h3, h4, h5, h6, h7⟩⟩ := h; (· omega); (· omega)
          exact BQ_r (End_1 Tryd.results24 (v := .bool false) rfl ⟨by rw [decide_eq_false hR], hU.own hn0⟩)

theorem c_rightI (l : Value) (es : List IE) (w : World) (lo up : Nat) (hup : up ≤ w.heap.size) (hl : NRd LT w lo up l es) (hpt : ∀ e ∈ es, ItOk e.2.2) : CT Tryd.prog 14 #[l] w fun v w' => v = .bool (decide (RightI (dsI es))) ∧ Ext w w' := by
  obtain ⟨n0, hn0⟩ : ∃ n, n = w.heap.size := ⟨_, rfl⟩
  have hU : Upd (fun i => n0 ≤ i) w w := Upd.refl _ _
  have hmx := hl.sv.len
  rw [← hn0] at hup
  refine CT_of Tryd.func14 rfl rfl rfl ?_
  refine W_seq ?_
  refine W_reg ?_
  refine L_op rfl (X_assign (v := (.bool (false))) rfl ?_)
  refine L_nil ?_
  refine T_n ?_
  refine W_seq ?_
  refine W_seq ?_
  refine W_reg ?_
  refine L_op rfl (X_move (v := l) rfl ?_)
  refine L_op rfl (X_len (v := l) (n := es.length) Tryd.underlying22 rfl hl.sv ?_)
  refine L_op rfl (X_move (v := (.int .i64 (0))) rfl ?_)
  refine L_nil ?_
  refine T_n ?_
  refine W_block ?_
  refine W_loop (α := Nat) [2, 3, 4, 7, 8, 9, 10, 11, 12, 13, 14, 15, 16, 17, 18, 19, 20, 21, 22, 23, 24, 25, 26, 27, 28, 29, 30, 31] (fun i => [(7, (.int .i64 (((i : Nat) : Int))))]) (fun i w_ => i ≤ es.length ∧ NRd LT w_ lo up l es ∧ (∀ j, j < i → StepI (dsI es) j) ∧ Upd (fun i => n0 ≤ i) w w_) (fun i => es.length - i) ⟨rfl, 0, ⟨Nat.zero_le _, hl, fun j h => absurd h (Nat.not_lt_zero j), hU⟩, Out.refl _ _, ⟨rfl, trivial⟩⟩ ?_
  rintro i w1 _ ⟨hil, hl, hz, hU⟩
  have hsz_ := hU.size
  refine W_seq ?_
  refine W_reg ?_
  by_cases hc2 : (((i : Nat) : Int) : Int) < (((es.length : Nat) : Int))
  · refine L_op rfl (X_cmp (k := .i64) (a := ((i : Nat) : Int)) (b := ((es.length : Nat) : Int)) (r := true) rfl rfl rfl (decide_eq_true (p := ((((i : Nat) : Int)) : Int) < ((((es.length : Nat) : Int)) : Int)) (by omega)) ?_)
    have hi : i < es.length := by omega
    obtain ⟨e, hei⟩ : ∃ e, es[i]? = some e := ⟨_, List.getElem?_eq_getElem hi⟩
    have hkl := (irdk hl hei).len
    have hvl := (irdv hl hei).len
    obtain ⟨c, hci⟩ : ∃ c, es[i - 1]? = some c := ⟨_, List.getElem?_eq_getElem (by omega)⟩
    have hst : StepI (dsI es) i ↔ RightT e.2.2 ∧ (0 < i → Op.bytesLess c.2.2.1 e.2.2.1 = true) := by unfold StepI; rw [dT_at hei, dT_at hci]
    refine L_nil ?_
    refine T_n ?_
    refine W_seq ?_
    refine W_ct rfl ?_
    refine W_skip ?_
    refine T_n ?_
    refine W_seq ?_
    refine W_block ?_
    refine W_seq ?_
    refine W_reg ?_
    refine L_op rfl (X_move (v := (.int .i64 (((i : Nat) : Int)))) rfl ?_)
    refine L_op rfl (X_idx (v := l) (n := es.length) (k := .i64) (i := ((i : Nat) : Int)) S22 rfl hl.sv rfl (by omega) (by omega) ?_)
    refine L_op rfl (X_loadA (xs := itC e) A43 rfl (iall hl (Int.toNat_natCast _) hei) rfl ?_)
    refine L_op rfl (X_alloc (z := (.agg #[(.slice none 0 0), (.slice none 0 0), (.int .u8 (0)), (.int .u16 (0)), (.int .u16 (0)), (.int .u32 (0)), (.int .u64 (0)), (.int .u16 (0))])) (c := #[(.slice none 0 0), (.slice none 0 0), (.int .u8 (0)), (.int .u16 (0)), (.int .u16 (0)), (.int .u32 (0)), (.int .u64 (0)), (.int .u16 (0))]) Zv43 rfl ?_)
    intro b3 w3 hn3
    have hbn3 := hn3.num; have hbs3 := hn3.size
    replace hl := hl.ext hn3.ext
    replace hU := hU.trans (Ext.upd hn3.ext)
    have hB3 := hn3.blk
    refine L_op rfl (X_assign (v := (.int .i64 (((i : Nat) : Int)))) rfl ?_)
    refine L_op0 (X_storeW (b := b3) (ys := itC e) A43 rfl rfl (ione hl hei) rfl hB3 rfl ?_)
    intro w4 hu4 hb4
    have hz4 := hu4.size
    replace hl := hl.upd hu4 fun i h1 h2 h => by have h : i = b3 := h; omega
    replace hU := hU.trans (hu4.mono fun i _ h => by have h : i = b3 := h; show n0 ≤ i; omega)
    replace hB3 := hb4
    refine L_nil ?_
    refine T_n ?_
    refine W_seq ?_
    rcases Bool.eq_false_or_eq_true (decide (RightT e.2.2)) with hs5 | hs5
    · rcases Bool.eq_false_or_eq_true (decide (0 < i)) with hs6 | hs6
      · rcases Bool.eq_false_or_eq_true (Op.bytesLess c.2.2.1 e.2.2.1) with hs7 | hs7
        · have hg0 := of_decide_eq_true hs6
          have hcm := cmp_lt hs7
          refine W_draw 15 [[], [0], [0, 1], [0, 1, 2], [0, 1, 2, 3], [0, 1, 2, 3, 4], [0, 1, 2, 3, 4, 5], [0, 1, 2, 3, 4, 5, 6], [0, 1, 2, 3, 4, 5, 6], [0, 1, 2, 3, 4, 5, 6, 8], [0, 1, 2, 3, 4, 5, 6, 7, 8, 9], [0, 1, 2, 3, 4, 5, 6, 7, 8, 9, 10], [0, 1, 2, 3, 4, 5, 6, 7, 8, 9, 10, 11], [0, 1, 2, 3, 4, 5, 6], [0, 1, 2, 3, 4, 5, 6, 13], [0, 1, 2, 3, 4, 5, 6, 7, 8, 9, 10, 11, 12, 13, 14], [0, 1, 2, 3, 4, 5, 6, 7, 8, 9, 10, 11, 12, 13, 14, 15], [0, 1, 2, 3, 4, 5, 6, 7, 8, 9, 10, 11, 12, 13, 14, 15, 16], [0, 1, 2, 3, 4, 5, 6, 7, 8, 9, 10, 11, 12, 13, 14, 15, 16, 17]] mixed (by kernel_rfl) ?_
          refine ⟨.det (fun val => (.agg (itC e).toArray)), ⟨fun _ _ hv => rfl, fun _ _ _ _ _ => trivial⟩, fun val h_ W hx he => ⟨trivial, ?_⟩, ?_⟩
          · replace hx := (Upd.drew _ _).trans hx
            replace hl := hl.ext hx
            replace hB3 := hB3.ext hx
            have hE := Upd.refl (fun _ => False) W
            refine id (X_loadA (p := (ptr b3 (0))) (xs := itC e) A43 rfl hB3.atAll rfl ?_)
            exact ⟨hE, rfl⟩
          refine ⟨.det (fun _ => .bool true), ⟨fun _ _ _ => rfl, fun _ _ _ _ _ => trivial⟩, fun val h_ W hx he => ⟨trivial, ?_⟩, ?_⟩
          · replace hx := (Upd.drew _ _).trans hx
            replace hl := hl.ext hx
            replace hB3 := hB3.ext hx
            have hE := Upd.refl (fun _ => False) W
            refine X_fn (vs := [.agg (itC e).toArray]) en27 rfl (CT.mono (c_rightT e _ (irdk hl hei).sv (irdv hl hei).sv (hpt e (List.mem_of_getElem? hei)).1) ?_)
            rintro _ w9 ⟨rfl, hu9⟩
            exact ⟨hu9, by rw [hs5]⟩
          refine ⟨.det (fun val => (.bool (false))), ⟨fun _ _ hv => rfl, fun _ _ _ _ _ => trivial⟩, fun val h_ W hx he => ⟨trivial, ?_⟩, ?_⟩
          · replace hx := (Upd.drew _ _).trans hx
            replace hl := hl.ext hx
            replace hB3 := hB3.ext hx
            have hE := Upd.refl (fun _ => False) W
            refine id (X_not (b := true) (r := false) rfl rfl ?_)
            exact ⟨hE, rfl⟩
          refine ⟨.det (fun val => (.bool (false))), ⟨fun _ _ hv => rfl, fun _ _ _ _ _ => trivial⟩, fun val h_ W hx he => ⟨trivial, ?_⟩, ?_⟩
          · replace hx := (Upd.drew _ _).trans hx
            replace hl := hl.ext hx
            replace hB3 := hB3.ext hx
            have hE := Upd.refl (fun _ => False) W
            refine id (X_move (v := (.bool (false))) rfl ?_)
            exact ⟨hE, rfl⟩
          refine ⟨.det (fun val => (.int .i64 (((i : Nat) : Int)))), ⟨fun _ _ hv => rfl, fun _ _ _ _ _ => trivial⟩, fun val h_ W hx he => ⟨⟨15, rfl, rfl⟩, ?_⟩, ?_⟩
          · replace hx := (Upd.drew _ _).trans hx
            replace hl := hl.ext hx
            replace hB3 := hB3.ext hx
            have hE := Upd.refl (fun _ => False) W
            refine id (X_move (v := (.int .i64 (((i : Nat) : Int)))) rfl ?_)
            exact ⟨hE, rfl⟩
          refine ⟨.det (fun val => (.bool (true))), ⟨fun _ _ hv => rfl, fun _ _ _ _ _ => trivial⟩, fun val h_ W hx he => ⟨⟨15, rfl, rfl⟩, ?_⟩, ?_⟩
          · replace hx := (Upd.drew _ _).trans hx
            replace hl := hl.ext hx
            replace hB3 := hB3.ext hx
            have hE := Upd.refl (fun _ => False) W
            refine id (X_cmp (k := .i64) (a := ((i : Nat) : Int)) (b := 0) (r := true) rfl rfl rfl (decide_eq_true (p := ((0) : Int) < ((((i : Nat) : Int)) : Int)) (by omega)) ?_)
            exact ⟨hE, rfl⟩
          refine ⟨.det (fun val => (.bool (true))), ⟨fun _ _ hv => rfl, fun _ _ _ _ _ => trivial⟩, fun val h_ W hx he => ⟨⟨15, rfl, rfl⟩, ?_⟩, ?_⟩
          · replace hx := (Upd.drew _ _).trans hx
            replace hl := hl.ext hx
            replace hB3 := hB3.ext hx
            have hE := Upd.refl (fun _ => False) W
            refine id (X_move (v := (.bool (true))) rfl ?_)
            exact ⟨hE, rfl⟩
          refine ⟨.det (fun val => l), ⟨fun _ _ hv => rfl, fun _ _ _ _ _ => trivial⟩, fun val h_ W hx he => ⟨⟨18, rfl, rfl⟩, ?_⟩, ?_⟩
          · replace hx := (Upd.drew _ _).trans hx
            replace hl := hl.ext hx
            replace hB3 := hB3.ext hx
            have hE := Upd.refl (fun _ => False) W
            refine id (X_move (v := l) rfl ?_)
            exact ⟨hE, rfl⟩
          refine ⟨.det (fun val => (.int .i64 (((i : Nat) : Int)))), ⟨fun _ _ hv => rfl, fun _ _ _ _ _ => trivial⟩, fun val h_ W hx he => ⟨⟨18, rfl, rfl⟩, ?_⟩, ?_⟩
          · replace hx := (Upd.drew _ _).trans hx
            replace hl := hl.ext hx
            replace hB3 := hB3.ext hx
            have hE := Upd.refl (fun _ => False) W
            refine id (X_move (v := (.int .i64 (((i : Nat) : Int)))) rfl ?_)
            exact ⟨hE, rfl⟩
          refine ⟨.det (fun val => (.int .i64 (((i - 1 : Nat) : Int)))), ⟨fun _ _ hv => rfl, fun _ _ _ _ _ => trivial⟩, fun val h_ W hx he => ⟨⟨18, rfl, rfl⟩, ?_⟩, ?_⟩
          · replace hx := (Upd.drew _ _).trans hx
            replace hl := hl.ext hx
            replace hB3 := hB3.ext hx
            have hE := Upd.refl (fun _ => False) W
            refine id (X_arith (k := .i64) (a := ((i : Nat) : Int)) (b := 1) (r := ((i - 1 : Nat) : Int)) rfl rfl rfl (isub64 (by omega) (by omega) (by omega)) ?_)
            exact ⟨hE, rfl⟩
          refine ⟨.det (fun val => (pof l ((((i - 1 : Nat) : Int) : Int).toNat * 8))), ⟨fun _ _ hv => rfl, fun _ _ _ _ _ => trivial⟩, fun val h_ W hx he => ⟨⟨18, rfl, rfl⟩, ?_⟩, ?_⟩
          · replace hx := (Upd.drew _ _).trans hx
            replace hl := hl.ext hx
            replace hB3 := hB3.ext hx
            have hE := Upd.refl (fun _ => False) W
            refine id (X_idx (v := l) (n := es.length) (k := .i64) (i := ((i - 1 : Nat) : Int)) S22 rfl hl.sv rfl (by omega) (by omega) ?_)
            exact ⟨hE, rfl⟩
          refine ⟨.det (fun val => (pof l ((((i - 1 : Nat) : Int) : Int).toNat * 8 + 0))), ⟨fun _ _ hv => rfl, fun _ _ _ _ _ => trivial⟩, fun val h_ W hx he => ⟨⟨18, rfl, rfl⟩, ?_⟩, ?_⟩
          · replace hx := (Upd.drew _ _).trans hx
            replace hl := hl.ext hx
            replace hB3 := hB3.ext hx
            have hE := Upd.refl (fun _ => False) W
            refine id (X_fldS (v := l) (o := (((i - 1 : Nat) : Int) : Int).toNat * 8) Fd43_0 rfl hl.sv (by omega) ?_)
            exact ⟨hE, rfl⟩
          refine ⟨.det (fun val => c.1), ⟨fun _ _ hv => rfl, fun _ _ _ _ _ => trivial⟩, fun val h_ W hx he => ⟨⟨18, rfl, rfl⟩, ?_⟩, ?_⟩
          · replace hx := (Upd.drew _ _).trans hx
            replace hl := hl.ext hx
            replace hB3 := hB3.ext hx
            have hE := Upd.refl (fun _ => False) W
            refine id (X_load (v := c.1) T35 rfl (ikey hl (Int.toNat_natCast _) hci) ?_)
            exact ⟨hE, rfl⟩
          refine ⟨.det (fun val => (ptr b3 (0))), ⟨fun _ _ hv => rfl, fun _ _ _ _ _ => trivial⟩, fun val h_ W hx he => ⟨⟨18, rfl, rfl⟩, ?_⟩, ?_⟩
          · replace hx := (Upd.drew _ _).trans hx
            replace hl := hl.ext hx
            replace hB3 := hB3.ext hx
            have hE := Upd.refl (fun _ => False) W
            refine id (X_fldP (b := b3) (o := 0) (r := 0) Fd43_0 rfl rfl ?_)
            exact ⟨hE, rfl⟩
          refine ⟨.det (fun val => e.1), ⟨fun _ _ hv => rfl, fun _ _ _ _ _ => trivial⟩, fun val h_ W hx he => ⟨⟨18, rfl, rfl⟩, ?_⟩, ?_⟩
          · replace hx := (Upd.drew _ _).trans hx
            replace hl := hl.ext hx
            replace hB3 := hB3.ext hx
            have hE := Upd.refl (fun _ => False) W
            refine id (X_load (p := (ptr b3 (0))) (v := e.1) T35 rfl (hB3.at1 rfl) ?_)
            exact ⟨hE, rfl⟩
          intro val W8 hx8 he8
          replace hx8 := (Upd.drew _ _).trans hx8
          have hz8 := hx8.size
          replace hl := hl.ext hx8
          replace hU := hU.trans (Ext.upd hx8)
          replace hB3 := hB3.ext hx8
          refine L_gy (dj := 18) rfl rfl rfl (X_fn (vs := [c.1, e.1]) en28 rfl (CT.mono (c_compare c.1 e.1 c.2.2.1 e.2.2.1 _ (irdk hl hci) (irdk hl hei)) ?_))
          rintro _ _ ⟨rfl, rfl⟩
          refine L_gy (dj := 18) rfl rfl rfl (X_cmp (k := .i64) (a := cmpB c.2.2.1 e.2.2.1) (b := 0) (r := false) rfl rfl rfl (decide_eq_false (p := ((0) : Int) ≤ ((cmpB c.2.2.1 e.2.2.1) : Int)) (by omega)) ?_)
          refine L_gy (dj := 15) rfl rfl rfl (X_pick (t := true) (v := (.bool (false))) rfl rfl ?_)
          refine L_op rfl (X_pick (t := false) (v := (.bool (false))) rfl rfl ?_)
          refine L_nil ?_
          refine T_n ?_
          refine W_cf rfl ?_
          refine W_skip ?_
          refine B_n ?_
          refine T_n ?_
          refine W_reg ?_
          refine L_op rfl (X_arith (k := .i64) (a := ((i : Nat) : Int)) (b := 1) (r := ((i + 1 : Nat) : Int)) rfl rfl rfl (iadd64 (by omega) (by omega) (by omega)) ?_)
          refine L_op rfl (X_move (v := (.int .i64 (((i + 1 : Nat) : Int)))) rfl ?_)
          refine L_nil ?_
          refine T_n ?_
          exact ⟨rfl, i + 1, ⟨⟨hi, hl, fun j hj => (Nat.lt_or_ge j i).elim (hz j) fun h1 => by obtain rfl : j = i := by { omega }; exact hst.2 ⟨of_decide_eq_true hs5, fun _ => hs7⟩, hU⟩, (by show es.length - (i + 1) < es.length - i; omega)⟩, (Out.mk rfl), ⟨rfl, trivial⟩⟩
        · have hg0 := of_decide_eq_true hs6
          have hcm := cmp_ge hs7
          refine W_draw 15 [[], [0], [0, 1], [0, 1, 2], [0, 1, 2, 3], [0, 1, 2, 3, 4], [0, 1, 2, 3, 4, 5], [0, 1, 2, 3, 4, 5, 6], [0, 1, 2, 3, 4, 5, 6], [0, 1, 2, 3, 4, 5, 6, 8], [0, 1, 2, 3, 4, 5, 6, 7, 8, 9], [0, 1, 2, 3, 4, 5, 6, 7, 8, 9, 10], [0, 1, 2, 3, 4, 5, 6, 7, 8, 9, 10, 11], [0, 1, 2, 3, 4, 5, 6], [0, 1, 2, 3, 4, 5, 6, 13], [0, 1, 2, 3, 4, 5, 6, 7, 8, 9, 10, 11, 12, 13, 14], [0, 1, 2, 3, 4, 5, 6, 7, 8, 9, 10, 11, 12, 13, 14, 15], [0, 1, 2, 3, 4, 5, 6, 7, 8, 9, 10, 11, 12, 13, 14, 15, 16], [0, 1, 2, 3, 4, 5, 6, 7, 8, 9, 10, 11, 12, 13, 14, 15, 16, 17]] mixed (by kernel_rfl) ?_
          refine ⟨.det (fun val => (.agg (itC e).toArray)), ⟨fun _ _ hv => rfl, fun _ _ _ _ _ => trivial⟩, fun val h_ W hx he => ⟨trivial, ?_⟩, ?_⟩
          · replace hx := (Upd.drew _ _).trans hx
            replace hl := hl.ext hx
            replace hB3 := hB3.ext hx
            have hE := Upd.refl (fun _ => False) W
            refine id (X_loadA (p := (ptr b3 (0))) (xs := itC e) A43 rfl hB3.atAll rfl ?_)
            exact ⟨hE, rfl⟩
          refine ⟨.det (fun _ => .bool true), ⟨fun _ _ _ => rfl, fun _ _ _ _ _ => trivial⟩, fun val h_ W hx he => ⟨trivial, ?_⟩, ?_⟩
          · replace hx := (Upd.drew _ _).trans hx
            replace hl := hl.ext hx
            replace hB3 := hB3.ext hx
            have hE := Upd.refl (fun _ => False) W
            refine X_fn (vs := [.agg (itC e).toArray]) en27 rfl (CT.mono (c_rightT e _ (irdk hl hei).sv (irdv hl hei).sv (hpt e (List.mem_of_getElem? hei)).1) ?_)
            rintro _ w9 ⟨rfl, hu9⟩
            exact ⟨hu9, by rw [hs5]⟩
          refine ⟨.det (fun val => (.bool (false))), ⟨fun _ _ hv => rfl, fun _ _ _ _ _ => trivial⟩, fun val h_ W hx he => ⟨trivial, ?_⟩, ?_⟩
          · replace hx := (Upd.drew _ _).trans hx
            replace hl := hl.ext hx
            replace hB3 := hB3.ext hx
            have hE := Upd.refl (fun _ => False) W
            refine id (X_not (b := true) (r := false) rfl rfl ?_)
            exact ⟨hE, rfl⟩
          refine ⟨.det (fun val => (.bool (false))), ⟨fun _ _ hv => rfl, fun _ _ _ _ _ => trivial⟩, fun val h_ W hx he => ⟨trivial, ?_⟩, ?_⟩
          · replace hx := (Upd.drew _ _).trans hx
            replace hl := hl.ext hx
            replace hB3 := hB3.ext hx
            have hE := Upd.refl (fun _ => False) W
            refine id (X_move (v := (.bool (false))) rfl ?_)
            exact ⟨hE, rfl⟩
          refine ⟨.det (fun val => (.int .i64 (((i : Nat) : Int)))), ⟨fun _ _ hv => rfl, fun _ _ _ _ _ => trivial⟩, fun val h_ W hx he => ⟨⟨15, rfl, rfl⟩, ?_⟩, ?_⟩
          · replace hx := (Upd.drew _ _).trans hx
            replace hl := hl.ext hx
            replace hB3 := hB3.ext hx
            have hE := Upd.refl (fun _ => False) W
            refine id (X_move (v := (.int .i64 (((i : Nat) : Int)))) rfl ?_)
            exact ⟨hE, rfl⟩
          refine ⟨.det (fun val => (.bool (true))), ⟨fun _ _ hv => rfl, fun _ _ _ _ _ => trivial⟩, fun val h_ W hx he => ⟨⟨15, rfl, rfl⟩, ?_⟩, ?_⟩
          · replace hx := (Upd.drew _ _).trans hx
            replace hl := hl.ext hx
            replace hB3 := hB3.ext hx
            have hE := Upd.refl (fun _ => False) W
            refine id (X_cmp (k := .i64) (a := ((i : Nat) : Int)) (b := 0) (r := true) rfl rfl rfl (decide_eq_true (p := ((0) : Int) < ((((i : Nat) : Int)) : Int)) (by omega)) ?_)
            exact ⟨hE, rfl⟩
          refine ⟨.det (fun val => (.bool (true))), ⟨fun _ _ hv => rfl, fun _ _ _ _ _ => trivial⟩, fun val h_ W hx he => ⟨⟨15, rfl, rfl⟩, ?_⟩, ?_⟩
          · replace hx := (Upd.drew _ _).trans hx
            replace hl := hl.ext hx
            replace hB3 := hB3.ext hx
            have hE := Upd.refl (fun _ => False) W
            refine id (X_move (v := (.bool (true))) rfl ?_)
            exact ⟨hE, rfl⟩
          refine ⟨.det (fun val => l), ⟨fun _ _ hv => rfl, fun _ _ _ _ _ => trivial⟩, fun val h_ W hx he => ⟨⟨18, rfl, rfl⟩, ?_⟩, ?_⟩
          · replace hx := (Upd.drew _ _).trans hx
            replace hl := hl.ext hx
            replace hB3 := hB3.ext hx
            have hE := Upd.refl (fun _ => False) W
            refine id (X_move (v := l) rfl ?_)
            exact ⟨hE, rfl⟩
          refine ⟨.det (fun val => (.int .i64 (((i : Nat) : Int)))), ⟨fun _ _ hv => rfl, fun _ _ _ _ _ => trivial⟩, fun val h_ W hx he => ⟨⟨18, rfl, rfl⟩, ?_⟩, ?_⟩
          · replace hx := (Upd.drew _ _).trans hx
            replace hl := hl.ext hx
            replace hB3 := hB3.ext hx
            have hE := Upd.refl (fun _ => False) W
            refine id (X_move (v := (.int .i64 (((i : Nat) : Int)))) rfl ?_)
            exact ⟨hE, rfl⟩
          refine ⟨.det (fun val => (.int .i64 (((i - 1 : Nat) : Int)))), ⟨fun _ _ hv => rfl, fun _ _ _ _ _ => trivial⟩, fun val h_ W hx he => ⟨⟨18, rfl, rfl⟩, ?_⟩, ?_⟩
          · replace hx := (Upd.drew _ _).trans hx
            replace hl := hl.ext hx
            replace hB3 := hB3.ext hx
            have hE := Upd.refl (fun _ => False) W
            refine id (X_arith (k := .i64) (a := ((i : Nat) : Int)) (b := 1) (r := ((i - 1 : Nat) : Int)) rfl rfl rfl (isub64 (by omega) (by omega) (by omega)) ?_)
            exact ⟨hE, rfl⟩
          refine ⟨.det (fun val => (pof l ((((i - 1 : Nat) : Int) : Int).toNat * 8))), ⟨fun _ _ hv => rfl, fun _ _ _ _ _ => trivial⟩, fun val h_ W hx he => ⟨⟨18, rfl, rfl⟩, ?_⟩, ?_⟩
          · replace hx := (Upd.drew _ _).trans hx
            replace hl := hl.ext hx
            replace hB3 := hB3.ext hx
            have hE := Upd.refl (fun _ => False) W
            refine id (X_idx (v := l) (n := es.length) (k := .i64) (i := ((i - 1 : Nat) : Int)) S22 rfl hl.sv rfl (by omega) (by omega) ?_)
            exact ⟨hE, rfl⟩
          refine ⟨.det (fun val => (pof l ((((i - 1 : Nat) : Int) : Int).toNat * 8 + 0))), ⟨fun _ _ hv => rfl, fun _ _ _ _ _ => trivial⟩, fun val h_ W hx he => ⟨⟨18, rfl, rfl⟩, ?_⟩, ?_⟩
          · replace hx := (Upd.drew _ _).trans hx
            replace hl := hl.ext hx
            replace hB3 := hB3.ext hx
            have hE := Upd.refl (fun _ => False) W
            refine id (X_fldS (v := l) (o := (((i - 1 : Nat) : Int) : Int).toNat * 8) Fd43_0 rfl hl.sv (by omega) ?_)
            exact ⟨hE, rfl⟩
          refine ⟨.det (fun val => c.1), ⟨fun _ _ hv => rfl, fun _ _ _ _ _ => trivial⟩, fun val h_ W hx he => ⟨⟨18, rfl, rfl⟩, ?_⟩, ?_⟩
          · replace hx := (Upd.drew _ _).trans hx
            replace hl := hl.ext hx
            replace hB3 := hB3.ext hx
            have hE := Upd.refl (fun _ => False) W
            refine id (X_load (v := c.1) T35 rfl (ikey hl (Int.toNat_natCast _) hci) ?_)
            exact ⟨hE, rfl⟩
          refine ⟨.det (fun val => (ptr b3 (0))), ⟨fun _ _ hv => rfl, fun _ _ _ _ _ => trivial⟩, fun val h_ W hx he => ⟨⟨18, rfl, rfl⟩, ?_⟩, ?_⟩
          · replace hx := (Upd.drew _ _).trans hx
            replace hl := hl.ext hx
            replace hB3 := hB3.ext hx
            have hE := Upd.refl (fun _ => False) W
            refine id (X_fldP (b := b3) (o := 0) (r := 0) Fd43_0 rfl rfl ?_)
            exact ⟨hE, rfl⟩
          refine ⟨.det (fun val => e.1), ⟨fun _ _ hv => rfl, fun _ _ _ _ _ => trivial⟩, fun val h_ W hx he => ⟨⟨18, rfl, rfl⟩, ?_⟩, ?_⟩
          · replace hx := (Upd.drew _ _).trans hx
            replace hl := hl.ext hx
            replace hB3 := hB3.ext hx
            have hE := Upd.refl (fun _ => False) W
            refine id (X_load (p := (ptr b3 (0))) (v := e.1) T35 rfl (hB3.at1 rfl) ?_)
            exact ⟨hE, rfl⟩
          intro val W10 hx10 he10
          replace hx10 := (Upd.drew _ _).trans hx10
          have hz10 := hx10.size
          replace hl := hl.ext hx10
          replace hU := hU.trans (Ext.upd hx10)
          replace hB3 := hB3.ext hx10
          refine L_gy (dj := 18) rfl rfl rfl (X_fn (vs := [c.1, e.1]) en28 rfl (CT.mono (c_compare c.1 e.1 c.2.2.1 e.2.2.1 _ (irdk hl hci) (irdk hl hei)) ?_))
          rintro _ _ ⟨rfl, rfl⟩
          refine L_gy (dj := 18) rfl rfl rfl (X_cmp (k := .i64) (a := cmpB c.2.2.1 e.2.2.1) (b := 0) (r := true) rfl rfl rfl (decide_eq_true (p := ((0) : Int) ≤ ((cmpB c.2.2.1 e.2.2.1) : Int)) (by omega)) ?_)
          refine L_gy (dj := 15) rfl rfl rfl (X_pick (t := true) (v := (.bool (true))) rfl rfl ?_)
          refine L_op rfl (X_pick (t := false) (v := (.bool (true))) rfl rfl ?_)
          refine L_nil ?_
          refine T_n ?_
          refine W_ct rfl ?_
          refine W_seq ?_
          refine W_reg ?_
          refine L_op rfl (X_assign (v := (.bool (false))) rfl ?_)
          refine L_nil ?_
          refine T_n ?_
          refine W_ret ?_
          refine B_r ?_
          refine T_r ?_
          refine T_r ?_
          refine B_r ?_
          refine T_r ?_
          have hR : ¬ RightI (dsI es) := fun h => by obtain ⟨h1, h2⟩ := hst.1 (h.2 i (by rw [dsI_len]; exact hi)); have h3 := h2 (by omega); rw [show Op.bytesLess c.2.2.1 e.2.2.1 = false from hs7] at h3; cases h3
          exact BQ_r (End_1 Tryd.results14 (v := .bool false) rfl ⟨by rw [decide_eq_false hR], hU.own hn0⟩)
      · have hg0 := of_decide_eq_false hs6
        refine W_draw 15 [[], [0], [0, 1], [0, 1, 2], [0, 1, 2, 3], [0, 1, 2, 3, 4], [0, 1, 2, 3, 4, 5], [0, 1, 2, 3, 4, 5, 6], [0, 1, 2, 3, 4, 5, 6], [0, 1, 2, 3, 4, 5, 6, 8], [0, 1, 2, 3, 4, 5, 6, 7, 8, 9], [0, 1, 2, 3, 4, 5, 6, 7, 8, 9, 10], [0, 1, 2, 3, 4, 5, 6, 7, 8, 9, 10, 11], [0, 1, 2, 3, 4, 5, 6], [0, 1, 2, 3, 4, 5, 6, 13], [0, 1, 2, 3, 4, 5, 6, 7, 8, 9, 10, 11, 12, 13, 14], [0, 1, 2, 3, 4, 5, 6, 7, 8, 9, 10, 11, 12, 13, 14, 15], [0, 1, 2, 3, 4, 5, 6, 7, 8, 9, 10, 11, 12, 13, 14, 15, 16], [0, 1, 2, 3, 4, 5, 6, 7, 8, 9, 10, 11, 12, 13, 14, 15, 16, 17]] mixed (by kernel_rfl) ?_
        refine ⟨.det (fun val => (.agg (itC e).toArray)), ⟨fun _ _ hv => rfl, fun _ _ _ _ _ => trivial⟩, fun val h_ W hx he => ⟨trivial, ?_⟩, ?_⟩
        · replace hx := (Upd.drew _ _).trans hx
          replace hl := hl.ext hx
          replace hB3 := hB3.ext hx
          have hE := Upd.refl (fun _ => False) W
          refine id (X_loadA (p := (ptr b3 (0))) (xs := itC e) A43 rfl hB3.atAll rfl ?_)
          exact ⟨hE, rfl⟩
        refine ⟨.det (fun _ => .bool true), ⟨fun _ _ _ => rfl, fun _ _ _ _ _ => trivial⟩, fun val h_ W hx he => ⟨trivial, ?_⟩, ?_⟩
        · replace hx := (Upd.drew _ _).trans hx
          replace hl := hl.ext hx
          replace hB3 := hB3.ext hx
          have hE := Upd.refl (fun _ => False) W
          refine X_fn (vs := [.agg (itC e).toArray]) en27 rfl (CT.mono (c_rightT e _ (irdk hl hei).sv (irdv hl hei).sv (hpt e (List.mem_of_getElem? hei)).1) ?_)
          rintro _ w9 ⟨rfl, hu9⟩
          exact ⟨hu9, by rw [hs5]⟩
        refine ⟨.det (fun val => (.bool (false))), ⟨fun _ _ hv => rfl, fun _ _ _ _ _ => trivial⟩, fun val h_ W hx he => ⟨trivial, ?_⟩, ?_⟩
        · replace hx := (Upd.drew _ _).trans hx
          replace hl := hl.ext hx
          replace hB3 := hB3.ext hx
          have hE := Upd.refl (fun _ => False) W
          refine id (X_not (b := true) (r := false) rfl rfl ?_)
          exact ⟨hE, rfl⟩
        refine ⟨.det (fun val => (.bool (false))), ⟨fun _ _ hv => rfl, fun _ _ _ _ _ => trivial⟩, fun val h_ W hx he => ⟨trivial, ?_⟩, ?_⟩
        · replace hx := (Upd.drew _ _).trans hx
          replace hl := hl.ext hx
          replace hB3 := hB3.ext hx
          have hE := Upd.refl (fun _ => False) W
          refine id (X_move (v := (.bool (false))) rfl ?_)
          exact ⟨hE, rfl⟩
        refine ⟨.det (fun val => (.int .i64 (((i : Nat) : Int)))), ⟨fun _ _ hv => rfl, fun _ _ _ _ _ => trivial⟩, fun val h_ W hx he => ⟨⟨15, rfl, rfl⟩, ?_⟩, ?_⟩
        · replace hx := (Upd.drew _ _).trans hx
          replace hl := hl.ext hx
          replace hB3 := hB3.ext hx
          have hE := Upd.refl (fun _ => False) W
          refine id (X_move (v := (.int .i64 (((i : Nat) : Int)))) rfl ?_)
          exact ⟨hE, rfl⟩
        refine ⟨.det (fun val => (.bool (false))), ⟨fun _ _ hv => rfl, fun _ _ _ _ _ => trivial⟩, fun val h_ W hx he => ⟨⟨15, rfl, rfl⟩, ?_⟩, ?_⟩
        · replace hx := (Upd.drew _ _).trans hx
          replace hl := hl.ext hx
          replace hB3 := hB3.ext hx
          have hE := Upd.refl (fun _ => False) W
          refine id (X_cmp (k := .i64) (a := ((i : Nat) : Int)) (b := 0) (r := false) rfl rfl rfl (decide_eq_false (p := ((0) : Int) < ((((i : Nat) : Int)) : Int)) (by omega)) ?_)
          exact ⟨hE, rfl⟩
        refine ⟨.det (fun val => (.bool (false))), ⟨fun _ _ hv => rfl, fun _ _ _ _ _ => trivial⟩, fun val h_ W hx he => ⟨⟨15, rfl, rfl⟩, ?_⟩, ?_⟩
        · replace hx := (Upd.drew _ _).trans hx
          replace hl := hl.ext hx
          replace hB3 := hB3.ext hx
          have hE := Upd.refl (fun _ => False) W
          refine id (X_move (v := (.bool (false))) rfl ?_)
          exact ⟨hE, rfl⟩
        refine ⟨.no, ⟨fun _ _ _ => trivial, fun _ _ _ _ _ => trivial⟩, fun val h_ W hx he => ⟨18, rfl, .inl rfl⟩, ?_⟩
        refine ⟨.no, ⟨fun _ _ _ => trivial, fun _ _ _ _ _ => trivial⟩, fun val h_ W hx he => ⟨18, rfl, .inl rfl⟩, ?_⟩
        refine ⟨.no, ⟨fun _ _ _ => trivial, fun _ _ _ _ _ => trivial⟩, fun val h_ W hx he => ⟨18, rfl, .inl rfl⟩, ?_⟩
        refine ⟨.no, ⟨fun _ _ _ => trivial, fun _ _ _ _ _ => trivial⟩, fun val h_ W hx he => ⟨18, rfl, .inl rfl⟩, ?_⟩
        refine ⟨.no, ⟨fun _ _ _ => trivial, fun _ _ _ _ _ => trivial⟩, fun val h_ W hx he => ⟨18, rfl, .inl rfl⟩, ?_⟩
        refine ⟨.no, ⟨fun _ _ _ => trivial, fun _ _ _ _ _ => trivial⟩, fun val h_ W hx he => ⟨18, rfl, .inl rfl⟩, ?_⟩
        refine ⟨.no, ⟨fun _ _ _ => trivial, fun _ _ _ _ _ => trivial⟩, fun val h_ W hx he => ⟨18, rfl, .inl rfl⟩, ?_⟩
        refine ⟨.no, ⟨fun _ _ _ => trivial, fun _ _ _ _ _ => trivial⟩, fun val h_ W hx he => ⟨18, rfl, .inl rfl⟩, ?_⟩
        intro val W12 hx12 he12
        replace hx12 := (Upd.drew _ _).trans hx12
        have hz12 := hx12.size
        replace hl := hl.ext hx12
        replace hU := hU.trans (Ext.upd hx12)
        replace hB3 := hB3.ext hx12
        refine L_gn (dj := 18) (t := false) rfl rfl rfl rfl ?_
        refine L_gn (dj := 18) (t := false) rfl rfl rfl rfl ?_
        refine L_gy (dj := 15) rfl rfl rfl (X_pick (t := false) (v := (.bool (false))) rfl rfl ?_)
        refine L_op rfl (X_pick (t := false) (v := (.bool (false))) rfl rfl ?_)
        refine L_nil ?_
        refine T_n ?_
        refine W_cf rfl ?_
        refine W_skip ?_
        refine B_n ?_
        refine T_n ?_
        refine W_reg ?_
        refine L_op rfl (X_arith (k := .i64) (a := ((i : Nat) : Int)) (b := 1) (r := ((i + 1 : Nat) : Int)) rfl rfl rfl (iadd64 (by omega) (by omega) (by omega)) ?_)
        refine L_op rfl (X_move (v := (.int .i64 (((i + 1 : Nat) : Int)))) rfl ?_)
        refine L_nil ?_
        refine T_n ?_
        exact ⟨rfl, i + 1, ⟨⟨hi, hl, fun j hj => (Nat.lt_or_ge j i).elim (hz j) fun h1 => by obtain rfl : j = i := by { omega }; exact hst.2 ⟨of_decide_eq_true hs5, fun hp => absurd hp (by omega)⟩, hU⟩, (by show es.length - (i + 1) < es.length - i; omega)⟩, (Out.mk rfl), ⟨rfl, trivial⟩⟩
    · refine W_draw 15 [[], [0], [0, 1], [0, 1, 2], [0, 1, 2, 3], [0, 1, 2, 3, 4], [0, 1, 2, 3, 4, 5], [0, 1, 2, 3, 4, 5, 6], [0, 1, 2, 3, 4, 5, 6], [0, 1, 2, 3, 4, 5, 6, 8], [0, 1, 2, 3, 4, 5, 6, 7, 8, 9], [0, 1, 2, 3, 4, 5, 6, 7, 8, 9, 10], [0, 1, 2, 3, 4, 5, 6, 7, 8, 9, 10, 11], [0, 1, 2, 3, 4, 5, 6], [0, 1, 2, 3, 4, 5, 6, 13], [0, 1, 2, 3, 4, 5, 6, 7, 8, 9, 10, 11, 12, 13, 14], [0, 1, 2, 3, 4, 5, 6, 7, 8, 9, 10, 11, 12, 13, 14, 15], [0, 1, 2, 3, 4, 5, 6, 7, 8, 9, 10, 11, 12, 13, 14, 15, 16], [0, 1, 2, 3, 4, 5, 6, 7, 8, 9, 10, 11, 12, 13, 14, 15, 16, 17]] mixed (by kernel_rfl) ?_
      refine ⟨.det (fun val => (.agg (itC e).toArray)), ⟨fun _ _ hv => rfl, fun _ _ _ _ _ => trivial⟩, fun val h_ W hx he => ⟨trivial, ?_⟩, ?_⟩
      · replace hx := (Upd.drew _ _).trans hx
        replace hl := hl.ext hx
        replace hB3 := hB3.ext hx
        have hE := Upd.refl (fun _ => False) W
        refine id (X_loadA (p := (ptr b3 (0))) (xs := itC e) A43 rfl hB3.atAll rfl ?_)
        exact ⟨hE, rfl⟩
      refine ⟨.det (fun _ => .bool false), ⟨fun _ _ _ => rfl, fun _ _ _ _ _ => trivial⟩, fun val h_ W hx he => ⟨trivial, ?_⟩, ?_⟩
      · replace hx := (Upd.drew _ _).trans hx
        replace hl := hl.ext hx
        replace hB3 := hB3.ext hx
        have hE := Upd.refl (fun _ => False) W
        refine X_fn (vs := [.agg (itC e).toArray]) en27 rfl (CT.mono (c_rightT e _ (irdk hl hei).sv (irdv hl hei).sv (hpt e (List.mem_of_getElem? hei)).1) ?_)
        rintro _ w9 ⟨rfl, hu9⟩
        exact ⟨hu9, by rw [hs5]⟩
      refine ⟨.det (fun val => (.bool (true))), ⟨fun _ _ hv => rfl, fun _ _ _ _ _ => trivial⟩, fun val h_ W hx he => ⟨trivial, ?_⟩, ?_⟩
      · replace hx := (Upd.drew _ _).trans hx
        replace hl := hl.ext hx
        replace hB3 := hB3.ext hx
        have hE := Upd.refl (fun _ => False) W
        refine id (X_not (b := false) (r := true) rfl rfl ?_)
        exact ⟨hE, rfl⟩
      refine ⟨.det (fun val => (.bool (true))), ⟨fun _ _ hv => rfl, fun _ _ _ _ _ => trivial⟩, fun val h_ W hx he => ⟨trivial, ?_⟩, ?_⟩
      · replace hx := (Upd.drew _ _).trans hx
        replace hl := hl.ext hx
        replace hB3 := hB3.ext hx
        have hE := Upd.refl (fun _ => False) W
        refine id (X_move (v := (.bool (true))) rfl ?_)
        exact ⟨hE, rfl⟩
      refine ⟨.no, ⟨fun _ _ _ => trivial, fun _ _ _ _ _ => trivial⟩, fun val h_ W hx he => ⟨15, rfl, .inl rfl⟩, ?_⟩
      refine ⟨.no, ⟨fun _ _ _ => trivial, fun _ _ _ _ _ => trivial⟩, fun val h_ W hx he => ⟨15, rfl, .inl rfl⟩, ?_⟩
      refine ⟨.no, ⟨fun _ _ _ => trivial, fun _ _ _ _ _ => trivial⟩, fun val h_ W hx he => ⟨15, rfl, .inl rfl⟩, ?_⟩
      refine ⟨.no, ⟨fun _ _ _ => trivial, fun _ _ _ _ _ => trivial⟩, fun val h_ W hx he => ⟨18, rfl, .inr rfl⟩, ?_⟩
      refine ⟨.no, ⟨fun _ _ _ => trivial, fun _ _ _ _ _ => trivial⟩, fun val h_ W hx he => ⟨18, rfl, .inr rfl⟩, ?_⟩
      refine ⟨.no, ⟨fun _ _ _ => trivial, fun _ _ _ _ _ => trivial⟩, fun val h_ W hx he => ⟨18, rfl, .inr rfl⟩, ?_⟩
      refine ⟨.no, ⟨fun _ _ _ => trivial, fun _ _ _ _ _ => trivial⟩, fun val h_ W hx he => ⟨18, rfl, .inr rfl⟩, ?_⟩
      refine ⟨.no, ⟨fun _ _ _ => trivial, fun _ _ _ _ _ => trivial⟩, fun val h_ W hx he => ⟨18, rfl, .inr rfl⟩, ?_⟩
      refine ⟨.no, ⟨fun _ _ _ => trivial, fun _ _ _ _ _ => trivial⟩, fun val h_ W hx he => ⟨18, rfl, .inr rfl⟩, ?_⟩
      refine ⟨.no, ⟨fun _ _ _ => trivial, fun _ _ _ _ _ => trivial⟩, fun val h_ W hx he => ⟨18, rfl, .inr rfl⟩, ?_⟩
      refine ⟨.no, ⟨fun _ _ _ => trivial, fun _ _ _ _ _ => trivial⟩, fun val h_ W hx he => ⟨18, rfl, .inr rfl⟩, ?_⟩
      intro val W13 hx13 he13
      replace hx13 := (Upd.drew _ _).trans hx13
      have hz13 := hx13.size
      replace hl := hl.ext hx13
      replace hU := hU.trans (Ext.upd hx13)
      replace hB3 := hB3.ext hx13
      refine L_gu (dj := 18) rfl rfl rfl ?_
      refine L_gu (dj := 18) rfl rfl rfl ?_
      refine L_gn (dj := 15) (t := true) rfl rfl rfl rfl ?_
      refine L_op rfl (X_pick (t := true) (v := (.bool (true))) rfl rfl ?_)
      refine L_nil ?_
      refine T_n ?_
      refine W_ct rfl ?_
      refine W_seq ?_
      refine W_reg ?_
      refine L_op rfl (X_assign (v := (.bool (false))) rfl ?_)
      refine L_nil ?_
      refine T_n ?_
      refine W_ret ?_
      refine B_r ?_
      refine T_r ?_
      refine T_r ?_
      refine B_r ?_
      refine T_r ?_
      have hR : ¬ RightI (dsI es) := fun h => by obtain ⟨h1, h2⟩ := hst.1 (h.2 i (by rw [dsI_len]; exact hi)); exact of_decide_eq_false hs5 h1
      exact BQ_r (End_1 Tryd.results14 (v := .bool false) rfl ⟨by rw [decide_eq_false hR], hU.own hn0⟩)
  · refine L_op rfl (X_cmp (k := .i64) (a := ((i : Nat) : Int)) (b := ((es.length : Nat) : Int)) (r := false) rfl rfl rfl (decide_eq_false (p := ((((i : Nat) : Int)) : Int) < ((((es.length : Nat) : Int)) : Int)) (by omega)) ?_)
    refine L_nil ?_
    refine T_n ?_
    refine W_seq ?_
    refine W_cf rfl ?_
    refine W_exit ?_
    refine T_e ?_
    refine T_e ?_
    refine B_x ?_
    refine T_n ?_
    refine W_seq ?_
    refine W_reg ?_
    refine L_op rfl (X_move (v := l) rfl ?_)
    refine L_op rfl (X_len (v := l) (n := es.length) Tryd.underlying22 rfl hl.sv ?_)
    by_cases hc14 : (((es.length : Nat) : Int) : Int) ≤ (6)
    · refine L_op rfl (X_cmp (k := .i64) (a := ((es.length : Nat) : Int)) (b := 6) (r := true) rfl rfl rfl (decide_eq_true (p := ((((es.length : Nat) : Int)) : Int) ≤ ((6) : Int)) (by omega)) ?_)
      refine L_op rfl (X_assign (v := (.bool (true))) rfl ?_)
      refine L_nil ?_
      refine T_n ?_
      refine W_ret ?_
      have hR : RightI (dsI es) := ⟨by rw [dsI_len]; omega, fun j hj => hz j (by rw [dsI_len] at hj; omega)⟩
      exact BQ_r (End_1 Tryd.results14 (v := .bool true) rfl ⟨by rw [decide_eq_true hR], hU.own hn0⟩)
    · refine L_op rfl (X_cmp (k := .i64) (a := ((es.length : Nat) : Int)) (b := 6) (r := false) rfl rfl rfl (decide_eq_false (p := ((((es.length : Nat) : Int)) : Int) ≤ ((6) : Int)) (by omega)) ?_)
      refine L_op rfl (X_assign (v := (.bool (false))) rfl ?_)
      refine L_nil ?_
      refine T_n ?_
      refine W_ret ?_
      have hR : ¬ RightI (dsI es) := fun h => by have h1 := h.1; rw [dsI_len] at h1; omega
      exact BQ_r (End_1 Tryd.results14 (v := .bool false) rfl ⟨by rw [decide_eq_false hR], hU.own hn0⟩)

theorem c_rightIR (l : Value) (es : List IE) (w : World) (lo up : Nat) (hup : up ≤ w.heap.size) (hl : NRd LT w lo up l es) (hpt : ∀ e ∈ es, ItOk e.2.2) : CT Tryd.prog 11 #[l] w fun v w' => v = .bool (decide (RightI (dsI es))) ∧ Ext w w' := by
  obtain ⟨n0, hn0⟩ : ∃ n, n = w.heap.size := ⟨_, rfl⟩
  have hU : Upd (fun i => n0 ≤ i) w w := Upd.refl _ _
  have hmx := hl.sv.len
  rw [← hn0] at hup
  refine CT_of Tryd.func11 rfl rfl rfl ?_
  refine W_seq ?_
  refine W_reg ?_
  refine L_op rfl (X_assign (v := (.bool (false))) rfl ?_)
  refine L_nil ?_
  refine T_n ?_
  refine W_seq ?_
  refine W_seq ?_
  refine W_reg ?_
  refine L_op rfl (X_assign (v := (.int .i64 (0))) rfl ?_)
  refine L_nil ?_
  refine T_n ?_
  refine W_block ?_
  refine W_loop (α := Nat) [2, 3, 4, 5, 6, 7, 8, 9, 10, 11, 12, 13, 14, 15, 16, 17, 18, 19, 20, 21, 22, 23, 24, 25, 26, 27, 28, 29, 30, 31, 32, 33, 34, 35] (fun i => [(3, (.int .i64 (((i : Nat) : Int))))]) (fun i w_ => i ≤ es.length ∧ NRd LT w_ lo up l es ∧ (∀ j, j < i → StepI (dsI es) j) ∧ Upd (fun i => n0 ≤ i) w w_) (fun i => es.length - i) ⟨rfl, 0, ⟨Nat.zero_le _, hl, fun j h => absurd h (Nat.not_lt_zero j), hU⟩, Out.refl _ _, ⟨rfl, trivial⟩⟩ ?_
  rintro i w1 _ ⟨hil, hl, hz, hU⟩
  have hsz_ := hU.size
  refine W_seq ?_
  refine W_seq ?_
  refine W_reg ?_
  refine L_op rfl (X_move (v := (.int .i64 (((i : Nat) : Int)))) rfl ?_)
  refine L_op rfl (X_move (v := l) rfl ?_)
  refine L_op rfl (X_len (v := l) (n := es.length) Tryd.underlying22 rfl hl.sv ?_)
  by_cases hc2 : (((i : Nat) : Int) : Int) < (((es.length : Nat) : Int))
  · refine L_op rfl (X_cmp (k := .i64) (a := ((i : Nat) : Int)) (b := ((es.length : Nat) : Int)) (r := true) rfl rfl rfl (decide_eq_true (p := ((((i : Nat) : Int)) : Int) < ((((es.length : Nat) : Int)) : Int)) (by omega)) ?_)
    have hi : i < es.length := by omega
    obtain ⟨e, hei⟩ : ∃ e, es[i]? = some e := ⟨_, List.getElem?_eq_getElem hi⟩
    have hkl := (irdk hl hei).len
    have hvl := (irdv hl hei).len
    obtain ⟨c, hci⟩ : ∃ c, es[i - 1]? = some c := ⟨_, List.getElem?_eq_getElem (by omega)⟩
    have hst : StepI (dsI es) i ↔ RightT e.2.2 ∧ (0 < i → Op.bytesLess c.2.2.1 e.2.2.1 = true) := by unfold StepI; rw [dT_at hei, dT_at hci]
    refine L_nil ?_
    refine T_n ?_
    refine W_ct rfl ?_
    refine W_skip ?_
    refine T_n ?_
    refine W_seq ?_
    refine W_block ?_
    refine W_seq ?_
    rcases Bool.eq_false_or_eq_true (decide (RightT e.2.2)) with hs3 | hs3
    · rcases Bool.eq_false_or_eq_true (decide (0 < i)) with hs4 | hs4
      · rcases Bool.eq_false_or_eq_true (scmp .geq (c.2.2.1) (e.2.2.1)) with hs5 | hs5
        · have hg0 := of_decide_eq_true hs4
          refine W_draw 23 [[], [], [0, 1], [0, 1, 2], [0, 1, 2, 3], [0, 1, 2, 3, 4], [0, 1, 2, 3, 4, 5], [0, 1, 2, 3, 4, 5, 6], [0, 1, 2, 3, 4, 5, 6, 7], [0, 1, 2, 3, 4, 5, 6, 7, 8], [0, 1, 2, 3, 4, 5, 6, 7, 8, 9], [0, 1, 2, 3, 4, 5, 6, 7, 8, 9], [0, 1, 2, 3, 4, 5, 6, 7, 8, 9, 11], [0, 1, 2, 3, 4, 5, 6, 7, 8, 9, 10, 11, 12], [0, 1, 2, 3, 4, 5, 6, 7, 8, 9, 10, 11, 12, 13], [0, 1, 2, 3, 4, 5, 6, 7, 8, 9, 10, 11, 12, 13, 14], [0, 1, 2, 3, 4, 5, 6, 7, 8, 9, 10, 11, 12, 13, 14, 15], [0, 1, 2, 3, 4, 5, 6, 7, 8, 9], [0, 1, 2, 3, 4, 5, 6, 7, 8, 9], [0, 1, 2, 3, 4, 5, 6, 7, 8, 9, 17, 18], [0, 1, 2, 3, 4, 5, 6, 7, 8, 9, 17, 18, 19], [0, 1, 2, 3, 4, 5, 6, 7, 8, 9, 17, 18, 19, 20], [0, 1, 2, 3, 4, 5, 6, 7, 8, 9, 17, 18, 19, 20, 21], [0, 1, 2, 3, 4, 5, 6, 7, 8, 9, 10, 11, 12, 13, 14, 15, 16, 17, 18, 19, 20, 21, 22], [0, 1, 2, 3, 4, 5, 6, 7, 8, 9, 10, 11, 12, 13, 14, 15, 16, 17, 18, 19, 20, 21, 22, 23], [0, 1, 2, 3, 4, 5, 6, 7, 8, 9, 10, 11, 12, 13, 14, 15, 16, 17, 18, 19, 20, 21, 22, 23, 24]] mixed (by kernel_rfl) ?_
          refine ⟨.det (fun val => l), ⟨fun _ _ hv => rfl, fun _ _ _ _ _ => trivial⟩, fun val h_ W hx he => ⟨trivial, ?_⟩, ?_⟩
          · replace hx := (Upd.drew _ _).trans hx
            replace hl := hl.ext hx
            have hE := Upd.refl (fun _ => False) W
            refine id (X_move (v := l) rfl ?_)
            exact ⟨hE, rfl⟩
          refine ⟨.det (fun val => (.int .i64 (((i : Nat) : Int)))), ⟨fun _ _ hv => rfl, fun _ _ _ _ _ => trivial⟩, fun val h_ W hx he => ⟨trivial, ?_⟩, ?_⟩
          · replace hx := (Upd.drew _ _).trans hx
            replace hl := hl.ext hx
            have hE := Upd.refl (fun _ => False) W
            refine id (X_move (v := (.int .i64 (((i : Nat) : Int)))) rfl ?_)
            exact ⟨hE, rfl⟩
          refine ⟨.det (fun val => (pof l ((((i : Nat) : Int) : Int).toNat * 8))), ⟨fun _ _ hv => rfl, fun _ _ _ _ _ => trivial⟩, fun val h_ W hx he => ⟨trivial, ?_⟩, ?_⟩
          · replace hx := (Upd.drew _ _).trans hx
            replace hl := hl.ext hx
            have hE := Upd.refl (fun _ => False) W
            refine id (X_idx (v := l) (n := es.length) (k := .i64) (i := ((i : Nat) : Int)) S22 rfl hl.sv rfl (by omega) (by omega) ?_)
            exact ⟨hE, rfl⟩
          refine ⟨.det (fun val => (.agg (itC e).toArray)), ⟨fun _ _ hv => rfl, fun _ _ _ _ _ => trivial⟩, fun val h_ W hx he => ⟨trivial, ?_⟩, ?_⟩
          · replace hx := (Upd.drew _ _).trans hx
            replace hl := hl.ext hx
            have hE := Upd.refl (fun _ => False) W
            refine id (X_loadA (xs := itC e) A43 rfl (iall hl (Int.toNat_natCast _) hei) rfl ?_)
            exact ⟨hE, rfl⟩
          refine ⟨.det (fun _ => .bool true), ⟨fun _ _ _ => rfl, fun _ _ _ _ _ => trivial⟩, fun val h_ W hx he => ⟨trivial, ?_⟩, ?_⟩
          · replace hx := (Upd.drew _ _).trans hx
            replace hl := hl.ext hx
            have hE := Upd.refl (fun _ => False) W
            refine X_fn (vs := [.agg (itC e).toArray]) en24 rfl (CT.mono (c_rightTR e _ (irdk hl hei).sv (irdv hl hei).sv (hpt e (List.mem_of_getElem? hei)).1) ?_)
            rintro _ w9 ⟨rfl, hu9⟩
            exact ⟨hu9, by rw [hs3]⟩
          refine ⟨.det (fun val => (.bool (false))), ⟨fun _ _ hv => rfl, fun _ _ _ _ _ => trivial⟩, fun val h_ W hx he => ⟨trivial, ?_⟩, ?_⟩
          · replace hx := (Upd.drew _ _).trans hx
            replace hl := hl.ext hx
            have hE := Upd.refl (fun _ => False) W
            refine id (X_not (b := true) (r := false) rfl rfl ?_)
            exact ⟨hE, rfl⟩
          refine ⟨.det (fun val => (.bool (false))), ⟨fun _ _ hv => rfl, fun _ _ _ _ _ => trivial⟩, fun val h_ W hx he => ⟨trivial, ?_⟩, ?_⟩
          · replace hx := (Upd.drew _ _).trans hx
            replace hl := hl.ext hx
            have hE := Upd.refl (fun _ => False) W
            refine id (X_move (v := (.bool (false))) rfl ?_)
            exact ⟨hE, rfl⟩
          refine ⟨.det (fun val => (.int .i64 (((i : Nat) : Int)))), ⟨fun _ _ hv => rfl, fun _ _ _ _ _ => trivial⟩, fun val h_ W hx he => ⟨⟨16, rfl, rfl⟩, ?_⟩, ?_⟩
          · replace hx := (Upd.drew _ _).trans hx
            replace hl := hl.ext hx
            have hE := Upd.refl (fun _ => False) W
            refine id (X_move (v := (.int .i64 (((i : Nat) : Int)))) rfl ?_)
            exact ⟨hE, rfl⟩
          refine ⟨.det (fun val => (.bool (true))), ⟨fun _ _ hv => rfl, fun _ _ _ _ _ => trivial⟩, fun val h_ W hx he => ⟨⟨16, rfl, rfl⟩, ?_⟩, ?_⟩
          · replace hx := (Upd.drew _ _).trans hx
            replace hl := hl.ext hx
            have hE := Upd.refl (fun _ => False) W
            refine id (X_cmp (k := .i64) (a := ((i : Nat) : Int)) (b := 0) (r := true) rfl rfl rfl (decide_eq_true (p := ((0) : Int) < ((((i : Nat) : Int)) : Int)) (by omega)) ?_)
            exact ⟨hE, rfl⟩
          refine ⟨.det (fun val => (.bool (true))), ⟨fun _ _ hv => rfl, fun _ _ _ _ _ => trivial⟩, fun val h_ W hx he => ⟨⟨16, rfl, rfl⟩, ?_⟩, ?_⟩
          · replace hx := (Upd.drew _ _).trans hx
            replace hl := hl.ext hx
            have hE := Upd.refl (fun _ => False) W
            refine id (X_move (v := (.bool (true))) rfl ?_)
            exact ⟨hE, rfl⟩
          refine ⟨.det (fun val => l), ⟨fun _ _ hv => rfl, fun _ _ _ _ _ => trivial⟩, fun val h_ W hx he => ⟨⟨19, rfl, rfl⟩, ?_⟩, ?_⟩
          · replace hx := (Upd.drew _ _).trans hx
            replace hl := hl.ext hx
            have hE := Upd.refl (fun _ => False) W
            refine id (X_move (v := l) rfl ?_)
            exact ⟨hE, rfl⟩
          refine ⟨.det (fun val => (.int .i64 (((i : Nat) : Int)))), ⟨fun _ _ hv => rfl, fun _ _ _ _ _ => trivial⟩, fun val h_ W hx he => ⟨⟨19, rfl, rfl⟩, ?_⟩, ?_⟩
          · replace hx := (Upd.drew _ _).trans hx
            replace hl := hl.ext hx
            have hE := Upd.refl (fun _ => False) W
            refine id (X_move (v := (.int .i64 (((i : Nat) : Int)))) rfl ?_)
            exact ⟨hE, rfl⟩
          refine ⟨.det (fun val => (.int .i64 (((i - 1 : Nat) : Int)))), ⟨fun _ _ hv => rfl, fun _ _ _ _ _ => trivial⟩, fun val h_ W hx he => ⟨⟨19, rfl, rfl⟩, ?_⟩, ?_⟩
          · replace hx := (Upd.drew _ _).trans hx
            replace hl := hl.ext hx
            have hE := Upd.refl (fun _ => False) W
            refine id (X_arith (k := .i64) (a := ((i : Nat) : Int)) (b := 1) (r := ((i - 1 : Nat) : Int)) rfl rfl rfl (isub64 (by omega) (by omega) (by omega)) ?_)
            exact ⟨hE, rfl⟩
          refine ⟨.det (fun val => (pof l ((((i - 1 : Nat) : Int) : Int).toNat * 8))), ⟨fun _ _ hv => rfl, fun _ _ _ _ _ => trivial⟩, fun val h_ W hx he => ⟨⟨19, rfl, rfl⟩, ?_⟩, ?_⟩
          · replace hx := (Upd.drew _ _).trans hx
            replace hl := hl.ext hx
            have hE := Upd.refl (fun _ => False) W
            refine id (X_idx (v := l) (n := es.length) (k := .i64) (i := ((i - 1 : Nat) : Int)) S22 rfl hl.sv rfl (by omega) (by omega) ?_)
            exact ⟨hE, rfl⟩
          refine ⟨.det (fun val => (pof l ((((i - 1 : Nat) : Int) : Int).toNat * 8 + 0))), ⟨fun _ _ hv => rfl, fun _ _ _ _ _ => trivial⟩, fun val h_ W hx he => ⟨⟨19, rfl, rfl⟩, ?_⟩, ?_⟩
          · replace hx := (Upd.drew _ _).trans hx
            replace hl := hl.ext hx
            have hE := Upd.refl (fun _ => False) W
            refine id (X_fldS (v := l) (o := (((i - 1 : Nat) : Int) : Int).toNat * 8) Fd43_0 rfl hl.sv (by omega) ?_)
            exact ⟨hE, rfl⟩
          refine ⟨.det (fun val => c.1), ⟨fun _ _ hv => rfl, fun _ _ _ _ _ => trivial⟩, fun val h_ W hx he => ⟨⟨19, rfl, rfl⟩, ?_⟩, ?_⟩
          · replace hx := (Upd.drew _ _).trans hx
            replace hl := hl.ext hx
            have hE := Upd.refl (fun _ => False) W
            refine id (X_load (v := c.1) T35 rfl (ikey hl (Int.toNat_natCast _) hci) ?_)
            exact ⟨hE, rfl⟩
          refine ⟨.det (fun val => (strV (c.2.2.1))), ⟨fun _ _ hv => rfl, fun _ _ _ _ _ => trivial⟩, fun val h_ W hx he => ⟨⟨19, rfl, rfl⟩, ?_⟩, ?_⟩
          · replace hx := (Upd.drew _ _).trans hx
            replace hl := hl.ext hx
            have hE := Upd.refl (fun _ => False) W
            refine id (X_str (v := c.1) (l := c.2.2.1) Tryd.underlying35 Tryd.underlying5 Tryd.underlying9 rfl (irdk hl hci) ?_)
            exact ⟨hE, rfl⟩
          refine ⟨.det (fun val => l), ⟨fun _ _ hv => rfl, fun _ _ _ _ _ => trivial⟩, fun val h_ W hx he => ⟨⟨19, rfl, rfl⟩, ?_⟩, ?_⟩
          · replace hx := (Upd.drew _ _).trans hx
            replace hl := hl.ext hx
            have hE := Upd.refl (fun _ => False) W
            refine id (X_move (v := l) rfl ?_)
            exact ⟨hE, rfl⟩
          refine ⟨.det (fun val => (.int .i64 (((i : Nat) : Int)))), ⟨fun _ _ hv => rfl, fun _ _ _ _ _ => trivial⟩, fun val h_ W hx he => ⟨⟨19, rfl, rfl⟩, ?_⟩, ?_⟩
          · replace hx := (Upd.drew _ _).trans hx
            replace hl := hl.ext hx
            have hE := Upd.refl (fun _ => False) W
            refine id (X_move (v := (.int .i64 (((i : Nat) : Int)))) rfl ?_)
            exact ⟨hE, rfl⟩
          refine ⟨.det (fun val => (pof l ((((i : Nat) : Int) : Int).toNat * 8))), ⟨fun _ _ hv => rfl, fun _ _ _ _ _ => trivial⟩, fun val h_ W hx he => ⟨⟨19, rfl, rfl⟩, ?_⟩, ?_⟩
          · replace hx := (Upd.drew _ _).trans hx
            replace hl := hl.ext hx
            have hE := Upd.refl (fun _ => False) W
            refine id (X_idx (v := l) (n := es.length) (k := .i64) (i := ((i : Nat) : Int)) S22 rfl hl.sv rfl (by omega) (by omega) ?_)
            exact ⟨hE, rfl⟩
          refine ⟨.det (fun val => (pof l ((((i : Nat) : Int) : Int).toNat * 8 + 0))), ⟨fun _ _ hv => rfl, fun _ _ _ _ _ => trivial⟩, fun val h_ W hx he => ⟨⟨19, rfl, rfl⟩, ?_⟩, ?_⟩
          · replace hx := (Upd.drew _ _).trans hx
            replace hl := hl.ext hx
            have hE := Upd.refl (fun _ => False) W
            refine id (X_fldS (v := l) (o := (((i : Nat) : Int) : Int).toNat * 8) Fd43_0 rfl hl.sv (by omega) ?_)
            exact ⟨hE, rfl⟩
          refine ⟨.det (fun val => e.1), ⟨fun _ _ hv => rfl, fun _ _ _ _ _ => trivial⟩, fun val h_ W hx he => ⟨⟨19, rfl, rfl⟩, ?_⟩, ?_⟩
          · replace hx := (Upd.drew _ _).trans hx
            replace hl := hl.ext hx
            have hE := Upd.refl (fun _ => False) W
            refine id (X_load (v := e.1) T35 rfl (ikey hl (Int.toNat_natCast _) hei) ?_)
            exact ⟨hE, rfl⟩
          refine ⟨.det (fun val => (strV (e.2.2.1))), ⟨fun _ _ hv => rfl, fun _ _ _ _ _ => trivial⟩, fun val h_ W hx he => ⟨⟨19, rfl, rfl⟩, ?_⟩, ?_⟩
          · replace hx := (Upd.drew _ _).trans hx
            replace hl := hl.ext hx
            have hE := Upd.refl (fun _ => False) W
            refine id (X_str (v := e.1) (l := e.2.2.1) Tryd.underlying35 Tryd.underlying5 Tryd.underlying9 rfl (irdk hl hei) ?_)
            exact ⟨hE, rfl⟩
          intro val W6 hx6 he6
          replace hx6 := (Upd.drew _ _).trans hx6
          have hz6 := hx6.size
          replace hl := hl.ext hx6
          replace hU := hU.trans (Ext.upd hx6)
          refine L_gy (dj := 19) rfl rfl rfl (X_scmp (a := c.2.2.1) (b := e.2.2.1) (r := true) rfl rfl rfl hs5 ?_)
          refine L_gy (dj := 16) rfl rfl rfl (X_pick (t := true) (v := (.bool (true))) rfl rfl ?_)
          refine L_op rfl (X_pick (t := false) (v := (.bool (true))) rfl rfl ?_)
          refine L_nil ?_
          refine T_n ?_
          refine W_ct rfl ?_
          refine W_seq ?_
          refine W_reg ?_
          refine L_op rfl (X_assign (v := (.bool (false))) rfl ?_)
          refine L_nil ?_
          refine T_n ?_
          refine W_ret ?_
          refine B_r ?_
          refine T_r ?_
          refine T_r ?_
          refine B_r ?_
          refine T_r ?_
          have hR : ¬ RightI (dsI es) := fun h => by obtain ⟨h1, h2⟩ := hst.1 (h.2 i (by rw [dsI_len]; exact hi)); have h3 := h2 (by omega); rw [show Op.bytesLess c.2.2.1 e.2.2.1 = false from (by have h9 := hs5; simpa [scmp] using h9)] at h3; cases h3
          exact BQ_r (End_1 Tryd.results11 (v := .bool false) rfl ⟨by rw [decide_eq_false hR], hU.own hn0⟩)
        · have hg0 := of_decide_eq_true hs4
          refine W_draw 23 [[], [], [0, 1], [0, 1, 2], [0, 1, 2, 3], [0, 1, 2, 3, 4], [0, 1, 2, 3, 4, 5], [0, 1, 2, 3, 4, 5, 6], [0, 1, 2, 3, 4, 5, 6, 7], [0, 1, 2, 3, 4, 5, 6, 7, 8], [0, 1, 2, 3, 4, 5, 6, 7, 8, 9], [0, 1, 2, 3, 4, 5, 6, 7, 8, 9], [0, 1, 2, 3, 4, 5, 6, 7, 8, 9, 11], [0, 1, 2, 3, 4, 5, 6, 7, 8, 9, 10, 11, 12], [0, 1, 2, 3, 4, 5, 6, 7, 8, 9, 10, 11, 12, 13], [0, 1, 2, 3, 4, 5, 6, 7, 8, 9, 10, 11, 12, 13, 14], [0, 1, 2, 3, 4, 5, 6, 7, 8, 9, 10, 11, 12, 13, 14, 15], [0, 1, 2, 3, 4, 5, 6, 7, 8, 9], [0, 1, 2, 3, 4, 5, 6, 7, 8, 9], [0, 1, 2, 3, 4, 5, 6, 7, 8, 9, 17, 18], [0, 1, 2, 3, 4, 5, 6, 7, 8, 9, 17, 18, 19], [0, 1, 2, 3, 4, 5, 6, 7, 8, 9, 17, 18, 19, 20], [0, 1, 2, 3, 4, 5, 6, 7, 8, 9, 17, 18, 19, 20, 21], [0, 1, 2, 3, 4, 5, 6, 7, 8, 9, 10, 11, 12, 13, 14, 15, 16, 17, 18, 19, 20, 21, 22], [0, 1, 2, 3, 4, 5, 6, 7, 8, 9, 10, 11, 12, 13, 14, 15, 16, 17, 18, 19, 20, 21, 22, 23], [0, 1, 2, 3, 4, 5, 6, 7, 8, 9, 10, 11, 12, 13, 14, 15, 16, 17, 18, 19, 20, 21, 22, 23, 24]] mixed (by kernel_rfl) ?_
          refine ⟨.det (fun val => l), ⟨fun _ _ hv => rfl, fun _ _ _ _ _ => trivial⟩, fun val h_ W hx he => ⟨trivial, ?_⟩, ?_⟩
          · replace hx := (Upd.drew _ _).trans hx
            replace hl := hl.ext hx
            have hE := Upd.refl (fun _ => False) W
            refine id (X_move (v := l) rfl ?_)
            exact ⟨hE, rfl⟩
          refine ⟨.det (fun val => (.int .i64 (((i : Nat) : Int)))), ⟨fun _ _ hv => rfl, fun _ _ _ _ _ => trivial⟩, fun val h_ W hx he => ⟨trivial, ?_⟩, ?_⟩
          · replace hx := (Upd.drew _ _).trans hx
            replace hl := hl.ext hx
            have hE := Upd.refl (fun _ => False) W
            refine id (X_move (v := (.int .i64 (((i : Nat) : Int)))) rfl ?_)
            exact ⟨hE, rfl⟩
          refine ⟨.det (fun val => (pof l ((((i : Nat) : Int) : Int).toNat * 8))), ⟨fun _ _ hv => rfl, fun _ _ _ _ _ => trivial⟩, fun val h_ W hx he => ⟨trivial, ?_⟩, ?_⟩
          · replace hx := (Upd.drew _ _).trans hx
            replace hl := hl.ext hx
            have hE := Upd.refl (fun _ => False) W
            refine id (X_idx (v := l) (n := es.length) (k := .i64) (i := ((i : Nat) : Int)) S22 rfl hl.sv rfl (by omega) (by omega) ?_)
            exact ⟨hE, rfl⟩
          refine ⟨.det (fun val => (.agg (itC e).toArray)), ⟨fun _ _ hv => rfl, fun _ _ _ _ _ => trivial⟩, fun val h_ W hx he => ⟨trivial, ?_⟩, ?_⟩
          · replace hx := (Upd.drew _ _).trans hx
            replace hl := hl.ext hx
            have hE := Upd.refl (fun _ => False) W
            refine id (X_loadA (xs := itC e) A43 rfl (iall hl (Int.toNat_natCast _) hei) rfl ?_)
            exact ⟨hE, rfl⟩
          refine ⟨.det (fun _ => .bool true), ⟨fun _ _ _ => rfl, fun _ _ _ _ _ => trivial⟩, fun val h_ W hx he => ⟨trivial, ?_⟩, ?_⟩
          · replace hx := (Upd.drew _ _).trans hx
            replace hl := hl.ext hx
            have hE := Upd.refl (fun _ => False) W
            refine X_fn (vs := [.agg (itC e).toArray]) en24 rfl (CT.mono (c_rightTR e _ (irdk hl hei).sv (irdv hl hei).sv (hpt e (List.mem_of_getElem? hei)).1) ?_)
            rintro _ w9 ⟨rfl, hu9⟩
            exact ⟨hu9, by rw [hs3]⟩
          refine ⟨.det (fun val => (.bool (false))), ⟨fun _ _ hv => rfl, fun _ _ _ _ _ => trivial⟩, fun val h_ W hx he => ⟨trivial, ?_⟩, ?_⟩
          · replace hx := (Upd.drew _ _).trans hx
            replace hl := hl.ext hx
            have hE := Upd.refl (fun _ => False) W
            refine id (X_not (b := true) (r := false) rfl rfl ?_)
            exact ⟨hE, rfl⟩
          refine ⟨.det (fun val => (.bool (false))), ⟨fun _ _ hv => rfl, fun _ _ _ _ _ => trivial⟩, fun val h_ W hx he => ⟨trivial, ?_⟩, ?_⟩
          · replace hx := (Upd.drew _ _).trans hx
            replace hl := hl.ext hx
            have hE := Upd.refl (fun _ => False) W
            refine id (X_move (v := (.bool (false))) rfl ?_)
            exact ⟨hE, rfl⟩
          refine ⟨.det (fun val => (.int .i64 (((i : Nat) : Int)))), ⟨fun _ _ hv => rfl, fun _ _ _ _ _ => trivial⟩, fun val h_ W hx he => ⟨⟨16, rfl, rfl⟩, ?_⟩, ?_⟩
          · replace hx := (Upd.drew _ _).trans hx
            replace hl := hl.ext hx
            have hE := Upd.refl (fun _ => False) W
            refine id (X_move (v := (.int .i64 (((i : Nat) : Int)))) rfl ?_)
            exact ⟨hE, rfl⟩
          refine ⟨.det (fun val => (.bool (true))), ⟨fun _ _ hv => rfl, fun _ _ _ _ _ => trivial⟩, fun val h_ W hx he => ⟨⟨16, rfl, rfl⟩, ?_⟩, ?_⟩
          · replace hx := (Upd.drew _ _).trans hx
            replace hl := hl.ext hx
            have hE := Upd.refl (fun _ => False) W
            refine id (X_cmp (k := .i64) (a := ((i : Nat) : Int)) (b := 0) (r := true) rfl rfl rfl (decide_eq_true (p := ((0) : Int) < ((((i : Nat) : Int)) : Int)) (by omega)) ?_)
            exact ⟨hE, rfl⟩
          refine ⟨.det (fun val => (.bool (true))), ⟨fun _ _ hv => rfl, fun _ _ _ _ _ => trivial⟩, fun val h_ W hx he => ⟨⟨16, rfl, rfl⟩, ?_⟩, ?_⟩
          · replace hx := (Upd.drew _ _).trans hx
            replace hl := hl.ext hx
            have hE := Upd.refl (fun _ => False) W
            refine id (X_move (v := (.bool (true))) rfl ?_)
            exact ⟨hE, rfl⟩
          refine ⟨.det (fun val => l), ⟨fun _ _ hv => rfl, fun _ _ _ _ _ => trivial⟩, fun val h_ W hx he => ⟨⟨19, rfl, rfl⟩, ?_⟩, ?_⟩
          · replace hx := (Upd.drew _ _).trans hx
            replace hl := hl.ext hx
            have hE := Upd.refl (fun _ => False) W
            refine id (X_move (v := l) rfl ?_)
            exact ⟨hE, rfl⟩
          refine ⟨.det (fun val => (.int .i64 (((i : Nat) : Int)))), ⟨fun _ _ hv => rfl, fun _ _ _ _ _ => trivial⟩, fun val h_ W hx he => ⟨⟨19, rfl, rfl⟩, ?_⟩, ?_⟩
          · replace hx := (Upd.drew _ _).trans hx
            replace hl := hl.ext hx
            have hE := Upd.refl (fun _ => False) W
            refine id (X_move (v := (.int .i64 (((i : Nat) : Int)))) rfl ?_)
            exact ⟨hE, rfl⟩
          refine ⟨.det (fun val => (.int .i64 (((i - 1 : Nat) : Int)))), ⟨fun _ _ hv => rfl, fun _ _ _ _ _ => trivial⟩, fun val h_ W hx he => ⟨⟨19, rfl, rfl⟩, ?_⟩, ?_⟩
          · replace hx := (Upd.drew _ _).trans hx
            replace hl := hl.ext hx
            have hE := Upd.refl (fun _ => False) W
            refine id (X_arith (k := .i64) (a := ((i : Nat) : Int)) (b := 1) (r := ((i - 1 : Nat) : Int)) rfl rfl rfl (isub64 (by omega) (by omega) (by omega)) ?_)
            exact ⟨hE, rfl⟩
          refine ⟨.det (fun val => (pof l ((((i - 1 : Nat) : Int) : Int).toNat * 8))), ⟨fun _ _ hv => rfl, fun _ _ _ _ _ => trivial⟩, fun val h_ W hx he => ⟨⟨19, rfl, rfl⟩, ?_⟩, ?_⟩
          · replace hx := (Upd.drew _ _).trans hx
            replace hl := hl.ext hx
            have hE := Upd.refl (fun _ => False) W
            refine id (X_idx (v := l) (n := es.length) (k := .i64) (i := ((i - 1 : Nat) : Int)) S22 rfl hl.sv rfl (by omega) (by omega) ?_)
            exact ⟨hE, rfl⟩
          refine ⟨.det (fun val => (pof l ((((i - 1 : Nat) : Int) : Int).toNat * 8 + 0))), ⟨fun _ _ hv => rfl, fun _ _ _ _ _ => trivial⟩, fun val h_ W hx he => ⟨⟨19, rfl, rfl⟩, ?_⟩, ?_⟩
          · replace hx := (Upd.drew _ _).trans hx
            replace hl := hl.ext hx
            have hE := Upd.refl (fun _ => False) W
            refine id (X_fldS (v := l) (o := (((i - 1 : Nat) : Int) : Int).toNat * 8) Fd43_0 rfl hl.sv (by omega) ?_)
            exact ⟨hE, rfl⟩
          refine ⟨.det (fun val => c.1), ⟨fun _ _ hv => rfl, fun _ _ _ _ _ => trivial⟩, fun val h_ W hx he => ⟨⟨19, rfl, rfl⟩, ?_⟩, ?_⟩
          · replace hx := (Upd.drew _ _).trans hx
            replace hl := hl.ext hx
            have hE := Upd.refl (fun _ => False) W
            refine id (X_load (v := c.1) T35 rfl (ikey hl (Int.toNat_natCast _) hci) ?_)
            exact ⟨hE, rfl⟩
          refine ⟨.det (fun val => (strV (c.2.2.1))), ⟨fun _ _ hv => rfl, fun _ _ _ _ _ => trivial⟩, fun val h_ W hx he => ⟨⟨19, rfl, rfl⟩, ?_⟩, ?_⟩
          · replace hx := (Upd.drew _ _).trans hx
            replace hl := hl.ext hx
            have hE := Upd.refl (fun _ => False) W
            refine id (X_str (v := c.1) (l := c.2.2.1) Tryd.underlying35 Tryd.underlying5 Tryd.underlying9 rfl (irdk hl hci) ?_)
            exact ⟨hE, rfl⟩
          refine ⟨.det (fun val => l), ⟨fun _ _ hv => rfl, fun _ _ _ _ _ => trivial⟩, fun val h_ W hx he => ⟨⟨19, rfl, rfl⟩, ?_⟩, ?_⟩
          · replace hx := (Upd.drew _ _).trans hx
            replace hl := hl.ext hx
            have hE := Upd.refl (fun _ => False) W
            refine id (X_move (v := l) rfl ?_)
            exact ⟨hE, rfl⟩
          refine ⟨.det (fun val => (.int .i64 (((i : Nat) : Int)))), ⟨fun _ _ hv => rfl, fun _ _ _ _ _ => trivial⟩, fun val h_ W hx he => ⟨⟨19, rfl, rfl⟩, ?_⟩, ?_⟩
          · replace hx := (Upd.drew _ _).trans hx
            replace hl := hl.ext hx
            have hE := Upd.refl (fun _ => False) W
            refine id (X_move (v := (.int .i64 (((i : Nat) : Int)))) rfl ?_)
            exact ⟨hE, rfl⟩
          refine ⟨.det (fun val => (pof l ((((i : Nat) : Int) : Int).toNat * 8))), ⟨fun _ _ hv => rfl, fun _ _ _ _ _ => trivial⟩, fun val h_ W hx he => ⟨⟨19, rfl, rfl⟩, ?_⟩, ?_⟩
          · replace hx := (Upd.drew _ _).trans hx
            replace hl := hl.ext hx
            have hE := Upd.refl (fun _ => False) W
            refine id (X_idx (v := l) (n := es.length) (k := .i64) (i := ((i : Nat) : Int)) S22 rfl hl.sv rfl (by omega) (by omega) ?_)
            exact ⟨hE, rfl⟩
          refine ⟨.det (fun val => (pof l ((((i : Nat) : Int) : Int).toNat * 8 + 0))), ⟨fun _ _ hv => rfl, fun _ _ _ _ _ => trivial⟩, fun val h_ W hx he => ⟨⟨19, rfl, rfl⟩, ?_⟩, ?_⟩
          · replace hx := (Upd.drew _ _).trans hx
            replace hl := hl.ext hx
            have hE := Upd.refl (fun _ => False) W
            refine id (X_fldS (v := l) (o := (((i : Nat) : Int) : Int).toNat * 8) Fd43_0 rfl hl.sv (by omega) ?_)
            exact ⟨hE, rfl⟩
          refine ⟨.det (fun val => e.1), ⟨fun _ _ hv => rfl, fun _ _ _ _ _ => trivial⟩, fun val h_ W hx he => ⟨⟨19, rfl, rfl⟩, ?_⟩, ?_⟩
          · replace hx := (Upd.drew _ _).trans hx
            replace hl := hl.ext hx
            have hE := Upd.refl (fun _ => False) W
            refine id (X_load (v := e.1) T35 rfl (ikey hl (Int.toNat_natCast _) hei) ?_)
            exact ⟨hE, rfl⟩
          refine ⟨.det (fun val => (strV (e.2.2.1))), ⟨fun _ _ hv => rfl, fun _ _ _ _ _ => trivial⟩, fun val h_ W hx he => ⟨⟨19, rfl, rfl⟩, ?_⟩, ?_⟩
          · replace hx := (Upd.drew _ _).trans hx
            replace hl := hl.ext hx
            have hE := Upd.refl (fun _ => False) W
            refine id (X_str (v := e.1) (l := e.2.2.1) Tryd.underlying35 Tryd.underlying5 Tryd.underlying9 rfl (irdk hl hei) ?_)
            exact ⟨hE, rfl⟩
          intro val W9 hx9 he9
          replace hx9 := (Upd.drew _ _).trans hx9
          have hz9 := hx9.size
          replace hl := hl.ext hx9
          replace hU := hU.trans (Ext.upd hx9)
          refine L_gy (dj := 19) rfl rfl rfl (X_scmp (a := c.2.2.1) (b := e.2.2.1) (r := false) rfl rfl rfl hs5 ?_)
          refine L_gy (dj := 16) rfl rfl rfl (X_pick (t := true) (v := (.bool (false))) rfl rfl ?_)
          refine L_op rfl (X_pick (t := false) (v := (.bool (false))) rfl rfl ?_)
          refine L_nil ?_
          refine T_n ?_
          refine W_cf rfl ?_
          refine W_skip ?_
          refine B_n ?_
          refine T_n ?_
          refine W_reg ?_
          refine L_op rfl (X_move (v := (.int .i64 (((i : Nat) : Int)))) rfl ?_)
          refine L_op rfl (X_arith (k := .i64) (a := ((i : Nat) : Int)) (b := 1) (r := ((i + 1 : Nat) : Int)) rfl rfl rfl (iadd64 (by omega) (by omega) (by omega)) ?_)
          refine L_op rfl (X_assign (v := (.int .i64 (((i + 1 : Nat) : Int)))) rfl ?_)
          refine L_nil ?_
          refine T_n ?_
          exact ⟨rfl, i + 1, ⟨⟨hi, hl, fun j hj => (Nat.lt_or_ge j i).elim (hz j) fun h1 => by obtain rfl : j = i := by { omega }; exact hst.2 ⟨of_decide_eq_true hs3, fun _ => (by have h9 := hs5; simpa [scmp] using h9)⟩, hU⟩, (by show es.length - (i + 1) < es.length - i; omega)⟩, (Out.mk rfl), ⟨rfl, trivial⟩⟩
      · have hg0 := of_decide_eq_false hs4
        refine W_draw 23 [[], [], [0, 1], [0, 1, 2], [0, 1, 2, 3], [0, 1, 2, 3, 4], [0, 1, 2, 3, 4, 5], [0, 1, 2, 3, 4, 5, 6], [0, 1, 2, 3, 4, 5, 6, 7], [0, 1, 2, 3, 4, 5, 6, 7, 8], [0, 1, 2, 3, 4, 5, 6, 7, 8, 9], [0, 1, 2, 3, 4, 5, 6, 7, 8, 9], [0, 1, 2, 3, 4, 5, 6, 7, 8, 9, 11], [0, 1, 2, 3, 4, 5, 6, 7, 8, 9, 10, 11, 12], [0, 1, 2, 3, 4, 5, 6, 7, 8, 9, 10, 11, 12, 13], [0, 1, 2, 3, 4, 5, 6, 7, 8, 9, 10, 11, 12, 13, 14], [0, 1, 2, 3, 4, 5, 6, 7, 8, 9, 10, 11, 12, 13, 14, 15], [0, 1, 2, 3, 4, 5, 6, 7, 8, 9], [0, 1, 2, 3, 4, 5, 6, 7, 8, 9], [0, 1, 2, 3, 4, 5, 6, 7, 8, 9, 17, 18], [0, 1, 2, 3, 4, 5, 6, 7, 8, 9, 17, 18, 19], [0, 1, 2, 3, 4, 5, 6, 7, 8, 9, 17, 18, 19, 20], [0, 1, 2, 3, 4, 5, 6, 7, 8, 9, 17, 18, 19, 20, 21], [0, 1, 2, 3, 4, 5, 6, 7, 8, 9, 10, 11, 12, 13, 14, 15, 16, 17, 18, 19, 20, 21, 22], [0, 1, 2, 3, 4, 5, 6, 7, 8, 9, 10, 11, 12, 13, 14, 15, 16, 17, 18, 19, 20, 21, 22, 23], [0, 1, 2, 3, 4, 5, 6, 7, 8, 9, 10, 11, 12, 13, 14, 15, 16, 17, 18, 19, 20, 21, 22, 23, 24]] mixed (by kernel_rfl) ?_
        refine ⟨.det (fun val => l), ⟨fun _ _ hv => rfl, fun _ _ _ _ _ => trivial⟩, fun val h_ W hx he => ⟨trivial, ?_⟩, ?_⟩
        · replace hx := (Upd.drew _ _).trans hx
          replace hl := hl.ext hx
          have hE := Upd.refl (fun _ => False) W
          refine id (X_move (v := l) rfl ?_)
          exact ⟨hE, rfl⟩
        refine ⟨.det (fun val => (.int .i64 (((i : Nat) : Int)))), ⟨fun _ _ hv => rfl, fun _ _ _ _ _ => trivial⟩, fun val h_ W hx he => ⟨trivial, ?_⟩, ?_⟩
        · replace hx := (Upd.drew _ _).trans hx
          replace hl := hl.ext hx
          have hE := Upd.refl (fun _ => False) W
          refine id (X_move (v := (.int .i64 (((i : Nat) : Int)))) rfl ?_)
          exact ⟨hE, rfl⟩
        refine ⟨.det (fun val => (pof l ((((i : Nat) : Int) : Int).toNat * 8))), ⟨fun _ _ hv => rfl, fun _ _ _ _ _ => trivial⟩, fun val h_ W hx he => ⟨trivial, ?_⟩, ?_⟩
        · replace hx := (Upd.drew _ _).trans hx
          replace hl := hl.ext hx
          have hE := Upd.refl (fun _ => False) W
          refine id (X_idx (v := l) (n := es.length) (k := .i64) (i := ((i : Nat) : Int)) S22 rfl hl.sv rfl (by omega) (by omega) ?_)
          exact ⟨hE, rfl⟩
        refine ⟨.det (fun val => (.agg (itC e).toArray)), ⟨fun _ _ hv => rfl, fun _ _ _ _ _ => trivial⟩, fun val h_ W hx he => ⟨trivial, ?_⟩, ?_⟩
        · replace hx := (Upd.drew _ _).trans hx
          replace hl := hl.ext hx
          have hE := Upd.refl (fun _ => False) W
          refine id (X_loadA (xs := itC e) A43 rfl (iall hl (Int.toNat_natCast _) hei) rfl ?_)
          exact ⟨hE, rfl⟩
        refine ⟨.det (fun _ => .bool true), ⟨fun _ _ _ => rfl, fun _ _ _ _ _ => trivial⟩, fun val h_ W hx he => ⟨trivial, ?_⟩, ?_⟩
        · replace hx := (Upd.drew _ _).trans hx
          replace hl := hl.ext hx
          have hE := Upd.refl (fun _ => False) W
          refine X_fn (vs := [.agg (itC e).toArray]) en24 rfl (CT.mono (c_rightTR e _ (irdk hl hei).sv (irdv hl hei).sv (hpt e (List.mem_of_getElem? hei)).1) ?_)
          rintro _ w9 ⟨rfl, hu9⟩
          exact ⟨hu9, by rw [hs3]⟩
        refine ⟨.det (fun val => (.bool (false))), ⟨fun _ _ hv => rfl, fun _ _ _ _ _ => trivial⟩, fun val h_ W hx he => ⟨trivial, ?_⟩, ?_⟩
        · replace hx := (Upd.drew _ _).trans hx
          replace hl := hl.ext hx
          have hE := Upd.refl (fun _ => False) W
          refine id (X_not (b := true) (r := false) rfl rfl ?_)
          exact ⟨hE, rfl⟩
        refine ⟨.det (fun val => (.bool (false))), ⟨fun _ _ hv => rfl, fun _ _ _ _ _ => trivial⟩, fun val h_ W hx he => ⟨trivial, ?_⟩, ?_⟩
        · replace hx := (Upd.drew _ _).trans hx
          replace hl := hl.ext hx
          have hE := Upd.refl (fun _ => False) W
          refine id (X_move (v := (.bool (false))) rfl ?_)
          exact ⟨hE, rfl⟩
        refine ⟨.det (fun val => (.int .i64 (((i : Nat) : Int)))), ⟨fun _ _ hv => rfl, fun _ _ _ _ _ => trivial⟩, fun val h_ W hx he => ⟨⟨16, rfl, rfl⟩, ?_⟩, ?_⟩
        · replace hx := (Upd.drew _ _).trans hx
          replace hl := hl.ext hx
          have hE := Upd.refl (fun _ => False) W
          refine id (X_move (v := (.int .i64 (((i : Nat) : Int)))) rfl ?_)
          exact ⟨hE, rfl⟩
        refine ⟨.det (fun val => (.bool (false))), ⟨fun _ _ hv => rfl, fun _ _ _ _ _ => trivial⟩, fun val h_ W hx he => ⟨⟨16, rfl, rfl⟩, ?_⟩, ?_⟩
        · replace hx := (Upd.drew _ _).trans hx
          replace hl := hl.ext hx
          have hE := Upd.refl (fun _ => False) W
          refine id (X_cmp (k := .i64) (a := ((i : Nat) : Int)) (b := 0) (r := false) rfl rfl rfl (decide_eq_false (p := ((0) : Int) < ((((i : Nat) : Int)) : Int)) (by omega)) ?_)
          exact ⟨hE, rfl⟩
        refine ⟨.det (fun val => (.bool (false))), ⟨fun _ _ hv => rfl, fun _ _ _ _ _ => trivial⟩, fun val h_ W hx he => ⟨⟨16, rfl, rfl⟩, ?_⟩, ?_⟩
        · replace hx := (Upd.drew _ _).trans hx
          replace hl := hl.ext hx
          have hE := Upd.refl (fun _ => False) W
          refine id (X_move (v := (.bool (false))) rfl ?_)
          exact ⟨hE, rfl⟩
        refine ⟨.no, ⟨fun _ _ _ => trivial, fun _ _ _ _ _ => trivial⟩, fun val h_ W hx he => ⟨19, rfl, .inl rfl⟩, ?_⟩
        refine ⟨.no, ⟨fun _ _ _ => trivial, fun _ _ _ _ _ => trivial⟩, fun val h_ W hx he => ⟨19, rfl, .inl rfl⟩, ?_⟩
        refine ⟨.no, ⟨fun _ _ _ => trivial, fun _ _ _ _ _ => trivial⟩, fun val h_ W hx he => ⟨19, rfl, .inl rfl⟩, ?_⟩
        refine ⟨.no, ⟨fun _ _ _ => trivial, fun _ _ _ _ _ => trivial⟩, fun val h_ W hx he => ⟨19, rfl, .inl rfl⟩, ?_⟩
        refine ⟨.no, ⟨fun _ _ _ => trivial, fun _ _ _ _ _ => trivial⟩, fun val h_ W hx he => ⟨19, rfl, .inl rfl⟩, ?_⟩
        refine ⟨.no, ⟨fun _ _ _ => trivial, fun _ _ _ _ _ => trivial⟩, fun val h_ W hx he => ⟨19, rfl, .inl rfl⟩, ?_⟩
        refine ⟨.no, ⟨fun _ _ _ => trivial, fun _ _ _ _ _ => trivial⟩, fun val h_ W hx he => ⟨19, rfl, .inl rfl⟩, ?_⟩
        refine ⟨.no, ⟨fun _ _ _ => trivial, fun _ _ _ _ _ => trivial⟩, fun val h_ W hx he => ⟨19, rfl, .inl rfl⟩, ?_⟩
        refine ⟨.no, ⟨fun _ _ _ => trivial, fun _ _ _ _ _ => trivial⟩, fun val h_ W hx he => ⟨19, rfl, .inl rfl⟩, ?_⟩
        refine ⟨.no, ⟨fun _ _ _ => trivial, fun _ _ _ _ _ => trivial⟩, fun val h_ W hx he => ⟨19, rfl, .inl rfl⟩, ?_⟩
        refine ⟨.no, ⟨fun _ _ _ => trivial, fun _ _ _ _ _ => trivial⟩, fun val h_ W hx he => ⟨19, rfl, .inl rfl⟩, ?_⟩
        refine ⟨.no, ⟨fun _ _ _ => trivial, fun _ _ _ _ _ => trivial⟩, fun val h_ W hx he => ⟨19, rfl, .inl rfl⟩, ?_⟩
        refine ⟨.no, ⟨fun _ _ _ => trivial, fun _ _ _ _ _ => trivial⟩, fun val h_ W hx he => ⟨19, rfl, .inl rfl⟩, ?_⟩
        intro val W12 hx12 he12
        replace hx12 := (Upd.drew _ _).trans hx12
        have hz12 := hx12.size
        replace hl := hl.ext hx12
        replace hU := hU.trans (Ext.upd hx12)
        refine L_gn (dj := 19) (t := false) rfl rfl rfl rfl ?_
        refine L_gy (dj := 16) rfl rfl rfl (X_pick (t := false) (v := (.bool (false))) rfl rfl ?_)
        refine L_op rfl (X_pick (t := false) (v := (.bool (false))) rfl rfl ?_)
        refine L_nil ?_
        refine T_n ?_
        refine W_cf rfl ?_
        refine W_skip ?_
        refine B_n ?_
        refine T_n ?_
        refine W_reg ?_
        refine L_op rfl (X_move (v := (.int .i64 (((i : Nat) : Int)))) rfl ?_)
        refine L_op rfl (X_arith (k := .i64) (a := ((i : Nat) : Int)) (b := 1) (r := ((i + 1 : Nat) : Int)) rfl rfl rfl (iadd64 (by omega) (by omega) (by omega)) ?_)
        refine L_op rfl (X_assign (v := (.int .i64 (((i + 1 : Nat) : Int)))) rfl ?_)
        refine L_nil ?_
        refine T_n ?_
        exact ⟨rfl, i + 1, ⟨⟨hi, hl, fun j hj => (Nat.lt_or_ge j i).elim (hz j) fun h1 => by obtain rfl : j = i := by { omega }; exact hst.2 ⟨of_decide_eq_true hs3, fun hp => absurd hp (by omega)⟩, hU⟩, (by show es.length - (i + 1) < es.length - i; omega)⟩, (Out.mk rfl), ⟨rfl, trivial⟩⟩
    · refine W_draw 23 [[], [], [0, 1], [0, 1, 2], [0, 1, 2, 3], [0, 1, 2, 3, 4], [0, 1, 2, 3, 4, 5], [0, 1, 2, 3, 4, 5, 6], [0, 1, 2, 3, 4, 5, 6, 7], [0, 1, 2, 3, 4, 5, 6, 7, 8], [0, 1, 2, 3, 4, 5, 6, 7, 8, 9], [0, 1, 2, 3, 4, 5, 6, 7, 8, 9], [0, 1, 2, 3, 4, 5, 6, 7, 8, 9, 11], [0, 1, 2, 3, 4, 5, 6, 7, 8, 9, 10, 11, 12], [0, 1, 2, 3, 4, 5, 6, 7, 8, 9, 10, 11, 12, 13], [0, 1, 2, 3, 4, 5, 6, 7, 8, 9, 10, 11, 12, 13, 14], [0, 1, 2, 3, 4, 5, 6, 7, 8, 9, 10, 11, 12, 13, 14, 15], [0, 1, 2, 3, 4, 5, 6, 7, 8, 9], [0, 1, 2, 3, 4, 5, 6, 7, 8, 9], [0, 1, 2, 3, 4, 5, 6, 7, 8, 9, 17, 18], [0, 1, 2, 3, 4, 5, 6, 7, 8, 9, 17, 18, 19], [0, 1, 2, 3, 4, 5, 6, 7, 8, 9, 17, 18, 19, 20], [0, 1, 2, 3, 4, 5, 6, 7, 8, 9, 17, 18, 19, 20, 21], [0, 1, 2, 3, 4, 5, 6, 7, 8, 9, 10, 11, 12, 13, 14, 15, 16, 17, 18, 19, 20, 21, 22], [0, 1, 2, 3, 4, 5, 6, 7, 8, 9, 10, 11, 12, 13, 14, 15, 16, 17, 18, 19, 20, 21, 22, 23], [0, 1, 2, 3, 4, 5, 6, 7, 8, 9, 10, 11, 12, 13, 14, 15, 16, 17, 18, 19, 20, 21, 22, 23, 24]] mixed (by kernel_rfl) ?_
      refine ⟨.det (fun val => l), ⟨fun _ _ hv => rfl, fun _ _ _ _ _ => trivial⟩, fun val h_ W hx he => ⟨trivial, ?_⟩, ?_⟩
      · replace hx := (Upd.drew _ _).trans hx
        replace hl := hl.ext hx
        have hE := Upd.refl (fun _ => False) W
        refine id (X_move (v := l) rfl ?_)
        exact ⟨hE, rfl⟩
      refine ⟨.det (fun val => (.int .i64 (((i : Nat) : Int)))), ⟨fun _ _ hv => rfl, fun _ _ _ _ _ => trivial⟩, fun val h_ W hx he => ⟨trivial, ?_⟩, ?_⟩
      · replace hx := (Upd.drew _ _).trans hx
        replace hl := hl.ext hx
        have hE := Upd.refl (fun _ => False) W
        refine id (X_move (v := (.int .i64 (((i : Nat) : Int)))) rfl ?_)
        exact ⟨hE, rfl⟩
      refine ⟨.det (fun val => (pof l ((((i : Nat) : Int) : Int).toNat * 8))), ⟨fun _ _ hv => rfl, fun _ _ _ _ _ => trivial⟩, fun val h_ W hx he => ⟨trivial, ?_⟩, ?_⟩
      · replace hx := (Upd.drew _ _).trans hx
        replace hl := hl.ext hx
        have hE := Upd.refl (fun _ => False) W
        refine id (X_idx (v := l) (n := es.length) (k := .i64) (i := ((i : Nat) : Int)) S22 rfl hl.sv rfl (by omega) (by omega) ?_)
        exact ⟨hE, rfl⟩
      refine ⟨.det (fun val => (.agg (itC e).toArray)), ⟨fun _ _ hv => rfl, fun _ _ _ _ _ => trivial⟩, fun val h_ W hx he => ⟨trivial, ?_⟩, ?_⟩
      · replace hx := (Upd.drew _ _).trans hx
        replace hl := hl.ext hx
        have hE := Upd.refl (fun _ => False) W
        refine id (X_loadA (xs := itC e) A43 rfl (iall hl (Int.toNat_natCast _) hei) rfl ?_)
        exact ⟨hE, rfl⟩
      refine ⟨.det (fun _ => .bool false), ⟨fun _ _ _ => rfl, fun _ _ _ _ _ => trivial⟩, fun val h_ W hx he => ⟨trivial, ?_⟩, ?_⟩
      · replace hx := (Upd.drew _ _).trans hx
        replace hl := hl.ext hx
        have hE := Upd.refl (fun _ => False) W
        refine X_fn (vs := [.agg (itC e).toArray]) en24 rfl (CT.mono (c_rightTR e _ (irdk hl hei).sv (irdv hl hei).sv (hpt e (List.mem_of_getElem? hei)).1) ?_)
        rintro _ w9 ⟨rfl, hu9⟩
        exact ⟨hu9, by rw [hs3]⟩
      refine ⟨.det (fun val => (.bool (true))), ⟨fun _ _ hv => rfl, fun _ _ _ _ _ => trivial⟩, fun val h_ W hx he => ⟨trivial, ?_⟩, ?_⟩
      · replace hx := (Upd.drew _ _).trans hx
        replace hl := hl.ext hx
        have hE := Upd.refl (fun _ => False) W
        refine id (X_not (b := false) (r := true) rfl rfl ?_)
        exact ⟨hE, rfl⟩
      refine ⟨.det (fun val => (.bool (true))), ⟨fun _ _ hv => rfl, fun _ _ _ _ _ => trivial⟩, fun val h_ W hx he => ⟨trivial, ?_⟩, ?_⟩
      · replace hx := (Upd.drew _ _).trans hx
        replace hl := hl.ext hx
        have hE := Upd.refl (fun _ => False) W
        refine id (X_move (v := (.bool (true))) rfl ?_)
        exact ⟨hE, rfl⟩
      refine ⟨.no, ⟨fun _ _ _ => trivial, fun _ _ _ _ _ => trivial⟩, fun val h_ W hx he => ⟨16, rfl, .inl rfl⟩, ?_⟩
      refine ⟨.no, ⟨fun _ _ _ => trivial, fun _ _ _ _ _ => trivial⟩, fun val h_ W hx he => ⟨16, rfl, .inl rfl⟩, ?_⟩
      refine ⟨.no, ⟨fun _ _ _ => trivial, fun _ _ _ _ _ => trivial⟩, fun val h_ W hx he => ⟨16, rfl, .inl rfl⟩, ?_⟩
      refine ⟨.no, ⟨fun _ _ _ => trivial, fun _ _ _ _ _ => trivial⟩, fun val h_ W hx he => ⟨19, rfl, .inr rfl⟩, ?_⟩
      refine ⟨.no, ⟨fun _ _ _ => trivial, fun _ _ _ _ _ => trivial⟩, fun val h_ W hx he => ⟨19, rfl, .inr rfl⟩, ?_⟩
      refine ⟨.no, ⟨fun _ _ _ => trivial, fun _ _ _ _ _ => trivial⟩, fun val h_ W hx he => ⟨19, rfl, .inr rfl⟩, ?_⟩
      refine ⟨.no, ⟨fun _ _ _ => trivial, fun _ _ _ _ _ => trivial⟩, fun val h_ W hx he => ⟨19, rfl, .inr rfl⟩, ?_⟩
      refine ⟨.no, ⟨fun _ _ _ => trivial, fun _ _ _ _ _ => trivial⟩, fun val h_ W hx he => ⟨19, rfl, .inr rfl⟩, ?_⟩
      refine ⟨.no, ⟨fun _ _ _ => trivial, fun _ _ _ _ _ => trivial⟩, fun val h_ W hx he => ⟨19, rfl, .inr rfl⟩, ?_⟩
      refine ⟨.no, ⟨fun _ _ _ => trivial, fun _ _ _ _ _ => trivial⟩, fun val h_ W hx he => ⟨19, rfl, .inr rfl⟩, ?_⟩
      refine ⟨.no, ⟨fun _ _ _ => trivial, fun _ _ _ _ _ => trivial⟩, fun val h_ W hx he => ⟨19, rfl, .inr rfl⟩, ?_⟩
      refine ⟨.no, ⟨fun _ _ _ => trivial, fun _ _ _ _ _ => trivial⟩, fun val h_ W hx he => ⟨19, rfl, .inr rfl⟩, ?_⟩
      refine ⟨.no, ⟨fun _ _ _ => trivial, fun _ _ _ _ _ => trivial⟩, fun val h_ W hx he => ⟨19, rfl, .inr rfl⟩, ?_⟩
      refine ⟨.no, ⟨fun _ _ _ => trivial, fun _ _ _ _ _ => trivial⟩, fun val h_ W hx he => ⟨19, rfl, .inr rfl⟩, ?_⟩
      refine ⟨.no, ⟨fun _ _ _ => trivial, fun _ _ _ _ _ => trivial⟩, fun val h_ W hx he => ⟨19, rfl, .inr rfl⟩, ?_⟩
      refine ⟨.no, ⟨fun _ _ _ => trivial, fun _ _ _ _ _ => trivial⟩, fun val h_ W hx he => ⟨19, rfl, .inr rfl⟩, ?_⟩
      intro val W13 hx13 he13
      replace hx13 := (Upd.drew _ _).trans hx13
      have hz13 := hx13.size
      replace hl := hl.ext hx13
      replace hU := hU.trans (Ext.upd hx13)
      refine L_gu (dj := 19) rfl rfl rfl ?_
      refine L_gn (dj := 16) (t := true) rfl rfl rfl rfl ?_
      refine L_op rfl (X_pick (t := true) (v := (.bool (true))) rfl rfl ?_)
      refine L_nil ?_
      refine T_n ?_
      refine W_ct rfl ?_
      refine W_seq ?_
      refine W_reg ?_
      refine L_op rfl (X_assign (v := (.bool (false))) rfl ?_)
      refine L_nil ?_
      refine T_n ?_
      refine W_ret ?_
      refine B_r ?_
      refine T_r ?_
      refine T_r ?_
      refine B_r ?_
      refine T_r ?_
      have hR : ¬ RightI (dsI es) := fun h => by obtain ⟨h1, h2⟩ := hst.1 (h.2 i (by rw [dsI_len]; exact hi)); exact of_decide_eq_false hs3 h1
      exact BQ_r (End_1 Tryd.results11 (v := .bool false) rfl ⟨by rw [decide_eq_false hR], hU.own hn0⟩)
  · refine L_op rfl (X_cmp (k := .i64) (a := ((i : Nat) : Int)) (b := ((es.length : Nat) : Int)) (r := false) rfl rfl rfl (decide_eq_false (p := ((((i : Nat) : Int)) : Int) < ((((es.length : Nat) : Int)) : Int)) (by omega)) ?_)
    refine L_nil ?_
    refine T_n ?_
    refine W_cf rfl ?_
    refine W_exit ?_
    refine T_e ?_
    refine T_e ?_
    refine B_x ?_
    refine T_n ?_
    refine W_seq ?_
    refine W_reg ?_
    refine L_op rfl (X_move (v := l) rfl ?_)
    refine L_op rfl (X_len (v := l) (n := es.length) Tryd.underlying22 rfl hl.sv ?_)
    by_cases hc14 : (((es.length : Nat) : Int) : Int) ≤ (6)
    · refine L_op rfl (X_cmp (k := .i64) (a := ((es.length : Nat) : Int)) (b := 6) (r := true) rfl rfl rfl (decide_eq_true (p := ((((es.length : Nat) : Int)) : Int) ≤ ((6) : Int)) (by omega)) ?_)
      refine L_op rfl (X_assign (v := (.bool (true))) rfl ?_)
      refine L_nil ?_
      refine T_n ?_
      refine W_ret ?_
      have hR : RightI (dsI es) := ⟨by rw [dsI_len]; omega, fun j hj => hz j (by rw [dsI_len] at hj; omega)⟩
      exact BQ_r (End_1 Tryd.results11 (v := .bool true) rfl ⟨by rw [decide_eq_true hR], hU.own hn0⟩)
    · refine L_op rfl (X_cmp (k := .i64) (a := ((es.length : Nat) : Int)) (b := 6) (r := false) rfl rfl rfl (decide_eq_false (p := ((((es.length : Nat) : Int)) : Int) ≤ ((6) : Int)) (by omega)) ?_)
      refine L_op rfl (X_assign (v := (.bool (false))) rfl ?_)
      refine L_nil ?_
      refine T_n ?_
      refine W_ret ?_
      have hR : ¬ RightI (dsI es) := fun h => by have h1 := h.1; rw [dsI_len] at h1; omega
      exact BQ_r (End_1 Tryd.results11 (v := .bool false) rfl ⟨by rw [decide_eq_false hR], hU.own hn0⟩)
end Go.Proofs.YtmddmghgkkjbiaaDoor
