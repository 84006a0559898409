/-
  The references of chapter 08: fits, Encode. (Printed by wip/gen/t08s.py of this repo.)
-/
import Derived.Test.YtmggaahkfidfaaaDoorRefsB
import Derived.Test.YtmggaahkfidfaaaDoorBaseWT
namespace Go.Proofs.YtmggaahkfidfaaaDoor
open Go Go.SL Go.Proofs
set_option linter.unusedVariables false

instance nextDec (q : Pt) : Decidable (NextOk q) := inferInstanceAs (Decidable (_ ∨ _))

theorem c_fitsR (q : Pt) (w : World) (hq : PtOk q) : CT Tryd.prog 25 #[(.agg (ptC q).toArray)] w fun v w' => v = .bool (decide (NextOk q)) ∧ Ext w w' := by
  obtain ⟨n0, hn0⟩ : ∃ n, n = w.heap.size := ⟨_, rfl⟩
  have hU : Upd (fun i => n0 ≤ i) w w := Upd.refl _ _
  refine CT_of Tryd.func25 rfl rfl rfl ?_
  refine W_seq ?_
  refine W_reg ?_
  refine L_op rfl (X_box (v := (.agg (ptC q).toArray)) (c := ((ptC q)).toArray) rfl rfl ?_)
  intro b1 w1 hn1
  have hbn1 := hn1.num; have hbs1 := hn1.size
  replace hU := hU.trans (Ext.upd hn1.ext)
  have hB1 := hn1.blk
  refine L_op rfl (X_assign (v := (.bool (false))) rfl ?_)
  refine L_nil ?_
  refine T_n ?_
  refine W_seq ?_
  refine W_reg ?_
  refine L_op rfl (X_loadA (p := (ptr b1 (0))) (xs := ptC q) A28 rfl hB1.atAll rfl ?_)
  refine L_op rfl (X_build built28z ?_)
  rcases Bool.eq_false_or_eq_true (q == ptZ) with hc2 | hc2
  · refine L_op rfl (X_eqP (p := q) (q := ptZ) (r := true) Tryd.underlying28 u28 (by kernel_rfl) (by decide) ⟨rfl, rfl, rfl, rfl⟩ Tryd.underlying5 Tryd.underlying24 (by kernel_rfl) Tryd.underlying23 (ie := _) rfl (by kernel_rfl) Tryd.underlying25 Tryd.underlying26 (by kernel_rfl) rfl rfl (.inl ⟨rfl, hc2⟩) ?_)
    refine L_op rfl (X_move (v := (.bool (true))) rfl ?_)
    refine L_gn (dj := 6) (t := true) rfl rfl rfl rfl ?_
    refine L_gn (dj := 6) (t := true) rfl rfl rfl rfl ?_
    refine L_gn (dj := 6) (t := true) rfl rfl rfl rfl ?_
    refine L_gn (dj := 6) (t := true) rfl rfl rfl rfl ?_
    refine L_gu (dj := 10) rfl rfl rfl ?_
    refine L_gu (dj := 10) rfl rfl rfl ?_
    refine L_gn (dj := 6) (t := true) rfl rfl rfl rfl ?_
    refine L_op rfl (X_pick (t := true) (v := (.bool (true))) rfl rfl ?_)
    refine L_op rfl (X_assign (v := (.bool (true))) rfl ?_)
    refine L_nil ?_
    refine T_n ?_
    refine W_ret ?_
    exact BQ_r (End_1 Tryd.results25 (v := .bool true) rfl ⟨congrArg Value.bool (decide_eq_true (Or.inl (eq_of_beq hc2))).symm, hU.own hn0⟩)
  · refine L_op rfl (X_eqP (p := q) (q := ptZ) (r := false) Tryd.underlying28 u28 (by kernel_rfl) (by decide) ⟨rfl, rfl, rfl, rfl⟩ Tryd.underlying5 Tryd.underlying24 (by kernel_rfl) Tryd.underlying23 (ie := _) rfl (by kernel_rfl) Tryd.underlying25 Tryd.underlying26 (by kernel_rfl) rfl rfl (.inl ⟨rfl, hc2⟩) ?_)
    refine L_op rfl (X_move (v := (.bool (false))) rfl ?_)
    refine L_gy (dj := 6) rfl rfl rfl (X_fldP (b := b1) (o := 0) (r := 0) Fd28_0 rfl rfl ?_)
    refine L_gy (dj := 6) rfl rfl rfl (X_load (p := (ptr b1 (0))) (v := (.int .u8 (q.1))) T5 rfl (hB1.at1 rfl) ?_)
    by_cases hc3 : (q.1 : Int) = (3)
    · refine L_gy (dj := 6) rfl rfl rfl (X_cmp (k := .u8) (a := q.1) (b := 3) (r := true) rfl rfl rfl (decide_eq_true (p := ((q.1) : Int) = ((3) : Int)) (by omega)) ?_)
      refine L_gy (dj := 6) rfl rfl rfl (X_move (v := (.bool (true))) rfl ?_)
      refine L_gy (dj := 10) rfl rfl rfl (X_loadA (p := (ptr b1 (0))) (xs := ptC q) A28 rfl hB1.atAll rfl ?_)
      refine L_gy (dj := 10) rfl rfl rfl (X_fn (vs := [(.agg (ptC q).toArray), (.int .i64 (256))]) en9 rfl (CT.mono (c_rightR q 256 _ hq) ?_))
      rintro _ w4 ⟨rfl, hu4⟩
      have hz4 := hu4.size
      replace hU := hU.trans (Ext.upd hu4)
      replace hB1 := hB1.ext hu4
      rcases Bool.eq_false_or_eq_true (decide (RightP q 256)) with hc5 | hc5
      · rw [hc5]
        refine L_gy (dj := 6) rfl rfl rfl (X_pick (t := true) (v := (.bool (true))) rfl rfl ?_)
        refine L_op rfl (X_pick (t := false) (v := (.bool (true))) rfl rfl ?_)
        refine L_op rfl (X_assign (v := (.bool (true))) rfl ?_)
        refine L_nil ?_
        refine T_n ?_
        refine W_ret ?_
        exact BQ_r (End_1 Tryd.results25 (v := .bool true) rfl ⟨congrArg Value.bool (decide_eq_true (Or.inr ⟨by omega, of_decide_eq_true hc5⟩)).symm, hU.own hn0⟩)
      · rw [hc5]
        refine L_gy (dj := 6) rfl rfl rfl (X_pick (t := true) (v := (.bool (false))) rfl rfl ?_)
        refine L_op rfl (X_pick (t := false) (v := (.bool (false))) rfl rfl ?_)
        refine L_op rfl (X_assign (v := (.bool (false))) rfl ?_)
        refine L_nil ?_
        refine T_n ?_
        refine W_ret ?_
        exact BQ_r (End_1 Tryd.results25 (v := .bool false) rfl ⟨congrArg Value.bool (decide_eq_false fun h3 => by rcases h3 with h3 | h3; (· exact ne_of_beq_false hc2 h3); (· exact of_decide_eq_false hc5 h3.2)).symm, hU.own hn0⟩)
    · refine L_gy (dj := 6) rfl rfl rfl (X_cmp (k := .u8) (a := q.1) (b := 3) (r := false) rfl rfl rfl (decide_eq_false (p := ((q.1) : Int) = ((3) : Int)) (by omega)) ?_)
      refine L_gy (dj := 6) rfl rfl rfl (X_move (v := (.bool (false))) rfl ?_)
      refine L_gn (dj := 10) (t := false) rfl rfl rfl rfl ?_
      refine L_gn (dj := 10) (t := false) rfl rfl rfl rfl ?_
      refine L_gy (dj := 6) rfl rfl rfl (X_pick (t := false) (v := (.bool (false))) rfl rfl ?_)
      refine L_op rfl (X_pick (t := false) (v := (.bool (false))) rfl rfl ?_)
      refine L_op rfl (X_assign (v := (.bool (false))) rfl ?_)
      refine L_nil ?_
      refine T_n ?_
      refine W_ret ?_
      exact BQ_r (End_1 Tryd.results25 (v := .bool false) rfl ⟨congrArg Value.bool (decide_eq_false fun h3 => by rcases h3 with h3 | h3; (· exact ne_of_beq_false hc2 h3); (· omega)).symm, hU.own hn0⟩)

theorem c_encodeR (b : Value) (l : List UInt8) (q : Pt) (w : World) (hq : PtOk q) (hb : Rd w 1 b l.length (l.map byteV)) : CT Tryd.prog 11 #[b, (.agg (ptC q).toArray)] w fun v w' => v = .tuple #[.agg ((encP l q).map byteV).toArray, .int .i64 (encE l q)] ∧ Ext w w' := by
  obtain ⟨n0, hn0⟩ : ∃ n, n = w.heap.size := ⟨_, rfl⟩
  have hU : Upd (fun i => n0 ≤ i) w w := Upd.refl _ _
  have hb_b : ∀ i, rbk b = some i → i < n0 := by rw [hn0]; exact fun i hi => hb.bound (by decide) hi
  refine CT_of Tryd.func11 rfl rfl rfl ?_
  refine W_seq ?_
  refine W_reg ?_
  refine L_op rfl (X_box (v := (.agg (ptC q).toArray)) (c := ((ptC q)).toArray) rfl rfl ?_)
  intro b1 w1 hn1
  have hbn1 := hn1.num; have hbs1 := hn1.size
  replace hb := hb.ext hn1.ext
  replace hU := hU.trans (Ext.upd hn1.ext)
  have hB1 := hn1.blk
  refine L_op rfl (X_alloc (z := zv30) (c := zc30.toArray) Zv30 rfl ?_)
  intro b2 w2 hn2
  have hbn2 := hn2.num; have hbs2 := hn2.size
  replace hb := hb.ext hn2.ext
  replace hU := hU.trans (Ext.upd hn2.ext)
  replace hB1 := hB1.ext hn2.ext
  have hB2 := hn2.blk
  rw [zc30_eq] at hB2
  refine L_op rfl (X_assign (v := (.int .i64 (0))) rfl ?_)
  refine L_nil ?_
  refine T_n ?_
  refine W_seq ?_
  refine W_seq ?_
  refine W_reg ?_
  refine L_op rfl (X_move (v := b) rfl ?_)
  refine L_op rfl (X_len (v := b) (n := l.length) Tryd.underlying22 rfl hb.sv ?_)
  by_cases hc3 : (((l.length : Nat) : Int) : Int) < (1)
  · refine L_op rfl (X_cmp (k := .i64) (a := ((l.length : Nat) : Int)) (b := 1) (r := true) rfl rfl rfl (decide_eq_true (p := ((((l.length : Nat) : Int)) : Int) < ((1) : Int)) (by omega)) ?_)
    refine L_op rfl (X_move (v := (.bool (true))) rfl ?_)
    refine L_gn (dj := 11) (t := true) rfl rfl rfl rfl ?_
    refine L_gn (dj := 11) (t := true) rfl rfl rfl rfl ?_
    refine L_gn (dj := 11) (t := true) rfl rfl rfl rfl ?_
    refine L_op rfl (X_pick (t := true) (v := (.bool (true))) rfl rfl ?_)
    refine L_op rfl (X_move (v := (.bool (true))) rfl ?_)
    refine L_gn (dj := 16) (t := true) rfl rfl rfl rfl ?_
    refine L_gn (dj := 16) (t := true) rfl rfl rfl rfl ?_
    refine L_gn (dj := 16) (t := true) rfl rfl rfl rfl ?_
    refine L_op rfl (X_pick (t := true) (v := (.bool (true))) rfl rfl ?_)
    refine L_nil ?_
    refine T_n ?_
    refine W_ct rfl ?_
    refine W_seq ?_
    refine W_reg ?_
    refine L_op rfl (X_build built30z ?_)
    refine L_op0 (X_storeW (b := b2) (ys := (((List.replicate 256 (0 : UInt8))).map byteV)) A30 rfl rfl (byteV_one _) (by rw [List.length_map]; exact List.length_replicate) hB2 (by rw [List.size_toArray]; exact (by rw [List.length_map]; exact List.length_replicate)) ?_)
    intro w4 hu4 hb4
    have hz4 := hu4.size
    replace hb := hb.upd hu4 fun i hi h => by have hi := hb_b _ hi; have h : i = b2 := h; omega
    replace hU := hU.trans (hu4.mono fun i _ h => by have h : i = b2 := h; show n0 ≤ i; omega)
    replace hB1 := hB1.upd hu4 fun h => by have h : b1 = b2 := h; omega
    replace hB2 := hb4
    refine L_op rfl (X_assign (v := (.int .i64 (2))) rfl ?_)
    refine L_nil ?_
    refine T_n ?_
    refine W_ret ?_
    refine T_r ?_
    have hno : ¬ EncOk l q := fun h => by obtain ⟨h1, h2, _⟩ := h; omega
    exact BQ_r (End_2 Tryd.results11 (RV_A A30 rfl hB2.atAll (by rw [List.length_map]; exact List.length_replicate)) (v2 := .int .i64 2) rfl ⟨by rw [encP_no hno, encE_no hno], hU.own hn0⟩)
  · refine L_op rfl (X_cmp (k := .i64) (a := ((l.length : Nat) : Int)) (b := 1) (r := false) rfl rfl rfl (decide_eq_false (p := ((((l.length : Nat) : Int)) : Int) < ((1) : Int)) (by omega)) ?_)
    refine L_op rfl (X_move (v := (.bool (false))) rfl ?_)
    refine L_gy (dj := 11) rfl rfl rfl (X_move (v := b) rfl ?_)
    refine L_gy (dj := 11) rfl rfl rfl (X_len (v := b) (n := l.length) Tryd.underlying22 rfl hb.sv ?_)
    by_cases hc5 : (((l.length : Nat) : Int) : Int) > (200)
    · refine L_gy (dj := 11) rfl rfl rfl (X_cmp (k := .i64) (a := ((l.length : Nat) : Int)) (b := 200) (r := true) rfl rfl rfl (decide_eq_true (p := ((200) : Int) < ((((l.length : Nat) : Int)) : Int)) (by omega)) ?_)
      refine L_op rfl (X_pick (t := false) (v := (.bool (true))) rfl rfl ?_)
      refine L_op rfl (X_move (v := (.bool (true))) rfl ?_)
      refine L_gn (dj := 16) (t := true) rfl rfl rfl rfl ?_
      refine L_gn (dj := 16) (t := true) rfl rfl rfl rfl ?_
      refine L_gn (dj := 16) (t := true) rfl rfl rfl rfl ?_
      refine L_op rfl (X_pick (t := true) (v := (.bool (true))) rfl rfl ?_)
      refine L_nil ?_
      refine T_n ?_
      refine W_ct rfl ?_
      refine W_seq ?_
      refine W_reg ?_
      refine L_op rfl (X_build built30z ?_)
      refine L_op0 (X_storeW (b := b2) (ys := (((List.replicate 256 (0 : UInt8))).map byteV)) A30 rfl rfl (byteV_one _) (by rw [List.length_map]; exact List.length_replicate) hB2 (by rw [List.size_toArray]; exact (by rw [List.length_map]; exact List.length_replicate)) ?_)
      intro w6 hu6 hb6
      have hz6 := hu6.size
      replace hb := hb.upd hu6 fun i hi h => by have hi := hb_b _ hi; have h : i = b2 := h; omega
      replace hU := hU.trans (hu6.mono fun i _ h => by have h : i = b2 := h; show n0 ≤ i; omega)
      replace hB1 := hB1.upd hu6 fun h => by have h : b1 = b2 := h; omega
      replace hB2 := hb6
      refine L_op rfl (X_assign (v := (.int .i64 (2))) rfl ?_)
      refine L_nil ?_
      refine T_n ?_
      refine W_ret ?_
      refine T_r ?_
      have hno : ¬ EncOk l q := fun h => by obtain ⟨h1, h2, _⟩ := h; omega
      exact BQ_r (End_2 Tryd.results11 (RV_A A30 rfl hB2.atAll (by rw [List.length_map]; exact List.length_replicate)) (v2 := .int .i64 2) rfl ⟨by rw [encP_no hno, encE_no hno], hU.own hn0⟩)
    · refine L_gy (dj := 11) rfl rfl rfl (X_cmp (k := .i64) (a := ((l.length : Nat) : Int)) (b := 200) (r := false) rfl rfl rfl (decide_eq_false (p := ((200) : Int) < ((((l.length : Nat) : Int)) : Int)) (by omega)) ?_)
      refine L_op rfl (X_pick (t := false) (v := (.bool (false))) rfl rfl ?_)
      refine L_op rfl (X_move (v := (.bool (false))) rfl ?_)
      refine L_gy (dj := 16) rfl rfl rfl (X_loadA (p := (ptr b1 (0))) (xs := ptC q) A28 rfl hB1.atAll rfl ?_)
      refine L_gy (dj := 16) rfl rfl rfl (X_fn (vs := [(.agg (ptC q).toArray)]) en25 rfl (CT.mono (c_fitsR q _ hq) ?_))
      rintro _ w7 ⟨rfl, hu7⟩
      have hz7 := hu7.size
      replace hb := hb.ext hu7
      replace hU := hU.trans (Ext.upd hu7)
      replace hB1 := hB1.ext hu7
      replace hB2 := hB2.ext hu7
      rcases Bool.eq_false_or_eq_true (decide (NextOk q)) with hc8 | hc8
      · rw [hc8]
        refine L_gy (dj := 16) rfl rfl rfl (X_not (b := true) (r := false) rfl rfl ?_)
        refine L_op rfl (X_pick (t := false) (v := (.bool (false))) rfl rfl ?_)
        refine L_nil ?_
        refine T_n ?_
        refine W_cf rfl ?_
        refine W_skip ?_
        refine T_n ?_
        refine W_seq ?_
        obtain ⟨n3, hn3⟩ : ∃ n, n = w7.heap.size := ⟨_, rfl⟩
        have hb1l := hB1.lt; have hb2l := hB2.lt
        refine W_drawT 11 [[], [], [0, 1], [], [0, 1, 2, 3], [0, 1, 2, 3, 4], [0, 1, 2, 3, 4, 5], [0, 1, 2, 3, 4, 5, 6], [0, 1, 2, 3, 4, 5, 6], [], [0, 1, 2, 3, 4, 5, 6, 7, 9], [0, 1, 2, 3, 4, 5, 6, 7, 8, 9, 10]] [[], [], [0, 1], [], [0, 1, 2, 3], [0, 1, 2, 3, 4], [0, 1, 2, 3, 4, 5], [0, 1, 2, 3, 4, 5, 6], [1, 3, 5, 6], [], [0, 1, 2, 3, 4, 5, 6, 7, 9]] [1, 3, 5, 6, 7, 8, 10] [[], [], [], [], [], [], [], [], [], [], [0, 2, 4, 9]] (fun j b => (j = 10 ∧ n3 ≤ b)) mixed (by kernel_rfl) (by decide) ?_
        refine ⟨.abs (fun _ x_ W_ => ∃ b, x_ = .slice (some ⟨b, 0, none⟩) 1 1 ∧ Blk W_ b #[.int .u8 3] 5), ⟨fun _ _ _ => rfl, fun _ _ _ _ hu0 h => have hu : Upd (fun b => False) _ _ := hu0.mono fun b _ h_ => (by obtain ⟨j, _, hne, hm_, hk_, hS⟩ := h_; obtain ⟨rfl, hS⟩ := hS; exact absurd hk_ (by decide))
           (by obtain ⟨b, e1, e2⟩ := h; exact ⟨b, e1, e2.ext hu⟩)⟩, fun val h_ W hx he => ⟨trivial, ?_⟩, ?_⟩
        · replace hx := (Upd.drew _ _).trans hx
          replace hx : Upd (fun b => False) w7 W := hx.mono fun b _ h_ => by obtain ⟨j, _, hne, hm_, hS⟩ := h_; obtain ⟨rfl, hS⟩ := hS; exact absurd hm_ (by decide)
          replace hb := hb.ext hx
          replace hB1 := hB1.ext hx
          replace hB2 := hB2.ext hx
          have hE := Upd.refl (fun _ => False) W
          refine X_buildSlice1 (vs := [.int .u8 3]) S22 (by decide) rfl rfl (List.forall_mem_cons.2 ⟨rfl, fun _ h => by cases h⟩) ?_
          intro b w2 hn
          exact ⟨Ext.upd hn.ext, b, rfl, hn.blk⟩
        refine ⟨.det (fun val => b), ⟨fun _ _ hv => rfl, fun _ _ _ _ _ => trivial⟩, fun val h_ W hx he => ⟨trivial, ?_⟩, ?_⟩
        · replace hx := (Upd.drew _ _).trans hx
          replace hx : Upd (fun b => False) w7 W := hx.mono fun b _ h_ => by obtain ⟨j, _, hne, hm_, hS⟩ := h_; obtain ⟨rfl, hS⟩ := hS; exact absurd hm_ (by decide)
          replace hb := hb.ext hx
          replace hB1 := hB1.ext hx
          replace hB2 := hB2.ext hx
          have hE := Upd.refl (fun _ => False) W
          refine id (X_move (v := b) rfl ?_)
          exact ⟨Ext.upd hE, rfl⟩
        refine ⟨.abs (fun _ x_ W_ => Rd W_ 1 x_ ([3] ++ sizedB l).length (([3] ++ sizedB l).map byteV)), ⟨fun _ _ _ => rfl, fun _ _ _ _ hu0 h => have hu : Upd (fun b => False) _ _ := hu0.mono fun b _ h_ => (by obtain ⟨j, _, hne, hm_, hk_, hS⟩ := h_; obtain ⟨rfl, hS⟩ := hS; exact absurd hk_ (by decide))
           (by have h2 := Rd.ext h hu; exact h2)⟩, fun val h_ W hx he => ⟨trivial, ?_⟩, ?_⟩
        · replace hx := (Upd.drew _ _).trans hx
          replace hx : Upd (fun b => False) w7 W := hx.mono fun b _ h_ => by obtain ⟨j, _, hne, hm_, hS⟩ := h_; obtain ⟨rfl, hS⟩ := hS; exact absurd hm_ (by decide)
          replace hb := hb.ext hx
          replace hB1 := hB1.ext hx
          replace hB2 := hB2.ext hx
          have hE := Upd.refl (fun _ => False) W
          obtain ⟨⟨bl, hbl, hBl⟩, _⟩ := he
          have hlit : Rd W 1 (val 0) [(3 : UInt8)].length ([(3 : UInt8)].map byteV) := by rw [hbl]; exact hBl.rd (o := 0) (n := 1) (c := 1) (sz := 1) (by decide) (by decide) rfl (fun j u hj => by rw [Nat.zero_add]; simpa [byteV] using hj)
          refine X_fn (vs := [val 0, b]) en28 rfl (CT.mono (c_putBytesR (val 0) b [3] l _ (by decide) hlit hb) ?_)
          rintro v9 w9 ⟨hO9, hu9⟩
          exact ⟨Ext.upd hu9, hO9.rd⟩
        refine ⟨.det (fun val => (.agg (ptC q).toArray)), ⟨fun _ _ hv => rfl, fun _ _ _ _ _ => trivial⟩, fun val h_ W hx he => ⟨trivial, ?_⟩, ?_⟩
        · replace hx := (Upd.drew _ _).trans hx
          replace hx : Upd (fun b => False) w7 W := hx.mono fun b _ h_ => by obtain ⟨j, _, hne, hm_, hS⟩ := h_; obtain ⟨rfl, hS⟩ := hS; exact absurd hm_ (by decide)
          replace hb := hb.ext hx
          replace hB1 := hB1.ext hx
          replace hB2 := hB2.ext hx
          have hE := Upd.refl (fun _ => False) W
          refine id (X_loadA (p := (ptr b1 (0))) (xs := ptC q) A28 rfl hB1.atAll rfl ?_)
          exact ⟨Ext.upd hE, rfl⟩
        refine ⟨.abs (fun _ x_ W_ => Rd W_ 1 x_ (([3] ++ sizedB l) ++ ptrB q).length ((([3] ++ sizedB l) ++ ptrB q).map byteV)), ⟨fun _ _ _ => rfl, fun _ _ _ _ hu0 h => have hu : Upd (fun b => False) _ _ := hu0.mono fun b _ h_ => (by obtain ⟨j, _, hne, hm_, hk_, hS⟩ := h_; obtain ⟨rfl, hS⟩ := hS; exact absurd hk_ (by decide))
           (by have h2 := Rd.ext h hu; exact h2)⟩, fun val h_ W hx he => ⟨trivial, ?_⟩, ?_⟩
        · replace hx := (Upd.drew _ _).trans hx
          replace hx : Upd (fun b => False) w7 W := hx.mono fun b _ h_ => by obtain ⟨j, _, hne, hm_, hS⟩ := h_; obtain ⟨rfl, hS⟩ := hS; exact absurd hm_ (by decide)
          replace hb := hb.ext hx
          replace hB1 := hB1.ext hx
          replace hB2 := hB2.ext hx
          have hE := Upd.refl (fun _ => False) W
          obtain ⟨hR2, _⟩ := he
          refine X_fn (vs := [val 2, .agg (ptC q).toArray]) en27 rfl (CT.mono (c_ptrPutR (val 2) ([3] ++ sizedB l) q _ hq (by rw [List.length_append, sizedB_length, List.length_take]; show 1 + _ ≤ _; omega) hR2) ?_)
          rintro v9 w9 ⟨hO9, hu9⟩
          exact ⟨Ext.upd hu9, hO9.rd⟩
        refine ⟨.det (fun _ => (.tuple #[(.agg (((encL l q)).map byteV).toArray), (.int .i64 (0))])), ⟨fun _ _ _ => rfl, fun _ _ _ _ _ => trivial⟩, fun val h_ W hx he => ⟨trivial, ?_⟩, ?_⟩
        · replace hx := (Upd.drew _ _).trans hx
          replace hx : Upd (fun b => False) w7 W := hx.mono fun b _ h_ => by obtain ⟨j, _, hne, hm_, hS⟩ := h_; obtain ⟨rfl, hS⟩ := hS; exact absurd hm_ (by decide)
          replace hb := hb.ext hx
          replace hB1 := hB1.ext hx
          replace hB2 := hB2.ext hx
          have hE := Upd.refl (fun _ => False) W
          obtain ⟨hR4, _⟩ := he
          refine X_fn (vs := [val 4]) en26 rfl (CT.mono (c_fillR (val 4) (([3] ++ sizedB l) ++ ptrB q) _ hR4) ?_)
          rintro v9 w9 ⟨e, rfl, _, he0, hu9⟩
          rw [he0 (enc_big (by omega))]
          exact ⟨Ext.upd hu9, rfl⟩
        refine ⟨.det (fun val => (.tuple #[(.agg (((encL l q)).map byteV).toArray), (.int .i64 (0))])), ⟨fun _ _ hv => rfl, fun _ _ _ _ _ => trivial⟩, fun val h_ W hx he => ⟨trivial, ?_⟩, ?_⟩
        · replace hx := (Upd.drew _ _).trans hx
          replace hx : Upd (fun b => False) w7 W := hx.mono fun b _ h_ => by obtain ⟨j, _, hne, hm_, hS⟩ := h_; obtain ⟨rfl, hS⟩ := hS; exact absurd hm_ (by decide)
          replace hb := hb.ext hx
          replace hB1 := hB1.ext hx
          replace hB2 := hB2.ext hx
          have hE := Upd.refl (fun _ => False) W
          obtain ⟨hR4, he⟩ := he
          obtain ⟨hR2, he⟩ := he
          obtain ⟨⟨bl, hbl, hBl⟩, he⟩ := he
          refine id (X_move (v := (.tuple #[(.agg (((encL l q)).map byteV).toArray), (.int .i64 (0))])) rfl ?_)
          exact ⟨Ext.upd hE, rfl⟩
        refine ⟨.det (fun val => (.agg (((encL l q)).map byteV).toArray)), ⟨fun _ _ hv => rfl, fun _ _ _ _ _ => trivial⟩, fun val h_ W hx he => ⟨trivial, ?_⟩, ?_⟩
        · replace hx := (Upd.drew _ _).trans hx
          replace hx : Upd (fun b => False) w7 W := hx.mono fun b _ h_ => by obtain ⟨j, _, hne, hm_, hS⟩ := h_; obtain ⟨rfl, hS⟩ := hS; exact absurd hm_ (by decide)
          replace hb := hb.ext hx
          replace hB1 := hB1.ext hx
          replace hB2 := hB2.ext hx
          have hE := Upd.refl (fun _ => False) W
          obtain ⟨hR4, he⟩ := he
          obtain ⟨hR2, he⟩ := he
          obtain ⟨⟨bl, hbl, hBl⟩, he⟩ := he
          refine id (X_extract (l := [(.agg (((encL l q)).map byteV).toArray), (.int .i64 (0))]) (v := (.agg (((encL l q)).map byteV).toArray)) rfl rfl ?_)
          exact ⟨Ext.upd hE, rfl⟩
        refine ⟨.det (fun val => (.int .i64 (0))), ⟨fun _ _ hv => rfl, fun _ _ _ _ _ => trivial⟩, fun val h_ W hx he => ⟨trivial, ?_⟩, ?_⟩
        · replace hx := (Upd.drew _ _).trans hx
          replace hx : Upd (fun b => (n3 ≤ b)) w7 W := hx.mono fun b _ h_ => by obtain ⟨j, _, hne, hm_, hS⟩ := h_; obtain ⟨rfl, hS⟩ := hS; exact hS
          replace hb := hb.upd hx fun i hi h => by have hi := hb_b _ hi; have h : n3 ≤ i := h; omega
          replace hB1 := hB1.upd hx fun h => by have h : n3 ≤ b1 := h; omega
          replace hB2 := hB2.upd hx fun h => by have h : n3 ≤ b2 := h; omega
          have hE := Upd.refl (fun _ => False) W
          refine id (X_extract (l := [(.agg (((encL l q)).map byteV).toArray), (.int .i64 (0))]) (v := (.int .i64 (0))) rfl rfl ?_)
          exact ⟨Ext.upd hE, rfl⟩
        refine ⟨.abs (fun _ x_ W_ => ∃ b, x_ = ptr b 0 ∧ n3 ≤ b ∧ Blk W_ b ((List.replicate 256 (0 : UInt8)).map byteV).toArray 30), ⟨fun _ _ _ => rfl, fun _ _ _ _ hu0 h => have hu : Upd (fun b => False) _ _ := hu0.mono fun b _ h_ => (by obtain ⟨j, _, hne, hm_, hk_, hS⟩ := h_; obtain ⟨rfl, hS⟩ := hS; exact absurd hk_ (by decide))
           (by obtain ⟨b, e1, e2, e3⟩ := h; exact ⟨b, e1, e2, e3.ext hu⟩)⟩, fun val h_ W hx he => ⟨trivial, ?_⟩, ?_⟩
        · replace hx := (Upd.drew _ _).trans hx
          replace hx : Upd (fun b => False) w7 W := hx.mono fun b _ h_ => by obtain ⟨j, _, hne, hm_, hS⟩ := h_; obtain ⟨rfl, hS⟩ := hS; exact absurd hm_ (by decide)
          replace hb := hb.ext hx
          replace hB1 := hB1.ext hx
          replace hB2 := hB2.ext hx
          have hE := Upd.refl (fun _ => False) W
          refine X_alloc (z := zv30) (c := zc30.toArray) Zv30 rfl ?_
          intro b w2 hn
          have hb30 := hn.blk
          rw [zc30_eq] at hb30
          have hxs := hx.size
          have hnn := hn.num
          exact ⟨Ext.upd hn.ext, b, rfl, by omega, hb30⟩
        refine ⟨.abs (fun val x_ W_ => ∃ b, val 9 = ptr b 0 ∧ n3 ≤ b ∧ Blk W_ b ((encL l q).map byteV).toArray 30), ⟨fun _ _ hv => by simp only [hv 9 rfl], fun _ _ _ _ hu0 h => have hu : Upd (fun b => False) _ _ := hu0.mono fun b _ h_ => (by obtain ⟨j, _, hne, hm_, hk_, hS⟩ := h_; obtain ⟨rfl, hS⟩ := hS; exact absurd rfl hne)
           (by obtain ⟨b, e1, e2, e3⟩ := h; exact ⟨b, e1, e2, e3.ext hu⟩)⟩, fun val h_ W hx he => ⟨trivial, ?_⟩, ?_⟩
        · replace hx := (Upd.drew _ _).trans hx
          replace hx : Upd (fun b => False) w7 W := hx.mono fun b _ h_ => by obtain ⟨j, _, hne, hm_, hS⟩ := h_; obtain ⟨rfl, hS⟩ := hS; exact absurd rfl hne
          replace hb := hb.ext hx
          replace hB1 := hB1.ext hx
          replace hB2 := hB2.ext hx
          have hE := Upd.refl (fun _ => False) W
          obtain ⟨⟨b9, hb9, hbN9, hB9⟩, _⟩ := he
          refine X_storeW (b := b9) (ys := (encL l q).map byteV) A30 hb9 rfl (byteV_one _) (by rw [List.length_map]; exact encL_len l q) hB9 (by rw [List.size_toArray, List.length_map]; exact List.length_replicate) ?_
          intro w7 hu7 hb7
          exact ⟨hu7.mono fun b _ h => ⟨rfl, by subst h; exact hbN9⟩, b9, hb9, hbN9, hb7⟩
        intro val W9 hx9 he9
        replace hx9 := (Upd.drew _ _).trans hx9
        replace hx9 : Upd (fun b => (n3 ≤ b)) w7 W9 := hx9.mono fun b _ h_ => by obtain ⟨j, _, hS⟩ := h_; obtain ⟨rfl, hS⟩ := hS; exact hS
        have hz9 := hx9.size
        replace hb := hb.upd hx9 fun i hi h => by have hi := hb_b _ hi; have h : n3 ≤ i := h; omega
        replace hU := hU.trans (hx9.mono fun i _ h => by have h : n3 ≤ i := h; show n0 ≤ i; omega)
        replace hB1 := hB1.upd hx9 fun h => by have h : n3 ≤ b1 := h; omega
        replace hB2 := hB2.upd hx9 fun h => by have h : n3 ≤ b2 := h; omega
        obtain ⟨⟨b9, hb9, hbN9, hB9⟩, he9⟩ := he9
        refine L_op rfl (X_assign (v := (.int .i64 (0))) rfl ?_)
        refine L_nil ?_
        refine T_n ?_
        refine W_seq ?_
        refine W_reg ?_
        refine L_op rfl (X_loadA (xs := (encL l q).map byteV) A30 hb9 hB9.atAll (by rw [List.length_map]; exact encL_len l q) ?_)
        refine L_op0 (X_storeW (b := b2) (ys := (((encL l q)).map byteV)) A30 rfl rfl (byteV_one _) (by rw [List.length_map]; exact (encL_len l q)) hB2 (by rw [List.size_toArray]; exact (by rw [List.length_map]; exact List.length_replicate)) ?_)
        intro w10 hu10 hb10
        have hz10 := hu10.size
        replace hb := hb.upd hu10 fun i hi h => by have hi := hb_b _ hi; have h : i = b2 := h; omega
        replace hU := hU.trans (hu10.mono fun i _ h => by have h : i = b2 := h; show n0 ≤ i; omega)
        replace hB1 := hB1.upd hu10 fun h => by have h : b1 = b2 := h; omega
        replace hB9 := hB9.upd hu10 fun h => by have h : b9 = b2 := h; omega
        replace hB2 := hb10
        refine L_op rfl (X_assign (v := (.int .i64 (0))) rfl ?_)
        refine L_nil ?_
        refine T_n ?_
        refine W_ret ?_
        have hok : EncOk l q := ⟨by omega, by omega, of_decide_eq_true hc8⟩
        exact BQ_r (End_2 Tryd.results11 (RV_A A30 rfl hB2.atAll (by rw [List.length_map]; exact encL_len l q)) (v2 := .int .i64 0) rfl ⟨by rw [encP_ok hok, encE_ok hok], hU.own hn0⟩)
      · rw [hc8]
        refine L_gy (dj := 16) rfl rfl rfl (X_not (b := false) (r := true) rfl rfl ?_)
        refine L_op rfl (X_pick (t := false) (v := (.bool (true))) rfl rfl ?_)
        refine L_nil ?_
        refine T_n ?_
        refine W_ct rfl ?_
        refine W_seq ?_
        refine W_reg ?_
        refine L_op rfl (X_build built30z ?_)
        refine L_op0 (X_storeW (b := b2) (ys := (((List.replicate 256 (0 : UInt8))).map byteV)) A30 rfl rfl (byteV_one _) (by rw [List.length_map]; exact List.length_replicate) hB2 (by rw [List.size_toArray]; exact (by rw [List.length_map]; exact List.length_replicate)) ?_)
        intro w11 hu11 hb11
        have hz11 := hu11.size
        replace hb := hb.upd hu11 fun i hi h => by have hi := hb_b _ hi; have h : i = b2 := h; omega
        replace hU := hU.trans (hu11.mono fun i _ h => by have h : i = b2 := h; show n0 ≤ i; omega)
        replace hB1 := hB1.upd hu11 fun h => by have h : b1 = b2 := h; omega
        replace hB2 := hb11
        refine L_op rfl (X_assign (v := (.int .i64 (2))) rfl ?_)
        refine L_nil ?_
        refine T_n ?_
        refine W_ret ?_
        refine T_r ?_
        have hno : ¬ EncOk l q := fun h => by exact of_decide_eq_false hc8 h.2.2
        exact BQ_r (End_2 Tryd.results11 (RV_A A30 rfl hB2.atAll (by rw [List.length_map]; exact List.length_replicate)) (v2 := .int .i64 2) rfl ⟨by rw [encP_no hno, encE_no hno], hU.own hn0⟩)
end Go.Proofs.YtmggaahkfidfaaaDoor
