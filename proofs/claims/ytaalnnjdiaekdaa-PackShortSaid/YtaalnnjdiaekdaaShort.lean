/-
  The walk of PackShort. (Printed by wip/gen/t02short.py of this repo.)
-/
import Derived.Test.YtaalnnjdiaekdaaBack
import Derived.Test.YtaalnnjdiaekdaaBaseG
namespace Go.Proofs.Ytaalnnjdiaekdaa
open Go Go.SL Go.Proofs

theorem sized_len {s : List UInt8} (h : s.length ≤ 255) : (sizedB s).length = s.length + 1 := by rw [sized_full h]; rfl
theorem cut_e {s : List UInt8} {k : Nat} (h : s.length ≤ 255) (h1 : 1 ≤ k) (h2 : k ≤ s.length + 1) : takeE ((sizedB s).take ((sizedB s).length - k)) 255 = 20 := by
  have hl : ((sizedB s).take ((sizedB s).length - k)).length = s.length + 1 - k := by rw [List.length_take, sized_len h]; omega
  rcases Nat.lt_or_ge s.length k with h3 | h3
  · exact take_short0 255 (by rw [hl]; omega)
  · refine take_short (x := UInt8.ofNat s.length) 255 ?_ (by rw [hl, pb_n h]; omega)
    rw [List.getElem?_take_of_lt (by rw [sized_len h]; omega), sized_full h]; rfl
theorem long_e {s : List UInt8} (h : s.length ≤ 255) : takeE (sizedB s) (((s.length : Nat) : Int) - 1) = 21 := by
  have hx : (sizedB s)[0]? = some (UInt8.ofNat s.length) := by rw [sized_full h]; rfl
  exact take_long hx (by rw [pb_n h, sized_len h]; omega) (by rw [pb_n h]; omega)
theorem ts_v {W : Nat} (h : 1 ≤ W) : takeV (List.replicate (W - 1) (0 : UInt8)) W = 0 := by unfold takeV; rw [if_pos (by rw [List.length_replicate]; omega)]
theorem ts_r {W : Nat} (h : 1 ≤ W) : restB (List.replicate (W - 1) (0 : UInt8)) W = List.replicate (W - 1) 0 := by unfold restB; rw [if_pos (by rw [List.length_replicate]; omega)]
theorem ts_e {W : Nat} (h : 1 ≤ W) : (if (List.replicate (W - 1) (0 : UInt8)).length < W then (20 : Int) else 0) = 20 := if_pos (by rw [List.length_replicate]; omega)

theorem c_packShort (bs : Value) (s : List UInt8) (cut m : Int) (w : World) (hs : Rd w 1 bs s.length (s.map byteV)) : CT Try.prog 6 #[bs, (.int .i64 (cut)), (.int .i64 (m))] w fun v w' => v = .bool true ∧ Ext w w' := by
  obtain ⟨n0, hn0⟩ : ∃ n, n = w.heap.size := ⟨_, rfl⟩
  have hU : Upd (fun i => n0 ≤ i) w w := Upd.refl _ _
  have hs_b : ∀ i, rbk bs = some i → i < n0 := by rw [hn0]; exact fun i hi => hs.bound (by decide) hi
  have hsm := hs.len
  refine CT_of Try.func6 rfl rfl rfl ?_
  refine W_seq ?_
  refine W_reg ?_
  refine L_op rfl (X_assign (v := (.bool (false))) rfl ?_)
  refine L_nil ?_
  refine T_n ?_
  refine W_seq ?_
  refine W_seq ?_
  refine W_reg ?_
  refine L_op rfl (X_move (v := bs) rfl ?_)
  refine L_op rfl (X_len (v := bs) (n := s.length) Try.underlying22 rfl hs.sv ?_)
  by_cases hc1 : (((s.length : Nat) : Int) : Int) > (255)
  · refine L_op rfl (X_cmp (k := .i64) (a := ((s.length : Nat) : Int)) (b := 255) (r := true) rfl rfl rfl (decide_eq_true (p := ((255) : Int) < ((((s.length : Nat) : Int)) : Int)) (by omega)) ?_)
    refine L_op rfl (X_move (v := (.bool (true))) rfl ?_)
    refine L_gn (dj := 20) (t := true) rfl rfl rfl rfl ?_
    refine L_gn (dj := 20) (t := true) rfl rfl rfl rfl ?_
    refine L_op rfl (X_pick (t := true) (v := (.bool (true))) rfl rfl ?_)
    refine L_op rfl (X_move (v := (.bool (true))) rfl ?_)
    refine L_gn (dj := 24) (t := true) rfl rfl rfl rfl ?_
    refine L_gn (dj := 24) (t := true) rfl rfl rfl rfl ?_
    refine L_gn (dj := 24) (t := true) rfl rfl rfl rfl ?_
    refine L_gn (dj := 24) (t := true) rfl rfl rfl rfl ?_
    refine L_gn (dj := 24) (t := true) rfl rfl rfl rfl ?_
    refine L_op rfl (X_pick (t := true) (v := (.bool (true))) rfl rfl ?_)
    refine L_op rfl (X_move (v := (.bool (true))) rfl ?_)
    refine L_gn (dj := 31) (t := true) rfl rfl rfl rfl ?_
    refine L_gn (dj := 31) (t := true) rfl rfl rfl rfl ?_
    refine L_op rfl (X_pick (t := true) (v := (.bool (true))) rfl rfl ?_)
    refine L_op rfl (X_move (v := (.bool (true))) rfl ?_)
    refine L_gn (dj := 35) (t := true) rfl rfl rfl rfl ?_
    refine L_gn (dj := 35) (t := true) rfl rfl rfl rfl ?_
    refine L_op rfl (X_pick (t := true) (v := (.bool (true))) rfl rfl ?_)
    refine L_nil ?_
    refine T_n ?_
    refine W_ct rfl ?_
    refine W_seq ?_
    refine W_reg ?_
    refine L_op rfl (X_fn (vs := []) en8 rfl (CT.mono (c_wakes _) ?_))
    rintro vb2 w2 ⟨hvb2, hu2⟩
    have hz2 := hu2.size
    replace hs := hs.ext hu2
    replace hU := hU.trans (Ext.upd hu2)
    subst hvb2
    refine L_op rfl (X_assign (v := (.bool (true))) rfl ?_)
    refine L_nil ?_
    refine T_n ?_
    refine W_ret ?_
    refine T_r ?_
    exact BQ_r (End_1 Try.results6 (v := .bool true) rfl ⟨rfl, hU.own hn0⟩)
  · refine L_op rfl (X_cmp (k := .i64) (a := ((s.length : Nat) : Int)) (b := 255) (r := false) rfl rfl rfl (decide_eq_false (p := ((255) : Int) < ((((s.length : Nat) : Int)) : Int)) (by omega)) ?_)
    refine L_op rfl (X_move (v := (.bool (false))) rfl ?_)
    refine L_gy (dj := 20) rfl rfl rfl (X_move (v := (.int .i64 (cut))) rfl ?_)
    by_cases hc3 : (cut : Int) < (1)
    · refine L_gy (dj := 20) rfl rfl rfl (X_cmp (k := .i64) (a := cut) (b := 1) (r := true) rfl rfl rfl (decide_eq_true (p := ((cut) : Int) < ((1) : Int)) (by omega)) ?_)
      refine L_op rfl (X_pick (t := false) (v := (.bool (true))) rfl rfl ?_)
      refine L_op rfl (X_move (v := (.bool (true))) rfl ?_)
      refine L_gn (dj := 24) (t := true) rfl rfl rfl rfl ?_
      refine L_gn (dj := 24) (t := true) rfl rfl rfl rfl ?_
      refine L_gn (dj := 24) (t := true) rfl rfl rfl rfl ?_
      refine L_gn (dj := 24) (t := true) rfl rfl rfl rfl ?_
      refine L_gn (dj := 24) (t := true) rfl rfl rfl rfl ?_
      refine L_op rfl (X_pick (t := true) (v := (.bool (true))) rfl rfl ?_)
      refine L_op rfl (X_move (v := (.bool (true))) rfl ?_)
      refine L_gn (dj := 31) (t := true) rfl rfl rfl rfl ?_
      refine L_gn (dj := 31) (t := true) rfl rfl rfl rfl ?_
      refine L_op rfl (X_pick (t := true) (v := (.bool (true))) rfl rfl ?_)
      refine L_op rfl (X_move (v := (.bool (true))) rfl ?_)
      refine L_gn (dj := 35) (t := true) rfl rfl rfl rfl ?_
      refine L_gn (dj := 35) (t := true) rfl rfl rfl rfl ?_
      refine L_op rfl (X_pick (t := true) (v := (.bool (true))) rfl rfl ?_)
      refine L_nil ?_
      refine T_n ?_
      refine W_ct rfl ?_
      refine W_seq ?_
      refine W_reg ?_
      refine L_op rfl (X_fn (vs := []) en8 rfl (CT.mono (c_wakes _) ?_))
      rintro vb4 w4 ⟨hvb4, hu4⟩
      have hz4 := hu4.size
      replace hs := hs.ext hu4
      replace hU := hU.trans (Ext.upd hu4)
      subst hvb4
      refine L_op rfl (X_assign (v := (.bool (true))) rfl ?_)
      refine L_nil ?_
      refine T_n ?_
      refine W_ret ?_
      refine T_r ?_
      exact BQ_r (End_1 Try.results6 (v := .bool true) rfl ⟨rfl, hU.own hn0⟩)
    · refine L_gy (dj := 20) rfl rfl rfl (X_cmp (k := .i64) (a := cut) (b := 1) (r := false) rfl rfl rfl (decide_eq_false (p := ((cut) : Int) < ((1) : Int)) (by omega)) ?_)
      refine L_op rfl (X_pick (t := false) (v := (.bool (false))) rfl rfl ?_)
      refine L_op rfl (X_move (v := (.bool (false))) rfl ?_)
      refine L_gy (dj := 24) rfl rfl rfl (X_move (v := (.int .i64 (cut))) rfl ?_)
      refine L_gy (dj := 24) rfl rfl rfl (X_move (v := bs) rfl ?_)
      refine L_gy (dj := 24) rfl rfl rfl (X_len (v := bs) (n := s.length) Try.underlying22 rfl hs.sv ?_)
      refine L_gy (dj := 24) rfl rfl rfl (X_arith (k := .i64) (a := ((s.length : Nat) : Int)) (b := 1) (r := ((s.length : Nat) : Int) + 1) rfl rfl rfl (iadd64 rfl (by omega) (by omega)) ?_)
      by_cases hc5 : (cut : Int) > (((s.length : Nat) : Int) + 1)
      · refine L_gy (dj := 24) rfl rfl rfl (X_cmp (k := .i64) (a := cut) (b := ((s.length : Nat) : Int) + 1) (r := true) rfl rfl rfl (decide_eq_true (p := ((((s.length : Nat) : Int) + 1) : Int) < ((cut) : Int)) (by omega)) ?_)
        refine L_op rfl (X_pick (t := false) (v := (.bool (true))) rfl rfl ?_)
        refine L_op rfl (X_move (v := (.bool (true))) rfl ?_)
        refine L_gn (dj := 31) (t := true) rfl rfl rfl rfl ?_
        refine L_gn (dj := 31) (t := true) rfl rfl rfl rfl ?_
        refine L_op rfl (X_pick (t := true) (v := (.bool (true))) rfl rfl ?_)
        refine L_op rfl (X_move (v := (.bool (true))) rfl ?_)
        refine L_gn (dj := 35) (t := true) rfl rfl rfl rfl ?_
        refine L_gn (dj := 35) (t := true) rfl rfl rfl rfl ?_
        refine L_op rfl (X_pick (t := true) (v := (.bool (true))) rfl rfl ?_)
        refine L_nil ?_
        refine T_n ?_
        refine W_ct rfl ?_
        refine W_seq ?_
        refine W_reg ?_
        refine L_op rfl (X_fn (vs := []) en8 rfl (CT.mono (c_wakes _) ?_))
        rintro vb6 w6 ⟨hvb6, hu6⟩
        have hz6 := hu6.size
        replace hs := hs.ext hu6
        replace hU := hU.trans (Ext.upd hu6)
        subst hvb6
        refine L_op rfl (X_assign (v := (.bool (true))) rfl ?_)
        refine L_nil ?_
        refine T_n ?_
        refine W_ret ?_
        refine T_r ?_
        exact BQ_r (End_1 Try.results6 (v := .bool true) rfl ⟨rfl, hU.own hn0⟩)
      · refine L_gy (dj := 24) rfl rfl rfl (X_cmp (k := .i64) (a := cut) (b := ((s.length : Nat) : Int) + 1) (r := false) rfl rfl rfl (decide_eq_false (p := ((((s.length : Nat) : Int) + 1) : Int) < ((cut) : Int)) (by omega)) ?_)
        refine L_op rfl (X_pick (t := false) (v := (.bool (false))) rfl rfl ?_)
        refine L_op rfl (X_move (v := (.bool (false))) rfl ?_)
        refine L_gy (dj := 31) rfl rfl rfl (X_move (v := (.int .i64 (m))) rfl ?_)
        by_cases hc7 : (m : Int) < (1)
        · refine L_gy (dj := 31) rfl rfl rfl (X_cmp (k := .i64) (a := m) (b := 1) (r := true) rfl rfl rfl (decide_eq_true (p := ((m) : Int) < ((1) : Int)) (by omega)) ?_)
          refine L_op rfl (X_pick (t := false) (v := (.bool (true))) rfl rfl ?_)
          refine L_op rfl (X_move (v := (.bool (true))) rfl ?_)
          refine L_gn (dj := 35) (t := true) rfl rfl rfl rfl ?_
          refine L_gn (dj := 35) (t := true) rfl rfl rfl rfl ?_
          refine L_op rfl (X_pick (t := true) (v := (.bool (true))) rfl rfl ?_)
          refine L_nil ?_
          refine T_n ?_
          refine W_ct rfl ?_
          refine W_seq ?_
          refine W_reg ?_
          refine L_op rfl (X_fn (vs := []) en8 rfl (CT.mono (c_wakes _) ?_))
          rintro vb8 w8 ⟨hvb8, hu8⟩
          have hz8 := hu8.size
          replace hs := hs.ext hu8
          replace hU := hU.trans (Ext.upd hu8)
          subst hvb8
          refine L_op rfl (X_assign (v := (.bool (true))) rfl ?_)
          refine L_nil ?_
          refine T_n ?_
          refine W_ret ?_
          refine T_r ?_
          exact BQ_r (End_1 Try.results6 (v := .bool true) rfl ⟨rfl, hU.own hn0⟩)
        · refine L_gy (dj := 31) rfl rfl rfl (X_cmp (k := .i64) (a := m) (b := 1) (r := false) rfl rfl rfl (decide_eq_false (p := ((m) : Int) < ((1) : Int)) (by omega)) ?_)
          refine L_op rfl (X_pick (t := false) (v := (.bool (false))) rfl rfl ?_)
          refine L_op rfl (X_move (v := (.bool (false))) rfl ?_)
          refine L_gy (dj := 35) rfl rfl rfl (X_move (v := (.int .i64 (m))) rfl ?_)
          by_cases hc9 : (m : Int) > (8)
          · refine L_gy (dj := 35) rfl rfl rfl (X_cmp (k := .i64) (a := m) (b := 8) (r := true) rfl rfl rfl (decide_eq_true (p := ((8) : Int) < ((m) : Int)) (by omega)) ?_)
            refine L_op rfl (X_pick (t := false) (v := (.bool (true))) rfl rfl ?_)
            refine L_nil ?_
            refine T_n ?_
            refine W_ct rfl ?_
            refine W_seq ?_
            refine W_reg ?_
            refine L_op rfl (X_fn (vs := []) en8 rfl (CT.mono (c_wakes _) ?_))
            rintro vb10 w10 ⟨hvb10, hu10⟩
            have hz10 := hu10.size
            replace hs := hs.ext hu10
            replace hU := hU.trans (Ext.upd hu10)
            subst hvb10
            refine L_op rfl (X_assign (v := (.bool (true))) rfl ?_)
            refine L_nil ?_
            refine T_n ?_
            refine W_ret ?_
            refine T_r ?_
            exact BQ_r (End_1 Try.results6 (v := .bool true) rfl ⟨rfl, hU.own hn0⟩)
          · refine L_gy (dj := 35) rfl rfl rfl (X_cmp (k := .i64) (a := m) (b := 8) (r := false) rfl rfl rfl (decide_eq_false (p := ((8) : Int) < ((m) : Int)) (by omega)) ?_)
            have hW : m = ((wideN m : Nat) : Int) := by unfold wideN wideI; omega
            have hsl : s.length ≤ 255 := by omega
            have hw8 := wideN_le m
            have hzl := sized_len hsl
            refine L_op rfl (X_pick (t := false) (v := (.bool (false))) rfl rfl ?_)
            refine L_nil ?_
            refine T_n ?_
            refine W_cf rfl ?_
            refine W_skip ?_
            refine T_n ?_
            refine W_seq ?_
            refine W_reg ?_
            refine L_op rfl (X_move (v := bs) rfl ?_)
            refine L_op rfl (X_fn (vs := [(.slice none 0 0), bs]) en14 rfl (CT.mono (c_putBytes (.slice none 0 0) _ [] (s) _ (by decide) (Rd.nil _ 1) hs) ?_))
            rintro v11 w11 ⟨hO11, hu11⟩
            have hz11 := hu11.size
            replace hO11 := hO11.eq (n' := (sizedB (s)).length) (xs' := (sizedB (s)).map byteV) rfl rfl
            replace hs := hs.ext hu11
            replace hU := hU.trans (Ext.upd hu11)
            have hO11_b : ∀ b, obk v11 = some b → b < w11.heap.size := fun b hb => (hO11.lt hb).2
            refine L_op rfl (X_assign (v := v11) rfl ?_)
            refine L_nil ?_
            refine T_n ?_
            refine W_seq ?_
            refine W_seq ?_
            refine W_reg ?_
            refine L_op rfl (X_move (v := v11) rfl ?_)
            refine L_op rfl (X_len (v := v11) (n := (sizedB (s)).length) Try.underlying22 rfl hO11.sv ?_)
            refine L_op rfl (X_move (v := bs) rfl ?_)
            refine L_op rfl (X_len (v := bs) (n := s.length) Try.underlying22 rfl hs.sv ?_)
            refine L_op rfl (X_arith (k := .i64) (a := ((s.length : Nat) : Int)) (b := 1) (r := ((s.length : Nat) : Int) + 1) rfl rfl rfl (iadd64 rfl (by omega) (by omega)) ?_)
            refine L_op rfl (X_cmp (k := .i64) (a := (((sizedB (s)).length : Nat) : Int)) (b := ((s.length : Nat) : Int) + 1) (r := false) rfl rfl rfl (decide_eq_false (p := (((((sizedB (s)).length : Nat) : Int)) : Int) ≠ ((((s.length : Nat) : Int) + 1) : Int)) (by omega)) ?_)
            refine L_nil ?_
            refine T_n ?_
            refine W_cf rfl ?_
            refine W_skip ?_
            refine T_n ?_
            refine W_seq ?_
            refine W_reg ?_
            refine L_op rfl (X_move (v := v11) rfl ?_)
            refine L_op rfl (X_move (v := v11) rfl ?_)
            refine L_op rfl (X_len (v := v11) (n := (sizedB (s)).length) Try.underlying22 rfl hO11.sv ?_)
            refine L_op rfl (X_move (v := (.int .i64 (cut))) rfl ?_)
            refine L_op rfl (X_arith (k := .i64) (a := (((sizedB (s)).length : Nat) : Int)) (b := cut) (r := ((((sizedB s).length - cut.toNat : Nat)) : Int)) rfl rfl rfl (isub64 (by omega) (by omega) (by omega)) ?_)
            refine L_op rfl (X_slice (n := (sizedB (s)).length) (l := 0) (h' := (sizedB s).length - cut.toNat) (kl := .i64) (kh := .i64) S22 rfl hO11.sv rfl rfl (by omega) (by omega) ?_)
            refine L_op rfl (X_fn (vs := [(cutv v11 1 (0) ((sizedB s).length - cut.toNat)), (.int .i64 (255))]) en15 rfl (CT.mono (c_takeBytes _ ((sizedB s).take ((sizedB s).length - cut.toNat)) 255 _ (hO11.rd.cutB (lo := 0) (hi := (sizedB s).length - cut.toNat) (by omega) (by omega) (m := (sizedB s).take ((sizedB s).length - cut.toNat)) rfl)) ?_))
            rintro vt13 w13 ⟨s13, r13, hvt13, hs13, hr13, hrb13, hu13⟩
            have hz13 := hu13.size
            rw [cut_e hsl (by omega) (by omega)] at hvt13; subst hvt13; rw [takeS_no (cut_e hsl (by omega) (by omega)) (by decide)] at hs13; rw [takeR_no (cut_e hsl (by omega) (by omega)) (by decide)] at hr13
            have hr13_b : ∀ b, rbk r13 = some b → b < w11.heap.size := fun b hb => ((hO11.rd.cutB (lo := 0) (hi := (sizedB s).length - cut.toNat) (by omega) (by omega) (m := (sizedB s).take ((sizedB s).length - cut.toNat)) rfl).bound (by decide) (hrb13 b hb))
            replace hs := hs.ext hu13
            replace hU := hU.trans (Ext.upd hu13)
            replace hO11 := hO11.ext hu13
            have hs13_b : ∀ b, obk s13 = some b → b < w13.heap.size := fun b hb => (hs13.lt hb).2
            refine L_op rfl (X_move (v := (.tuple #[s13, r13, (.int .i64 (20))])) rfl ?_)
            refine L_op rfl (X_extract (l := [s13, r13, (.int .i64 (20))]) (v := s13) rfl rfl ?_)
            refine L_op rfl (X_extract (l := [s13, r13, (.int .i64 (20))]) (v := r13) rfl rfl ?_)
            refine L_op rfl (X_extract (l := [s13, r13, (.int .i64 (20))]) (v := (.int .i64 (20))) rfl rfl ?_)
            refine L_op rfl (X_assign (v := s13) rfl ?_)
            refine L_op rfl (X_assign (v := r13) rfl ?_)
            refine L_op rfl (X_assign (v := (.int .i64 (20))) rfl ?_)
            refine L_nil ?_
            refine T_n ?_
            refine W_seq ?_
            refine W_reg ?_
            refine L_op rfl (X_move (v := v11) rfl ?_)
            refine L_op rfl (X_move (v := bs) rfl ?_)
            refine L_op rfl (X_len (v := bs) (n := s.length) Try.underlying22 rfl hs.sv ?_)
            refine L_op rfl (X_arith (k := .i64) (a := ((s.length : Nat) : Int)) (b := 1) (r := (((s.length : Nat) : Int) - 1)) rfl rfl rfl (isub64 rfl (by omega) (by omega)) ?_)
            refine L_op rfl (X_fn (vs := [v11, (.int .i64 ((((s.length : Nat) : Int) - 1)))]) en15 rfl (CT.mono (c_takeBytes _ (sizedB s) (((s.length : Nat) : Int) - 1) _ hO11.rd) ?_))
            rintro vt14 w14 ⟨s14, r14, hvt14, hs14, hr14, hrb14, hu14⟩
            have hz14 := hu14.size
            rw [long_e hsl] at hvt14; subst hvt14; rw [takeS_no (long_e hsl) (by decide)] at hs14; rw [takeR_no (long_e hsl) (by decide)] at hr14
            have hr14_b : ∀ b, rbk r14 = some b → b < w13.heap.size := fun b hb => (hO11.rd.bound (by decide) (hrb14 b hb))
            replace hs := hs.ext hu14
            replace hU := hU.trans (Ext.upd hu14)
            replace hO11 := hO11.ext hu14
            replace hs13 := hs13.ext hu14
            replace hr13 := hr13.ext hu14
            have hs14_b : ∀ b, obk s14 = some b → b < w14.heap.size := fun b hb => (hs14.lt hb).2
            refine L_op rfl (X_move (v := (.tuple #[s14, r14, (.int .i64 (21))])) rfl ?_)
            refine L_op rfl (X_extract (l := [s14, r14, (.int .i64 (21))]) (v := s14) rfl rfl ?_)
            refine L_op rfl (X_extract (l := [s14, r14, (.int .i64 (21))]) (v := r14) rfl rfl ?_)
            refine L_op rfl (X_extract (l := [s14, r14, (.int .i64 (21))]) (v := (.int .i64 (21))) rfl rfl ?_)
            refine L_op rfl (X_assign (v := s14) rfl ?_)
            refine L_op rfl (X_assign (v := r14) rfl ?_)
            refine L_op rfl (X_assign (v := (.int .i64 (21))) rfl ?_)
            refine L_nil ?_
            refine T_n ?_
            refine W_seq ?_
            refine W_reg ?_
            refine L_op rfl (X_move (v := (.int .i64 (m))) rfl ?_)
            refine L_op rfl (X_arith (k := .i64) (a := m) (b := 1) (r := ((wideN m - 1 : Nat) : Int)) rfl rfl rfl (isub64 (by omega) (by omega) (by omega)) ?_)
            refine L_op rfl (X_makeSlice (n := wideN m - 1) S22 rfl rfl rfl (by omega) (by omega) ?_)
            intro bm wm hnm
            have hbnm := hnm.num; have hbsm := hnm.size
            replace hs := hs.ext hnm.ext
            replace hU := hU.trans (Ext.upd hnm.ext)
            replace hO11 := hO11.ext hnm.ext
            replace hs13 := hs13.ext hnm.ext
            replace hr13 := hr13.ext hnm.ext
            replace hs14 := hs14.ext hnm.ext
            replace hr14 := hr14.ext hnm.ext
            have hBm : Blk wm bm ((List.replicate (wideN m - 1) (0 : UInt8)).map byteV).toArray 5 := by rw [List.map_replicate]; exact hnm.blk
            refine L_op rfl (X_move (v := (.int .i64 (m))) rfl ?_)
            refine L_op rfl (X_fn (vs := [(.slice (some ⟨bm, 0, none⟩) (wideN m - 1) (wideN m - 1)), (.int .i64 (m))]) en16 rfl (CT.mono (c_take _ (List.replicate (wideN m - 1) (0 : UInt8)) m _ (hBm.rdB List.length_replicate (by omega))) ?_))
            rintro vt15 w15 ⟨r15, hvt15, hr15, hrb15, hu15⟩
            have hz15 := hu15.size
            rw [ts_v hw8.1, ts_e hw8.1] at hvt15; subst hvt15
            rw [ts_r hw8.1] at hr15
            have hr15_b : ∀ b, rbk r15 = some b → b < wm.heap.size := fun b hb => ((hBm.rdB List.length_replicate (by omega)).bound (by decide) (hrb15 b hb))
            replace hs := hs.ext hu15
            replace hU := hU.trans (Ext.upd hu15)
            replace hO11 := hO11.ext hu15
            replace hs13 := hs13.ext hu15
            replace hr13 := hr13.ext hu15
            replace hs14 := hs14.ext hu15
            replace hr14 := hr14.ext hu15
            replace hBm := hBm.ext hu15
            refine L_op rfl (X_move (v := (.tuple #[(.int .u64 (0)), r15, (.int .i64 (20))])) rfl ?_)
            refine L_op rfl (X_extract (l := [(.int .u64 (0)), r15, (.int .i64 (20))]) (v := (.int .u64 (0))) rfl rfl ?_)
            refine L_op rfl (X_extract (l := [(.int .u64 (0)), r15, (.int .i64 (20))]) (v := r15) rfl rfl ?_)
            refine L_op rfl (X_extract (l := [(.int .u64 (0)), r15, (.int .i64 (20))]) (v := (.int .i64 (20))) rfl rfl ?_)
            refine L_op rfl (X_assign (v := (.int .u64 (0))) rfl ?_)
            refine L_op rfl (X_assign (v := r15) rfl ?_)
            refine L_op rfl (X_assign (v := (.int .i64 (20))) rfl ?_)
            refine L_nil ?_
            refine T_n ?_
            refine W_seq ?_
            refine W_seq ?_
            refine W_reg ?_
            refine L_op rfl (X_move (v := (.int .i64 (20))) rfl ?_)
            refine L_op rfl (X_cmp (k := .i64) (a := 20) (b := 20) (r := false) rfl rfl rfl rfl ?_)
            refine L_op rfl (X_move (v := (.bool (false))) rfl ?_)
            refine L_gy (dj := 79) rfl rfl rfl (X_move (v := s13) rfl ?_)
            refine L_gy (dj := 79) rfl rfl rfl (X_len (v := s13) (n := (([] : List UInt8)).length) Try.underlying22 rfl hs13.sv ?_)
            refine L_gy (dj := 79) rfl rfl rfl (X_cmp (k := .i64) (a := 0) (b := 0) (r := false) rfl rfl rfl rfl ?_)
            refine L_op rfl (X_pick (t := false) (v := (.bool (false))) rfl rfl ?_)
            refine L_op rfl (X_move (v := (.bool (false))) rfl ?_)
            refine L_gy (dj := 84) rfl rfl rfl (X_move (v := r13) rfl ?_)
            refine L_gy (dj := 84) rfl rfl rfl (X_move (v := v11) rfl ?_)
            refine L_gy (dj := 84) rfl rfl rfl (X_move (v := v11) rfl ?_)
            refine L_gy (dj := 84) rfl rfl rfl (X_len (v := v11) (n := (sizedB (s)).length) Try.underlying22 rfl hO11.sv ?_)
            refine L_gy (dj := 84) rfl rfl rfl (X_move (v := (.int .i64 (cut))) rfl ?_)
            refine L_gy (dj := 84) rfl rfl rfl (X_arith (k := .i64) (a := (((sizedB (s)).length : Nat) : Int)) (b := cut) (r := ((((sizedB s).length - cut.toNat : Nat)) : Int)) rfl rfl rfl (isub64 (by omega) (by omega) (by omega)) ?_)
            refine L_gy (dj := 84) rfl rfl rfl (X_slice (n := (sizedB (s)).length) (l := 0) (h' := (sizedB s).length - cut.toNat) (kl := .i64) (kh := .i64) S22 rfl hO11.sv rfl rfl (by omega) (by omega) ?_)
            refine L_gy (dj := 84) rfl rfl rfl (X_fn (vs := [r13, (cutv v11 1 (0) ((sizedB s).length - cut.toNat))]) en11 rfl (CT.mono (c_same _ _ ((sizedB s).take ((sizedB s).length - cut.toNat)) ((sizedB s).take ((sizedB s).length - cut.toNat)) _ hr13 (hO11.rd.cutB (lo := 0) (hi := (sizedB s).length - cut.toNat) (by omega) (by omega) (m := (sizedB s).take ((sizedB s).length - cut.toNat)) rfl)) ?_))
            rintro vb17 _ ⟨hvb17, rfl⟩
            rw [show (((sizedB s).take ((sizedB s).length - cut.toNat) : List UInt8) == (sizedB s).take ((sizedB s).length - cut.toNat)) = true from beq_self_eq_true _] at hvb17
            subst hvb17
            refine L_gy (dj := 84) rfl rfl rfl (X_not (b := true) (r := false) rfl rfl ?_)
            refine L_op rfl (X_pick (t := false) (v := (.bool (false))) rfl rfl ?_)
            refine L_op rfl (X_move (v := (.bool (false))) rfl ?_)
            refine L_gy (dj := 95) rfl rfl rfl (X_move (v := (.int .i64 (20))) rfl ?_)
            refine L_gy (dj := 95) rfl rfl rfl (X_cmp (k := .i64) (a := 20) (b := 20) (r := false) rfl rfl rfl rfl ?_)
            refine L_op rfl (X_pick (t := false) (v := (.bool (false))) rfl rfl ?_)
            refine L_op rfl (X_move (v := (.bool (false))) rfl ?_)
            refine L_gy (dj := 99) rfl rfl rfl (X_move (v := (.int .u64 (0))) rfl ?_)
            refine L_gy (dj := 99) rfl rfl rfl (X_cmp (k := .u64) (a := 0) (b := 0) (r := false) rfl rfl rfl rfl ?_)
            refine L_op rfl (X_pick (t := false) (v := (.bool (false))) rfl rfl ?_)
            refine L_op rfl (X_move (v := (.bool (false))) rfl ?_)
            refine L_gy (dj := 103) rfl rfl rfl (X_move (v := r15) rfl ?_)
            refine L_gy (dj := 103) rfl rfl rfl (X_len (v := r15) (n := (List.replicate (wideN m - 1) (0 : UInt8)).length) Try.underlying22 rfl hr15.sv ?_)
            refine L_gy (dj := 103) rfl rfl rfl (X_move (v := (.int .i64 (m))) rfl ?_)
            refine L_gy (dj := 103) rfl rfl rfl (X_arith (k := .i64) (a := m) (b := 1) (r := (m - 1)) rfl rfl rfl (isub64 rfl (by omega) (by omega)) ?_)
            refine L_gy (dj := 103) rfl rfl rfl (X_cmp (k := .i64) (a := (((List.replicate (wideN m - 1) (0 : UInt8)).length : Nat) : Int)) (b := (m - 1)) (r := false) rfl rfl rfl (decide_eq_false (p := _ ≠ _) (by rw [List.length_replicate]; omega)) ?_)
            refine L_op rfl (X_pick (t := false) (v := (.bool (false))) rfl rfl ?_)
            refine L_nil ?_
            refine T_n ?_
            refine W_cf rfl ?_
            refine W_skip ?_
            refine T_n ?_
            refine W_seq ?_
            refine W_reg ?_
            refine L_op rfl (X_move (v := (.int .i64 (21))) rfl ?_)
            refine L_op rfl (X_cmp (k := .i64) (a := 21) (b := 21) (r := true) rfl rfl rfl rfl ?_)
            refine L_op rfl (X_move (v := (.bool (true))) rfl ?_)
            refine L_gy (dj := 112) rfl rfl rfl (X_move (v := s14) rfl ?_)
            refine L_gy (dj := 112) rfl rfl rfl (X_len (v := s14) (n := (([] : List UInt8)).length) Try.underlying22 rfl hs14.sv ?_)
            refine L_gy (dj := 112) rfl rfl rfl (X_cmp (k := .i64) (a := 0) (b := 0) (r := true) rfl rfl rfl rfl ?_)
            refine L_op rfl (X_pick (t := true) (v := (.bool (true))) rfl rfl ?_)
            refine L_op rfl (X_move (v := (.bool (true))) rfl ?_)
            refine L_gy (dj := 117) rfl rfl rfl (X_move (v := r14) rfl ?_)
            refine L_gy (dj := 117) rfl rfl rfl (X_move (v := v11) rfl ?_)
            refine L_gy (dj := 117) rfl rfl rfl (X_fn (vs := [r14, v11]) en11 rfl (CT.mono (c_same _ _ (sizedB s) (sizedB s) _ hr14 hO11.rd) ?_))
            rintro vb18 _ ⟨hvb18, rfl⟩
            rw [show ((sizedB s : List UInt8) == sizedB s) = true from beq_self_eq_true _] at hvb18
            subst hvb18
            refine L_op rfl (X_pick (t := true) (v := (.bool (true))) rfl rfl ?_)
            refine L_op rfl (X_move (v := (.bool (true))) rfl ?_)
            refine L_gy (dj := 122) rfl rfl rfl (X_fn (vs := []) en8 rfl (CT.mono (c_wakes _) ?_))
            rintro vb19 w19 ⟨hvb19, hu19⟩
            have hz19 := hu19.size
            replace hs := hs.ext hu19
            replace hU := hU.trans (Ext.upd hu19)
            replace hO11 := hO11.ext hu19
            replace hs13 := hs13.ext hu19
            replace hr13 := hr13.ext hu19
            replace hs14 := hs14.ext hu19
            replace hr14 := hr14.ext hu19
            replace hBm := hBm.ext hu19
            replace hr15 := hr15.ext hu19
            subst hvb19
            refine L_op rfl (X_pick (t := true) (v := (.bool (true))) rfl rfl ?_)
            refine L_op rfl (X_assign (v := (.bool (true))) rfl ?_)
            refine L_nil ?_
            refine T_n ?_
            refine W_ret ?_
            exact BQ_r (End_1 Try.results6 (v := .bool true) rfl ⟨rfl, hU.own hn0⟩)
end Go.Proofs.Ytaalnnjdiaekdaa
