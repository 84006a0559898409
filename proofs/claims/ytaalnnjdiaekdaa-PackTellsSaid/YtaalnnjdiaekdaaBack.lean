/-
  The walk of PackBack. (Printed by wip/gen/t02back.py of this repo.)
-/
import Derived.Test.YtaalnnjdiaekdaaPackB
namespace Go.Proofs.Ytaalnnjdiaekdaa
open Go Go.SL Go.Proofs

theorem valB_numB : ∀ (w n : Nat), valB (numB n w) = n % 256 ^ w
  | 0, n => by simp [numB, valB, Nat.mod_one]
  | w + 1, n => by
    have h : numB n (w + 1) = UInt8.ofNat n :: numB (n / 256) w := by
      unfold numB
      rw [List.range_succ_eq_map, List.map_cons, List.map_map]
      congr 1
      · unfold byteAt; rw [Nat.pow_zero, Nat.div_one]
      · apply List.map_congr_left
        intro k _
        show UInt8.ofNat (n / 256 ^ (k + 1)) = UInt8.ofNat (n / 256 / 256 ^ k)
        rw [Nat.div_div_eq_div_mul, Nat.pow_succ, Nat.mul_comm]
    rw [h]
    show (UInt8.ofNat n).toNat + 256 * valB (numB (n / 256) w) = _
    rw [valB_numB w (n / 256), UInt8.toNat_ofNat', show 256 ^ (w + 1) = 256 * 256 ^ w by rw [Nat.pow_succ, Nat.mul_comm], Nat.mod_mul]
theorem pk_take {n W : Nat} {t : List UInt8} : takeV (numB n W ++ t) W = n % 256 ^ W := by
  unfold takeV
  rw [if_neg (by rw [List.length_append, numB_length]; omega), List.take_append_of_le_length (by rw [numB_length]; exact Nat.le_refl _), List.take_of_length_le (by rw [numB_length]; exact Nat.le_refl _), valB_numB]
theorem pk_rest {n W : Nat} {t : List UInt8} : restB (numB n W ++ t) W = t := by
  unfold restB
  rw [if_neg (by rw [List.length_append, numB_length]; omega), List.drop_append_of_le_length (by rw [numB_length]; exact Nat.le_refl _), List.drop_eq_nil_of_le (by rw [numB_length]; exact Nat.le_refl _), List.nil_append]
theorem pk_e {n W : Nat} {t : List UInt8} : (if (numB n W ++ t).length < W then (20 : Int) else 0) = 0 := if_neg (by rw [List.length_append, numB_length]; omega)
theorem sized_full {s : List UInt8} (h : s.length ≤ 255) : sizedB s = UInt8.ofNat s.length :: s := by unfold sizedB; rw [List.take_of_length_le h]
theorem pb_head {s t : List UInt8} (h : s.length ≤ 255) : (sizedB s ++ t)[0]? = some (UInt8.ofNat s.length) := by rw [sized_full h]; rfl
theorem pb_n {s : List UInt8} (h : s.length ≤ 255) : (UInt8.ofNat s.length).toNat = s.length := by rw [UInt8.toNat_ofNat']; omega
theorem pb_e {s t : List UInt8} (h : s.length ≤ 255) : takeE (sizedB s ++ t) 255 = 0 := take_ok (pb_head h) (by rw [pb_n h, sized_full h, List.length_append, List.length_cons]; omega) (by rw [pb_n h]; omega)
theorem pb_s {s t : List UInt8} (h : s.length ≤ 255) : takeS (sizedB s ++ t) 255 = s := by
  rw [takeS_ok (pb_e h) (pb_head h), pb_n h, Nat.add_sub_cancel_left, sized_full h]
  show (s ++ t).take s.length = s
  rw [List.take_append_of_le_length (Nat.le_refl _), List.take_length]
theorem pb_r {s t : List UInt8} (h : s.length ≤ 255) : takeR (sizedB s ++ t) 255 = t := by
  rw [takeR_ok (pb_e h) (pb_head h), pb_n h, drop_rest, sized_full h, Nat.add_comm]
  show (s ++ t).drop s.length = t
  rw [List.drop_append_of_le_length (Nat.le_refl _), List.drop_length, List.nil_append]
theorem and_mask {n W : Nat} (hn : n < 18446744073709551616) (hW : W < 8) : iop .and .u64 (n : Int) ((256 ^ W - 1 : Nat) : Int) = ((n % 256 ^ W : Nat) : Int) := by
  have hp : 256 ^ W ≤ 256 ^ 7 := Nat.pow_le_pow_right (by decide) (by omega)
  have hp7 : (256 : Nat) ^ 7 = 72057594037927936 := by decide
  have hp0 : 0 < 256 ^ W := Nat.pow_pos (by decide)
  have e1 : (BitVec.ofInt 64 (n : Int)).toNat = n := by rw [BitVec.toNat_ofInt]; omega
  have e2 : (BitVec.ofInt 64 ((256 ^ W - 1 : Nat) : Int)).toNat = 256 ^ W - 1 := by rw [BitVec.toNat_ofInt]; omega
  have e3 : 256 ^ W = 2 ^ (8 * W) := by rw [Nat.pow_mul]
  show IntKind.u64.wrap ((BitVec.ofInt 64 (n : Int) &&& BitVec.ofInt 64 ((256 ^ W - 1 : Nat) : Int)).toNat : Int) = _
  rw [BitVec.toNat_and, e1, e2]
  have h2 : n &&& (256 ^ W - 1) = n % 256 ^ W := by rw [e3]; exact Nat.and_two_pow_sub_one_eq_mod n (8 * W)
  rw [h2]
  have := Nat.mod_lt n hp0
  exact u64_wrap (by omega) (by omega)
theorem mod_full {n W : Nat} (hn : n < 18446744073709551616) (hW : W = 8) : n % 256 ^ W = n := by subst hW; exact Nat.mod_eq_of_lt (by rw [show (256 : Nat) ^ 8 = 18446744073709551616 by decide]; exact hn)
theorem shl_mask {W : Nat} (hW : W < 8) : IntKind.u64.wrap ((1 : Int) * 2 ^ (min (8 * (W : Int)).toNat IntKind.u64.bits)) = ((256 ^ W : Nat) : Int) := by
  have hp : 256 ^ W ≤ 256 ^ 7 := Nat.pow_le_pow_right (by decide) (by omega)
  have hp7 : (256 : Nat) ^ 7 = 72057594037927936 := by decide
  have e : min (8 * (W : Int)).toNat IntKind.u64.bits = 8 * W := by show min _ 64 = _; omega
  have e3 : (256 : Int) ^ W = 2 ^ (8 * W) := by rw [Int.pow_mul]; rfl
  rw [e, Int.one_mul, ← e3, show (256 : Int) ^ W = ((256 ^ W : Nat) : Int) by rw [Int.natCast_pow]; rfl]
  generalize 256 ^ W = x at hp
  exact u64_wrap (by omega) (by omega)
theorem sub_mask {W : Nat} (hW : W < 8) : iop .sub .u64 ((256 ^ W : Nat) : Int) 1 = ((256 ^ W - 1 : Nat) : Int) := by
  have hp : 256 ^ W ≤ 256 ^ 7 := Nat.pow_le_pow_right (by decide) (by omega)
  have hp7 : (256 : Nat) ^ 7 = 72057594037927936 := by decide
  have hp0 : 0 < 256 ^ W := Nat.pow_pos (by decide)
  show IntKind.u64.wrap (((256 ^ W : Nat) : Int) - 1) = _
  rw [show (((256 ^ W : Nat) : Int) - 1) = ((256 ^ W - 1 : Nat) : Int) by omega]
  exact u64_wrap (by omega) (by omega)

theorem c_packBack (n : Nat) (m : Int) (bs bt : Value) (s t : List UInt8) (w : World) (hn : n < 18446744073709551616) (hs : Rd w 1 bs s.length (s.map byteV)) (ht : Rd w 1 bt t.length (t.map byteV)) : CT Try.prog 5 #[(.int .u64 (((n : Nat) : Int))), (.int .i64 (m)), bs, bt] w fun v w' => v = .bool true ∧ Ext w w' := by
  obtain ⟨n0, hn0⟩ : ∃ n, n = w.heap.size := ⟨_, rfl⟩
  have hU : Upd (fun i => n0 ≤ i) w w := Upd.refl _ _
  have hs_b : ∀ i, rbk bs = some i → i < n0 := by rw [hn0]; exact fun i hi => hs.bound (by decide) hi
  have ht_b : ∀ i, rbk bt = some i → i < n0 := by rw [hn0]; exact fun i hi => ht.bound (by decide) hi
  refine CT_of Try.func5 rfl rfl rfl ?_
  refine W_seq ?_
  refine W_reg ?_
  refine L_op rfl (X_assign (v := (.bool (false))) rfl ?_)
  refine L_nil ?_
  refine T_n ?_
  refine W_seq ?_
  refine W_seq ?_
  refine W_reg ?_
  refine L_op rfl (X_move (v := (.int .i64 (m))) rfl ?_)
  by_cases hc1 : (m : Int) < (1)
  · refine L_op rfl (X_cmp (k := .i64) (a := m) (b := 1) (r := true) rfl rfl rfl (decide_eq_true (p := ((m) : Int) < ((1) : Int)) (by omega)) ?_)
    refine L_op rfl (X_move (v := (.bool (true))) rfl ?_)
    refine L_gn (dj := 17) (t := true) rfl rfl rfl rfl ?_
    refine L_gn (dj := 17) (t := true) rfl rfl rfl rfl ?_
    refine L_op rfl (X_pick (t := true) (v := (.bool (true))) rfl rfl ?_)
    refine L_op rfl (X_move (v := (.bool (true))) rfl ?_)
    refine L_gn (dj := 21) (t := true) rfl rfl rfl rfl ?_
    refine L_gn (dj := 21) (t := true) rfl rfl rfl rfl ?_
    refine L_gn (dj := 21) (t := true) rfl rfl rfl rfl ?_
    refine L_op rfl (X_pick (t := true) (v := (.bool (true))) rfl rfl ?_)
    refine L_op rfl (X_move (v := (.bool (true))) rfl ?_)
    refine L_gn (dj := 26) (t := true) rfl rfl rfl rfl ?_
    refine L_gn (dj := 26) (t := true) rfl rfl rfl rfl ?_
    refine L_gn (dj := 26) (t := true) rfl rfl rfl rfl ?_
    refine L_op rfl (X_pick (t := true) (v := (.bool (true))) rfl rfl ?_)
    refine L_nil ?_
    refine T_n ?_
    refine W_ct rfl ?_
    refine W_seq ?_
    refine W_reg ?_
    refine L_op rfl (X_fn (vs := []) en8 rfl (CT.mono (c_wakes _) ?_))
    rintro vb2 w2 ⟨hvb2, hu2⟩
    have hz2 := hu2.size
    replace hs := hs.ext hu2
    replace ht := ht.ext hu2
    replace hU := hU.trans (Ext.upd hu2)
    subst hvb2
    refine L_op rfl (X_assign (v := (.bool (true))) rfl ?_)
    refine L_nil ?_
    refine T_n ?_
    refine W_ret ?_
    refine T_r ?_
    exact BQ_r (End_1 Try.results5 (v := .bool true) rfl ⟨rfl, hU.own hn0⟩)
  · refine L_op rfl (X_cmp (k := .i64) (a := m) (b := 1) (r := false) rfl rfl rfl (decide_eq_false (p := ((m) : Int) < ((1) : Int)) (by omega)) ?_)
    refine L_op rfl (X_move (v := (.bool (false))) rfl ?_)
    refine L_gy (dj := 17) rfl rfl rfl (X_move (v := (.int .i64 (m))) rfl ?_)
    by_cases hc3 : (m : Int) > (8)
    · refine L_gy (dj := 17) rfl rfl rfl (X_cmp (k := .i64) (a := m) (b := 8) (r := true) rfl rfl rfl (decide_eq_true (p := ((8) : Int) < ((m) : Int)) (by omega)) ?_)
      refine L_op rfl (X_pick (t := false) (v := (.bool (true))) rfl rfl ?_)
      refine L_op rfl (X_move (v := (.bool (true))) rfl ?_)
      refine L_gn (dj := 21) (t := true) rfl rfl rfl rfl ?_
      refine L_gn (dj := 21) (t := true) rfl rfl rfl rfl ?_
      refine L_gn (dj := 21) (t := true) rfl rfl rfl rfl ?_
      refine L_op rfl (X_pick (t := true) (v := (.bool (true))) rfl rfl ?_)
      refine L_op rfl (X_move (v := (.bool (true))) rfl ?_)
      refine L_gn (dj := 26) (t := true) rfl rfl rfl rfl ?_
      refine L_gn (dj := 26) (t := true) rfl rfl rfl rfl ?_
      refine L_gn (dj := 26) (t := true) rfl rfl rfl rfl ?_
      refine L_op rfl (X_pick (t := true) (v := (.bool (true))) rfl rfl ?_)
      refine L_nil ?_
      refine T_n ?_
      refine W_ct rfl ?_
      refine W_seq ?_
      refine W_reg ?_
      refine L_op rfl (X_fn (vs := []) en8 rfl (CT.mono (c_wakes _) ?_))
      rintro vb4 w4 ⟨hvb4, hu4⟩
      have hz4 := hu4.size
      replace hs := hs.ext hu4
      replace ht := ht.ext hu4
      replace hU := hU.trans (Ext.upd hu4)
      subst hvb4
      refine L_op rfl (X_assign (v := (.bool (true))) rfl ?_)
      refine L_nil ?_
      refine T_n ?_
      refine W_ret ?_
      refine T_r ?_
      exact BQ_r (End_1 Try.results5 (v := .bool true) rfl ⟨rfl, hU.own hn0⟩)
    · refine L_gy (dj := 17) rfl rfl rfl (X_cmp (k := .i64) (a := m) (b := 8) (r := false) rfl rfl rfl (decide_eq_false (p := ((8) : Int) < ((m) : Int)) (by omega)) ?_)
      refine L_op rfl (X_pick (t := false) (v := (.bool (false))) rfl rfl ?_)
      refine L_op rfl (X_move (v := (.bool (false))) rfl ?_)
      refine L_gy (dj := 21) rfl rfl rfl (X_move (v := bs) rfl ?_)
      refine L_gy (dj := 21) rfl rfl rfl (X_len (v := bs) (n := s.length) Try.underlying22 rfl hs.sv ?_)
      by_cases hc5 : (((s.length : Nat) : Int) : Int) > (255)
      · refine L_gy (dj := 21) rfl rfl rfl (X_cmp (k := .i64) (a := ((s.length : Nat) : Int)) (b := 255) (r := true) rfl rfl rfl (decide_eq_true (p := ((255) : Int) < ((((s.length : Nat) : Int)) : Int)) (by omega)) ?_)
        refine L_op rfl (X_pick (t := false) (v := (.bool (true))) rfl rfl ?_)
        refine L_op rfl (X_move (v := (.bool (true))) rfl ?_)
        refine L_gn (dj := 26) (t := true) rfl rfl rfl rfl ?_
        refine L_gn (dj := 26) (t := true) rfl rfl rfl rfl ?_
        refine L_gn (dj := 26) (t := true) rfl rfl rfl rfl ?_
        refine L_op rfl (X_pick (t := true) (v := (.bool (true))) rfl rfl ?_)
        refine L_nil ?_
        refine T_n ?_
        refine W_ct rfl ?_
        refine W_seq ?_
        refine W_reg ?_
        refine L_op rfl (X_fn (vs := []) en8 rfl (CT.mono (c_wakes _) ?_))
        rintro vb6 w6 ⟨hvb6, hu6⟩
        have hz6 := hu6.size
        replace hs := hs.ext hu6
        replace ht := ht.ext hu6
        replace hU := hU.trans (Ext.upd hu6)
        subst hvb6
        refine L_op rfl (X_assign (v := (.bool (true))) rfl ?_)
        refine L_nil ?_
        refine T_n ?_
        refine W_ret ?_
        refine T_r ?_
        exact BQ_r (End_1 Try.results5 (v := .bool true) rfl ⟨rfl, hU.own hn0⟩)
      · refine L_gy (dj := 21) rfl rfl rfl (X_cmp (k := .i64) (a := ((s.length : Nat) : Int)) (b := 255) (r := false) rfl rfl rfl (decide_eq_false (p := ((255) : Int) < ((((s.length : Nat) : Int)) : Int)) (by omega)) ?_)
        refine L_op rfl (X_pick (t := false) (v := (.bool (false))) rfl rfl ?_)
        refine L_op rfl (X_move (v := (.bool (false))) rfl ?_)
        refine L_gy (dj := 26) rfl rfl rfl (X_move (v := bt) rfl ?_)
        refine L_gy (dj := 26) rfl rfl rfl (X_len (v := bt) (n := t.length) Try.underlying22 rfl ht.sv ?_)
        by_cases hc7 : (((t.length : Nat) : Int) : Int) > (100)
        · refine L_gy (dj := 26) rfl rfl rfl (X_cmp (k := .i64) (a := ((t.length : Nat) : Int)) (b := 100) (r := true) rfl rfl rfl (decide_eq_true (p := ((100) : Int) < ((((t.length : Nat) : Int)) : Int)) (by omega)) ?_)
          refine L_op rfl (X_pick (t := false) (v := (.bool (true))) rfl rfl ?_)
          refine L_nil ?_
          refine T_n ?_
          refine W_ct rfl ?_
          refine W_seq ?_
          refine W_reg ?_
          refine L_op rfl (X_fn (vs := []) en8 rfl (CT.mono (c_wakes _) ?_))
          rintro vb8 w8 ⟨hvb8, hu8⟩
          have hz8 := hu8.size
          replace hs := hs.ext hu8
          replace ht := ht.ext hu8
          replace hU := hU.trans (Ext.upd hu8)
          subst hvb8
          refine L_op rfl (X_assign (v := (.bool (true))) rfl ?_)
          refine L_nil ?_
          refine T_n ?_
          refine W_ret ?_
          refine T_r ?_
          exact BQ_r (End_1 Try.results5 (v := .bool true) rfl ⟨rfl, hU.own hn0⟩)
        · refine L_gy (dj := 26) rfl rfl rfl (X_cmp (k := .i64) (a := ((t.length : Nat) : Int)) (b := 100) (r := false) rfl rfl rfl (decide_eq_false (p := ((100) : Int) < ((((t.length : Nat) : Int)) : Int)) (by omega)) ?_)
          have hW : m = ((wideN m : Nat) : Int) := by unfold wideN wideI; omega
          have hsl : s.length ≤ 255 := by omega
          have hw8 := wideN_le m
          refine L_op rfl (X_pick (t := false) (v := (.bool (false))) rfl rfl ?_)
          refine L_nil ?_
          refine T_n ?_
          refine W_cf rfl ?_
          refine W_skip ?_
          refine T_n ?_
          refine W_seq ?_
          refine W_reg ?_
          refine L_op rfl (X_move (v := (.int .u64 (((n : Nat) : Int)))) rfl ?_)
          refine L_op rfl (X_move (v := (.int .i64 (m))) rfl ?_)
          refine L_op rfl (X_fn (vs := [(.slice none 0 0), (.int .u64 (((n : Nat) : Int))), (.int .i64 (m))]) en13 rfl (CT.mono (c_put (.slice none 0 0) [] (n) m _ (by decide) (Rd.nil _ 1)) ?_))
          rintro v9 w9 ⟨hO9, hu9⟩
          have hz9 := hu9.size
          replace hO9 := hO9.eq (n' := (numB (n) (wideN m)).length) (xs' := (numB (n) (wideN m)).map byteV) (by rw [numB_length]; exact Nat.zero_add _) rfl
          replace hs := hs.ext hu9
          replace ht := ht.ext hu9
          replace hU := hU.trans (Ext.upd hu9)
          have hO9_b : ∀ b, obk v9 = some b → b < w9.heap.size := fun b hb => (hO9.lt hb).2
          refine L_op rfl (X_move (v := bt) rfl ?_)
          refine L_op rfl (X_append (B := w.heap.size) (n := (numB (n) (wideN m)).length) (s := v9) (x := bt) S22 ⟨_, Try.underlying22⟩ rfl rfl hO9 ht (byteV_one _) (by unfold maxLen; rw [numB_length]; omega) (by rw [numB_length]; omega) (by omega) ?_)
          intro v10 w10 hO10 hu10 ho10
          have hz10 := hu10.size
          replace hO10 := hO10.eq (n' := (numB n (wideN m) ++ t).length) (xs' := (numB n (wideN m) ++ t).map byteV) (by rw [List.length_append]) (by rw [List.map_append])
          replace hs := hs.upd hu10 fun i hi h => by have hi := hs_b _ hi; have h := hO9.lt h; omega
          replace ht := ht.upd hu10 fun i hi h => by have hi := ht_b _ hi; have h := hO9.lt h; omega
          replace hU := hU.trans (hu10.mono fun i _ h => by have h := hO9.lt h; show n0 ≤ i; omega)
          have hO10_b : ∀ b, obk v10 = some b → b < w10.heap.size := fun b hb => (hO10.lt hb).2
          refine L_op rfl (X_move (v := (.int .i64 (m))) rfl ?_)
          refine L_op rfl (X_fn (vs := [v10, (.int .i64 (m))]) en16 rfl (CT.mono (c_take _ (numB n (wideN m) ++ t) m _ hO10.rd) ?_))
          rintro vt11 w11 ⟨r11, hvt11, hr11, hrb11, hu11⟩
          have hz11 := hu11.size
          rw [pk_take, pk_e] at hvt11; subst hvt11
          rw [pk_rest] at hr11
          have hr11_b : ∀ b, rbk r11 = some b → b < w10.heap.size := fun b hb => (hO10.rd.bound (by decide) (hrb11 b hb))
          replace hs := hs.ext hu11
          replace ht := ht.ext hu11
          replace hU := hU.trans (Ext.upd hu11)
          replace hO10 := hO10.ext hu11
          refine L_op rfl (X_move (v := (.tuple #[(.int .u64 (((n % 256 ^ wideN m : Nat) : Int))), r11, (.int .i64 (0))])) rfl ?_)
          refine L_op rfl (X_extract (l := [(.int .u64 (((n % 256 ^ wideN m : Nat) : Int))), r11, (.int .i64 (0))]) (v := (.int .u64 (((n % 256 ^ wideN m : Nat) : Int)))) rfl rfl ?_)
          refine L_op rfl (X_extract (l := [(.int .u64 (((n % 256 ^ wideN m : Nat) : Int))), r11, (.int .i64 (0))]) (v := r11) rfl rfl ?_)
          refine L_op rfl (X_extract (l := [(.int .u64 (((n % 256 ^ wideN m : Nat) : Int))), r11, (.int .i64 (0))]) (v := (.int .i64 (0))) rfl rfl ?_)
          refine L_op rfl (X_assign (v := (.int .u64 (((n % 256 ^ wideN m : Nat) : Int)))) rfl ?_)
          refine L_op rfl (X_assign (v := r11) rfl ?_)
          refine L_op rfl (X_assign (v := (.int .i64 (0))) rfl ?_)
          refine L_nil ?_
          refine T_n ?_
          refine W_seq ?_
          refine W_seq ?_
          refine W_reg ?_
          refine L_op rfl (X_move (v := (.int .i64 (m))) rfl ?_)
          by_cases hc12 : (m : Int) < (8)
          · refine L_op rfl (X_cmp (k := .i64) (a := m) (b := 8) (r := true) rfl rfl rfl (decide_eq_true (p := ((m) : Int) < ((8) : Int)) (by omega)) ?_)
            refine L_nil ?_
            refine T_n ?_
            refine W_ct rfl ?_
            refine W_reg ?_
            refine L_op rfl (X_move (v := (.int .u64 (((n : Nat) : Int)))) rfl ?_)
            refine L_op rfl (X_move (v := (.int .i64 (m))) rfl ?_)
            refine L_op rfl (X_arith (k := .i64) (a := 8) (b := m) (r := 8 * (wideN m : Int)) rfl rfl rfl (imul64 (by omega) (by omega) (by omega)) ?_)
            refine L_op rfl (X_convInt (k := .i64) (a := 8 * (wideN m : Int)) (r := (8 * (wideN m : Int))) (by rw [Try.underlying3]; rfl) Try.underlying41 rfl (u64_wrap (by omega) (by omega)) ?_)
            refine L_op rfl (X_shift (k := .u64) (yk := .u64) (a := 1) (b := 8 * (wideN m : Int)) (r := ((256 ^ wideN m : Nat) : Int)) (.inl ⟨rfl, shl_mask (by omega)⟩) (by omega) rfl rfl ?_)
            refine L_op rfl (X_arith (k := .u64) (a := ((256 ^ wideN m : Nat) : Int)) (b := 1) (r := ((256 ^ wideN m - 1 : Nat) : Int)) rfl rfl rfl (sub_mask (by omega)) ?_)
            refine L_op rfl (X_arith (k := .u64) (a := ((n : Nat) : Int)) (b := ((256 ^ wideN m - 1 : Nat) : Int)) (r := ((n % 256 ^ wideN m : Nat) : Int)) rfl rfl rfl (and_mask hn (by omega)) ?_)
            refine L_op rfl (X_assign (v := (.int .u64 (((n % 256 ^ wideN m : Nat) : Int)))) rfl ?_)
            refine L_nil ?_
            refine T_n ?_
            refine W_seq ?_
            refine W_reg ?_
            refine L_op rfl (X_move (v := bs) rfl ?_)
            refine L_op rfl (X_fn (vs := [(.slice none 0 0), bs]) en14 rfl (CT.mono (c_putBytes (.slice none 0 0) _ [] (s) _ (by decide) (Rd.nil _ 1) hs) ?_))
            rintro v13 w13 ⟨hO13, hu13⟩
            have hz13 := hu13.size
            replace hO13 := hO13.eq (n' := (sizedB (s)).length) (xs' := (sizedB (s)).map byteV) rfl rfl
            replace hs := hs.ext hu13
            replace ht := ht.ext hu13
            replace hU := hU.trans (Ext.upd hu13)
            replace hO10 := hO10.ext hu13
            replace hr11 := hr11.ext hu13
            have hO13_b : ∀ b, obk v13 = some b → b < w13.heap.size := fun b hb => (hO13.lt hb).2
            refine L_op rfl (X_move (v := bt) rfl ?_)
            refine L_op rfl (X_append (B := w11.heap.size) (n := (sizedB (s)).length) (s := v13) (x := bt) S22 ⟨_, Try.underlying22⟩ rfl rfl hO13 ht (byteV_one _) (by unfold maxLen; rw [sizedB_length, List.length_take]; omega) (by rw [sizedB_length, List.length_take]; omega) (by omega) ?_)
            intro v14 w14 hO14 hu14 ho14
            have hz14 := hu14.size
            replace hO14 := hO14.eq (n' := (sizedB s ++ t).length) (xs' := (sizedB s ++ t).map byteV) (by rw [List.length_append]) (by rw [List.map_append])
            replace hs := hs.upd hu14 fun i hi h => by have hi := hs_b _ hi; have h := hO13.lt h; omega
            replace ht := ht.upd hu14 fun i hi h => by have hi := ht_b _ hi; have h := hO13.lt h; omega
            replace hU := hU.trans (hu14.mono fun i _ h => by have h := hO13.lt h; show n0 ≤ i; omega)
            replace hO10 := hO10.upd hu14 fun i hi h => by have hi := hO10_b _ hi; have h := hO13.lt h; omega
            replace hr11 := hr11.upd hu14 fun i hi h => by have hi := hr11_b _ hi; have h := hO13.lt h; omega
            have hO14_b : ∀ b, obk v14 = some b → b < w14.heap.size := fun b hb => (hO14.lt hb).2
            refine L_op rfl (X_fn (vs := [v14, (.int .i64 (255))]) en15 rfl (CT.mono (c_takeBytes _ (sizedB s ++ t) 255 _ hO14.rd) ?_))
            rintro vt15 w15 ⟨s15, r15, hvt15, hs15, hr15, hrb15, hu15⟩
            have hz15 := hu15.size
            rw [pb_e hsl] at hvt15; subst hvt15; rw [pb_s hsl] at hs15; rw [pb_r hsl] at hr15
            have hr15_b : ∀ b, rbk r15 = some b → b < w14.heap.size := fun b hb => (hO14.rd.bound (by decide) (hrb15 b hb))
            replace hs := hs.ext hu15
            replace ht := ht.ext hu15
            replace hU := hU.trans (Ext.upd hu15)
            replace hO10 := hO10.ext hu15
            replace hr11 := hr11.ext hu15
            replace hO14 := hO14.ext hu15
            have hs15_b : ∀ b, obk s15 = some b → b < w15.heap.size := fun b hb => (hs15.lt hb).2
            refine L_op rfl (X_move (v := (.tuple #[s15, r15, (.int .i64 (0))])) rfl ?_)
            refine L_op rfl (X_extract (l := [s15, r15, (.int .i64 (0))]) (v := s15) rfl rfl ?_)
            refine L_op rfl (X_extract (l := [s15, r15, (.int .i64 (0))]) (v := r15) rfl rfl ?_)
            refine L_op rfl (X_extract (l := [s15, r15, (.int .i64 (0))]) (v := (.int .i64 (0))) rfl rfl ?_)
            refine L_op rfl (X_assign (v := s15) rfl ?_)
            refine L_op rfl (X_assign (v := r15) rfl ?_)
            refine L_op rfl (X_assign (v := (.int .i64 (0))) rfl ?_)
            refine L_nil ?_
            refine T_n ?_
            refine W_seq ?_
            refine W_reg ?_
            refine L_op rfl (X_move (v := (.int .i64 (0))) rfl ?_)
            refine L_op rfl (X_cmp (k := .i64) (a := 0) (b := 0) (r := true) rfl rfl rfl rfl ?_)
            refine L_op rfl (X_move (v := (.bool (true))) rfl ?_)
            refine L_gy (dj := 63) rfl rfl rfl (X_move (v := (.int .u64 (((n % 256 ^ wideN m : Nat) : Int)))) rfl ?_)
            refine L_gy (dj := 63) rfl rfl rfl (X_move (v := .int .u64 ((n % 256 ^ wideN m : Nat) : Int)) rfl ?_)
            refine L_gy (dj := 63) rfl rfl rfl (X_cmp (k := .u64) (a := ((n % 256 ^ wideN m : Nat) : Int)) (b := ((n % 256 ^ wideN m : Nat) : Int)) (r := true) rfl rfl rfl (decide_eq_true rfl) ?_)
            refine L_op rfl (X_pick (t := true) (v := (.bool (true))) rfl rfl ?_)
            refine L_op rfl (X_move (v := (.bool (true))) rfl ?_)
            refine L_gy (dj := 68) rfl rfl rfl (X_move (v := r11) rfl ?_)
            refine L_gy (dj := 68) rfl rfl rfl (X_move (v := bt) rfl ?_)
            refine L_gy (dj := 68) rfl rfl rfl (X_fn (vs := [r11, bt]) en11 rfl (CT.mono (c_same _ _ (t) (t) _ hr11 ht) ?_))
            rintro vb16 _ ⟨hvb16, rfl⟩
            rw [show ((t : List UInt8) == t) = true from beq_self_eq_true t] at hvb16
            subst hvb16
            refine L_op rfl (X_pick (t := true) (v := (.bool (true))) rfl rfl ?_)
            refine L_op rfl (X_move (v := (.bool (true))) rfl ?_)
            refine L_gy (dj := 73) rfl rfl rfl (X_move (v := (.int .i64 (0))) rfl ?_)
            refine L_gy (dj := 73) rfl rfl rfl (X_cmp (k := .i64) (a := 0) (b := 0) (r := true) rfl rfl rfl rfl ?_)
            refine L_op rfl (X_pick (t := true) (v := (.bool (true))) rfl rfl ?_)
            refine L_op rfl (X_move (v := (.bool (true))) rfl ?_)
            refine L_gy (dj := 77) rfl rfl rfl (X_move (v := s15) rfl ?_)
            refine L_gy (dj := 77) rfl rfl rfl (X_move (v := bs) rfl ?_)
            refine L_gy (dj := 77) rfl rfl rfl (X_fn (vs := [s15, bs]) en11 rfl (CT.mono (c_same _ _ (s) (s) _ hs15.rd hs) ?_))
            rintro vb17 _ ⟨hvb17, rfl⟩
            rw [show ((s : List UInt8) == s) = true from beq_self_eq_true s] at hvb17
            subst hvb17
            refine L_op rfl (X_pick (t := true) (v := (.bool (true))) rfl rfl ?_)
            refine L_op rfl (X_move (v := (.bool (true))) rfl ?_)
            refine L_gy (dj := 82) rfl rfl rfl (X_move (v := r15) rfl ?_)
            refine L_gy (dj := 82) rfl rfl rfl (X_move (v := bt) rfl ?_)
            refine L_gy (dj := 82) rfl rfl rfl (X_fn (vs := [r15, bt]) en11 rfl (CT.mono (c_same _ _ (t) (t) _ hr15 ht) ?_))
            rintro vb18 _ ⟨hvb18, rfl⟩
            rw [show ((t : List UInt8) == t) = true from beq_self_eq_true t] at hvb18
            subst hvb18
            refine L_op rfl (X_pick (t := true) (v := (.bool (true))) rfl rfl ?_)
            refine L_op rfl (X_move (v := (.bool (true))) rfl ?_)
            refine L_gy (dj := 87) rfl rfl rfl (X_move (v := bt) rfl ?_)
            refine L_gy (dj := 87) rfl rfl rfl (X_move (v := .int .u64 ((n % 256 ^ wideN m : Nat) : Int)) rfl ?_)
            refine L_gy (dj := 87) rfl rfl rfl (X_move (v := (.int .i64 (m))) rfl ?_)
            refine L_gy (dj := 87) rfl rfl rfl (X_fn (vs := [bt, (.int .u64 (((n % 256 ^ wideN m : Nat) : Int))), (.int .i64 (m))]) en13 rfl (CT.mono (c_put _ (t) (n % 256 ^ wideN m) m _ (by omega) ht) ?_))
            rintro v19 w19 ⟨hO19, hu19⟩
            have hz19 := hu19.size
            replace hO19 := hO19.eq (n' := (t ++ numB (n % 256 ^ wideN m) (wideN m)).length) (xs' := (t ++ numB (n % 256 ^ wideN m) (wideN m)).map byteV) (by rw [List.length_append, numB_length]) rfl
            replace hs := hs.ext hu19
            replace ht := ht.ext hu19
            replace hU := hU.trans (Ext.upd hu19)
            replace hO10 := hO10.ext hu19
            replace hr11 := hr11.ext hu19
            replace hO14 := hO14.ext hu19
            replace hs15 := hs15.ext hu19
            replace hr15 := hr15.ext hu19
            have hO19_b : ∀ b, obk v19 = some b → b < w19.heap.size := fun b hb => (hO19.lt hb).2
            refine L_gy (dj := 87) rfl rfl rfl (X_len (v := v19) (n := (t ++ numB (n % 256 ^ wideN m) (wideN m)).length) Try.underlying22 rfl hO19.sv ?_)
            refine L_gy (dj := 87) rfl rfl rfl (X_move (v := bt) rfl ?_)
            refine L_gy (dj := 87) rfl rfl rfl (X_len (v := bt) (n := t.length) Try.underlying22 rfl ht.sv ?_)
            refine L_gy (dj := 87) rfl rfl rfl (X_move (v := (.int .i64 (m))) rfl ?_)
            refine L_gy (dj := 87) rfl rfl rfl (X_arith (k := .i64) (a := ((t.length : Nat) : Int)) (b := m) (r := ((t.length : Nat) : Int) + m) rfl rfl rfl (iadd64 rfl (by omega) (by omega)) ?_)
            refine L_gy (dj := 87) rfl rfl rfl (X_cmp (k := .i64) (a := (((t ++ numB (n % 256 ^ wideN m) (wideN m)).length : Nat) : Int)) (b := ((t.length : Nat) : Int) + m) (r := true) rfl rfl rfl (decide_eq_true (by rw [List.length_append, numB_length]; omega)) ?_)
            refine L_op rfl (X_pick (t := true) (v := (.bool (true))) rfl rfl ?_)
            refine L_op rfl (X_move (v := (.bool (true))) rfl ?_)
            refine L_gy (dj := 99) rfl rfl rfl (X_move (v := bt) rfl ?_)
            refine L_gy (dj := 99) rfl rfl rfl (X_move (v := bs) rfl ?_)
            refine L_gy (dj := 99) rfl rfl rfl (X_fn (vs := [bt, bs]) en14 rfl (CT.mono (c_putBytes _ _ (t) (s) _ (by omega) ht hs) ?_))
            rintro v20 w20 ⟨hO20, hu20⟩
            have hz20 := hu20.size
            replace hO20 := hO20.eq (n' := (t ++ sizedB (s)).length) (xs' := (t ++ sizedB (s)).map byteV) rfl rfl
            replace hs := hs.ext hu20
            replace ht := ht.ext hu20
            replace hU := hU.trans (Ext.upd hu20)
            replace hO10 := hO10.ext hu20
            replace hr11 := hr11.ext hu20
            replace hO14 := hO14.ext hu20
            replace hs15 := hs15.ext hu20
            replace hr15 := hr15.ext hu20
            replace hO19 := hO19.ext hu20
            have hO20_b : ∀ b, obk v20 = some b → b < w20.heap.size := fun b hb => (hO20.lt hb).2
            refine L_gy (dj := 99) rfl rfl rfl (X_len (v := v20) (n := (t ++ sizedB (s)).length) Try.underlying22 rfl hO20.sv ?_)
            refine L_gy (dj := 99) rfl rfl rfl (X_move (v := bt) rfl ?_)
            refine L_gy (dj := 99) rfl rfl rfl (X_len (v := bt) (n := t.length) Try.underlying22 rfl ht.sv ?_)
            refine L_gy (dj := 99) rfl rfl rfl (X_arith (k := .i64) (a := ((t.length : Nat) : Int)) (b := 1) (r := ((t.length : Nat) : Int) + 1) rfl rfl rfl (iadd64 rfl (by omega) (by omega)) ?_)
            refine L_gy (dj := 99) rfl rfl rfl (X_move (v := bs) rfl ?_)
            refine L_gy (dj := 99) rfl rfl rfl (X_len (v := bs) (n := s.length) Try.underlying22 rfl hs.sv ?_)
            refine L_gy (dj := 99) rfl rfl rfl (X_arith (k := .i64) (a := ((t.length : Nat) : Int) + 1) (b := ((s.length : Nat) : Int)) (r := ((t.length : Nat) : Int) + 1 + ((s.length : Nat) : Int)) rfl rfl rfl (iadd64 rfl (by omega) (by omega)) ?_)
            refine L_gy (dj := 99) rfl rfl rfl (X_cmp (k := .i64) (a := (((t ++ sizedB s).length : Nat) : Int)) (b := ((t.length : Nat) : Int) + 1 + ((s.length : Nat) : Int)) (r := true) rfl rfl rfl (decide_eq_true (by rw [List.length_append, sizedB_length, List.length_take]; omega)) ?_)
            refine L_op rfl (X_pick (t := true) (v := (.bool (true))) rfl rfl ?_)
            refine L_op rfl (X_move (v := (.bool (true))) rfl ?_)
            refine L_gy (dj := 112) rfl rfl rfl (X_fn (vs := []) en8 rfl (CT.mono (c_wakes _) ?_))
            rintro vb21 w21 ⟨hvb21, hu21⟩
            have hz21 := hu21.size
            replace hs := hs.ext hu21
            replace ht := ht.ext hu21
            replace hU := hU.trans (Ext.upd hu21)
            replace hO10 := hO10.ext hu21
            replace hr11 := hr11.ext hu21
            replace hO14 := hO14.ext hu21
            replace hs15 := hs15.ext hu21
            replace hr15 := hr15.ext hu21
            replace hO19 := hO19.ext hu21
            replace hO20 := hO20.ext hu21
            subst hvb21
            refine L_op rfl (X_pick (t := true) (v := (.bool (true))) rfl rfl ?_)
            refine L_op rfl (X_assign (v := (.bool (true))) rfl ?_)
            refine L_nil ?_
            refine T_n ?_
            refine W_ret ?_
            exact BQ_r (End_1 Try.results5 (v := .bool true) rfl ⟨rfl, hU.own hn0⟩)
          · refine L_op rfl (X_cmp (k := .i64) (a := m) (b := 8) (r := false) rfl rfl rfl (decide_eq_false (p := ((m) : Int) < ((8) : Int)) (by omega)) ?_)
            have hmf := mod_full hn (show wideN m = 8 by omega)
            have hnn : ((n : Nat) : Int) = ((n % 256 ^ wideN m : Nat) : Int) := by rw [hmf]
            refine L_nil ?_
            refine T_n ?_
            refine W_cf rfl ?_
            refine W_skip ?_
            refine T_n ?_
            refine W_seq ?_
            refine W_reg ?_
            refine L_op rfl (X_move (v := bs) rfl ?_)
            refine L_op rfl (X_fn (vs := [(.slice none 0 0), bs]) en14 rfl (CT.mono (c_putBytes (.slice none 0 0) _ [] (s) _ (by decide) (Rd.nil _ 1) hs) ?_))
            rintro v22 w22 ⟨hO22, hu22⟩
            have hz22 := hu22.size
            replace hO22 := hO22.eq (n' := (sizedB (s)).length) (xs' := (sizedB (s)).map byteV) rfl rfl
            replace hs := hs.ext hu22
            replace ht := ht.ext hu22
            replace hU := hU.trans (Ext.upd hu22)
            replace hO10 := hO10.ext hu22
            replace hr11 := hr11.ext hu22
            have hO22_b : ∀ b, obk v22 = some b → b < w22.heap.size := fun b hb => (hO22.lt hb).2
            refine L_op rfl (X_move (v := bt) rfl ?_)
            refine L_op rfl (X_append (B := w11.heap.size) (n := (sizedB (s)).length) (s := v22) (x := bt) S22 ⟨_, Try.underlying22⟩ rfl rfl hO22 ht (byteV_one _) (by unfold maxLen; rw [sizedB_length, List.length_take]; omega) (by rw [sizedB_length, List.length_take]; omega) (by omega) ?_)
            intro v23 w23 hO23 hu23 ho23
            have hz23 := hu23.size
            replace hO23 := hO23.eq (n' := (sizedB s ++ t).length) (xs' := (sizedB s ++ t).map byteV) (by rw [List.length_append]) (by rw [List.map_append])
            replace hs := hs.upd hu23 fun i hi h => by have hi := hs_b _ hi; have h := hO22.lt h; omega
            replace ht := ht.upd hu23 fun i hi h => by have hi := ht_b _ hi; have h := hO22.lt h; omega
            replace hU := hU.trans (hu23.mono fun i _ h => by have h := hO22.lt h; show n0 ≤ i; omega)
            replace hO10 := hO10.upd hu23 fun i hi h => by have hi := hO10_b _ hi; have h := hO22.lt h; omega
            replace hr11 := hr11.upd hu23 fun i hi h => by have hi := hr11_b _ hi; have h := hO22.lt h; omega
            have hO23_b : ∀ b, obk v23 = some b → b < w23.heap.size := fun b hb => (hO23.lt hb).2
            refine L_op rfl (X_fn (vs := [v23, (.int .i64 (255))]) en15 rfl (CT.mono (c_takeBytes _ (sizedB s ++ t) 255 _ hO23.rd) ?_))
            rintro vt24 w24 ⟨s24, r24, hvt24, hs24, hr24, hrb24, hu24⟩
            have hz24 := hu24.size
            rw [pb_e hsl] at hvt24; subst hvt24; rw [pb_s hsl] at hs24; rw [pb_r hsl] at hr24
            have hr24_b : ∀ b, rbk r24 = some b → b < w23.heap.size := fun b hb => (hO23.rd.bound (by decide) (hrb24 b hb))
            replace hs := hs.ext hu24
            replace ht := ht.ext hu24
            replace hU := hU.trans (Ext.upd hu24)
            replace hO10 := hO10.ext hu24
            replace hr11 := hr11.ext hu24
            replace hO23 := hO23.ext hu24
            have hs24_b : ∀ b, obk s24 = some b → b < w24.heap.size := fun b hb => (hs24.lt hb).2
            refine L_op rfl (X_move (v := (.tuple #[s24, r24, (.int .i64 (0))])) rfl ?_)
            refine L_op rfl (X_extract (l := [s24, r24, (.int .i64 (0))]) (v := s24) rfl rfl ?_)
            refine L_op rfl (X_extract (l := [s24, r24, (.int .i64 (0))]) (v := r24) rfl rfl ?_)
            refine L_op rfl (X_extract (l := [s24, r24, (.int .i64 (0))]) (v := (.int .i64 (0))) rfl rfl ?_)
            refine L_op rfl (X_assign (v := s24) rfl ?_)
            refine L_op rfl (X_assign (v := r24) rfl ?_)
            refine L_op rfl (X_assign (v := (.int .i64 (0))) rfl ?_)
            refine L_nil ?_
            refine T_n ?_
            refine W_seq ?_
            refine W_reg ?_
            refine L_op rfl (X_move (v := (.int .i64 (0))) rfl ?_)
            refine L_op rfl (X_cmp (k := .i64) (a := 0) (b := 0) (r := true) rfl rfl rfl rfl ?_)
            refine L_op rfl (X_move (v := (.bool (true))) rfl ?_)
            refine L_gy (dj := 63) rfl rfl rfl (X_move (v := (.int .u64 (((n % 256 ^ wideN m : Nat) : Int)))) rfl ?_)
            refine L_gy (dj := 63) rfl rfl rfl (X_move (v := .int .u64 ((n % 256 ^ wideN m : Nat) : Int)) (by rw [← hnn]; rfl) ?_)
            refine L_gy (dj := 63) rfl rfl rfl (X_cmp (k := .u64) (a := ((n % 256 ^ wideN m : Nat) : Int)) (b := ((n % 256 ^ wideN m : Nat) : Int)) (r := true) rfl rfl rfl (decide_eq_true rfl) ?_)
            refine L_op rfl (X_pick (t := true) (v := (.bool (true))) rfl rfl ?_)
            refine L_op rfl (X_move (v := (.bool (true))) rfl ?_)
            refine L_gy (dj := 68) rfl rfl rfl (X_move (v := r11) rfl ?_)
            refine L_gy (dj := 68) rfl rfl rfl (X_move (v := bt) rfl ?_)
            refine L_gy (dj := 68) rfl rfl rfl (X_fn (vs := [r11, bt]) en11 rfl (CT.mono (c_same _ _ (t) (t) _ hr11 ht) ?_))
            rintro vb25 _ ⟨hvb25, rfl⟩
            rw [show ((t : List UInt8) == t) = true from beq_self_eq_true t] at hvb25
            subst hvb25
            refine L_op rfl (X_pick (t := true) (v := (.bool (true))) rfl rfl ?_)
            refine L_op rfl (X_move (v := (.bool (true))) rfl ?_)
            refine L_gy (dj := 73) rfl rfl rfl (X_move (v := (.int .i64 (0))) rfl ?_)
            refine L_gy (dj := 73) rfl rfl rfl (X_cmp (k := .i64) (a := 0) (b := 0) (r := true) rfl rfl rfl rfl ?_)
            refine L_op rfl (X_pick (t := true) (v := (.bool (true))) rfl rfl ?_)
            refine L_op rfl (X_move (v := (.bool (true))) rfl ?_)
            refine L_gy (dj := 77) rfl rfl rfl (X_move (v := s24) rfl ?_)
            refine L_gy (dj := 77) rfl rfl rfl (X_move (v := bs) rfl ?_)
            refine L_gy (dj := 77) rfl rfl rfl (X_fn (vs := [s24, bs]) en11 rfl (CT.mono (c_same _ _ (s) (s) _ hs24.rd hs) ?_))
            rintro vb26 _ ⟨hvb26, rfl⟩
            rw [show ((s : List UInt8) == s) = true from beq_self_eq_true s] at hvb26
            subst hvb26
            refine L_op rfl (X_pick (t := true) (v := (.bool (true))) rfl rfl ?_)
            refine L_op rfl (X_move (v := (.bool (true))) rfl ?_)
            refine L_gy (dj := 82) rfl rfl rfl (X_move (v := r24) rfl ?_)
            refine L_gy (dj := 82) rfl rfl rfl (X_move (v := bt) rfl ?_)
            refine L_gy (dj := 82) rfl rfl rfl (X_fn (vs := [r24, bt]) en11 rfl (CT.mono (c_same _ _ (t) (t) _ hr24 ht) ?_))
            rintro vb27 _ ⟨hvb27, rfl⟩
            rw [show ((t : List UInt8) == t) = true from beq_self_eq_true t] at hvb27
            subst hvb27
            refine L_op rfl (X_pick (t := true) (v := (.bool (true))) rfl rfl ?_)
            refine L_op rfl (X_move (v := (.bool (true))) rfl ?_)
            refine L_gy (dj := 87) rfl rfl rfl (X_move (v := bt) rfl ?_)
            refine L_gy (dj := 87) rfl rfl rfl (X_move (v := .int .u64 ((n % 256 ^ wideN m : Nat) : Int)) (by rw [← hnn]; rfl) ?_)
            refine L_gy (dj := 87) rfl rfl rfl (X_move (v := (.int .i64 (m))) rfl ?_)
            refine L_gy (dj := 87) rfl rfl rfl (X_fn (vs := [bt, (.int .u64 (((n % 256 ^ wideN m : Nat) : Int))), (.int .i64 (m))]) en13 rfl (CT.mono (c_put _ (t) (n % 256 ^ wideN m) m _ (by omega) ht) ?_))
            rintro v28 w28 ⟨hO28, hu28⟩
            have hz28 := hu28.size
            replace hO28 := hO28.eq (n' := (t ++ numB (n % 256 ^ wideN m) (wideN m)).length) (xs' := (t ++ numB (n % 256 ^ wideN m) (wideN m)).map byteV) (by rw [List.length_append, numB_length]) rfl
            replace hs := hs.ext hu28
            replace ht := ht.ext hu28
            replace hU := hU.trans (Ext.upd hu28)
            replace hO10 := hO10.ext hu28
            replace hr11 := hr11.ext hu28
            replace hO23 := hO23.ext hu28
            replace hs24 := hs24.ext hu28
            replace hr24 := hr24.ext hu28
            have hO28_b : ∀ b, obk v28 = some b → b < w28.heap.size := fun b hb => (hO28.lt hb).2
            refine L_gy (dj := 87) rfl rfl rfl (X_len (v := v28) (n := (t ++ numB (n % 256 ^ wideN m) (wideN m)).length) Try.underlying22 rfl hO28.sv ?_)
            refine L_gy (dj := 87) rfl rfl rfl (X_move (v := bt) rfl ?_)
            refine L_gy (dj := 87) rfl rfl rfl (X_len (v := bt) (n := t.length) Try.underlying22 rfl ht.sv ?_)
            refine L_gy (dj := 87) rfl rfl rfl (X_move (v := (.int .i64 (m))) rfl ?_)
            refine L_gy (dj := 87) rfl rfl rfl (X_arith (k := .i64) (a := ((t.length : Nat) : Int)) (b := m) (r := ((t.length : Nat) : Int) + m) rfl rfl rfl (iadd64 rfl (by omega) (by omega)) ?_)
            refine L_gy (dj := 87) rfl rfl rfl (X_cmp (k := .i64) (a := (((t ++ numB (n % 256 ^ wideN m) (wideN m)).length : Nat) : Int)) (b := ((t.length : Nat) : Int) + m) (r := true) rfl rfl rfl (decide_eq_true (by rw [List.length_append, numB_length]; omega)) ?_)
            refine L_op rfl (X_pick (t := true) (v := (.bool (true))) rfl rfl ?_)
            refine L_op rfl (X_move (v := (.bool (true))) rfl ?_)
            refine L_gy (dj := 99) rfl rfl rfl (X_move (v := bt) rfl ?_)
            refine L_gy (dj := 99) rfl rfl rfl (X_move (v := bs) rfl ?_)
            refine L_gy (dj := 99) rfl rfl rfl (X_fn (vs := [bt, bs]) en14 rfl (CT.mono (c_putBytes _ _ (t) (s) _ (by omega) ht hs) ?_))
            rintro v29 w29 ⟨hO29, hu29⟩
            have hz29 := hu29.size
            replace hO29 := hO29.eq (n' := (t ++ sizedB (s)).length) (xs' := (t ++ sizedB (s)).map byteV) rfl rfl
            replace hs := hs.ext hu29
            replace ht := ht.ext hu29
            replace hU := hU.trans (Ext.upd hu29)
            replace hO10 := hO10.ext hu29
            replace hr11 := hr11.ext hu29
            replace hO23 := hO23.ext hu29
            replace hs24 := hs24.ext hu29
            replace hr24 := hr24.ext hu29
            replace hO28 := hO28.ext hu29
            have hO29_b : ∀ b, obk v29 = some b → b < w29.heap.size := fun b hb => (hO29.lt hb).2
            refine L_gy (dj := 99) rfl rfl rfl (X_len (v := v29) (n := (t ++ sizedB (s)).length) Try.underlying22 rfl hO29.sv ?_)
            refine L_gy (dj := 99) rfl rfl rfl (X_move (v := bt) rfl ?_)
            refine L_gy (dj := 99) rfl rfl rfl (X_len (v := bt) (n := t.length) Try.underlying22 rfl ht.sv ?_)
            refine L_gy (dj := 99) rfl rfl rfl (X_arith (k := .i64) (a := ((t.length : Nat) : Int)) (b := 1) (r := ((t.length : Nat) : Int) + 1) rfl rfl rfl (iadd64 rfl (by omega) (by omega)) ?_)
            refine L_gy (dj := 99) rfl rfl rfl (X_move (v := bs) rfl ?_)
            refine L_gy (dj := 99) rfl rfl rfl (X_len (v := bs) (n := s.length) Try.underlying22 rfl hs.sv ?_)
            refine L_gy (dj := 99) rfl rfl rfl (X_arith (k := .i64) (a := ((t.length : Nat) : Int) + 1) (b := ((s.length : Nat) : Int)) (r := ((t.length : Nat) : Int) + 1 + ((s.length : Nat) : Int)) rfl rfl rfl (iadd64 rfl (by omega) (by omega)) ?_)
            refine L_gy (dj := 99) rfl rfl rfl (X_cmp (k := .i64) (a := (((t ++ sizedB s).length : Nat) : Int)) (b := ((t.length : Nat) : Int) + 1 + ((s.length : Nat) : Int)) (r := true) rfl rfl rfl (decide_eq_true (by rw [List.length_append, sizedB_length, List.length_take]; omega)) ?_)
            refine L_op rfl (X_pick (t := true) (v := (.bool (true))) rfl rfl ?_)
            refine L_op rfl (X_move (v := (.bool (true))) rfl ?_)
            refine L_gy (dj := 112) rfl rfl rfl (X_fn (vs := []) en8 rfl (CT.mono (c_wakes _) ?_))
            rintro vb30 w30 ⟨hvb30, hu30⟩
            have hz30 := hu30.size
            replace hs := hs.ext hu30
            replace ht := ht.ext hu30
            replace hU := hU.trans (Ext.upd hu30)
            replace hO10 := hO10.ext hu30
            replace hr11 := hr11.ext hu30
            replace hO23 := hO23.ext hu30
            replace hs24 := hs24.ext hu30
            replace hr24 := hr24.ext hu30
            replace hO28 := hO28.ext hu30
            replace hO29 := hO29.ext hu30
            subst hvb30
            refine L_op rfl (X_pick (t := true) (v := (.bool (true))) rfl rfl ?_)
            refine L_op rfl (X_assign (v := (.bool (true))) rfl ?_)
            refine L_nil ?_
            refine T_n ?_
            refine W_ret ?_
            exact BQ_r (End_1 Try.results5 (v := .bool true) rfl ⟨rfl, hU.own hn0⟩)
end Go.Proofs.Ytaalnnjdiaekdaa
