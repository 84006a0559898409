/-
  Plain laws on the pages of chains. (Printed by wip/gen/t08i.py of this repo.)
-/
import Derived.Test.YtmggaahkfidfaaaDoorChainB
namespace Go.Proofs.YtmggaahkfidfaaaDoor
open Go Go.SL Go.Proofs
set_option linter.unusedVariables false

theorem valB_numB : ∀ (w n : Nat), valB (numB n w) = n % 256 ^ w
  | 0, n => by simp [numB, valB, Nat.mod_one]
  | w + 1, n => by
    have h : numB n (w + 1) = UInt8.ofNat n :: numB (n / 256) w := by
      unfold numB
      rw [List.range_succ_eq_map, List.map_cons, List.map_map]
      congr 1
      · unfold byteAt; rw [Nat.pow_zero, Nat.div_one]
      · apply List.map_congr_left
        intro k _
        show UInt8.ofNat (n / 256 ^ (k + 1)) = UInt8.ofNat (n / 256 / 256 ^ k)
        rw [Nat.div_div_eq_div_mul, Nat.pow_succ, Nat.mul_comm]
    rw [h]
    show (UInt8.ofNat n).toNat + 256 * valB (numB (n / 256) w) = _
    rw [valB_numB w (n / 256), UInt8.toNat_ofNat', show 256 ^ (w + 1) = 256 * 256 ^ w by rw [Nat.pow_succ, Nat.mul_comm], Nat.mod_mul]
theorem pk_take {n W : Nat} {t : List UInt8} : takeV (numB n W ++ t) W = n % 256 ^ W := by
  unfold takeV
  rw [if_neg (by rw [List.length_append, numB_length]; omega), List.take_append_of_le_length (by rw [numB_length]; exact Nat.le_refl _), List.take_of_length_le (by rw [numB_length]; exact Nat.le_refl _), valB_numB]
theorem pk_rest {n W : Nat} {t : List UInt8} : restB (numB n W ++ t) W = t := by
  unfold restB
  rw [if_neg (by rw [List.length_append, numB_length]; omega), List.drop_append_of_le_length (by rw [numB_length]; exact Nat.le_refl _), List.drop_eq_nil_of_le (by rw [numB_length]; exact Nat.le_refl _), List.nil_append]
theorem pk_e {n W : Nat} {t : List UInt8} : (if (numB n W ++ t).length < W then (20 : Int) else 0) = 0 := if_neg (by rw [List.length_append, numB_length]; omega)
theorem sized_full {s : List UInt8} (h : s.length ≤ 255) : sizedB s = UInt8.ofNat s.length :: s := by unfold sizedB; rw [List.take_of_length_le h]
theorem pb_head {s t : List UInt8} (h : s.length ≤ 255) : (sizedB s ++ t)[0]? = some (UInt8.ofNat s.length) := by rw [sized_full h]; rfl
theorem pb_n {s : List UInt8} (h : s.length ≤ 255) : (UInt8.ofNat s.length).toNat = s.length := by rw [UInt8.toNat_ofNat']; omega
theorem pb_e {s t : List UInt8} (h : s.length ≤ 255) : takeE (sizedB s ++ t) 255 = 0 := take_ok (pb_head h) (by rw [pb_n h, sized_full h, List.length_append, List.length_cons]; omega) (by rw [pb_n h]; omega)
theorem pb_s {s t : List UInt8} (h : s.length ≤ 255) : takeS (sizedB s ++ t) 255 = s := by
  rw [takeS_ok (pb_e h) (pb_head h), pb_n h, Nat.add_sub_cancel_left, sized_full h]
  show (s ++ t).take s.length = s
  rw [List.take_append_of_le_length (Nat.le_refl _), List.take_length]
theorem pb_r {s t : List UInt8} (h : s.length ≤ 255) : takeR (sizedB s ++ t) 255 = t := by
  rw [takeR_ok (pb_e h) (pb_head h), pb_n h, drop_rest, sized_full h, Nat.add_comm]
  show (s ++ t).drop s.length = t
  rw [List.drop_append_of_le_length (Nat.le_refl _), List.drop_length, List.nil_append]


theorem pb_e2 {s t : List UInt8} (h : s.length ≤ 200) : takeE (sizedB s ++ t) 200 = 0 := take_ok (pb_head (by omega)) (by rw [pb_n (by omega), sized_full (by omega), List.length_append, List.length_cons]; omega) (by rw [pb_n (by omega)]; omega)
theorem pb_s2 {s t : List UInt8} (h : s.length ≤ 200) : takeS (sizedB s ++ t) 200 = s := by
  rw [takeS_ok (pb_e2 h) (pb_head (by omega)), pb_n (by omega), Nat.add_sub_cancel_left, sized_full (by omega)]
  show (s ++ t).take s.length = s
  rw [List.take_append_of_le_length (Nat.le_refl _), List.take_length]
theorem pb_r2 {s t : List UInt8} (h : s.length ≤ 200) : takeR (sizedB s ++ t) 200 = t := by
  rw [takeR_ok (pb_e2 h) (pb_head (by omega)), pb_n (by omega), drop_rest, sized_full (by omega), Nat.add_comm]
  show (s ++ t).drop s.length = t
  rw [List.drop_append_of_le_length (Nat.le_refl _), List.drop_length, List.nil_append]
theorem ptrB_eq (q : Pt) (t : List UInt8) : ptrB q ++ t = numB q.1.toNat 1 ++ (numB q.2.1.toNat 2 ++ (numB q.2.2.1.toNat 2 ++ (numB q.2.2.2.1.toNat 4 ++ (numB q.2.2.2.2.toNat 8 ++ t)))) := by
  unfold ptrB ptrP
  show ([(q.1, (1 : Int)), (q.2.1, 2), (q.2.2.1, 2), (q.2.2.2.1, 4), (q.2.2.2.2, 8)].flatMap fun e => numB e.1.toNat (wideN e.2)) ++ t = _
  simp only [List.flatMap_cons, List.flatMap_nil, List.append_nil, List.append_assoc]
  rfl
theorem pk_take' {n W : Nat} {t : List UInt8} (h : n < 256 ^ W) : takeV (numB n W ++ t) W = n := by rw [pk_take, Nat.mod_eq_of_lt h]
theorem tk_all {q : Pt} (hq : PtOk q) (t : List UInt8) : tkQ (ptrB q ++ t) = q ∧ tkR (ptrB q ++ t) 5 = t := by
  obtain ⟨h1, h2, h3, h4, h5⟩ := hq
  have r0 : tkR (ptrB q ++ t) 0 = _ := ptrB_eq q t
  have r1 : tkR (ptrB q ++ t) 1 = _ := (congrArg (restB · 1) r0).trans pk_rest
  have r2 : tkR (ptrB q ++ t) 2 = _ := (congrArg (restB · 2) r1).trans pk_rest
  have r3 : tkR (ptrB q ++ t) 3 = _ := (congrArg (restB · 2) r2).trans pk_rest
  have r4 : tkR (ptrB q ++ t) 4 = _ := (congrArg (restB · 4) r3).trans pk_rest
  have r5 : tkR (ptrB q ++ t) 5 = _ := (congrArg (restB · 8) r4).trans pk_rest
  have v0 : tkV (ptrB q ++ t) 0 = _ := (congrArg (takeV · 1) r0).trans (pk_take' (by rw [show (256 : Nat) ^ 1 = 256 by decide]; omega))
  have v1 : tkV (ptrB q ++ t) 1 = _ := (congrArg (takeV · 2) r1).trans (pk_take' (by rw [show (256 : Nat) ^ 2 = 65536 by decide]; omega))
  have v2 : tkV (ptrB q ++ t) 2 = _ := (congrArg (takeV · 2) r2).trans (pk_take' (by rw [show (256 : Nat) ^ 2 = 65536 by decide]; omega))
  have v3 : tkV (ptrB q ++ t) 3 = _ := (congrArg (takeV · 4) r3).trans (pk_take' (by rw [show (256 : Nat) ^ 4 = 4294967296 by decide]; omega))
  have v4 : tkV (ptrB q ++ t) 4 = _ := (congrArg (takeV · 8) r4).trans (pk_take' (by rw [show (256 : Nat) ^ 8 = 18446744073709551616 by decide]; omega))
  refine ⟨?_, r5⟩
  unfold tkQ
  rw [v0, v1, v2, v3, v4]
  obtain ⟨a, b, c, d, e⟩ := q
  dsimp only at h1 h2 h3 h4 h5 ⊢
  rw [Int.toNat_of_nonneg h1.1, Int.toNat_of_nonneg h2.1, Int.toNat_of_nonneg h3.1, Int.toNat_of_nonneg h4.1, Int.toNat_of_nonneg h5.1]
theorem takeQ_ptrB {q : Pt} (hq : PtOk q) (t : List UInt8) : takeQ (ptrB q ++ t) = q ∧ takeQE (ptrB q ++ t) = 0 := by
  have hl : ¬ (ptrB q ++ t).length < 17 := by rw [List.length_append, ptrB_len]; omega
  exact ⟨(if_neg hl).trans (tk_all hq t).1, if_neg hl⟩
theorem fill_small {l : List UInt8} (h : l.length ≤ 256) : fillL l = l ++ List.replicate (256 - l.length) 0 := if_neg (by omega)
theorem dL_enc {l : List UInt8} {q : Pt} (h : l.length ≤ 200) : dL (encL l q) = sizedB l ++ (ptrB q ++ List.replicate (256 - (([3] ++ sizedB l) ++ ptrB q).length) 0) := by
  have hb := enc_big (l := l) (q := q) h
  unfold dL encL
  rw [fill_small hb]
  have e : ([3] ++ sizedB l ++ ptrB q ++ List.replicate (256 - ([3] ++ sizedB l ++ ptrB q).length) (0 : UInt8)) = 3 :: (sizedB l ++ (ptrB q ++ List.replicate (256 - ([3] ++ sizedB l ++ ptrB q).length) 0)) := by
    simp only [List.append_assoc, List.cons_append, List.nil_append]
  have h1 : (sizedB l ++ ptrB q).length = ([3] ++ sizedB l ++ ptrB q).length - 1 := by simp [List.length_append]
  have h2 : 1 ≤ ([3] ++ sizedB l ++ ptrB q).length := by simp [List.length_append]
  have h3 : (sizedB l ++ (ptrB q ++ List.replicate (256 - ([3] ++ sizedB l ++ ptrB q).length) (0 : UInt8))).length ≤ 256 - 1 := by
    rw [← List.append_assoc, List.length_append, List.length_replicate, h1]; omega
  rw [e, List.drop_one, List.tail_cons, List.take_of_length_le h3]
theorem dec_enc {l : List UInt8} {q : Pt} (h : EncOk l q) (hq : PtOk q) : dS (encL l q) = l ∧ dQ (encL l q) = q ∧ DecOk (encL l q) := by
  have hl : l.length ≤ 200 := h.2.1
  have e := dL_enc (q := q) hl
  have h1 : dS (encL l q) = l := by unfold dS; rw [e]; exact pb_s2 hl
  have h2 : dR (encL l q) = ptrB q ++ List.replicate (256 - (([3] ++ sizedB l) ++ ptrB q).length) 0 := by unfold dR; rw [e]; exact pb_r2 hl
  have h3 : dQ (encL l q) = q := by unfold dQ; rw [h2]; exact (takeQ_ptrB hq _).1
  refine ⟨h1, h3, by rw [e]; exact pb_e2 hl, by rw [h2]; exact (takeQ_ptrB hq _).2, ?_, ?_⟩
  · rw [h1, h3]; exact encE_ok h
  · rw [h1, h3]; exact encP_ok h
theorem dec_of {l : List UInt8} {q : Pt} (h : EncOk l q) (hq : PtOk q) : decB (encP l q) = l ∧ decN (encP l q) = q ∧ decE (encP l q) = 0 := by
  obtain ⟨h1, h2, h3⟩ := dec_enc h hq
  rw [encP_ok h]
  exact ⟨(if_pos h3).trans h1, (if_pos h3).trans h2, if_pos h3⟩
theorem dec_bad {p : List UInt8} (h : decE p ≠ 0) : decE p = 50 ∧ decB p = [] ∧ decN p = ptZ := by
  have hn : ¬ DecOk p := fun h1 => h (if_pos h1)
  exact ⟨if_neg hn, if_neg hn, if_neg hn⟩
theorem dec_good {p : List UInt8} (h : decE p = 0) : encE (decB p) (decN p) = 0 ∧ encP (decB p) (decN p) = p := by
  have hn : DecOk p := by
    unfold decE at h
    split at h
    · assumption
    · cases h
  have e1 : decB p = dS p := if_pos hn
  have e2 : decN p = dQ p := if_pos hn
  rw [e1, e2]
  exact ⟨hn.2.2.1, hn.2.2.2⟩
theorem enc_ab : EncOk [97, 98] ptZ := ⟨by decide, by decide, .inl rfl⟩
theorem enc_nil : ¬ EncOk [] ptZ := fun h => by have := h.1; simp at this
theorem dec_zero : decE (List.replicate 256 0) = 50 := by
  refine if_neg fun h => ?_
  have h1 : dS (List.replicate 256 (0 : UInt8)) = [] := by decide +kernel
  have h2 := encE_zero h.2.2.1
  rw [h1] at h2
  have := h2.1
  simp at this
theorem enc_0 : (encP [97, 98] ptZ)[0]? = some 3 := by rw [encP_ok enc_ab]; decide +kernel
theorem enc_1 : (encP [97, 98] ptZ)[1]? = some 2 := by rw [encP_ok enc_ab]; decide +kernel
end Go.Proofs.YtmggaahkfidfaaaDoor
