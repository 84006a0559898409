/-
  Plain laws on the pages of branches. (Printed by wip/gen/t07j.py of this repo.)
-/
import Derived.Test.YtbgpegccnalkeaaDoorKidsE
namespace Go.Proofs.YtbgpegccnalkeaaDoor
open Go Go.SL Go.Proofs
set_option linter.unusedVariables false

theorem valB_numB : ∀ (w n : Nat), valB (numB n w) = n % 256 ^ w
  | 0, n => by simp [numB, valB, Nat.mod_one]
  | w + 1, n => by
    have h : numB n (w + 1) = UInt8.ofNat n :: numB (n / 256) w := by
      unfold numB
      rw [List.range_succ_eq_map, List.map_cons, List.map_map]
      congr 1
      · unfold byteAt; rw [Nat.pow_zero, Nat.div_one]
      · apply List.map_congr_left
        intro k _
        show UInt8.ofNat (n / 256 ^ (k + 1)) = UInt8.ofNat (n / 256 / 256 ^ k)
        rw [Nat.div_div_eq_div_mul, Nat.pow_succ, Nat.mul_comm]
    rw [h]
    show (UInt8.ofNat n).toNat + 256 * valB (numB (n / 256) w) = _
    rw [valB_numB w (n / 256), UInt8.toNat_ofNat', show 256 ^ (w + 1) = 256 * 256 ^ w by rw [Nat.pow_succ, Nat.mul_comm], Nat.mod_mul]
theorem pk_take {n W : Nat} {t : List UInt8} : takeV (numB n W ++ t) W = n % 256 ^ W := by
  unfold takeV
  rw [if_neg (by rw [List.length_append, numB_length]; omega), List.take_append_of_le_length (by rw [numB_length]; exact Nat.le_refl _), List.take_of_length_le (by rw [numB_length]; exact Nat.le_refl _), valB_numB]
theorem pk_rest {n W : Nat} {t : List UInt8} : restB (numB n W ++ t) W = t := by
  unfold restB
  rw [if_neg (by rw [List.length_append, numB_length]; omega), List.drop_append_of_le_length (by rw [numB_length]; exact Nat.le_refl _), List.drop_eq_nil_of_le (by rw [numB_length]; exact Nat.le_refl _), List.nil_append]
theorem pk_e {n W : Nat} {t : List UInt8} : (if (numB n W ++ t).length < W then (20 : Int) else 0) = 0 := if_neg (by rw [List.length_append, numB_length]; omega)
theorem sized_full {s : List UInt8} (h : s.length ≤ 255) : sizedB s = UInt8.ofNat s.length :: s := by unfold sizedB; rw [List.take_of_length_le h]
theorem pb_head {s t : List UInt8} (h : s.length ≤ 255) : (sizedB s ++ t)[0]? = some (UInt8.ofNat s.length) := by rw [sized_full h]; rfl
theorem pb_n {s : List UInt8} (h : s.length ≤ 255) : (UInt8.ofNat s.length).toNat = s.length := by rw [UInt8.toNat_ofNat']; omega
theorem pb_e {s t : List UInt8} (h : s.length ≤ 255) : takeE (sizedB s ++ t) 255 = 0 := take_ok (pb_head h) (by rw [pb_n h, sized_full h, List.length_append, List.length_cons]; omega) (by rw [pb_n h]; omega)
theorem pb_s {s t : List UInt8} (h : s.length ≤ 255) : takeS (sizedB s ++ t) 255 = s := by
  rw [takeS_ok (pb_e h) (pb_head h), pb_n h, Nat.add_sub_cancel_left, sized_full h]
  show (s ++ t).take s.length = s
  rw [List.take_append_of_le_length (Nat.le_refl _), List.take_length]
theorem pb_r {s t : List UInt8} (h : s.length ≤ 255) : takeR (sizedB s ++ t) 255 = t := by
  rw [takeR_ok (pb_e h) (pb_head h), pb_n h, drop_rest, sized_full h, Nat.add_comm]
  show (s ++ t).drop s.length = t
  rw [List.drop_append_of_le_length (Nat.le_refl _), List.drop_length, List.nil_append]


theorem pb_e2 {s t : List UInt8} (h : s.length ≤ 8) : takeE (sizedB s ++ t) 8 = 0 := take_ok (pb_head (by omega)) (by rw [pb_n (by omega), sized_full (by omega), List.length_append, List.length_cons]; omega) (by rw [pb_n (by omega)]; omega)
theorem pb_s2 {s t : List UInt8} (h : s.length ≤ 8) : takeS (sizedB s ++ t) 8 = s := by
  rw [takeS_ok (pb_e2 h) (pb_head (by omega)), pb_n (by omega), Nat.add_sub_cancel_left, sized_full (by omega)]
  show (s ++ t).take s.length = s
  rw [List.take_append_of_le_length (Nat.le_refl _), List.take_length]
theorem pb_r2 {s t : List UInt8} (h : s.length ≤ 8) : takeR (sizedB s ++ t) 8 = t := by
  rw [takeR_ok (pb_e2 h) (pb_head (by omega)), pb_n (by omega), drop_rest, sized_full (by omega), Nat.add_comm]
  show (s ++ t).drop s.length = t
  rw [List.drop_append_of_le_length (Nat.le_refl _), List.drop_length, List.nil_append]
theorem ptrB_eq (q : Pt) (t : List UInt8) : ptrB q ++ t = numB q.1.toNat 1 ++ (numB q.2.1.toNat 2 ++ (numB q.2.2.1.toNat 2 ++ (numB q.2.2.2.1.toNat 4 ++ (numB q.2.2.2.2.toNat 8 ++ t)))) := by
  unfold ptrB ptrP
  show ([(q.1, (1 : Int)), (q.2.1, 2), (q.2.2.1, 2), (q.2.2.2.1, 4), (q.2.2.2.2, 8)].flatMap fun e => numB e.1.toNat (wideN e.2)) ++ t = _
  simp only [List.flatMap_cons, List.flatMap_nil, List.append_nil, List.append_assoc]
  rfl
theorem pk_take' {n W : Nat} {t : List UInt8} (h : n < 256 ^ W) : takeV (numB n W ++ t) W = n := by rw [pk_take, Nat.mod_eq_of_lt h]
theorem tk_all {q : Pt} (hq : PtOk q) (t : List UInt8) : tkQ (ptrB q ++ t) = q ∧ tkR (ptrB q ++ t) 5 = t := by
  obtain ⟨h1, h2, h3, h4, h5⟩ := hq
  have r0 : tkR (ptrB q ++ t) 0 = _ := ptrB_eq q t
  have r1 : tkR (ptrB q ++ t) 1 = _ := (congrArg (restB · 1) r0).trans pk_rest
  have r2 : tkR (ptrB q ++ t) 2 = _ := (congrArg (restB · 2) r1).trans pk_rest
  have r3 : tkR (ptrB q ++ t) 3 = _ := (congrArg (restB · 2) r2).trans pk_rest
  have r4 : tkR (ptrB q ++ t) 4 = _ := (congrArg (restB · 4) r3).trans pk_rest
  have r5 : tkR (ptrB q ++ t) 5 = _ := (congrArg (restB · 8) r4).trans pk_rest
  have v0 : tkV (ptrB q ++ t) 0 = _ := (congrArg (takeV · 1) r0).trans (pk_take' (by rw [show (256 : Nat) ^ 1 = 256 by decide]; omega))
  have v1 : tkV (ptrB q ++ t) 1 = _ := (congrArg (takeV · 2) r1).trans (pk_take' (by rw [show (256 : Nat) ^ 2 = 65536 by decide]; omega))
  have v2 : tkV (ptrB q ++ t) 2 = _ := (congrArg (takeV · 2) r2).trans (pk_take' (by rw [show (256 : Nat) ^ 2 = 65536 by decide]; omega))
  have v3 : tkV (ptrB q ++ t) 3 = _ := (congrArg (takeV · 4) r3).trans (pk_take' (by rw [show (256 : Nat) ^ 4 = 4294967296 by decide]; omega))
  have v4 : tkV (ptrB q ++ t) 4 = _ := (congrArg (takeV · 8) r4).trans (pk_take' (by rw [show (256 : Nat) ^ 8 = 18446744073709551616 by decide]; omega))
  refine ⟨?_, r5⟩
  unfold tkQ
  rw [v0, v1, v2, v3, v4]
  obtain ⟨a, b, c, d, e⟩ := q
  dsimp only at h1 h2 h3 h4 h5 ⊢
  rw [Int.toNat_of_nonneg h1.1, Int.toNat_of_nonneg h2.1, Int.toNat_of_nonneg h3.1, Int.toNat_of_nonneg h4.1, Int.toNat_of_nonneg h5.1]
theorem takeQ_ptrB {q : Pt} (hq : PtOk q) (t : List UInt8) : takeQ (ptrB q ++ t) = q ∧ takeQE (ptrB q ++ t) = 0 := by
  have hl : ¬ (ptrB q ++ t).length < 17 := by rw [List.length_append, ptrB_len]; omega
  exact ⟨(if_neg hl).trans (tk_all hq t).1, if_neg hl⟩
theorem fill_small {l : List UInt8} (h : l.length ≤ 256) : fillL l = l ++ List.replicate (256 - l.length) 0 := if_neg (by omega)


theorem takeQR_ptrB {q : Pt} (hq : PtOk q) (t : List UInt8) : takeQR (ptrB q ++ t) = t := by
  have hl : ¬ (ptrB q ++ t).length < 17 := by rw [List.length_append, ptrB_len]; omega
  exact (if_neg hl).trans (tk_all hq t).2
theorem restK_nil (b : List UInt8) : restK b [] 0 = b := rfl
theorem restK_cons (b : List UInt8) (x : KD × List UInt8) (ps : List (KD × List UInt8)) : restK b (x :: ps) (x :: ps).length = restK x.2 ps ps.length := by
  unfold restK
  rw [List.take_length, List.take_length, List.getLast?_cons]
  cases ps.getLast? <;> rfl
theorem parse_of (t : List UInt8) : ∀ (ks : List KD), (∀ d ∈ ks, d.1.length ≤ 8) → (∀ d ∈ ks, PtOk d.2) → (parseK (ks.flatMap putK ++ t) ks.length).map (fun x => x.1) = ks ∧ restK (ks.flatMap putK ++ t) (parseK (ks.flatMap putK ++ t) ks.length) (parseK (ks.flatMap putK ++ t) ks.length).length = t
  | [], _, _ => ⟨rfl, rfl⟩
  | d :: ks, h8, hp => by
    have ih := parse_of t ks (fun x hx => h8 x (List.mem_cons_of_mem _ hx)) fun x hx => hp x (List.mem_cons_of_mem _ hx)
    have hd := h8 d (List.mem_cons_self ..)
    have hq := hp d (List.mem_cons_self ..)
    have e : (d :: ks).flatMap putK ++ t = sizedB d.1 ++ (ptrB d.2 ++ (ks.flatMap putK ++ t)) := by
      rw [List.flatMap_cons]; unfold putK; simp only [List.append_assoc]
    rw [e, List.length_cons, parse_yes ⟨pb_e2 hd, by rw [pb_r2 hd]; exact (takeQ_ptrB hq _).2⟩, pb_s2 hd, pb_r2 hd, (takeQ_ptrB hq _).1, takeQR_ptrB hq]
    exact ⟨by rw [List.map_cons, ih.1], (restK_cons _ _ _).trans ih.2⟩
theorem numB_valB : ∀ (l : List UInt8), numB (valB l) l.length = l
  | [] => rfl
  | x :: l => by
    have h : numB (valB (x :: l)) (l.length + 1) = UInt8.ofNat (valB (x :: l)) :: numB (valB (x :: l) / 256) l.length := by
      unfold numB
      rw [List.range_succ_eq_map, List.map_cons, List.map_map]
      congr 1
      · unfold byteAt; rw [Nat.pow_zero, Nat.div_one]
      · apply List.map_congr_left
        intro k _
        show UInt8.ofNat (valB (x :: l) / 256 ^ (k + 1)) = UInt8.ofNat (valB (x :: l) / 256 / 256 ^ k)
        rw [Nat.div_div_eq_div_mul, Nat.pow_succ, Nat.mul_comm]
    have hx := x.toNat_lt
    have e : valB (x :: l) = x.toNat + 256 * valB l := rfl
    have e1 : UInt8.ofNat (valB (x :: l)) = x := by
      rw [e]; apply UInt8.toNat_inj.1; rw [UInt8.toNat_ofNat']; omega
    have e2 : valB (x :: l) / 256 = valB l := by rw [e]; omega
    rw [List.length_cons, h, e1, e2, numB_valB l]
theorem num_back {l : List UInt8} {W : Nat} (h : W ≤ l.length) : numB (takeV l W) W ++ restB l W = l := by
  unfold takeV restB
  rw [if_neg (by omega), if_neg (by omega)]
  have e : (l.take W).length = W := by rw [List.length_take]; omega
  have h1 := numB_valB (l.take W)
  rw [e] at h1
  rw [h1, List.take_append_drop]
theorem restB_len {l : List UInt8} {W : Nat} (h : W ≤ l.length) : (restB l W).length = l.length - W := by
  unfold restB
  rw [if_neg (by omega), List.length_drop]
theorem ptr_back {r : List UInt8} (h : takeQE r = 0) : ptrB (takeQ r) ++ takeQR r = r := by
  have hl : ¬ r.length < 17 := fun h1 => by unfold takeQE at h; rw [if_pos h1] at h; cases h
  have e1 : takeQ r = tkQ r := if_neg hl
  have e2 : takeQR r = tkR r 5 := if_neg hl
  rw [e1, e2, ptrB_eq]
  unfold tkQ
  simp only [Int.toNat_natCast]
  have l1 : (tkR r 1).length = r.length - 1 := restB_len (W := 1) (by show 1 ≤ r.length; omega)
  have l2 : (tkR r 2).length = (tkR r 1).length - 2 := restB_len (W := 2) (by show 2 ≤ (tkR r 1).length; omega)
  have l3 : (tkR r 3).length = (tkR r 2).length - 2 := restB_len (W := 2) (by show 2 ≤ (tkR r 2).length; omega)
  have l4 : (tkR r 4).length = (tkR r 3).length - 4 := restB_len (W := 4) (by show 4 ≤ (tkR r 3).length; omega)
  have s4 : numB (tkV r 4) 8 ++ tkR r 5 = tkR r 4 := num_back (W := 8) (by show 8 ≤ (tkR r 4).length; omega)
  have s3 : numB (tkV r 3) 4 ++ tkR r 4 = tkR r 3 := num_back (W := 4) (by show 4 ≤ (tkR r 3).length; omega)
  have s2 : numB (tkV r 2) 2 ++ tkR r 3 = tkR r 2 := num_back (W := 2) (by show 2 ≤ (tkR r 2).length; omega)
  have s1 : numB (tkV r 1) 2 ++ tkR r 2 = tkR r 1 := num_back (W := 2) (by show 2 ≤ (tkR r 1).length; omega)
  have s0 : numB (tkV r 0) 1 ++ tkR r 1 = tkR r 0 := num_back (l := r) (W := 1) (by omega)
  rw [s4, s3, s2, s1, s0]; rfl
theorem sized_back {b : List UInt8} {q : Int} (h : takeE b q = 0) : sizedB (takeS b q) ++ takeR b q = b := by
  cases b with
  | nil => rw [take_short0 q rfl] at h; cases h
  | cons x l =>
    have hx : (x :: l)[0]? = some x := rfl
    have hl : ¬ (x :: l).length ≤ x.toNat := fun h1 => by rw [take_short q hx h1] at h; cases h
    have hx8 := x.toNat_lt
    rw [List.length_cons] at hl
    rw [takeS_ok h hx, takeR_ok h hx, Nat.add_sub_cancel_left]
    have e1 : ((x :: l).drop 1).take x.toNat = l.take x.toNat := rfl
    have e2 : ((x :: l).drop (1 + x.toNat)).take ((x :: l).length - (1 + x.toNat)) = l.drop x.toNat := by
      rw [Nat.add_comm 1, List.drop_succ_cons, List.length_cons, List.take_of_length_le]
      rw [List.length_drop]; omega
    have e3 : (l.take x.toNat).length = x.toNat := by rw [List.length_take]; omega
    rw [e1, e2, sized_full (by omega), e3, List.cons_append, List.take_append_drop]
    congr 1
    exact UInt8.toNat_inj.1 (by rw [UInt8.toNat_ofNat']; omega)
theorem parse_back : ∀ (n : Nat) (b : List UInt8), ((parseK b n).map (fun x => x.1)).flatMap putK ++ restK b (parseK b n) (parseK b n).length = b
  | 0, b => rfl
  | n + 1, b => by
    by_cases h : takeE b 8 = 0 ∧ takeQE (takeR b 8) = 0
    · rw [parse_yes h, restK_cons, List.map_cons, List.flatMap_cons]
      have ih := parse_back n (takeQR (takeR b 8))
      show putK (takeS b 8, takeQ (takeR b 8)) ++ _ ++ _ = b
      rw [List.append_assoc]
      refine (congrArg (putK (takeS b 8, takeQ (takeR b 8)) ++ ·) ih).trans ?_
      unfold putK
      rw [List.append_assoc]
      show sizedB (takeS b 8) ++ (ptrB (takeQ (takeR b 8)) ++ takeQR (takeR b 8)) = b
      rw [ptr_back h.2, sized_back h.1]
    · rw [parse_no h]; rfl
theorem encF_all (ks : List KD) : encF ks ks.length = 2 :: UInt8.ofNat ks.length :: ks.flatMap putK := by
  unfold encF
  rw [List.take_length]; rfl
theorem encK_eq {ks : List KD} (h : RightK ks) : encK ks = 2 :: UInt8.ofNat ks.length :: (ks.flatMap putK ++ List.replicate (256 - (encF ks ks.length).length) 0) := by
  have hl := encF_len (right_len h) ks.length
  have hn := h.1.2.1
  unfold encK
  rw [fill_small (by omega)]
  generalize 256 - (encF ks ks.length).length = m
  rw [encF_all]; rfl
theorem dec_of {ks : List KD} (h : RightK ks) (hp : ∀ d ∈ ks, PtOk d.2) : DecOk (encK ks) ∧ ksP (encK ks) = ks := by
  have e := encK_eq h
  have hn := h.1.2.1
  have hN : (UInt8.ofNat ks.length).toNat = ks.length := by rw [UInt8.toNat_ofNat']; omega
  have g0 : (encK ks).getD 0 0 = 2 := by rw [e]; rfl
  have g1 : (encK ks).getD 1 0 = UInt8.ofNat ks.length := by rw [e]; rfl
  have gd : (encK ks).drop 2 = ks.flatMap putK ++ List.replicate (256 - (encF ks ks.length).length) 0 := by rw [e]; rfl
  have hps : psP (encK ks) = parseK (ks.flatMap putK ++ List.replicate (256 - (encF ks ks.length).length) 0) ks.length := by unfold psP; rw [g1, gd, hN]
  obtain ⟨h1, h2⟩ := parse_of (List.replicate (256 - (encF ks ks.length).length) 0) ks (right_len h) hp
  have hks : ksP (encK ks) = ks := by unfold ksP; rw [hps]; exact h1
  have hlen : (psP (encK ks)).length = ks.length := by have := congrArg List.length hks; unfold ksP at this; rw [List.length_map] at this; exact this
  refine ⟨⟨by rw [g0]; rfl, by rw [g1, hN]; exact hn, by rw [hlen, g1, hN], by rw [hks]; exact h, ?_⟩, hks⟩
  show (restK _ _ _).all _ = true
  rw [gd, hps, h2, List.all_eq_true]
  intro x hx
  rw [(List.mem_replicate.1 hx).2]; rfl
theorem all_zero {l : List UInt8} (h : l.all (· == 0) = true) : l = List.replicate l.length 0 := by
  rw [List.all_eq_true] at h
  exact List.eq_replicate_iff.2 ⟨rfl, fun x hx => by simpa using h x hx⟩
theorem dec_good {p : List UInt8} (hp : p.length = 256) (h : DecOk p) : encK (ksP p) = p := by
  obtain ⟨h1, h2, h3, h4, h5⟩ := h
  have hlen : (ksP p).length = (p.getD 1 0).toNat := by unfold ksP; rw [List.length_map]; exact h3
  have hb := parse_back (p.getD 1 0).toNat (p.drop 2)
  have hz := all_zero h5
  have hp2 : p = p.getD 0 0 :: p.getD 1 0 :: p.drop 2 := by
    match p, hp with
    | a :: b :: r, _ => rfl
  have hf : (ksP p).flatMap putK ++ restP p = p.drop 2 := hb
  have hfl : ((ksP p).flatMap putK).length + (restP p).length = 254 := by
    have := congrArg List.length hf
    rw [List.length_append, List.length_drop, hp] at this
    exact this
  rw [encK_eq h4, encF_all]
  have e0 : p.getD 0 0 = 2 := UInt8.toNat_inj.1 h1
  have e1 : UInt8.ofNat (ksP p).length = p.getD 1 0 := by rw [hlen]; exact UInt8.ofNat_toNat
  have e2 : 256 - (2 :: UInt8.ofNat (ksP p).length :: (ksP p).flatMap putK).length = (restP p).length := by
    rw [List.length_cons, List.length_cons]; omega
  rw [e2, ← hz, hf, e1]
  conv => rhs; rw [hp2, e0]
theorem decL_ok {p : List UInt8} (h : decE p = 0) : DecOk p ∧ decL p = ksP p := by
  have hn : DecOk p := by
    unfold decE at h
    split at h
    · assumption
    · cases h
  exact ⟨hn, if_pos hn⟩
theorem decL_no {p : List UInt8} (h : decE p ≠ 0) : decE p = 50 ∧ decL p = [] := by
  have hn : ¬ DecOk p := fun h1 => h (if_pos h1)
  exact ⟨if_neg hn, if_neg hn⟩
theorem dec_encP {ks : List KD} (h : RightK ks) (hp : ∀ d ∈ ks, PtOk d.2) : decE (encP ks) = 0 ∧ decL (encP ks) = ks := by
  have e : encP ks = encK ks := if_pos h
  obtain ⟨h1, h2⟩ := dec_of h hp
  rw [e]
  exact ⟨if_pos h1, (if_pos h1).trans h2⟩
theorem encE_ok {ks : List KD} (h : RightK ks) : encE ks = 0 := if_pos h
theorem encE_no {ks : List KD} (h : ¬ RightK ks) : encE ks = 2 := if_neg h
theorem encP_no {ks : List KD} (h : ¬ RightK ks) : encP ks = List.replicate 256 0 := if_neg h
/-- what is decoded has just this page -/
theorem dec_just {p : List UInt8} (hp : p.length = 256) (h : decE p = 0) : encE (decL p) = 0 ∧ encP (decL p) = p ∧ RightK (decL p) ∧ (decL p).length = (p.getD 1 0).toNat := by
  obtain ⟨h1, h2⟩ := decL_ok h
  rw [h2]
  exact ⟨if_pos h1.2.2.2.1, (if_pos h1.2.2.2.1).trans (dec_good hp h1), h1.2.2.2.1, by unfold ksP; rw [List.length_map]; exact h1.2.2.1⟩
theorem decL_pts (p : List UInt8) : ∀ d ∈ decL p, PtOk d.2 := by
  unfold decL
  split
  · intro d hd
    obtain ⟨x, hx, rfl⟩ := List.mem_map.1 hd
    exact parse_ok _ _ x hx
  · intro d hd; cases hd
end Go.Proofs.YtbgpegccnalkeaaDoor
