/-
  The references of chapter 06: item. (Printed by wip/gen/t06t.py of this repo.)
-/
import Derived.Test.YtmddmghgkkjbiaaDoorRefsC
namespace Go.Proofs.YtmddmghgkkjbiaaDoor
open Go Go.SL Go.Proofs
set_option linter.unusedVariables false

/-- an item, as the reference takes it -/
def itR2 (l : List UInt8) : List UInt8 := restB (takeR l 8) 1
def itN (l : List UInt8) : Nat := takeV (takeR l 8) 1
abbrev itBad (l : List UInt8) : Prop := takeE l 8 ≠ 0 ∨ (takeR l 8).length < 1 ∨ 1 < itN l
def itD (l : List UInt8) : ID := if itBad l then ([], [], ptZ, 0) else if itN l = 0 then (takeS l 8, takeS (itR2 l) 16, ptZ, 0) else (takeS l 8, [], takeQ (restB (itR2 l) 2), ((takeV (itR2 l) 2 : Nat) : Int))
def itT (l : List UInt8) : List UInt8 := if itBad l then [] else if itN l = 0 then takeR (itR2 l) 16 else takeQR (restB (itR2 l) 2)
def itB (l : List UInt8) : Bool := if itBad l then false else if itN l = 0 then decide (takeE (itR2 l) 16 = 0) else decide (2 ≤ (itR2 l).length ∧ takeQE (restB (itR2 l) 2) = 0)
theorem it_bad {l : List UInt8} (h : itBad l) : itD l = ([], [], ptZ, 0) ∧ itT l = [] ∧ itB l = false := ⟨if_pos h, if_pos h, if_pos h⟩
theorem it_val {l : List UInt8} (h : ¬ itBad l) (h0 : itN l = 0) : itD l = (takeS l 8, takeS (itR2 l) 16, ptZ, 0) ∧ itT l = takeR (itR2 l) 16 ∧ itB l = decide (takeE (itR2 l) 16 = 0) := ⟨(if_neg h).trans (if_pos h0), (if_neg h).trans (if_pos h0), (if_neg h).trans (if_pos h0)⟩
theorem it_ovr {l : List UInt8} (h : ¬ itBad l) (h0 : ¬ itN l = 0) : itD l = (takeS l 8, [], takeQ (restB (itR2 l) 2), ((takeV (itR2 l) 2 : Nat) : Int)) ∧ itT l = takeQR (restB (itR2 l) 2) ∧ itB l = decide (2 ≤ (itR2 l).length ∧ takeQE (restB (itR2 l) 2) = 0) := ⟨(if_neg h).trans (if_neg h0), (if_neg h).trans (if_neg h0), (if_neg h).trans (if_neg h0)⟩
theorem itD_ok (l : List UInt8) : ItOk (itD l) := by
  unfold itD
  split
  · exact ⟨ptZ_ok, (Int.le_refl 0 : (0 : Int) ≤ 0), (by decide : (0 : Int) < 65536)⟩
  · split
    · exact ⟨ptZ_ok, (Int.le_refl 0 : (0 : Int) ≤ 0), (by decide : (0 : Int) < 65536)⟩
    · have h := takeV_lt (itR2 l) 2
      have e : (256 : Nat) ^ 2 = 65536 := by decide
      exact ⟨takeQ_ok _, by show (0 : Int) ≤ (takeV (itR2 l) 2 : Nat); omega, by show ((takeV (itR2 l) 2 : Nat) : Int) < 65536; omega⟩
/-- an item that may be is taken as it was put -/
theorem it_of {d : ID} (h : RightT d) (ho : ItOk d) (t : List UInt8) : itD (putI d ++ t) = d ∧ itT (putI d ++ t) = t ∧ itB (putI d ++ t) = true := by
  obtain ⟨k, v, q, n⟩ := d
  obtain ⟨⟨hk1, hk8⟩, hc⟩ := h
  obtain ⟨hq, hn0, hn1⟩ := ho
  dsimp only at hk1 hk8 hc hq hn0 hn1
  by_cases h0 : q.1 = 0
  · have hv : v.length ≤ 16 ∧ q = ptZ ∧ n = 0 := by
      rcases hc with hc | hc
      · exact ⟨hc.2.1, hc.2.2.1, hc.2.2.2⟩
      · exact absurd (h0.symm.trans hc.1) (by decide)
    obtain ⟨hv, rfl, rfl⟩ := hv
    have e : putI (k, v, ptZ, 0) ++ t = sizedB k ++ ([0] ++ (sizedB v ++ t)) := by
      show (sizedB k ++ (if (ptZ : Pt).1 = 0 then 0 :: sizedB v else _)) ++ t = _
      rw [if_pos (show (ptZ : Pt).1 = 0 from rfl), List.append_assoc]; rfl
    have e1 : takeE (putI (k, v, ptZ, 0) ++ t) 8 = 0 := by rw [e]; exact tb_e (by omega) (by omega)
    have e2 : takeS (putI (k, v, ptZ, 0) ++ t) 8 = k := by rw [e]; exact tb_s (by omega) (by omega)
    have e3 : takeR (putI (k, v, ptZ, 0) ++ t) 8 = [0] ++ (sizedB v ++ t) := by rw [e]; exact tb_r (by omega) (by omega)
    have e4 : itN (putI (k, v, ptZ, 0) ++ t) = 0 := by unfold itN; rw [e3]; rfl
    have e5 : itR2 (putI (k, v, ptZ, 0) ++ t) = sizedB v ++ t := by unfold itR2; rw [e3]; exact pk_rest (n := 0) (W := 1)
    have hb : ¬ itBad (putI (k, v, ptZ, 0) ++ t) := fun h => by
      rcases h with h | h | h
      · exact h e1
      · rw [e3] at h; simp at h
      · rw [e4] at h; omega
    obtain ⟨g1, g2, g3⟩ := it_val hb e4
    rw [g1, g2, g3, e2, e5, tb_s (by omega) (by omega), tb_r (by omega) (by omega), tb_e (by omega) (by omega)]
    exact ⟨rfl, rfl, rfl⟩
  · have hc2 := hc.resolve_left fun h => h0 h.1
    have hv : v = [] := List.eq_nil_of_length_eq_zero hc2.2.1
    subst hv
    have e : putI (k, [], q, n) ++ t = sizedB k ++ (numB 1 1 ++ (numB n.toNat 2 ++ (ptrB q ++ t))) := by
      show (sizedB k ++ (if q.1 = 0 then _ else 1 :: (numB n.toNat 2 ++ ptrB q))) ++ t = _
      rw [if_neg h0, List.append_assoc, List.cons_append, List.append_assoc]; rfl
    have hnn : n.toNat < 256 ^ 2 := by rw [show (256 : Nat) ^ 2 = 65536 by decide]; omega
    have e1 : takeE (putI (k, [], q, n) ++ t) 8 = 0 := by rw [e]; exact tb_e (by omega) (by omega)
    have e2 : takeS (putI (k, [], q, n) ++ t) 8 = k := by rw [e]; exact tb_s (by omega) (by omega)
    have e3 : takeR (putI (k, [], q, n) ++ t) 8 = numB 1 1 ++ (numB n.toNat 2 ++ (ptrB q ++ t)) := by rw [e]; exact tb_r (by omega) (by omega)
    have e4 : itN (putI (k, [], q, n) ++ t) = 1 := by unfold itN; rw [e3]; exact pk_take' (by decide)
    have e5 : itR2 (putI (k, [], q, n) ++ t) = numB n.toNat 2 ++ (ptrB q ++ t) := by unfold itR2; rw [e3]; exact pk_rest
    have e6 : takeV (itR2 (putI (k, [], q, n) ++ t)) 2 = n.toNat := by rw [e5]; exact pk_take' hnn
    have e7 : restB (itR2 (putI (k, [], q, n) ++ t)) 2 = ptrB q ++ t := by rw [e5]; exact pk_rest
    have hb : ¬ itBad (putI (k, [], q, n) ++ t) := fun h => by
      rcases h with h | h | h
      · exact h e1
      · rw [e3, List.length_append, numB_length] at h; omega
      · rw [e4] at h; omega
    obtain ⟨g1, g2, g3⟩ := it_ovr hb (by rw [e4]; decide)
    rw [g1, g2, g3, e2, e6, e7, (takeQ_ptrB hq t).1, (takeQ_ptrB hq t).2, takeQR_ptrB hq, e5, List.length_append, numB_length]
    exact ⟨by rw [Int.toNat_of_nonneg hn0], rfl, decide_eq_true ⟨by omega, rfl⟩⟩

theorem c_itemR (b : Value) (l : List UInt8) (w : World) (hb : Rd w 1 b l.length (l.map byteV)) : CT Tryd.prog 36 #[b] w fun v w' => ∃ e r, v = .tuple #[.agg (itC e).toArray, r, .bool (itB l)] ∧ e.2.2 = itD l ∧ (∀ s ∈ LT.sub e, BOwn w' 5 w.heap.size w'.heap.size s) ∧ Rd w' 1 r (itT l).length ((itT l).map byteV) ∧ (∀ b', rbk r = some b' → rbk b = some b') ∧ Ext w w' := by
  obtain ⟨n0, hn0⟩ : ∃ n, n = w.heap.size := ⟨_, rfl⟩
  have hU : Upd (fun i => n0 ≤ i) w w := Upd.refl _ _
  have hb_b : ∀ i, rbk b = some i → i < n0 := by rw [hn0]; exact fun i hi => hb.bound (by decide) hi
  refine CT_of Tryd.func36 rfl rfl rfl ?_
  refine W_seq ?_
  refine W_reg ?_
  refine L_op rfl (X_alloc (z := (.agg #[(.slice none 0 0), (.slice none 0 0), (.int .u8 (0)), (.int .u16 (0)), (.int .u16 (0)), (.int .u32 (0)), (.int .u64 (0)), (.int .u16 (0))])) (c := #[(.slice none 0 0), (.slice none 0 0), (.int .u8 (0)), (.int .u16 (0)), (.int .u16 (0)), (.int .u32 (0)), (.int .u64 (0)), (.int .u16 (0))]) Zv43 rfl ?_)
  intro b1 w1 hn1
  have hbn1 := hn1.num; have hbs1 := hn1.size
  replace hb := hb.ext hn1.ext
  replace hU := hU.trans (Ext.upd hn1.ext)
  have hB1 := hn1.blk
  refine L_op rfl (X_assign (v := (.slice none 0 0)) rfl ?_)
  refine L_op rfl (X_assign (v := (.bool (false))) rfl ?_)
  refine L_nil ?_
  refine T_n ?_
  refine W_seq ?_
  refine W_reg ?_
  refine L_op rfl (X_alloc (z := (.agg #[(.slice none 0 0), (.slice none 0 0), (.int .u8 (0)), (.int .u16 (0)), (.int .u16 (0)), (.int .u32 (0)), (.int .u64 (0)), (.int .u16 (0))])) (c := #[(.slice none 0 0), (.slice none 0 0), (.int .u8 (0)), (.int .u16 (0)), (.int .u16 (0)), (.int .u32 (0)), (.int .u64 (0)), (.int .u16 (0))]) Zv43 rfl ?_)
  intro b2 w2 hn2
  have hbn2 := hn2.num; have hbs2 := hn2.size
  replace hb := hb.ext hn2.ext
  replace hU := hU.trans (Ext.upd hn2.ext)
  replace hB1 := hB1.ext hn2.ext
  have hB2 := hn2.blk
  refine L_nil ?_
  refine T_n ?_
  refine W_seq ?_
  refine W_reg ?_
  refine L_op rfl (X_move (v := b) rfl ?_)
  obtain ⟨sT1, hsT1⟩ : ∃ n, n = w2.heap.size := ⟨_, rfl⟩
  refine L_op rfl (X_fn (vs := [b, (.int .i64 (8))]) en52 rfl (CT.mono (c_takeBytesR b l 8 _ hb) ?_))
  rintro _ w3 ⟨s1, r1, rfl, hO1, hR1, hrb1, hu3⟩
  have hz3 := hu3.size
  rw [← hsT1] at hO1
  replace hb := hb.ext hu3
  replace hU := hU.trans (Ext.upd hu3)
  replace hB1 := hB1.ext hu3
  replace hB2 := hB2.ext hu3
  have hO1_c : ∀ b, obk s1 = some b → sT1 ≤ b ∧ b < w3.heap.size := fun b hb => hO1.lt hb
  have hR1_b : ∀ b_, rbk r1 = some b_ → b_ < n0 := fun b_ h => hb_b _ (hrb1 _ h)
  refine L_op rfl (X_move (v := (.tuple #[s1, r1, (.int .i64 ((takeE l 8)))])) rfl ?_)
  refine L_op rfl (X_extract (l := [s1, r1, (.int .i64 ((takeE l 8)))]) (v := s1) rfl rfl ?_)
  refine L_op rfl (X_extract (l := [s1, r1, (.int .i64 ((takeE l 8)))]) (v := r1) rfl rfl ?_)
  refine L_op rfl (X_extract (l := [s1, r1, (.int .i64 ((takeE l 8)))]) (v := (.int .i64 ((takeE l 8)))) rfl rfl ?_)
  refine L_op rfl (X_assign (v := s1) rfl ?_)
  refine L_op rfl (X_assign (v := r1) rfl ?_)
  refine L_op rfl (X_assign (v := (.int .i64 ((takeE l 8)))) rfl ?_)
  refine L_nil ?_
  refine T_n ?_
  refine W_seq ?_
  refine W_reg ?_
  refine L_op rfl (X_move (v := r1) rfl ?_)
  refine L_op rfl (X_fn (vs := [r1, (.int .i64 (1))]) en53 rfl (CT.mono (c_takeR r1 (takeR l 8) 1 _ hR1) ?_))
  rintro _ w4 ⟨r2, rfl, hR2, hrb2, hu4⟩
  have hz4 := hu4.size
  rw [show wideN 1 = 1 by decide] at hR2 ⊢
  replace hR2 : Rd w4 1 r2 (itR2 l).length ((itR2 l).map byteV) := hR2
  replace hb := hb.ext hu4
  replace hU := hU.trans (Ext.upd hu4)
  replace hB1 := hB1.ext hu4
  replace hB2 := hB2.ext hu4
  replace hO1 := hO1.ext hu4
  replace hR1 := hR1.ext hu4
  obtain ⟨E2, hE2⟩ : ∃ x : Int, x = (if (takeR l 8).length < 1 then 20 else 0) := ⟨_, rfl⟩
  rw [← hE2]
  replace hE2 : ((takeR l 8).length < 1 ∧ E2 = 20) ∨ (1 ≤ (takeR l 8).length ∧ E2 = 0) := by rw [hE2]; split <;> omega
  have hR2_b : ∀ b_, rbk r2 = some b_ → b_ < n0 := fun b_ h => hR1_b _ (hrb2 _ h)
  refine L_op rfl (X_move (v := (.tuple #[(.int .u64 (((takeV (takeR l 8) 1 : Nat) : Int))), r2, (.int .i64 (E2))])) rfl ?_)
  refine L_op rfl (X_extract (l := [(.int .u64 (((takeV (takeR l 8) 1 : Nat) : Int))), r2, (.int .i64 (E2))]) (v := (.int .u64 (((takeV (takeR l 8) 1 : Nat) : Int)))) rfl rfl ?_)
  refine L_op rfl (X_extract (l := [(.int .u64 (((takeV (takeR l 8) 1 : Nat) : Int))), r2, (.int .i64 (E2))]) (v := r2) rfl rfl ?_)
  refine L_op rfl (X_extract (l := [(.int .u64 (((takeV (takeR l 8) 1 : Nat) : Int))), r2, (.int .i64 (E2))]) (v := (.int .i64 (E2))) rfl rfl ?_)
  refine L_op rfl (X_assign (v := (.int .u64 (((takeV (takeR l 8) 1 : Nat) : Int)))) rfl ?_)
  refine L_op rfl (X_assign (v := r2) rfl ?_)
  refine L_op rfl (X_assign (v := (.int .i64 (E2))) rfl ?_)
  refine L_nil ?_
  refine T_n ?_
  refine W_seq ?_
  refine W_seq ?_
  refine W_reg ?_
  refine L_op rfl (X_move (v := (.int .i64 ((takeE l 8)))) rfl ?_)
  by_cases hc5 : ((takeE l 8) : Int) ≠ (0)
  · refine L_op rfl (X_cmp (k := .i64) (a := (takeE l 8)) (b := 0) (r := true) rfl rfl rfl (decide_eq_true (p := (((takeE l 8)) : Int) ≠ ((0) : Int)) (by omega)) ?_)
    refine L_op rfl (X_move (v := (.bool (true))) rfl ?_)
    refine L_gn (dj := 29) (t := true) rfl rfl rfl rfl ?_
    refine L_gn (dj := 29) (t := true) rfl rfl rfl rfl ?_
    refine L_op rfl (X_pick (t := true) (v := (.bool (true))) rfl rfl ?_)
    refine L_op rfl (X_move (v := (.bool (true))) rfl ?_)
    refine L_gn (dj := 33) (t := true) rfl rfl rfl rfl ?_
    refine L_gn (dj := 33) (t := true) rfl rfl rfl rfl ?_
    refine L_op rfl (X_pick (t := true) (v := (.bool (true))) rfl rfl ?_)
    refine L_nil ?_
    refine T_n ?_
    refine W_ct rfl ?_
    refine W_seq ?_
    refine W_reg ?_
    refine L_op rfl (X_loadA (p := (ptr b2 (0))) (xs := itC ((.slice none 0 0, .slice none 0 0, [], [], ptZ, 0) : IE)) A43 rfl hB2.atAll rfl ?_)
    refine L_op0 (X_storeW (b := b1) (ys := itC ((.slice none 0 0, .slice none 0 0, [], [], ptZ, 0) : IE)) A43 rfl rfl (itC_one rfl rfl) rfl hB1 rfl ?_)
    intro w6 hu6 hb6
    have hz6 := hu6.size
    replace hb := hb.upd hu6 fun i hi h => by have hi := hb_b _ hi; have h : i = b1 := h; omega
    replace hU := hU.trans (hu6.mono fun i _ h => by have h : i = b1 := h; show n0 ≤ i; omega)
    replace hB2 := hB2.upd hu6 fun h => by have h : b2 = b1 := h; omega
    replace hO1 := hO1.upd hu6 fun i hi h => by have hi := hO1_c _ hi; have h : i = b1 := h; omega
    replace hR1 := hR1.upd hu6 fun i hi h => by have hi := hR1_b _ hi; have h : i = b1 := h; omega
    replace hR2 := hR2.upd hu6 fun i hi h => by have hi := hR2_b _ hi; have h : i = b1 := h; omega
    replace hB1 := hb6
    refine L_op rfl (X_assign (v := (.slice none 0 0)) rfl ?_)
    refine L_op rfl (X_assign (v := (.bool (false))) rfl ?_)
    refine L_nil ?_
    refine T_n ?_
    refine W_ret ?_
    refine T_r ?_
    have hbad : itBad l := Decidable.byContradiction fun h => by have h1 : takeE l 8 = 0 := Decidable.byContradiction fun h2 => h (.inl h2); have h3 : ¬ (takeR l 8).length < 1 := fun h2 => h (.inr (.inl h2)); have h4 : ¬ 1 < takeV (takeR l 8) 1 := fun h2 => h (.inr (.inr h2)); omega
    obtain ⟨g1, g2, g3⟩ := it_bad hbad
    exact BQ_r (End_3 Tryd.results36 (RV_A A43 rfl hB1.atAll rfl) (v2 := .slice none 0 0) rfl (v3 := .bool false) rfl ⟨((.slice none 0 0, .slice none 0 0, [], [], ptZ, 0) : IE), .slice none 0 0, by rw [g3], g1.symm, fun s hs => by have h1 : s = ((Value.slice none 0 0, []) : Value × List UInt8) ∨ s = ((Value.slice none 0 0, []) : Value × List UInt8) := (by simpa [LT] using hs); rcases h1 with rfl | rfl; (· exact BOwn.nil _ _ _ _); (· exact BOwn.nil _ _ _ _), by rw [g2]; exact Rd.nil _ 1, fun b_ h => (by cases h), hU.own hn0⟩)
  · refine L_op rfl (X_cmp (k := .i64) (a := (takeE l 8)) (b := 0) (r := false) rfl rfl rfl (decide_eq_false (p := (((takeE l 8)) : Int) ≠ ((0) : Int)) (by omega)) ?_)
    refine L_op rfl (X_move (v := (.bool (false))) rfl ?_)
    refine L_gy (dj := 29) rfl rfl rfl (X_move (v := (.int .i64 (E2))) rfl ?_)
    by_cases hc7 : (E2 : Int) ≠ (0)
    · refine L_gy (dj := 29) rfl rfl rfl (X_cmp (k := .i64) (a := E2) (b := 0) (r := true) rfl rfl rfl (decide_eq_true (p := ((E2) : Int) ≠ ((0) : Int)) (by omega)) ?_)
      refine L_op rfl (X_pick (t := false) (v := (.bool (true))) rfl rfl ?_)
      refine L_op rfl (X_move (v := (.bool (true))) rfl ?_)
      refine L_gn (dj := 33) (t := true) rfl rfl rfl rfl ?_
      refine L_gn (dj := 33) (t := true) rfl rfl rfl rfl ?_
      refine L_op rfl (X_pick (t := true) (v := (.bool (true))) rfl rfl ?_)
      refine L_nil ?_
      refine T_n ?_
      refine W_ct rfl ?_
      refine W_seq ?_
      refine W_reg ?_
      refine L_op rfl (X_loadA (p := (ptr b2 (0))) (xs := itC ((.slice none 0 0, .slice none 0 0, [], [], ptZ, 0) : IE)) A43 rfl hB2.atAll rfl ?_)
      refine L_op0 (X_storeW (b := b1) (ys := itC ((.slice none 0 0, .slice none 0 0, [], [], ptZ, 0) : IE)) A43 rfl rfl (itC_one rfl rfl) rfl hB1 rfl ?_)
      intro w8 hu8 hb8
      have hz8 := hu8.size
      replace hb := hb.upd hu8 fun i hi h => by have hi := hb_b _ hi; have h : i = b1 := h; omega
      replace hU := hU.trans (hu8.mono fun i _ h => by have h : i = b1 := h; show n0 ≤ i; omega)
      replace hB2 := hB2.upd hu8 fun h => by have h : b2 = b1 := h; omega
      replace hO1 := hO1.upd hu8 fun i hi h => by have hi := hO1_c _ hi; have h : i = b1 := h; omega
      replace hR1 := hR1.upd hu8 fun i hi h => by have hi := hR1_b _ hi; have h : i = b1 := h; omega
      replace hR2 := hR2.upd hu8 fun i hi h => by have hi := hR2_b _ hi; have h : i = b1 := h; omega
      replace hB1 := hb8
      refine L_op rfl (X_assign (v := (.slice none 0 0)) rfl ?_)
      refine L_op rfl (X_assign (v := (.bool (false))) rfl ?_)
      refine L_nil ?_
      refine T_n ?_
      refine W_ret ?_
      refine T_r ?_
      have hbad : itBad l := Decidable.byContradiction fun h => by have h1 : takeE l 8 = 0 := Decidable.byContradiction fun h2 => h (.inl h2); have h3 : ¬ (takeR l 8).length < 1 := fun h2 => h (.inr (.inl h2)); have h4 : ¬ 1 < takeV (takeR l 8) 1 := fun h2 => h (.inr (.inr h2)); omega
      obtain ⟨g1, g2, g3⟩ := it_bad hbad
      exact BQ_r (End_3 Tryd.results36 (RV_A A43 rfl hB1.atAll rfl) (v2 := .slice none 0 0) rfl (v3 := .bool false) rfl ⟨((.slice none 0 0, .slice none 0 0, [], [], ptZ, 0) : IE), .slice none 0 0, by rw [g3], g1.symm, fun s hs => by have h1 : s = ((Value.slice none 0 0, []) : Value × List UInt8) ∨ s = ((Value.slice none 0 0, []) : Value × List UInt8) := (by simpa [LT] using hs); rcases h1 with rfl | rfl; (· exact BOwn.nil _ _ _ _); (· exact BOwn.nil _ _ _ _), by rw [g2]; exact Rd.nil _ 1, fun b_ h => (by cases h), hU.own hn0⟩)
    · refine L_gy (dj := 29) rfl rfl rfl (X_cmp (k := .i64) (a := E2) (b := 0) (r := false) rfl rfl rfl (decide_eq_false (p := ((E2) : Int) ≠ ((0) : Int)) (by omega)) ?_)
      refine L_op rfl (X_pick (t := false) (v := (.bool (false))) rfl rfl ?_)
      refine L_op rfl (X_move (v := (.bool (false))) rfl ?_)
      refine L_gy (dj := 33) rfl rfl rfl (X_move (v := (.int .u64 (((takeV (takeR l 8) 1 : Nat) : Int)))) rfl ?_)
      by_cases hc9 : (((takeV (takeR l 8) 1 : Nat) : Int) : Int) > (1)
      · refine L_gy (dj := 33) rfl rfl rfl (X_cmp (k := .u64) (a := ((takeV (takeR l 8) 1 : Nat) : Int)) (b := 1) (r := true) rfl rfl rfl (decide_eq_true (p := ((1) : Int) < ((((takeV (takeR l 8) 1 : Nat) : Int)) : Int)) (by omega)) ?_)
        refine L_op rfl (X_pick (t := false) (v := (.bool (true))) rfl rfl ?_)
        refine L_nil ?_
        refine T_n ?_
        refine W_ct rfl ?_
        refine W_seq ?_
        refine W_reg ?_
        refine L_op rfl (X_loadA (p := (ptr b2 (0))) (xs := itC ((.slice none 0 0, .slice none 0 0, [], [], ptZ, 0) : IE)) A43 rfl hB2.atAll rfl ?_)
        refine L_op0 (X_storeW (b := b1) (ys := itC ((.slice none 0 0, .slice none 0 0, [], [], ptZ, 0) : IE)) A43 rfl rfl (itC_one rfl rfl) rfl hB1 rfl ?_)
        intro w10 hu10 hb10
        have hz10 := hu10.size
        replace hb := hb.upd hu10 fun i hi h => by have hi := hb_b _ hi; have h : i = b1 := h; omega
        replace hU := hU.trans (hu10.mono fun i _ h => by have h : i = b1 := h; show n0 ≤ i; omega)
        replace hB2 := hB2.upd hu10 fun h => by have h : b2 = b1 := h; omega
        replace hO1 := hO1.upd hu10 fun i hi h => by have hi := hO1_c _ hi; have h : i = b1 := h; omega
        replace hR1 := hR1.upd hu10 fun i hi h => by have hi := hR1_b _ hi; have h : i = b1 := h; omega
        replace hR2 := hR2.upd hu10 fun i hi h => by have hi := hR2_b _ hi; have h : i = b1 := h; omega
        replace hB1 := hb10
        refine L_op rfl (X_assign (v := (.slice none 0 0)) rfl ?_)
        refine L_op rfl (X_assign (v := (.bool (false))) rfl ?_)
        refine L_nil ?_
        refine T_n ?_
        refine W_ret ?_
        refine T_r ?_
        have hbad : itBad l := Decidable.byContradiction fun h => by have h1 : takeE l 8 = 0 := Decidable.byContradiction fun h2 => h (.inl h2); have h3 : ¬ (takeR l 8).length < 1 := fun h2 => h (.inr (.inl h2)); have h4 : ¬ 1 < takeV (takeR l 8) 1 := fun h2 => h (.inr (.inr h2)); omega
        obtain ⟨g1, g2, g3⟩ := it_bad hbad
        exact BQ_r (End_3 Tryd.results36 (RV_A A43 rfl hB1.atAll rfl) (v2 := .slice none 0 0) rfl (v3 := .bool false) rfl ⟨((.slice none 0 0, .slice none 0 0, [], [], ptZ, 0) : IE), .slice none 0 0, by rw [g3], g1.symm, fun s hs => by have h1 : s = ((Value.slice none 0 0, []) : Value × List UInt8) ∨ s = ((Value.slice none 0 0, []) : Value × List UInt8) := (by simpa [LT] using hs); rcases h1 with rfl | rfl; (· exact BOwn.nil _ _ _ _); (· exact BOwn.nil _ _ _ _), by rw [g2]; exact Rd.nil _ 1, fun b_ h => (by cases h), hU.own hn0⟩)
      · refine L_gy (dj := 33) rfl rfl rfl (X_cmp (k := .u64) (a := ((takeV (takeR l 8) 1 : Nat) : Int)) (b := 1) (r := false) rfl rfl rfl (decide_eq_false (p := ((1) : Int) < ((((takeV (takeR l 8) 1 : Nat) : Int)) : Int)) (by omega)) ?_)
        refine L_op rfl (X_pick (t := false) (v := (.bool (false))) rfl rfl ?_)
        refine L_nil ?_
        refine T_n ?_
        refine W_cf rfl ?_
        refine W_skip ?_
        refine T_n ?_
        refine W_seq ?_
        refine W_reg ?_
        refine L_op rfl (X_move (v := s1) rfl ?_)
        refine L_op rfl (X_fldP (b := b2) (o := 0) (r := 0) Fd43_0 rfl rfl ?_)
        refine L_op0 (X_store (b := b2) (o := 0) T35 rfl rfl (hO1.sv.one) hB2 (by show (0 : Nat) < 8; decide) ?_)
        intro w11 hu11 hb11
        have hz11 := hu11.size
        replace hb := hb.upd hu11 fun i hi h => by have hi := hb_b _ hi; have h : i = b2 := h; omega
        replace hU := hU.trans (hu11.mono fun i _ h => by have h : i = b2 := h; show n0 ≤ i; omega)
        replace hB1 := hB1.upd hu11 fun h => by have h : b1 = b2 := h; omega
        replace hO1 := hO1.upd hu11 fun i hi h => by have hi := hO1_c _ hi; have h : i = b2 := h; omega
        replace hR1 := hR1.upd hu11 fun i hi h => by have hi := hR1_b _ hi; have h : i = b2 := h; omega
        replace hR2 := hR2.upd hu11 fun i hi h => by have hi := hR2_b _ hi; have h : i = b2 := h; omega
        replace hB2 : Blk w11 b2 #[s1, (.slice none 0 0), (.int .u8 (0)), (.int .u16 (0)), (.int .u16 (0)), (.int .u32 (0)), (.int .u64 (0)), (.int .u16 (0))] 43 := hb11
        refine L_nil ?_
        refine T_n ?_
        refine W_seq ?_
        refine W_seq ?_
        refine W_reg ?_
        refine L_op rfl (X_move (v := (.int .u64 (((takeV (takeR l 8) 1 : Nat) : Int)))) rfl ?_)
        by_cases hc12 : (((takeV (takeR l 8) 1 : Nat) : Int) : Int) = (0)
        · refine L_op rfl (X_cmp (k := .u64) (a := ((takeV (takeR l 8) 1 : Nat) : Int)) (b := 0) (r := true) rfl rfl rfl (decide_eq_true (p := ((((takeV (takeR l 8) 1 : Nat) : Int)) : Int) = ((0) : Int)) (by omega)) ?_)
          refine L_nil ?_
          refine T_n ?_
          refine W_ct rfl ?_
          refine W_seq ?_
          refine W_reg ?_
          refine L_op rfl (X_move (v := r2) rfl ?_)
          obtain ⟨sT3, hsT3⟩ : ∃ n, n = w11.heap.size := ⟨_, rfl⟩
          refine L_op rfl (X_fn (vs := [r2, (.int .i64 (16))]) en52 rfl (CT.mono (c_takeBytesR r2 (itR2 l) 16 _ hR2) ?_))
          rintro _ w13 ⟨s3, r3, rfl, hO3, hR3, hrb3, hu13⟩
          have hz13 := hu13.size
          rw [← hsT3] at hO3
          replace hb := hb.ext hu13
          replace hU := hU.trans (Ext.upd hu13)
          replace hB1 := hB1.ext hu13
          replace hO1 := hO1.ext hu13
          replace hR1 := hR1.ext hu13
          replace hR2 := hR2.ext hu13
          replace hB2 := hB2.ext hu13
          have hO3_c : ∀ b, obk s3 = some b → sT3 ≤ b ∧ b < w13.heap.size := fun b hb => hO3.lt hb
          have hR3_b : ∀ b_, rbk r3 = some b_ → b_ < n0 := fun b_ h => hR2_b _ (hrb3 _ h)
          refine L_op rfl (X_move (v := (.tuple #[s3, r3, (.int .i64 ((takeE (itR2 l) 16)))])) rfl ?_)
          refine L_op rfl (X_extract (l := [s3, r3, (.int .i64 ((takeE (itR2 l) 16)))]) (v := s3) rfl rfl ?_)
          refine L_op rfl (X_extract (l := [s3, r3, (.int .i64 ((takeE (itR2 l) 16)))]) (v := r3) rfl rfl ?_)
          refine L_op rfl (X_extract (l := [s3, r3, (.int .i64 ((takeE (itR2 l) 16)))]) (v := (.int .i64 ((takeE (itR2 l) 16)))) rfl rfl ?_)
          refine L_op rfl (X_assign (v := s3) rfl ?_)
          refine L_op rfl (X_assign (v := r3) rfl ?_)
          refine L_op rfl (X_assign (v := (.int .i64 ((takeE (itR2 l) 16)))) rfl ?_)
          refine L_nil ?_
          refine T_n ?_
          refine W_seq ?_
          refine W_reg ?_
          refine L_op rfl (X_move (v := s3) rfl ?_)
          refine L_op rfl (X_fldP (b := b2) (o := 0) (r := 1) Fd43_1 rfl rfl ?_)
          refine L_op0 (X_store (b := b2) (o := 1) T35 rfl rfl (hO3.sv.one) hB2 (by show (1 : Nat) < 8; decide) ?_)
          intro w14 hu14 hb14
          have hz14 := hu14.size
          replace hb := hb.upd hu14 fun i hi h => by have hi := hb_b _ hi; have h : i = b2 := h; omega
          replace hU := hU.trans (hu14.mono fun i _ h => by have h : i = b2 := h; show n0 ≤ i; omega)
          replace hB1 := hB1.upd hu14 fun h => by have h : b1 = b2 := h; omega
          replace hO1 := hO1.upd hu14 fun i hi h => by have hi := hO1_c _ hi; have h : i = b2 := h; omega
          replace hR1 := hR1.upd hu14 fun i hi h => by have hi := hR1_b _ hi; have h : i = b2 := h; omega
          replace hR2 := hR2.upd hu14 fun i hi h => by have hi := hR2_b _ hi; have h : i = b2 := h; omega
          replace hO3 := hO3.upd hu14 fun i hi h => by have hi := hO3_c _ hi; have h : i = b2 := h; omega
          replace hR3 := hR3.upd hu14 fun i hi h => by have hi := hR3_b _ hi; have h : i = b2 := h; omega
          replace hB2 : Blk w14 b2 #[s1, s3, (.int .u8 (0)), (.int .u16 (0)), (.int .u16 (0)), (.int .u32 (0)), (.int .u64 (0)), (.int .u16 (0))] 43 := hb14
          refine L_nil ?_
          refine T_n ?_
          refine W_seq ?_
          refine W_reg ?_
          refine L_op rfl (X_loadA (p := (ptr b2 (0))) (xs := itC ((s1, s3, takeS l 8, takeS (itR2 l) 16, ptZ, 0) : IE)) A43 rfl hB2.atAll rfl ?_)
          refine L_op rfl (X_move (v := r3) rfl ?_)
          refine L_op rfl (X_move (v := (.int .i64 ((takeE (itR2 l) 16)))) rfl ?_)
          by_cases hc15 : ((takeE (itR2 l) 16) : Int) = (0)
          · refine L_op rfl (X_cmp (k := .i64) (a := (takeE (itR2 l) 16)) (b := 0) (r := true) rfl rfl rfl (decide_eq_true (p := (((takeE (itR2 l) 16)) : Int) = ((0) : Int)) (by omega)) ?_)
            refine L_op0 (X_storeW (b := b1) (ys := itC ((s1, s3, takeS l 8, takeS (itR2 l) 16, ptZ, 0) : IE)) A43 rfl rfl (itC_one hO1.sv.one hO3.sv.one) rfl hB1 rfl ?_)
            intro w16 hu16 hb16
            have hz16 := hu16.size
            replace hb := hb.upd hu16 fun i hi h => by have hi := hb_b _ hi; have h : i = b1 := h; omega
            replace hU := hU.trans (hu16.mono fun i _ h => by have h : i = b1 := h; show n0 ≤ i; omega)
            replace hO1 := hO1.upd hu16 fun i hi h => by have hi := hO1_c _ hi; have h : i = b1 := h; omega
            replace hR1 := hR1.upd hu16 fun i hi h => by have hi := hR1_b _ hi; have h : i = b1 := h; omega
            replace hR2 := hR2.upd hu16 fun i hi h => by have hi := hR2_b _ hi; have h : i = b1 := h; omega
            replace hO3 := hO3.upd hu16 fun i hi h => by have hi := hO3_c _ hi; have h : i = b1 := h; omega
            replace hR3 := hR3.upd hu16 fun i hi h => by have hi := hR3_b _ hi; have h : i = b1 := h; omega
            replace hB2 := hB2.upd hu16 fun h => by have h : b2 = b1 := h; omega
            replace hB1 := hb16
            refine L_op rfl (X_assign (v := r3) rfl ?_)
            refine L_op rfl (X_assign (v := (.bool (true))) rfl ?_)
            refine L_nil ?_
            refine T_n ?_
            refine W_ret ?_
            refine T_r ?_
            have hnb : ¬ itBad l := fun h => by rcases h with h | h | h; (· omega); (· omega); (· have h : 1 < takeV (takeR l 8) 1 := h; omega)
            obtain ⟨g1, g2, g3⟩ := it_val hnb (by show takeV (takeR l 8) 1 = 0; omega)
            exact BQ_r (End_3 Tryd.results36 (RV_A A43 rfl hB1.atAll rfl) (v2 := r3) rfl (v3 := .bool true) rfl ⟨((s1, s3, takeS l 8, takeS (itR2 l) 16, ptZ, 0) : IE), r3, by rw [g3, decide_eq_true (by omega)], g1.symm, fun s hs => by have h1 : s = ((s1, takeS l 8) : Value × List UInt8) ∨ s = ((s3, takeS (itR2 l) 16) : Value × List UInt8) := (by simpa [LT] using hs); rcases h1 with rfl | rfl; (· exact ⟨hO1.more (by omega), fun b hb => (hO1.lt hb).2⟩); (· exact ⟨hO3.more (by omega), fun b hb => (hO3.lt hb).2⟩), by rw [g2]; exact hR3, fun b_ h => hrb1 _ (hrb2 _ (hrb3 _ h)), hU.own hn0⟩)
          · refine L_op rfl (X_cmp (k := .i64) (a := (takeE (itR2 l) 16)) (b := 0) (r := false) rfl rfl rfl (decide_eq_false (p := (((takeE (itR2 l) 16)) : Int) = ((0) : Int)) (by omega)) ?_)
            refine L_op0 (X_storeW (b := b1) (ys := itC ((s1, s3, takeS l 8, takeS (itR2 l) 16, ptZ, 0) : IE)) A43 rfl rfl (itC_one hO1.sv.one hO3.sv.one) rfl hB1 rfl ?_)
            intro w17 hu17 hb17
            have hz17 := hu17.size
            replace hb := hb.upd hu17 fun i hi h => by have hi := hb_b _ hi; have h : i = b1 := h; omega
            replace hU := hU.trans (hu17.mono fun i _ h => by have h : i = b1 := h; show n0 ≤ i; omega)
            replace hO1 := hO1.upd hu17 fun i hi h => by have hi := hO1_c _ hi; have h : i = b1 := h; omega
            replace hR1 := hR1.upd hu17 fun i hi h => by have hi := hR1_b _ hi; have h : i = b1 := h; omega
            replace hR2 := hR2.upd hu17 fun i hi h => by have hi := hR2_b _ hi; have h : i = b1 := h; omega
            replace hO3 := hO3.upd hu17 fun i hi h => by have hi := hO3_c _ hi; have h : i = b1 := h; omega
            replace hR3 := hR3.upd hu17 fun i hi h => by have hi := hR3_b _ hi; have h : i = b1 := h; omega
            replace hB2 := hB2.upd hu17 fun h => by have h : b2 = b1 := h; omega
            replace hB1 := hb17
            refine L_op rfl (X_assign (v := r3) rfl ?_)
            refine L_op rfl (X_assign (v := (.bool (false))) rfl ?_)
            refine L_nil ?_
            refine T_n ?_
            refine W_ret ?_
            refine T_r ?_
            have hnb : ¬ itBad l := fun h => by rcases h with h | h | h; (· omega); (· omega); (· have h : 1 < takeV (takeR l 8) 1 := h; omega)
            obtain ⟨g1, g2, g3⟩ := it_val hnb (by show takeV (takeR l 8) 1 = 0; omega)
            exact BQ_r (End_3 Tryd.results36 (RV_A A43 rfl hB1.atAll rfl) (v2 := r3) rfl (v3 := .bool false) rfl ⟨((s1, s3, takeS l 8, takeS (itR2 l) 16, ptZ, 0) : IE), r3, by rw [g3, decide_eq_false (by omega)], g1.symm, fun s hs => by have h1 : s = ((s1, takeS l 8) : Value × List UInt8) ∨ s = ((s3, takeS (itR2 l) 16) : Value × List UInt8) := (by simpa [LT] using hs); rcases h1 with rfl | rfl; (· exact ⟨hO1.more (by omega), fun b hb => (hO1.lt hb).2⟩); (· exact ⟨hO3.more (by omega), fun b hb => (hO3.lt hb).2⟩), by rw [g2]; exact hR3, fun b_ h => hrb1 _ (hrb2 _ (hrb3 _ h)), hU.own hn0⟩)
        · refine L_op rfl (X_cmp (k := .u64) (a := ((takeV (takeR l 8) 1 : Nat) : Int)) (b := 0) (r := false) rfl rfl rfl (decide_eq_false (p := ((((takeV (takeR l 8) 1 : Nat) : Int)) : Int) = ((0) : Int)) (by omega)) ?_)
          refine L_nil ?_
          refine T_n ?_
          refine W_cf rfl ?_
          refine W_skip ?_
          refine T_n ?_
          refine W_seq ?_
          refine W_reg ?_
          refine L_op rfl (X_move (v := r2) rfl ?_)
          refine L_op rfl (X_fn (vs := [r2, (.int .i64 (2))]) en53 rfl (CT.mono (c_takeR r2 (itR2 l) 2 _ hR2) ?_))
          rintro _ w18 ⟨r4, rfl, hR4, hrb4, hu18⟩
          have hz18 := hu18.size
          rw [show wideN 2 = 2 by decide] at hR4 ⊢
          replace hR4 : Rd w18 1 r4 (restB (itR2 l) 2).length ((restB (itR2 l) 2).map byteV) := hR4
          replace hb := hb.ext hu18
          replace hU := hU.trans (Ext.upd hu18)
          replace hB1 := hB1.ext hu18
          replace hO1 := hO1.ext hu18
          replace hR1 := hR1.ext hu18
          replace hR2 := hR2.ext hu18
          replace hB2 := hB2.ext hu18
          obtain ⟨E4, hE4⟩ : ∃ x : Int, x = (if (itR2 l).length < 2 then 20 else 0) := ⟨_, rfl⟩
          rw [← hE4]
          replace hE4 : ((itR2 l).length < 2 ∧ E4 = 20) ∨ (2 ≤ (itR2 l).length ∧ E4 = 0) := by rw [hE4]; split <;> omega
          have hR4_b : ∀ b_, rbk r4 = some b_ → b_ < n0 := fun b_ h => hR2_b _ (hrb4 _ h)
          refine L_op rfl (X_move (v := (.tuple #[(.int .u64 (((takeV (itR2 l) 2 : Nat) : Int))), r4, (.int .i64 (E4))])) rfl ?_)
          refine L_op rfl (X_extract (l := [(.int .u64 (((takeV (itR2 l) 2 : Nat) : Int))), r4, (.int .i64 (E4))]) (v := (.int .u64 (((takeV (itR2 l) 2 : Nat) : Int)))) rfl rfl ?_)
          refine L_op rfl (X_extract (l := [(.int .u64 (((takeV (itR2 l) 2 : Nat) : Int))), r4, (.int .i64 (E4))]) (v := r4) rfl rfl ?_)
          refine L_op rfl (X_extract (l := [(.int .u64 (((takeV (itR2 l) 2 : Nat) : Int))), r4, (.int .i64 (E4))]) (v := (.int .i64 (E4))) rfl rfl ?_)
          refine L_op rfl (X_assign (v := (.int .u64 (((takeV (itR2 l) 2 : Nat) : Int)))) rfl ?_)
          refine L_op rfl (X_assign (v := r4) rfl ?_)
          refine L_op rfl (X_assign (v := (.int .i64 (E4))) rfl ?_)
          refine L_nil ?_
          refine T_n ?_
          refine W_seq ?_
          refine W_reg ?_
          refine L_op rfl (X_move (v := r4) rfl ?_)
          refine L_op rfl (X_fn (vs := [r4]) en54 rfl (CT.mono (c_ptrTakeR r4 (restB (itR2 l) 2) _ hR4) ?_))
          rintro _ w19 ⟨r5, rfl, hR5, hrb5, hu19⟩
          have hz19 := hu19.size
          replace hb := hb.ext hu19
          replace hU := hU.trans (Ext.upd hu19)
          replace hB1 := hB1.ext hu19
          replace hO1 := hO1.ext hu19
          replace hR1 := hR1.ext hu19
          replace hR2 := hR2.ext hu19
          replace hB2 := hB2.ext hu19
          replace hR4 := hR4.ext hu19
          have hR5_b : ∀ b_, rbk r5 = some b_ → b_ < n0 := fun b_ h => hR4_b _ (hrb5 _ h)
          refine L_op rfl (X_move (v := (.tuple #[(.agg (ptC (takeQ (restB (itR2 l) 2))).toArray), r5, (.int .i64 ((takeQE (restB (itR2 l) 2))))])) rfl ?_)
          refine L_op rfl (X_extract (l := [(.agg (ptC (takeQ (restB (itR2 l) 2))).toArray), r5, (.int .i64 ((takeQE (restB (itR2 l) 2))))]) (v := (.agg (ptC (takeQ (restB (itR2 l) 2))).toArray)) rfl rfl ?_)
          refine L_op rfl (X_extract (l := [(.agg (ptC (takeQ (restB (itR2 l) 2))).toArray), r5, (.int .i64 ((takeQE (restB (itR2 l) 2))))]) (v := r5) rfl rfl ?_)
          refine L_op rfl (X_extract (l := [(.agg (ptC (takeQ (restB (itR2 l) 2))).toArray), r5, (.int .i64 ((takeQE (restB (itR2 l) 2))))]) (v := (.int .i64 ((takeQE (restB (itR2 l) 2))))) rfl rfl ?_)
          refine L_op rfl (X_alloc (z := (.agg #[(.int .u8 (0)), (.int .u16 (0)), (.int .u16 (0)), (.int .u32 (0)), (.int .u64 (0))])) (c := #[(.int .u8 (0)), (.int .u16 (0)), (.int .u16 (0)), (.int .u32 (0)), (.int .u64 (0))]) Zv41 rfl ?_)
          intro b20 w20 hn20
          have hbn20 := hn20.num; have hbs20 := hn20.size
          replace hb := hb.ext hn20.ext
          replace hU := hU.trans (Ext.upd hn20.ext)
          replace hB1 := hB1.ext hn20.ext
          replace hO1 := hO1.ext hn20.ext
          replace hR1 := hR1.ext hn20.ext
          replace hR2 := hR2.ext hn20.ext
          replace hB2 := hB2.ext hn20.ext
          replace hR4 := hR4.ext hn20.ext
          replace hR5 := hR5.ext hn20.ext
          have hB20 := hn20.blk
          refine L_op0 (X_storeW (b := b20) (ys := [(.int .u8 ((takeQ (restB (itR2 l) 2)).1)), (.int .u16 ((takeQ (restB (itR2 l) 2)).2.1)), (.int .u16 ((takeQ (restB (itR2 l) 2)).2.2.1)), (.int .u32 ((takeQ (restB (itR2 l) 2)).2.2.2.1)), (.int .u64 ((takeQ (restB (itR2 l) 2)).2.2.2.2))]) A41 rfl rfl (List.forall_mem_cons.2 ⟨rfl, (List.forall_mem_cons.2 ⟨rfl, (List.forall_mem_cons.2 ⟨rfl, (List.forall_mem_cons.2 ⟨rfl, (List.forall_mem_cons.2 ⟨rfl, (fun _ h => by cases h)⟩)⟩)⟩)⟩)⟩) rfl hB20 rfl ?_)
          intro w21 hu21 hb21
          have hz21 := hu21.size
          replace hb := hb.upd hu21 fun i hi h => by have hi := hb_b _ hi; have h : i = b20 := h; omega
          replace hU := hU.trans (hu21.mono fun i _ h => by have h : i = b20 := h; show n0 ≤ i; omega)
          replace hB1 := hB1.upd hu21 fun h => by have h : b1 = b20 := h; omega
          replace hO1 := hO1.upd hu21 fun i hi h => by have hi := hO1_c _ hi; have h : i = b20 := h; omega
          replace hR1 := hR1.upd hu21 fun i hi h => by have hi := hR1_b _ hi; have h : i = b20 := h; omega
          replace hR2 := hR2.upd hu21 fun i hi h => by have hi := hR2_b _ hi; have h : i = b20 := h; omega
          replace hB2 := hB2.upd hu21 fun h => by have h : b2 = b20 := h; omega
          replace hR4 := hR4.upd hu21 fun i hi h => by have hi := hR4_b _ hi; have h : i = b20 := h; omega
          replace hR5 := hR5.upd hu21 fun i hi h => by have hi := hR5_b _ hi; have h : i = b20 := h; omega
          replace hB20 : Blk w21 b20 #[(.int .u8 ((takeQ (restB (itR2 l) 2)).1)), (.int .u16 ((takeQ (restB (itR2 l) 2)).2.1)), (.int .u16 ((takeQ (restB (itR2 l) 2)).2.2.1)), (.int .u32 ((takeQ (restB (itR2 l) 2)).2.2.2.1)), (.int .u64 ((takeQ (restB (itR2 l) 2)).2.2.2.2))] 41 := hb21
          refine L_op rfl (X_assign (v := r5) rfl ?_)
          refine L_op rfl (X_assign (v := (.int .i64 ((takeQE (restB (itR2 l) 2))))) rfl ?_)
          refine L_nil ?_
          refine T_n ?_
          refine W_seq ?_
          refine W_reg ?_
          refine L_op rfl (X_move (v := (.int .u64 (((takeV (itR2 l) 2 : Nat) : Int)))) rfl ?_)
          refine L_op rfl (X_convInt (k := .u64) (a := ((takeV (itR2 l) 2 : Nat) : Int)) (r := ((takeV (itR2 l) 2 : Nat) : Int)) (by rw [Tryd.underlying39]; rfl) Tryd.underlying36 rfl (u16_wrap_nat (takeV_lt (itR2 l) 2)) ?_)
          refine L_op rfl (X_fldP (b := b2) (o := 0) (r := 7) Fd43_3 rfl rfl ?_)
          refine L_op0 (X_store (b := b2) (o := 7) T36 rfl rfl rfl hB2 (by show (7 : Nat) < 8; decide) ?_)
          intro w22 hu22 hb22
          have hz22 := hu22.size
          replace hb := hb.upd hu22 fun i hi h => by have hi := hb_b _ hi; have h : i = b2 := h; omega
          replace hU := hU.trans (hu22.mono fun i _ h => by have h : i = b2 := h; show n0 ≤ i; omega)
          replace hB1 := hB1.upd hu22 fun h => by have h : b1 = b2 := h; omega
          replace hO1 := hO1.upd hu22 fun i hi h => by have hi := hO1_c _ hi; have h : i = b2 := h; omega
          replace hR1 := hR1.upd hu22 fun i hi h => by have hi := hR1_b _ hi; have h : i = b2 := h; omega
          replace hR2 := hR2.upd hu22 fun i hi h => by have hi := hR2_b _ hi; have h : i = b2 := h; omega
          replace hR4 := hR4.upd hu22 fun i hi h => by have hi := hR4_b _ hi; have h : i = b2 := h; omega
          replace hR5 := hR5.upd hu22 fun i hi h => by have hi := hR5_b _ hi; have h : i = b2 := h; omega
          replace hB20 := hB20.upd hu22 fun h => by have h : b20 = b2 := h; omega
          replace hB2 : Blk w22 b2 #[s1, (.slice none 0 0), (.int .u8 (0)), (.int .u16 (0)), (.int .u16 (0)), (.int .u32 (0)), (.int .u64 (0)), (.int .u16 (((takeV (itR2 l) 2 : Nat) : Int)))] 43 := hb22
          refine L_nil ?_
          refine T_n ?_
          refine W_seq ?_
          refine W_reg ?_
          refine L_op rfl (X_loadA (xs := ptC (takeQ (restB (itR2 l) 2))) A41 rfl hB20.atAll rfl ?_)
          refine L_op rfl (X_fldP (b := b2) (o := 0) (r := 2) Fd43_2 rfl rfl ?_)
          refine L_op0 (X_storeA (b := b2) (o := 2) (ys := ptC (takeQ (restB (itR2 l) 2))) A41 rfl rfl (ptC_one _) rfl hB2 (by show 2 + 5 ≤ 8; decide) ?_)
          intro w23 hu23 hb23
          have hz23 := hu23.size
          replace hb := hb.upd hu23 fun i hi h => by have hi := hb_b _ hi; have h : i = b2 := h; omega
          replace hU := hU.trans (hu23.mono fun i _ h => by have h : i = b2 := h; show n0 ≤ i; omega)
          replace hB1 := hB1.upd hu23 fun h => by have h : b1 = b2 := h; omega
          replace hO1 := hO1.upd hu23 fun i hi h => by have hi := hO1_c _ hi; have h : i = b2 := h; omega
          replace hR1 := hR1.upd hu23 fun i hi h => by have hi := hR1_b _ hi; have h : i = b2 := h; omega
          replace hR2 := hR2.upd hu23 fun i hi h => by have hi := hR2_b _ hi; have h : i = b2 := h; omega
          replace hR4 := hR4.upd hu23 fun i hi h => by have hi := hR4_b _ hi; have h : i = b2 := h; omega
          replace hR5 := hR5.upd hu23 fun i hi h => by have hi := hR5_b _ hi; have h : i = b2 := h; omega
          replace hB20 := hB20.upd hu23 fun h => by have h : b20 = b2 := h; omega
          replace hB2 : Blk w23 b2 (itC ((s1, .slice none 0 0, takeS l 8, [], takeQ (restB (itR2 l) 2), ((takeV (itR2 l) 2 : Nat) : Int)) : IE)).toArray 43 := hb23
          refine L_nil ?_
          refine T_n ?_
          refine W_seq ?_
          refine W_reg ?_
          refine L_op rfl (X_loadA (p := (ptr b2 (0))) (xs := itC ((s1, .slice none 0 0, takeS l 8, [], takeQ (restB (itR2 l) 2), ((takeV (itR2 l) 2 : Nat) : Int)) : IE)) A43 rfl hB2.atAll rfl ?_)
          refine L_op rfl (X_move (v := r5) rfl ?_)
          refine L_op rfl (X_move (v := (.int .i64 (E4))) rfl ?_)
          by_cases hc24 : (E4 : Int) = (0)
          · refine L_op rfl (X_cmp (k := .i64) (a := E4) (b := 0) (r := true) rfl rfl rfl (decide_eq_true (p := ((E4) : Int) = ((0) : Int)) (by omega)) ?_)
            refine L_op rfl (X_move (v := (.bool (true))) rfl ?_)
            refine L_gy (dj := 75) rfl rfl rfl (X_move (v := (.int .i64 ((takeQE (restB (itR2 l) 2))))) rfl ?_)
            by_cases hc25 : ((takeQE (restB (itR2 l) 2)) : Int) = (0)
            · refine L_gy (dj := 75) rfl rfl rfl (X_cmp (k := .i64) (a := (takeQE (restB (itR2 l) 2))) (b := 0) (r := true) rfl rfl rfl (decide_eq_true (p := (((takeQE (restB (itR2 l) 2))) : Int) = ((0) : Int)) (by omega)) ?_)
              refine L_op rfl (X_pick (t := true) (v := (.bool (true))) rfl rfl ?_)
              refine L_op0 (X_storeW (b := b1) (ys := itC ((s1, .slice none 0 0, takeS l 8, [], takeQ (restB (itR2 l) 2), ((takeV (itR2 l) 2 : Nat) : Int)) : IE)) A43 rfl rfl (itC_one hO1.sv.one rfl) rfl hB1 rfl ?_)
              intro w26 hu26 hb26
              have hz26 := hu26.size
              replace hb := hb.upd hu26 fun i hi h => by have hi := hb_b _ hi; have h : i = b1 := h; omega
              replace hU := hU.trans (hu26.mono fun i _ h => by have h : i = b1 := h; show n0 ≤ i; omega)
              replace hO1 := hO1.upd hu26 fun i hi h => by have hi := hO1_c _ hi; have h : i = b1 := h; omega
              replace hR1 := hR1.upd hu26 fun i hi h => by have hi := hR1_b _ hi; have h : i = b1 := h; omega
              replace hR2 := hR2.upd hu26 fun i hi h => by have hi := hR2_b _ hi; have h : i = b1 := h; omega
              replace hR4 := hR4.upd hu26 fun i hi h => by have hi := hR4_b _ hi; have h : i = b1 := h; omega
              replace hR5 := hR5.upd hu26 fun i hi h => by have hi := hR5_b _ hi; have h : i = b1 := h; omega
              replace hB20 := hB20.upd hu26 fun h => by have h : b20 = b1 := h; omega
              replace hB2 := hB2.upd hu26 fun h => by have h : b2 = b1 := h; omega
              replace hB1 := hb26
              refine L_op rfl (X_assign (v := r5) rfl ?_)
              refine L_op rfl (X_assign (v := (.bool (true))) rfl ?_)
              refine L_nil ?_
              refine T_n ?_
              refine W_ret ?_
              have hnb : ¬ itBad l := fun h => by rcases h with h | h | h; (· omega); (· omega); (· have h : 1 < takeV (takeR l 8) 1 := h; omega)
              obtain ⟨g1, g2, g3⟩ := it_ovr hnb (by show ¬ takeV (takeR l 8) 1 = 0; omega)
              exact BQ_r (End_3 Tryd.results36 (RV_A A43 rfl hB1.atAll rfl) (v2 := r5) rfl (v3 := .bool true) rfl ⟨((s1, .slice none 0 0, takeS l 8, [], takeQ (restB (itR2 l) 2), ((takeV (itR2 l) 2 : Nat) : Int)) : IE), r5, by rw [g3, decide_eq_true ⟨by omega, by omega⟩], g1.symm, fun s hs => by have h1 : s = ((s1, takeS l 8) : Value × List UInt8) ∨ s = ((Value.slice none 0 0, []) : Value × List UInt8) := (by simpa [LT] using hs); rcases h1 with rfl | rfl; (· exact ⟨hO1.more (by omega), fun b hb => (hO1.lt hb).2⟩); (· exact BOwn.nil _ _ _ _), by rw [g2]; exact hR5, fun b_ h => hrb1 _ (hrb2 _ (hrb4 _ (hrb5 _ h))), hU.own hn0⟩)
            · refine L_gy (dj := 75) rfl rfl rfl (X_cmp (k := .i64) (a := (takeQE (restB (itR2 l) 2))) (b := 0) (r := false) rfl rfl rfl (decide_eq_false (p := (((takeQE (restB (itR2 l) 2))) : Int) = ((0) : Int)) (by omega)) ?_)
              refine L_op rfl (X_pick (t := true) (v := (.bool (false))) rfl rfl ?_)
              refine L_op0 (X_storeW (b := b1) (ys := itC ((s1, .slice none 0 0, takeS l 8, [], takeQ (restB (itR2 l) 2), ((takeV (itR2 l) 2 : Nat) : Int)) : IE)) A43 rfl rfl (itC_one hO1.sv.one rfl) rfl hB1 rfl ?_)
              intro w27 hu27 hb27
              have hz27 := hu27.size
              replace hb := hb.upd hu27 fun i hi h => by have hi := hb_b _ hi; have h : i = b1 := h; omega
              replace hU := hU.trans (hu27.mono fun i _ h => by have h : i = b1 := h; show n0 ≤ i; omega)
              replace hO1 := hO1.upd hu27 fun i hi h => by have hi := hO1_c _ hi; have h : i = b1 := h; omega
              replace hR1 := hR1.upd hu27 fun i hi h => by have hi := hR1_b _ hi; have h : i = b1 := h; omega
              replace hR2 := hR2.upd hu27 fun i hi h => by have hi := hR2_b _ hi; have h : i = b1 := h; omega
              replace hR4 := hR4.upd hu27 fun i hi h => by have hi := hR4_b _ hi; have h : i = b1 := h; omega
              replace hR5 := hR5.upd hu27 fun i hi h => by have hi := hR5_b _ hi; have h : i = b1 := h; omega
              replace hB20 := hB20.upd hu27 fun h => by have h : b20 = b1 := h; omega
              replace hB2 := hB2.upd hu27 fun h => by have h : b2 = b1 := h; omega
              replace hB1 := hb27
              refine L_op rfl (X_assign (v := r5) rfl ?_)
              refine L_op rfl (X_assign (v := (.bool (false))) rfl ?_)
              refine L_nil ?_
              refine T_n ?_
              refine W_ret ?_
              have hnb : ¬ itBad l := fun h => by rcases h with h | h | h; (· omega); (· omega); (· have h : 1 < takeV (takeR l 8) 1 := h; omega)
              obtain ⟨g1, g2, g3⟩ := it_ovr hnb (by show ¬ takeV (takeR l 8) 1 = 0; omega)
              exact BQ_r (End_3 Tryd.results36 (RV_A A43 rfl hB1.atAll rfl) (v2 := r5) rfl (v3 := .bool false) rfl ⟨((s1, .slice none 0 0, takeS l 8, [], takeQ (restB (itR2 l) 2), ((takeV (itR2 l) 2 : Nat) : Int)) : IE), r5, by rw [g3, decide_eq_false (fun h => by have h1 := h.1; have h2 := h.2; omega)], g1.symm, fun s hs => by have h1 : s = ((s1, takeS l 8) : Value × List UInt8) ∨ s = ((Value.slice none 0 0, []) : Value × List UInt8) := (by simpa [LT] using hs); rcases h1 with rfl | rfl; (· exact ⟨hO1.more (by omega), fun b hb => (hO1.lt hb).2⟩); (· exact BOwn.nil _ _ _ _), by rw [g2]; exact hR5, fun b_ h => hrb1 _ (hrb2 _ (hrb4 _ (hrb5 _ h))), hU.own hn0⟩)
          · refine L_op rfl (X_cmp (k := .i64) (a := E4) (b := 0) (r := false) rfl rfl rfl (decide_eq_false (p := ((E4) : Int) = ((0) : Int)) (by omega)) ?_)
            refine L_op rfl (X_move (v := (.bool (false))) rfl ?_)
            refine L_gn (dj := 75) (t := false) rfl rfl rfl rfl ?_
            refine L_gn (dj := 75) (t := false) rfl rfl rfl rfl ?_
            refine L_op rfl (X_pick (t := false) (v := (.bool (false))) rfl rfl ?_)
            refine L_op0 (X_storeW (b := b1) (ys := itC ((s1, .slice none 0 0, takeS l 8, [], takeQ (restB (itR2 l) 2), ((takeV (itR2 l) 2 : Nat) : Int)) : IE)) A43 rfl rfl (itC_one hO1.sv.one rfl) rfl hB1 rfl ?_)
            intro w28 hu28 hb28
            have hz28 := hu28.size
            replace hb := hb.upd hu28 fun i hi h => by have hi := hb_b _ hi; have h : i = b1 := h; omega
            replace hU := hU.trans (hu28.mono fun i _ h => by have h : i = b1 := h; show n0 ≤ i; omega)
            replace hO1 := hO1.upd hu28 fun i hi h => by have hi := hO1_c _ hi; have h : i = b1 := h; omega
            replace hR1 := hR1.upd hu28 fun i hi h => by have hi := hR1_b _ hi; have h : i = b1 := h; omega
            replace hR2 := hR2.upd hu28 fun i hi h => by have hi := hR2_b _ hi; have h : i = b1 := h; omega
            replace hR4 := hR4.upd hu28 fun i hi h => by have hi := hR4_b _ hi; have h : i = b1 := h; omega
            replace hR5 := hR5.upd hu28 fun i hi h => by have hi := hR5_b _ hi; have h : i = b1 := h; omega
            replace hB20 := hB20.upd hu28 fun h => by have h : b20 = b1 := h; omega
            replace hB2 := hB2.upd hu28 fun h => by have h : b2 = b1 := h; omega
            replace hB1 := hb28
            refine L_op rfl (X_assign (v := r5) rfl ?_)
            refine L_op rfl (X_assign (v := (.bool (false))) rfl ?_)
            refine L_nil ?_
            refine T_n ?_
            refine W_ret ?_
            have hnb : ¬ itBad l := fun h => by rcases h with h | h | h; (· omega); (· omega); (· have h : 1 < takeV (takeR l 8) 1 := h; omega)
            obtain ⟨g1, g2, g3⟩ := it_ovr hnb (by show ¬ takeV (takeR l 8) 1 = 0; omega)
            exact BQ_r (End_3 Tryd.results36 (RV_A A43 rfl hB1.atAll rfl) (v2 := r5) rfl (v3 := .bool false) rfl ⟨((s1, .slice none 0 0, takeS l 8, [], takeQ (restB (itR2 l) 2), ((takeV (itR2 l) 2 : Nat) : Int)) : IE), r5, by rw [g3, decide_eq_false (fun h => by have h1 := h.1; have h2 := h.2; omega)], g1.symm, fun s hs => by have h1 : s = ((s1, takeS l 8) : Value × List UInt8) ∨ s = ((Value.slice none 0 0, []) : Value × List UInt8) := (by simpa [LT] using hs); rcases h1 with rfl | rfl; (· exact ⟨hO1.more (by omega), fun b hb => (hO1.lt hb).2⟩); (· exact BOwn.nil _ _ _ _), by rw [g2]; exact hR5, fun b_ h => hrb1 _ (hrb2 _ (hrb4 _ (hrb5 _ h))), hU.own hn0⟩)
end Go.Proofs.YtmddmghgkkjbiaaDoor
