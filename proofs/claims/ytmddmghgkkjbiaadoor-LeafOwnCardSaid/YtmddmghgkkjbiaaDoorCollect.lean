/-
  The contracts of leaves: items collected. (Printed by wip/gen/t06j.py of this repo.)
-/
import Derived.Test.YtmddmghgkkjbiaaDoorIter
import Derived.Test.YtmddmghgkkjbiaaDoorBaseK
namespace Go.Proofs.YtmddmghgkkjbiaaDoor
open Go Go.SL Go.Proofs
set_option linter.unusedVariables false

theorem valB_numB : ∀ (w n : Nat), valB (numB n w) = n % 256 ^ w
  | 0, n => by simp [numB, valB, Nat.mod_one]
  | w + 1, n => by
    have h : numB n (w + 1) = UInt8.ofNat n :: numB (n / 256) w := by
      unfold numB
      rw [List.range_succ_eq_map, List.map_cons, List.map_map]
      congr 1
      · unfold byteAt; rw [Nat.pow_zero, Nat.div_one]
      · apply List.map_congr_left
        intro k _
        show UInt8.ofNat (n / 256 ^ (k + 1)) = UInt8.ofNat (n / 256 / 256 ^ k)
        rw [Nat.div_div_eq_div_mul, Nat.pow_succ, Nat.mul_comm]
    rw [h]
    show (UInt8.ofNat n).toNat + 256 * valB (numB (n / 256) w) = _
    rw [valB_numB w (n / 256), UInt8.toNat_ofNat', show 256 ^ (w + 1) = 256 * 256 ^ w by rw [Nat.pow_succ, Nat.mul_comm], Nat.mod_mul]
theorem pk_take {n W : Nat} {t : List UInt8} : takeV (numB n W ++ t) W = n % 256 ^ W := by
  unfold takeV
  rw [if_neg (by rw [List.length_append, numB_length]; omega), List.take_append_of_le_length (by rw [numB_length]; exact Nat.le_refl _), List.take_of_length_le (by rw [numB_length]; exact Nat.le_refl _), valB_numB]
theorem pk_rest {n W : Nat} {t : List UInt8} : restB (numB n W ++ t) W = t := by
  unfold restB
  rw [if_neg (by rw [List.length_append, numB_length]; omega), List.drop_append_of_le_length (by rw [numB_length]; exact Nat.le_refl _), List.drop_eq_nil_of_le (by rw [numB_length]; exact Nat.le_refl _), List.nil_append]
theorem pk_e {n W : Nat} {t : List UInt8} : (if (numB n W ++ t).length < W then (20 : Int) else 0) = 0 := if_neg (by rw [List.length_append, numB_length]; omega)
theorem sized_full {s : List UInt8} (h : s.length ≤ 255) : sizedB s = UInt8.ofNat s.length :: s := by unfold sizedB; rw [List.take_of_length_le h]
theorem pb_head {s t : List UInt8} (h : s.length ≤ 255) : (sizedB s ++ t)[0]? = some (UInt8.ofNat s.length) := by rw [sized_full h]; rfl
theorem pb_n {s : List UInt8} (h : s.length ≤ 255) : (UInt8.ofNat s.length).toNat = s.length := by rw [UInt8.toNat_ofNat']; omega
theorem pb_e {s t : List UInt8} (h : s.length ≤ 255) : takeE (sizedB s ++ t) 255 = 0 := take_ok (pb_head h) (by rw [pb_n h, sized_full h, List.length_append, List.length_cons]; omega) (by rw [pb_n h]; omega)
theorem pb_s {s t : List UInt8} (h : s.length ≤ 255) : takeS (sizedB s ++ t) 255 = s := by
  rw [takeS_ok (pb_e h) (pb_head h), pb_n h, Nat.add_sub_cancel_left, sized_full h]
  show (s ++ t).take s.length = s
  rw [List.take_append_of_le_length (Nat.le_refl _), List.take_length]
theorem pb_r {s t : List UInt8} (h : s.length ≤ 255) : takeR (sizedB s ++ t) 255 = t := by
  rw [takeR_ok (pb_e h) (pb_head h), pb_n h, drop_rest, sized_full h, Nat.add_comm]
  show (s ++ t).drop s.length = t
  rw [List.drop_append_of_le_length (Nat.le_refl _), List.drop_length, List.nil_append]


theorem ptrB_eq (q : Pt) (t : List UInt8) : ptrB q ++ t = numB q.1.toNat 1 ++ (numB q.2.1.toNat 2 ++ (numB q.2.2.1.toNat 2 ++ (numB q.2.2.2.1.toNat 4 ++ (numB q.2.2.2.2.toNat 8 ++ t)))) := by
  unfold ptrB ptrP
  show ([(q.1, (1 : Int)), (q.2.1, 2), (q.2.2.1, 2), (q.2.2.2.1, 4), (q.2.2.2.2, 8)].flatMap fun e => numB e.1.toNat (wideN e.2)) ++ t = _
  simp only [List.flatMap_cons, List.flatMap_nil, List.append_nil, List.append_assoc]
  rfl
theorem pk_take' {n W : Nat} {t : List UInt8} (h : n < 256 ^ W) : takeV (numB n W ++ t) W = n := by rw [pk_take, Nat.mod_eq_of_lt h]
theorem tk_all {q : Pt} (hq : PtOk q) (t : List UInt8) : tkQ (ptrB q ++ t) = q ∧ tkR (ptrB q ++ t) 5 = t := by
  obtain ⟨h1, h2, h3, h4, h5⟩ := hq
  have r0 : tkR (ptrB q ++ t) 0 = _ := ptrB_eq q t
  have r1 : tkR (ptrB q ++ t) 1 = _ := (congrArg (restB · 1) r0).trans pk_rest
  have r2 : tkR (ptrB q ++ t) 2 = _ := (congrArg (restB · 2) r1).trans pk_rest
  have r3 : tkR (ptrB q ++ t) 3 = _ := (congrArg (restB · 2) r2).trans pk_rest
  have r4 : tkR (ptrB q ++ t) 4 = _ := (congrArg (restB · 4) r3).trans pk_rest
  have r5 : tkR (ptrB q ++ t) 5 = _ := (congrArg (restB · 8) r4).trans pk_rest
  have v0 : tkV (ptrB q ++ t) 0 = _ := (congrArg (takeV · 1) r0).trans (pk_take' (by rw [show (256 : Nat) ^ 1 = 256 by decide]; omega))
  have v1 : tkV (ptrB q ++ t) 1 = _ := (congrArg (takeV · 2) r1).trans (pk_take' (by rw [show (256 : Nat) ^ 2 = 65536 by decide]; omega))
  have v2 : tkV (ptrB q ++ t) 2 = _ := (congrArg (takeV · 2) r2).trans (pk_take' (by rw [show (256 : Nat) ^ 2 = 65536 by decide]; omega))
  have v3 : tkV (ptrB q ++ t) 3 = _ := (congrArg (takeV · 4) r3).trans (pk_take' (by rw [show (256 : Nat) ^ 4 = 4294967296 by decide]; omega))
  have v4 : tkV (ptrB q ++ t) 4 = _ := (congrArg (takeV · 8) r4).trans (pk_take' (by rw [show (256 : Nat) ^ 8 = 18446744073709551616 by decide]; omega))
  refine ⟨?_, r5⟩
  unfold tkQ
  rw [v0, v1, v2, v3, v4]
  obtain ⟨a, b, c, d, e⟩ := q
  dsimp only at h1 h2 h3 h4 h5 ⊢
  rw [Int.toNat_of_nonneg h1.1, Int.toNat_of_nonneg h2.1, Int.toNat_of_nonneg h3.1, Int.toNat_of_nonneg h4.1, Int.toNat_of_nonneg h5.1]
theorem takeQ_ptrB {q : Pt} (hq : PtOk q) (t : List UInt8) : takeQ (ptrB q ++ t) = q ∧ takeQE (ptrB q ++ t) = 0 := by
  have hl : ¬ (ptrB q ++ t).length < 17 := by rw [List.length_append, ptrB_len]; omega
  exact ⟨(if_neg hl).trans (tk_all hq t).1, if_neg hl⟩
theorem fill_small {l : List UInt8} (h : l.length ≤ 256) : fillL l = l ++ List.replicate (256 - l.length) 0 := if_neg (by omega)


theorem c_appendSeqI {gf : FuncId} {lb : List Value} {w0 : World} {G : World → Prop} (L : List ID) (br : Nat) (w : World) (hit : IterV Tryd.prog gf lb L.length (YI L) w0 (fun b => b < w0.heap.size) (fun b => b = br) G) (hGs : ∀ W W', G W → Upd (fun b => ¬ b = br) W W' → G W') (hG0 : G w) (hbr : br < w.heap.size) (eg : ∀ args w, (callFunc gf args).run Tryd.prog w = .ok (.enter gf args) w) (hw0 : Ext w0 w) (hlen : L.length ≤ 1000000) : CT Tryd.prog 44 #[.slice none 0 0, .func (.func gf) #[] lb.toArray] w fun v w' => ∃ es, NOwn LT w' 43 5 w.heap.size w'.heap.size v es ∧ dsI es = L ∧ G w' ∧ Upd (fun b => b = br) w w' := by
  obtain ⟨n0, hn0⟩ : ∃ n, n = w.heap.size := ⟨_, rfl⟩
  have hw0s := hw0.size
  refine CT_of Tryd.func44 rfl rfl rfl ?_
  refine W_seq ?_
  refine W_reg ?_
  refine L_op rfl (X_box (v := (.slice none 0 0)) (c := #[(.slice none 0 0)]) rfl rfl ?_)
  intro b1 w1 hn1
  have hbn1 := hn1.num; have hbs1 := hn1.size
  have hB1 := hn1.blk
  obtain rfl : n0 = b1 := by omega
  refine L_op rfl (X_assign (v := (.slice none 0 0)) rfl ?_)
  refine L_nil ?_
  refine T_n ?_
  refine W_seq ?_
  refine W_seq ?_
  refine W_reg ?_
  refine L_op rfl (X_move (v := (.func (.func gf) #[] lb.toArray)) rfl ?_)
  refine L_nil ?_
  refine T_n ?_
  refine W_block ?_
  obtain ⟨nL, hnL⟩ : ∃ n, n = w1.heap.size := ⟨_, rfl⟩
  refine W_rangeV (n := L.length) (Y := (YI L)) rfl eg hit hGs (hGs _ _ hG0 hn1.ext.upd) ((Ext.upd hw0).trans (Ext.upd hn1.ext)) rfl (fun k x W0 W h => by obtain ⟨e, rfl, _⟩ := h; rfl) (fun b => b = n0 ∨ n0 + 3 ≤ b) (fun b hb => by rcases hb with h | h; (· exact ⟨by omega, by omega, by omega⟩); (· exact ⟨by omega, by omega, by omega⟩)) (fun b hb h => by have h : b = br := h; omega) (fun b hb h => by omega) (fun b h => by have h : b = br := h; omega) (fun k W => ∃ v_ es up, Blk W n0 #[v_] 22 ∧ NOwn LT W 43 5 (n0 + 3) up v_ es ∧ up ≤ W.heap.size ∧ dsI es = L.take k ∧ Upd (fun i => n0 ≤ i ∨ i = br) w W) (fun k e W => False) (fun k W W2 hI hu _ => by obtain ⟨v_, es, up, hB, hN, hup, hes, hU⟩ := hI; have hz := hu.size; exact ⟨v_, es, up, hB.upd hu fun h => by { rcases h with h | h <;> omega }, hN.upd hu fun i h1 h2 h => by { rcases h with h | h <;> omega }, by omega, hes, hU.trans (hu.mono fun i _ h => by { rcases h with h | h; (· exact .inr h); (· exact .inl (by omega)) })⟩) (fun _ _ _ _ h _ _ => h) ?_ ?_ ?_ ?_
  · intro W hx_ hs_
    exact ⟨.slice none 0 0, [], n0, hB1.ext hx_, NOwn.nil _ _ _ _ _, by omega, rfl, (Ext.upd hn1.ext).trans (Ext.upd hx_)⟩
  · intro k x W0 W hk_ hI_ hu0_ hsz0_ hsz_ hlp_
    obtain ⟨v_, es, up, hB, hN, hup, hes, hU⟩ := hI_
    obtain ⟨hkn, e, rfl, hat, hK, hV⟩ := hk_
    have hel : es.length = k := by have h := congrArg List.length hes; rw [dsI_len, List.length_take] at h; omega
    replace hB := hB.upd hu0_ fun h => by { rcases h with h | h <;> omega }
    replace hN := hN.upd hu0_ fun i h1 h2 h => by { rcases h with h | h <;> omega }
    replace hU := hU.trans (hu0_.mono fun i _ h => by rcases h with h | h; (· exact .inr h); (· exact .inl (by omega)))
    have hsz01_ := hu0_.size
    have hD := Upd.refl (fun b => b = n0 ∨ n0 + 3 ≤ b) W
    refine W_reg ?_
    refine L_op rfl (X_alloc (z := (.agg #[(.slice none 0 0), (.slice none 0 0), (.int .u8 (0)), (.int .u16 (0)), (.int .u16 (0)), (.int .u32 (0)), (.int .u64 (0)), (.int .u16 (0))])) (c := #[(.slice none 0 0), (.slice none 0 0), (.int .u8 (0)), (.int .u16 (0)), (.int .u16 (0)), (.int .u32 (0)), (.int .u64 (0)), (.int .u16 (0))]) Zv43 rfl ?_)
    intro b2 w2 hn2
    have hbn2 := hn2.num; have hbs2 := hn2.size
    replace hB := hB.ext hn2.ext
    replace hN := hN.ext hn2.ext
    replace hK := hK.ext hn2.ext
    replace hV := hV.ext hn2.ext
    replace hU := hU.trans (Ext.upd hn2.ext)
    replace hD := hD.trans (Ext.upd hn2.ext)
    have hB2 := hn2.blk
    refine L_op0 (X_storeW (b := b2) (ys := itC e) A43 rfl rfl (itC_one hK.1.sv.one hV.1.sv.one) rfl hB2 rfl ?_)
    intro w3 hu3 hb3
    have hz3 := hu3.size
    replace hB := hB.upd hu3 fun h => by have h : n0 = b2 := h; omega
    replace hN := hN.upd hu3 fun i h1 h2 h => by have h : i = b2 := h; omega
    replace hK := hK.upd hu3 fun i h1 h2 h => by have h : i = b2 := h; omega
    replace hV := hV.upd hu3 fun i h1 h2 h => by have h : i = b2 := h; omega
    replace hU := hU.trans (hu3.mono fun i _ h => by have h : i = b2 := h; show n0 ≤ i ∨ i = br; omega)
    replace hD := hD.trans (hu3.mono fun i _ h => by have h : i = b2 := h; show i = n0 ∨ n0 + 3 ≤ i; omega)
    replace hB2 := hb3
    refine L_nil ?_
    refine T_n ⟨hD, fun W2 hu2_ hlp2_ => ?_⟩
    have hsz2_ := hu2_.size
    replace hB := hB.upd hu2_ fun h => by have h : n0 = nL + 1 := (by rw [hnL]; exact h); omega
    replace hN := hN.upd hu2_ fun i h1 h2 h => by have h : i = nL + 1 := (by rw [hnL]; exact h); omega
    replace hK := hK.upd hu2_ fun i h1 h2 h => by have h : i = nL + 1 := (by rw [hnL]; exact h); omega
    replace hV := hV.upd hu2_ fun i h1 h2 h => by have h : i = nL + 1 := (by rw [hnL]; exact h); omega
    replace hU := hU.trans (hu2_.mono fun i _ h => by have h : i = nL + 1 := (by rw [hnL]; exact h); show n0 ≤ i ∨ i = br; omega)
    replace hB2 := hB2.upd hu2_ fun h => by have h : b2 = nL + 1 := (by rw [hnL]; exact h); omega
    have hD := Upd.refl (fun b => b = n0 ∨ n0 + 3 ≤ b) W2
    refine W_block ?_
    refine W_reg ?_
    refine L_op rfl (X_load (p := (ptr n0 (0))) (v := v_) T22 rfl (hB.at1 rfl) ?_)
    refine L_op rfl (X_loadA (p := (ptr b2 (0))) (xs := itC e) A43 rfl hB2.atAll rfl ?_)
    refine L_op rfl (X_buildSliceL (vs := [.agg (itC e).toArray]) (c := itC e) S22 (by decide) rfl rfl (List.forall_mem_cons.2 ⟨rfl, fun _ h => by cases h⟩) rfl ?_)
    intro b4 w4 hn4
    have hbn4 := hn4.num; have hbs4 := hn4.size
    replace hB := hB.ext hn4.ext
    replace hN := hN.ext hn4.ext
    replace hK := hK.ext hn4.ext
    replace hV := hV.ext hn4.ext
    replace hU := hU.trans (Ext.upd hn4.ext)
    replace hB2 := hB2.ext hn4.ext
    replace hD := hD.trans (Ext.upd hn4.ext)
    have hB4 := hn4.blk
    refine L_op rfl (X_append (B := n0 + 3) (n := es.length) (s := v_) (x := (.slice (some ⟨b4, 0, none⟩) 1 1)) S22 ⟨_, Tryd.underlying22⟩ rfl rfl hN.1 (m := 1) (ys := itC e) (hB4.rd (o := 0) (n := 1) (c := 1) (sz := 8) (by decide) (by decide) rfl (fun j u hj => by rw [Nat.zero_add]; simpa using hj)) (itC_one hK.1.sv.one hV.1.sv.one) (by unfold maxLen; omega) (by omega) (by omega) ?_)
    intro v5 w5 hO5 hu5 ho5
    have hz5 := hu5.size
    replace hB := hB.upd hu5 fun h => by have := (hN.1.lt h).1; omega
    have hN5 := NOwn.push (L := LT) (e := e) (by decide) hN hO5 hu5 (fun s hs => by have h1 : s = (e.1, e.2.2.1) ∨ s = (e.2.1, e.2.2.2.1) := by { simpa [LT] using hs }; rcases h1 with rfl | rfl; (· exact hK.mono (by omega) (Nat.le_refl _)); (· exact hV.mono (by omega) (Nat.le_refl _))) (by omega) (by omega)
    replace hU := hU.trans (hu5.mono fun i _ h => by have := (hN.1.lt h).1; exact .inl (by omega))
    replace hD := hD.trans (hu5.mono fun i _ h => by have := (hN.1.lt h).1; show i = n0 ∨ n0 + 3 ≤ i; omega)
    refine L_op0 (X_store (b := n0) (o := 0) (v := v5) T22 rfl rfl hO5.sv.one hB (by show (0 : Nat) < 1; decide) ?_)
    intro w6 hu6 hB6
    have hz6 := hu6.size
    replace hU := hU.trans (hu6.mono fun i _ h => by have h : i = n0 := h; show n0 ≤ i ∨ i = br; omega)
    replace hD := hD.trans (hu6.mono fun i _ h => by have h : i = n0 := h; show i = n0 ∨ n0 + 3 ≤ i; omega)
    replace hN5 := hN5.upd hu6 fun i h1 h2 h => by have h : i = n0 := h; omega
    refine L_nil ?_
    refine B_n ?_
    exact RQ_n hD ⟨v5, es ++ [e], w5.heap.size, hB6, hN5, by omega, by unfold dsI at hes ⊢; rw [List.map_append, hes, List.take_add_one, hat]; rfl, hU⟩
  · intro W hI_ hG_ hd_
    obtain ⟨v_, es, up, hB, hN, hup, hes, hU⟩ := hI_
    rw [List.take_length] at hes
    have hd : Dfd W nL := by rw [hnL]; exact hd_
    refine B_n ?_
    refine T_n ?_
    refine W_seq ?_
    refine W_reg ?_
    refine L_op rfl (X_load (p := (ptr n0 (0))) (v := v_) T22 rfl (hB.at1 rfl) ?_)
    refine L_op rfl (X_assign (v := v_) rfl ?_)
    refine L_nil ?_
    refine T_n ?_
    refine W_ret ?_
    refine BQ_n (End_m hd_ fun w9 hu9 => End_1 Tryd.results44 (v := v_) rfl ?_)
    have hz9 := hu9.size
    exact ⟨es, (hN.upd hu9 fun i h1 h2 h => by have h : i = nL := (by rw [hnL]; exact h); omega).mono (by omega) (by omega), hes, hGs _ _ hG_ (hu9.mono fun i _ h e => by have h : i = nL := (by rw [hnL]; exact h); omega), (hU.trans (hu9.mono fun i _ h => .inl (by have h : i = nL := (by rw [hnL]; exact h); omega))).mono fun i hi h => h.elim (fun h => by omega) id⟩
  · intro k e W hk_ hI_ hd_ he_
    exact hI_.elim

theorem c_collectI {gf : FuncId} {lb : List Value} {w0 : World} {G : World → Prop} (L : List ID) (br : Nat) (w : World) (hit : IterV Tryd.prog gf lb L.length (YI L) w0 (fun b => b < w0.heap.size) (fun b => b = br) G) (hGs : ∀ W W', G W → Upd (fun b => ¬ b = br) W W' → G W') (hG0 : G w) (hbr : br < w.heap.size) (eg : ∀ args w, (callFunc gf args).run Tryd.prog w = .ok (.enter gf args) w) (hw0 : Ext w0 w) (hlen : L.length ≤ 1000000) : CT Tryd.prog 25 #[.func (.func gf) #[] lb.toArray] w fun v w' => ∃ es, NOwn LT w' 43 5 w.heap.size w'.heap.size v es ∧ dsI es = L ∧ G w' ∧ Upd (fun b => b = br) w w' := by
  refine CT_of Tryd.func25 rfl rfl rfl ?_
  refine W_seq ?_
  refine W_reg ?_
  refine L_op rfl (X_assign (v := (.slice none 0 0)) rfl ?_)
  refine L_nil ?_
  refine T_n ?_
  refine W_seq ?_
  refine W_reg ?_
  refine L_op rfl (X_move (v := (.func (.func gf) #[] lb.toArray)) rfl ?_)
  refine L_op rfl (X_fn (vs := [(.slice none 0 0), (.func (.func gf) #[] lb.toArray)]) en44 rfl (CT.mono (c_appendSeqI L br _ hit hGs hG0 hbr eg hw0 hlen) ?_))
  rintro v1 w1 ⟨es, hN, hes, hG, hu1⟩
  refine L_op rfl (X_assign (v := v1) rfl ?_)
  refine L_nil ?_
  refine T_n ?_
  refine W_ret ?_
  exact BQ_r (End_1 Tryd.results25 (v := v1) rfl ⟨es, hN, hes, hG, hu1⟩)
end Go.Proofs.YtmddmghgkkjbiaaDoor
