/-
  Plain laws on the pages of leaves; the contract of Decode. (Printed by wip/gen/t06k.py of this repo.)
-/
import Derived.Test.YtmddmghgkkjbiaaDoorCollect
namespace Go.Proofs.YtmddmghgkkjbiaaDoor
open Go Go.SL Go.Proofs
set_option linter.unusedVariables false

theorem tb_e {s t : List UInt8} {q : Int} (h : s.length ≤ 255) (hq : (s.length : Int) ≤ q) : takeE (sizedB s ++ t) q = 0 := take_ok (pb_head h) (by rw [pb_n h, sized_full h, List.length_append, List.length_cons]; omega) (by rw [pb_n h]; omega)
theorem tb_s {s t : List UInt8} {q : Int} (h : s.length ≤ 255) (hq : (s.length : Int) ≤ q) : takeS (sizedB s ++ t) q = s := by
  rw [takeS_ok (tb_e h hq) (pb_head h), pb_n h, Nat.add_sub_cancel_left, sized_full h]
  show (s ++ t).take s.length = s
  rw [List.take_append_of_le_length (Nat.le_refl _), List.take_length]
theorem tb_r {s t : List UInt8} {q : Int} (h : s.length ≤ 255) (hq : (s.length : Int) ≤ q) : takeR (sizedB s ++ t) q = t := by
  rw [takeR_ok (tb_e h hq) (pb_head h), pb_n h, drop_rest, sized_full h, Nat.add_comm]
  show (s ++ t).drop s.length = t
  rw [List.drop_append_of_le_length (Nat.le_refl _), List.drop_length, List.nil_append]
theorem takeQR_ptrB {q : Pt} (hq : PtOk q) (t : List UInt8) : takeQR (ptrB q ++ t) = t := by
  have hl : ¬ (ptrB q ++ t).length < 17 := by rw [List.length_append, ptrB_len]; omega
  exact (if_neg hl).trans (tk_all hq t).2
theorem rdB_of {s t : List UInt8} {q : Int} (h : s.length ≤ 255) (hq : (s.length : Int) ≤ q) : rdB (sizedB s ++ t, 0) q = (s, (t, 0)) := by
  unfold rdB
  rw [if_pos rfl]
  show (takeS (sizedB s ++ t) q, (takeR (sizedB s ++ t) q, takeE (sizedB s ++ t) q)) = _
  rw [tb_s h hq, tb_r h hq, tb_e h hq]
theorem rdN_of {n W : Nat} {m : Int} {t : List UInt8} (hW : wideN m = W) (hn : n < 256 ^ W) : rdN (numB n W ++ t, 0) m = (n, (t, 0)) := by
  unfold rdN
  rw [if_pos rfl, hW]
  show (takeV (numB n W ++ t) W, (restB (numB n W ++ t) W, if (numB n W ++ t).length < W then (20 : Int) else 0)) = _
  rw [pk_take' hn, pk_rest, pk_e]
theorem byte_num (n : Nat) (hn : n < 256) : [UInt8.ofNat n] = numB n 1 := by
  unfold numB byteAt
  simp
theorem step_of {d : ID} (h : RightT d) (ho : ItOk d) (t : List UInt8) : stepI (putI d ++ t, 0) = (d, (t, 0)) := by
  obtain ⟨⟨h1, h2⟩, h3⟩ := h
  obtain ⟨k, v, q, z⟩ := d
  dsimp only at h1 h2 h3
  obtain ⟨ho1, ho2, ho3⟩ := ho
  dsimp only at ho1 ho2 ho3
  unfold stepI putI
  dsimp only
  rcases h3 with ⟨h3, h4, rfl, rfl⟩ | ⟨h3, h4, h5, h6, h7⟩
  · rw [if_pos h3, List.append_assoc, rdB_of (by omega) (by omega)]
    dsimp only
    rw [show (0 :: sizedB v) ++ t = numB 0 1 ++ (sizedB v ++ t) from rfl, rdN_of (W := 1) rfl (by decide)]
    dsimp only
    rw [if_pos rfl, rdB_of (by omega) (by omega)]
  · rw [if_neg (show ¬ q.1 = 0 by omega), List.append_assoc, rdB_of (by omega) (by omega)]
    dsimp only
    rw [show (1 :: (numB z.toNat 2 ++ ptrB q)) ++ t = numB 1 1 ++ (numB z.toNat 2 ++ (ptrB q ++ t)) by rw [← byte_num 1 (by decide), List.cons_append, List.append_assoc]; rfl, rdN_of (W := 1) rfl (by decide)]
    dsimp only
    rw [if_neg (by decide), if_pos rfl, rdN_of (W := 2) rfl (by rw [show (256 : Nat) ^ 2 = 65536 by decide]; omega)]
    dsimp only
    rw [if_pos rfl, (takeQ_ptrB ho1 t).1, (takeQ_ptrB ho1 t).2, takeQR_ptrB ho1, Int.toNat_of_nonneg ho2, List.eq_nil_of_length_eq_zero h4]
theorem items_of (t : List UInt8) : ∀ (ds : List ID), (∀ d ∈ ds, RightT d) → (∀ d ∈ ds, ItOk d) → (itemsI (ds.flatMap putI ++ t, 0) ds.length).1 = ds
  | [], _, _ => rfl
  | d :: ds, h, hp => by
    rw [List.flatMap_cons, List.append_assoc, List.length_cons, items_yes (step_of (h d (List.mem_cons_self ..)) (hp d (List.mem_cons_self ..)) _) rfl]
    show d :: _ = d :: ds
    rw [items_of t ds (fun x hx => h x (List.mem_cons_of_mem _ hx)) fun x hx => hp x (List.mem_cons_of_mem _ hx)]
theorem encF_all (ds : List ID) : encF ds ds.length = 1 :: UInt8.ofNat ds.length :: ds.flatMap putI := by
  unfold encF
  rw [List.take_length]; rfl
theorem encI_eq {ds : List ID} (h : RightI ds) : encI ds = 1 :: UInt8.ofNat ds.length :: (ds.flatMap putI ++ List.replicate (256 - (encF ds ds.length).length) 0) := by
  have hl := encF_len (right_mem h) ds.length
  have hn := h.1
  unfold encI
  rw [fill_small (by omega)]
  generalize 256 - (encF ds ds.length).length = m
  rw [encF_all]; rfl
def dsP (p : List UInt8) : List ID := (itemsI (p.drop 2, 0) (p.getD 1 0).toNat).1
abbrev finP (p : List UInt8) : RS := (itemsI (p.drop 2, 0) (p.getD 1 0).toNat).2
abbrev DecOk (p : List UInt8) : Prop := (p.getD 0 0).toNat = 1 ∧ (p.getD 1 0).toNat ≤ 6 ∧ encE (dsP p) = 0 ∧ encP (dsP p) = p
def decL (p : List UInt8) : List ID := if DecOk p then dsP p else []
def decE (p : List UInt8) : Int := if DecOk p then 0 else 50
theorem encE_zero {ds : List ID} (h : encE ds = 0) : RightI ds := by
  unfold encE at h
  split at h
  · assumption
  · cases h
theorem dec_err {p : List UInt8} (h : (finP p).2 ≠ 0) : ¬ DecOk p := by
  intro ⟨h1, h2, h3, h4⟩
  have hR := encE_zero h3
  have hl := (items_len (p.getD 1 0).toNat (p.drop 2, 0)).2 h rfl
  have e1 : encP (dsP p) = encI (dsP p) := if_pos hR
  rw [e1, encI_eq hR] at h4
  have e2 : p.getD 1 0 = UInt8.ofNat (dsP p).length := by
    have := congrArg (fun l => List.getD l 1 0) h4
    exact this.symm
  have hn := hR.1
  have e3 : (p.getD 1 0).toNat = (dsP p).length := by rw [e2, UInt8.toNat_ofNat']; omega
  unfold dsP at e3
  omega
theorem dec_of {ds : List ID} (h : RightI ds) (hp : ∀ d ∈ ds, ItOk d) : DecOk (encI ds) ∧ dsP (encI ds) = ds := by
  have e := encI_eq h
  have hn := h.1
  have hN : (UInt8.ofNat ds.length).toNat = ds.length := by rw [UInt8.toNat_ofNat']; omega
  have g0 : (encI ds).getD 0 0 = 1 := by rw [e]; rfl
  have g1 : (encI ds).getD 1 0 = UInt8.ofNat ds.length := by rw [e]; rfl
  have gd : (encI ds).drop 2 = ds.flatMap putI ++ List.replicate (256 - (encF ds ds.length).length) 0 := by rw [e]; rfl
  have hds : dsP (encI ds) = ds := by unfold dsP; rw [g1, gd, hN]; exact items_of _ ds (right_mem h) hp
  exact ⟨⟨by rw [g0]; rfl, by rw [g1, hN]; exact hn, by rw [hds]; exact if_pos h, by rw [hds]; exact if_pos h⟩, hds⟩
theorem decL_ok {p : List UInt8} (h : decE p = 0) : DecOk p ∧ decL p = dsP p := by
  have hn : DecOk p := by
    unfold decE at h
    split at h
    · assumption
    · cases h
  exact ⟨hn, if_pos hn⟩
theorem decL_no {p : List UInt8} (h : decE p ≠ 0) : decE p = 50 ∧ decL p = [] := by
  have hn : ¬ DecOk p := fun h1 => h (if_pos h1)
  exact ⟨if_neg hn, if_neg hn⟩
theorem dec_encP {ds : List ID} (h : RightI ds) (hp : ∀ d ∈ ds, ItOk d) : decE (encP ds) = 0 ∧ decL (encP ds) = ds := by
  have e : encP ds = encI ds := if_pos h
  obtain ⟨h1, h2⟩ := dec_of h hp
  rw [e]
  exact ⟨if_pos h1, (if_pos h1).trans h2⟩
theorem encE_ok {ds : List ID} (h : RightI ds) : encE ds = 0 := if_pos h
theorem encE_no {ds : List ID} (h : ¬ RightI ds) : encE ds = 2 := if_neg h
theorem encP_no {ds : List ID} (h : ¬ RightI ds) : encP ds = List.replicate 256 0 := if_neg h
theorem dec_just {p : List UInt8} (h : decE p = 0) : encE (decL p) = 0 ∧ encP (decL p) = p := by
  obtain ⟨h1, h2⟩ := decL_ok h
  rw [h2]
  exact ⟨h1.2.2.1, h1.2.2.2⟩
theorem decL_pts (p : List UInt8) : ∀ d ∈ decL p, ItOk d := by
  unfold decL
  split
  · exact items_ok _ _
  · intro d hd; cases hd
theorem pts_of {es : List IE} {ds : List ID} (h : dsI es = ds) (hp : ∀ d ∈ ds, ItOk d) : ∀ e ∈ es, ItOk e.2.2 := fun e he => hp e.2.2 (h ▸ List.mem_map_of_mem he)
theorem page_at {p : List UInt8} (hp : p.length = 256) {i : Nat} (hi : i < 256) : (p.map byteV).toArray[i]? = some (byteV (p.getD i 0)) := by
  rw [List.getElem?_toArray, List.getElem?_map, List.getD_eq_getElem?_getD, List.getElem?_eq_getElem (by omega)]; rfl
theorem page_rest {p : List UInt8} (hp : p.length = 256) : (p.drop 2).take (256 - 2) = p.drop 2 := List.take_of_length_le (by rw [List.length_drop]; omega)

theorem c_decodeI (p : List UInt8) (w : World) (hp : p.length = 256) (hT : TabR w) : CT Tryd.prog 12 #[(.agg ((p).map byteV).toArray)] w fun v w' => ∃ s, v = .tuple #[s, .int .i64 (decE p)] ∧ ∃ es, NOwn LT w' 43 5 w.heap.size w'.heap.size s es ∧ dsI es = decL p ∧ Ext w w' := by
  obtain ⟨n0, hn0⟩ : ∃ n, n = w.heap.size := ⟨_, rfl⟩
  have hU : Upd (fun i => n0 ≤ i) w w := Upd.refl _ _
  have hn1 := tab_pos hT
  refine CT_of Tryd.func12 rfl rfl rfl ?_
  refine W_seq ?_
  refine W_reg ?_
  refine L_op rfl (X_box (v := (.agg ((p).map byteV).toArray)) (c := ((p).map byteV).toArray) rfl rfl ?_)
  intro b1 w1 hn1
  have hbn1 := hn1.num; have hbs1 := hn1.size
  replace hU := hU.trans (Ext.upd hn1.ext)
  replace hT := hT.ext hn1.ext
  have hB1 := hn1.blk
  refine L_op rfl (X_assign (v := (.slice none 0 0)) rfl ?_)
  refine L_op rfl (X_assign (v := (.int .i64 (0))) rfl ?_)
  refine L_nil ?_
  refine T_n ?_
  refine W_scopeQ ?_
  refine W_seq ?_
  refine W_reg ?_
  refine L_op rfl (X_assign (v := (.int .i64 (50))) rfl ?_)
  refine L_nil ?_
  refine T_n ?_
  refine W_seq ?_
  refine W_label ?_
  refine T_n ?_
  refine W_seq ?_
  refine W_block ?_
  refine W_loop (α := Unit) [2, 3, 4, 5, 6, 7, 8, 9, 10, 11, 12, 13, 14, 15, 16, 17, 18, 19, 20, 21, 22, 23, 24, 25, 26, 27, 28, 29, 30, 31, 32, 33, 34, 35, 36, 37, 38, 39, 40, 41, 42] (fun _ => [(2, (.slice none 0 0)), (3, (.int .i64 (50)))]) (fun _ w_ => Blk w_ b1 (p.map byteV).toArray 24 ∧ TabR w_ ∧ Upd (fun i => n0 ≤ i) w w_) (fun _ => 0) ⟨rfl, (), ⟨hB1, hT, hU⟩, Out.refl _ _, ⟨rfl, rfl, trivial⟩⟩ ?_
  rintro _ w2 _ ⟨hB1, hT, hU⟩
  have hsz_ := hU.size
  have hb1l := hB1.lt
  refine W_seq ?_
  refine W_seq ?_
  refine W_reg ?_
  refine L_op rfl (X_idxAP (len := 256) (sz := 1) (b := b1) (o := 0) (k := .i64) (i := 0) (r := 0) Tryd.underlying24 Z5 rfl rfl (by omega) (by omega) rfl ?_)
  refine L_op rfl (X_load (p := (ptr b1 (0))) (v := byteV (p.getD 0 0)) T5 rfl (hB1.at1 (page_at hp (by decide))) ?_)
  by_cases hc3 : ((((p.getD 0 0).toNat : Nat) : Int) : Int) = (1)
  · refine L_op rfl (X_cmp (k := .u8) (a := (((p.getD 0 0).toNat : Nat) : Int)) (b := 1) (r := true) rfl rfl rfl (decide_eq_true (p := (((((p.getD 0 0).toNat : Nat) : Int)) : Int) = ((1) : Int)) (by omega)) ?_)
    refine L_op rfl (X_move (v := (.bool (true))) rfl ?_)
    refine L_gy (dj := 10) rfl rfl rfl (X_idxAP (len := 256) (sz := 1) (b := b1) (o := 0) (k := .i64) (i := 1) (r := 1) Tryd.underlying24 Z5 rfl rfl (by omega) (by omega) rfl ?_)
    refine L_gy (dj := 10) rfl rfl rfl (X_load (p := (ptr b1 (1))) (v := byteV (p.getD 1 0)) T5 rfl (hB1.at1 (page_at hp (by decide))) ?_)
    by_cases hc4 : ((((p.getD 1 0).toNat : Nat) : Int) : Int) ≤ (6)
    · refine L_gy (dj := 10) rfl rfl rfl (X_cmp (k := .u8) (a := (((p.getD 1 0).toNat : Nat) : Int)) (b := 6) (r := true) rfl rfl rfl (decide_eq_true (p := (((((p.getD 1 0).toNat : Nat) : Int)) : Int) ≤ ((6) : Int)) (by omega)) ?_)
      refine L_op rfl (X_pick (t := true) (v := (.bool (true))) rfl rfl ?_)
      refine L_nil ?_
      refine T_n ?_
      refine W_ct rfl ?_
      refine W_skip ?_
      refine T_n ?_
      refine W_block ?_
      refine W_seq ?_
      refine W_reg ?_
      refine L_op rfl (X_sliceAL (len := 256) (sz := 1) (b := b1) (l := 2) (h' := 256) (kl := .i64) (kh := .i64) Tryd.underlying24 Z5 rfl rfl rfl (by omega) (by omega) ?_)
      have hRs : Rd w2 1 (cutv (.slice (some ⟨b1, 0, none⟩) 256 256) 1 (2) (256)) (p.drop 2).length ((p.drop 2).map byteV) := (hB1.rdL (n := 256) (hp) (by decide) (lo := 2) (hi := 256) (by omega) (by omega) (m := (p.drop 2)) (page_rest hp))
      refine L_op rfl (X_build (built55' hRs.sv) ?_)
      refine L_op rfl (X_box (v := .agg #[(cutv (.slice (some ⟨b1, 0, none⟩) 256 256) 1 (2) (256)), .int .i64 0]) (c := #[(cutv (.slice (some ⟨b1, 0, none⟩) 256 256) 1 (2) (256)), .int .i64 0]) rfl rfl ?_)
      intro br wb hnb
      have hbnb := hnb.num; have hbsb := hnb.size
      replace hB1 := hB1.ext hnb.ext
      replace hT := hT.ext hnb.ext
      replace hU := hU.trans (Ext.upd hnb.ext)
      replace hRs := hRs.ext hnb.ext
      have hBr := hnb.blk
      have hrp : ∀ b, rbk (cutv (.slice (some ⟨b1, 0, none⟩) 256 256) 1 (2) (256)) = some b → b = b1 := fun b hb => (Option.some.inj (show some b1 = some b from hb)).symm
      refine L_op rfl (X_assign (v := (ptr br (0))) rfl ?_)
      refine L_nil ?_
      refine T_n ?_
      refine W_seq ?_
      refine W_reg ?_
      refine L_op rfl (X_move (v := (ptr br (0))) rfl ?_)
      refine L_op rfl (X_idxAP (len := 256) (sz := 1) (b := b1) (o := 0) (k := .i64) (i := 1) (r := 1) Tryd.underlying24 Z5 rfl rfl (by omega) (by omega) rfl ?_)
      refine L_op rfl (X_load (p := (ptr b1 (1))) (v := byteV (p.getD 1 0)) T5 rfl (hB1.at1 (page_at hp (by decide))) ?_)
      refine L_op rfl (X_convInt (k := .u8) (a := (((p.getD 1 0).toNat : Nat) : Int)) (r := (((p.getD 1 0).toNat : Nat) : Int)) (by rw [Tryd.underlying5]; rfl) Tryd.underlying3 rfl (i64_wrap (by omega) (by have := (p.getD 1 0).toNat_lt; omega)) ?_)
      obtain ⟨xr, hxr⟩ : ∃ n, n = wb.heap.size := ⟨_, rfl⟩
      refine L_op rfl (X_fn (vs := [(ptr br (0)), (.int .i64 ((((p.getD 1 0).toNat : Nat) : Int)))]) en26 rfl (CT.mono (c_items br _ _) ?_))
      rintro _ w5 ⟨rfl, hK1, hK2, hu5, hz5⟩
      rw [← hxr] at hK1 hK2 ⊢
      replace hB1 := hB1.ext hu5
      replace hT := hT.ext hu5
      replace hU := hU.trans (Ext.upd hu5)
      replace hRs := hRs.ext hu5
      replace hBr := hBr.ext hu5
      have hN8 := (p.getD 1 0).toNat_lt
      have hdl : (dsP p).length ≤ 1000000 := by have h1 := (items_len (p.getD 1 0).toNat (p.drop 2, 0)).1; have h2 : (dsP p).length = (itemsI (p.drop 2, 0) (p.getD 1 0).toNat).1.length := rfl; omega
      have hit := c_items1 (cutv (.slice (some ⟨b1, 0, none⟩) 256 256) 1 (2) (256)) (p.drop 2) (p.getD 1 0).toNat xr (xr + 1) br (dsP p) (finP p) w5 (by omega) rfl rfl hK2 hK1 hBr hRs (fun b hb => by have := hrp b hb; omega) (by omega) rfl (by omega) hT
      obtain ⟨sc, hsc⟩ : ∃ n, n = w5.heap.size := ⟨_, rfl⟩
      refine L_op rfl (X_fn (vs := [(.func (.func 45) #[] #[ptr (xr + 1) 0, ptr xr 0])]) en25 rfl (CT.mono (c_collectI (lb := [ptr (xr + 1) 0, ptr xr 0]) (dsP p) br _ hit (fun W W2 h hu => h.upd hu) ⟨_, 0, hBr, .inl rfl⟩ (by omega) en45 (Upd.refl _ _) hdl) ?_))
      rintro v6 w6 ⟨es, hN, hes, hG, hu6⟩
      have hz6 := hu6.size
      obtain ⟨uc, huc⟩ : ∃ n, n = w6.heap.size := ⟨_, rfl⟩
      rw [← hsc, ← huc] at hN
      replace hB1 := hB1.upd hu6 fun h => by have h : b1 = br := h; omega
      replace hT := hT.upd hu6 fun i h1 h2 h => by have h : i = br := h; omega
      replace hU := hU.trans (hu6.mono fun i _ h => by have h : i = br := h; show n0 ≤ i; omega)
      obtain ⟨r9, e9, hBr, he9⟩ := hG
      have hel := same_len (es := es) (fs := es) rfl
      have hpt := pts_of hes (items_ok _ _)
      refine L_op rfl (X_assign (v := v6) rfl ?_)
      refine L_nil ?_
      refine T_n ?_
      refine W_seq ?_
      refine W_seq ?_
      refine W_reg ?_
      refine L_op rfl (X_move (v := v6) rfl ?_)
      refine L_op rfl (X_fn (vs := [v6]) en10 rfl (CT.mono (c_encodeI v6 es _ sc uc (by omega) hN.rd hpt hT) ?_))
      rintro _ w6 ⟨rfl, hu6⟩
      have hz6 := hu6.size
      replace hB1 := hB1.ext hu6
      replace hT := hT.ext hu6
      replace hU := hU.trans (Ext.upd hu6)
      replace hN := hN.ext hu6
      replace hBr := hBr.ext hu6
      rw [hes]
      refine L_op rfl (X_move (v := (.tuple #[(.agg (((encP (dsP p))).map byteV).toArray), (.int .i64 ((encE (dsP p))))])) rfl ?_)
      refine L_op rfl (X_extract (l := [(.agg (((encP (dsP p))).map byteV).toArray), (.int .i64 ((encE (dsP p))))]) (v := (.agg (((encP (dsP p))).map byteV).toArray)) rfl rfl ?_)
      refine L_op rfl (X_extract (l := [(.agg (((encP (dsP p))).map byteV).toArray), (.int .i64 ((encE (dsP p))))]) (v := (.int .i64 ((encE (dsP p))))) rfl rfl ?_)
      refine L_op rfl (X_alloc (z := zv24) (c := zc24.toArray) Zv24 rfl ?_)
      intro b7 w7 hn7
      have hbn7 := hn7.num; have hbs7 := hn7.size
      replace hB1 := hB1.ext hn7.ext
      replace hT := hT.ext hn7.ext
      replace hU := hU.trans (Ext.upd hn7.ext)
      replace hN := hN.ext hn7.ext
      replace hBr := hBr.ext hn7.ext
      have hB7 := hn7.blk
      rw [zc24_eq] at hB7
      refine L_op0 (X_storeW (b := b7) (ys := (((encP (dsP p))).map byteV)) A24 rfl rfl (byteV_one _) (by rw [List.length_map]; exact (encP_len _)) hB7 (by rw [List.size_toArray]; exact (by rw [List.length_map]; exact List.length_replicate)) ?_)
      intro w8 hu8 hb8
      have hz8 := hu8.size
      replace hB1 := hB1.upd hu8 fun h => by have h : b1 = b7 := h; omega
      replace hT := hT.upd hu8 fun i h1 h2 h => by have h : i = b7 := h; omega
      replace hU := hU.trans (hu8.mono fun i _ h => by have h : i = b7 := h; show n0 ≤ i; omega)
      replace hN := hN.upd hu8 fun i h1 h2 h => by have h : i = b7 := h; omega
      replace hBr := hBr.upd hu8 fun h => by have h : br = b7 := h; omega
      replace hB7 := hb8
      refine L_op rfl (X_assign (v := (.int .i64 ((encE (dsP p))))) rfl ?_)
      refine L_nil ?_
      refine T_n ?_
      refine W_seq ?_
      refine W_reg ?_
      refine L_op rfl (X_move (v := (ptr br (0))) rfl ?_)
      refine L_op rfl (X_nilCheck (v := (ptr br (0))) rfl ⟨_, _, rfl⟩ ?_)
      refine L_op rfl (X_fldP (b := br) (o := 0) (r := 1) Fd55_1 rfl rfl ?_)
      refine L_op rfl (X_load (p := (ptr br (1))) (v := (.int .i64 (e9))) T27 rfl (hBr.at1 rfl) ?_)
      by_cases hc9 : (e9 : Int) = (0)
      · refine L_op rfl (X_cmp (k := .i64) (a := e9) (b := 0) (r := true) rfl rfl rfl (decide_eq_true (p := ((e9) : Int) = ((0) : Int)) (by omega)) ?_)
        refine L_op rfl (X_move (v := (.bool (true))) rfl ?_)
        refine L_gy (dj := 34) rfl rfl rfl (X_move (v := (.int .i64 ((encE (dsP p))))) rfl ?_)
        by_cases hc10 : ((encE (dsP p)) : Int) = (0)
        · refine L_gy (dj := 34) rfl rfl rfl (X_cmp (k := .i64) (a := (encE (dsP p))) (b := 0) (r := true) rfl rfl rfl (decide_eq_true (p := (((encE (dsP p))) : Int) = ((0) : Int)) (by omega)) ?_)
          refine L_op rfl (X_pick (t := true) (v := (.bool (true))) rfl rfl ?_)
          refine L_op rfl (X_move (v := (.bool (true))) rfl ?_)
          refine L_gy (dj := 38) rfl rfl rfl (X_loadA (p := (ptr b7 (0))) (xs := (((encP (dsP p))).map byteV)) A24 rfl hB7.atAll (by rw [List.length_map]; exact (encP_len _)) ?_)
          refine L_gy (dj := 38) rfl rfl rfl (X_loadA (p := (ptr b1 (0))) (xs := ((p).map byteV)) A24 rfl hB1.atAll (by rw [List.length_map]; exact hp) ?_)
          rcases Bool.eq_false_or_eq_true ((encP (dsP p)) == p) with hc11 | hc11
          · refine L_gy (dj := 38) rfl rfl rfl (X_eqA (n := 256) (l := (encP (dsP p))) (m := p) (r := true) Tryd.underlying24 Tryd.underlying5 (by kernel_rfl) (by kernel_rfl) (by kernel_rfl) rfl rfl ((encP_len _)) (hp) (.inl ⟨rfl, hc11⟩) ?_)
            refine L_op rfl (X_pick (t := true) (v := (.bool (true))) rfl rfl ?_)
            refine L_nil ?_
            refine T_n ?_
            refine W_ct rfl ?_
            refine W_reg ?_
            refine L_op rfl (X_assign (v := (.int .i64 (0))) rfl ?_)
            refine L_nil ?_
            refine T_n ?_
            refine W_exit ?_
            refine B_e rfl ?_
            refine T_e ?_
            refine B_x ?_
            refine T_n ?_
            refine W_seq ?_
            refine W_seq ?_
            refine W_reg ?_
            refine L_op rfl (X_move (v := (.int .i64 (0))) rfl ?_)
            refine L_op rfl (X_cmp (k := .i64) (a := 0) (b := 0) (r := false) rfl rfl rfl rfl ?_)
            refine L_nil ?_
            refine T_n ?_
            refine W_cf rfl ?_
            refine W_skip ?_
            refine T_n ?_
            refine W_seq ?_
            refine W_reg ?_
            refine L_op rfl (X_move (v := v6) rfl ?_)
            refine L_op rfl (X_move (v := (.int .i64 (0))) rfl ?_)
            refine L_op rfl (X_assign (v := v6) rfl ?_)
            refine L_op rfl (X_assign (v := (.int .i64 (0))) rfl ?_)
            refine L_nil ?_
            refine T_n ?_
            refine W_ret ?_
            refine S_r ?_
            have hok : DecOk p := ⟨by omega, by omega, by omega, eq_of_beq hc11⟩
            exact BQ_r (End_2 Tryd.results12 (v1 := v6) (v2 := .int .i64 0) rfl rfl ⟨v6, by rw [show decE p = 0 from if_pos hok], es, hN.mono (by omega) (by omega), by rw [show decL p = dsP p from if_pos hok]; exact hes, hU.own hn0⟩)
          · refine L_gy (dj := 38) rfl rfl rfl (X_eqA (n := 256) (l := (encP (dsP p))) (m := p) (r := false) Tryd.underlying24 Tryd.underlying5 (by kernel_rfl) (by kernel_rfl) (by kernel_rfl) rfl rfl ((encP_len _)) (hp) (.inl ⟨rfl, hc11⟩) ?_)
            refine L_op rfl (X_pick (t := true) (v := (.bool (false))) rfl rfl ?_)
            refine L_nil ?_
            refine T_n ?_
            refine W_cf rfl ?_
            refine W_skip ?_
            refine T_n ?_
            refine W_exit ?_
            refine B_e rfl ?_
            refine T_e ?_
            refine B_x ?_
            refine T_n ?_
            refine W_seq ?_
            refine W_seq ?_
            refine W_reg ?_
            refine L_op rfl (X_move (v := (.int .i64 (50))) rfl ?_)
            refine L_op rfl (X_cmp (k := .i64) (a := 50) (b := 0) (r := true) rfl rfl rfl rfl ?_)
            refine L_nil ?_
            refine T_n ?_
            refine W_ct rfl ?_
            refine W_seq ?_
            refine W_reg ?_
            refine L_op rfl (X_move (v := (.int .i64 (50))) rfl ?_)
            refine L_op rfl (X_assign (v := (.slice none 0 0)) rfl ?_)
            refine L_op rfl (X_assign (v := (.int .i64 (50))) rfl ?_)
            refine L_nil ?_
            refine T_n ?_
            refine W_ret ?_
            refine T_r ?_
            refine S_r ?_
            have hno : ¬ DecOk p := fun h => by obtain ⟨h1, h2, h3, h4⟩ := h; exact ne_of_beq_false hc11 h4
            exact BQ_r (End_2 Tryd.results12 (v1 := .slice none 0 0) (v2 := .int .i64 50) rfl rfl ⟨_, by rw [show decE p = 50 from if_neg hno], [], NOwn.nil _ _ _ _ _, by rw [show decL p = [] from if_neg hno]; rfl, hU.own hn0⟩)
        · refine L_gy (dj := 34) rfl rfl rfl (X_cmp (k := .i64) (a := (encE (dsP p))) (b := 0) (r := false) rfl rfl rfl (decide_eq_false (p := (((encE (dsP p))) : Int) = ((0) : Int)) (by omega)) ?_)
          refine L_op rfl (X_pick (t := true) (v := (.bool (false))) rfl rfl ?_)
          refine L_op rfl (X_move (v := (.bool (false))) rfl ?_)
          refine L_gn (dj := 38) (t := false) rfl rfl rfl rfl ?_
          refine L_gn (dj := 38) (t := false) rfl rfl rfl rfl ?_
          refine L_gn (dj := 38) (t := false) rfl rfl rfl rfl ?_
          refine L_op rfl (X_pick (t := false) (v := (.bool (false))) rfl rfl ?_)
          refine L_nil ?_
          refine T_n ?_
          refine W_cf rfl ?_
          refine W_skip ?_
          refine T_n ?_
          refine W_exit ?_
          refine B_e rfl ?_
          refine T_e ?_
          refine B_x ?_
          refine T_n ?_
          refine W_seq ?_
          refine W_seq ?_
          refine W_reg ?_
          refine L_op rfl (X_move (v := (.int .i64 (50))) rfl ?_)
          refine L_op rfl (X_cmp (k := .i64) (a := 50) (b := 0) (r := true) rfl rfl rfl rfl ?_)
          refine L_nil ?_
          refine T_n ?_
          refine W_ct rfl ?_
          refine W_seq ?_
          refine W_reg ?_
          refine L_op rfl (X_move (v := (.int .i64 (50))) rfl ?_)
          refine L_op rfl (X_assign (v := (.slice none 0 0)) rfl ?_)
          refine L_op rfl (X_assign (v := (.int .i64 (50))) rfl ?_)
          refine L_nil ?_
          refine T_n ?_
          refine W_ret ?_
          refine T_r ?_
          refine S_r ?_
          have hno : ¬ DecOk p := fun h => by obtain ⟨h1, h2, h3, h4⟩ := h; omega
          exact BQ_r (End_2 Tryd.results12 (v1 := .slice none 0 0) (v2 := .int .i64 50) rfl rfl ⟨_, by rw [show decE p = 50 from if_neg hno], [], NOwn.nil _ _ _ _ _, by rw [show decL p = [] from if_neg hno]; rfl, hU.own hn0⟩)
      · refine L_op rfl (X_cmp (k := .i64) (a := e9) (b := 0) (r := false) rfl rfl rfl (decide_eq_false (p := ((e9) : Int) = ((0) : Int)) (by omega)) ?_)
        refine L_op rfl (X_move (v := (.bool (false))) rfl ?_)
        refine L_gn (dj := 34) (t := false) rfl rfl rfl rfl ?_
        refine L_gn (dj := 34) (t := false) rfl rfl rfl rfl ?_
        refine L_op rfl (X_pick (t := false) (v := (.bool (false))) rfl rfl ?_)
        refine L_op rfl (X_move (v := (.bool (false))) rfl ?_)
        refine L_gn (dj := 38) (t := false) rfl rfl rfl rfl ?_
        refine L_gn (dj := 38) (t := false) rfl rfl rfl rfl ?_
        refine L_gn (dj := 38) (t := false) rfl rfl rfl rfl ?_
        refine L_op rfl (X_pick (t := false) (v := (.bool (false))) rfl rfl ?_)
        refine L_nil ?_
        refine T_n ?_
        refine W_cf rfl ?_
        refine W_skip ?_
        refine T_n ?_
        refine W_exit ?_
        refine B_e rfl ?_
        refine T_e ?_
        refine B_x ?_
        refine T_n ?_
        refine W_seq ?_
        refine W_seq ?_
        refine W_reg ?_
        refine L_op rfl (X_move (v := (.int .i64 (50))) rfl ?_)
        refine L_op rfl (X_cmp (k := .i64) (a := 50) (b := 0) (r := true) rfl rfl rfl rfl ?_)
        refine L_nil ?_
        refine T_n ?_
        refine W_ct rfl ?_
        refine W_seq ?_
        refine W_reg ?_
        refine L_op rfl (X_move (v := (.int .i64 (50))) rfl ?_)
        refine L_op rfl (X_assign (v := (.slice none 0 0)) rfl ?_)
        refine L_op rfl (X_assign (v := (.int .i64 (50))) rfl ?_)
        refine L_nil ?_
        refine T_n ?_
        refine W_ret ?_
        refine T_r ?_
        refine S_r ?_
        have hno : ¬ DecOk p := fun h => by obtain ⟨h1, h2, h3, h4⟩ := h; exact dec_err (p := p) (by rcases he9 with h | h; (· exact absurd h (by omega)); (· rw [← h]; omega)) ⟨h1, h2, h3, h4⟩
        exact BQ_r (End_2 Tryd.results12 (v1 := .slice none 0 0) (v2 := .int .i64 50) rfl rfl ⟨_, by rw [show decE p = 50 from if_neg hno], [], NOwn.nil _ _ _ _ _, by rw [show decL p = [] from if_neg hno]; rfl, hU.own hn0⟩)
    · refine L_gy (dj := 10) rfl rfl rfl (X_cmp (k := .u8) (a := (((p.getD 1 0).toNat : Nat) : Int)) (b := 6) (r := false) rfl rfl rfl (decide_eq_false (p := (((((p.getD 1 0).toNat : Nat) : Int)) : Int) ≤ ((6) : Int)) (by omega)) ?_)
      refine L_op rfl (X_pick (t := true) (v := (.bool (false))) rfl rfl ?_)
      refine L_nil ?_
      refine T_n ?_
      refine W_cf rfl ?_
      refine W_exit ?_
      refine T_e ?_
      refine T_e ?_
      refine B_x ?_
      refine T_n ?_
      refine W_seq ?_
      refine W_seq ?_
      refine W_reg ?_
      refine L_op rfl (X_move (v := (.int .i64 (50))) rfl ?_)
      refine L_op rfl (X_cmp (k := .i64) (a := 50) (b := 0) (r := true) rfl rfl rfl rfl ?_)
      refine L_nil ?_
      refine T_n ?_
      refine W_ct rfl ?_
      refine W_seq ?_
      refine W_reg ?_
      refine L_op rfl (X_move (v := (.int .i64 (50))) rfl ?_)
      refine L_op rfl (X_assign (v := (.slice none 0 0)) rfl ?_)
      refine L_op rfl (X_assign (v := (.int .i64 (50))) rfl ?_)
      refine L_nil ?_
      refine T_n ?_
      refine W_ret ?_
      refine T_r ?_
      refine S_r ?_
      have hno : ¬ DecOk p := fun h => by obtain ⟨h1, h2, h3, h4⟩ := h; omega
      exact BQ_r (End_2 Tryd.results12 (v1 := .slice none 0 0) (v2 := .int .i64 50) rfl rfl ⟨_, by rw [show decE p = 50 from if_neg hno], [], NOwn.nil _ _ _ _ _, by rw [show decL p = [] from if_neg hno]; rfl, hU.own hn0⟩)
  · refine L_op rfl (X_cmp (k := .u8) (a := (((p.getD 0 0).toNat : Nat) : Int)) (b := 1) (r := false) rfl rfl rfl (decide_eq_false (p := (((((p.getD 0 0).toNat : Nat) : Int)) : Int) = ((1) : Int)) (by omega)) ?_)
    refine L_op rfl (X_move (v := (.bool (false))) rfl ?_)
    refine L_gn (dj := 10) (t := false) rfl rfl rfl rfl ?_
    refine L_gn (dj := 10) (t := false) rfl rfl rfl rfl ?_
    refine L_gn (dj := 10) (t := false) rfl rfl rfl rfl ?_
    refine L_op rfl (X_pick (t := false) (v := (.bool (false))) rfl rfl ?_)
    refine L_nil ?_
    refine T_n ?_
    refine W_cf rfl ?_
    refine W_exit ?_
    refine T_e ?_
    refine T_e ?_
    refine B_x ?_
    refine T_n ?_
    refine W_seq ?_
    refine W_seq ?_
    refine W_reg ?_
    refine L_op rfl (X_move (v := (.int .i64 (50))) rfl ?_)
    refine L_op rfl (X_cmp (k := .i64) (a := 50) (b := 0) (r := true) rfl rfl rfl rfl ?_)
    refine L_nil ?_
    refine T_n ?_
    refine W_ct rfl ?_
    refine W_seq ?_
    refine W_reg ?_
    refine L_op rfl (X_move (v := (.int .i64 (50))) rfl ?_)
    refine L_op rfl (X_assign (v := (.slice none 0 0)) rfl ?_)
    refine L_op rfl (X_assign (v := (.int .i64 (50))) rfl ?_)
    refine L_nil ?_
    refine T_n ?_
    refine W_ret ?_
    refine T_r ?_
    refine S_r ?_
    have hno : ¬ DecOk p := fun h => by obtain ⟨h1, h2, h3, h4⟩ := h; omega
    exact BQ_r (End_2 Tryd.results12 (v1 := .slice none 0 0) (v2 := .int .i64 50) rfl rfl ⟨_, by rw [show decE p = 50 from if_neg hno], [], NOwn.nil _ _ _ _ _, by rw [show decL p = [] from if_neg hno]; rfl, hU.own hn0⟩)
end Go.Proofs.YtmddmghgkkjbiaaDoor
