/-
  The references of chapter 06: Decode. (Printed by wip/gen/t06u.py of this repo.)
-/
import Derived.Test.YtmddmghgkkjbiaaDoorRefsD
namespace Go.Proofs.YtmddmghgkkjbiaaDoor
open Go Go.SL Go.Proofs
set_option linter.unusedVariables false

/-- what stands behind a page's items -/
def tlP (p : List UInt8) : List UInt8 := List.replicate (256 - (encF (dsP p) (dsP p).length).length) 0
theorem decok_run {p : List UInt8} (h : DecOk p) : RightI (dsP p) ∧ (p.getD 1 0).toNat = (dsP p).length ∧ p.drop 2 = (dsP p).flatMap putI ++ tlP p := by
  have hR := encE_zero h.2.2.1
  have h4 := h.2.2.2
  have h5 : p = 1 :: UInt8.ofNat (dsP p).length :: ((dsP p).flatMap putI ++ tlP p) := by
    rw [show encP (dsP p) = encI (dsP p) from if_pos hR, encI_eq hR] at h4
    exact h4.symm
  have hn := hR.1
  have e1 : p.getD 1 0 = UInt8.ofNat (dsP p).length := (congrArg (fun l => List.getD l 1 0) h5).trans rfl
  have e2 : p.drop 2 = (dsP p).flatMap putI ++ tlP p := (congrArg (fun l => List.drop 2 l) h5).trans rfl
  exact ⟨hR, by rw [e1, UInt8.toNat_ofNat']; omega, e2⟩
abbrev DRun (p : List UInt8) (fs : List IE) (bi : List UInt8) (i : Nat) : Prop := DecOk p → dsI fs = (dsP p).take i ∧ bi = ((dsP p).drop i).flatMap putI ++ tlP p
theorem drun_step {p : List UInt8} {fs : List IE} {e : IE} {bi : List UInt8} {i : Nat} (hi : i < (p.getD 1 0).toNat) (hd : DRun p fs bi i) (he : e.2.2 = itD bi) : DRun p (fs ++ [e]) (itT bi) (i + 1) ∧ (DecOk p → itB bi = true) := by
  have key : DecOk p → (dsI (fs ++ [e]) = (dsP p).take (i + 1) ∧ itT bi = ((dsP p).drop (i + 1)).flatMap putI ++ tlP p) ∧ itB bi = true := by
    intro h
    obtain ⟨hR, hn, _⟩ := decok_run h
    obtain ⟨h1, h2⟩ := hd h
    have hil : i < (dsP p).length := by omega
    have hm : (dsP p)[i] ∈ dsP p := List.getElem_mem hil
    have h3 : bi = putI (dsP p)[i] ++ (((dsP p).drop (i + 1)).flatMap putI ++ tlP p) := by
      rw [h2, List.drop_eq_getElem_cons hil, List.flatMap_cons, List.append_assoc]
    obtain ⟨g1, g2, g3⟩ := it_of (right_mem hR _ hm) (items_ok _ _ _ hm) (((dsP p).drop (i + 1)).flatMap putI ++ tlP p)
    rw [← h3] at g1 g2 g3
    refine ⟨⟨?_, g2⟩, g3⟩
    unfold dsI at h1 ⊢
    rw [List.map_append, h1, List.take_add_one, List.getElem?_eq_getElem hil, List.map_cons, he, g1]; rfl
  exact ⟨fun h => (key h).1, fun h => (key h).2⟩
theorem drun_all {p : List UInt8} {fs : List IE} {bi : List UInt8} {i : Nat} (hi : i = (p.getD 1 0).toNat) (hd : DRun p fs bi i) (h : DecOk p) : dsI fs = dsP p := by
  obtain ⟨_, hn, _⟩ := decok_run h
  rw [(hd h).1, hi, hn, List.take_length]
theorem dec_back {p : List UInt8} {ds : List ID} (h1 : encE ds = 0) (h2 : encP ds = p) (h3 : ∀ d ∈ ds, ItOk d) : DecOk p ∧ dsP p = ds := by
  have hR := encE_zero h1
  have h4 := dec_of hR h3
  rwa [← show encP ds = encI ds from if_pos hR, h2] at h4
theorem ok_step {fs : List IE} {e : IE} {bi : List UInt8} (h : ∀ d ∈ dsI fs, ItOk d) (he : e.2.2 = itD bi) : ∀ d ∈ dsI (fs ++ [e]), ItOk d := by
  intro d hd
  unfold dsI at hd
  rw [List.map_append] at hd
  rcases List.mem_append.1 hd with h1 | h1
  · exact h d h1
  · have h2 : d = e.2.2 := by simpa using h1
    rw [h2, he]; exact itD_ok _

theorem c_decodeIR (p : List UInt8) (w : World) (hp : p.length = 256) : CT Tryd.prog 17 #[(.agg ((p).map byteV).toArray)] w fun v w' => ∃ s, v = .tuple #[s, .int .i64 (decE p)] ∧ ∃ es, NOwn LT w' 43 5 w.heap.size w'.heap.size s es ∧ dsI es = decL p ∧ Ext w w' := by
  obtain ⟨n0, hn0⟩ : ∃ n, n = w.heap.size := ⟨_, rfl⟩
  have hU : Upd (fun i => n0 ≤ i) w w := Upd.refl _ _
  refine CT_of Tryd.func17 rfl rfl rfl ?_
  refine W_seq ?_
  refine W_reg ?_
  refine L_op rfl (X_box (v := (.agg ((p).map byteV).toArray)) (c := ((p).map byteV).toArray) rfl rfl ?_)
  intro b1 w1 hn1
  have hbn1 := hn1.num; have hbs1 := hn1.size
  replace hU := hU.trans (Ext.upd hn1.ext)
  have hB1 := hn1.blk
  refine L_op rfl (X_assign (v := (.slice none 0 0)) rfl ?_)
  refine L_op rfl (X_assign (v := (.int .i64 (0))) rfl ?_)
  refine L_nil ?_
  refine T_n ?_
  refine W_seq ?_
  refine W_seq ?_
  refine W_reg ?_
  refine L_op rfl (X_idxAP (len := 256) (sz := 1) (b := b1) (o := 0) (k := .i64) (i := 0) (r := 0) Tryd.underlying24 Z5 rfl rfl (by omega) (by omega) rfl ?_)
  refine L_op rfl (X_load (p := (ptr b1 (0))) (v := byteV (p.getD 0 0)) T5 rfl (hB1.at1 (page_at hp (by decide))) ?_)
  by_cases hc2 : ((((p.getD 0 0).toNat : Nat) : Int) : Int) ≠ (1)
  · refine L_op rfl (X_cmp (k := .u8) (a := (((p.getD 0 0).toNat : Nat) : Int)) (b := 1) (r := true) rfl rfl rfl (decide_eq_true (p := (((((p.getD 0 0).toNat : Nat) : Int)) : Int) ≠ ((1) : Int)) (by omega)) ?_)
    refine L_op rfl (X_move (v := (.bool (true))) rfl ?_)
    refine L_gn (dj := 15) (t := true) rfl rfl rfl rfl ?_
    refine L_gn (dj := 15) (t := true) rfl rfl rfl rfl ?_
    refine L_gn (dj := 15) (t := true) rfl rfl rfl rfl ?_
    refine L_gn (dj := 15) (t := true) rfl rfl rfl rfl ?_
    refine L_op rfl (X_pick (t := true) (v := (.bool (true))) rfl rfl ?_)
    refine L_nil ?_
    refine T_n ?_
    refine W_ct rfl ?_
    refine W_seq ?_
    refine W_reg ?_
    refine L_op rfl (X_assign (v := (.slice none 0 0)) rfl ?_)
    refine L_op rfl (X_assign (v := (.int .i64 (50))) rfl ?_)
    refine L_nil ?_
    refine T_n ?_
    refine W_ret ?_
    refine T_r ?_
    have hno : ¬ DecOk p := fun h => by obtain ⟨h1, h2, _⟩ := h; omega
    exact BQ_r (End_2 Tryd.results17 (v1 := .slice none 0 0) (v2 := .int .i64 50) rfl rfl ⟨_, by rw [show decE p = 50 from if_neg hno], [], NOwn.nil _ _ _ _ _, by rw [show decL p = [] from if_neg hno]; rfl, hU.own hn0⟩)
  · refine L_op rfl (X_cmp (k := .u8) (a := (((p.getD 0 0).toNat : Nat) : Int)) (b := 1) (r := false) rfl rfl rfl (decide_eq_false (p := (((((p.getD 0 0).toNat : Nat) : Int)) : Int) ≠ ((1) : Int)) (by omega)) ?_)
    refine L_op rfl (X_move (v := (.bool (false))) rfl ?_)
    refine L_gy (dj := 15) rfl rfl rfl (X_idxAP (len := 256) (sz := 1) (b := b1) (o := 0) (k := .i64) (i := 1) (r := 1) Tryd.underlying24 Z5 rfl rfl (by omega) (by omega) rfl ?_)
    refine L_gy (dj := 15) rfl rfl rfl (X_load (p := (ptr b1 (1))) (v := byteV (p.getD 1 0)) T5 rfl (hB1.at1 (page_at hp (by decide))) ?_)
    refine L_gy (dj := 15) rfl rfl rfl (X_convInt (k := .u8) (a := (((p.getD 1 0).toNat : Nat) : Int)) (r := (((p.getD 1 0).toNat : Nat) : Int)) (by rw [Tryd.underlying5]; rfl) Tryd.underlying3 rfl (i64_wrap (by omega) (by have := (p.getD 1 0).toNat_lt; omega)) ?_)
    by_cases hc3 : ((((p.getD 1 0).toNat : Nat) : Int) : Int) > (6)
    · refine L_gy (dj := 15) rfl rfl rfl (X_cmp (k := .i64) (a := (((p.getD 1 0).toNat : Nat) : Int)) (b := 6) (r := true) rfl rfl rfl (decide_eq_true (p := ((6) : Int) < (((((p.getD 1 0).toNat : Nat) : Int)) : Int)) (by omega)) ?_)
      refine L_op rfl (X_pick (t := false) (v := (.bool (true))) rfl rfl ?_)
      refine L_nil ?_
      refine T_n ?_
      refine W_ct rfl ?_
      refine W_seq ?_
      refine W_reg ?_
      refine L_op rfl (X_assign (v := (.slice none 0 0)) rfl ?_)
      refine L_op rfl (X_assign (v := (.int .i64 (50))) rfl ?_)
      refine L_nil ?_
      refine T_n ?_
      refine W_ret ?_
      refine T_r ?_
      have hno : ¬ DecOk p := fun h => by obtain ⟨h1, h2, _⟩ := h; omega
      exact BQ_r (End_2 Tryd.results17 (v1 := .slice none 0 0) (v2 := .int .i64 50) rfl rfl ⟨_, by rw [show decE p = 50 from if_neg hno], [], NOwn.nil _ _ _ _ _, by rw [show decL p = [] from if_neg hno]; rfl, hU.own hn0⟩)
    · refine L_gy (dj := 15) rfl rfl rfl (X_cmp (k := .i64) (a := (((p.getD 1 0).toNat : Nat) : Int)) (b := 6) (r := false) rfl rfl rfl (decide_eq_false (p := ((6) : Int) < (((((p.getD 1 0).toNat : Nat) : Int)) : Int)) (by omega)) ?_)
      refine L_op rfl (X_pick (t := false) (v := (.bool (false))) rfl rfl ?_)
      refine L_nil ?_
      refine T_n ?_
      refine W_cf rfl ?_
      refine W_skip ?_
      refine T_n ?_
      refine W_seq ?_
      refine W_reg ?_
      refine L_op rfl (X_assign (v := (.slice none 0 0)) rfl ?_)
      refine L_nil ?_
      refine T_n ?_
      refine W_seq ?_
      refine W_reg ?_
      refine L_op rfl (X_sliceAL (len := 256) (sz := 1) (b := b1) (l := 2) (h' := 256) (kl := .i64) (kh := .i64) Tryd.underlying24 Z5 rfl rfl rfl (by omega) (by omega) ?_)
      have hR := (hB1.rdL (n := 256) (hp) (by decide) (lo := 2) (hi := 256) (by omega) (by omega) (m := (p.drop 2)) (page_rest hp))
      have hR_b : ∀ b, rbk (cutv (.slice (some ⟨b1, 0, none⟩) 256 256) 1 (2) (256)) = some b → b = b1 := fun b hb => (Option.some.inj (show some b1 = some b from hb)).symm
      refine L_op rfl (X_assign (v := (cutv (.slice (some ⟨b1, 0, none⟩) 256 256) 1 (2) (256))) rfl ?_)
      refine L_nil ?_
      refine T_n ?_
      refine W_seq ?_
      refine W_seq ?_
      refine W_reg ?_
      refine L_op rfl (X_assign (v := (.int .i64 (0))) rfl ?_)
      refine L_nil ?_
      refine T_n ?_
      refine W_block ?_
      refine W_loop (α := Nat × Value × List IE × Value × List UInt8) [2, 3, 4, 5, 6, 7, 8, 9, 22, 23, 24, 25, 26, 27, 28, 29, 30, 31, 32, 33, 34, 35, 36, 37, 38, 39, 40, 41] (fun ⟨i, u, fs, r, bi⟩ => [(6, (.int .i64 (((i : Nat) : Int)))), (4, u), (5, r)]) (fun ⟨i, u, fs, r, bi⟩ w_ => i ≤ (p.getD 1 0).toNat ∧ fs.length = i ∧ (∀ d ∈ dsI fs, ItOk d) ∧ DRun p fs bi i ∧ NOwn LT w_ 43 5 (n0 + 1) w_.heap.size u fs ∧ Rd w_ 1 r bi.length (bi.map byteV) ∧ (∀ b, rbk r = some b → b = b1) ∧ Blk w_ b1 (p.map byteV).toArray 24 ∧ Upd (fun i => n0 ≤ i) w w_) (fun ⟨i, u, fs, r, bi⟩ => (p.getD 1 0).toNat - i) ⟨rfl, (0, .slice none 0 0, [], (cutv (.slice (some ⟨b1, 0, none⟩) 256 256) 1 (2) (256)), p.drop 2), ⟨Nat.zero_le _, rfl, fun d hd => (by cases hd), fun h => ⟨rfl, (decok_run h).2.2⟩, NOwn.nil _ _ _ _ _, hR, hR_b, hB1, hU⟩, Out.refl _ _, ⟨rfl, rfl, rfl, trivial⟩⟩ ?_
      rintro ⟨i, u, fs, r, bi⟩ w5 _ ⟨hil, hfl, hok_, hrun, hN, hR, hR_b, hB1, hU⟩
      have hsz_ := hU.size
      have hb1l := hB1.lt
      obtain ⟨s0, hs0⟩ : ∃ n, n = w5.heap.size := ⟨_, rfl⟩
      rw [← hs0] at hN
      have hp8 := (p.getD 1 0).toNat_lt
      refine W_seq ?_
      refine W_seq ?_
      refine W_reg ?_
      refine L_op rfl (X_move (v := (.int .i64 (((i : Nat) : Int)))) rfl ?_)
      refine L_op rfl (X_idxAP (len := 256) (sz := 1) (b := b1) (o := 0) (k := .i64) (i := 1) (r := 1) Tryd.underlying24 Z5 rfl rfl (by omega) (by omega) rfl ?_)
      refine L_op rfl (X_load (p := (ptr b1 (1))) (v := byteV (p.getD 1 0)) T5 rfl (hB1.at1 (page_at hp (by decide))) ?_)
      refine L_op rfl (X_convInt (k := .u8) (a := (((p.getD 1 0).toNat : Nat) : Int)) (r := (((p.getD 1 0).toNat : Nat) : Int)) (by rw [Tryd.underlying5]; rfl) Tryd.underlying3 rfl (i64_wrap (by omega) (by have := (p.getD 1 0).toNat_lt; omega)) ?_)
      by_cases hc6 : (((i : Nat) : Int) : Int) < ((((p.getD 1 0).toNat : Nat) : Int))
      · refine L_op rfl (X_cmp (k := .i64) (a := ((i : Nat) : Int)) (b := (((p.getD 1 0).toNat : Nat) : Int)) (r := true) rfl rfl rfl (decide_eq_true (p := ((((i : Nat) : Int)) : Int) < (((((p.getD 1 0).toNat : Nat) : Int)) : Int)) (by omega)) ?_)
        have hiN : i < (p.getD 1 0).toNat := by omega
        refine L_nil ?_
        refine T_n ?_
        refine W_ct rfl ?_
        refine W_skip ?_
        refine T_n ?_
        refine W_seq ?_
        refine W_block ?_
        refine W_seq ?_
        refine W_reg ?_
        refine L_op rfl (X_move (v := r) rfl ?_)
        obtain ⟨sk, hsk⟩ : ∃ n, n = w5.heap.size := ⟨_, rfl⟩
        refine L_op rfl (X_fn (vs := [r]) en36 rfl (CT.mono (c_itemR r bi _ hR) ?_))
        rintro _ w7 ⟨e, r2, rfl, he2, hsub, hR2, hrb2, hu7⟩
        have hz7 := hu7.size
        rw [← hsk] at hsub
        replace hN := hN.ext hu7
        replace hB1 := hB1.ext hu7
        replace hU := hU.trans (Ext.upd hu7)
        have hKo := (hsub (e.1, e.2.2.1) (by simp [LT])).1
        have hVo := (hsub (e.2.1, e.2.2.2.1) (by simp [LT])).1
        have hKo_c : ∀ b, obk e.1 = some b → sk ≤ b ∧ b < w7.heap.size := fun b hb => hKo.lt hb
        have hVo_c : ∀ b, obk e.2.1 = some b → sk ≤ b ∧ b < w7.heap.size := fun b hb => hVo.lt hb
        have hR2_b : ∀ b, rbk r2 = some b → b = b1 := fun b hb => hR_b b (hrb2 b hb)
        obtain ⟨hrun2, hbt⟩ := drun_step hiN hrun he2
        rcases Bool.eq_false_or_eq_true (itB bi) with hs8 | hs8
        · rw [hs8]
          refine L_op rfl (X_move (v := (.tuple #[(.agg (itC e).toArray), r2, (.bool (true))])) rfl ?_)
          refine L_op rfl (X_extract (l := [(.agg (itC e).toArray), r2, (.bool (true))]) (v := (.agg (itC e).toArray)) rfl rfl ?_)
          refine L_op rfl (X_extract (l := [(.agg (itC e).toArray), r2, (.bool (true))]) (v := r2) rfl rfl ?_)
          refine L_op rfl (X_extract (l := [(.agg (itC e).toArray), r2, (.bool (true))]) (v := (.bool (true))) rfl rfl ?_)
          refine L_op rfl (X_alloc (z := (.agg #[(.slice none 0 0), (.slice none 0 0), (.int .u8 (0)), (.int .u16 (0)), (.int .u16 (0)), (.int .u32 (0)), (.int .u64 (0)), (.int .u16 (0))])) (c := #[(.slice none 0 0), (.slice none 0 0), (.int .u8 (0)), (.int .u16 (0)), (.int .u16 (0)), (.int .u32 (0)), (.int .u64 (0)), (.int .u16 (0))]) Zv43 rfl ?_)
          intro b9 w9 hn9
          have hbn9 := hn9.num; have hbs9 := hn9.size
          replace hN := hN.ext hn9.ext
          replace hB1 := hB1.ext hn9.ext
          replace hU := hU.trans (Ext.upd hn9.ext)
          replace hKo := hKo.ext hn9.ext
          replace hVo := hVo.ext hn9.ext
          replace hR2 := hR2.ext hn9.ext
          have hB9 := hn9.blk
          refine L_op0 (X_storeW (b := b9) (ys := itC e) A43 rfl rfl (itC_one hKo.sv.one hVo.sv.one) rfl hB9 rfl ?_)
          intro w10 hu10 hb10
          have hz10 := hu10.size
          replace hN := hN.upd hu10 fun i h1 h2 h => by have h : i = b9 := h; omega
          replace hB1 := hB1.upd hu10 fun h => by have h : b1 = b9 := h; omega
          replace hU := hU.trans (hu10.mono fun i _ h => by have h : i = b9 := h; show n0 ≤ i; omega)
          replace hKo := hKo.upd hu10 fun i hi h => by have hi := hKo_c _ hi; have h : i = b9 := h; omega
          replace hVo := hVo.upd hu10 fun i hi h => by have hi := hVo_c _ hi; have h : i = b9 := h; omega
          replace hR2 := hR2.upd hu10 fun i hi h => by have hi := hR2_b _ hi; have h : i = b9 := h; omega
          replace hB9 := hb10
          refine L_op rfl (X_assign (v := r2) rfl ?_)
          refine L_op rfl (X_assign (v := (.bool (true))) rfl ?_)
          refine L_nil ?_
          refine T_n ?_
          refine W_seq ?_
          refine W_seq ?_
          refine W_reg ?_
          refine L_op rfl (X_move (v := (.bool (true))) rfl ?_)
          refine L_op rfl (X_not (b := true) (r := false) rfl rfl ?_)
          refine L_nil ?_
          refine T_n ?_
          refine W_cf rfl ?_
          refine W_skip ?_
          refine T_n ?_
          refine W_seq ?_
          refine W_reg ?_
          refine L_op rfl (X_move (v := u) rfl ?_)
          refine L_op rfl (X_loadA (p := (ptr b9 (0))) (xs := itC e) A43 rfl hB9.atAll rfl ?_)
          refine L_op rfl (X_buildSliceL (vs := [.agg (itC e).toArray]) (c := itC e) S22 (by decide) rfl rfl (List.forall_mem_cons.2 ⟨rfl, fun _ h => by cases h⟩) rfl ?_)
          intro bq wq hnq
          have hbnq := hnq.num; have hbsq := hnq.size
          replace hN := hN.ext hnq.ext
          replace hB1 := hB1.ext hnq.ext
          replace hU := hU.trans (Ext.upd hnq.ext)
          replace hKo := hKo.ext hnq.ext
          replace hVo := hVo.ext hnq.ext
          replace hR2 := hR2.ext hnq.ext
          replace hB9 := hB9.ext hnq.ext
          have hBq := hnq.blk
          refine L_op rfl (X_append (B := n0 + 1) (n := fs.length) (s := u) (x := (.slice (some ⟨bq, 0, none⟩) 1 1)) S22 ⟨_, Tryd.underlying22⟩ rfl rfl hN.1 (m := 1) (ys := itC e) (hBq.rd (o := 0) (n := 1) (c := 1) (sz := 8) (by decide) (by decide) rfl (fun j u hj => by rw [Nat.zero_add]; simpa using hj)) (itC_one hKo.sv.one hVo.sv.one) (by unfold maxLen; omega) (by omega) (by omega) ?_)
          intro v5 w5 hO5 hu5 ho5
          have hz5 := hu5.size
          have hN5 := NOwn.push (L := LT) (e := e) (hi' := wq.heap.size) (by decide) hN hO5 hu5 (fun s hs => by have h1 : s = (e.1, e.2.2.1) ∨ s = (e.2.1, e.2.2.2.1) := (by simpa [LT] using hs); rcases h1 with rfl | rfl; (· exact ⟨hKo.more (by omega), fun b hb => (hKo.lt hb).2⟩); (· exact ⟨hVo.more (by omega), fun b hb => (hVo.lt hb).2⟩)) (by omega) (by omega)
          replace hB1 := hB1.upd hu5 fun h => by have := (hN.1.lt h).1; omega
          replace hR2 := hR2.upd hu5 fun i hi h => by have h1 := hR2_b i hi; have := (hN.1.lt h).1; omega
          replace hU := hU.trans (hu5.mono fun i _ h => by have := (hN.1.lt h).1; show n0 ≤ i; omega)
          refine L_op rfl (X_assign (v := v5) rfl ?_)
          refine L_nil ?_
          refine T_n ?_
          refine W_reg ?_
          refine L_op rfl (X_move (v := r2) rfl ?_)
          refine L_op rfl (X_assign (v := r2) rfl ?_)
          refine L_nil ?_
          refine B_n ?_
          refine T_n ?_
          refine W_reg ?_
          refine L_op rfl (X_move (v := (.int .i64 (((i : Nat) : Int)))) rfl ?_)
          refine L_op rfl (X_arith (k := .i64) (a := ((i : Nat) : Int)) (b := 1) (r := ((i + 1 : Nat) : Int)) rfl rfl rfl (iadd64 (by omega) (by omega) (by omega)) ?_)
          refine L_op rfl (X_assign (v := (.int .i64 (((i + 1 : Nat) : Int)))) rfl ?_)
          refine L_nil ?_
          refine T_n ?_
          exact ⟨rfl, (i + 1, v5, fs ++ [e], r2, itT bi), ⟨⟨hiN, by rw [List.length_append, hfl]; rfl, ok_step hok_ he2, hrun2, hN5, hR2, hR2_b, hB1, hU⟩, (by show (p.getD 1 0).toNat - (i + 1) < (p.getD 1 0).toNat - i; omega)⟩, (Out.mk rfl), ⟨rfl, rfl, rfl, trivial⟩⟩
        · rw [hs8]
          refine L_op rfl (X_move (v := (.tuple #[(.agg (itC e).toArray), r2, (.bool (false))])) rfl ?_)
          refine L_op rfl (X_extract (l := [(.agg (itC e).toArray), r2, (.bool (false))]) (v := (.agg (itC e).toArray)) rfl rfl ?_)
          refine L_op rfl (X_extract (l := [(.agg (itC e).toArray), r2, (.bool (false))]) (v := r2) rfl rfl ?_)
          refine L_op rfl (X_extract (l := [(.agg (itC e).toArray), r2, (.bool (false))]) (v := (.bool (false))) rfl rfl ?_)
          refine L_op rfl (X_alloc (z := (.agg #[(.slice none 0 0), (.slice none 0 0), (.int .u8 (0)), (.int .u16 (0)), (.int .u16 (0)), (.int .u32 (0)), (.int .u64 (0)), (.int .u16 (0))])) (c := #[(.slice none 0 0), (.slice none 0 0), (.int .u8 (0)), (.int .u16 (0)), (.int .u16 (0)), (.int .u32 (0)), (.int .u64 (0)), (.int .u16 (0))]) Zv43 rfl ?_)
          intro b11 w11 hn11
          have hbn11 := hn11.num; have hbs11 := hn11.size
          replace hN := hN.ext hn11.ext
          replace hB1 := hB1.ext hn11.ext
          replace hU := hU.trans (Ext.upd hn11.ext)
          replace hKo := hKo.ext hn11.ext
          replace hVo := hVo.ext hn11.ext
          replace hR2 := hR2.ext hn11.ext
          have hB11 := hn11.blk
          refine L_op0 (X_storeW (b := b11) (ys := itC e) A43 rfl rfl (itC_one hKo.sv.one hVo.sv.one) rfl hB11 rfl ?_)
          intro w12 hu12 hb12
          have hz12 := hu12.size
          replace hN := hN.upd hu12 fun i h1 h2 h => by have h : i = b11 := h; omega
          replace hB1 := hB1.upd hu12 fun h => by have h : b1 = b11 := h; omega
          replace hU := hU.trans (hu12.mono fun i _ h => by have h : i = b11 := h; show n0 ≤ i; omega)
          replace hKo := hKo.upd hu12 fun i hi h => by have hi := hKo_c _ hi; have h : i = b11 := h; omega
          replace hVo := hVo.upd hu12 fun i hi h => by have hi := hVo_c _ hi; have h : i = b11 := h; omega
          replace hR2 := hR2.upd hu12 fun i hi h => by have hi := hR2_b _ hi; have h : i = b11 := h; omega
          replace hB11 := hb12
          refine L_op rfl (X_assign (v := r2) rfl ?_)
          refine L_op rfl (X_assign (v := (.bool (false))) rfl ?_)
          refine L_nil ?_
          refine T_n ?_
          refine W_seq ?_
          refine W_seq ?_
          refine W_reg ?_
          refine L_op rfl (X_move (v := (.bool (false))) rfl ?_)
          refine L_op rfl (X_not (b := false) (r := true) rfl rfl ?_)
          refine L_nil ?_
          refine T_n ?_
          refine W_ct rfl ?_
          refine W_seq ?_
          refine W_reg ?_
          refine L_op rfl (X_assign (v := (.slice none 0 0)) rfl ?_)
          refine L_op rfl (X_assign (v := (.int .i64 (50))) rfl ?_)
          refine L_nil ?_
          refine T_n ?_
          refine W_ret ?_
          refine T_r ?_
          refine B_r ?_
          refine T_r ?_
          refine T_r ?_
          refine B_r ?_
          refine T_r ?_
          have hno : ¬ DecOk p := fun h => by have h9 := hbt h; rw [hs8] at h9; cases h9
          exact BQ_r (End_2 Tryd.results17 (v1 := .slice none 0 0) (v2 := .int .i64 50) rfl rfl ⟨_, by rw [show decE p = 50 from if_neg hno], [], NOwn.nil _ _ _ _ _, by rw [show decL p = [] from if_neg hno]; rfl, hU.own hn0⟩)
      · refine L_op rfl (X_cmp (k := .i64) (a := ((i : Nat) : Int)) (b := (((p.getD 1 0).toNat : Nat) : Int)) (r := false) rfl rfl rfl (decide_eq_false (p := ((((i : Nat) : Int)) : Int) < (((((p.getD 1 0).toNat : Nat) : Int)) : Int)) (by omega)) ?_)
        have hiN : i = (p.getD 1 0).toNat := by have := hil; omega
        have hpt := pts_of rfl hok_
        have hall := drun_all hiN hrun
        refine L_nil ?_
        refine T_n ?_
        refine W_cf rfl ?_
        refine W_exit ?_
        refine T_e ?_
        refine T_e ?_
        refine B_x ?_
        refine T_n ?_
        refine W_seq ?_
        refine W_reg ?_
        refine L_op rfl (X_move (v := u) rfl ?_)
        refine L_op rfl (X_fn (vs := [u]) en16 rfl (CT.mono (c_encodeIR u fs _ (n0 + 1) s0 (by omega) hN.rd hpt) ?_))
        rintro _ w13 ⟨rfl, hu13⟩
        have hz13 := hu13.size
        replace hN := hN.ext hu13
        replace hR := hR.ext hu13
        replace hB1 := hB1.ext hu13
        replace hU := hU.trans (Ext.upd hu13)
        refine L_op rfl (X_move (v := (.tuple #[(.agg (((encP (dsI fs))).map byteV).toArray), (.int .i64 ((encE (dsI fs))))])) rfl ?_)
        refine L_op rfl (X_extract (l := [(.agg (((encP (dsI fs))).map byteV).toArray), (.int .i64 ((encE (dsI fs))))]) (v := (.agg (((encP (dsI fs))).map byteV).toArray)) rfl rfl ?_)
        refine L_op rfl (X_extract (l := [(.agg (((encP (dsI fs))).map byteV).toArray), (.int .i64 ((encE (dsI fs))))]) (v := (.int .i64 ((encE (dsI fs))))) rfl rfl ?_)
        refine L_op rfl (X_alloc (z := zv24) (c := zc24.toArray) Zv24 rfl ?_)
        intro b14 w14 hn14
        have hbn14 := hn14.num; have hbs14 := hn14.size
        replace hN := hN.ext hn14.ext
        replace hR := hR.ext hn14.ext
        replace hB1 := hB1.ext hn14.ext
        replace hU := hU.trans (Ext.upd hn14.ext)
        have hB14 := hn14.blk
        rw [zc24_eq] at hB14
        refine L_op0 (X_storeW (b := b14) (ys := (((encP (dsI fs))).map byteV)) A24 rfl rfl (byteV_one _) (by rw [List.length_map]; exact (encP_len _)) hB14 (by rw [List.size_toArray]; exact (by rw [List.length_map]; exact List.length_replicate)) ?_)
        intro w15 hu15 hb15
        have hz15 := hu15.size
        replace hN := hN.upd hu15 fun i h1 h2 h => by have h : i = b14 := h; omega
        replace hR := hR.upd hu15 fun i hi h => by have hi := hR_b _ hi; have h : i = b14 := h; omega
        replace hB1 := hB1.upd hu15 fun h => by have h : b1 = b14 := h; omega
        replace hU := hU.trans (hu15.mono fun i _ h => by have h : i = b14 := h; show n0 ≤ i; omega)
        replace hB14 := hb15
        refine L_op rfl (X_assign (v := (.int .i64 ((encE (dsI fs))))) rfl ?_)
        refine L_nil ?_
        refine T_n ?_
        refine W_seq ?_
        refine W_seq ?_
        refine W_reg ?_
        refine L_op rfl (X_move (v := (.int .i64 ((encE (dsI fs))))) rfl ?_)
        by_cases hc16 : ((encE (dsI fs)) : Int) ≠ (0)
        · refine L_op rfl (X_cmp (k := .i64) (a := (encE (dsI fs))) (b := 0) (r := true) rfl rfl rfl (decide_eq_true (p := (((encE (dsI fs))) : Int) ≠ ((0) : Int)) (by omega)) ?_)
          refine L_op rfl (X_move (v := (.bool (true))) rfl ?_)
          refine L_gn (dj := 49) (t := true) rfl rfl rfl rfl ?_
          refine L_gn (dj := 49) (t := true) rfl rfl rfl rfl ?_
          refine L_gn (dj := 49) (t := true) rfl rfl rfl rfl ?_
          refine L_op rfl (X_pick (t := true) (v := (.bool (true))) rfl rfl ?_)
          refine L_nil ?_
          refine T_n ?_
          refine W_ct rfl ?_
          refine W_seq ?_
          refine W_reg ?_
          refine L_op rfl (X_assign (v := (.slice none 0 0)) rfl ?_)
          refine L_op rfl (X_assign (v := (.int .i64 (50))) rfl ?_)
          refine L_nil ?_
          refine T_n ?_
          refine W_ret ?_
          refine T_r ?_
          have hno : ¬ DecOk p := fun h => by have h9 := h.2.2.1; rw [← hall h] at h9; omega
          exact BQ_r (End_2 Tryd.results17 (v1 := .slice none 0 0) (v2 := .int .i64 50) rfl rfl ⟨_, by rw [show decE p = 50 from if_neg hno], [], NOwn.nil _ _ _ _ _, by rw [show decL p = [] from if_neg hno]; rfl, hU.own hn0⟩)
        · refine L_op rfl (X_cmp (k := .i64) (a := (encE (dsI fs))) (b := 0) (r := false) rfl rfl rfl (decide_eq_false (p := (((encE (dsI fs))) : Int) ≠ ((0) : Int)) (by omega)) ?_)
          refine L_op rfl (X_move (v := (.bool (false))) rfl ?_)
          refine L_gy (dj := 49) rfl rfl rfl (X_loadA (p := (ptr b14 (0))) (xs := (((encP (dsI fs))).map byteV)) A24 rfl hB14.atAll (by rw [List.length_map]; exact (encP_len _)) ?_)
          refine L_gy (dj := 49) rfl rfl rfl (X_loadA (p := (ptr b1 (0))) (xs := ((p).map byteV)) A24 rfl hB1.atAll (by rw [List.length_map]; exact hp) ?_)
          rcases Bool.eq_false_or_eq_true ((encP (dsI fs)) == p) with hc17 | hc17
          · refine L_gy (dj := 49) rfl rfl rfl (X_eqA (n := 256) (l := (encP (dsI fs))) (m := p) (r := false) Tryd.underlying24 Tryd.underlying5 (by kernel_rfl) (by kernel_rfl) (by kernel_rfl) rfl rfl ((encP_len _)) (hp) (.inr ⟨rfl, by rw [hc17]; rfl⟩) ?_)
            refine L_op rfl (X_pick (t := false) (v := (.bool (false))) rfl rfl ?_)
            refine L_nil ?_
            refine T_n ?_
            refine W_cf rfl ?_
            refine W_skip ?_
            refine T_n ?_
            refine W_seq ?_
            refine W_reg ?_
            refine L_op rfl (X_move (v := u) rfl ?_)
            refine L_op rfl (X_assign (v := u) rfl ?_)
            refine L_op rfl (X_assign (v := (.int .i64 (0))) rfl ?_)
            refine L_nil ?_
            refine T_n ?_
            refine W_ret ?_
            obtain ⟨hok, hds⟩ := dec_back (p := p) (ds := dsI fs) (by omega) (eq_of_beq hc17) hok_
            exact BQ_r (End_2 Tryd.results17 (v1 := u) (v2 := .int .i64 0) rfl rfl ⟨u, by rw [show decE p = 0 from if_pos hok], fs, hN.mono (by omega) (by omega), by rw [show decL p = dsP p from if_pos hok, hds], hU.own hn0⟩)
          · refine L_gy (dj := 49) rfl rfl rfl (X_eqA (n := 256) (l := (encP (dsI fs))) (m := p) (r := true) Tryd.underlying24 Tryd.underlying5 (by kernel_rfl) (by kernel_rfl) (by kernel_rfl) rfl rfl ((encP_len _)) (hp) (.inr ⟨rfl, by rw [hc17]; rfl⟩) ?_)
            refine L_op rfl (X_pick (t := false) (v := (.bool (true))) rfl rfl ?_)
            refine L_nil ?_
            refine T_n ?_
            refine W_ct rfl ?_
            refine W_seq ?_
            refine W_reg ?_
            refine L_op rfl (X_assign (v := (.slice none 0 0)) rfl ?_)
            refine L_op rfl (X_assign (v := (.int .i64 (50))) rfl ?_)
            refine L_nil ?_
            refine T_n ?_
            refine W_ret ?_
            refine T_r ?_
            have hno : ¬ DecOk p := fun h => by exact ne_of_beq_false hc17 (by rw [hall h]; exact h.2.2.2)
            exact BQ_r (End_2 Tryd.results17 (v1 := .slice none 0 0) (v2 := .int .i64 50) rfl rfl ⟨_, by rw [show decE p = 50 from if_neg hno], [], NOwn.nil _ _ _ _ _, by rw [show decL p = [] from if_neg hno]; rfl, hU.own hn0⟩)
end Go.Proofs.YtmddmghgkkjbiaaDoor
