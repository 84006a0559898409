/-
  The walk of VdevOff. (Printed by wip/gen/t03k.py of this repo.)
-/
import Derived.Test.YthongcaijgfojaaSame
namespace Go.Proofs.Ythongcaijgfojaa
open Go Go.SL Go.Proofs
set_option linter.unusedVariables false

theorem write_no {np : Nat} {cs : List Wr} {bs : List Int} {off : Bool} {n : Int} (p : Pg) {e : Int} (h : wrE np cs bs off n = e) (he : e ≠ 0) : writeC np cs bs off n p = cs := by unfold writeC; exact if_neg (by rw [h]; exact he)
theorem neB {w : World} {B e sz n b : Nat} {v : Value} {xs : List Value} {c : Array Value} {t : TypeId} (h : Own w B e sz v n xs) (hB : Blk w b c t) (ht : e ≠ t) (ho : obk v = some b) : False := by
  obtain ⟨cs, hc⟩ := h.block ho
  unfold Blk at hc hB
  rw [hc] at hB
  cases hB
  exact ht rfl
theorem wrE_bad {np : Nat} {cs : List Wr} {bs : List Int} {off : Bool} {n e : Int} (h : askE np cs bs off n = e) (he : e ≠ 0) : wrE np cs bs off n = e := by rw [wrE_ask (fun h2 => he (h.symm.trans h2.1))]; exact h
theorem readE_no {ps : List Pg} {cs : List Wr} {bs : List Int} {off : Bool} {n e : Int} (h : askE ps.length cs bs off n = e) (he : e ≠ 0) : readE ps cs bs off n = (default, e) := by rw [readE_bad (by rw [h]; exact he), h]
theorem mayD_off {np : Nat} {cs : List Wr} {bs : List Int} {off : Bool} (o : Bool) (h : MayD np cs bs off) : MayD np [] bs o := ⟨⟨h.1.1, h.1.2.1, Nat.zero_le _, fun _ => rfl⟩, fun j c hj => absurd hj (Nat.not_lt_zero j), h.2.2⟩
theorem mayD_on {np : Nat} {cs : List Wr} {bs : List Int} {off : Bool} (h : MayD np cs bs off) : MayD np cs bs false := ⟨⟨h.1.1, h.1.2.1, h.1.2.2.1, fun h => by cases h⟩, h.2.1, h.2.2⟩

set_option maxRecDepth 10000 in
set_option maxHeartbeats 2000000 in
theorem c_vdevOff (pv cv bv : Value) (ps : List Pg) (cs : List Wr) (bs : List Int) (off : Bool) (p : Pg) (w : World) (hp : NRd LP w 0 w.heap.size pv ps) (hc : NRd LW w 0 w.heap.size cv cs) (hb : NRd LI w 0 w.heap.size bv bs) : CT Try.prog 5 #[(.agg #[pv, cv, bv, (.bool (off))]), (pageV p)] w fun v w' => v = .bool true ∧ Ext w w' := by
  obtain ⟨n0, hn0⟩ : ∃ n, n = w.heap.size := ⟨_, rfl⟩
  have hU : Upd (fun i => n0 ≤ i) w w := Upd.refl _ _
  have hpl := hp.sv.len
  have hcl := hc.sv.len
  have hbl := hb.sv.len
  rw [← hn0] at hp hc hb
  refine CT_of Try.func5 rfl rfl rfl ?_
  refine W_seq ?_
  refine W_reg ?_
  refine L_op rfl (X_box (v := (.agg #[pv, cv, bv, (.bool (off))])) (c := ([pv, cv, bv, (.bool (off))]).toArray) rfl rfl ?_)
  intro b1 w1 hn1
  have hbn1 := hn1.num; have hbs1 := hn1.size
  replace hp := hp.ext hn1.ext
  replace hc := hc.ext hn1.ext
  replace hb := hb.ext hn1.ext
  replace hU := hU.trans (Ext.upd hn1.ext)
  have hB1 := hn1.blk
  refine L_op rfl (X_box (v := (pageV p)) (c := ((p.1).map byteV).toArray) rfl rfl ?_)
  intro b2 w2 hn2
  have hbn2 := hn2.num; have hbs2 := hn2.size
  replace hp := hp.ext hn2.ext
  replace hc := hc.ext hn2.ext
  replace hb := hb.ext hn2.ext
  replace hU := hU.trans (Ext.upd hn2.ext)
  replace hB1 := hB1.ext hn2.ext
  have hB2 := hn2.blk
  refine L_op rfl (X_assign (v := (.bool (false))) rfl ?_)
  refine L_nil ?_
  refine T_n ?_
  refine W_seq ?_
  refine W_seq ?_
  refine W_reg ?_
  refine L_op rfl (X_loadA (p := (ptr b1 (0))) (xs := [pv, cv, bv, (.bool (off))]) A26 rfl hB1.atAll rfl ?_)
  refine L_op rfl (X_buildSliceL (vs := [(.agg ([pv, cv, bv, (.bool (off))]).toArray)]) (c := [pv, cv, bv, (.bool (off))]) S41 (by decide) rfl rfl (List.forall_mem_cons.2 ⟨rfl, (fun _ h => by cases h)⟩) rfl ?_)
  intro b3 w3 hn3
  have hbn3 := hn3.num; have hbs3 := hn3.size
  replace hp := hp.ext hn3.ext
  replace hc := hc.ext hn3.ext
  replace hb := hb.ext hn3.ext
  replace hU := hU.trans (Ext.upd hn3.ext)
  replace hB1 := hB1.ext hn3.ext
  replace hB2 := hB2.ext hn3.ext
  have hB3 := hn3.blk
  refine L_op rfl (X_fn (vs := [(.slice (some ⟨b3, 0, none⟩) 1 1)]) en8 rfl (CT.mono (c_great _ [⟨pv, cv, bv, ps, cs, bs, off⟩] _ (hB3.rd (o := 0) (n := 1) (c := 1) (sz := 4) (by decide) (by decide) rfl (fun j u hj => by rw [Nat.zero_add]; simpa [LD, Dk.cel] using hj)) (List.forall_mem_cons.2 ⟨⟨hp.sv, hc.sv, hb.sv⟩, (fun _ h => by cases h)⟩)) ?_))
  rintro _ _ ⟨⟨gG, rfl, hgG⟩, rfl⟩
  rcases Bool.eq_false_or_eq_true (gG) with hc4 | hc4
  · rw [hc4]
    refine L_op rfl (X_move (v := (.bool (true))) rfl ?_)
    refine L_gn (dj := 17) (t := true) rfl rfl rfl rfl ?_
    refine L_gn (dj := 17) (t := true) rfl rfl rfl rfl ?_
    refine L_gn (dj := 17) (t := true) rfl rfl rfl rfl ?_
    refine L_op rfl (X_pick (t := true) (v := (.bool (true))) rfl rfl ?_)
    refine L_nil ?_
    refine T_n ?_
    refine W_ct rfl ?_
    refine W_seq ?_
    refine W_reg ?_
    refine L_op rfl (X_fn (vs := []) en10 rfl (CT.mono (c_wakes _) ?_))
    rintro vb5 w5 ⟨hvb5, hu5⟩
    have hz5 := hu5.size
    replace hp := hp.ext hu5
    replace hc := hc.ext hu5
    replace hb := hb.ext hu5
    replace hU := hU.trans (Ext.upd hu5)
    replace hB1 := hB1.ext hu5
    replace hB2 := hB2.ext hu5
    subst hvb5
    refine L_op rfl (X_assign (v := (.bool (true))) rfl ?_)
    refine L_nil ?_
    refine T_n ?_
    refine W_ret ?_
    refine T_r ?_
    exact BQ_r (End_1 Try.results5 (v := .bool true) rfl ⟨rfl, hU.own hn0⟩)
  · rw [hc4]
    refine L_op rfl (X_move (v := (.bool (false))) rfl ?_)
    refine L_gy (dj := 17) rfl rfl rfl (X_loadA (p := (ptr b1 (0))) (xs := [pv, cv, bv, (.bool (off))]) A26 rfl hB1.atAll rfl ?_)
    refine L_gy (dj := 17) rfl rfl rfl (X_fn (vs := [(.agg ([pv, cv, bv, (.bool (off))]).toArray)]) en9 rfl (CT.mono (c_mayR pv cv bv ps cs bs off _ 0 n0 hp hc hb) ?_))
    rintro _ w6 ⟨⟨gM, rfl, hgM⟩, hu6⟩
    have hz6 := hu6.size
    replace hp := hp.ext hu6
    replace hc := hc.ext hu6
    replace hb := hb.ext hu6
    replace hU := hU.trans (Ext.upd hu6)
    replace hB1 := hB1.ext hu6
    replace hB2 := hB2.ext hu6
    rcases Bool.eq_false_or_eq_true (gM) with hc7 | hc7
    · rw [hc7]
      refine L_gy (dj := 17) rfl rfl rfl (X_not (b := true) (r := false) rfl rfl ?_)
      refine L_op rfl (X_pick (t := false) (v := (.bool (false))) rfl rfl ?_)
      refine L_nil ?_
      refine T_n ?_
      refine W_cf rfl ?_
      refine W_skip ?_
      refine T_n ?_
      refine W_seq ?_
      have hgd := hgG hc4 _ (List.mem_singleton.2 rfl)
      have hM := hgM.1 hc7
      replace hgd : ps.length ≤ 300 ∧ cs.length ≤ 60 ∧ bs.length ≤ 300 := hgd
      have hMo := mayD_off true hM
      have hnp := hM.1.1
      have hz0 := askE_off (n := 0) hMo (by decide) (by omega) rfl
      have hzl : askE ps.length [] bs true ((ps.length : Nat) : Int) = 2 := askE_bad (fun h => by omega)
      have hzm : askE ps.length [] bs true (-1) = 2 := askE_bad (fun h => by omega)
      have hw0 := wrE_bad hz0 (by decide)
      have hwm := wrE_bad hzm (by decide)
      refine W_reg ?_
      refine L_op rfl (X_loadA (p := (ptr b1 (0))) (xs := [pv, cv, bv, (.bool (off))]) A26 rfl hB1.atAll rfl ?_)
      obtain ⟨s_o, hs_o⟩ : ∃ n, n = w6.heap.size := ⟨_, rfl⟩
      refine L_op rfl (X_fn (vs := [(.agg ([pv, cv, bv, (.bool (off))]).toArray)]) en16 rfl (CT.mono (c_copyR pv cv bv ps cs bs off _ 0 n0 (by omega) hp hc hb (by omega) (by omega) (by omega)) ?_))
      rintro _ w8 ⟨p_o, c_o, i_o, rfl, hPo, hCo, hIo, hu8⟩
      have hz8 := hu8.size
      replace hp := hp.ext hu8
      replace hc := hc.ext hu8
      replace hb := hb.ext hu8
      replace hU := hU.trans (Ext.upd hu8)
      replace hB1 := hB1.ext hu8
      replace hB2 := hB2.ext hu8
      obtain ⟨u_o, hu_o⟩ : ∃ n, n = w8.heap.size := ⟨_, rfl⟩
      rw [← hs_o, ← hu_o] at hPo hCo hIo
      refine L_op rfl (X_alloc (z := (.agg #[(.slice none 0 0), (.slice none 0 0), (.slice none 0 0), (.bool (false))])) (c := #[(.slice none 0 0), (.slice none 0 0), (.slice none 0 0), (.bool (false))]) Zv26 rfl ?_)
      intro b9 w9 hn9
      have hbn9 := hn9.num; have hbs9 := hn9.size
      replace hp := hp.ext hn9.ext
      replace hc := hc.ext hn9.ext
      replace hb := hb.ext hn9.ext
      replace hU := hU.trans (Ext.upd hn9.ext)
      replace hB1 := hB1.ext hn9.ext
      replace hB2 := hB2.ext hn9.ext
      replace hPo := hPo.ext hn9.ext
      replace hCo := hCo.ext hn9.ext
      replace hIo := hIo.ext hn9.ext
      have hB9 := hn9.blk
      refine L_op0 (X_storeW (b := b9) (ys := [p_o, c_o, i_o, (.bool (off))]) A26 rfl rfl (List.forall_mem_cons.2 ⟨(hPo.1.sv.one), (List.forall_mem_cons.2 ⟨(hCo.1.sv.one), (List.forall_mem_cons.2 ⟨(hIo.1.sv.one), (List.forall_mem_cons.2 ⟨rfl, (fun _ h => by cases h)⟩)⟩)⟩)⟩) rfl hB9 rfl ?_)
      intro w10 hu10 hb10
      have hz10 := hu10.size
      replace hp := hp.upd hu10 fun i h1 h2 h => by have h : i = b9 := h; omega
      replace hc := hc.upd hu10 fun i h1 h2 h => by have h : i = b9 := h; omega
      replace hb := hb.upd hu10 fun i h1 h2 h => by have h : i = b9 := h; omega
      replace hU := hU.trans (hu10.mono fun i _ h => by have h : i = b9 := h; show n0 ≤ i; omega)
      replace hB1 := hB1.upd hu10 fun h => by have h : b1 = b9 := h; omega
      replace hB2 := hB2.upd hu10 fun h => by have h : b2 = b9 := h; omega
      replace hPo := hPo.upd hu10 fun i h1 h2 h => by have h : i = b9 := h; omega
      replace hCo := hCo.upd hu10 fun i h1 h2 h => by have h : i = b9 := h; omega
      replace hIo := hIo.upd hu10 fun i h1 h2 h => by have h : i = b9 := h; omega
      replace hB9 : Blk w10 b9 #[p_o, c_o, i_o, (.bool (off))] 26 := hb10
      refine L_nil ?_
      refine T_n ?_
      refine W_seq ?_
      refine W_reg ?_
      refine L_op rfl (X_fldP (b := b9) (o := 0) (r := 1) Fd26_1 rfl rfl ?_)
      refine L_op0 (X_store (b := b9) (o := 1) T23 rfl rfl rfl hB9 (by show (1 : Nat) < 4; decide) ?_)
      intro w11 hu11 hb11
      have hz11 := hu11.size
      replace hp := hp.upd hu11 fun i h1 h2 h => by have h : i = b9 := h; omega
      replace hc := hc.upd hu11 fun i h1 h2 h => by have h : i = b9 := h; omega
      replace hb := hb.upd hu11 fun i h1 h2 h => by have h : i = b9 := h; omega
      replace hU := hU.trans (hu11.mono fun i _ h => by have h : i = b9 := h; show n0 ≤ i; omega)
      replace hB1 := hB1.upd hu11 fun h => by have h : b1 = b9 := h; omega
      replace hB2 := hB2.upd hu11 fun h => by have h : b2 = b9 := h; omega
      replace hPo := hPo.upd hu11 fun i h1 h2 h => by have h : i = b9 := h; omega
      replace hCo := hCo.upd hu11 fun i h1 h2 h => by have h : i = b9 := h; omega
      replace hIo := hIo.upd hu11 fun i h1 h2 h => by have h : i = b9 := h; omega
      replace hB9 : Blk w11 b9 #[p_o, (.slice none 0 0), i_o, (.bool (off))] 26 := hb11
      refine L_nil ?_
      refine T_n ?_
      refine W_seq ?_
      refine W_reg ?_
      refine L_op rfl (X_fldP (b := b9) (o := 0) (r := 3) Fd26_3 rfl rfl ?_)
      refine L_op0 (X_store (b := b9) (o := 3) T4 rfl rfl rfl hB9 (by show (3 : Nat) < 4; decide) ?_)
      intro w12 hu12 hb12
      have hz12 := hu12.size
      replace hp := hp.upd hu12 fun i h1 h2 h => by have h : i = b9 := h; omega
      replace hc := hc.upd hu12 fun i h1 h2 h => by have h : i = b9 := h; omega
      replace hb := hb.upd hu12 fun i h1 h2 h => by have h : i = b9 := h; omega
      replace hU := hU.trans (hu12.mono fun i _ h => by have h : i = b9 := h; show n0 ≤ i; omega)
      replace hB1 := hB1.upd hu12 fun h => by have h : b1 = b9 := h; omega
      replace hB2 := hB2.upd hu12 fun h => by have h : b2 = b9 := h; omega
      replace hPo := hPo.upd hu12 fun i h1 h2 h => by have h : i = b9 := h; omega
      replace hCo := hCo.upd hu12 fun i h1 h2 h => by have h : i = b9 := h; omega
      replace hIo := hIo.upd hu12 fun i h1 h2 h => by have h : i = b9 := h; omega
      replace hB9 : Blk w12 b9 #[p_o, (.slice none 0 0), i_o, (.bool (true))] 26 := hb12
      refine L_nil ?_
      refine T_n ?_
      refine W_seq ?_
      refine W_reg ?_
      refine L_op rfl (X_loadA (p := (ptr b9 (0))) (xs := [p_o, (.slice none 0 0), i_o, (.bool (true))]) A26 rfl hB9.atAll rfl ?_)
      refine L_op rfl (X_fn (vs := [(.agg ([p_o, (.slice none 0 0), i_o, (.bool (true))]).toArray), (.int .i64 (0))]) en11 rfl (CT.mono (c_read p_o (.slice none 0 0) i_o ps [] bs true 0 _ s_o u_o (by omega) hPo.rd (NRd.nil _ _ _) hIo.rd) ?_))
      rintro _ w13 ⟨rfl, hu13⟩
      have hz13 := hu13.size
      replace hp := hp.ext hu13
      replace hc := hc.ext hu13
      replace hb := hb.ext hu13
      replace hU := hU.trans (Ext.upd hu13)
      replace hB1 := hB1.ext hu13
      replace hB2 := hB2.ext hu13
      replace hPo := hPo.ext hu13
      replace hCo := hCo.ext hu13
      replace hIo := hIo.ext hu13
      replace hB9 := hB9.ext hu13
      rw [readE_no hz0 (by decide)]
      refine L_op rfl (X_move (v := (.tuple #[(pageV default), (.int .i64 (30))])) rfl ?_)
      refine L_op rfl (X_extract (l := [(pageV default), (.int .i64 (30))]) (v := (pageV default)) rfl rfl ?_)
      refine L_op rfl (X_extract (l := [(pageV default), (.int .i64 (30))]) (v := (.int .i64 (30))) rfl rfl ?_)
      refine L_op rfl (X_alloc (z := zv28) (c := zc28.toArray) Zv28 rfl ?_)
      intro b14 w14 hn14
      have hbn14 := hn14.num; have hbs14 := hn14.size
      replace hp := hp.ext hn14.ext
      replace hc := hc.ext hn14.ext
      replace hb := hb.ext hn14.ext
      replace hU := hU.trans (Ext.upd hn14.ext)
      replace hB1 := hB1.ext hn14.ext
      replace hB2 := hB2.ext hn14.ext
      replace hPo := hPo.ext hn14.ext
      replace hCo := hCo.ext hn14.ext
      replace hIo := hIo.ext hn14.ext
      replace hB9 := hB9.ext hn14.ext
      have hB14 := hn14.blk
      rw [zc28_eq] at hB14
      refine L_op0 (X_storeW (b := b14) (ys := (((default : Pg).1).map byteV)) A28 rfl rfl (byteV_one _) (by rw [List.length_map]; exact (default : Pg).2) hB14 (by rw [List.size_toArray]; exact (by rw [List.length_map]; exact List.length_replicate)) ?_)
      intro w15 hu15 hb15
      have hz15 := hu15.size
      replace hp := hp.upd hu15 fun i h1 h2 h => by have h : i = b14 := h; omega
      replace hc := hc.upd hu15 fun i h1 h2 h => by have h : i = b14 := h; omega
      replace hb := hb.upd hu15 fun i h1 h2 h => by have h : i = b14 := h; omega
      replace hU := hU.trans (hu15.mono fun i _ h => by have h : i = b14 := h; show n0 ≤ i; omega)
      replace hB1 := hB1.upd hu15 fun h => by have h : b1 = b14 := h; omega
      replace hB2 := hB2.upd hu15 fun h => by have h : b2 = b14 := h; omega
      replace hPo := hPo.upd hu15 fun i h1 h2 h => by have h : i = b14 := h; omega
      replace hCo := hCo.upd hu15 fun i h1 h2 h => by have h : i = b14 := h; omega
      replace hIo := hIo.upd hu15 fun i h1 h2 h => by have h : i = b14 := h; omega
      replace hB9 := hB9.upd hu15 fun h => by have h : b9 = b14 := h; omega
      replace hB14 := hb15
      refine L_op rfl (X_assign (v := (.int .i64 (30))) rfl ?_)
      refine L_nil ?_
      refine T_n ?_
      refine W_seq ?_
      refine W_reg ?_
      refine L_op rfl (X_loadA (p := (ptr b9 (0))) (xs := [p_o, (.slice none 0 0), i_o, (.bool (true))]) A26 rfl hB9.atAll rfl ?_)
      refine L_op rfl (X_loadA (p := (ptr b2 (0))) (xs := ((p.1).map byteV)) A28 rfl hB2.atAll (by rw [List.length_map]; exact p.2) ?_)
      obtain ⟨s_a, hs_a⟩ : ∃ n, n = w15.heap.size := ⟨_, rfl⟩
      refine L_op rfl (X_fn (vs := [(.agg ([p_o, (.slice none 0 0), i_o, (.bool (true))]).toArray), (.int .i64 (0)), (.agg (((p.1).map byteV)).toArray)]) en12 rfl (CT.mono (c_write p_o (.slice none 0 0) i_o ps [] bs true 0 p _ s_o u_o (by omega) hPo.rd (NRd.nil _ _ _) hIo.rd (by omega) (by decide) (by omega)) ?_))
      rintro _ w16 ⟨p_a, c_a, i_a, rfl, hPa, hCa, hIa, hu16⟩
      have hz16 := hu16.size
      replace hp := hp.ext hu16
      replace hc := hc.ext hu16
      replace hb := hb.ext hu16
      replace hU := hU.trans (Ext.upd hu16)
      replace hB1 := hB1.ext hu16
      replace hB2 := hB2.ext hu16
      replace hPo := hPo.ext hu16
      replace hCo := hCo.ext hu16
      replace hIo := hIo.ext hu16
      replace hB9 := hB9.ext hu16
      replace hB14 := hB14.ext hu16
      rw [hw0]
      rw [write_no p hw0 (by decide)] at hCa
      obtain ⟨u_a, hu_a⟩ : ∃ n, n = w16.heap.size := ⟨_, rfl⟩
      rw [← hs_a, ← hu_a] at hPa hCa hIa
      refine L_op rfl (X_move (v := (.tuple #[(.agg #[p_a, c_a, i_a, (.bool (true))]), (.int .i64 (30))])) rfl ?_)
      refine L_op rfl (X_extract (l := [(.agg #[p_a, c_a, i_a, (.bool (true))]), (.int .i64 (30))]) (v := (.agg #[p_a, c_a, i_a, (.bool (true))])) rfl rfl ?_)
      refine L_op rfl (X_extract (l := [(.agg #[p_a, c_a, i_a, (.bool (true))]), (.int .i64 (30))]) (v := (.int .i64 (30))) rfl rfl ?_)
      refine L_op rfl (X_alloc (z := (.agg #[(.slice none 0 0), (.slice none 0 0), (.slice none 0 0), (.bool (false))])) (c := #[(.slice none 0 0), (.slice none 0 0), (.slice none 0 0), (.bool (false))]) Zv26 rfl ?_)
      intro b17 w17 hn17
      have hbn17 := hn17.num; have hbs17 := hn17.size
      replace hp := hp.ext hn17.ext
      replace hc := hc.ext hn17.ext
      replace hb := hb.ext hn17.ext
      replace hU := hU.trans (Ext.upd hn17.ext)
      replace hB1 := hB1.ext hn17.ext
      replace hB2 := hB2.ext hn17.ext
      replace hPo := hPo.ext hn17.ext
      replace hCo := hCo.ext hn17.ext
      replace hIo := hIo.ext hn17.ext
      replace hB9 := hB9.ext hn17.ext
      replace hB14 := hB14.ext hn17.ext
      replace hPa := hPa.ext hn17.ext
      replace hCa := hCa.ext hn17.ext
      replace hIa := hIa.ext hn17.ext
      have hB17 := hn17.blk
      refine L_op0 (X_storeW (b := b17) (ys := [p_a, c_a, i_a, (.bool (true))]) A26 rfl rfl (List.forall_mem_cons.2 ⟨(hPa.1.sv.one), (List.forall_mem_cons.2 ⟨(hCa.1.sv.one), (List.forall_mem_cons.2 ⟨(hIa.1.sv.one), (List.forall_mem_cons.2 ⟨rfl, (fun _ h => by cases h)⟩)⟩)⟩)⟩) rfl hB17 rfl ?_)
      intro w18 hu18 hb18
      have hz18 := hu18.size
      replace hp := hp.upd hu18 fun i h1 h2 h => by have h : i = b17 := h; omega
      replace hc := hc.upd hu18 fun i h1 h2 h => by have h : i = b17 := h; omega
      replace hb := hb.upd hu18 fun i h1 h2 h => by have h : i = b17 := h; omega
      replace hU := hU.trans (hu18.mono fun i _ h => by have h : i = b17 := h; show n0 ≤ i; omega)
      replace hB1 := hB1.upd hu18 fun h => by have h : b1 = b17 := h; omega
      replace hB2 := hB2.upd hu18 fun h => by have h : b2 = b17 := h; omega
      replace hPo := hPo.upd hu18 fun i h1 h2 h => by have h : i = b17 := h; omega
      replace hCo := hCo.upd hu18 fun i h1 h2 h => by have h : i = b17 := h; omega
      replace hIo := hIo.upd hu18 fun i h1 h2 h => by have h : i = b17 := h; omega
      replace hB9 := hB9.upd hu18 fun h => by have h : b9 = b17 := h; omega
      replace hB14 := hB14.upd hu18 fun h => by have h : b14 = b17 := h; omega
      replace hPa := hPa.upd hu18 fun i h1 h2 h => by have h : i = b17 := h; omega
      replace hCa := hCa.upd hu18 fun i h1 h2 h => by have h : i = b17 := h; omega
      replace hIa := hIa.upd hu18 fun i h1 h2 h => by have h : i = b17 := h; omega
      replace hB17 : Blk w18 b17 #[p_a, c_a, i_a, (.bool (true))] 26 := hb18
      refine L_op rfl (X_assign (v := (.int .i64 (30))) rfl ?_)
      refine L_nil ?_
      refine T_n ?_
      refine W_seq ?_
      refine W_reg ?_
      refine L_op rfl (X_loadA (p := (ptr b9 (0))) (xs := [p_o, (.slice none 0 0), i_o, (.bool (true))]) A26 rfl hB9.atAll rfl ?_)
      obtain ⟨s_b, hs_b⟩ : ∃ n, n = w18.heap.size := ⟨_, rfl⟩
      refine L_op rfl (X_fn (vs := [(.agg ([p_o, (.slice none 0 0), i_o, (.bool (true))]).toArray)]) en13 rfl (CT.mono (c_flush p_o (.slice none 0 0) i_o ps [] bs true _ s_o u_o (by omega) hPo.rd (NRd.nil _ _ _) hIo.rd (by omega) (by decide) (by omega)) ?_))
      rintro _ w19 ⟨p_b, c_b, i_b, qsb, dsb, asb, rfl, hPb, hCb, hIb, _, hnob, hu19⟩
      have hz19 := hu19.size
      replace hp := hp.ext hu19
      replace hc := hc.ext hu19
      replace hb := hb.ext hu19
      replace hU := hU.trans (Ext.upd hu19)
      replace hB1 := hB1.ext hu19
      replace hB2 := hB2.ext hu19
      replace hPo := hPo.ext hu19
      replace hCo := hCo.ext hu19
      replace hIo := hIo.ext hu19
      replace hB9 := hB9.ext hu19
      replace hB14 := hB14.ext hu19
      replace hPa := hPa.ext hu19
      replace hCa := hCa.ext hu19
      replace hIa := hIa.ext hu19
      replace hB17 := hB17.ext hu19
      obtain ⟨e1_, e2_, e3_⟩ := hnob (by rw [hz0]; decide)
      rw [e1_] at hPb
      rw [e2_] at hCb
      rw [e3_] at hIb
      rw [hz0]
      obtain ⟨u_b, hu_b⟩ : ∃ n, n = w19.heap.size := ⟨_, rfl⟩
      rw [← hs_b, ← hu_b] at hPb hCb hIb
      refine L_op rfl (X_move (v := (.tuple #[(.agg #[p_b, c_b, i_b, (.bool (true))]), (.int .i64 (30))])) rfl ?_)
      refine L_op rfl (X_extract (l := [(.agg #[p_b, c_b, i_b, (.bool (true))]), (.int .i64 (30))]) (v := (.agg #[p_b, c_b, i_b, (.bool (true))])) rfl rfl ?_)
      refine L_op rfl (X_extract (l := [(.agg #[p_b, c_b, i_b, (.bool (true))]), (.int .i64 (30))]) (v := (.int .i64 (30))) rfl rfl ?_)
      refine L_op rfl (X_alloc (z := (.agg #[(.slice none 0 0), (.slice none 0 0), (.slice none 0 0), (.bool (false))])) (c := #[(.slice none 0 0), (.slice none 0 0), (.slice none 0 0), (.bool (false))]) Zv26 rfl ?_)
      intro b20 w20 hn20
      have hbn20 := hn20.num; have hbs20 := hn20.size
      replace hp := hp.ext hn20.ext
      replace hc := hc.ext hn20.ext
      replace hb := hb.ext hn20.ext
      replace hU := hU.trans (Ext.upd hn20.ext)
      replace hB1 := hB1.ext hn20.ext
      replace hB2 := hB2.ext hn20.ext
      replace hPo := hPo.ext hn20.ext
      replace hCo := hCo.ext hn20.ext
      replace hIo := hIo.ext hn20.ext
      replace hB9 := hB9.ext hn20.ext
      replace hB14 := hB14.ext hn20.ext
      replace hPa := hPa.ext hn20.ext
      replace hCa := hCa.ext hn20.ext
      replace hIa := hIa.ext hn20.ext
      replace hB17 := hB17.ext hn20.ext
      replace hPb := hPb.ext hn20.ext
      replace hCb := hCb.ext hn20.ext
      replace hIb := hIb.ext hn20.ext
      have hB20 := hn20.blk
      refine L_op0 (X_storeW (b := b20) (ys := [p_b, c_b, i_b, (.bool (true))]) A26 rfl rfl (List.forall_mem_cons.2 ⟨(hPb.1.sv.one), (List.forall_mem_cons.2 ⟨(hCb.1.sv.one), (List.forall_mem_cons.2 ⟨(hIb.1.sv.one), (List.forall_mem_cons.2 ⟨rfl, (fun _ h => by cases h)⟩)⟩)⟩)⟩) rfl hB20 rfl ?_)
      intro w21 hu21 hb21
      have hz21 := hu21.size
      replace hp := hp.upd hu21 fun i h1 h2 h => by have h : i = b20 := h; omega
      replace hc := hc.upd hu21 fun i h1 h2 h => by have h : i = b20 := h; omega
      replace hb := hb.upd hu21 fun i h1 h2 h => by have h : i = b20 := h; omega
      replace hU := hU.trans (hu21.mono fun i _ h => by have h : i = b20 := h; show n0 ≤ i; omega)
      replace hB1 := hB1.upd hu21 fun h => by have h : b1 = b20 := h; omega
      replace hB2 := hB2.upd hu21 fun h => by have h : b2 = b20 := h; omega
      replace hPo := hPo.upd hu21 fun i h1 h2 h => by have h : i = b20 := h; omega
      replace hCo := hCo.upd hu21 fun i h1 h2 h => by have h : i = b20 := h; omega
      replace hIo := hIo.upd hu21 fun i h1 h2 h => by have h : i = b20 := h; omega
      replace hB9 := hB9.upd hu21 fun h => by have h : b9 = b20 := h; omega
      replace hB14 := hB14.upd hu21 fun h => by have h : b14 = b20 := h; omega
      replace hPa := hPa.upd hu21 fun i h1 h2 h => by have h : i = b20 := h; omega
      replace hCa := hCa.upd hu21 fun i h1 h2 h => by have h : i = b20 := h; omega
      replace hIa := hIa.upd hu21 fun i h1 h2 h => by have h : i = b20 := h; omega
      replace hB17 := hB17.upd hu21 fun h => by have h : b17 = b20 := h; omega
      replace hPb := hPb.upd hu21 fun i h1 h2 h => by have h : i = b20 := h; omega
      replace hCb := hCb.upd hu21 fun i h1 h2 h => by have h : i = b20 := h; omega
      replace hIb := hIb.upd hu21 fun i h1 h2 h => by have h : i = b20 := h; omega
      replace hB20 : Blk w21 b20 #[p_b, c_b, i_b, (.bool (true))] 26 := hb21
      refine L_op rfl (X_assign (v := (.int .i64 (30))) rfl ?_)
      refine L_nil ?_
      refine T_n ?_
      refine W_seq ?_
      refine W_seq ?_
      refine W_reg ?_
      refine L_op rfl (X_move (v := (.int .i64 (30))) rfl ?_)
      refine L_op rfl (X_cmp (k := .i64) (a := 30) (b := 30) (r := false) rfl rfl rfl rfl ?_)
      refine L_op rfl (X_move (v := (.bool (false))) rfl ?_)
      refine L_gy (dj := 45) rfl rfl rfl (X_move (v := (.int .i64 (30))) rfl ?_)
      refine L_gy (dj := 45) rfl rfl rfl (X_cmp (k := .i64) (a := 30) (b := 30) (r := false) rfl rfl rfl rfl ?_)
      refine L_op rfl (X_pick (t := false) (v := (.bool (false))) rfl rfl ?_)
      refine L_op rfl (X_move (v := (.bool (false))) rfl ?_)
      refine L_gy (dj := 49) rfl rfl rfl (X_move (v := (.int .i64 (30))) rfl ?_)
      refine L_gy (dj := 49) rfl rfl rfl (X_cmp (k := .i64) (a := 30) (b := 30) (r := false) rfl rfl rfl rfl ?_)
      refine L_op rfl (X_pick (t := false) (v := (.bool (false))) rfl rfl ?_)
      refine L_op rfl (X_move (v := (.bool (false))) rfl ?_)
      refine L_gy (dj := 53) rfl rfl rfl (X_loadA (p := (ptr b17 (0))) (xs := [p_a, c_a, i_a, (.bool (true))]) A26 rfl hB17.atAll rfl ?_)
      refine L_gy (dj := 53) rfl rfl rfl (X_loadA (p := (ptr b9 (0))) (xs := [p_o, (.slice none 0 0), i_o, (.bool (true))]) A26 rfl hB9.atAll rfl ?_)
      refine L_gy (dj := 53) rfl rfl rfl (X_fn (vs := [(.agg ([p_a, c_a, i_a, (.bool (true))]).toArray), (.agg ([p_o, (.slice none 0 0), i_o, (.bool (true))]).toArray)]) en18 rfl (CT.mono (c_same p_a c_a i_a ps [] bs true p_o (.slice none 0 0) i_o ps [] bs true _ s_a u_a s_o u_o hPa.rd hCa.rd hIa.rd hPo.rd (NRd.nil _ _ _) hIo.rd) ?_))
      rintro _ w22 ⟨⟨g22, rfl, hg22⟩, hu22⟩
      have hz22 := hu22.size
      replace hp := hp.ext hu22
      replace hc := hc.ext hu22
      replace hb := hb.ext hu22
      replace hU := hU.trans (Ext.upd hu22)
      replace hB1 := hB1.ext hu22
      replace hB2 := hB2.ext hu22
      replace hPo := hPo.ext hu22
      replace hCo := hCo.ext hu22
      replace hIo := hIo.ext hu22
      replace hB9 := hB9.ext hu22
      replace hB14 := hB14.ext hu22
      replace hPa := hPa.ext hu22
      replace hCa := hCa.ext hu22
      replace hIa := hIa.ext hu22
      replace hB17 := hB17.ext hu22
      replace hPb := hPb.ext hu22
      replace hCb := hCb.ext hu22
      replace hIb := hIb.ext hu22
      replace hB20 := hB20.ext hu22
      obtain rfl : g22 = true := hg22.2 ⟨rfl, rfl, rfl, rfl⟩
      refine L_gy (dj := 53) rfl rfl rfl (X_not (b := true) (r := false) rfl rfl ?_)
      refine L_op rfl (X_pick (t := false) (v := (.bool (false))) rfl rfl ?_)
      refine L_op rfl (X_move (v := (.bool (false))) rfl ?_)
      refine L_gy (dj := 59) rfl rfl rfl (X_loadA (p := (ptr b20 (0))) (xs := [p_b, c_b, i_b, (.bool (true))]) A26 rfl hB20.atAll rfl ?_)
      refine L_gy (dj := 59) rfl rfl rfl (X_loadA (p := (ptr b9 (0))) (xs := [p_o, (.slice none 0 0), i_o, (.bool (true))]) A26 rfl hB9.atAll rfl ?_)
      refine L_gy (dj := 59) rfl rfl rfl (X_fn (vs := [(.agg ([p_b, c_b, i_b, (.bool (true))]).toArray), (.agg ([p_o, (.slice none 0 0), i_o, (.bool (true))]).toArray)]) en18 rfl (CT.mono (c_same p_b c_b i_b ps [] bs true p_o (.slice none 0 0) i_o ps [] bs true _ s_b u_b s_o u_o hPb.rd hCb.rd hIb.rd hPo.rd (NRd.nil _ _ _) hIo.rd) ?_))
      rintro _ w23 ⟨⟨g23, rfl, hg23⟩, hu23⟩
      have hz23 := hu23.size
      replace hp := hp.ext hu23
      replace hc := hc.ext hu23
      replace hb := hb.ext hu23
      replace hU := hU.trans (Ext.upd hu23)
      replace hB1 := hB1.ext hu23
      replace hB2 := hB2.ext hu23
      replace hPo := hPo.ext hu23
      replace hCo := hCo.ext hu23
      replace hIo := hIo.ext hu23
      replace hB9 := hB9.ext hu23
      replace hB14 := hB14.ext hu23
      replace hPa := hPa.ext hu23
      replace hCa := hCa.ext hu23
      replace hIa := hIa.ext hu23
      replace hB17 := hB17.ext hu23
      replace hPb := hPb.ext hu23
      replace hCb := hCb.ext hu23
      replace hIb := hIb.ext hu23
      replace hB20 := hB20.ext hu23
      obtain rfl : g23 = true := hg23.2 ⟨rfl, rfl, rfl, rfl⟩
      refine L_gy (dj := 59) rfl rfl rfl (X_not (b := true) (r := false) rfl rfl ?_)
      refine L_op rfl (X_pick (t := false) (v := (.bool (false))) rfl rfl ?_)
      refine L_nil ?_
      refine T_n ?_
      refine W_cf rfl ?_
      refine W_skip ?_
      refine T_n ?_
      refine W_seq ?_
      refine W_reg ?_
      refine L_op rfl (X_loadA (p := (ptr b9 (0))) (xs := [p_o, (.slice none 0 0), i_o, (.bool (true))]) A26 rfl hB9.atAll rfl ?_)
      refine L_op rfl (X_fldP (b := b9) (o := 0) (r := 0) Fd26_0 rfl rfl ?_)
      refine L_op rfl (X_load (p := (ptr b9 (0))) (v := p_o) T22 rfl (hB9.at1 rfl) ?_)
      refine L_op rfl (X_len (v := p_o) (n := (ps).length) Try.underlying22 rfl hPo.1.sv ?_)
      refine L_op rfl (X_fn (vs := [(.agg ([p_o, (.slice none 0 0), i_o, (.bool (true))]).toArray), (.int .i64 ((((ps).length : Nat) : Int)))]) en11 rfl (CT.mono (c_read p_o (.slice none 0 0) i_o ps [] bs true ((ps.length : Nat) : Int) _ s_o u_o (by omega) hPo.rd (NRd.nil _ _ _) hIo.rd) ?_))
      rintro _ w24 ⟨rfl, hu24⟩
      have hz24 := hu24.size
      replace hp := hp.ext hu24
      replace hc := hc.ext hu24
      replace hb := hb.ext hu24
      replace hU := hU.trans (Ext.upd hu24)
      replace hB1 := hB1.ext hu24
      replace hB2 := hB2.ext hu24
      replace hPo := hPo.ext hu24
      replace hCo := hCo.ext hu24
      replace hIo := hIo.ext hu24
      replace hB9 := hB9.ext hu24
      replace hB14 := hB14.ext hu24
      replace hPa := hPa.ext hu24
      replace hCa := hCa.ext hu24
      replace hIa := hIa.ext hu24
      replace hB17 := hB17.ext hu24
      replace hPb := hPb.ext hu24
      replace hCb := hCb.ext hu24
      replace hIb := hIb.ext hu24
      replace hB20 := hB20.ext hu24
      rw [readE_no hzl (by decide)]
      refine L_op rfl (X_move (v := (.tuple #[(pageV default), (.int .i64 (2))])) rfl ?_)
      refine L_op rfl (X_extract (l := [(pageV default), (.int .i64 (2))]) (v := (pageV default)) rfl rfl ?_)
      refine L_op rfl (X_extract (l := [(pageV default), (.int .i64 (2))]) (v := (.int .i64 (2))) rfl rfl ?_)
      refine L_op rfl (X_assign (v := (.int .i64 (2))) rfl ?_)
      refine L_nil ?_
      refine T_n ?_
      refine W_seq ?_
      refine W_reg ?_
      refine L_op rfl (X_loadA (p := (ptr b9 (0))) (xs := [p_o, (.slice none 0 0), i_o, (.bool (true))]) A26 rfl hB9.atAll rfl ?_)
      refine L_op rfl (X_loadA (p := (ptr b2 (0))) (xs := ((p.1).map byteV)) A28 rfl hB2.atAll (by rw [List.length_map]; exact p.2) ?_)
      obtain ⟨s_d, hs_d⟩ : ∃ n, n = w24.heap.size := ⟨_, rfl⟩
      refine L_op rfl (X_fn (vs := [(.agg ([p_o, (.slice none 0 0), i_o, (.bool (true))]).toArray), (.int .i64 (-1)), (.agg (((p.1).map byteV)).toArray)]) en12 rfl (CT.mono (c_write p_o (.slice none 0 0) i_o ps [] bs true (-1) p _ s_o u_o (by omega) hPo.rd (NRd.nil _ _ _) hIo.rd (by omega) (by decide) (by omega)) ?_))
      rintro _ w25 ⟨p_d, c_d, i_d, rfl, hPd, hCd, hId, hu25⟩
      have hz25 := hu25.size
      replace hp := hp.ext hu25
      replace hc := hc.ext hu25
      replace hb := hb.ext hu25
      replace hU := hU.trans (Ext.upd hu25)
      replace hB1 := hB1.ext hu25
      replace hB2 := hB2.ext hu25
      replace hPo := hPo.ext hu25
      replace hCo := hCo.ext hu25
      replace hIo := hIo.ext hu25
      replace hB9 := hB9.ext hu25
      replace hB14 := hB14.ext hu25
      replace hPa := hPa.ext hu25
      replace hCa := hCa.ext hu25
      replace hIa := hIa.ext hu25
      replace hB17 := hB17.ext hu25
      replace hPb := hPb.ext hu25
      replace hCb := hCb.ext hu25
      replace hIb := hIb.ext hu25
      replace hB20 := hB20.ext hu25
      rw [hwm]
      rw [write_no p hwm (by decide)] at hCd
      obtain ⟨u_d, hu_d⟩ : ∃ n, n = w25.heap.size := ⟨_, rfl⟩
      rw [← hs_d, ← hu_d] at hPd hCd hId
      refine L_op rfl (X_move (v := (.tuple #[(.agg #[p_d, c_d, i_d, (.bool (true))]), (.int .i64 (2))])) rfl ?_)
      refine L_op rfl (X_extract (l := [(.agg #[p_d, c_d, i_d, (.bool (true))]), (.int .i64 (2))]) (v := (.agg #[p_d, c_d, i_d, (.bool (true))])) rfl rfl ?_)
      refine L_op rfl (X_extract (l := [(.agg #[p_d, c_d, i_d, (.bool (true))]), (.int .i64 (2))]) (v := (.int .i64 (2))) rfl rfl ?_)
      refine L_op rfl (X_assign (v := (.int .i64 (2))) rfl ?_)
      refine L_nil ?_
      refine T_n ?_
      refine W_seq ?_
      refine W_seq ?_
      refine W_reg ?_
      refine L_op rfl (X_move (v := (.int .i64 (2))) rfl ?_)
      refine L_op rfl (X_cmp (k := .i64) (a := 2) (b := 2) (r := false) rfl rfl rfl rfl ?_)
      refine L_op rfl (X_move (v := (.bool (false))) rfl ?_)
      refine L_gy (dj := 81) rfl rfl rfl (X_move (v := (.int .i64 (2))) rfl ?_)
      refine L_gy (dj := 81) rfl rfl rfl (X_cmp (k := .i64) (a := 2) (b := 2) (r := false) rfl rfl rfl rfl ?_)
      refine L_op rfl (X_pick (t := false) (v := (.bool (false))) rfl rfl ?_)
      refine L_nil ?_
      refine T_n ?_
      refine W_cf rfl ?_
      refine W_skip ?_
      refine T_n ?_
      refine W_seq ?_
      refine W_reg ?_
      refine L_op rfl (X_loadA (p := (ptr b1 (0))) (xs := [pv, cv, bv, (.bool (off))]) A26 rfl hB1.atAll rfl ?_)
      obtain ⟨s_f, hs_f⟩ : ∃ n, n = w25.heap.size := ⟨_, rfl⟩
      refine L_op rfl (X_fn (vs := [(.agg ([pv, cv, bv, (.bool (off))]).toArray)]) en16 rfl (CT.mono (c_copyR pv cv bv ps cs bs off _ 0 n0 (by omega) hp hc hb (by omega) (by omega) (by omega)) ?_))
      rintro _ w26 ⟨p_f, c_f, i_f, rfl, hPf, hCf, hIf, hu26⟩
      have hz26 := hu26.size
      replace hp := hp.ext hu26
      replace hc := hc.ext hu26
      replace hb := hb.ext hu26
      replace hU := hU.trans (Ext.upd hu26)
      replace hB1 := hB1.ext hu26
      replace hB2 := hB2.ext hu26
      replace hPo := hPo.ext hu26
      replace hCo := hCo.ext hu26
      replace hIo := hIo.ext hu26
      replace hB9 := hB9.ext hu26
      replace hB14 := hB14.ext hu26
      replace hPa := hPa.ext hu26
      replace hCa := hCa.ext hu26
      replace hIa := hIa.ext hu26
      replace hB17 := hB17.ext hu26
      replace hPb := hPb.ext hu26
      replace hCb := hCb.ext hu26
      replace hIb := hIb.ext hu26
      replace hB20 := hB20.ext hu26
      replace hPd := hPd.ext hu26
      replace hCd := hCd.ext hu26
      replace hId := hId.ext hu26
      obtain ⟨u_f, hu_f⟩ : ∃ n, n = w26.heap.size := ⟨_, rfl⟩
      rw [← hs_f, ← hu_f] at hPf hCf hIf
      refine L_op rfl (X_alloc (z := (.agg #[(.slice none 0 0), (.slice none 0 0), (.slice none 0 0), (.bool (false))])) (c := #[(.slice none 0 0), (.slice none 0 0), (.slice none 0 0), (.bool (false))]) Zv26 rfl ?_)
      intro b27 w27 hn27
      have hbn27 := hn27.num; have hbs27 := hn27.size
      replace hp := hp.ext hn27.ext
      replace hc := hc.ext hn27.ext
      replace hb := hb.ext hn27.ext
      replace hU := hU.trans (Ext.upd hn27.ext)
      replace hB1 := hB1.ext hn27.ext
      replace hB2 := hB2.ext hn27.ext
      replace hPo := hPo.ext hn27.ext
      replace hCo := hCo.ext hn27.ext
      replace hIo := hIo.ext hn27.ext
      replace hB9 := hB9.ext hn27.ext
      replace hB14 := hB14.ext hn27.ext
      replace hPa := hPa.ext hn27.ext
      replace hCa := hCa.ext hn27.ext
      replace hIa := hIa.ext hn27.ext
      replace hB17 := hB17.ext hn27.ext
      replace hPb := hPb.ext hn27.ext
      replace hCb := hCb.ext hn27.ext
      replace hIb := hIb.ext hn27.ext
      replace hB20 := hB20.ext hn27.ext
      replace hPd := hPd.ext hn27.ext
      replace hCd := hCd.ext hn27.ext
      replace hId := hId.ext hn27.ext
      replace hPf := hPf.ext hn27.ext
      replace hCf := hCf.ext hn27.ext
      replace hIf := hIf.ext hn27.ext
      have hB27 := hn27.blk
      refine L_op0 (X_storeW (b := b27) (ys := [p_f, c_f, i_f, (.bool (off))]) A26 rfl rfl (List.forall_mem_cons.2 ⟨(hPf.1.sv.one), (List.forall_mem_cons.2 ⟨(hCf.1.sv.one), (List.forall_mem_cons.2 ⟨(hIf.1.sv.one), (List.forall_mem_cons.2 ⟨rfl, (fun _ h => by cases h)⟩)⟩)⟩)⟩) rfl hB27 rfl ?_)
      intro w28 hu28 hb28
      have hz28 := hu28.size
      replace hp := hp.upd hu28 fun i h1 h2 h => by have h : i = b27 := h; omega
      replace hc := hc.upd hu28 fun i h1 h2 h => by have h : i = b27 := h; omega
      replace hb := hb.upd hu28 fun i h1 h2 h => by have h : i = b27 := h; omega
      replace hU := hU.trans (hu28.mono fun i _ h => by have h : i = b27 := h; show n0 ≤ i; omega)
      replace hB1 := hB1.upd hu28 fun h => by have h : b1 = b27 := h; omega
      replace hB2 := hB2.upd hu28 fun h => by have h : b2 = b27 := h; omega
      replace hPo := hPo.upd hu28 fun i h1 h2 h => by have h : i = b27 := h; omega
      replace hCo := hCo.upd hu28 fun i h1 h2 h => by have h : i = b27 := h; omega
      replace hIo := hIo.upd hu28 fun i h1 h2 h => by have h : i = b27 := h; omega
      replace hB9 := hB9.upd hu28 fun h => by have h : b9 = b27 := h; omega
      replace hB14 := hB14.upd hu28 fun h => by have h : b14 = b27 := h; omega
      replace hPa := hPa.upd hu28 fun i h1 h2 h => by have h : i = b27 := h; omega
      replace hCa := hCa.upd hu28 fun i h1 h2 h => by have h : i = b27 := h; omega
      replace hIa := hIa.upd hu28 fun i h1 h2 h => by have h : i = b27 := h; omega
      replace hB17 := hB17.upd hu28 fun h => by have h : b17 = b27 := h; omega
      replace hPb := hPb.upd hu28 fun i h1 h2 h => by have h : i = b27 := h; omega
      replace hCb := hCb.upd hu28 fun i h1 h2 h => by have h : i = b27 := h; omega
      replace hIb := hIb.upd hu28 fun i h1 h2 h => by have h : i = b27 := h; omega
      replace hB20 := hB20.upd hu28 fun h => by have h : b20 = b27 := h; omega
      replace hPd := hPd.upd hu28 fun i h1 h2 h => by have h : i = b27 := h; omega
      replace hCd := hCd.upd hu28 fun i h1 h2 h => by have h : i = b27 := h; omega
      replace hId := hId.upd hu28 fun i h1 h2 h => by have h : i = b27 := h; omega
      replace hPf := hPf.upd hu28 fun i h1 h2 h => by have h : i = b27 := h; omega
      replace hCf := hCf.upd hu28 fun i h1 h2 h => by have h : i = b27 := h; omega
      replace hIf := hIf.upd hu28 fun i h1 h2 h => by have h : i = b27 := h; omega
      replace hB27 : Blk w28 b27 #[p_f, c_f, i_f, (.bool (off))] 26 := hb28
      refine L_nil ?_
      refine T_n ?_
      refine W_seq ?_
      refine W_reg ?_
      refine L_op rfl (X_fldP (b := b27) (o := 0) (r := 3) Fd26_3 rfl rfl ?_)
      refine L_op0 (X_store (b := b27) (o := 3) T4 rfl rfl rfl hB27 (by show (3 : Nat) < 4; decide) ?_)
      intro w29 hu29 hb29
      have hz29 := hu29.size
      replace hp := hp.upd hu29 fun i h1 h2 h => by have h : i = b27 := h; omega
      replace hc := hc.upd hu29 fun i h1 h2 h => by have h : i = b27 := h; omega
      replace hb := hb.upd hu29 fun i h1 h2 h => by have h : i = b27 := h; omega
      replace hU := hU.trans (hu29.mono fun i _ h => by have h : i = b27 := h; show n0 ≤ i; omega)
      replace hB1 := hB1.upd hu29 fun h => by have h : b1 = b27 := h; omega
      replace hB2 := hB2.upd hu29 fun h => by have h : b2 = b27 := h; omega
      replace hPo := hPo.upd hu29 fun i h1 h2 h => by have h : i = b27 := h; omega
      replace hCo := hCo.upd hu29 fun i h1 h2 h => by have h : i = b27 := h; omega
      replace hIo := hIo.upd hu29 fun i h1 h2 h => by have h : i = b27 := h; omega
      replace hB9 := hB9.upd hu29 fun h => by have h : b9 = b27 := h; omega
      replace hB14 := hB14.upd hu29 fun h => by have h : b14 = b27 := h; omega
      replace hPa := hPa.upd hu29 fun i h1 h2 h => by have h : i = b27 := h; omega
      replace hCa := hCa.upd hu29 fun i h1 h2 h => by have h : i = b27 := h; omega
      replace hIa := hIa.upd hu29 fun i h1 h2 h => by have h : i = b27 := h; omega
      replace hB17 := hB17.upd hu29 fun h => by have h : b17 = b27 := h; omega
      replace hPb := hPb.upd hu29 fun i h1 h2 h => by have h : i = b27 := h; omega
      replace hCb := hCb.upd hu29 fun i h1 h2 h => by have h : i = b27 := h; omega
      replace hIb := hIb.upd hu29 fun i h1 h2 h => by have h : i = b27 := h; omega
      replace hB20 := hB20.upd hu29 fun h => by have h : b20 = b27 := h; omega
      replace hPd := hPd.upd hu29 fun i h1 h2 h => by have h : i = b27 := h; omega
      replace hCd := hCd.upd hu29 fun i h1 h2 h => by have h : i = b27 := h; omega
      replace hId := hId.upd hu29 fun i h1 h2 h => by have h : i = b27 := h; omega
      replace hPf := hPf.upd hu29 fun i h1 h2 h => by have h : i = b27 := h; omega
      replace hCf := hCf.upd hu29 fun i h1 h2 h => by have h : i = b27 := h; omega
      replace hIf := hIf.upd hu29 fun i h1 h2 h => by have h : i = b27 := h; omega
      replace hB27 : Blk w29 b27 #[p_f, c_f, i_f, (.bool (false))] 26 := hb29
      refine L_nil ?_
      refine T_n ?_
      refine W_seq ?_
      refine W_block ?_
      have hCf_ : NOwn LW w29 43 5 s_f w29.heap.size c_f cs := hCf.mono (Nat.le_refl _) (by omega)
      refine W_loop (α := Value × List Wr) [88, 89, 90, 91, 92, 93, 94, 95, 96, 97, 98, 99, 100, 101, 102, 103, 104, 105] (fun ⟨v, ds⟩ => []) (fun ⟨v, ds⟩ w_ => ds.length ≤ 2000 ∧ InC ps.length ds ds.length ∧ NOwn LP w_ 28 5 s_f u_f p_f ps ∧ NOwn LW w_ 43 5 s_f w_.heap.size v ds ∧ NOwn LI w_ 3 5 s_f u_f i_f bs ∧ Blk w_ b27 #[p_f, v, i_f, .bool false] 26 ∧ Blk w_ b1 #[pv, cv, bv, .bool off] 26 ∧ Blk w_ b2 (p.1.map byteV).toArray 28 ∧ NRd LP w_ 0 n0 pv ps ∧ Upd (fun i => n0 ≤ i) w w_ ∧ u_f ≤ w_.heap.size) (fun ⟨v, ds⟩ => 2000 - ds.length) ⟨rfl, (c_f, cs), ⟨hM.1.2.2.1, hM.2.1, hPf, hCf_, hIf, hB27, hB1, hB2, hp, hU, by omega⟩, Out.refl _ _, trivial⟩ ?_
      rintro ⟨v, ds⟩ w31 _ ⟨hdl, hin, hPf, hV, hIf, hBf, hB1, hB2, hp, hU, hufw⟩
      have hsz_ := hU.size
      obtain ⟨u_v, hu_v⟩ : ∃ n, n = w31.heap.size := ⟨_, rfl⟩
      rw [← hu_v] at hV
      have hbfl := hBf.lt
      have hufv : u_f ≤ u_v := by omega
      refine W_seq ?_
      refine W_seq ?_
      refine W_reg ?_
      refine L_op rfl (X_fldP (b := b27) (o := 0) (r := 1) Fd26_1 rfl rfl ?_)
      refine L_op rfl (X_load (p := (ptr b27 (1))) (v := v) T23 rfl (hBf.at1 rfl) ?_)
      refine L_op rfl (X_len (v := v) (n := ds.length) Try.underlying23 rfl hV.1.sv ?_)
      by_cases hc32 : (((ds.length : Nat) : Int) : Int) < (2000)
      · refine L_op rfl (X_cmp (k := .i64) (a := ((ds.length : Nat) : Int)) (b := 2000) (r := true) rfl rfl rfl (decide_eq_true (p := ((((ds.length : Nat) : Int)) : Int) < ((2000) : Int)) (by omega)) ?_)
        refine L_nil ?_
        refine T_n ?_
        refine W_ct rfl ?_
        refine W_skip ?_
        refine T_n ?_
        refine W_block ?_
        refine W_draw 12 [[], [0], [], [2], [2, 3], [], [5], [5, 6], [2, 3, 4, 5, 6, 7], [], [2, 3, 4, 5, 6, 7, 8, 9], [2, 3, 4, 5, 6, 7, 8, 9, 10], [0, 1, 2, 3, 4, 5, 6, 7, 8, 9, 10, 11], [0, 1, 2, 3, 4, 5, 6, 7, 8, 9, 10, 11, 12], [0, 1, 2, 3, 4, 5, 6, 7, 8, 9, 10, 11, 12, 13]] mixed (by kernel_rfl) ?_
        refine ⟨.det (fun val => (ptr b27 (1))), ⟨fun _ _ hv => rfl, fun _ _ _ _ _ => trivial⟩, fun val h_ W hx he => ⟨trivial, ?_⟩, ?_⟩
        · replace hx := (Upd.drew _ _).trans hx
          replace hPf := hPf.ext hx
          replace hV := hV.ext hx
          replace hIf := hIf.ext hx
          replace hBf := hBf.ext hx
          replace hB1 := hB1.ext hx
          replace hB2 := hB2.ext hx
          replace hp := hp.ext hx
          have hE := Upd.refl (fun _ => False) W
          refine id (X_fldP (b := b27) (o := 0) (r := 1) Fd26_1 rfl rfl ?_)
          exact ⟨hE, rfl⟩
        refine ⟨.det (fun val => v), ⟨fun _ _ hv => rfl, fun _ _ _ _ _ => trivial⟩, fun val h_ W hx he => ⟨trivial, ?_⟩, ?_⟩
        · replace hx := (Upd.drew _ _).trans hx
          replace hPf := hPf.ext hx
          replace hV := hV.ext hx
          replace hIf := hIf.ext hx
          replace hBf := hBf.ext hx
          replace hB1 := hB1.ext hx
          replace hB2 := hB2.ext hx
          replace hp := hp.ext hx
          have hE := Upd.refl (fun _ => False) W
          refine id (X_load (p := (ptr b27 (1))) (v := v) T23 rfl (hBf.at1 rfl) ?_)
          exact ⟨hE, rfl⟩
        refine ⟨.det (fun val => (ptr b27 (1))), ⟨fun _ _ hv => rfl, fun _ _ _ _ _ => trivial⟩, fun val h_ W hx he => ⟨trivial, ?_⟩, ?_⟩
        · replace hx := (Upd.drew _ _).trans hx
          replace hPf := hPf.ext hx
          replace hV := hV.ext hx
          replace hIf := hIf.ext hx
          replace hBf := hBf.ext hx
          replace hB1 := hB1.ext hx
          replace hB2 := hB2.ext hx
          replace hp := hp.ext hx
          have hE := Upd.refl (fun _ => False) W
          refine id (X_fldP (b := b27) (o := 0) (r := 1) Fd26_1 rfl rfl ?_)
          exact ⟨hE, rfl⟩
        refine ⟨.det (fun val => v), ⟨fun _ _ hv => rfl, fun _ _ _ _ _ => trivial⟩, fun val h_ W hx he => ⟨trivial, ?_⟩, ?_⟩
        · replace hx := (Upd.drew _ _).trans hx
          replace hPf := hPf.ext hx
          replace hV := hV.ext hx
          replace hIf := hIf.ext hx
          replace hBf := hBf.ext hx
          replace hB1 := hB1.ext hx
          replace hB2 := hB2.ext hx
          replace hp := hp.ext hx
          have hE := Upd.refl (fun _ => False) W
          refine id (X_load (p := (ptr b27 (1))) (v := v) T23 rfl (hBf.at1 rfl) ?_)
          exact ⟨hE, rfl⟩
        refine ⟨.det (fun val => (.int .i64 (((ds.length : Nat) : Int)))), ⟨fun _ _ hv => rfl, fun _ _ _ _ _ => trivial⟩, fun val h_ W hx he => ⟨trivial, ?_⟩, ?_⟩
        · replace hx := (Upd.drew _ _).trans hx
          replace hPf := hPf.ext hx
          replace hV := hV.ext hx
          replace hIf := hIf.ext hx
          replace hBf := hBf.ext hx
          replace hB1 := hB1.ext hx
          replace hB2 := hB2.ext hx
          replace hp := hp.ext hx
          have hE := Upd.refl (fun _ => False) W
          refine id (X_len (v := v) (n := ds.length) Try.underlying23 rfl hV.1.sv ?_)
          exact ⟨hE, rfl⟩
        refine ⟨.det (fun val => (ptr b1 (0))), ⟨fun _ _ hv => rfl, fun _ _ _ _ _ => trivial⟩, fun val h_ W hx he => ⟨trivial, ?_⟩, ?_⟩
        · replace hx := (Upd.drew _ _).trans hx
          replace hPf := hPf.ext hx
          replace hV := hV.ext hx
          replace hIf := hIf.ext hx
          replace hBf := hBf.ext hx
          replace hB1 := hB1.ext hx
          replace hB2 := hB2.ext hx
          replace hp := hp.ext hx
          have hE := Upd.refl (fun _ => False) W
          refine id (X_fldP (b := b1) (o := 0) (r := 0) Fd26_0 rfl rfl ?_)
          exact ⟨hE, rfl⟩
        refine ⟨.det (fun val => pv), ⟨fun _ _ hv => rfl, fun _ _ _ _ _ => trivial⟩, fun val h_ W hx he => ⟨trivial, ?_⟩, ?_⟩
        · replace hx := (Upd.drew _ _).trans hx
          replace hPf := hPf.ext hx
          replace hV := hV.ext hx
          replace hIf := hIf.ext hx
          replace hBf := hBf.ext hx
          replace hB1 := hB1.ext hx
          replace hB2 := hB2.ext hx
          replace hp := hp.ext hx
          have hE := Upd.refl (fun _ => False) W
          refine id (X_load (p := (ptr b1 (0))) (v := pv) T22 rfl (hB1.at1 rfl) ?_)
          exact ⟨hE, rfl⟩
        refine ⟨.det (fun val => (.int .i64 (((ps.length : Nat) : Int)))), ⟨fun _ _ hv => rfl, fun _ _ _ _ _ => trivial⟩, fun val h_ W hx he => ⟨trivial, ?_⟩, ?_⟩
        · replace hx := (Upd.drew _ _).trans hx
          replace hPf := hPf.ext hx
          replace hV := hV.ext hx
          replace hIf := hIf.ext hx
          replace hBf := hBf.ext hx
          replace hB1 := hB1.ext hx
          replace hB2 := hB2.ext hx
          replace hp := hp.ext hx
          have hE := Upd.refl (fun _ => False) W
          refine id (X_len (v := pv) (n := ps.length) Try.underlying22 rfl hp.sv ?_)
          exact ⟨hE, rfl⟩
        refine ⟨.det (fun val => (.int .i64 (((ds.length % ps.length : Nat) : Int)))), ⟨fun _ _ hv => rfl, fun _ _ _ _ _ => trivial⟩, fun val h_ W hx he => ⟨trivial, ?_⟩, ?_⟩
        · replace hx := (Upd.drew _ _).trans hx
          replace hPf := hPf.ext hx
          replace hV := hV.ext hx
          replace hIf := hIf.ext hx
          replace hBf := hBf.ext hx
          replace hB1 := hB1.ext hx
          replace hB2 := hB2.ext hx
          replace hp := hp.ext hx
          have hE := Upd.refl (fun _ => False) W
          refine id (X_arith (k := .i64) (a := ((ds.length : Nat) : Int)) (b := ((ps.length : Nat) : Int)) (r := ((ds.length % ps.length : Nat) : Int)) (decide_eq_true (by omega)) rfl rfl (irem64 (by omega) rfl) ?_)
          exact ⟨hE, rfl⟩
        refine ⟨.det (fun val => (.agg (((p.1).map byteV)).toArray)), ⟨fun _ _ hv => rfl, fun _ _ _ _ _ => trivial⟩, fun val h_ W hx he => ⟨trivial, ?_⟩, ?_⟩
        · replace hx := (Upd.drew _ _).trans hx
          replace hPf := hPf.ext hx
          replace hV := hV.ext hx
          replace hIf := hIf.ext hx
          replace hBf := hBf.ext hx
          replace hB1 := hB1.ext hx
          replace hB2 := hB2.ext hx
          replace hp := hp.ext hx
          have hE := Upd.refl (fun _ => False) W
          refine id (X_loadA (p := (ptr b2 (0))) (xs := ((p.1).map byteV)) A28 rfl hB2.atAll (by rw [List.length_map]; exact p.2) ?_)
          exact ⟨hE, rfl⟩
        refine ⟨.det (fun val => (wrV (((ds.length % ps.length : Nat) : Int), p))), ⟨fun _ _ hv => rfl, fun _ _ _ _ _ => trivial⟩, fun val h_ W hx he => ⟨trivial, ?_⟩, ?_⟩
        · replace hx := (Upd.drew _ _).trans hx
          replace hPf := hPf.ext hx
          replace hV := hV.ext hx
          replace hIf := hIf.ext hx
          replace hBf := hBf.ext hx
          replace hB1 := hB1.ext hx
          replace hB2 := hB2.ext hx
          replace hp := hp.ext hx
          have hE := Upd.refl (fun _ => False) W
          refine id (X_build (built43 ((ds.length % ps.length : Nat) : Int) p) ?_)
          exact ⟨hE, rfl⟩
        refine ⟨.abs (fun _ x_ W_ => ∃ b, x_ = .slice (some ⟨b, 0, none⟩) 1 1 ∧ Blk W_ b (LW.cel (((ds.length % ps.length : Nat) : Int), p)).toArray 43), ⟨fun _ _ _ => rfl, fun _ _ _ _ hu h => (by obtain ⟨b, e1, e2⟩ := h; exact ⟨b, e1, e2.ext hu⟩)⟩, fun val h_ W hx he => ⟨trivial, ?_⟩, ?_⟩
        · replace hx := (Upd.drew _ _).trans hx
          replace hPf := hPf.ext hx
          replace hV := hV.ext hx
          replace hIf := hIf.ext hx
          replace hBf := hBf.ext hx
          replace hB1 := hB1.ext hx
          replace hB2 := hB2.ext hx
          replace hp := hp.ext hx
          have hE := Upd.refl (fun _ => False) W
          refine X_buildSliceL (vs := [wrV (((ds.length % ps.length : Nat) : Int), p)]) (c := LW.cel (((ds.length % ps.length : Nat) : Int), p)) S23 (by decide) rfl rfl (List.forall_mem_cons.2 ⟨wr_size _, fun _ h => by cases h⟩) (List.append_nil _) ?_
          intro b w2 hn
          exact ⟨hn.ext, b, rfl, hn.blk⟩
        intro val W33 hx33 he33
        replace hx33 := (Upd.drew _ _).trans hx33
        have hz33 := hx33.size
        replace hPf := hPf.ext hx33
        replace hV := hV.ext hx33
        replace hIf := hIf.ext hx33
        replace hBf := hBf.ext hx33
        replace hB1 := hB1.ext hx33
        replace hB2 := hB2.ext hx33
        replace hp := hp.ext hx33
        replace hU := hU.trans (Ext.upd hx33)
        obtain ⟨⟨bl, hbl, hBl⟩, he33⟩ := he33
        refine L_op rfl (X_append (B := s_f) (n := ds.length) (s := v) (x := .slice (some ⟨bl, 0, none⟩) 1 1) S23 ⟨_, Try.underlying23⟩ rfl hbl hV.1 (m := 1) (ys := LW.cel (((ds.length % ps.length : Nat) : Int), p)) (hBl.rd (o := 0) (n := 1) (c := 1) (sz := 257) (by decide) (by decide) (by rw [LW.len]; rfl) (fun j u hj => by rw [Nat.zero_add]; simpa using hj)) (LW.one (((ds.length % ps.length : Nat) : Int), p) (fun _ h => by cases h)) (by unfold maxLen; omega) (by omega) (by omega) ?_)
        intro v5 w5 hO5 hu5 _
        have hz5 := hu5.size
        have hV5 : NOwn LW w5 43 5 s_f w5.heap.size v5 (ds ++ [(((ds.length % ps.length : Nat) : Int), p)]) := NOwn.of (fun _ => rfl) (hO5.eq (by rw [List.length_append]; rfl) (by rw [List.flatMap_append]; simp)) fun b hb => (hO5.lt hb).2
        replace hPf := NOwn.upd' (fun _ => rfl) hPf hu5 fun b h1 h2 => absurd (hPf.1.types hV.1 h1 h2) (by decide)
        replace hIf := NOwn.upd' (fun _ => rfl) hIf hu5 fun b h1 h2 => absurd (hIf.1.types hV.1 h1 h2) (by decide)
        replace hBf := hBf.upd hu5 fun h => neB hV.1 hBf (by decide) h
        replace hB1 := hB1.upd hu5 fun h => by have h1_ := hV.1.lt h; omega
        replace hB2 := hB2.upd hu5 fun h => by have h1_ := hV.1.lt h; omega
        replace hp := hp.upd hu5 fun i h1 h2 h => by have h1_ := hV.1.lt h; omega
        replace hU := hU.trans (hu5.mono fun i _ h => by have h1_ := hV.1.lt h; show n0 ≤ i; omega)
        obtain ⟨u5, hu5_⟩ : ∃ n, n = w5.heap.size := ⟨_, rfl⟩
        rw [← hu5_] at hV5
        have hmod : ds.length % ps.length < ps.length := Nat.mod_lt _ (by omega)
        have hin5 : InC ps.length (ds ++ [(((ds.length % ps.length : Nat) : Int), p)]) (ds ++ [(((ds.length % ps.length : Nat) : Int), p)]).length := (mayD_push (n := ((ds.length % ps.length : Nat) : Int)) (p := p) ⟨⟨hM.1.1, hM.1.2.1, hdl, fun h => by cases h⟩, hin, hM.2.2⟩ (by omega) (by omega) rfl (by omega)).2.1
        refine L_op rfl (X_fldP (b := b27) (o := 0) (r := 1) Fd26_1 rfl rfl ?_)
        refine L_op0 (X_store (b := b27) (o := 1) T23 rfl rfl hV5.1.sv.one hBf (by show (1 : Nat) < 4; decide) ?_)
        intro w6 hu6 hb6
        have hz6 := hu6.size
        replace hV5 := NOwn.upd' (fun _ => rfl) hV5 hu6 fun b h1 h2 => neB hV5.1 hBf (by decide) (by have h2 : b = b27 := h2; rw [← h2]; exact h1)
        replace hB1 := hB1.upd hu6 fun h => by have h : b1 = b27 := h; omega
        replace hB2 := hB2.upd hu6 fun h => by have h : b2 = b27 := h; omega
        replace hp := hp.upd hu6 fun i h1 h2 h => by have h : i = b27 := h; omega
        replace hU := hU.trans (hu6.mono fun i _ h => by have h : i = b27 := h; show n0 ≤ i; omega)
        replace hPf := hPf.upd hu6 fun i h1 h2 h => by have h : i = b27 := h; omega
        replace hIf := hIf.upd hu6 fun i h1 h2 h => by have h : i = b27 := h; omega
        replace hBf : Blk w6 b27 #[p_f, v5, i_f, .bool false] 26 := hb6
        refine L_nil ?_
        refine B_n ?_
        refine T_n ?_
        exact ⟨rfl, (v5, ds ++ [(((ds.length % ps.length : Nat) : Int), p)]), ⟨⟨by rw [List.length_append, List.length_singleton]; omega, hin5, hPf, hV5.mono (Nat.le_refl _) (by omega), hIf, hBf, hB1, hB2, hp, hU, by omega⟩, (by show 2000 - (ds ++ [(((ds.length % ps.length : Nat) : Int), p)]).length < 2000 - ds.length; rw [List.length_append, List.length_singleton]; omega)⟩, (Out.mk rfl), trivial⟩
      · refine L_op rfl (X_cmp (k := .i64) (a := ((ds.length : Nat) : Int)) (b := 2000) (r := false) rfl rfl rfl (decide_eq_false (p := ((((ds.length : Nat) : Int)) : Int) < ((2000) : Int)) (by omega)) ?_)
        have hdl2 : ds.length = 2000 := by omega
        have hMf : MayD ps.length ds bs false := ⟨⟨hM.1.1, hM.1.2.1, hdl, fun h => by cases h⟩, hin, hM.2.2⟩
        have hzf := askE_ok (n := 1) hMf (by decide) (by omega) rfl
        have hwf := wrE_full hzf (by omega)
        refine L_nil ?_
        refine T_n ?_
        refine W_cf rfl ?_
        refine W_exit ?_
        refine T_e ?_
        refine T_e ?_
        refine B_x ?_
        refine T_n ?_
        refine W_seq ?_
        refine W_reg ?_
        refine L_op rfl (X_loadA (p := (ptr b27 (0))) (xs := [p_f, v, i_f, (.bool (false))]) A26 rfl hBf.atAll rfl ?_)
        refine L_op rfl (X_loadA (p := (ptr b2 (0))) (xs := ((p.1).map byteV)) A28 rfl hB2.atAll (by rw [List.length_map]; exact p.2) ?_)
        obtain ⟨s_c, hs_c⟩ : ∃ n, n = w31.heap.size := ⟨_, rfl⟩
        refine L_op rfl (X_fn (vs := [(.agg ([p_f, v, i_f, (.bool (false))]).toArray), (.int .i64 (1)), (.agg (((p.1).map byteV)).toArray)]) en12 rfl (CT.mono (c_write p_f v i_f ps ds bs false 1 p _ s_f u_v (by omega) (hPf.rd.mono (Nat.le_refl _) hufv) hV.rd (hIf.rd.mono (Nat.le_refl _) hufv) (by omega) (by omega) (by omega)) ?_))
        rintro _ w34 ⟨p_c, c_c, i_c, rfl, hPc, hCc, hIc, hu34⟩
        have hz34 := hu34.size
        replace hPf := hPf.ext hu34
        replace hV := hV.ext hu34
        replace hIf := hIf.ext hu34
        replace hBf := hBf.ext hu34
        replace hB1 := hB1.ext hu34
        replace hB2 := hB2.ext hu34
        replace hp := hp.ext hu34
        replace hU := hU.trans (Ext.upd hu34)
        rw [hwf]
        rw [write_no p hwf (by decide)] at hCc
        obtain ⟨u_c, hu_c⟩ : ∃ n, n = w34.heap.size := ⟨_, rfl⟩
        rw [← hs_c, ← hu_c] at hPc hCc hIc
        refine L_op rfl (X_move (v := (.tuple #[(.agg #[p_c, c_c, i_c, (.bool (false))]), (.int .i64 (32))])) rfl ?_)
        refine L_op rfl (X_extract (l := [(.agg #[p_c, c_c, i_c, (.bool (false))]), (.int .i64 (32))]) (v := (.agg #[p_c, c_c, i_c, (.bool (false))])) rfl rfl ?_)
        refine L_op rfl (X_extract (l := [(.agg #[p_c, c_c, i_c, (.bool (false))]), (.int .i64 (32))]) (v := (.int .i64 (32))) rfl rfl ?_)
        refine L_op rfl (X_alloc (z := (.agg #[(.slice none 0 0), (.slice none 0 0), (.slice none 0 0), (.bool (false))])) (c := #[(.slice none 0 0), (.slice none 0 0), (.slice none 0 0), (.bool (false))]) Zv26 rfl ?_)
        intro b35 w35 hn35
        have hbn35 := hn35.num; have hbs35 := hn35.size
        replace hPf := hPf.ext hn35.ext
        replace hV := hV.ext hn35.ext
        replace hIf := hIf.ext hn35.ext
        replace hBf := hBf.ext hn35.ext
        replace hB1 := hB1.ext hn35.ext
        replace hB2 := hB2.ext hn35.ext
        replace hp := hp.ext hn35.ext
        replace hU := hU.trans (Ext.upd hn35.ext)
        replace hPc := hPc.ext hn35.ext
        replace hCc := hCc.ext hn35.ext
        replace hIc := hIc.ext hn35.ext
        have hB35 := hn35.blk
        refine L_op0 (X_storeW (b := b35) (ys := [p_c, c_c, i_c, (.bool (false))]) A26 rfl rfl (List.forall_mem_cons.2 ⟨(hPc.1.sv.one), (List.forall_mem_cons.2 ⟨(hCc.1.sv.one), (List.forall_mem_cons.2 ⟨(hIc.1.sv.one), (List.forall_mem_cons.2 ⟨rfl, (fun _ h => by cases h)⟩)⟩)⟩)⟩) rfl hB35 rfl ?_)
        intro w36 hu36 hb36
        have hz36 := hu36.size
        replace hPf := hPf.upd hu36 fun i h1 h2 h => by have h : i = b35 := h; omega
        replace hV := hV.upd hu36 fun i h1 h2 h => by have h : i = b35 := h; omega
        replace hIf := hIf.upd hu36 fun i h1 h2 h => by have h : i = b35 := h; omega
        replace hBf := hBf.upd hu36 fun h => by have h : b27 = b35 := h; omega
        replace hB1 := hB1.upd hu36 fun h => by have h : b1 = b35 := h; omega
        replace hB2 := hB2.upd hu36 fun h => by have h : b2 = b35 := h; omega
        replace hp := hp.upd hu36 fun i h1 h2 h => by have h : i = b35 := h; omega
        replace hU := hU.trans (hu36.mono fun i _ h => by have h : i = b35 := h; show n0 ≤ i; omega)
        replace hPc := hPc.upd hu36 fun i h1 h2 h => by have h : i = b35 := h; omega
        replace hCc := hCc.upd hu36 fun i h1 h2 h => by have h : i = b35 := h; omega
        replace hIc := hIc.upd hu36 fun i h1 h2 h => by have h : i = b35 := h; omega
        replace hB35 : Blk w36 b35 #[p_c, c_c, i_c, (.bool (false))] 26 := hb36
        refine L_op rfl (X_assign (v := (.int .i64 (32))) rfl ?_)
        refine L_nil ?_
        refine T_n ?_
        refine W_seq ?_
        refine W_reg ?_
        refine L_op rfl (X_move (v := (.int .i64 (32))) rfl ?_)
        refine L_op rfl (X_cmp (k := .i64) (a := 32) (b := 32) (r := true) rfl rfl rfl rfl ?_)
        refine L_op rfl (X_move (v := (.bool (true))) rfl ?_)
        refine L_gy (dj := 114) rfl rfl rfl (X_loadA (p := (ptr b35 (0))) (xs := [p_c, c_c, i_c, (.bool (false))]) A26 rfl hB35.atAll rfl ?_)
        refine L_gy (dj := 114) rfl rfl rfl (X_loadA (p := (ptr b27 (0))) (xs := [p_f, v, i_f, (.bool (false))]) A26 rfl hBf.atAll rfl ?_)
        refine L_gy (dj := 114) rfl rfl rfl (X_fn (vs := [(.agg ([p_c, c_c, i_c, (.bool (false))]).toArray), (.agg ([p_f, v, i_f, (.bool (false))]).toArray)]) en18 rfl (CT.mono (c_same p_c c_c i_c ps ds bs false p_f v i_f ps ds bs false _ s_c u_c s_f u_v hPc.rd hCc.rd hIc.rd (hPf.rd.mono (Nat.le_refl _) hufv) hV.rd (hIf.rd.mono (Nat.le_refl _) hufv)) ?_))
        rintro _ w37 ⟨⟨g37, rfl, hg37⟩, hu37⟩
        have hz37 := hu37.size
        replace hPf := hPf.ext hu37
        replace hV := hV.ext hu37
        replace hIf := hIf.ext hu37
        replace hBf := hBf.ext hu37
        replace hB1 := hB1.ext hu37
        replace hB2 := hB2.ext hu37
        replace hp := hp.ext hu37
        replace hU := hU.trans (Ext.upd hu37)
        replace hPc := hPc.ext hu37
        replace hCc := hCc.ext hu37
        replace hIc := hIc.ext hu37
        replace hB35 := hB35.ext hu37
        obtain rfl : g37 = true := hg37.2 ⟨rfl, rfl, rfl, rfl⟩
        refine L_op rfl (X_pick (t := true) (v := (.bool (true))) rfl rfl ?_)
        refine L_op rfl (X_move (v := (.bool (true))) rfl ?_)
        refine L_gy (dj := 119) rfl rfl rfl (X_loadA (p := (ptr b27 (0))) (xs := [p_f, v, i_f, (.bool (false))]) A26 rfl hBf.atAll rfl ?_)
        refine L_gy (dj := 119) rfl rfl rfl (X_fn (vs := [(.agg ([p_f, v, i_f, (.bool (false))]).toArray)]) en15 rfl (CT.mono (c_may p_f v i_f ps ds bs false _ s_f u_v (by omega) (hPf.rd.mono (Nat.le_refl _) hufv) hV.rd (hIf.rd.mono (Nat.le_refl _) hufv)) ?_))
        rintro _ w38 ⟨⟨g38, rfl, hg38⟩, hu38⟩
        have hz38 := hu38.size
        replace hPf := hPf.ext hu38
        replace hV := hV.ext hu38
        replace hIf := hIf.ext hu38
        replace hBf := hBf.ext hu38
        replace hB1 := hB1.ext hu38
        replace hB2 := hB2.ext hu38
        replace hp := hp.ext hu38
        replace hU := hU.trans (Ext.upd hu38)
        replace hPc := hPc.ext hu38
        replace hCc := hCc.ext hu38
        replace hIc := hIc.ext hu38
        replace hB35 := hB35.ext hu38
        obtain rfl : g38 = true := hg38.2 hMf
        refine L_op rfl (X_pick (t := true) (v := (.bool (true))) rfl rfl ?_)
        refine L_op rfl (X_move (v := (.bool (true))) rfl ?_)
        refine L_gy (dj := 123) rfl rfl rfl (X_fn (vs := []) en10 rfl (CT.mono (c_wakes _) ?_))
        rintro vb39 w39 ⟨hvb39, hu39⟩
        have hz39 := hu39.size
        replace hPf := hPf.ext hu39
        replace hV := hV.ext hu39
        replace hIf := hIf.ext hu39
        replace hBf := hBf.ext hu39
        replace hB1 := hB1.ext hu39
        replace hB2 := hB2.ext hu39
        replace hp := hp.ext hu39
        replace hU := hU.trans (Ext.upd hu39)
        replace hPc := hPc.ext hu39
        replace hCc := hCc.ext hu39
        replace hIc := hIc.ext hu39
        replace hB35 := hB35.ext hu39
        subst hvb39
        refine L_op rfl (X_pick (t := true) (v := (.bool (true))) rfl rfl ?_)
        refine L_op rfl (X_assign (v := (.bool (true))) rfl ?_)
        refine L_nil ?_
        refine T_n ?_
        refine W_ret ?_
        exact BQ_r (End_1 Try.results5 (v := .bool true) rfl ⟨rfl, hU.own hn0⟩)
    · rw [hc7]
      refine L_gy (dj := 17) rfl rfl rfl (X_not (b := false) (r := true) rfl rfl ?_)
      refine L_op rfl (X_pick (t := false) (v := (.bool (true))) rfl rfl ?_)
      refine L_nil ?_
      refine T_n ?_
      refine W_ct rfl ?_
      refine W_seq ?_
      refine W_reg ?_
      refine L_op rfl (X_fn (vs := []) en10 rfl (CT.mono (c_wakes _) ?_))
      rintro vb40 w40 ⟨hvb40, hu40⟩
      have hz40 := hu40.size
      replace hp := hp.ext hu40
      replace hc := hc.ext hu40
      replace hb := hb.ext hu40
      replace hU := hU.trans (Ext.upd hu40)
      replace hB1 := hB1.ext hu40
      replace hB2 := hB2.ext hu40
      subst hvb40
      refine L_op rfl (X_assign (v := (.bool (true))) rfl ?_)
      refine L_nil ?_
      refine T_n ?_
      refine W_ret ?_
      refine T_r ?_
      exact BQ_r (End_1 Try.results5 (v := .bool true) rfl ⟨rfl, hU.own hn0⟩)
end Go.Proofs.Ythongcaijgfojaa
