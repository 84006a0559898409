/-
  Contracts of chapter 04: wakes. (Printed by wip/gen/t04e.py of this repo.)
-/
import Derived.Test.YtfmgjkchhajpmaaDkD
namespace Go.Proofs.Ytfmgjkchhajpmaa
open Go Go.SL Go.Proofs
set_option linter.unusedVariables false

theorem c_spoilno (pv cv bv : Value) (ps : List Pg) (cs : List Wr) (bs : List Int) (off : Bool) (n : Int) (w : World) (lo up : Nat) (hup : up ≤ w.heap.size) (hp : NRd LP w lo up pv ps) (hc : NRd LW w lo up cv cs) (hb : NRd LI w lo up bv bs) (hpL : ps.length ≤ 1048576) (hcL : cs.length ≤ 1048576) (hbL : bs.length ≤ 1048576) (hno : ¬ (0 ≤ n ∧ n < ps.length)) : CT Try.prog 15 #[(.agg #[pv, cv, bv, (.bool (off))]), (.int .i64 (n))] w fun v w' => ∃ p2 c2 i2, v = .tuple #[.agg #[p2, c2, i2, .bool off], .int .i64 2] ∧ NOwn LP w' 33 5 w.heap.size w'.heap.size p2 ps ∧ NOwn LW w' 35 5 w.heap.size w'.heap.size c2 cs ∧ NOwn LI w' 3 5 w.heap.size w'.heap.size i2 bs ∧ Ext w w' := by
  obtain ⟨n0, hn0⟩ : ∃ n, n = w.heap.size := ⟨_, rfl⟩
  have hU : Upd (fun i => n0 ≤ i) w w := Upd.refl _ _
  have hpl := hp.sv.len
  have hcl := hc.sv.len
  have hbl := hb.sv.len
  rw [← hn0] at hup
  refine CT_of Try.func15 rfl rfl rfl ?_
  refine W_seq ?_
  refine W_reg ?_
  refine L_op rfl (X_box (v := (.agg #[pv, cv, bv, (.bool (off))])) (c := ([pv, cv, bv, (.bool (off))]).toArray) rfl rfl ?_)
  intro b1 w1 hn1
  have hbn1 := hn1.num; have hbs1 := hn1.size
  replace hp := hp.ext hn1.ext
  replace hc := hc.ext hn1.ext
  replace hb := hb.ext hn1.ext
  replace hU := hU.trans (Ext.upd hn1.ext)
  have hB1 := hn1.blk
  refine L_op rfl (X_alloc (z := (.agg #[(.slice none 0 0), (.slice none 0 0), (.slice none 0 0), (.bool (false))])) (c := #[(.slice none 0 0), (.slice none 0 0), (.slice none 0 0), (.bool (false))]) Zv26 rfl ?_)
  intro b2 w2 hn2
  have hbn2 := hn2.num; have hbs2 := hn2.size
  replace hp := hp.ext hn2.ext
  replace hc := hc.ext hn2.ext
  replace hb := hb.ext hn2.ext
  replace hU := hU.trans (Ext.upd hn2.ext)
  replace hB1 := hB1.ext hn2.ext
  have hB2 := hn2.blk
  refine L_op rfl (X_assign (v := (.int .i64 (0))) rfl ?_)
  refine L_nil ?_
  refine T_n ?_
  refine W_seq ?_
  refine W_reg ?_
  refine L_op rfl (X_loadA (p := (ptr b1 (0))) (xs := [pv, cv, bv, (.bool (off))]) A26 rfl hB1.atAll rfl ?_)
  obtain ⟨s0, hs0⟩ : ∃ n, n = w2.heap.size := ⟨_, rfl⟩
  refine L_op rfl (X_fn (vs := [(.agg ([pv, cv, bv, (.bool (off))]).toArray)]) en25 rfl (CT.mono (c_own pv cv bv ps cs bs off _ lo up (by omega) hp hc hb hpL hcL hbL) ?_))
  rintro _ w3 ⟨p_2, c_2, i_2, rfl, hP2, hC2, hI2, hu3⟩
  have hz3 := hu3.size
  rw [← hs0] at hP2 hC2 hI2
  obtain ⟨us0, hus0_⟩ : ∃ n, n = w3.heap.size := ⟨_, rfl⟩
  rw [← hus0_] at hP2 hC2 hI2
  replace hp := hp.ext hu3
  replace hc := hc.ext hu3
  replace hb := hb.ext hu3
  replace hU := hU.trans (Ext.upd hu3)
  replace hB1 := hB1.ext hu3
  replace hB2 := hB2.ext hu3
  refine L_op0 (X_storeW (b := b1) (ys := [p_2, c_2, i_2, (.bool (off))]) A26 rfl rfl (List.forall_mem_cons.2 ⟨(hP2.1.sv.one), (List.forall_mem_cons.2 ⟨(hC2.1.sv.one), (List.forall_mem_cons.2 ⟨(hI2.1.sv.one), (List.forall_mem_cons.2 ⟨rfl, (fun _ h => by cases h)⟩)⟩)⟩)⟩) rfl hB1 rfl ?_)
  intro w4 hu4 hb4
  have hz4 := hu4.size
  replace hp := hp.upd hu4 fun i h1 h2 h => by have h : i = b1 := h; omega
  replace hc := hc.upd hu4 fun i h1 h2 h => by have h : i = b1 := h; omega
  replace hb := hb.upd hu4 fun i h1 h2 h => by have h : i = b1 := h; omega
  replace hU := hU.trans (hu4.mono fun i _ h => by have h : i = b1 := h; show n0 ≤ i; omega)
  replace hB2 := hB2.upd hu4 fun h => by have h : b2 = b1 := h; omega
  replace hP2 := hP2.upd hu4 fun i h1 h2 h => by have h : i = b1 := h; omega
  replace hC2 := hC2.upd hu4 fun i h1 h2 h => by have h : i = b1 := h; omega
  replace hI2 := hI2.upd hu4 fun i h1 h2 h => by have h : i = b1 := h; omega
  replace hB1 : Blk w4 b1 #[p_2, c_2, i_2, (.bool (off))] 26 := hb4
  refine L_nil ?_
  refine T_n ?_
  refine W_seq ?_
  refine W_seq ?_
  refine W_reg ?_
  refine L_op rfl (X_move (v := (.int .i64 (n))) rfl ?_)
  by_cases hc5 : (n : Int) < (0)
  · refine L_op rfl (X_cmp (k := .i64) (a := n) (b := 0) (r := true) rfl rfl rfl (decide_eq_true (p := ((n) : Int) < ((0) : Int)) (by omega)) ?_)
    refine L_op rfl (X_move (v := (.bool (true))) rfl ?_)
    refine L_gn (dj := 12) (t := true) rfl rfl rfl rfl ?_
    refine L_gn (dj := 12) (t := true) rfl rfl rfl rfl ?_
    refine L_gn (dj := 12) (t := true) rfl rfl rfl rfl ?_
    refine L_gn (dj := 12) (t := true) rfl rfl rfl rfl ?_
    refine L_gn (dj := 12) (t := true) rfl rfl rfl rfl ?_
    refine L_op rfl (X_pick (t := true) (v := (.bool (true))) rfl rfl ?_)
    refine L_nil ?_
    refine T_n ?_
    refine W_ct rfl ?_
    refine W_seq ?_
    refine W_reg ?_
    refine L_op rfl (X_loadA (p := (ptr b1 (0))) (xs := [p_2, c_2, i_2, (.bool (off))]) A26 rfl hB1.atAll rfl ?_)
    refine L_op0 (X_storeW (b := b2) (ys := [p_2, c_2, i_2, (.bool (off))]) A26 rfl rfl (List.forall_mem_cons.2 ⟨(hP2.1.sv.one), (List.forall_mem_cons.2 ⟨(hC2.1.sv.one), (List.forall_mem_cons.2 ⟨(hI2.1.sv.one), (List.forall_mem_cons.2 ⟨rfl, (fun _ h => by cases h)⟩)⟩)⟩)⟩) rfl hB2 rfl ?_)
    intro w6 hu6 hb6
    have hz6 := hu6.size
    replace hp := hp.upd hu6 fun i h1 h2 h => by have h : i = b2 := h; omega
    replace hc := hc.upd hu6 fun i h1 h2 h => by have h : i = b2 := h; omega
    replace hb := hb.upd hu6 fun i h1 h2 h => by have h : i = b2 := h; omega
    replace hU := hU.trans (hu6.mono fun i _ h => by have h : i = b2 := h; show n0 ≤ i; omega)
    replace hP2 := hP2.upd hu6 fun i h1 h2 h => by have h : i = b2 := h; omega
    replace hC2 := hC2.upd hu6 fun i h1 h2 h => by have h : i = b2 := h; omega
    replace hI2 := hI2.upd hu6 fun i h1 h2 h => by have h : i = b2 := h; omega
    replace hB1 := hB1.upd hu6 fun h => by have h : b1 = b2 := h; omega
    replace hB2 : Blk w6 b2 #[p_2, c_2, i_2, (.bool (off))] 26 := hb6
    refine L_op rfl (X_assign (v := (.int .i64 (2))) rfl ?_)
    refine L_nil ?_
    refine T_n ?_
    refine W_ret ?_
    refine T_r ?_
    exact BQ_r (End_2 Try.results15 (RV_A A26 rfl hB2.atAll rfl) (v2 := .int .i64 2) rfl ⟨_, _, _, rfl, hP2.mono (by omega) (by omega), hC2.mono (by omega) (by omega), hI2.mono (by omega) (by omega), hU.own hn0⟩)
  · refine L_op rfl (X_cmp (k := .i64) (a := n) (b := 0) (r := false) rfl rfl rfl (decide_eq_false (p := ((n) : Int) < ((0) : Int)) (by omega)) ?_)
    refine L_op rfl (X_move (v := (.bool (false))) rfl ?_)
    refine L_gy (dj := 12) rfl rfl rfl (X_move (v := (.int .i64 (n))) rfl ?_)
    refine L_gy (dj := 12) rfl rfl rfl (X_fldP (b := b1) (o := 0) (r := 0) Fd26_0 rfl rfl ?_)
    refine L_gy (dj := 12) rfl rfl rfl (X_load (p := (ptr b1 (0))) (v := p_2) T22 rfl (hB1.at1 rfl) ?_)
    refine L_gy (dj := 12) rfl rfl rfl (X_len (v := p_2) (n := ps.length) Try.underlying22 rfl hP2.1.sv ?_)
    by_cases hc7 : (n : Int) ≥ (((ps.length : Nat) : Int))
    · refine L_gy (dj := 12) rfl rfl rfl (X_cmp (k := .i64) (a := n) (b := ((ps.length : Nat) : Int)) (r := true) rfl rfl rfl (decide_eq_true (p := ((((ps.length : Nat) : Int)) : Int) ≤ ((n) : Int)) (by omega)) ?_)
      refine L_op rfl (X_pick (t := false) (v := (.bool (true))) rfl rfl ?_)
      refine L_nil ?_
      refine T_n ?_
      refine W_ct rfl ?_
      refine W_seq ?_
      refine W_reg ?_
      refine L_op rfl (X_loadA (p := (ptr b1 (0))) (xs := [p_2, c_2, i_2, (.bool (off))]) A26 rfl hB1.atAll rfl ?_)
      refine L_op0 (X_storeW (b := b2) (ys := [p_2, c_2, i_2, (.bool (off))]) A26 rfl rfl (List.forall_mem_cons.2 ⟨(hP2.1.sv.one), (List.forall_mem_cons.2 ⟨(hC2.1.sv.one), (List.forall_mem_cons.2 ⟨(hI2.1.sv.one), (List.forall_mem_cons.2 ⟨rfl, (fun _ h => by cases h)⟩)⟩)⟩)⟩) rfl hB2 rfl ?_)
      intro w8 hu8 hb8
      have hz8 := hu8.size
      replace hp := hp.upd hu8 fun i h1 h2 h => by have h : i = b2 := h; omega
      replace hc := hc.upd hu8 fun i h1 h2 h => by have h : i = b2 := h; omega
      replace hb := hb.upd hu8 fun i h1 h2 h => by have h : i = b2 := h; omega
      replace hU := hU.trans (hu8.mono fun i _ h => by have h : i = b2 := h; show n0 ≤ i; omega)
      replace hP2 := hP2.upd hu8 fun i h1 h2 h => by have h : i = b2 := h; omega
      replace hC2 := hC2.upd hu8 fun i h1 h2 h => by have h : i = b2 := h; omega
      replace hI2 := hI2.upd hu8 fun i h1 h2 h => by have h : i = b2 := h; omega
      replace hB1 := hB1.upd hu8 fun h => by have h : b1 = b2 := h; omega
      replace hB2 : Blk w8 b2 #[p_2, c_2, i_2, (.bool (off))] 26 := hb8
      refine L_op rfl (X_assign (v := (.int .i64 (2))) rfl ?_)
      refine L_nil ?_
      refine T_n ?_
      refine W_ret ?_
      refine T_r ?_
      exact BQ_r (End_2 Try.results15 (RV_A A26 rfl hB2.atAll rfl) (v2 := .int .i64 2) rfl ⟨_, _, _, rfl, hP2.mono (by omega) (by omega), hC2.mono (by omega) (by omega), hI2.mono (by omega) (by omega), hU.own hn0⟩)
    · exact absurd ⟨by omega, by omega⟩ hno

theorem built35w : Try.prog.built 35 [(0, .int .i64 1)] = some (LW.cel (1, default)).toArray := by
  have h : Try.prog.built 35 [(0, .int .i64 1)] = some (Value.int .i64 1 :: List.replicate 256 (.int .u8 0)).toArray := by kernel_rfl
  rw [h]
  show _ = some (Value.int .i64 1 :: (List.replicate 256 (0 : UInt8)).map byteV).toArray
  rw [List.map_replicate]; rfl
theorem built26q (a b c : Option Addr) (n1 n2 n3 c1 c2 c3 : Nat) : Try.prog.built 26 [(0, .slice a n1 c1), (1, .slice b n2 c2), (2, .slice c n3 c3)] = some #[.slice a n1 c1, .slice b n2 c2, .slice c n3 c3, .bool false] := by kernel_rfl
theorem half_lo {o n : Pg} {x : UInt8} (h : n.1[0]? = some x) : (halfP o n).1[0]? = some x := by
  show (n.1.take 128 ++ o.1.drop 128)[0]? = _
  rw [List.getElem?_append_left (by rw [List.length_take, n.2]; decide), List.getElem?_take_of_lt (by decide), h]
theorem half_hi {o n : Pg} : (halfP o n).1[255]? = o.1[255]? := by
  show (n.1.take 128 ++ o.1.drop 128)[255]? = _
  have hl : (n.1.take 128).length = 128 := by rw [List.length_take, n.2]; rfl
  rw [List.getElem?_append_right (by omega), hl, List.getElem?_drop]
theorem crash1 (ps : List Pg) (p : Pg) (hl : ps.length = 2) : crSt ps [1] [(1, p)] [2] 1 = (ps.set 1 (halfP (ps.getD 1 default) p), []) :=
  crSt_do (ps := ps) (bs := [1]) (cs := [(1, p)]) (ls := [2]) (k := 0) (e := (1, p)) (qs := ps) (as_ := [1]) rfl rfl rfl (by
    rw [hl]
    rintro (h | h | h)
    · exact absurd (show (2 : Nat) = 0 from h) (by decide)
    · exact absurd (show (1 : Int) < 0 from h) (by decide)
    · exact absurd (show ((2 : Nat) : Int) ≤ 1 from h) (by decide)) rfl
theorem pg_zero (k : Nat) (h : k < 256) : (default : Pg).1[k]? = some 0 := by
  show (List.replicate 256 (0 : UInt8))[k]? = _
  rw [List.getElem?_replicate, if_pos h]
theorem byte_at {w : World} {v : Value} {lo up i k : Nat} {ps : List Pg} {p : Pg} {x : UInt8} (h : NRd LP w lo up v ps) (hp : ps[i]? = some p) (hx : p.1[k]? = some x) {o : Nat} (ho : o = i * 256 + k) : At w (pof v o) [byteV x] := by
  subst ho
  exact h.1.cell (flat_at (L := LP) hp (by show (p.1.map byteV)[k]? = _; rw [List.getElem?_map, hx]; rfl))

set_option maxRecDepth 10000 in
set_option maxHeartbeats 400000 in
theorem c_wakes4 (w : World) : CT Try.prog 8 #[] w fun v w' => v = .bool true ∧ Ext w w' := by
  obtain ⟨n0, hn0⟩ : ∃ n, n = w.heap.size := ⟨_, rfl⟩
  have hU : Upd (fun i => n0 ≤ i) w w := Upd.refl _ _
  refine CT_of Try.func8 rfl rfl rfl ?_
  refine W_seq ?_
  refine W_reg ?_
  refine L_op rfl (X_assign (v := (.bool (false))) rfl ?_)
  refine L_nil ?_
  refine T_n ?_
  refine W_seq ?_
  refine W_reg ?_
  obtain ⟨s_p, hs_p⟩ : ∃ n, n = w.heap.size := ⟨_, rfl⟩
  refine L_op rfl (X_makeSliceL (n := 2) LP default S22 zv33_cells rfl rfl (by decide) (by decide) (by decide) ?_)
  intro bm wm hnm
  have hbnm := hnm.num; have hbsm := hnm.size
  replace hU := hU.trans (Ext.upd hnm.ext)
  have hBm := hnm.blk
  obtain ⟨ps, hps⟩ : ∃ l, l = List.replicate 2 (default : Pg) := ⟨_, rfl⟩
  have hpl : ps.length = 2 := by rw [hps]; rfl
  rw [← hps] at hBm
  have hmM : (ps.flatMap LP.cel).length = 2 * 256 := by rw [flat_len, hpl]; rfl
  have hM : Own wm bm 33 256 (.slice (some ⟨bm, 0, none⟩) 2 2) 2 (ps.flatMap LP.cel) := ⟨hmM, _, _, rfl, Nat.le_refl _, by unfold maxLen; omega, .inr ⟨bm, _, rfl, Nat.le_refl _, hBm, by rw [List.size_toArray, hmM]; exact Nat.le_refl _, by rw [List.take_of_length_le (Nat.le_of_eq hmM)]⟩⟩
  have hp : NRd LP wm bm wm.heap.size (.slice (some ⟨bm, 0, none⟩) 2 2) ps := NRd.of (fun _ => rfl) (hM.rd.eq hpl.symm rfl) (fun b hb => hM.lt (hM.rbk_obk hb))
  obtain ⟨um, hum⟩ : ∃ n, n = wm.heap.size := ⟨_, rfl⟩
  rw [← hum] at hp
  refine L_op rfl (X_build built35w ?_)
  refine L_op rfl (X_buildSliceL (vs := [wrV (1, default)]) (c := LW.cel (1, default)) S23 (by decide) rfl rfl (List.forall_mem_cons.2 ⟨wr_size _, fun _ h => by cases h⟩) (List.append_nil _) ?_)
  intro bc wc hnc
  have hbnc := hnc.num; have hbsc := hnc.size
  replace hU := hU.trans (Ext.upd hnc.ext)
  replace hp := hp.ext hnc.ext
  have hBc := hnc.blk
  have hVo : Own wc bc 35 257 (.slice (some ⟨bc, 0, none⟩) 1 1) 1 ([((1 : Int), (default : Pg))].flatMap LW.cel) := ⟨by rw [flat_len] <;> rfl, _, _, rfl, Nat.le_refl _, by unfold maxLen; decide, .inr ⟨bc, _, rfl, Nat.le_refl _, hBc, by rw [wr_size]; decide, by rw [List.take_of_length_le (by rw [List.toList_toArray, LW.len]; decide)]; simp⟩⟩
  have hV : NOwn LW wc 35 5 bc wc.heap.size (.slice (some ⟨bc, 0, none⟩) 1 1) [((1 : Int), (default : Pg))] := NOwn.of (fun _ => rfl) hVo fun b hb => (hVo.lt hb).2
  obtain ⟨uc, huc⟩ : ∃ n, n = wc.heap.size := ⟨_, rfl⟩
  rw [← huc] at hV
  have hvsv : SV (.slice (some ⟨bc, 0, none⟩) 1 1) 1 := hV.1.sv
  refine L_op rfl (X_buildSlice1 (vs := [(.int .i64 (1))]) S24 (by decide) rfl rfl (List.forall_mem_cons.2 ⟨rfl, (fun _ h => by cases h)⟩) ?_)
  intro b1 w1 hn1
  have hbn1 := hn1.num; have hbs1 := hn1.size
  replace hU := hU.trans (Ext.upd hn1.ext)
  replace hp := hp.ext hn1.ext
  replace hV := hV.ext hn1.ext
  have hB1 := hn1.blk
  have hb : NRd LI w1 b1 w1.heap.size (.slice (some ⟨b1, 0, none⟩) 1 1) [1] := NRd.of (fun _ => rfl) (hB1.rd (o := 0) (n := 1) (c := 1) (sz := 1) (by decide) (by decide) rfl (fun j u hj => by rw [Nat.zero_add]; simpa [LI] using hj)) (fun b hb => by cases hb; exact ⟨Nat.le_refl _, hB1.lt⟩)
  obtain ⟨ub, hub⟩ : ∃ n, n = w1.heap.size := ⟨_, rfl⟩
  rw [← hub] at hb
  have hbsv : SV (.slice (some ⟨b1, 0, none⟩) 1 1) 1 := hb.sv
  refine L_op rfl (X_build (built26q _ _ _ _ _ _ _ _ _) ?_)
  refine L_op rfl (X_alloc (z := (.agg #[(.slice none 0 0), (.slice none 0 0), (.slice none 0 0), (.bool (false))])) (c := #[(.slice none 0 0), (.slice none 0 0), (.slice none 0 0), (.bool (false))]) Zv26 rfl ?_)
  intro b2 w2 hn2
  have hbn2 := hn2.num; have hbs2 := hn2.size
  replace hU := hU.trans (Ext.upd hn2.ext)
  replace hp := hp.ext hn2.ext
  replace hV := hV.ext hn2.ext
  replace hb := hb.ext hn2.ext
  have hB2 := hn2.blk
  refine L_op0 (X_storeW (b := b2) (ys := [(.slice (some ⟨bm, 0, none⟩) 2 2), (.slice (some ⟨bc, 0, none⟩) 1 1), (.slice (some ⟨b1, 0, none⟩) 1 1), (.bool (false))]) A26 rfl rfl (List.forall_mem_cons.2 ⟨rfl, (List.forall_mem_cons.2 ⟨rfl, (List.forall_mem_cons.2 ⟨rfl, (List.forall_mem_cons.2 ⟨rfl, (fun _ h => by cases h)⟩)⟩)⟩)⟩) rfl hB2 rfl ?_)
  intro w3 hu3 hb3
  have hz3 := hu3.size
  replace hU := hU.trans (hu3.mono fun i _ h => by have h : i = b2 := h; show n0 ≤ i; omega)
  replace hp := hp.upd hu3 fun i h1 h2 h => by have h : i = b2 := h; omega
  replace hV := hV.upd hu3 fun i h1 h2 h => by have h : i = b2 := h; omega
  replace hb := hb.upd hu3 fun i h1 h2 h => by have h : i = b2 := h; omega
  replace hB2 : Blk w3 b2 #[(.slice (some ⟨bm, 0, none⟩) 2 2), (.slice (some ⟨bc, 0, none⟩) 1 1), (.slice (some ⟨b1, 0, none⟩) 1 1), (.bool (false))] 26 := hb3
  refine L_nil ?_
  refine T_n ?_
  refine W_seq ?_
  refine W_seq ?_
  refine W_reg ?_
  refine L_op rfl (X_assign (v := (.int .i64 (0))) rfl ?_)
  refine L_nil ?_
  refine T_n ?_
  refine W_block ?_
  have hbdl0 := hB2.lt
  refine W_loop (α := Nat × Pg) [2, 13, 14, 15, 16, 17, 18, 19, 20, 21, 22] (fun ⟨i, pg⟩ => [(2, (.int .i64 (((i : Nat) : Int))))]) (fun ⟨i, pg⟩ w_ => i ≤ 256 ∧ (∀ j, j < i → pg.1[j]? = some 7) ∧ NRd LP w_ bm um (.slice (some ⟨bm, 0, none⟩) 2 2) ps ∧ NOwn LW w_ 35 5 bc uc (.slice (some ⟨bc, 0, none⟩) 1 1) [((1 : Int), pg)] ∧ NRd LI w_ b1 ub (.slice (some ⟨b1, 0, none⟩) 1 1) [1] ∧ Blk w_ b2 #[(.slice (some ⟨bm, 0, none⟩) 2 2), (.slice (some ⟨bc, 0, none⟩) 1 1), (.slice (some ⟨b1, 0, none⟩) 1 1), (.bool (false))] 26 ∧ Upd (fun i => n0 ≤ i) w w_ ∧ ub < w_.heap.size) (fun ⟨i, pg⟩ => 256 - i) ⟨rfl, (0, default), ⟨by decide, fun j h => absurd h (Nat.not_lt_zero j), hp, hV, hb, hB2, hU, by omega⟩, Out.refl _ _, ⟨rfl, trivial⟩⟩ ?_
  rintro ⟨i, pg⟩ w4 _ ⟨hil, h7, hp, hV, hb, hB2, hU, hubw⟩
  have hsz_ := hU.size
  have hbdl := hB2.lt
  refine W_seq ?_
  refine W_seq ?_
  refine W_reg ?_
  refine L_op rfl (X_move (v := (.int .i64 (((i : Nat) : Int)))) rfl ?_)
  by_cases hc5 : (((i : Nat) : Int) : Int) < (256)
  · refine L_op rfl (X_cmp (k := .i64) (a := ((i : Nat) : Int)) (b := 256) (r := true) rfl rfl rfl (decide_eq_true (p := ((((i : Nat) : Int)) : Int) < ((256) : Int)) (by omega)) ?_)
    have hi : i < 256 := by omega
    refine L_nil ?_
    refine T_n ?_
    refine W_ct rfl ?_
    refine W_skip ?_
    refine T_n ?_
    refine W_seq ?_
    refine W_block ?_
    refine W_reg ?_
    refine L_op rfl (X_fldP (b := b2) (o := 0) (r := 1) Fd26_1 rfl rfl ?_)
    refine L_op rfl (X_load (p := (ptr b2 (1))) (v := (.slice (some ⟨bc, 0, none⟩) 1 1)) T23 rfl (hB2.at1 rfl) ?_)
    refine L_op rfl (X_move (v := (.int .i64 (((i : Nat) : Int)))) rfl ?_)
    refine L_op rfl (X_idx (v := (.slice (some ⟨bc, 0, none⟩) 1 1)) (n := 1) (k := .i64) (i := 0) S23 rfl hvsv rfl (by omega) (by omega) ?_)
    refine L_op rfl (X_fldS (v := (.slice (some ⟨bc, 0, none⟩) 1 1)) (o := (0 : Int).toNat * 257) Fd35_1 rfl hvsv (by omega) ?_)
    refine L_op rfl (X_idxAS (len := 256) (sz := 1) (v := (.slice (some ⟨bc, 0, none⟩) 1 1)) (o := (0 : Int).toNat * 257 + 1) (k := .i64) (i := ((i : Nat) : Int)) (r := (0 : Int).toNat * 257 + 1 + (((i : Nat) : Int) : Int).toNat * 1) Try.underlying33 Z5 rfl hvsv (by omega) rfl (by omega) (by omega) (by omega) ?_)
    refine L_op0 (X_storeOwnC (i := (0 : Int).toNat * 257 + 1 + (((i : Nat) : Int) : Int).toNat * 1) (v := .slice (some ⟨bc, 0, none⟩) 1 1) (u := .int .u8 7) T5 hV.1 (by show _ < 1 * 257; omega) rfl rfl rfl ?_)
    intro w7 hO7 hu7
    have hz7 := hu7.size
    obtain ⟨pg2, hpg2⟩ : ∃ q : Pg, q.1 = pg.1.set i 7 := ⟨⟨pg.1.set i 7, by rw [List.length_set]; exact pg.2⟩, rfl⟩
    have h72 : ∀ j, j < i + 1 → pg2.1[j]? = some 7 := fun j hj => by rw [hpg2]; rcases Nat.lt_or_ge j i with h8 | h8; (· rw [List.getElem?_set_ne (by omega)]; exact h7 j h8); (· obtain rfl : j = i := (by omega); exact List.getElem?_set_self (by rw [pg.2]; omega))
    have hfs := flat_setC (L := LW) (es := [((1 : Int), pg)]) (i := 0) (j := i + 1) (e := (1, pg)) (e' := (1, pg2)) (u := byteV 7) rfl (by show i + 1 < 257; omega) (by show Value.int .i64 1 :: pg2.1.map byteV = (Value.int .i64 1 :: pg.1.map byteV).set (i + 1) (byteV 7); rw [hpg2, List.set_cons_succ, List.map_set])
    rw [show (0 : Int).toNat * 257 + 1 + (((i : Nat) : Int) : Int).toNat * 1 = 0 * LW.sz + (i + 1) by (show _ = 0 * 257 + (i + 1); omega), show Value.int .u8 7 = byteV 7 from rfl, hfs] at hO7
    have hV2 : NOwn LW w7 35 5 bc uc (.slice (some ⟨bc, 0, none⟩) 1 1) [((1 : Int), pg2)] := NOwn.of (fun _ => rfl) hO7 hV.2.1
    replace hp := hp.upd hu7 fun i h1 h2 h => by have h1_ := hV.1.lt h; have h2_ := hV.2.1 _ h; omega
    replace hb := hb.upd hu7 fun i h1 h2 h => by have h1_ := hV.1.lt h; have h2_ := hV.2.1 _ h; omega
    replace hB2 := hB2.upd hu7 fun h => by have h1_ := hV.1.lt h; have h2_ := hV.2.1 _ h; omega
    replace hU := hU.trans (hu7.mono fun i _ h => by have h1_ := hV.1.lt h; have h2_ := hV.2.1 _ h; show n0 ≤ i; omega)
    refine L_nil ?_
    refine B_n ?_
    refine T_n ?_
    refine W_reg ?_
    refine L_op rfl (X_move (v := (.int .i64 (((i : Nat) : Int)))) rfl ?_)
    refine L_op rfl (X_arith (k := .i64) (a := ((i : Nat) : Int)) (b := 1) (r := ((i + 1 : Nat) : Int)) rfl rfl rfl (iadd64 (by omega) (by omega) (by omega)) ?_)
    refine L_op rfl (X_assign (v := (.int .i64 (((i + 1 : Nat) : Int)))) rfl ?_)
    refine L_nil ?_
    refine T_n ?_
    exact ⟨rfl, (i + 1, pg2), ⟨⟨hi, h72, hp, hV2, hb, hB2, hU, by omega⟩, (by show 256 - (i + 1) < 256 - i; omega)⟩, (Out.mk rfl), ⟨rfl, trivial⟩⟩
  · refine L_op rfl (X_cmp (k := .i64) (a := ((i : Nat) : Int)) (b := 256) (r := false) rfl rfl rfl (decide_eq_false (p := ((((i : Nat) : Int)) : Int) < ((256) : Int)) (by omega)) ?_)
    refine L_nil ?_
    refine T_n ?_
    refine W_cf rfl ?_
    refine W_exit ?_
    refine T_e ?_
    refine T_e ?_
    refine B_x ?_
    refine T_n ?_
    refine W_seq ?_
    refine W_reg ?_
    refine L_op rfl (X_loadA (p := (ptr b2 (0))) (xs := [(.slice (some ⟨bm, 0, none⟩) 2 2), (.slice (some ⟨bc, 0, none⟩) 1 1), (.slice (some ⟨b1, 0, none⟩) 1 1), (.bool (false))]) A26 rfl hB2.atAll rfl ?_)
    refine L_op rfl (X_buildSlice1 (vs := [(.int .u8 (2))]) S27 (by decide) rfl rfl (List.forall_mem_cons.2 ⟨rfl, (fun _ h => by cases h)⟩) ?_)
    intro b6 w6 hn6
    have hbn6 := hn6.num; have hbs6 := hn6.size
    replace hp := hp.ext hn6.ext
    replace hb := hb.ext hn6.ext
    replace hV := hV.ext hn6.ext
    replace hB2 := hB2.ext hn6.ext
    replace hU := hU.trans (Ext.upd hn6.ext)
    have hB6 := hn6.blk
    have hlr : Rd w6 1 (.slice (some ⟨b6, 0, none⟩) 1 1) ([(2 : UInt8)]).length ([(2 : UInt8)].map byteV) := hB6.rd (o := 0) (n := 1) (c := 1) (sz := 1) (by decide) (by decide) rfl (fun j u hj => by rw [Nat.zero_add]; simpa [byteV] using hj)
    obtain ⟨s_x, hs_x⟩ : ∃ n, n = w6.heap.size := ⟨_, rfl⟩
    have hh1_8 := hp.mono (Nat.zero_le bm) (show um ≤ w6.heap.size by omega)
    have hh2_8 := hV.rd.mono (Nat.zero_le bc) (show uc ≤ w6.heap.size by omega)
    have hh3_8 := hb.mono (Nat.zero_le b1) (show ub ≤ w6.heap.size by omega)
    have hh4_ : [((1 : Int), pg)].length ≤ 1048576 := by show (1 : Nat) ≤ 1048576; decide
    have hh5_ : [(1 : Int)].length ≤ 1048576 := by show (1 : Nat) ≤ 1048576; decide
    have hcr_ := c_crash (.slice (some ⟨bm, 0, none⟩) 2 2) (.slice (some ⟨bc, 0, none⟩) 1 1) (.slice (some ⟨b1, 0, none⟩) 1 1) ps [((1 : Int), pg)] [1] false (.slice (some ⟨b6, 0, none⟩) 1 1) [2] w6 0 w6.heap.size (Nat.le_refl _) hh1_8 hh2_8 hh3_8 hlr (by omega) hh4_ hh5_
    refine L_op rfl (X_fn (vs := [(.agg ([(.slice (some ⟨bm, 0, none⟩) 2 2), (.slice (some ⟨bc, 0, none⟩) 1 1), (.slice (some ⟨b1, 0, none⟩) 1 1), (.bool (false))]).toArray), (.slice (some ⟨b6, 0, none⟩) 1 1)]) en9 rfl ?_)
    refine CT.mono hcr_ ?_
    clear hcr_
    rintro _ w7 ⟨p_x, i_x, rfl, hPx, hIx, hu7⟩
    have hz7 := hu7.size
    replace hp := hp.ext hu7
    replace hb := hb.ext hu7
    replace hV := hV.ext hu7
    replace hB2 := hB2.ext hu7
    replace hU := hU.trans (Ext.upd hu7)
    replace hB6 := hB6.ext hu7
    rw [show ([((1 : Int), pg)] : List Wr).length = 1 from rfl, crash1 ps pg hpl] at hPx hIx
    obtain ⟨u_x, hu_x⟩ : ∃ n, n = w7.heap.size := ⟨_, rfl⟩
    rw [← hs_x, ← hu_x] at hPx hIx
    replace hPx : NOwn LP w7 33 5 s_x u_x p_x (ps.set 1 (halfP (ps.getD 1 default) pg)) := hPx
    replace hIx : NOwn LI w7 3 5 s_x u_x i_x [] := hIx
    have hxl : (ps.set 1 (halfP (ps.getD 1 default) pg)).length = 2 := by rw [List.length_set]; exact hpl
    refine L_op rfl (X_alloc (z := (.agg #[(.slice none 0 0), (.slice none 0 0), (.slice none 0 0), (.bool (false))])) (c := #[(.slice none 0 0), (.slice none 0 0), (.slice none 0 0), (.bool (false))]) Zv26 rfl ?_)
    intro b9 w9 hn9
    have hbn9 := hn9.num; have hbs9 := hn9.size
    replace hp := hp.ext hn9.ext
    replace hb := hb.ext hn9.ext
    replace hV := hV.ext hn9.ext
    replace hB2 := hB2.ext hn9.ext
    replace hU := hU.trans (Ext.upd hn9.ext)
    replace hB6 := hB6.ext hn9.ext
    replace hPx := hPx.ext hn9.ext
    replace hIx := hIx.ext hn9.ext
    have hB9 := hn9.blk
    refine L_op0 (X_storeW (b := b9) (ys := [p_x, (.slice none 0 0), i_x, (.bool (false))]) A26 rfl rfl (List.forall_mem_cons.2 ⟨(hPx.1.sv.one), (List.forall_mem_cons.2 ⟨rfl, (List.forall_mem_cons.2 ⟨(hIx.1.sv.one), (List.forall_mem_cons.2 ⟨rfl, (fun _ h => by cases h)⟩)⟩)⟩)⟩) rfl hB9 rfl ?_)
    intro w10 hu10 hb10
    have hz10 := hu10.size
    replace hp := hp.upd hu10 fun i h1 h2 h => by have h : i = b9 := h; omega
    replace hb := hb.upd hu10 fun i h1 h2 h => by have h : i = b9 := h; omega
    replace hV := hV.upd hu10 fun i h1 h2 h => by have h : i = b9 := h; omega
    replace hB2 := hB2.upd hu10 fun h => by have h : b2 = b9 := h; omega
    replace hU := hU.trans (hu10.mono fun i _ h => by have h : i = b9 := h; show n0 ≤ i; omega)
    replace hB6 := hB6.upd hu10 fun h => by have h : b6 = b9 := h; omega
    replace hPx := hPx.upd hu10 fun i h1 h2 h => by have h : i = b9 := h; omega
    replace hIx := hIx.upd hu10 fun i h1 h2 h => by have h : i = b9 := h; omega
    replace hB9 : Blk w10 b9 #[p_x, (.slice none 0 0), i_x, (.bool (false))] 26 := hb10
    refine L_nil ?_
    refine T_n ?_
    refine W_seq ?_
    refine W_reg ?_
    refine L_op rfl (X_loadA (p := (ptr b2 (0))) (xs := [(.slice (some ⟨bm, 0, none⟩) 2 2), (.slice (some ⟨bc, 0, none⟩) 1 1), (.slice (some ⟨b1, 0, none⟩) 1 1), (.bool (false))]) A26 rfl hB2.atAll rfl ?_)
    obtain ⟨s_f, hs_f⟩ : ∃ n, n = w10.heap.size := ⟨_, rfl⟩
    have hh1_12 := hp.mono (Nat.zero_le bm) (show um ≤ w10.heap.size by omega)
    have hh2_12 := hV.rd.mono (Nat.zero_le bc) (show uc ≤ w10.heap.size by omega)
    have hh3_12 := hb.mono (Nat.zero_le b1) (show ub ≤ w10.heap.size by omega)
    have hh4_ : [((1 : Int), pg)].length ≤ 1048576 := by show (1 : Nat) ≤ 1048576; decide
    have hh5_ : [(1 : Int)].length ≤ 1048576 := by show (1 : Nat) ≤ 1048576; decide
    have hcr_ := c_flip (.slice (some ⟨bm, 0, none⟩) 2 2) (.slice (some ⟨bc, 0, none⟩) 1 1) (.slice (some ⟨b1, 0, none⟩) 1 1) ps [((1 : Int), pg)] [1] false 0 3 5 w10 0 w10.heap.size (Nat.le_refl _) hh1_12 hh2_12 hh3_12 (by omega) hh4_ hh5_
    refine L_op rfl (X_fn (vs := [(.agg ([(.slice (some ⟨bm, 0, none⟩) 2 2), (.slice (some ⟨bc, 0, none⟩) 1 1), (.slice (some ⟨b1, 0, none⟩) 1 1), (.bool (false))]).toArray), (.int .i64 (0)), (.int .i64 (3)), (.int .u8 (5))]) en13 rfl ?_)
    refine CT.mono hcr_ ?_
    clear hcr_
    rintro _ w11 ⟨p_f, c_f, i_f, qsf, ef, rfl, hPf, hCf, hIf, hokf, _, hu11⟩
    have hz11 := hu11.size
    replace hp := hp.ext hu11
    replace hb := hb.ext hu11
    replace hV := hV.ext hu11
    replace hB2 := hB2.ext hu11
    replace hU := hU.trans (Ext.upd hu11)
    replace hB6 := hB6.ext hu11
    replace hPx := hPx.ext hu11
    replace hIx := hIx.ext hu11
    replace hB9 := hB9.ext hu11
    obtain ⟨rfl, rfl⟩ := hokf ⟨by decide, by omega, by decide, by decide⟩
    obtain ⟨u_f, hu_f⟩ : ∃ n, n = w11.heap.size := ⟨_, rfl⟩
    rw [← hs_f, ← hu_f] at hPf hCf hIf
    have hfl : (flipP ps (0 : Int).toNat (3 : Int).toNat 5).length = 2 := (flipP_length _ _ _ _).trans hpl
    refine L_op rfl (X_move (v := (.tuple #[(.agg #[p_f, c_f, i_f, (.bool (false))]), (.int .i64 (0))])) rfl ?_)
    refine L_op rfl (X_extract (l := [(.agg #[p_f, c_f, i_f, (.bool (false))]), (.int .i64 (0))]) (v := (.agg #[p_f, c_f, i_f, (.bool (false))])) rfl rfl ?_)
    refine L_op rfl (X_extract (l := [(.agg #[p_f, c_f, i_f, (.bool (false))]), (.int .i64 (0))]) (v := (.int .i64 (0))) rfl rfl ?_)
    refine L_op rfl (X_alloc (z := (.agg #[(.slice none 0 0), (.slice none 0 0), (.slice none 0 0), (.bool (false))])) (c := #[(.slice none 0 0), (.slice none 0 0), (.slice none 0 0), (.bool (false))]) Zv26 rfl ?_)
    intro b13 w13 hn13
    have hbn13 := hn13.num; have hbs13 := hn13.size
    replace hp := hp.ext hn13.ext
    replace hb := hb.ext hn13.ext
    replace hV := hV.ext hn13.ext
    replace hB2 := hB2.ext hn13.ext
    replace hU := hU.trans (Ext.upd hn13.ext)
    replace hB6 := hB6.ext hn13.ext
    replace hPx := hPx.ext hn13.ext
    replace hIx := hIx.ext hn13.ext
    replace hB9 := hB9.ext hn13.ext
    replace hPf := hPf.ext hn13.ext
    replace hCf := hCf.ext hn13.ext
    replace hIf := hIf.ext hn13.ext
    have hB13 := hn13.blk
    refine L_op0 (X_storeW (b := b13) (ys := [p_f, c_f, i_f, (.bool (false))]) A26 rfl rfl (List.forall_mem_cons.2 ⟨(hPf.1.sv.one), (List.forall_mem_cons.2 ⟨(hCf.1.sv.one), (List.forall_mem_cons.2 ⟨(hIf.1.sv.one), (List.forall_mem_cons.2 ⟨rfl, (fun _ h => by cases h)⟩)⟩)⟩)⟩) rfl hB13 rfl ?_)
    intro w14 hu14 hb14
    have hz14 := hu14.size
    replace hp := hp.upd hu14 fun i h1 h2 h => by have h : i = b13 := h; omega
    replace hb := hb.upd hu14 fun i h1 h2 h => by have h : i = b13 := h; omega
    replace hV := hV.upd hu14 fun i h1 h2 h => by have h : i = b13 := h; omega
    replace hB2 := hB2.upd hu14 fun h => by have h : b2 = b13 := h; omega
    replace hU := hU.trans (hu14.mono fun i _ h => by have h : i = b13 := h; show n0 ≤ i; omega)
    replace hB6 := hB6.upd hu14 fun h => by have h : b6 = b13 := h; omega
    replace hPx := hPx.upd hu14 fun i h1 h2 h => by have h : i = b13 := h; omega
    replace hIx := hIx.upd hu14 fun i h1 h2 h => by have h : i = b13 := h; omega
    replace hB9 := hB9.upd hu14 fun h => by have h : b9 = b13 := h; omega
    replace hPf := hPf.upd hu14 fun i h1 h2 h => by have h : i = b13 := h; omega
    replace hCf := hCf.upd hu14 fun i h1 h2 h => by have h : i = b13 := h; omega
    replace hIf := hIf.upd hu14 fun i h1 h2 h => by have h : i = b13 := h; omega
    replace hB13 : Blk w14 b13 #[p_f, c_f, i_f, (.bool (false))] 26 := hb14
    refine L_op rfl (X_assign (v := (.int .i64 (0))) rfl ?_)
    refine L_nil ?_
    refine T_n ?_
    refine W_seq ?_
    refine W_reg ?_
    refine L_op rfl (X_loadA (p := (ptr b2 (0))) (xs := [(.slice (some ⟨bm, 0, none⟩) 2 2), (.slice (some ⟨bc, 0, none⟩) 1 1), (.slice (some ⟨b1, 0, none⟩) 1 1), (.bool (false))]) A26 rfl hB2.atAll rfl ?_)
    have hh1_16 := hp.mono (Nat.zero_le bm) (show um ≤ w14.heap.size by omega)
    have hh2_16 := hV.rd.mono (Nat.zero_le bc) (show uc ≤ w14.heap.size by omega)
    have hh3_16 := hb.mono (Nat.zero_le b1) (show ub ≤ w14.heap.size by omega)
    have hh4_ : [((1 : Int), pg)].length ≤ 1048576 := by show (1 : Nat) ≤ 1048576; decide
    have hh5_ : [(1 : Int)].length ≤ 1048576 := by show (1 : Nat) ≤ 1048576; decide
    have hcr_ := c_spoilno (.slice (some ⟨bm, 0, none⟩) 2 2) (.slice (some ⟨bc, 0, none⟩) 1 1) (.slice (some ⟨b1, 0, none⟩) 1 1) ps [((1 : Int), pg)] [1] false 2 w14 0 w14.heap.size (Nat.le_refl _) hh1_16 hh2_16 hh3_16 (by omega) hh4_ hh5_ (by omega)
    refine L_op rfl (X_fn (vs := [(.agg ([(.slice (some ⟨bm, 0, none⟩) 2 2), (.slice (some ⟨bc, 0, none⟩) 1 1), (.slice (some ⟨b1, 0, none⟩) 1 1), (.bool (false))]).toArray), (.int .i64 (2))]) en15 rfl ?_)
    refine CT.mono hcr_ ?_
    clear hcr_
    rintro _ w15 ⟨p_s, c_s, i_s, rfl, hPs, hCs, hIs, hu15⟩
    have hz15 := hu15.size
    replace hp := hp.ext hu15
    replace hb := hb.ext hu15
    replace hV := hV.ext hu15
    replace hB2 := hB2.ext hu15
    replace hU := hU.trans (Ext.upd hu15)
    replace hB6 := hB6.ext hu15
    replace hPx := hPx.ext hu15
    replace hIx := hIx.ext hu15
    replace hB9 := hB9.ext hu15
    replace hPf := hPf.ext hu15
    replace hCf := hCf.ext hu15
    replace hIf := hIf.ext hu15
    replace hB13 := hB13.ext hu15
    obtain ⟨u_s, hu_s⟩ : ∃ n, n = w15.heap.size := ⟨_, rfl⟩
    rw [← hu_s] at hPs hCs hIs
    refine L_op rfl (X_move (v := (.tuple #[(.agg #[p_s, c_s, i_s, (.bool (false))]), (.int .i64 (2))])) rfl ?_)
    refine L_op rfl (X_extract (l := [(.agg #[p_s, c_s, i_s, (.bool (false))]), (.int .i64 (2))]) (v := (.agg #[p_s, c_s, i_s, (.bool (false))])) rfl rfl ?_)
    refine L_op rfl (X_extract (l := [(.agg #[p_s, c_s, i_s, (.bool (false))]), (.int .i64 (2))]) (v := (.int .i64 (2))) rfl rfl ?_)
    refine L_op rfl (X_alloc (z := (.agg #[(.slice none 0 0), (.slice none 0 0), (.slice none 0 0), (.bool (false))])) (c := #[(.slice none 0 0), (.slice none 0 0), (.slice none 0 0), (.bool (false))]) Zv26 rfl ?_)
    intro b17 w17 hn17
    have hbn17 := hn17.num; have hbs17 := hn17.size
    replace hp := hp.ext hn17.ext
    replace hb := hb.ext hn17.ext
    replace hV := hV.ext hn17.ext
    replace hB2 := hB2.ext hn17.ext
    replace hU := hU.trans (Ext.upd hn17.ext)
    replace hB6 := hB6.ext hn17.ext
    replace hPx := hPx.ext hn17.ext
    replace hIx := hIx.ext hn17.ext
    replace hB9 := hB9.ext hn17.ext
    replace hPf := hPf.ext hn17.ext
    replace hCf := hCf.ext hn17.ext
    replace hIf := hIf.ext hn17.ext
    replace hB13 := hB13.ext hn17.ext
    replace hPs := hPs.ext hn17.ext
    replace hCs := hCs.ext hn17.ext
    replace hIs := hIs.ext hn17.ext
    have hB17 := hn17.blk
    refine L_op0 (X_storeW (b := b17) (ys := [p_s, c_s, i_s, (.bool (false))]) A26 rfl rfl (List.forall_mem_cons.2 ⟨(hPs.1.sv.one), (List.forall_mem_cons.2 ⟨(hCs.1.sv.one), (List.forall_mem_cons.2 ⟨(hIs.1.sv.one), (List.forall_mem_cons.2 ⟨rfl, (fun _ h => by cases h)⟩)⟩)⟩)⟩) rfl hB17 rfl ?_)
    intro w18 hu18 hb18
    have hz18 := hu18.size
    replace hp := hp.upd hu18 fun i h1 h2 h => by have h : i = b17 := h; omega
    replace hb := hb.upd hu18 fun i h1 h2 h => by have h : i = b17 := h; omega
    replace hV := hV.upd hu18 fun i h1 h2 h => by have h : i = b17 := h; omega
    replace hB2 := hB2.upd hu18 fun h => by have h : b2 = b17 := h; omega
    replace hU := hU.trans (hu18.mono fun i _ h => by have h : i = b17 := h; show n0 ≤ i; omega)
    replace hB6 := hB6.upd hu18 fun h => by have h : b6 = b17 := h; omega
    replace hPx := hPx.upd hu18 fun i h1 h2 h => by have h : i = b17 := h; omega
    replace hIx := hIx.upd hu18 fun i h1 h2 h => by have h : i = b17 := h; omega
    replace hB9 := hB9.upd hu18 fun h => by have h : b9 = b17 := h; omega
    replace hPf := hPf.upd hu18 fun i h1 h2 h => by have h : i = b17 := h; omega
    replace hCf := hCf.upd hu18 fun i h1 h2 h => by have h : i = b17 := h; omega
    replace hIf := hIf.upd hu18 fun i h1 h2 h => by have h : i = b17 := h; omega
    replace hB13 := hB13.upd hu18 fun h => by have h : b13 = b17 := h; omega
    replace hPs := hPs.upd hu18 fun i h1 h2 h => by have h : i = b17 := h; omega
    replace hCs := hCs.upd hu18 fun i h1 h2 h => by have h : i = b17 := h; omega
    replace hIs := hIs.upd hu18 fun i h1 h2 h => by have h : i = b17 := h; omega
    replace hB17 : Blk w18 b17 #[p_s, c_s, i_s, (.bool (false))] 26 := hb18
    refine L_op rfl (X_assign (v := (.int .i64 (2))) rfl ?_)
    refine L_nil ?_
    refine T_n ?_
    refine W_seq ?_
    refine W_seq ?_
    refine W_reg ?_
    refine L_op rfl (X_fldP (b := b9) (o := 0) (r := 0) Fd26_0 rfl rfl ?_)
    refine L_op rfl (X_load (p := (ptr b9 (0))) (v := p_x) T22 rfl (hB9.at1 rfl) ?_)
    refine L_op rfl (X_len (v := p_x) (n := (ps.set 1 (halfP (ps.getD 1 default) pg)).length) Try.underlying22 rfl hPx.1.sv ?_)
    refine L_op rfl (X_cmp (k := .i64) (a := (((ps.set 1 (halfP (ps.getD 1 default) pg)).length : Nat) : Int)) (b := 2) (r := false) rfl rfl rfl (decide_eq_false (p := (((((ps.set 1 (halfP (ps.getD 1 default) pg)).length : Nat) : Int)) : Int) ≠ ((2) : Int)) (by omega)) ?_)
    refine L_op rfl (X_move (v := (.bool (false))) rfl ?_)
    refine L_gy (dj := 40) rfl rfl rfl (X_fldP (b := b13) (o := 0) (r := 0) Fd26_0 rfl rfl ?_)
    refine L_gy (dj := 40) rfl rfl rfl (X_load (p := (ptr b13 (0))) (v := p_f) T22 rfl (hB13.at1 rfl) ?_)
    refine L_gy (dj := 40) rfl rfl rfl (X_len (v := p_f) (n := (flipP ps (0 : Int).toNat (3 : Int).toNat 5).length) Try.underlying22 rfl hPf.1.sv ?_)
    refine L_gy (dj := 40) rfl rfl rfl (X_cmp (k := .i64) (a := (((flipP ps (0 : Int).toNat (3 : Int).toNat 5).length : Nat) : Int)) (b := 2) (r := false) rfl rfl rfl (decide_eq_false (p := (((((flipP ps (0 : Int).toNat (3 : Int).toNat 5).length : Nat) : Int)) : Int) ≠ ((2) : Int)) (by omega)) ?_)
    refine L_op rfl (X_pick (t := false) (v := (.bool (false))) rfl rfl ?_)
    refine L_nil ?_
    refine T_n ?_
    refine W_cf rfl ?_
    refine W_skip ?_
    refine T_n ?_
    refine W_seq ?_
    have hg0 := h7 0 (by omega)
    have hX1_ : (ps.set 1 (halfP (ps.getD 1 default) pg))[1]? = some (halfP (ps.getD 1 default) pg) := List.getElem?_set_self (by omega)
    have hdd : ps.getD 1 default = default := by rw [hps]; rfl
    have hF0 : (flipP ps (0 : Int).toNat (3 : Int).toNat 5)[0]? = some (flipPg default 3 5) := by unfold flipP; rw [show ps.getD (0 : Int).toNat default = default from (by rw [hps]; rfl)]; exact List.getElem?_set_self (by omega)
    have hF3 : (flipPg default 3 5).1[3]? = some 5 := by show ((default : Pg).1.set 3 ((default : Pg).1.getD 3 0 ^^^ 5))[3]? = _; rw [List.getElem?_set_self (by rw [(default : Pg).2]; decide), List.getD_eq_getElem?_getD, pg_zero 3 (by decide)]; rfl
    have hH255 : (halfP (ps.getD 1 default) pg).1[255]? = some 0 := by rw [half_hi, hdd]; exact pg_zero 255 (by decide)
    refine W_reg ?_
    refine L_op rfl (X_fldP (b := b9) (o := 0) (r := 0) Fd26_0 rfl rfl ?_)
    refine L_op rfl (X_load (p := (ptr b9 (0))) (v := p_x) T22 rfl (hB9.at1 rfl) ?_)
    refine L_op rfl (X_idx (v := p_x) (n := (ps.set 1 (halfP (ps.getD 1 default) pg)).length) (k := .i64) (i := 1) S22 rfl hPx.1.sv rfl (by omega) (by omega) ?_)
    refine L_op rfl (X_idxAS (len := 256) (sz := 1) (v := p_x) (o := (1 : Int).toNat * 256) (k := .i64) (i := 0) (r := (1 : Int).toNat * 256 + 0) Try.underlying33 Z5 rfl hPx.1.sv (by omega) rfl (by omega) (by omega) rfl ?_)
    refine L_op rfl (X_load (v := byteV 7) T5 rfl (byte_at (i := 1) (k := 0) hPx.rd hX1_ (half_lo hg0) (by omega)) ?_)
    refine L_op rfl (X_cmp (k := .u8) (a := 7) (b := 7) (r := true) rfl rfl rfl rfl ?_)
    refine L_op rfl (X_move (v := (.bool (true))) rfl ?_)
    refine L_gy (dj := 52) rfl rfl rfl (X_fldP (b := b9) (o := 0) (r := 0) Fd26_0 rfl rfl ?_)
    refine L_gy (dj := 52) rfl rfl rfl (X_load (p := (ptr b9 (0))) (v := p_x) T22 rfl (hB9.at1 rfl) ?_)
    refine L_gy (dj := 52) rfl rfl rfl (X_idx (v := p_x) (n := (ps.set 1 (halfP (ps.getD 1 default) pg)).length) (k := .i64) (i := 1) S22 rfl hPx.1.sv rfl (by omega) (by omega) ?_)
    refine L_gy (dj := 52) rfl rfl rfl (X_idxAS (len := 256) (sz := 1) (v := p_x) (o := (1 : Int).toNat * 256) (k := .i64) (i := 255) (r := (1 : Int).toNat * 256 + 255) Try.underlying33 Z5 rfl hPx.1.sv (by omega) rfl (by omega) (by omega) rfl ?_)
    refine L_gy (dj := 52) rfl rfl rfl (X_load (v := byteV 0) T5 rfl (byte_at (i := 1) (k := 255) hPx.rd hX1_ hH255 (by omega)) ?_)
    refine L_gy (dj := 52) rfl rfl rfl (X_cmp (k := .u8) (a := 0) (b := 0) (r := true) rfl rfl rfl rfl ?_)
    refine L_op rfl (X_pick (t := true) (v := (.bool (true))) rfl rfl ?_)
    refine L_op rfl (X_move (v := (.bool (true))) rfl ?_)
    refine L_gy (dj := 60) rfl rfl rfl (X_fldP (b := b9) (o := 0) (r := 1) Fd26_1 rfl rfl ?_)
    refine L_gy (dj := 60) rfl rfl rfl (X_load (p := (ptr b9 (1))) (v := (.slice none 0 0)) T23 rfl (hB9.at1 rfl) ?_)
    refine L_gy (dj := 60) rfl rfl rfl (X_len (v := (.slice none 0 0)) (n := 0) Try.underlying23 rfl (Own.nil w 0 5 1).sv ?_)
    refine L_gy (dj := 60) rfl rfl rfl (X_cmp (k := .i64) (a := 0) (b := 0) (r := true) rfl rfl rfl rfl ?_)
    refine L_op rfl (X_pick (t := true) (v := (.bool (true))) rfl rfl ?_)
    refine L_op rfl (X_move (v := (.bool (true))) rfl ?_)
    refine L_gy (dj := 66) rfl rfl rfl (X_fldP (b := b9) (o := 0) (r := 2) Fd26_2 rfl rfl ?_)
    refine L_gy (dj := 66) rfl rfl rfl (X_load (p := (ptr b9 (2))) (v := i_x) T24 rfl (hB9.at1 rfl) ?_)
    refine L_gy (dj := 66) rfl rfl rfl (X_len (v := i_x) (n := 0) Try.underlying24 rfl hIx.1.sv ?_)
    refine L_gy (dj := 66) rfl rfl rfl (X_cmp (k := .i64) (a := 0) (b := 0) (r := true) rfl rfl rfl rfl ?_)
    refine L_op rfl (X_pick (t := true) (v := (.bool (true))) rfl rfl ?_)
    refine L_op rfl (X_move (v := (.bool (true))) rfl ?_)
    refine L_gy (dj := 72) rfl rfl rfl (X_move (v := (.int .i64 (0))) rfl ?_)
    refine L_gy (dj := 72) rfl rfl rfl (X_cmp (k := .i64) (a := 0) (b := 0) (r := true) rfl rfl rfl rfl ?_)
    refine L_op rfl (X_pick (t := true) (v := (.bool (true))) rfl rfl ?_)
    refine L_op rfl (X_move (v := (.bool (true))) rfl ?_)
    refine L_gy (dj := 76) rfl rfl rfl (X_fldP (b := b13) (o := 0) (r := 0) Fd26_0 rfl rfl ?_)
    refine L_gy (dj := 76) rfl rfl rfl (X_load (p := (ptr b13 (0))) (v := p_f) T22 rfl (hB13.at1 rfl) ?_)
    refine L_gy (dj := 76) rfl rfl rfl (X_idx (v := p_f) (n := (flipP ps (0 : Int).toNat (3 : Int).toNat 5).length) (k := .i64) (i := 0) S22 rfl hPf.1.sv rfl (by omega) (by omega) ?_)
    refine L_gy (dj := 76) rfl rfl rfl (X_idxAS (len := 256) (sz := 1) (v := p_f) (o := (0 : Int).toNat * 256) (k := .i64) (i := 3) (r := (0 : Int).toNat * 256 + 3) Try.underlying33 Z5 rfl hPf.1.sv (by omega) rfl (by omega) (by omega) rfl ?_)
    refine L_gy (dj := 76) rfl rfl rfl (X_load (v := byteV 5) T5 rfl (byte_at (i := 0) (k := 3) hPf.rd hF0 hF3 (by omega)) ?_)
    refine L_gy (dj := 76) rfl rfl rfl (X_cmp (k := .u8) (a := 5) (b := 5) (r := true) rfl rfl rfl rfl ?_)
    refine L_op rfl (X_pick (t := true) (v := (.bool (true))) rfl rfl ?_)
    refine L_op rfl (X_move (v := (.bool (true))) rfl ?_)
    refine L_gy (dj := 84) rfl rfl rfl (X_move (v := (.int .i64 (2))) rfl ?_)
    refine L_gy (dj := 84) rfl rfl rfl (X_cmp (k := .i64) (a := 2) (b := 2) (r := true) rfl rfl rfl rfl ?_)
    refine L_op rfl (X_pick (t := true) (v := (.bool (true))) rfl rfl ?_)
    refine L_op rfl (X_move (v := (.bool (true))) rfl ?_)
    refine L_gy (dj := 88) rfl rfl rfl (X_loadA (p := (ptr b2 (0))) (xs := [(.slice (some ⟨bm, 0, none⟩) 2 2), (.slice (some ⟨bc, 0, none⟩) 1 1), (.slice (some ⟨b1, 0, none⟩) 1 1), (.bool (false))]) A26 rfl hB2.atAll rfl ?_)
    have hh1_20 := hp.mono (Nat.zero_le bm) (show um ≤ w18.heap.size by omega)
    have hh2_20 := hV.rd.mono (Nat.zero_le bc) (show uc ≤ w18.heap.size by omega)
    have hh3_20 := hb.mono (Nat.zero_le b1) (show ub ≤ w18.heap.size by omega)
    have hh4_ : [((1 : Int), pg)].length ≤ 1048576 := by show (1 : Nat) ≤ 1048576; decide
    have hh5_ : [(1 : Int)].length ≤ 1048576 := by show (1 : Nat) ≤ 1048576; decide
    have hcr_ := c_detach (.slice (some ⟨bm, 0, none⟩) 2 2) (.slice (some ⟨bc, 0, none⟩) 1 1) (.slice (some ⟨b1, 0, none⟩) 1 1) ps [((1 : Int), pg)] [1] false w18 0 w18.heap.size (Nat.le_refl _) hh1_20 hh2_20 hh3_20 (by omega) hh4_ hh5_
    refine L_gy (dj := 88) rfl rfl rfl (X_fn (vs := [(.agg ([(.slice (some ⟨bm, 0, none⟩) 2 2), (.slice (some ⟨bc, 0, none⟩) 1 1), (.slice (some ⟨b1, 0, none⟩) 1 1), (.bool (false))]).toArray)]) en21 rfl ?_)
    refine CT.mono hcr_ ?_
    clear hcr_
    rintro _ w19 ⟨p_d19, i_d19, rfl, _, _, hu19⟩
    have hz19 := hu19.size
    replace hp := hp.ext hu19
    replace hb := hb.ext hu19
    replace hV := hV.ext hu19
    replace hB2 := hB2.ext hu19
    replace hU := hU.trans (Ext.upd hu19)
    replace hB6 := hB6.ext hu19
    replace hPx := hPx.ext hu19
    replace hIx := hIx.ext hu19
    replace hB9 := hB9.ext hu19
    replace hPf := hPf.ext hu19
    replace hCf := hCf.ext hu19
    replace hIf := hIf.ext hu19
    replace hB13 := hB13.ext hu19
    replace hPs := hPs.ext hu19
    replace hCs := hCs.ext hu19
    replace hIs := hIs.ext hu19
    replace hB17 := hB17.ext hu19
    refine L_gy (dj := 88) rfl rfl rfl (X_field1 (v := .bool true) Try.underlying26 rfl T4 rfl rfl ?_)
    refine L_op rfl (X_pick (t := true) (v := (.bool (true))) rfl rfl ?_)
    refine L_op rfl (X_move (v := (.bool (true))) rfl ?_)
    refine L_gy (dj := 93) rfl rfl rfl (X_loadA (p := (ptr b2 (0))) (xs := [(.slice (some ⟨bm, 0, none⟩) 2 2), (.slice (some ⟨bc, 0, none⟩) 1 1), (.slice (some ⟨b1, 0, none⟩) 1 1), (.bool (false))]) A26 rfl hB2.atAll rfl ?_)
    have hh1_22 := hp.mono (Nat.zero_le bm) (show um ≤ w19.heap.size by omega)
    have hh2_22 := hV.rd.mono (Nat.zero_le bc) (show uc ≤ w19.heap.size by omega)
    have hh3_22 := hb.mono (Nat.zero_le b1) (show ub ≤ w19.heap.size by omega)
    have hh4_ : [((1 : Int), pg)].length ≤ 1048576 := by show (1 : Nat) ≤ 1048576; decide
    have hh5_ : [(1 : Int)].length ≤ 1048576 := by show (1 : Nat) ≤ 1048576; decide
    have hcr_ := c_detach (.slice (some ⟨bm, 0, none⟩) 2 2) (.slice (some ⟨bc, 0, none⟩) 1 1) (.slice (some ⟨b1, 0, none⟩) 1 1) ps [((1 : Int), pg)] [1] false w19 0 w19.heap.size (Nat.le_refl _) hh1_22 hh2_22 hh3_22 (by omega) hh4_ hh5_
    refine L_gy (dj := 93) rfl rfl rfl (X_fn (vs := [(.agg ([(.slice (some ⟨bm, 0, none⟩) 2 2), (.slice (some ⟨bc, 0, none⟩) 1 1), (.slice (some ⟨b1, 0, none⟩) 1 1), (.bool (false))]).toArray)]) en21 rfl ?_)
    refine CT.mono hcr_ ?_
    clear hcr_
    rintro _ w21 ⟨p_d21, i_d21, rfl, _, _, hu21⟩
    have hz21 := hu21.size
    replace hp := hp.ext hu21
    replace hb := hb.ext hu21
    replace hV := hV.ext hu21
    replace hB2 := hB2.ext hu21
    replace hU := hU.trans (Ext.upd hu21)
    replace hB6 := hB6.ext hu21
    replace hPx := hPx.ext hu21
    replace hIx := hIx.ext hu21
    replace hB9 := hB9.ext hu21
    replace hPf := hPf.ext hu21
    replace hCf := hCf.ext hu21
    replace hIf := hIf.ext hu21
    replace hB13 := hB13.ext hu21
    replace hPs := hPs.ext hu21
    replace hCs := hCs.ext hu21
    replace hIs := hIs.ext hu21
    replace hB17 := hB17.ext hu21
    refine L_gy (dj := 93) rfl rfl rfl (X_field1 (v := .slice none 0 0) Try.underlying26 rfl T23 rfl rfl ?_)
    refine L_gy (dj := 93) rfl rfl rfl (X_len (v := (.slice none 0 0)) (n := 0) Try.underlying23 rfl (Own.nil w 0 5 1).sv ?_)
    refine L_gy (dj := 93) rfl rfl rfl (X_cmp (k := .i64) (a := 0) (b := 0) (r := true) rfl rfl rfl rfl ?_)
    refine L_op rfl (X_pick (t := true) (v := (.bool (true))) rfl rfl ?_)
    refine L_op rfl (X_assign (v := (.bool (true))) rfl ?_)
    refine L_nil ?_
    refine T_n ?_
    refine W_ret ?_
    exact BQ_r (End_1 Try.results8 (v := .bool true) rfl ⟨rfl, hU.own hn0⟩)
end Go.Proofs.Ytfmgjkchhajpmaa
