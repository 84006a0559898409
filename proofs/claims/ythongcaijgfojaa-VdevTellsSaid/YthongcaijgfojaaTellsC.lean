/-
  The references of chapter 03: Write. (Printed by wip/gen/t03r.py of this repo.)
-/
import Derived.Test.YthongcaijgfojaaTellsB
namespace Go.Proofs.Ythongcaijgfojaa
open Go Go.SL Go.Proofs
set_option linter.unusedVariables false

theorem c_writeR (pv cv bv : Value) (ps : List Pg) (cs : List Wr) (bs : List Int) (off : Bool) (n : Int) (p : Pg) (w : World) (lo up : Nat) (hup : up ≤ w.heap.size) (hp : NRd LP w lo up pv ps) (hc : NRd LW w lo up cv cs) (hb : NRd LI w lo up bv bs) (hpL : ps.length ≤ 1048576) (hcL : cs.length ≤ 1048576) (hbL : bs.length ≤ 1048576) : CT Try.prog 26 #[(.agg #[pv, cv, bv, (.bool (off))]), (.int .i64 (n)), (pageV p)] w fun v w' => ∃ p2 c2 i2, v = .tuple #[.agg #[p2, c2, i2, .bool off], .int .i64 (wrE ps.length cs bs off n)] ∧ NOwn LP w' 28 5 w.heap.size w'.heap.size p2 ps ∧ NOwn LW w' 43 5 w.heap.size w'.heap.size c2 (writeC ps.length cs bs off n p) ∧ NOwn LI w' 3 5 w.heap.size w'.heap.size i2 bs ∧ Ext w w' := by
  obtain ⟨n0, hn0⟩ : ∃ n, n = w.heap.size := ⟨_, rfl⟩
  have hU : Upd (fun i => n0 ≤ i) w w := Upd.refl _ _
  have hpl := hp.sv.len
  have hcl := hc.sv.len
  have hbl := hb.sv.len
  rw [← hn0] at hup
  refine CT_of Try.func26 rfl rfl rfl ?_
  refine W_seq ?_
  refine W_reg ?_
  refine L_op rfl (X_box (v := (.agg #[pv, cv, bv, (.bool (off))])) (c := ([pv, cv, bv, (.bool (off))]).toArray) rfl rfl ?_)
  intro b1 w1 hn1
  have hbn1 := hn1.num; have hbs1 := hn1.size
  replace hp := hp.ext hn1.ext
  replace hc := hc.ext hn1.ext
  replace hb := hb.ext hn1.ext
  replace hU := hU.trans (Ext.upd hn1.ext)
  have hB1 := hn1.blk
  refine L_op rfl (X_box (v := (pageV p)) (c := ((p.1).map byteV).toArray) rfl rfl ?_)
  intro b2 w2 hn2
  have hbn2 := hn2.num; have hbs2 := hn2.size
  replace hp := hp.ext hn2.ext
  replace hc := hc.ext hn2.ext
  replace hb := hb.ext hn2.ext
  replace hU := hU.trans (Ext.upd hn2.ext)
  replace hB1 := hB1.ext hn2.ext
  have hB2 := hn2.blk
  refine L_op rfl (X_alloc (z := (.agg #[(.slice none 0 0), (.slice none 0 0), (.slice none 0 0), (.bool (false))])) (c := #[(.slice none 0 0), (.slice none 0 0), (.slice none 0 0), (.bool (false))]) Zv26 rfl ?_)
  intro b3 w3 hn3
  have hbn3 := hn3.num; have hbs3 := hn3.size
  replace hp := hp.ext hn3.ext
  replace hc := hc.ext hn3.ext
  replace hb := hb.ext hn3.ext
  replace hU := hU.trans (Ext.upd hn3.ext)
  replace hB1 := hB1.ext hn3.ext
  replace hB2 := hB2.ext hn3.ext
  have hB3 := hn3.blk
  refine L_op rfl (X_assign (v := (.int .i64 (0))) rfl ?_)
  refine L_nil ?_
  refine T_n ?_
  refine W_seq ?_
  refine W_reg ?_
  refine L_op rfl (X_loadA (p := (ptr b1 (0))) (xs := [pv, cv, bv, (.bool (off))]) A26 rfl hB1.atAll rfl ?_)
  refine L_op rfl (X_move (v := (.int .i64 (n))) rfl ?_)
  refine L_op rfl (X_fn (vs := [(.agg ([pv, cv, bv, (.bool (off))]).toArray), (.int .i64 (n))]) en38 rfl (CT.mono (c_atR pv cv bv ps cs bs off n _ lo up (by omega) hp hc hb) ?_))
  rintro _ w4 ⟨rfl, hu4⟩
  have hz4 := hu4.size
  replace hp := hp.ext hu4
  replace hc := hc.ext hu4
  replace hb := hb.ext hu4
  replace hU := hU.trans (Ext.upd hu4)
  replace hB1 := hB1.ext hu4
  replace hB2 := hB2.ext hu4
  replace hB3 := hB3.ext hu4
  have hm2k : askE ps.length cs bs off n = 0 → cs.length ≤ 2000 := fun h => (askE_zero h).1.1.2.2.1
  refine L_op rfl (X_assign (v := (.int .i64 ((askE ps.length cs bs off n)))) rfl ?_)
  refine L_nil ?_
  refine T_n ?_
  refine W_cut (α := Int) [8, 13, 14, 15, 16, 17, 18, 19, 20] (fun e1 => [(8, (.int .i64 (e1)))]) (fun e1 w_ => e1 = wrE ps.length cs bs off n ∧ w4 = w_) ?_ ?_
  · refine W_seq ?_
    refine W_reg ?_
    refine L_op rfl (X_move (v := (.int .i64 ((askE ps.length cs bs off n)))) rfl ?_)
    by_cases hc6 : ((askE ps.length cs bs off n) : Int) = (0)
    · refine L_op rfl (X_cmp (k := .i64) (a := (askE ps.length cs bs off n)) (b := 0) (r := true) rfl rfl rfl (decide_eq_true (p := (((askE ps.length cs bs off n)) : Int) = ((0) : Int)) (by omega)) ?_)
      refine L_op rfl (X_move (v := (.bool (true))) rfl ?_)
      refine L_gy (dj := 15) rfl rfl rfl (X_fldP (b := b1) (o := 0) (r := 1) Fd26_1 rfl rfl ?_)
      refine L_gy (dj := 15) rfl rfl rfl (X_load (p := (ptr b1 (1))) (v := cv) T23 rfl (hB1.at1 rfl) ?_)
      refine L_gy (dj := 15) rfl rfl rfl (X_len (v := cv) (n := cs.length) Try.underlying23 rfl hc.sv ?_)
      by_cases hc7 : (((cs.length : Nat) : Int) : Int) = (2000)
      · refine L_gy (dj := 15) rfl rfl rfl (X_cmp (k := .i64) (a := ((cs.length : Nat) : Int)) (b := 2000) (r := true) rfl rfl rfl (decide_eq_true (p := ((((cs.length : Nat) : Int)) : Int) = ((2000) : Int)) (by omega)) ?_)
        refine L_op rfl (X_pick (t := true) (v := (.bool (true))) rfl rfl ?_)
        refine L_nil ?_
        refine T_n ?_
        refine W_ct rfl ?_
        refine W_reg ?_
        refine L_op rfl (X_assign (v := (.int .i64 (32))) rfl ?_)
        refine L_nil ?_
        refine T_n ?_
        exact ⟨rfl, 32, ⟨(wrE_full (by omega) (by omega)).symm, rfl⟩, (Out.suf rfl rfl), ⟨rfl, trivial⟩⟩
      · refine L_gy (dj := 15) rfl rfl rfl (X_cmp (k := .i64) (a := ((cs.length : Nat) : Int)) (b := 2000) (r := false) rfl rfl rfl (decide_eq_false (p := ((((cs.length : Nat) : Int)) : Int) = ((2000) : Int)) (by omega)) ?_)
        refine L_op rfl (X_pick (t := true) (v := (.bool (false))) rfl rfl ?_)
        refine L_nil ?_
        refine T_n ?_
        refine W_cf rfl ?_
        refine W_skip ?_
        refine T_n ?_
        exact ⟨rfl, (askE ps.length cs bs off n), ⟨(wrE_ask (by omega)).symm, rfl⟩, (Out.suf rfl rfl), ⟨rfl, trivial⟩⟩
    · refine L_op rfl (X_cmp (k := .i64) (a := (askE ps.length cs bs off n)) (b := 0) (r := false) rfl rfl rfl (decide_eq_false (p := (((askE ps.length cs bs off n)) : Int) = ((0) : Int)) (by omega)) ?_)
      refine L_op rfl (X_move (v := (.bool (false))) rfl ?_)
      refine L_gn (dj := 15) (t := false) rfl rfl rfl rfl ?_
      refine L_gn (dj := 15) (t := false) rfl rfl rfl rfl ?_
      refine L_gn (dj := 15) (t := false) rfl rfl rfl rfl ?_
      refine L_gn (dj := 15) (t := false) rfl rfl rfl rfl ?_
      refine L_op rfl (X_pick (t := false) (v := (.bool (false))) rfl rfl ?_)
      refine L_nil ?_
      refine T_n ?_
      refine W_cf rfl ?_
      refine W_skip ?_
      refine T_n ?_
      exact ⟨rfl, (askE ps.length cs bs off n), ⟨(wrE_ask (by omega)).symm, rfl⟩, (Out.suf rfl rfl), ⟨rfl, trivial⟩⟩
  · rintro e1 _ _ ⟨he1, rfl⟩
    refine W_seq ?_
    refine W_reg ?_
    refine L_op rfl (X_loadA (p := (ptr b1 (0))) (xs := [pv, cv, bv, (.bool (off))]) A26 rfl hB1.atAll rfl ?_)
    obtain ⟨s0, hs0⟩ : ∃ n, n = w4.heap.size := ⟨_, rfl⟩
    refine L_op rfl (X_fn (vs := [(.agg ([pv, cv, bv, (.bool (off))]).toArray)]) en16 rfl (CT.mono (c_copyR pv cv bv ps cs bs off _ lo up (by omega) hp hc hb hpL hcL hbL) ?_))
    rintro _ w8 ⟨p_2, c_2, i_2, rfl, hP2, hC2, hI2, hu8⟩
    have hz8 := hu8.size
    rw [← hs0] at hP2 hC2 hI2
    obtain ⟨us0, hus0_⟩ : ∃ n, n = w8.heap.size := ⟨_, rfl⟩
    rw [← hus0_] at hP2 hC2 hI2
    replace hp := hp.ext hu8
    replace hc := hc.ext hu8
    replace hb := hb.ext hu8
    replace hU := hU.trans (Ext.upd hu8)
    replace hB1 := hB1.ext hu8
    replace hB2 := hB2.ext hu8
    replace hB3 := hB3.ext hu8
    refine L_op rfl (X_alloc (z := (.agg #[(.slice none 0 0), (.slice none 0 0), (.slice none 0 0), (.bool (false))])) (c := #[(.slice none 0 0), (.slice none 0 0), (.slice none 0 0), (.bool (false))]) Zv26 rfl ?_)
    intro b9 w9 hn9
    have hbn9 := hn9.num; have hbs9 := hn9.size
    replace hp := hp.ext hn9.ext
    replace hc := hc.ext hn9.ext
    replace hb := hb.ext hn9.ext
    replace hU := hU.trans (Ext.upd hn9.ext)
    replace hB1 := hB1.ext hn9.ext
    replace hB2 := hB2.ext hn9.ext
    replace hB3 := hB3.ext hn9.ext
    replace hP2 := hP2.ext hn9.ext
    replace hC2 := hC2.ext hn9.ext
    replace hI2 := hI2.ext hn9.ext
    have hB9 := hn9.blk
    refine L_op0 (X_storeW (b := b9) (ys := [p_2, c_2, i_2, (.bool (off))]) A26 rfl rfl (List.forall_mem_cons.2 ⟨(hP2.1.sv.one), (List.forall_mem_cons.2 ⟨(hC2.1.sv.one), (List.forall_mem_cons.2 ⟨(hI2.1.sv.one), (List.forall_mem_cons.2 ⟨rfl, (fun _ h => by cases h)⟩)⟩)⟩)⟩) rfl hB9 rfl ?_)
    intro w10 hu10 hb10
    have hz10 := hu10.size
    replace hp := hp.upd hu10 fun i h1 h2 h => by have h : i = b9 := h; omega
    replace hc := hc.upd hu10 fun i h1 h2 h => by have h : i = b9 := h; omega
    replace hb := hb.upd hu10 fun i h1 h2 h => by have h : i = b9 := h; omega
    replace hU := hU.trans (hu10.mono fun i _ h => by have h : i = b9 := h; show n0 ≤ i; omega)
    replace hB1 := hB1.upd hu10 fun h => by have h : b1 = b9 := h; omega
    replace hB2 := hB2.upd hu10 fun h => by have h : b2 = b9 := h; omega
    replace hB3 := hB3.upd hu10 fun h => by have h : b3 = b9 := h; omega
    replace hP2 := hP2.upd hu10 fun i h1 h2 h => by have h : i = b9 := h; omega
    replace hC2 := hC2.upd hu10 fun i h1 h2 h => by have h : i = b9 := h; omega
    replace hI2 := hI2.upd hu10 fun i h1 h2 h => by have h : i = b9 := h; omega
    replace hB9 : Blk w10 b9 #[p_2, c_2, i_2, (.bool (off))] 26 := hb10
    refine L_nil ?_
    refine T_n ?_
    refine W_seq ?_
    refine W_seq ?_
    refine W_reg ?_
    refine L_op rfl (X_move (v := (.int .i64 (e1))) rfl ?_)
    by_cases hc11 : (e1 : Int) = (0)
    · refine L_op rfl (X_cmp (k := .i64) (a := e1) (b := 0) (r := true) rfl rfl rfl (decide_eq_true (p := ((e1) : Int) = ((0) : Int)) (by omega)) ?_)
      refine L_nil ?_
      refine T_n ?_
      refine W_ct rfl ?_
      refine W_reg ?_
      refine L_op rfl (X_fldP (b := b9) (o := 0) (r := 1) Fd26_1 rfl rfl ?_)
      refine L_op rfl (X_load (p := (ptr b9 (1))) (v := c_2) T23 rfl (hB9.at1 rfl) ?_)
      refine L_op rfl (X_move (v := (.int .i64 (n))) rfl ?_)
      refine L_op rfl (X_loadA (p := (ptr b2 (0))) (xs := ((p.1).map byteV)) A28 rfl hB2.atAll (by rw [List.length_map]; exact p.2) ?_)
      refine L_op rfl (X_build (built43 n p) ?_)
      refine L_op rfl (X_buildSliceL (vs := [wrV (n, p)]) (c := LW.cel (n, p)) S23 (by decide) rfl rfl (List.forall_mem_cons.2 ⟨wr_size _, fun _ h => by cases h⟩) (List.append_nil _) ?_)
      intro bl wl hnl
      have hbnl := hnl.num; have hbsl := hnl.size
      replace hp := hp.ext hnl.ext
      replace hc := hc.ext hnl.ext
      replace hb := hb.ext hnl.ext
      replace hU := hU.trans (Ext.upd hnl.ext)
      replace hB1 := hB1.ext hnl.ext
      replace hB2 := hB2.ext hnl.ext
      replace hB3 := hB3.ext hnl.ext
      replace hP2 := hP2.ext hnl.ext
      replace hC2 := hC2.ext hnl.ext
      replace hI2 := hI2.ext hnl.ext
      replace hB9 := hB9.ext hnl.ext
      have hBl := hnl.blk
      refine L_op rfl (X_append (B := s0) (n := cs.length) (s := c_2) (x := .slice (some ⟨bl, 0, none⟩) 1 1) S23 ⟨_, Try.underlying23⟩ rfl rfl hC2.1 (m := 1) (ys := LW.cel (n, p)) (hBl.rd (o := 0) (n := 1) (c := 1) (sz := 257) (by decide) (by decide) (by rw [LW.len]; rfl) (fun j u hj => by rw [Nat.zero_add]; simpa using hj)) (LW.one (n, p) (fun _ h => by cases h)) (by unfold maxLen; omega) (by omega) (by omega) ?_)
      intro v5 w5 hO5 hu5 ho5
      have hC2b := hC2.2.1
      have hz5 := hu5.size
      have hC5 : NOwn LW w5 43 5 s0 w5.heap.size v5 (cs ++ [(n, p)]) := NOwn.of (fun _ => rfl) (hO5.eq (by rw [List.length_append]; rfl) (by rw [List.flatMap_append]; simp)) fun b hb => (hO5.lt hb).2
      replace hP2 := NOwn.upd' (fun _ => rfl) hP2 hu5 fun b h1 h2 => absurd (hP2.1.types hC2.1 h1 h2) (by decide)
      replace hI2 := NOwn.upd' (fun _ => rfl) hI2 hu5 fun b h1 h2 => absurd (hI2.1.types hC2.1 h1 h2) (by decide)
      replace hp := hp.upd hu5 fun i h1 h2 h => by have h1_ := hC2.1.lt h; have h2_ := hC2.2.1 _ h; omega
      replace hc := hc.upd hu5 fun i h1 h2 h => by have h1_ := hC2.1.lt h; have h2_ := hC2.2.1 _ h; omega
      replace hb := hb.upd hu5 fun i h1 h2 h => by have h1_ := hC2.1.lt h; have h2_ := hC2.2.1 _ h; omega
      replace hU := hU.trans (hu5.mono fun i _ h => by have h1_ := hC2.1.lt h; have h2_ := hC2.2.1 _ h; show n0 ≤ i; omega)
      replace hB1 := hB1.upd hu5 fun h => by have h1_ := hC2.1.lt h; have h2_ := hC2.2.1 _ h; omega
      replace hB2 := hB2.upd hu5 fun h => by have h1_ := hC2.1.lt h; have h2_ := hC2.2.1 _ h; omega
      replace hB3 := hB3.upd hu5 fun h => by have h1_ := hC2.1.lt h; have h2_ := hC2.2.1 _ h; omega
      replace hB9 := hB9.upd hu5 fun h => by have h1_ := hC2.1.lt h; have h2_ := hC2.2.1 _ h; omega
      obtain ⟨u5, hu5_⟩ : ∃ n, n = w5.heap.size := ⟨_, rfl⟩
      rw [← hu5_] at hC5
      refine L_op rfl (X_fldP (b := b9) (o := 0) (r := 1) Fd26_1 rfl rfl ?_)
      refine L_op0 (X_store (b := b9) (o := 1) T23 rfl rfl (hC5.1.sv.one) hB9 (by show (1 : Nat) < 4; decide) ?_)
      intro w12 hu12 hb12
      have hz12 := hu12.size
      replace hp := hp.upd hu12 fun i h1 h2 h => by have h : i = b9 := h; omega
      replace hc := hc.upd hu12 fun i h1 h2 h => by have h : i = b9 := h; omega
      replace hb := hb.upd hu12 fun i h1 h2 h => by have h : i = b9 := h; omega
      replace hU := hU.trans (hu12.mono fun i _ h => by have h : i = b9 := h; show n0 ≤ i; omega)
      replace hB1 := hB1.upd hu12 fun h => by have h : b1 = b9 := h; omega
      replace hB2 := hB2.upd hu12 fun h => by have h : b2 = b9 := h; omega
      replace hB3 := hB3.upd hu12 fun h => by have h : b3 = b9 := h; omega
      replace hP2 := hP2.upd hu12 fun i h1 h2 h => by have h : i = b9 := h; omega
      replace hI2 := hI2.upd hu12 fun i h1 h2 h => by have h : i = b9 := h; omega
      replace hC5 := NOwn.upd' (fun _ => rfl) hC5 hu12 fun b hb h => by have h3 := ho5 b hb; have h4 := (hC5.1.lt hb).1; have h : b = b9 := h; rcases h3 with h3 | h3; (· have := hC2b b h3; omega); (· omega)
      replace hB9 : Blk w12 b9 #[p_2, v5, i_2, (.bool (off))] 26 := hb12
      refine L_nil ?_
      refine T_n ?_
      refine W_seq ?_
      refine W_reg ?_
      refine L_op rfl (X_loadA (p := (ptr b9 (0))) (xs := [p_2, v5, i_2, (.bool (off))]) A26 rfl hB9.atAll rfl ?_)
      refine L_op rfl (X_move (v := (.int .i64 (e1))) rfl ?_)
      refine L_op0 (X_storeW (b := b3) (ys := [p_2, v5, i_2, (.bool (off))]) A26 rfl rfl (List.forall_mem_cons.2 ⟨(hP2.1.sv.one), (List.forall_mem_cons.2 ⟨(hC5.1.sv.one), (List.forall_mem_cons.2 ⟨(hI2.1.sv.one), (List.forall_mem_cons.2 ⟨rfl, (fun _ h => by cases h)⟩)⟩)⟩)⟩) rfl hB3 rfl ?_)
      intro w13 hu13 hb13
      have hz13 := hu13.size
      replace hp := hp.upd hu13 fun i h1 h2 h => by have h : i = b3 := h; omega
      replace hc := hc.upd hu13 fun i h1 h2 h => by have h : i = b3 := h; omega
      replace hb := hb.upd hu13 fun i h1 h2 h => by have h : i = b3 := h; omega
      replace hU := hU.trans (hu13.mono fun i _ h => by have h : i = b3 := h; show n0 ≤ i; omega)
      replace hB1 := hB1.upd hu13 fun h => by have h : b1 = b3 := h; omega
      replace hB2 := hB2.upd hu13 fun h => by have h : b2 = b3 := h; omega
      replace hP2 := hP2.upd hu13 fun i h1 h2 h => by have h : i = b3 := h; omega
      replace hI2 := hI2.upd hu13 fun i h1 h2 h => by have h : i = b3 := h; omega
      replace hC5 := NOwn.upd' (fun _ => rfl) hC5 hu13 fun b hb h => by have h3 := ho5 b hb; have h4 := (hC5.1.lt hb).1; have h : b = b3 := h; rcases h3 with h3 | h3; (· have := hC2b b h3; omega); (· omega)
      replace hB9 := hB9.upd hu13 fun h => by have h : b9 = b3 := h; omega
      replace hB3 : Blk w13 b3 #[p_2, v5, i_2, (.bool (off))] 26 := hb13
      refine L_op rfl (X_assign (v := (.int .i64 (e1))) rfl ?_)
      refine L_nil ?_
      refine T_n ?_
      refine W_ret ?_
      exact BQ_r (End_2 Try.results26 (RV_A A26 rfl hB3.atAll rfl) (v2 := .int .i64 e1) rfl ⟨_, _, _, by rw [he1], hP2.mono (by omega) (by omega), by unfold writeC; rw [← he1, if_pos (by omega)]; exact hC5.mono (by omega) (by omega), hI2.mono (by omega) (by omega), hU.own hn0⟩)
    · refine L_op rfl (X_cmp (k := .i64) (a := e1) (b := 0) (r := false) rfl rfl rfl (decide_eq_false (p := ((e1) : Int) = ((0) : Int)) (by omega)) ?_)
      refine L_nil ?_
      refine T_n ?_
      refine W_cf rfl ?_
      refine W_skip ?_
      refine T_n ?_
      refine W_seq ?_
      refine W_reg ?_
      refine L_op rfl (X_loadA (p := (ptr b9 (0))) (xs := [p_2, c_2, i_2, (.bool (off))]) A26 rfl hB9.atAll rfl ?_)
      refine L_op rfl (X_move (v := (.int .i64 (e1))) rfl ?_)
      refine L_op0 (X_storeW (b := b3) (ys := [p_2, c_2, i_2, (.bool (off))]) A26 rfl rfl (List.forall_mem_cons.2 ⟨(hP2.1.sv.one), (List.forall_mem_cons.2 ⟨(hC2.1.sv.one), (List.forall_mem_cons.2 ⟨(hI2.1.sv.one), (List.forall_mem_cons.2 ⟨rfl, (fun _ h => by cases h)⟩)⟩)⟩)⟩) rfl hB3 rfl ?_)
      intro w14 hu14 hb14
      have hz14 := hu14.size
      replace hp := hp.upd hu14 fun i h1 h2 h => by have h : i = b3 := h; omega
      replace hc := hc.upd hu14 fun i h1 h2 h => by have h : i = b3 := h; omega
      replace hb := hb.upd hu14 fun i h1 h2 h => by have h : i = b3 := h; omega
      replace hU := hU.trans (hu14.mono fun i _ h => by have h : i = b3 := h; show n0 ≤ i; omega)
      replace hB1 := hB1.upd hu14 fun h => by have h : b1 = b3 := h; omega
      replace hB2 := hB2.upd hu14 fun h => by have h : b2 = b3 := h; omega
      replace hP2 := hP2.upd hu14 fun i h1 h2 h => by have h : i = b3 := h; omega
      replace hC2 := hC2.upd hu14 fun i h1 h2 h => by have h : i = b3 := h; omega
      replace hI2 := hI2.upd hu14 fun i h1 h2 h => by have h : i = b3 := h; omega
      replace hB9 := hB9.upd hu14 fun h => by have h : b9 = b3 := h; omega
      replace hB3 : Blk w14 b3 #[p_2, c_2, i_2, (.bool (off))] 26 := hb14
      refine L_op rfl (X_assign (v := (.int .i64 (e1))) rfl ?_)
      refine L_nil ?_
      refine T_n ?_
      refine W_ret ?_
      exact BQ_r (End_2 Try.results26 (RV_A A26 rfl hB3.atAll rfl) (v2 := .int .i64 e1) rfl ⟨_, _, _, by rw [he1], hP2.mono (by omega) (by omega), by unfold writeC; rw [← he1, if_neg (by omega)]; exact hC2.mono (by omega) (by omega), hI2.mono (by omega) (by omega), hU.own hn0⟩)
end Go.Proofs.Ythongcaijgfojaa
