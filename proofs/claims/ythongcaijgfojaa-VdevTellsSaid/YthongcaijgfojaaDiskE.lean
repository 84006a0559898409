/-
  More contracts of chapter 03: writing. (Printed by wip/gen/t03e.py of this repo.)
-/
import Derived.Test.YthongcaijgfojaaDiskD
namespace Go.Proofs.Ythongcaijgfojaa
open Go Go.SL Go.Proofs
set_option linter.unusedVariables false

open Classical in
noncomputable def wrE (np : Nat) (cs : List Wr) (bs : List Int) (off : Bool) (n : Int) : Int := if askE np cs bs off n = 0 ∧ 2000 ≤ cs.length then 32 else askE np cs bs off n
theorem wrE_full {np : Nat} {cs : List Wr} {bs : List Int} {off : Bool} {n : Int} (h : askE np cs bs off n = 0) (h2 : 2000 ≤ cs.length) : wrE np cs bs off n = 32 := if_pos ⟨h, h2⟩
theorem wrE_ask {np : Nat} {cs : List Wr} {bs : List Int} {off : Bool} {n : Int} (h : ¬ (askE np cs bs off n = 0 ∧ 2000 ≤ cs.length)) : wrE np cs bs off n = askE np cs bs off n := if_neg h
open Classical in
noncomputable def writeC (np : Nat) (cs : List Wr) (bs : List Int) (off : Bool) (n : Int) (p : Pg) : List Wr := if wrE np cs bs off n = 0 then cs ++ [(n, p)] else cs
theorem NOwn.upd' {ε : Type} {L : Lay ε} {w w' : World} {D : Nat → Prop} {er eb lo hi : Nat} {v : Value} {es : List ε} (hs : ∀ e, L.sub e = []) (h : NOwn L w er eb lo hi v es) (hu : Upd D w w') (hd : ∀ b, obk v = some b → ¬ D b) : NOwn L w' er eb lo hi v es :=
  NOwn.of hs (h.1.upd hu hd) h.2.1

theorem c_write (pv cv bv : Value) (ps : List Pg) (cs : List Wr) (bs : List Int) (off : Bool) (n : Int) (p : Pg) (w : World) (lo up : Nat) (hup : up ≤ w.heap.size) (hp : NRd LP w lo up pv ps) (hc : NRd LW w lo up cv cs) (hb : NRd LI w lo up bv bs) (hpL : ps.length ≤ 1048576) (hcL : cs.length ≤ 1048576) (hbL : bs.length ≤ 1048576) : CT Try.prog 12 #[(.agg #[pv, cv, bv, (.bool (off))]), (.int .i64 (n)), (pageV p)] w fun v w' => ∃ p2 c2 i2, v = .tuple #[.agg #[p2, c2, i2, .bool off], .int .i64 (wrE ps.length cs bs off n)] ∧ NOwn LP w' 28 5 w.heap.size w'.heap.size p2 ps ∧ NOwn LW w' 43 5 w.heap.size w'.heap.size c2 (writeC ps.length cs bs off n p) ∧ NOwn LI w' 3 5 w.heap.size w'.heap.size i2 bs ∧ Ext w w' := by
  obtain ⟨n0, hn0⟩ : ∃ n, n = w.heap.size := ⟨_, rfl⟩
  have hU : Upd (fun i => n0 ≤ i) w w := Upd.refl _ _
  have hpl := hp.sv.len
  have hcl := hc.sv.len
  have hbl := hb.sv.len
  rw [← hn0] at hup
  refine CT_of Try.func12 rfl rfl rfl ?_
  refine W_seq ?_
  refine W_reg ?_
  refine L_op rfl (X_box (v := (.agg #[pv, cv, bv, (.bool (off))])) (c := ([pv, cv, bv, (.bool (off))]).toArray) rfl rfl ?_)
  intro b1 w1 hn1
  have hbn1 := hn1.num; have hbs1 := hn1.size
  replace hp := hp.ext hn1.ext
  replace hc := hc.ext hn1.ext
  replace hb := hb.ext hn1.ext
  replace hU := hU.trans (Ext.upd hn1.ext)
  have hB1 := hn1.blk
  refine L_op rfl (X_box (v := (pageV p)) (c := ((p.1).map byteV).toArray) rfl rfl ?_)
  intro b2 w2 hn2
  have hbn2 := hn2.num; have hbs2 := hn2.size
  replace hp := hp.ext hn2.ext
  replace hc := hc.ext hn2.ext
  replace hb := hb.ext hn2.ext
  replace hU := hU.trans (Ext.upd hn2.ext)
  replace hB1 := hB1.ext hn2.ext
  have hB2 := hn2.blk
  refine L_op rfl (X_alloc (z := (.agg #[(.slice none 0 0), (.slice none 0 0), (.slice none 0 0), (.bool (false))])) (c := #[(.slice none 0 0), (.slice none 0 0), (.slice none 0 0), (.bool (false))]) Zv26 rfl ?_)
  intro b3 w3 hn3
  have hbn3 := hn3.num; have hbs3 := hn3.size
  replace hp := hp.ext hn3.ext
  replace hc := hc.ext hn3.ext
  replace hb := hb.ext hn3.ext
  replace hU := hU.trans (Ext.upd hn3.ext)
  replace hB1 := hB1.ext hn3.ext
  replace hB2 := hB2.ext hn3.ext
  have hB3 := hn3.blk
  refine L_op rfl (X_assign (v := (.int .i64 (0))) rfl ?_)
  refine L_nil ?_
  refine T_n ?_
  refine W_seq ?_
  refine W_reg ?_
  refine L_op rfl (X_loadA (p := (ptr b1 (0))) (xs := [pv, cv, bv, (.bool (off))]) A26 rfl hB1.atAll rfl ?_)
  refine L_op rfl (X_move (v := (.int .i64 (n))) rfl ?_)
  refine L_op rfl (X_fn (vs := [(.agg ([pv, cv, bv, (.bool (off))]).toArray), (.int .i64 (n))]) en28 rfl (CT.mono (c_asked pv cv bv ps cs bs off n _ lo up (by omega) hp hc hb) ?_))
  rintro _ w4 ⟨rfl, hu4⟩
  have hz4 := hu4.size
  replace hp := hp.ext hu4
  replace hc := hc.ext hu4
  replace hb := hb.ext hu4
  replace hU := hU.trans (Ext.upd hu4)
  replace hB1 := hB1.ext hu4
  replace hB2 := hB2.ext hu4
  replace hB3 := hB3.ext hu4
  refine L_op rfl (X_assign (v := (.int .i64 ((askE ps.length cs bs off n)))) rfl ?_)
  refine L_nil ?_
  refine T_n ?_
  refine W_cut (α := Int) [8, 12, 13, 14, 15, 16, 17, 18, 19] (fun e1 => [(8, (.int .i64 (e1)))]) (fun e1 w_ => e1 = wrE ps.length cs bs off n ∧ w4 = w_) ?_ ?_
  · refine W_seq ?_
    refine W_reg ?_
    refine L_op rfl (X_move (v := (.int .i64 ((askE ps.length cs bs off n)))) rfl ?_)
    by_cases hc6 : ((askE ps.length cs bs off n) : Int) = (0)
    · refine L_op rfl (X_cmp (k := .i64) (a := (askE ps.length cs bs off n)) (b := 0) (r := true) rfl rfl rfl (decide_eq_true (p := (((askE ps.length cs bs off n)) : Int) = ((0) : Int)) (by omega)) ?_)
      refine L_op rfl (X_move (v := (.bool (true))) rfl ?_)
      refine L_gy (dj := 14) rfl rfl rfl (X_fldP (b := b1) (o := 0) (r := 1) Fd26_1 rfl rfl ?_)
      refine L_gy (dj := 14) rfl rfl rfl (X_load (p := (ptr b1 (1))) (v := cv) T23 rfl (hB1.at1 rfl) ?_)
      refine L_gy (dj := 14) rfl rfl rfl (X_len (v := cv) (n := cs.length) Try.underlying23 rfl hc.sv ?_)
      by_cases hc7 : (((cs.length : Nat) : Int) : Int) ≥ (2000)
      · refine L_gy (dj := 14) rfl rfl rfl (X_cmp (k := .i64) (a := ((cs.length : Nat) : Int)) (b := 2000) (r := true) rfl rfl rfl (decide_eq_true (p := ((2000) : Int) ≤ ((((cs.length : Nat) : Int)) : Int)) (by omega)) ?_)
        refine L_op rfl (X_pick (t := true) (v := (.bool (true))) rfl rfl ?_)
        refine L_nil ?_
        refine T_n ?_
        refine W_ct rfl ?_
        refine W_reg ?_
        refine L_op rfl (X_assign (v := (.int .i64 (32))) rfl ?_)
        refine L_nil ?_
        refine T_n ?_
        exact ⟨rfl, 32, ⟨(wrE_full (by omega) (by omega)).symm, rfl⟩, (Out.suf rfl rfl), ⟨rfl, trivial⟩⟩
      · refine L_gy (dj := 14) rfl rfl rfl (X_cmp (k := .i64) (a := ((cs.length : Nat) : Int)) (b := 2000) (r := false) rfl rfl rfl (decide_eq_false (p := ((2000) : Int) ≤ ((((cs.length : Nat) : Int)) : Int)) (by omega)) ?_)
        refine L_op rfl (X_pick (t := true) (v := (.bool (false))) rfl rfl ?_)
        refine L_nil ?_
        refine T_n ?_
        refine W_cf rfl ?_
        refine W_skip ?_
        refine T_n ?_
        exact ⟨rfl, (askE ps.length cs bs off n), ⟨(wrE_ask (by omega)).symm, rfl⟩, (Out.suf rfl rfl), ⟨rfl, trivial⟩⟩
    · refine L_op rfl (X_cmp (k := .i64) (a := (askE ps.length cs bs off n)) (b := 0) (r := false) rfl rfl rfl (decide_eq_false (p := (((askE ps.length cs bs off n)) : Int) = ((0) : Int)) (by omega)) ?_)
      refine L_op rfl (X_move (v := (.bool (false))) rfl ?_)
      refine L_gn (dj := 14) (t := false) rfl rfl rfl rfl ?_
      refine L_gn (dj := 14) (t := false) rfl rfl rfl rfl ?_
      refine L_gn (dj := 14) (t := false) rfl rfl rfl rfl ?_
      refine L_gn (dj := 14) (t := false) rfl rfl rfl rfl ?_
      refine L_op rfl (X_pick (t := false) (v := (.bool (false))) rfl rfl ?_)
      refine L_nil ?_
      refine T_n ?_
      refine W_cf rfl ?_
      refine W_skip ?_
      refine T_n ?_
      exact ⟨rfl, (askE ps.length cs bs off n), ⟨(wrE_ask (by omega)).symm, rfl⟩, (Out.suf rfl rfl), ⟨rfl, trivial⟩⟩
  · rintro e1 _ _ ⟨he1, rfl⟩
    refine W_seq ?_
    refine W_reg ?_
    refine L_op rfl (X_loadA (p := (ptr b1 (0))) (xs := [pv, cv, bv, (.bool (off))]) A26 rfl hB1.atAll rfl ?_)
    obtain ⟨s0, hs0⟩ : ∃ n, n = w4.heap.size := ⟨_, rfl⟩
    refine L_op rfl (X_fn (vs := [(.agg ([pv, cv, bv, (.bool (off))]).toArray)]) en17 rfl (CT.mono (c_copy pv cv bv ps cs bs off _ lo up (by omega) hp hc hb hpL hcL hbL) ?_))
    rintro _ w8 ⟨p_2, c_2, i_2, rfl, hP2, hC2, hI2, hu8⟩
    have hz8 := hu8.size
    rw [← hs0] at hP2 hC2 hI2
    obtain ⟨us0, hus0_⟩ : ∃ n, n = w8.heap.size := ⟨_, rfl⟩
    rw [← hus0_] at hP2 hC2 hI2
    replace hp := hp.ext hu8
    replace hc := hc.ext hu8
    replace hb := hb.ext hu8
    replace hU := hU.trans (Ext.upd hu8)
    replace hB1 := hB1.ext hu8
    replace hB2 := hB2.ext hu8
    replace hB3 := hB3.ext hu8
    refine L_op0 (X_storeW (b := b1) (ys := [p_2, c_2, i_2, (.bool (off))]) A26 rfl rfl (List.forall_mem_cons.2 ⟨(hP2.1.sv.one), (List.forall_mem_cons.2 ⟨(hC2.1.sv.one), (List.forall_mem_cons.2 ⟨(hI2.1.sv.one), (List.forall_mem_cons.2 ⟨rfl, (fun _ h => by cases h)⟩)⟩)⟩)⟩) rfl hB1 rfl ?_)
    intro w9 hu9 hb9
    have hz9 := hu9.size
    replace hp := hp.upd hu9 fun i h1 h2 h => by have h : i = b1 := h; omega
    replace hc := hc.upd hu9 fun i h1 h2 h => by have h : i = b1 := h; omega
    replace hb := hb.upd hu9 fun i h1 h2 h => by have h : i = b1 := h; omega
    replace hU := hU.trans (hu9.mono fun i _ h => by have h : i = b1 := h; show n0 ≤ i; omega)
    replace hB2 := hB2.upd hu9 fun h => by have h : b2 = b1 := h; omega
    replace hB3 := hB3.upd hu9 fun h => by have h : b3 = b1 := h; omega
    replace hP2 := hP2.upd hu9 fun i h1 h2 h => by have h : i = b1 := h; omega
    replace hC2 := hC2.upd hu9 fun i h1 h2 h => by have h : i = b1 := h; omega
    replace hI2 := hI2.upd hu9 fun i h1 h2 h => by have h : i = b1 := h; omega
    replace hB1 : Blk w9 b1 #[p_2, c_2, i_2, (.bool (off))] 26 := hb9
    refine L_nil ?_
    refine T_n ?_
    refine W_seq ?_
    refine W_seq ?_
    refine W_reg ?_
    refine L_op rfl (X_move (v := (.int .i64 (e1))) rfl ?_)
    by_cases hc10 : (e1 : Int) = (0)
    · refine L_op rfl (X_cmp (k := .i64) (a := e1) (b := 0) (r := true) rfl rfl rfl (decide_eq_true (p := ((e1) : Int) = ((0) : Int)) (by omega)) ?_)
      refine L_nil ?_
      refine T_n ?_
      refine W_ct rfl ?_
      refine W_reg ?_
      refine L_op rfl (X_fldP (b := b1) (o := 0) (r := 1) Fd26_1 rfl rfl ?_)
      refine L_op rfl (X_load (p := (ptr b1 (1))) (v := c_2) T23 rfl (hB1.at1 rfl) ?_)
      refine L_op rfl (X_move (v := (.int .i64 (n))) rfl ?_)
      refine L_op rfl (X_loadA (p := (ptr b2 (0))) (xs := ((p.1).map byteV)) A28 rfl hB2.atAll (by rw [List.length_map]; exact p.2) ?_)
      refine L_op rfl (X_build (built43 n p) ?_)
      refine L_op rfl (X_buildSliceL (vs := [wrV (n, p)]) (c := LW.cel (n, p)) S23 (by decide) rfl rfl (List.forall_mem_cons.2 ⟨wr_size _, fun _ h => by cases h⟩) (List.append_nil _) ?_)
      intro bl wl hnl
      have hbnl := hnl.num; have hbsl := hnl.size
      replace hp := hp.ext hnl.ext
      replace hc := hc.ext hnl.ext
      replace hb := hb.ext hnl.ext
      replace hU := hU.trans (Ext.upd hnl.ext)
      replace hB2 := hB2.ext hnl.ext
      replace hB3 := hB3.ext hnl.ext
      replace hP2 := hP2.ext hnl.ext
      replace hC2 := hC2.ext hnl.ext
      replace hI2 := hI2.ext hnl.ext
      replace hB1 := hB1.ext hnl.ext
      have hBl := hnl.blk
      refine L_op rfl (X_append (B := s0) (n := cs.length) (s := c_2) (x := .slice (some ⟨bl, 0, none⟩) 1 1) S23 ⟨_, Try.underlying23⟩ rfl rfl hC2.1 (m := 1) (ys := LW.cel (n, p)) (hBl.rd (o := 0) (n := 1) (c := 1) (sz := 257) (by decide) (by decide) (by rw [LW.len]; rfl) (fun j u hj => by rw [Nat.zero_add]; simpa using hj)) (LW.one (n, p) (fun _ h => by cases h)) (by unfold maxLen; omega) (by omega) (by omega) ?_)
      intro v5 w5 hO5 hu5 _
      have hz5 := hu5.size
      have hC5 : NOwn LW w5 43 5 s0 w5.heap.size v5 (cs ++ [(n, p)]) := NOwn.of (fun _ => rfl) (hO5.eq (by rw [List.length_append]; rfl) (by rw [List.flatMap_append]; simp)) fun b hb => (hO5.lt hb).2
      replace hP2 := NOwn.upd' (fun _ => rfl) hP2 hu5 fun b h1 h2 => absurd (hP2.1.types hC2.1 h1 h2) (by decide)
      replace hI2 := NOwn.upd' (fun _ => rfl) hI2 hu5 fun b h1 h2 => absurd (hI2.1.types hC2.1 h1 h2) (by decide)
      replace hp := hp.upd hu5 fun i h1 h2 h => by have h := hC2.1.lt h; omega
      replace hc := hc.upd hu5 fun i h1 h2 h => by have h := hC2.1.lt h; omega
      replace hb := hb.upd hu5 fun i h1 h2 h => by have h := hC2.1.lt h; omega
      replace hU := hU.trans (hu5.mono fun i _ h => by have h := hC2.1.lt h; show n0 ≤ i; omega)
      replace hB2 := hB2.upd hu5 fun h => by have h := hC2.1.lt h; omega
      replace hB3 := hB3.upd hu5 fun h => by have h := hC2.1.lt h; omega
      replace hB1 := hB1.upd hu5 fun h => by have h := hC2.1.lt h; omega
      obtain ⟨u5, hu5_⟩ : ∃ n, n = w5.heap.size := ⟨_, rfl⟩
      rw [← hu5_] at hC5
      refine L_op rfl (X_fldP (b := b1) (o := 0) (r := 1) Fd26_1 rfl rfl ?_)
      refine L_op0 (X_store (b := b1) (o := 1) T23 rfl rfl (hC5.1.sv.one) hB1 (by show (1 : Nat) < 4; decide) ?_)
      intro w11 hu11 hb11
      have hz11 := hu11.size
      replace hp := hp.upd hu11 fun i h1 h2 h => by have h : i = b1 := h; omega
      replace hc := hc.upd hu11 fun i h1 h2 h => by have h : i = b1 := h; omega
      replace hb := hb.upd hu11 fun i h1 h2 h => by have h : i = b1 := h; omega
      replace hU := hU.trans (hu11.mono fun i _ h => by have h : i = b1 := h; show n0 ≤ i; omega)
      replace hB2 := hB2.upd hu11 fun h => by have h : b2 = b1 := h; omega
      replace hB3 := hB3.upd hu11 fun h => by have h : b3 = b1 := h; omega
      replace hP2 := hP2.upd hu11 fun i h1 h2 h => by have h : i = b1 := h; omega
      replace hI2 := hI2.upd hu11 fun i h1 h2 h => by have h : i = b1 := h; omega
      replace hC5 := hC5.upd hu11 fun i h1 h2 h => by have h : i = b1 := h; omega
      replace hB1 : Blk w11 b1 #[p_2, v5, i_2, (.bool (off))] 26 := hb11
      refine L_nil ?_
      refine T_n ?_
      refine W_seq ?_
      refine W_reg ?_
      refine L_op rfl (X_loadA (p := (ptr b1 (0))) (xs := [p_2, v5, i_2, (.bool (off))]) A26 rfl hB1.atAll rfl ?_)
      refine L_op rfl (X_move (v := (.int .i64 (e1))) rfl ?_)
      refine L_op0 (X_storeW (b := b3) (ys := [p_2, v5, i_2, (.bool (off))]) A26 rfl rfl (List.forall_mem_cons.2 ⟨(hP2.1.sv.one), (List.forall_mem_cons.2 ⟨(hC5.1.sv.one), (List.forall_mem_cons.2 ⟨(hI2.1.sv.one), (List.forall_mem_cons.2 ⟨rfl, (fun _ h => by cases h)⟩)⟩)⟩)⟩) rfl hB3 rfl ?_)
      intro w12 hu12 hb12
      have hz12 := hu12.size
      replace hp := hp.upd hu12 fun i h1 h2 h => by have h : i = b3 := h; omega
      replace hc := hc.upd hu12 fun i h1 h2 h => by have h : i = b3 := h; omega
      replace hb := hb.upd hu12 fun i h1 h2 h => by have h : i = b3 := h; omega
      replace hU := hU.trans (hu12.mono fun i _ h => by have h : i = b3 := h; show n0 ≤ i; omega)
      replace hB2 := hB2.upd hu12 fun h => by have h : b2 = b3 := h; omega
      replace hP2 := hP2.upd hu12 fun i h1 h2 h => by have h : i = b3 := h; omega
      replace hI2 := hI2.upd hu12 fun i h1 h2 h => by have h : i = b3 := h; omega
      replace hC5 := hC5.upd hu12 fun i h1 h2 h => by have h : i = b3 := h; omega
      replace hB1 := hB1.upd hu12 fun h => by have h : b1 = b3 := h; omega
      replace hB3 : Blk w12 b3 #[p_2, v5, i_2, (.bool (off))] 26 := hb12
      refine L_op rfl (X_assign (v := (.int .i64 (e1))) rfl ?_)
      refine L_nil ?_
      refine T_n ?_
      refine W_ret ?_
      exact BQ_r (End_2 Try.results12 (RV_A A26 rfl hB3.atAll rfl) (v2 := .int .i64 e1) rfl ⟨_, _, _, by rw [he1], hP2.mono (by omega) (by omega), by unfold writeC; rw [← he1, if_pos (by omega)]; exact hC5.mono (by omega) (by omega), hI2.mono (by omega) (by omega), hU.own hn0⟩)
    · refine L_op rfl (X_cmp (k := .i64) (a := e1) (b := 0) (r := false) rfl rfl rfl (decide_eq_false (p := ((e1) : Int) = ((0) : Int)) (by omega)) ?_)
      refine L_nil ?_
      refine T_n ?_
      refine W_cf rfl ?_
      refine W_skip ?_
      refine T_n ?_
      refine W_seq ?_
      refine W_reg ?_
      refine L_op rfl (X_loadA (p := (ptr b1 (0))) (xs := [p_2, c_2, i_2, (.bool (off))]) A26 rfl hB1.atAll rfl ?_)
      refine L_op rfl (X_move (v := (.int .i64 (e1))) rfl ?_)
      refine L_op0 (X_storeW (b := b3) (ys := [p_2, c_2, i_2, (.bool (off))]) A26 rfl rfl (List.forall_mem_cons.2 ⟨(hP2.1.sv.one), (List.forall_mem_cons.2 ⟨(hC2.1.sv.one), (List.forall_mem_cons.2 ⟨(hI2.1.sv.one), (List.forall_mem_cons.2 ⟨rfl, (fun _ h => by cases h)⟩)⟩)⟩)⟩) rfl hB3 rfl ?_)
      intro w13 hu13 hb13
      have hz13 := hu13.size
      replace hp := hp.upd hu13 fun i h1 h2 h => by have h : i = b3 := h; omega
      replace hc := hc.upd hu13 fun i h1 h2 h => by have h : i = b3 := h; omega
      replace hb := hb.upd hu13 fun i h1 h2 h => by have h : i = b3 := h; omega
      replace hU := hU.trans (hu13.mono fun i _ h => by have h : i = b3 := h; show n0 ≤ i; omega)
      replace hB2 := hB2.upd hu13 fun h => by have h : b2 = b3 := h; omega
      replace hP2 := hP2.upd hu13 fun i h1 h2 h => by have h : i = b3 := h; omega
      replace hC2 := hC2.upd hu13 fun i h1 h2 h => by have h : i = b3 := h; omega
      replace hI2 := hI2.upd hu13 fun i h1 h2 h => by have h : i = b3 := h; omega
      replace hB1 := hB1.upd hu13 fun h => by have h : b1 = b3 := h; omega
      replace hB3 : Blk w13 b3 #[p_2, c_2, i_2, (.bool (off))] 26 := hb13
      refine L_op rfl (X_assign (v := (.int .i64 (e1))) rfl ?_)
      refine L_nil ?_
      refine T_n ?_
      refine W_ret ?_
      exact BQ_r (End_2 Try.results12 (RV_A A26 rfl hB3.atAll rfl) (v2 := .int .i64 e1) rfl ⟨_, _, _, by rw [he1], hP2.mono (by omega) (by omega), by unfold writeC; rw [← he1, if_neg (by omega)]; exact hC2.mono (by omega) (by omega), hI2.mono (by omega) (by omega), hU.own hn0⟩)

def keepI (bs : List Int) (n : Int) : List Int := bs.filter fun a => decide (a ≠ n)
theorem keepI_take_hit {bs : List Int} {n : Int} {i : Nat} (hi : bs[i]? = some n) : keepI (bs.take (i + 1)) n = keepI (bs.take i) n := by
  unfold keepI
  rw [List.take_add_one, hi, List.filter_append]
  simp
theorem keepI_take_miss {bs : List Int} {n a : Int} {i : Nat} (hi : bs[i]? = some a) (h : a ≠ n) : keepI (bs.take (i + 1)) n = keepI (bs.take i) n ++ [a] := by
  unfold keepI
  rw [List.take_add_one, hi, List.filter_append]
  simp [h]
theorem keepI_all {bs : List Int} {n : Int} (h : ∀ (j : Nat) (a : Int), bs[j]? = some a → a ≠ n) : keepI bs n = bs := by
  unfold keepI
  rw [List.filter_eq_self]
  intro a ha
  obtain ⟨j, hj, rfl⟩ := List.getElem_of_mem ha
  simpa using h j _ (List.getElem?_eq_getElem hj)
theorem keepI_le (bs : List Int) (n : Int) : (keepI bs n).length ≤ bs.length := List.length_filter_le _ _

theorem c_flush1 (a : Int) (e : Wr) (b1 : Nat) (w : World) (hE : Blk w b1 (LW.cel e).toArray 43) : CT Try.prog 32 #[(.int .i64 (a)), (ptr b1 (0))] w fun v w' => v = .bool (decide (a = e.1)) ∧ w = w' := by
  refine CT_of Try.func32 rfl rfl rfl ?_
  refine W_seq ?_
  refine W_reg ?_
  refine L_op rfl (X_assign (v := (.bool (false))) rfl ?_)
  refine L_nil ?_
  refine T_n ?_
  refine W_seq ?_
  refine W_reg ?_
  refine L_op rfl (X_move (v := (.int .i64 (a))) rfl ?_)
  refine L_op rfl (X_fldP (b := b1) (o := 0) (r := 0) Fd43_0 rfl rfl ?_)
  refine L_op rfl (X_load (p := (ptr b1 (0))) (v := .int .i64 e.1) T3 rfl (hE.at1 rfl) ?_)
  refine L_op rfl (X_cmp (k := .i64) (a := a) (b := e.1) (r := decide (a = e.1)) rfl rfl rfl rfl ?_)
  refine L_op rfl (X_assign (v := (.bool (decide (a = e.1)))) rfl ?_)
  refine L_nil ?_
  refine T_n ?_
  refine W_ret ?_
  exact BQ_r (End_1 Try.results32 (v := .bool (decide (a = e.1))) rfl ⟨rfl, rfl⟩)

theorem c_indexf (v : Value) (e : Wr) (b1 : Nat) (bs : List Int) (w : World) (lo up : Nat) (hb : NRd LI w lo up v bs) (hE : Blk w b1 (LW.cel e).toArray 43) : CT Try.prog 45 #[v, (.func (.func 32) #[] #[ptr b1 0])] w fun v w' => ((v = .int .i64 (-1) ∧ ∀ (j : Nat) (a : Int), bs[j]? = some a → a ≠ e.1) ∨ ∃ i : Nat, v = .int .i64 ((i : Nat) : Int) ∧ bs[i]? = some e.1 ∧ ∀ (j : Nat) (a : Int), j < i → bs[j]? = some a → a ≠ e.1) ∧ w = w' := by
  have hmx := hb.sv.len
  refine CT_of Try.func45 rfl rfl rfl ?_
  refine W_seq ?_
  refine W_reg ?_
  refine L_op rfl (X_assign (v := (.int .i64 (0))) rfl ?_)
  refine L_nil ?_
  refine T_n ?_
  refine W_seq ?_
  refine W_seq ?_
  refine W_reg ?_
  refine L_op rfl (X_move (v := v) rfl ?_)
  refine L_op rfl (X_len (v := v) (n := bs.length) Try.underlying24 rfl hb.sv ?_)
  refine L_op rfl (X_move (v := (.int .i64 (0))) rfl ?_)
  refine L_nil ?_
  refine T_n ?_
  refine W_block ?_
  refine W_loop (α := Nat) [4, 5, 8, 9, 10, 11, 12, 13, 14, 15, 16, 17, 18] (fun i => [(8, (.int .i64 (((i : Nat) : Int))))]) (fun i w_ => w = w_ ∧ i ≤ bs.length ∧ ∀ (j : Nat) (a : Int), j < i → bs[j]? = some a → a ≠ e.1) (fun i => bs.length - i) ⟨rfl, 0, ⟨rfl, Nat.zero_le _, fun j _ h => absurd h (Nat.not_lt_zero j)⟩, Out.refl _ _, ⟨rfl, trivial⟩⟩ ?_
  rintro i w1 _ ⟨rfl, hil, hz⟩
  refine W_seq ?_
  refine W_reg ?_
  by_cases hc2 : (((i : Nat) : Int) : Int) < (((bs.length : Nat) : Int))
  · refine L_op rfl (X_cmp (k := .i64) (a := ((i : Nat) : Int)) (b := ((bs.length : Nat) : Int)) (r := true) rfl rfl rfl (decide_eq_true (p := ((((i : Nat) : Int)) : Int) < ((((bs.length : Nat) : Int)) : Int)) (by omega)) ?_)
    have hi : i < bs.length := by omega
    obtain ⟨a, hai⟩ : ∃ a, bs[i]? = some a := ⟨_, List.getElem?_eq_getElem hi⟩
    refine L_nil ?_
    refine T_n ?_
    refine W_seq ?_
    refine W_ct rfl ?_
    refine W_skip ?_
    refine T_n ?_
    refine W_seq ?_
    refine W_block ?_
    refine W_seq ?_
    refine W_reg ?_
    refine L_op rfl (X_move (v := (.int .i64 (((i : Nat) : Int)))) rfl ?_)
    refine L_op rfl (X_assign (v := (.int .i64 (((i : Nat) : Int)))) rfl ?_)
    refine L_nil ?_
    refine T_n ?_
    refine W_seq ?_
    refine W_reg ?_
    refine L_op rfl (X_move (v := (.func (.func 32) #[] #[ptr b1 0])) rfl ?_)
    refine L_op rfl (X_move (v := v) rfl ?_)
    refine L_op rfl (X_move (v := (.int .i64 (((i : Nat) : Int)))) rfl ?_)
    refine L_op rfl (X_idx (v := v) (n := bs.length) (k := .i64) (i := ((i : Nat) : Int)) S24 rfl hb.sv rfl (by omega) (by omega) ?_)
    refine L_op rfl (X_load (v := .int .i64 a) T3 rfl (iat hb (Int.toNat_natCast _) hai) ?_)
    refine L_op rfl (X_cl (vs := [.int .i64 a]) (cap := [ptr b1 0]) en32 rfl rfl (CT.mono (c_flush1 a e b1 _ hE) ?_))
    rintro _ _ ⟨rfl, rfl⟩
    rcases Bool.eq_false_or_eq_true (decide (a = e.1)) with hc3 | hc3
    · rw [hc3]
      refine L_nil ?_
      refine T_n ?_
      refine W_ct rfl ?_
      refine W_seq ?_
      refine W_reg ?_
      refine L_op rfl (X_move (v := (.int .i64 (((i : Nat) : Int)))) rfl ?_)
      refine L_op rfl (X_assign (v := (.int .i64 (((i : Nat) : Int)))) rfl ?_)
      refine L_nil ?_
      refine T_n ?_
      refine W_ret ?_
      refine B_r ?_
      refine T_r ?_
      refine T_r ?_
      refine B_r ?_
      refine T_r ?_
      exact BQ_r (End_1 Try.results45 (v := (.int .i64 (((i : Nat) : Int)))) rfl ⟨.inr ⟨i, rfl, by rw [hai, of_decide_eq_true hc3], hz⟩, rfl⟩)
    · rw [hc3]
      refine L_nil ?_
      refine T_n ?_
      refine W_cf rfl ?_
      refine W_skip ?_
      refine B_n ?_
      refine T_n ?_
      refine W_reg ?_
      refine L_op rfl (X_arith (k := .i64) (a := ((i : Nat) : Int)) (b := 1) (r := ((i + 1 : Nat) : Int)) rfl rfl rfl (iadd64 (by omega) (by omega) (by omega)) ?_)
      refine L_op rfl (X_move (v := (.int .i64 (((i + 1 : Nat) : Int)))) rfl ?_)
      refine L_nil ?_
      refine T_n ?_
      exact ⟨rfl, i + 1, ⟨⟨rfl, hi, fun j x hj he => (Nat.lt_or_ge j i).elim (fun h1 => hz j x h1 he) fun h1 => by obtain rfl : j = i := by { omega }; rw [hai] at he; cases he; exact of_decide_eq_false hc3⟩, (by show bs.length - (i + 1) < bs.length - i; omega)⟩, (Out.mk rfl), ⟨rfl, trivial⟩⟩
  · refine L_op rfl (X_cmp (k := .i64) (a := ((i : Nat) : Int)) (b := ((bs.length : Nat) : Int)) (r := false) rfl rfl rfl (decide_eq_false (p := ((((i : Nat) : Int)) : Int) < ((((bs.length : Nat) : Int)) : Int)) (by omega)) ?_)
    refine L_nil ?_
    refine T_n ?_
    refine W_seq ?_
    refine W_cf rfl ?_
    refine W_exit ?_
    refine T_e ?_
    refine T_e ?_
    refine B_x ?_
    refine T_n ?_
    refine W_seq ?_
    refine W_reg ?_
    refine L_op rfl (X_assign (v := (.int .i64 (-1))) rfl ?_)
    refine L_nil ?_
    refine T_n ?_
    refine W_ret ?_
    exact BQ_r (End_1 Try.results45 (v := (.int .i64 (-1))) rfl ⟨.inl ⟨rfl, fun j a hj => hz j a (by have := (List.getElem?_eq_some_iff.1 hj).1; omega) hj⟩, rfl⟩)
end Go.Proofs.Ythongcaijgfojaa
