/-
  What chapter 04 takes over of chapter 03: the reference Flush. (Printed by wip/gen/t04g.py of this repo.)
-/
import Derived.Test.YtfmgjkchhajpmaaDkE
import Derived.Test.YtfmgjkchhajpmaaBaseWF
namespace Go.Proofs.Ytfmgjkchhajpmaa
open Go Go.SL Go.Proofs
set_option linter.unusedVariables false

theorem c_atR (pv cv bv : Value) (ps : List Pg) (cs : List Wr) (bs : List Int) (off : Bool) (n : Int) (w : World) (lo up : Nat) (hup : up ≤ w.heap.size) (hp : NRd LP w lo up pv ps) (hc : NRd LW w lo up cv cs) (hb : NRd LI w lo up bv bs) : CT Try.prog 31 #[(.agg #[pv, cv, bv, (.bool (off))]), (.int .i64 (n))] w fun v w' => v = .int .i64 (askE ps.length cs bs off n) ∧ Ext w w' := by
  obtain ⟨n0, hn0⟩ : ∃ n, n = w.heap.size := ⟨_, rfl⟩
  have hU : Upd (fun i => n0 ≤ i) w w := Upd.refl _ _
  have hpl := hp.sv.len
  have hcl := hc.sv.len
  have hbl := hb.sv.len
  rw [← hn0] at hup
  refine CT_of Try.func31 rfl rfl rfl ?_
  refine W_seq ?_
  refine W_reg ?_
  refine L_op rfl (X_box (v := (.agg #[pv, cv, bv, (.bool (off))])) (c := ([pv, cv, bv, (.bool (off))]).toArray) rfl rfl ?_)
  intro b1 w1 hn1
  have hbn1 := hn1.num; have hbs1 := hn1.size
  replace hp := hp.ext hn1.ext
  replace hc := hc.ext hn1.ext
  replace hb := hb.ext hn1.ext
  replace hU := hU.trans (Ext.upd hn1.ext)
  have hB1 := hn1.blk
  refine L_op rfl (X_assign (v := (.int .i64 (0))) rfl ?_)
  refine L_nil ?_
  refine T_n ?_
  refine W_seq ?_
  refine W_seq ?_
  refine W_reg ?_
  refine L_op rfl (X_loadA (p := (ptr b1 (0))) (xs := [pv, cv, bv, (.bool (off))]) A26 rfl hB1.atAll rfl ?_)
  refine L_op rfl (X_fn (vs := [(.agg ([pv, cv, bv, (.bool (off))]).toArray)]) en14 rfl (CT.mono (c_mayR pv cv bv ps cs bs off _ lo up hp hc hb) ?_))
  rintro _ w2 ⟨⟨g_, rfl, hg_⟩, hu2⟩
  have hz2 := hu2.size
  replace hp := hp.ext hu2
  replace hc := hc.ext hu2
  replace hb := hb.ext hu2
  replace hU := hU.trans (Ext.upd hu2)
  replace hB1 := hB1.ext hu2
  rcases Bool.eq_false_or_eq_true (g_) with hc3 | hc3
  · rw [hc3]
    refine L_op rfl (X_not (b := true) (r := false) rfl rfl ?_)
    refine L_op rfl (X_move (v := (.bool (false))) rfl ?_)
    refine L_gy (dj := 8) rfl rfl rfl (X_move (v := (.int .i64 (n))) rfl ?_)
    by_cases hc4 : (n : Int) < (0)
    · refine L_gy (dj := 8) rfl rfl rfl (X_cmp (k := .i64) (a := n) (b := 0) (r := true) rfl rfl rfl (decide_eq_true (p := ((n) : Int) < ((0) : Int)) (by omega)) ?_)
      refine L_op rfl (X_pick (t := false) (v := (.bool (true))) rfl rfl ?_)
      refine L_op rfl (X_move (v := (.bool (true))) rfl ?_)
      refine L_gn (dj := 12) (t := true) rfl rfl rfl rfl ?_
      refine L_gn (dj := 12) (t := true) rfl rfl rfl rfl ?_
      refine L_gn (dj := 12) (t := true) rfl rfl rfl rfl ?_
      refine L_gn (dj := 12) (t := true) rfl rfl rfl rfl ?_
      refine L_gn (dj := 12) (t := true) rfl rfl rfl rfl ?_
      refine L_op rfl (X_pick (t := true) (v := (.bool (true))) rfl rfl ?_)
      refine L_nil ?_
      refine T_n ?_
      refine W_ct rfl ?_
      refine W_seq ?_
      refine W_reg ?_
      refine L_op rfl (X_assign (v := (.int .i64 (2))) rfl ?_)
      refine L_nil ?_
      refine T_n ?_
      refine W_ret ?_
      refine T_r ?_
      exact BQ_r (End_1 Try.results31 (v := .int .i64 2) rfl ⟨by rw [askE_bad (fun h => by omega)], hU.own hn0⟩)
    · refine L_gy (dj := 8) rfl rfl rfl (X_cmp (k := .i64) (a := n) (b := 0) (r := false) rfl rfl rfl (decide_eq_false (p := ((n) : Int) < ((0) : Int)) (by omega)) ?_)
      refine L_op rfl (X_pick (t := false) (v := (.bool (false))) rfl rfl ?_)
      refine L_op rfl (X_move (v := (.bool (false))) rfl ?_)
      refine L_gy (dj := 12) rfl rfl rfl (X_move (v := (.int .i64 (n))) rfl ?_)
      refine L_gy (dj := 12) rfl rfl rfl (X_fldP (b := b1) (o := 0) (r := 0) Fd26_0 rfl rfl ?_)
      refine L_gy (dj := 12) rfl rfl rfl (X_load (p := (ptr b1 (0))) (v := pv) T22 rfl (hB1.at1 rfl) ?_)
      refine L_gy (dj := 12) rfl rfl rfl (X_len (v := pv) (n := ps.length) Try.underlying22 rfl hp.sv ?_)
      by_cases hc5 : (n : Int) ≥ (((ps.length : Nat) : Int))
      · refine L_gy (dj := 12) rfl rfl rfl (X_cmp (k := .i64) (a := n) (b := ((ps.length : Nat) : Int)) (r := true) rfl rfl rfl (decide_eq_true (p := ((((ps.length : Nat) : Int)) : Int) ≤ ((n) : Int)) (by omega)) ?_)
        refine L_op rfl (X_pick (t := false) (v := (.bool (true))) rfl rfl ?_)
        refine L_nil ?_
        refine T_n ?_
        refine W_ct rfl ?_
        refine W_seq ?_
        refine W_reg ?_
        refine L_op rfl (X_assign (v := (.int .i64 (2))) rfl ?_)
        refine L_nil ?_
        refine T_n ?_
        refine W_ret ?_
        refine T_r ?_
        exact BQ_r (End_1 Try.results31 (v := .int .i64 2) rfl ⟨by rw [askE_bad (fun h => by omega)], hU.own hn0⟩)
      · refine L_gy (dj := 12) rfl rfl rfl (X_cmp (k := .i64) (a := n) (b := ((ps.length : Nat) : Int)) (r := false) rfl rfl rfl (decide_eq_false (p := ((((ps.length : Nat) : Int)) : Int) ≤ ((n) : Int)) (by omega)) ?_)
        refine L_op rfl (X_pick (t := false) (v := (.bool (false))) rfl rfl ?_)
        refine L_nil ?_
        refine T_n ?_
        refine W_cf rfl ?_
        refine W_skip ?_
        refine T_n ?_
        refine W_seq ?_
        refine W_seq ?_
        refine W_reg ?_
        refine L_op rfl (X_fldP (b := b1) (o := 0) (r := 3) Fd26_3 rfl rfl ?_)
        rcases Bool.eq_false_or_eq_true off with ho6 | ho6
        · refine L_op rfl (X_load (p := (ptr b1 (3))) (v := .bool true) T4 rfl (hB1.at1 (by rw [ho6]; rfl)) ?_)
          refine L_nil ?_
          refine T_n ?_
          refine W_ct rfl ?_
          refine W_seq ?_
          refine W_reg ?_
          refine L_op rfl (X_assign (v := (.int .i64 (30))) rfl ?_)
          refine L_nil ?_
          refine T_n ?_
          refine W_ret ?_
          refine T_r ?_
          exact BQ_r (End_1 Try.results31 (v := .int .i64 30) rfl ⟨by rw [askE_off (hg_.1 hc3) (by omega) (by omega) ho6], hU.own hn0⟩)
        · refine L_op rfl (X_load (p := (ptr b1 (3))) (v := .bool false) T4 rfl (hB1.at1 (by rw [ho6]; rfl)) ?_)
          refine L_nil ?_
          refine T_n ?_
          refine W_cf rfl ?_
          refine W_skip ?_
          refine T_n ?_
          refine W_seq ?_
          refine W_reg ?_
          refine L_op rfl (X_assign (v := (.int .i64 (0))) rfl ?_)
          refine L_nil ?_
          refine T_n ?_
          refine W_ret ?_
          exact BQ_r (End_1 Try.results31 (v := .int .i64 0) rfl ⟨by rw [askE_ok (hg_.1 hc3) (by omega) (by omega) ho6], hU.own hn0⟩)
  · rw [hc3]
    refine L_op rfl (X_not (b := false) (r := true) rfl rfl ?_)
    refine L_op rfl (X_move (v := (.bool (true))) rfl ?_)
    refine L_gn (dj := 8) (t := true) rfl rfl rfl rfl ?_
    refine L_gn (dj := 8) (t := true) rfl rfl rfl rfl ?_
    refine L_op rfl (X_pick (t := true) (v := (.bool (true))) rfl rfl ?_)
    refine L_op rfl (X_move (v := (.bool (true))) rfl ?_)
    refine L_gn (dj := 12) (t := true) rfl rfl rfl rfl ?_
    refine L_gn (dj := 12) (t := true) rfl rfl rfl rfl ?_
    refine L_gn (dj := 12) (t := true) rfl rfl rfl rfl ?_
    refine L_gn (dj := 12) (t := true) rfl rfl rfl rfl ?_
    refine L_gn (dj := 12) (t := true) rfl rfl rfl rfl ?_
    refine L_op rfl (X_pick (t := true) (v := (.bool (true))) rfl rfl ?_)
    refine L_nil ?_
    refine T_n ?_
    refine W_ct rfl ?_
    refine W_seq ?_
    refine W_reg ?_
    refine L_op rfl (X_assign (v := (.int .i64 (2))) rfl ?_)
    refine L_nil ?_
    refine T_n ?_
    refine W_ret ?_
    refine T_r ?_
    exact BQ_r (End_1 Try.results31 (v := .int .i64 2) rfl ⟨by rw [askE_bad (fun h => by have h1 := hg_.2 h.1; rw [hc3] at h1; cases h1)], hU.own hn0⟩)

theorem own_ne {w : World} {B e sz n b : Nat} {v : Value} {xs : List Value} {c : Array Value} {t : TypeId} (h : Own w B e sz v n xs) (hb : Blk w b c t) (hne : e ≠ t) : ∀ b', obk v = some b' → b' ≠ b := by
  intro b' h1 h2
  subst h2
  obtain ⟨c2, h3⟩ := h.block h1
  unfold Blk at h3 hb
  rw [h3] at hb
  simp only [Option.some.injEq, Obj.cells.injEq] at hb
  exact hne hb.2.1

theorem c_flushR (pv cv bv : Value) (ps : List Pg) (cs : List Wr) (bs : List Int) (off : Bool) (w : World) (lo up : Nat) (hup : up ≤ w.heap.size) (hp : NRd LP w lo up pv ps) (hc : NRd LW w lo up cv cs) (hb : NRd LI w lo up bv bs) (hpL : ps.length ≤ 1048576) (hcL : cs.length ≤ 1048576) (hbL : bs.length ≤ 1048576) : CT Try.prog 10 #[(.agg #[pv, cv, bv, (.bool (off))])] w fun v w' => ∃ p2 c2 i2 qs ds as_, v = .tuple #[.agg #[p2, c2, i2, .bool off], .int .i64 (askE ps.length cs bs off 0)] ∧ NOwn LP w' 33 5 w.heap.size w'.heap.size p2 qs ∧ NOwn LW w' 35 5 w.heap.size w'.heap.size c2 ds ∧ NOwn LI w' 3 5 w.heap.size w'.heap.size i2 as_ ∧ (askE ps.length cs bs off 0 = 0 → qs = flP ps cs ∧ ds = [] ∧ as_ = flB bs cs) ∧ (askE ps.length cs bs off 0 ≠ 0 → qs = ps ∧ ds = cs ∧ as_ = bs) ∧ Ext w w' := by
  obtain ⟨n0, hn0⟩ : ∃ n, n = w.heap.size := ⟨_, rfl⟩
  have hU : Upd (fun i => n0 ≤ i) w w := Upd.refl _ _
  have hpl := hp.sv.len
  have hcl := hc.sv.len
  have hbl := hb.sv.len
  rw [← hn0] at hup
  refine CT_of Try.func10 rfl rfl rfl ?_
  refine W_seq ?_
  refine W_reg ?_
  refine L_op rfl (X_box (v := (.agg #[pv, cv, bv, (.bool (off))])) (c := ([pv, cv, bv, (.bool (off))]).toArray) rfl rfl ?_)
  intro b1 w1 hn1
  have hbn1 := hn1.num; have hbs1 := hn1.size
  replace hp := hp.ext hn1.ext
  replace hc := hc.ext hn1.ext
  replace hb := hb.ext hn1.ext
  replace hU := hU.trans (Ext.upd hn1.ext)
  have hB1 := hn1.blk
  refine L_op rfl (X_alloc (z := (.agg #[(.slice none 0 0), (.slice none 0 0), (.slice none 0 0), (.bool (false))])) (c := #[(.slice none 0 0), (.slice none 0 0), (.slice none 0 0), (.bool (false))]) Zv26 rfl ?_)
  intro b2 w2 hn2
  have hbn2 := hn2.num; have hbs2 := hn2.size
  replace hp := hp.ext hn2.ext
  replace hc := hc.ext hn2.ext
  replace hb := hb.ext hn2.ext
  replace hU := hU.trans (Ext.upd hn2.ext)
  replace hB1 := hB1.ext hn2.ext
  have hB2 := hn2.blk
  refine L_op rfl (X_assign (v := (.int .i64 (0))) rfl ?_)
  refine L_nil ?_
  refine T_n ?_
  refine W_seq ?_
  refine W_reg ?_
  refine L_op rfl (X_loadA (p := (ptr b1 (0))) (xs := [pv, cv, bv, (.bool (off))]) A26 rfl hB1.atAll rfl ?_)
  obtain ⟨s0, hs0⟩ : ∃ n, n = w2.heap.size := ⟨_, rfl⟩
  refine L_op rfl (X_fn (vs := [(.agg ([pv, cv, bv, (.bool (off))]).toArray)]) en30 rfl (CT.mono (c_copyR pv cv bv ps cs bs off _ lo up (by omega) hp hc hb hpL hcL hbL) ?_))
  rintro _ w3 ⟨p_2, c_2, i_2, rfl, hP2, hC2, hI2, hu3⟩
  have hz3 := hu3.size
  rw [← hs0] at hP2 hC2 hI2
  obtain ⟨us0, hus0_⟩ : ∃ n, n = w3.heap.size := ⟨_, rfl⟩
  rw [← hus0_] at hP2 hC2 hI2
  replace hp := hp.ext hu3
  replace hc := hc.ext hu3
  replace hb := hb.ext hu3
  replace hU := hU.trans (Ext.upd hu3)
  replace hB1 := hB1.ext hu3
  replace hB2 := hB2.ext hu3
  refine L_op rfl (X_alloc (z := (.agg #[(.slice none 0 0), (.slice none 0 0), (.slice none 0 0), (.bool (false))])) (c := #[(.slice none 0 0), (.slice none 0 0), (.slice none 0 0), (.bool (false))]) Zv26 rfl ?_)
  intro b4 w4 hn4
  have hbn4 := hn4.num; have hbs4 := hn4.size
  replace hp := hp.ext hn4.ext
  replace hc := hc.ext hn4.ext
  replace hb := hb.ext hn4.ext
  replace hU := hU.trans (Ext.upd hn4.ext)
  replace hB1 := hB1.ext hn4.ext
  replace hB2 := hB2.ext hn4.ext
  replace hP2 := hP2.ext hn4.ext
  replace hC2 := hC2.ext hn4.ext
  replace hI2 := hI2.ext hn4.ext
  have hB4 := hn4.blk
  refine L_op0 (X_storeW (b := b4) (ys := [p_2, c_2, i_2, (.bool (off))]) A26 rfl rfl (List.forall_mem_cons.2 ⟨(hP2.1.sv.one), (List.forall_mem_cons.2 ⟨(hC2.1.sv.one), (List.forall_mem_cons.2 ⟨(hI2.1.sv.one), (List.forall_mem_cons.2 ⟨rfl, (fun _ h => by cases h)⟩)⟩)⟩)⟩) rfl hB4 rfl ?_)
  intro w5 hu5 hb5
  have hz5 := hu5.size
  replace hp := hp.upd hu5 fun i h1 h2 h => by have h : i = b4 := h; omega
  replace hc := hc.upd hu5 fun i h1 h2 h => by have h : i = b4 := h; omega
  replace hb := hb.upd hu5 fun i h1 h2 h => by have h : i = b4 := h; omega
  replace hU := hU.trans (hu5.mono fun i _ h => by have h : i = b4 := h; show n0 ≤ i; omega)
  replace hB1 := hB1.upd hu5 fun h => by have h : b1 = b4 := h; omega
  replace hB2 := hB2.upd hu5 fun h => by have h : b2 = b4 := h; omega
  replace hP2 := hP2.upd hu5 fun i h1 h2 h => by have h : i = b4 := h; omega
  replace hC2 := hC2.upd hu5 fun i h1 h2 h => by have h : i = b4 := h; omega
  replace hI2 := hI2.upd hu5 fun i h1 h2 h => by have h : i = b4 := h; omega
  replace hB4 : Blk w5 b4 #[p_2, c_2, i_2, (.bool (off))] 26 := hb5
  refine L_nil ?_
  refine T_n ?_
  refine W_seq ?_
  refine W_reg ?_
  refine L_op rfl (X_loadA (p := (ptr b1 (0))) (xs := [pv, cv, bv, (.bool (off))]) A26 rfl hB1.atAll rfl ?_)
  refine L_op rfl (X_fn (vs := [(.agg ([pv, cv, bv, (.bool (off))]).toArray), (.int .i64 (0))]) en31 rfl (CT.mono (c_atR pv cv bv ps cs bs off (0) _ lo up (by omega) hp hc hb) ?_))
  rintro _ w6 ⟨rfl, hu6⟩
  have hz6 := hu6.size
  replace hp := hp.ext hu6
  replace hc := hc.ext hu6
  replace hb := hb.ext hu6
  replace hU := hU.trans (Ext.upd hu6)
  replace hB1 := hB1.ext hu6
  replace hB2 := hB2.ext hu6
  replace hP2 := hP2.ext hu6
  replace hC2 := hC2.ext hu6
  replace hI2 := hI2.ext hu6
  replace hB4 := hB4.ext hu6
  have hm2k : askE ps.length cs bs off (0) = 0 → cs.length ≤ 2000 := fun h => (askE_zero h).1.1.2.2.1
  refine L_op rfl (X_assign (v := (.int .i64 ((askE ps.length cs bs off (0))))) rfl ?_)
  refine L_nil ?_
  refine T_n ?_
  refine W_seq ?_
  refine W_seq ?_
  refine W_reg ?_
  refine L_op rfl (X_move (v := (.int .i64 ((askE ps.length cs bs off (0))))) rfl ?_)
  by_cases hc7 : ((askE ps.length cs bs off (0)) : Int) ≠ (0)
  · refine L_op rfl (X_cmp (k := .i64) (a := (askE ps.length cs bs off (0))) (b := 0) (r := true) rfl rfl rfl (decide_eq_true (p := (((askE ps.length cs bs off (0))) : Int) ≠ ((0) : Int)) (by omega)) ?_)
    refine L_nil ?_
    refine T_n ?_
    refine W_ct rfl ?_
    refine W_seq ?_
    refine W_reg ?_
    refine L_op rfl (X_loadA (p := (ptr b4 (0))) (xs := [p_2, c_2, i_2, (.bool (off))]) A26 rfl hB4.atAll rfl ?_)
    refine L_op rfl (X_move (v := (.int .i64 ((askE ps.length cs bs off (0))))) rfl ?_)
    refine L_op0 (X_storeW (b := b2) (ys := [p_2, c_2, i_2, (.bool (off))]) A26 rfl rfl (List.forall_mem_cons.2 ⟨(hP2.1.sv.one), (List.forall_mem_cons.2 ⟨(hC2.1.sv.one), (List.forall_mem_cons.2 ⟨(hI2.1.sv.one), (List.forall_mem_cons.2 ⟨rfl, (fun _ h => by cases h)⟩)⟩)⟩)⟩) rfl hB2 rfl ?_)
    intro w8 hu8 hb8
    have hz8 := hu8.size
    replace hp := hp.upd hu8 fun i h1 h2 h => by have h : i = b2 := h; omega
    replace hc := hc.upd hu8 fun i h1 h2 h => by have h : i = b2 := h; omega
    replace hb := hb.upd hu8 fun i h1 h2 h => by have h : i = b2 := h; omega
    replace hU := hU.trans (hu8.mono fun i _ h => by have h : i = b2 := h; show n0 ≤ i; omega)
    replace hB1 := hB1.upd hu8 fun h => by have h : b1 = b2 := h; omega
    replace hP2 := hP2.upd hu8 fun i h1 h2 h => by have h : i = b2 := h; omega
    replace hC2 := hC2.upd hu8 fun i h1 h2 h => by have h : i = b2 := h; omega
    replace hI2 := hI2.upd hu8 fun i h1 h2 h => by have h : i = b2 := h; omega
    replace hB4 := hB4.upd hu8 fun h => by have h : b4 = b2 := h; omega
    replace hB2 : Blk w8 b2 #[p_2, c_2, i_2, (.bool (off))] 26 := hb8
    refine L_op rfl (X_assign (v := (.int .i64 ((askE ps.length cs bs off (0))))) rfl ?_)
    refine L_nil ?_
    refine T_n ?_
    refine W_ret ?_
    refine T_r ?_
    exact BQ_r (End_2 Try.results10 (RV_A A26 rfl hB2.atAll rfl) (v2 := .int .i64 (askE ps.length cs bs off (0))) rfl ⟨_, _, _, ps, cs, bs, rfl, hP2.mono (by omega) (by omega), hC2.mono (by omega) (by omega), hI2.mono (by omega) (by omega), fun h => absurd h hc7, fun _ => ⟨rfl, rfl, rfl⟩, hU.own hn0⟩)
  · refine L_op rfl (X_cmp (k := .i64) (a := (askE ps.length cs bs off (0))) (b := 0) (r := false) rfl rfl rfl (decide_eq_false (p := (((askE ps.length cs bs off (0))) : Int) ≠ ((0) : Int)) (by omega)) ?_)
    have hq0 : askE ps.length cs bs off 0 = 0 := by omega
    have hz0 := askE_zero hq0
    refine L_nil ?_
    refine T_n ?_
    refine W_cf rfl ?_
    refine W_skip ?_
    refine T_n ?_
    refine W_seq ?_
    refine W_seq ?_
    refine W_reg ?_
    refine L_op rfl (X_assign (v := (.int .i64 (0))) rfl ?_)
    refine L_nil ?_
    refine T_n ?_
    refine W_block ?_
    have hBT := hB4
    have hI3 := hI2.1
    have hus := hBT.lt
    have hbTu : us0 ≤ b4 := by omega
    refine W_loop (α := Nat × Value × List Pg × List Int) [6, 7, 8, 9, 18, 19, 20, 21, 22, 23, 24, 25, 26, 27, 28, 29, 30, 31, 32, 33, 34, 35, 36, 37, 38, 39, 40, 41, 42, 43, 44, 45, 46, 47, 48, 49, 50, 51, 52, 53, 54, 55, 56, 57, 58, 59, 60, 61] (fun ⟨i, i_3, qs, as_⟩ => [(6, (.int .i64 (((i : Nat) : Int))))]) (fun ⟨i, i_3, qs, as_⟩ w_ => i ≤ cs.length ∧ qs = flP ps (cs.take i) ∧ as_ = flB bs (cs.take i) ∧ NOwn LP w_ 33 5 s0 us0 p_2 qs ∧ NOwn LW w_ 35 5 s0 us0 c_2 cs ∧ Own w_ s0 3 1 i_3 as_.length (as_.flatMap LI.cel) ∧ NRd LW w_ lo up cv cs ∧ Blk w_ b1 #[pv, cv, bv, .bool off] 26 ∧ Blk w_ b2 #[.slice none 0 0, .slice none 0 0, .slice none 0 0, .bool false] 26 ∧ Blk w_ b4 #[p_2, c_2, i_3, .bool off] 26 ∧ Upd (fun i => n0 ≤ i) w w_) (fun ⟨i, i_3, qs, as_⟩ => cs.length - i) ⟨rfl, (0, i_2, ps, bs), ⟨Nat.zero_le _, rfl, rfl, hP2, hC2, hI3, hc, hB1, hB2, hBT, hU⟩, Out.refl _ _, ⟨rfl, trivial⟩⟩ ?_
    rintro ⟨i, i_3, qs, as_⟩ w9 _ ⟨hil, hqs, has, hP2, hC2, hI3, hc, hB1, hB2, hBT, hU⟩
    have hsz_ := hU.size
    have hbTl := hBT.lt
    have hql : qs.length = ps.length := by rw [hqs, flP_length]
    have hal_ : as_.length ≤ bs.length := by rw [has]; exact flB_le _ _
    obtain ⟨s9, hs9⟩ : ∃ n, n = w9.heap.size := ⟨_, rfl⟩
    have hI_b : ∀ b, obk i_3 = some b → b < s9 := fun b hb => by rw [hs9]; exact (hI3.lt hb).2
    refine W_seq ?_
    refine W_seq ?_
    refine W_reg ?_
    refine L_op rfl (X_move (v := (.int .i64 (((i : Nat) : Int)))) rfl ?_)
    refine L_op rfl (X_fldP (b := b1) (o := 0) (r := 1) Fd26_1 rfl rfl ?_)
    refine L_op rfl (X_load (p := (ptr b1 (1))) (v := cv) T23 rfl (hB1.at1 rfl) ?_)
    refine L_op rfl (X_len (v := cv) (n := cs.length) Try.underlying23 rfl hc.sv ?_)
    by_cases hc10 : (((i : Nat) : Int) : Int) < (((cs.length : Nat) : Int))
    · refine L_op rfl (X_cmp (k := .i64) (a := ((i : Nat) : Int)) (b := ((cs.length : Nat) : Int)) (r := true) rfl rfl rfl (decide_eq_true (p := ((((i : Nat) : Int)) : Int) < ((((cs.length : Nat) : Int)) : Int)) (by omega)) ?_)
      have hi : i < cs.length := by omega
      obtain ⟨e, hei⟩ : ∃ e, cs[i]? = some e := ⟨_, List.getElem?_eq_getElem hi⟩
      have hin := hz0.1.2.1 i e hi hei
      refine L_nil ?_
      refine T_n ?_
      refine W_ct rfl ?_
      refine W_skip ?_
      refine T_n ?_
      refine W_seq ?_
      refine W_block ?_
      refine W_seq ?_
      refine W_reg ?_
      refine L_op rfl (X_fldP (b := b1) (o := 0) (r := 1) Fd26_1 rfl rfl ?_)
      refine L_op rfl (X_load (p := (ptr b1 (1))) (v := cv) T23 rfl (hB1.at1 rfl) ?_)
      refine L_op rfl (X_move (v := (.int .i64 (((i : Nat) : Int)))) rfl ?_)
      refine L_op rfl (X_idx (v := cv) (n := cs.length) (k := .i64) (i := ((i : Nat) : Int)) S23 rfl hc.sv rfl (by omega) (by omega) ?_)
      refine L_op rfl (X_loadA (xs := LW.cel e) A35 rfl (wall hc (Int.toNat_natCast _) hei) (LW.len e) ?_)
      refine L_op rfl (X_alloc (z := zv35) (c := zc35.toArray) Zv35 rfl ?_)
      intro b11 w11 hn11
      have hbn11 := hn11.num; have hbs11 := hn11.size
      replace hP2 := hP2.ext hn11.ext
      replace hC2 := hC2.ext hn11.ext
      replace hI3 := hI3.ext hn11.ext
      replace hc := hc.ext hn11.ext
      replace hB1 := hB1.ext hn11.ext
      replace hB2 := hB2.ext hn11.ext
      replace hBT := hBT.ext hn11.ext
      replace hU := hU.trans (Ext.upd hn11.ext)
      have hB11 := hn11.blk
      refine L_op0 (X_storeW (b := b11) (ys := LW.cel e) A35 rfl rfl (LW.one e (fun _ h => by cases h)) (LW.len e) hB11 zc35_size ?_)
      intro w12 hu12 hb12
      have hz12 := hu12.size
      replace hP2 := hP2.upd hu12 fun i h1 h2 h => by have h : i = b11 := h; omega
      replace hC2 := hC2.upd hu12 fun i h1 h2 h => by have h : i = b11 := h; omega
      replace hI3 := hI3.upd hu12 fun i hi h => by have hi := hI_b _ hi; have h : i = b11 := h; omega
      replace hc := hc.upd hu12 fun i h1 h2 h => by have h : i = b11 := h; omega
      replace hB1 := hB1.upd hu12 fun h => by have h : b1 = b11 := h; omega
      replace hB2 := hB2.upd hu12 fun h => by have h : b2 = b11 := h; omega
      replace hBT := hBT.upd hu12 fun h => by have h : b4 = b11 := h; omega
      replace hU := hU.trans (hu12.mono fun i _ h => by have h : i = b11 := h; show n0 ≤ i; omega)
      replace hB11 := hb12
      refine L_nil ?_
      refine T_n ?_
      refine W_seq ?_
      refine W_reg ?_
      refine L_op rfl (X_fldP (b := b4) (o := 0) (r := 0) Fd26_0 rfl rfl ?_)
      refine L_op rfl (X_load (p := (ptr b4 (0))) (v := p_2) T22 rfl (hBT.at1 rfl) ?_)
      refine L_op rfl (X_fldP (b := b11) (o := 0) (r := 0) Fd35_0 rfl rfl ?_)
      refine L_op rfl (X_load (p := (ptr b11 (0))) (v := .int .i64 e.1) T3 rfl (hB11.at1 rfl) ?_)
      refine L_op rfl (X_fldP (b := b11) (o := 0) (r := 1) Fd35_1 rfl rfl ?_)
      refine L_op rfl (X_loadA (xs := e.2.1.map byteV) A33 rfl (hB11.at_ 1 (e.2.1.map byteV) (fun j u hj => by rw [Nat.add_comm]; simpa [LW] using hj)) (by rw [List.length_map]; exact e.2.2) ?_)
      refine L_op rfl (X_idx (v := p_2) (n := qs.length) (k := .i64) (i := e.1) S22 rfl hP2.1.sv rfl (by omega) (by omega) ?_)
      refine L_op0 (X_storeOwnA (i := e.1.toNat * 256) (m := 256) (v := p_2) (ys := e.2.1.map byteV) A33 hP2.1 (by have h1 := hin.2; have h2 : LP.sz = 256 := rfl; rw [h2]; omega) (by decide) rfl rfl (byteV_one _) (by rw [List.length_map]; exact e.2.2) ?_)
      intro w8 hO8 hu8
      have hz8 := hu8.size
      have hlt_ : e.1.toNat < qs.length := by omega
      have hP8 : NOwn LP w8 33 5 s0 us0 p_2 (qs.set e.1.toNat e.2) := NOwn.of (fun _ => rfl) (hO8.eq (by rw [List.length_set]) (by rw [flat_setA (L := LP) hlt_]; rfl)) hP2.2.1
      replace hC2 := NOwn.upd' (fun _ => rfl) hC2 hu8 fun b h1 h2 => absurd (hC2.1.types hP2.1 h1 h2) (by decide)
      replace hI3 := hI3.upd hu8 fun b h1 h2 => absurd (hI3.types hP2.1 h1 h2) (by decide)
      replace hc := hc.upd hu8 fun i h1 h2 h => by have h1_ := hP2.1.lt h; have h2_ := hP2.2.1 _ h; omega
      replace hB1 := hB1.upd hu8 fun h => by have h1_ := hP2.1.lt h; have h2_ := hP2.2.1 _ h; omega
      replace hB2 := hB2.upd hu8 fun h => by have h1_ := hP2.1.lt h; have h2_ := hP2.2.1 _ h; omega
      replace hBT := hBT.upd hu8 fun h => by have h1_ := hP2.1.lt h; have h2_ := hP2.2.1 _ h; omega
      replace hU := hU.trans (hu8.mono fun i _ h => by have h1_ := hP2.1.lt h; have h2_ := hP2.2.1 _ h; show n0 ≤ i; omega)
      replace hB11 := hB11.upd hu8 fun h => by have h1_ := hP2.1.lt h; have h2_ := hP2.2.1 _ h; omega
      replace hP2 := hP8
      refine L_nil ?_
      refine T_n ?_
      refine W_seq ?_
      refine W_reg ?_
      refine L_op rfl (X_assign (v := (.slice none 0 0)) rfl ?_)
      refine L_nil ?_
      refine T_n ?_
      refine W_seq ?_
      refine W_seq ?_
      refine W_reg ?_
      refine L_op rfl (X_assign (v := (.int .i64 (0))) rfl ?_)
      refine L_nil ?_
      refine T_n ?_
      refine W_block ?_
      obtain ⟨sI, hsI⟩ : ∃ n, n = w8.heap.size := ⟨_, rfl⟩
      have hb7l := hB11.lt
      obtain ⟨qq, hqq⟩ : ∃ q_, q_ = qs.set e.1.toNat e.2 := ⟨_, rfl⟩
      rw [← hqq] at hP2
      have hqql : qq.length = qs.length := by rw [hqq, List.length_set]
      refine W_loop (α := Nat × Value × List Int) [8, 9, 37, 38, 39, 40, 41, 42, 43, 44, 45, 46, 47, 48, 49, 50, 51, 52, 53, 54, 55, 56, 57, 58, 59] (fun ⟨j, u, ds⟩ => [(9, (.int .i64 (((j : Nat) : Int)))), (8, u)]) (fun ⟨j, u, ds⟩ w_ => j ≤ as_.length ∧ ds = keepI (as_.take j) e.1 ∧ NOwn LI w_ 3 5 sI w_.heap.size u ds ∧ Blk w_ b11 (LW.cel e).toArray 35 ∧ sI ≤ w_.heap.size ∧ NOwn LP w_ 33 5 s0 us0 p_2 qq ∧ NOwn LW w_ 35 5 s0 us0 c_2 cs ∧ Own w_ s0 3 1 i_3 as_.length (as_.flatMap LI.cel) ∧ NRd LW w_ lo up cv cs ∧ Blk w_ b1 #[pv, cv, bv, .bool off] 26 ∧ Blk w_ b2 #[.slice none 0 0, .slice none 0 0, .slice none 0 0, .bool false] 26 ∧ Blk w_ b4 #[p_2, c_2, i_3, .bool off] 26 ∧ Upd (fun i => n0 ≤ i) w w_) (fun ⟨j, u, ds⟩ => as_.length - j) ⟨rfl, (0, .slice none 0 0, []), ⟨Nat.zero_le _, rfl, NOwn.nil _ _ _ _ _, hB11, by omega, hP2, hC2, hI3, hc, hB1, hB2, hBT, hU⟩, Out.refl _ _, ⟨rfl, rfl, trivial⟩⟩ ?_
      rintro ⟨j, u, ds⟩ w13 _ ⟨hjl, hds, hN, hB11, hsIw, hP2, hC2, hI3, hc, hB1, hB2, hBT, hU⟩
      have hsz_ := hU.size
      have hdl : ds.length ≤ j := by rw [hds]; exact Nat.le_trans (keepI_le _ _) (by rw [List.length_take]; omega)
      obtain ⟨u9, hu9_⟩ : ∃ n, n = w13.heap.size := ⟨_, rfl⟩
      rw [← hu9_] at hN
      refine W_seq ?_
      refine W_seq ?_
      refine W_reg ?_
      refine L_op rfl (X_move (v := (.int .i64 (((j : Nat) : Int)))) rfl ?_)
      refine L_op rfl (X_fldP (b := b4) (o := 0) (r := 2) Fd26_2 rfl rfl ?_)
      refine L_op rfl (X_load (p := (ptr b4 (2))) (v := i_3) T24 rfl (hBT.at1 rfl) ?_)
      refine L_op rfl (X_len (v := i_3) (n := as_.length) Try.underlying24 rfl hI3.sv ?_)
      by_cases hc14 : (((j : Nat) : Int) : Int) < (((as_.length : Nat) : Int))
      · refine L_op rfl (X_cmp (k := .i64) (a := ((j : Nat) : Int)) (b := ((as_.length : Nat) : Int)) (r := true) rfl rfl rfl (decide_eq_true (p := ((((j : Nat) : Int)) : Int) < ((((as_.length : Nat) : Int)) : Int)) (by omega)) ?_)
        have hj : j < as_.length := by omega
        obtain ⟨a, haj⟩ : ∃ a, as_[j]? = some a := ⟨_, List.getElem?_eq_getElem hj⟩
        refine L_nil ?_
        refine T_n ?_
        refine W_ct rfl ?_
        refine W_skip ?_
        refine T_n ?_
        refine W_seq ?_
        refine W_block ?_
        refine W_seq ?_
        rcases Bool.eq_false_or_eq_true (decide (a = e.1)) with hs15 | hs15
        · refine W_draw 7 [[], [0], [], [0, 1, 2], [0, 1, 2, 3], [], [5], [0, 1, 2, 3, 4, 5, 6]] mixed (by kernel_rfl) ?_
          refine ⟨.det (fun val => (ptr b4 (2))), ⟨fun _ _ hv => rfl, fun _ _ _ _ _ => trivial⟩, fun val h_ W hx he => ⟨trivial, ?_⟩, ?_⟩
          · replace hx := (Upd.drew _ _).trans hx
            replace hP2 := hP2.ext hx
            replace hC2 := hC2.ext hx
            replace hI3 := hI3.ext hx
            replace hc := hc.ext hx
            replace hB1 := hB1.ext hx
            replace hB2 := hB2.ext hx
            replace hBT := hBT.ext hx
            replace hB11 := hB11.ext hx
            replace hN := hN.ext hx
            have hE := Upd.refl (fun _ => False) W
            refine id (X_fldP (b := b4) (o := 0) (r := 2) Fd26_2 rfl rfl ?_)
            exact ⟨hE, rfl⟩
          refine ⟨.det (fun val => i_3), ⟨fun _ _ hv => rfl, fun _ _ _ _ _ => trivial⟩, fun val h_ W hx he => ⟨trivial, ?_⟩, ?_⟩
          · replace hx := (Upd.drew _ _).trans hx
            replace hP2 := hP2.ext hx
            replace hC2 := hC2.ext hx
            replace hI3 := hI3.ext hx
            replace hc := hc.ext hx
            replace hB1 := hB1.ext hx
            replace hB2 := hB2.ext hx
            replace hBT := hBT.ext hx
            replace hB11 := hB11.ext hx
            replace hN := hN.ext hx
            have hE := Upd.refl (fun _ => False) W
            refine id (X_load (p := (ptr b4 (2))) (v := i_3) T24 rfl (hBT.at1 rfl) ?_)
            exact ⟨hE, rfl⟩
          refine ⟨.det (fun val => (.int .i64 (((j : Nat) : Int)))), ⟨fun _ _ hv => rfl, fun _ _ _ _ _ => trivial⟩, fun val h_ W hx he => ⟨trivial, ?_⟩, ?_⟩
          · replace hx := (Upd.drew _ _).trans hx
            replace hP2 := hP2.ext hx
            replace hC2 := hC2.ext hx
            replace hI3 := hI3.ext hx
            replace hc := hc.ext hx
            replace hB1 := hB1.ext hx
            replace hB2 := hB2.ext hx
            replace hBT := hBT.ext hx
            replace hB11 := hB11.ext hx
            replace hN := hN.ext hx
            have hE := Upd.refl (fun _ => False) W
            refine id (X_move (v := (.int .i64 (((j : Nat) : Int)))) rfl ?_)
            exact ⟨hE, rfl⟩
          refine ⟨.det (fun val => (pof i_3 ((((j : Nat) : Int) : Int).toNat * 1))), ⟨fun _ _ hv => rfl, fun _ _ _ _ _ => trivial⟩, fun val h_ W hx he => ⟨trivial, ?_⟩, ?_⟩
          · replace hx := (Upd.drew _ _).trans hx
            replace hP2 := hP2.ext hx
            replace hC2 := hC2.ext hx
            replace hI3 := hI3.ext hx
            replace hc := hc.ext hx
            replace hB1 := hB1.ext hx
            replace hB2 := hB2.ext hx
            replace hBT := hBT.ext hx
            replace hB11 := hB11.ext hx
            replace hN := hN.ext hx
            have hE := Upd.refl (fun _ => False) W
            refine id (X_idx (v := i_3) (n := as_.length) (k := .i64) (i := ((j : Nat) : Int)) S24 rfl hI3.sv rfl (by omega) (by omega) ?_)
            exact ⟨hE, rfl⟩
          refine ⟨.det (fun val => (.int .i64 (a))), ⟨fun _ _ hv => rfl, fun _ _ _ _ _ => trivial⟩, fun val h_ W hx he => ⟨trivial, ?_⟩, ?_⟩
          · replace hx := (Upd.drew _ _).trans hx
            replace hP2 := hP2.ext hx
            replace hC2 := hC2.ext hx
            replace hI3 := hI3.ext hx
            replace hc := hc.ext hx
            replace hB1 := hB1.ext hx
            replace hB2 := hB2.ext hx
            replace hBT := hBT.ext hx
            replace hB11 := hB11.ext hx
            replace hN := hN.ext hx
            have hE := Upd.refl (fun _ => False) W
            refine id (X_load (v := .int .i64 a) T3 rfl (by have h := hI3.rd.cell (flat_at (L := LI) (j := 0) haj rfl); rw [show j * LI.sz + 0 = (((j : Nat) : Int).toNat * 1) by (show j * 1 + 0 = _; omega)] at h; exact h) ?_)
            exact ⟨hE, rfl⟩
          refine ⟨.det (fun val => (ptr b11 (0))), ⟨fun _ _ hv => rfl, fun _ _ _ _ _ => trivial⟩, fun val h_ W hx he => ⟨trivial, ?_⟩, ?_⟩
          · replace hx := (Upd.drew _ _).trans hx
            replace hP2 := hP2.ext hx
            replace hC2 := hC2.ext hx
            replace hI3 := hI3.ext hx
            replace hc := hc.ext hx
            replace hB1 := hB1.ext hx
            replace hB2 := hB2.ext hx
            replace hBT := hBT.ext hx
            replace hB11 := hB11.ext hx
            replace hN := hN.ext hx
            have hE := Upd.refl (fun _ => False) W
            refine id (X_fldP (b := b11) (o := 0) (r := 0) Fd35_0 rfl rfl ?_)
            exact ⟨hE, rfl⟩
          refine ⟨.det (fun val => (.int .i64 (e.1))), ⟨fun _ _ hv => rfl, fun _ _ _ _ _ => trivial⟩, fun val h_ W hx he => ⟨trivial, ?_⟩, ?_⟩
          · replace hx := (Upd.drew _ _).trans hx
            replace hP2 := hP2.ext hx
            replace hC2 := hC2.ext hx
            replace hI3 := hI3.ext hx
            replace hc := hc.ext hx
            replace hB1 := hB1.ext hx
            replace hB2 := hB2.ext hx
            replace hBT := hBT.ext hx
            replace hB11 := hB11.ext hx
            replace hN := hN.ext hx
            have hE := Upd.refl (fun _ => False) W
            refine id (X_load (p := (ptr b11 (0))) (v := .int .i64 e.1) T3 rfl (hB11.at1 rfl) ?_)
            exact ⟨hE, rfl⟩
          intro val W16 hx16 he16
          replace hx16 := (Upd.drew _ _).trans hx16
          have hz16 := hx16.size
          replace hP2 := hP2.ext hx16
          replace hC2 := hC2.ext hx16
          replace hI3 := hI3.ext hx16
          replace hc := hc.ext hx16
          replace hB1 := hB1.ext hx16
          replace hB2 := hB2.ext hx16
          replace hBT := hBT.ext hx16
          replace hU := hU.trans (Ext.upd hx16)
          replace hB11 := hB11.ext hx16
          replace hN := hN.ext hx16
          refine L_op rfl (X_cmp (k := .i64) (a := a) (b := e.1) (r := false) rfl rfl rfl (decide_eq_false (fun h_ => h_ (of_decide_eq_true hs15))) ?_)
          refine L_nil ?_
          refine T_n ?_
          refine W_cf rfl ?_
          refine W_skip ?_
          refine B_n ?_
          refine T_n ?_
          refine W_reg ?_
          refine L_op rfl (X_move (v := (.int .i64 (((j : Nat) : Int)))) rfl ?_)
          refine L_op rfl (X_arith (k := .i64) (a := ((j : Nat) : Int)) (b := 1) (r := ((j + 1 : Nat) : Int)) rfl rfl rfl (iadd64 (by omega) (by omega) (by omega)) ?_)
          refine L_op rfl (X_assign (v := (.int .i64 (((j + 1 : Nat) : Int)))) rfl ?_)
          refine L_nil ?_
          refine T_n ?_
          exact ⟨rfl, (j + 1, u, ds), ⟨⟨hj, by rw [hds, keepI_take_hit (by rw [haj, of_decide_eq_true hs15])], hN.mono (Nat.le_refl _) (by omega), hB11, by omega, hP2, hC2, hI3, hc, hB1, hB2, hBT, hU⟩, (by show as_.length - (j + 1) < as_.length - j; omega)⟩, (Out.mk rfl), ⟨rfl, rfl, trivial⟩⟩
        · refine W_draw 7 [[], [0], [], [0, 1, 2], [0, 1, 2, 3], [], [5], [0, 1, 2, 3, 4, 5, 6]] mixed (by kernel_rfl) ?_
          refine ⟨.det (fun val => (ptr b4 (2))), ⟨fun _ _ hv => rfl, fun _ _ _ _ _ => trivial⟩, fun val h_ W hx he => ⟨trivial, ?_⟩, ?_⟩
          · replace hx := (Upd.drew _ _).trans hx
            replace hP2 := hP2.ext hx
            replace hC2 := hC2.ext hx
            replace hI3 := hI3.ext hx
            replace hc := hc.ext hx
            replace hB1 := hB1.ext hx
            replace hB2 := hB2.ext hx
            replace hBT := hBT.ext hx
            replace hB11 := hB11.ext hx
            replace hN := hN.ext hx
            have hE := Upd.refl (fun _ => False) W
            refine id (X_fldP (b := b4) (o := 0) (r := 2) Fd26_2 rfl rfl ?_)
            exact ⟨hE, rfl⟩
          refine ⟨.det (fun val => i_3), ⟨fun _ _ hv => rfl, fun _ _ _ _ _ => trivial⟩, fun val h_ W hx he => ⟨trivial, ?_⟩, ?_⟩
          · replace hx := (Upd.drew _ _).trans hx
            replace hP2 := hP2.ext hx
            replace hC2 := hC2.ext hx
            replace hI3 := hI3.ext hx
            replace hc := hc.ext hx
            replace hB1 := hB1.ext hx
            replace hB2 := hB2.ext hx
            replace hBT := hBT.ext hx
            replace hB11 := hB11.ext hx
            replace hN := hN.ext hx
            have hE := Upd.refl (fun _ => False) W
            refine id (X_load (p := (ptr b4 (2))) (v := i_3) T24 rfl (hBT.at1 rfl) ?_)
            exact ⟨hE, rfl⟩
          refine ⟨.det (fun val => (.int .i64 (((j : Nat) : Int)))), ⟨fun _ _ hv => rfl, fun _ _ _ _ _ => trivial⟩, fun val h_ W hx he => ⟨trivial, ?_⟩, ?_⟩
          · replace hx := (Upd.drew _ _).trans hx
            replace hP2 := hP2.ext hx
            replace hC2 := hC2.ext hx
            replace hI3 := hI3.ext hx
            replace hc := hc.ext hx
            replace hB1 := hB1.ext hx
            replace hB2 := hB2.ext hx
            replace hBT := hBT.ext hx
            replace hB11 := hB11.ext hx
            replace hN := hN.ext hx
            have hE := Upd.refl (fun _ => False) W
            refine id (X_move (v := (.int .i64 (((j : Nat) : Int)))) rfl ?_)
            exact ⟨hE, rfl⟩
          refine ⟨.det (fun val => (pof i_3 ((((j : Nat) : Int) : Int).toNat * 1))), ⟨fun _ _ hv => rfl, fun _ _ _ _ _ => trivial⟩, fun val h_ W hx he => ⟨trivial, ?_⟩, ?_⟩
          · replace hx := (Upd.drew _ _).trans hx
            replace hP2 := hP2.ext hx
            replace hC2 := hC2.ext hx
            replace hI3 := hI3.ext hx
            replace hc := hc.ext hx
            replace hB1 := hB1.ext hx
            replace hB2 := hB2.ext hx
            replace hBT := hBT.ext hx
            replace hB11 := hB11.ext hx
            replace hN := hN.ext hx
            have hE := Upd.refl (fun _ => False) W
            refine id (X_idx (v := i_3) (n := as_.length) (k := .i64) (i := ((j : Nat) : Int)) S24 rfl hI3.sv rfl (by omega) (by omega) ?_)
            exact ⟨hE, rfl⟩
          refine ⟨.det (fun val => (.int .i64 (a))), ⟨fun _ _ hv => rfl, fun _ _ _ _ _ => trivial⟩, fun val h_ W hx he => ⟨trivial, ?_⟩, ?_⟩
          · replace hx := (Upd.drew _ _).trans hx
            replace hP2 := hP2.ext hx
            replace hC2 := hC2.ext hx
            replace hI3 := hI3.ext hx
            replace hc := hc.ext hx
            replace hB1 := hB1.ext hx
            replace hB2 := hB2.ext hx
            replace hBT := hBT.ext hx
            replace hB11 := hB11.ext hx
            replace hN := hN.ext hx
            have hE := Upd.refl (fun _ => False) W
            refine id (X_load (v := .int .i64 a) T3 rfl (by have h := hI3.rd.cell (flat_at (L := LI) (j := 0) haj rfl); rw [show j * LI.sz + 0 = (((j : Nat) : Int).toNat * 1) by (show j * 1 + 0 = _; omega)] at h; exact h) ?_)
            exact ⟨hE, rfl⟩
          refine ⟨.det (fun val => (ptr b11 (0))), ⟨fun _ _ hv => rfl, fun _ _ _ _ _ => trivial⟩, fun val h_ W hx he => ⟨trivial, ?_⟩, ?_⟩
          · replace hx := (Upd.drew _ _).trans hx
            replace hP2 := hP2.ext hx
            replace hC2 := hC2.ext hx
            replace hI3 := hI3.ext hx
            replace hc := hc.ext hx
            replace hB1 := hB1.ext hx
            replace hB2 := hB2.ext hx
            replace hBT := hBT.ext hx
            replace hB11 := hB11.ext hx
            replace hN := hN.ext hx
            have hE := Upd.refl (fun _ => False) W
            refine id (X_fldP (b := b11) (o := 0) (r := 0) Fd35_0 rfl rfl ?_)
            exact ⟨hE, rfl⟩
          refine ⟨.det (fun val => (.int .i64 (e.1))), ⟨fun _ _ hv => rfl, fun _ _ _ _ _ => trivial⟩, fun val h_ W hx he => ⟨trivial, ?_⟩, ?_⟩
          · replace hx := (Upd.drew _ _).trans hx
            replace hP2 := hP2.ext hx
            replace hC2 := hC2.ext hx
            replace hI3 := hI3.ext hx
            replace hc := hc.ext hx
            replace hB1 := hB1.ext hx
            replace hB2 := hB2.ext hx
            replace hBT := hBT.ext hx
            replace hB11 := hB11.ext hx
            replace hN := hN.ext hx
            have hE := Upd.refl (fun _ => False) W
            refine id (X_load (p := (ptr b11 (0))) (v := .int .i64 e.1) T3 rfl (hB11.at1 rfl) ?_)
            exact ⟨hE, rfl⟩
          intro val W17 hx17 he17
          replace hx17 := (Upd.drew _ _).trans hx17
          have hz17 := hx17.size
          replace hP2 := hP2.ext hx17
          replace hC2 := hC2.ext hx17
          replace hI3 := hI3.ext hx17
          replace hc := hc.ext hx17
          replace hB1 := hB1.ext hx17
          replace hB2 := hB2.ext hx17
          replace hBT := hBT.ext hx17
          replace hU := hU.trans (Ext.upd hx17)
          replace hB11 := hB11.ext hx17
          replace hN := hN.ext hx17
          refine L_op rfl (X_cmp (k := .i64) (a := a) (b := e.1) (r := true) rfl rfl rfl (decide_eq_true (of_decide_eq_false hs15)) ?_)
          refine L_nil ?_
          refine T_n ?_
          refine W_ct rfl ?_
          refine W_reg ?_
          refine L_op rfl (X_move (v := u) rfl ?_)
          refine L_op rfl (X_fldP (b := b4) (o := 0) (r := 2) Fd26_2 rfl rfl ?_)
          refine L_op rfl (X_load (p := (ptr b4 (2))) (v := i_3) T24 rfl (hBT.at1 rfl) ?_)
          refine L_op rfl (X_move (v := (.int .i64 (((j : Nat) : Int)))) rfl ?_)
          refine L_op rfl (X_idx (v := i_3) (n := as_.length) (k := .i64) (i := ((j : Nat) : Int)) S24 rfl hI3.sv rfl (by omega) (by omega) ?_)
          refine L_op rfl (X_load (v := .int .i64 a) T3 rfl (by have h := hI3.rd.cell (flat_at (L := LI) (j := 0) haj rfl); rw [show j * LI.sz + 0 = (((j : Nat) : Int).toNat * 1) by (show j * 1 + 0 = _; omega)] at h; exact h) ?_)
          refine L_op rfl (X_buildSlice1 (vs := [(.int .i64 (a))]) S24 (by decide) rfl rfl (List.forall_mem_cons.2 ⟨rfl, (fun _ h => by cases h)⟩) ?_)
          intro b18 w18 hn18
          have hbn18 := hn18.num; have hbs18 := hn18.size
          replace hP2 := hP2.ext hn18.ext
          replace hC2 := hC2.ext hn18.ext
          replace hI3 := hI3.ext hn18.ext
          replace hc := hc.ext hn18.ext
          replace hB1 := hB1.ext hn18.ext
          replace hB2 := hB2.ext hn18.ext
          replace hBT := hBT.ext hn18.ext
          replace hU := hU.trans (Ext.upd hn18.ext)
          replace hB11 := hB11.ext hn18.ext
          replace hN := hN.ext hn18.ext
          have hB18 := hn18.blk
          refine L_op rfl (X_append (B := sI) (n := ds.length) (s := u) (x := (.slice (some ⟨b18, 0, none⟩) 1 1)) S24 ⟨_, Try.underlying24⟩ rfl rfl hN.1 (m := 1) (ys := [.int .i64 a]) (hB18.rd (o := 0) (n := 1) (c := 1) (sz := 1) (by decide) (by decide) rfl (fun j u hj => by rw [Nat.zero_add]; simpa using hj)) (List.forall_mem_cons.2 ⟨rfl, fun _ h => by cases h⟩) (by unfold maxLen; omega) (by omega) (by omega) ?_)
          intro v5 w5 hO5 hu5 _
          have hz5 := hu5.size
          have hN5 : NOwn LI w5 3 5 sI w5.heap.size v5 (ds ++ [a]) := NOwn.of (fun _ => rfl) (hO5.eq (by rw [List.length_append]; rfl) (by rw [List.flatMap_append]; rfl)) fun b hb => (hO5.lt hb).2
          have hub := fun b (hb : obk u = some b) => (⟨(hN.1.lt hb).1, hN.2.1 b hb⟩ : sI ≤ b ∧ b < u9)
          replace hP2 := hP2.upd hu5 fun i h1 h2 h => by have h := hub _ h; omega
          replace hC2 := hC2.upd hu5 fun i h1 h2 h => by have h := hub _ h; omega
          replace hI3 := hI3.upd hu5 fun i hi h => by have hi := hI_b _ hi; have h := hub _ h; omega
          replace hc := hc.upd hu5 fun i h1 h2 h => by have h := hub _ h; omega
          replace hB1 := hB1.upd hu5 fun h => by have h := hub _ h; omega
          replace hB2 := hB2.upd hu5 fun h => by have h := hub _ h; omega
          replace hBT := hBT.upd hu5 fun h => by have h := hub _ h; omega
          replace hU := hU.trans (hu5.mono fun i _ h => by have h := hub _ h; show n0 ≤ i; omega)
          replace hB11 := hB11.upd hu5 fun h => by have h := hub _ h; omega
          refine L_op rfl (X_assign (v := v5) rfl ?_)
          refine L_nil ?_
          refine B_n ?_
          refine T_n ?_
          refine W_reg ?_
          refine L_op rfl (X_move (v := (.int .i64 (((j : Nat) : Int)))) rfl ?_)
          refine L_op rfl (X_arith (k := .i64) (a := ((j : Nat) : Int)) (b := 1) (r := ((j + 1 : Nat) : Int)) rfl rfl rfl (iadd64 (by omega) (by omega) (by omega)) ?_)
          refine L_op rfl (X_assign (v := (.int .i64 (((j + 1 : Nat) : Int)))) rfl ?_)
          refine L_nil ?_
          refine T_n ?_
          exact ⟨rfl, (j + 1, v5, ds ++ [a]), ⟨⟨hj, by rw [hds, keepI_take_miss haj (of_decide_eq_false hs15)], hN5, hB11, by omega, hP2, hC2, hI3, hc, hB1, hB2, hBT, hU⟩, (by show as_.length - (j + 1) < as_.length - j; omega)⟩, (Out.mk rfl), ⟨rfl, rfl, trivial⟩⟩
      · refine L_op rfl (X_cmp (k := .i64) (a := ((j : Nat) : Int)) (b := ((as_.length : Nat) : Int)) (r := false) rfl rfl rfl (decide_eq_false (p := ((((j : Nat) : Int)) : Int) < ((((as_.length : Nat) : Int)) : Int)) (by omega)) ?_)
        obtain rfl : j = as_.length := by omega
        rw [List.take_length] at hds
        have hdd := hds
        have hNu : Own _ s0 3 1 u ds.length (ds.flatMap LI.cel) := hN.1.more (by omega)
        have hu_b : ∀ b, obk u = some b → sI ≤ b ∧ b < u9 := fun b hb => ⟨(hN.1.lt hb).1, hN.2.1 b hb⟩
        refine L_nil ?_
        refine T_n ?_
        refine W_cf rfl ?_
        refine W_exit ?_
        refine T_e ?_
        refine T_e ?_
        refine B_x ?_
        refine T_n ?_
        refine W_reg ?_
        refine L_op rfl (X_move (v := u) rfl ?_)
        refine L_op rfl (X_fldP (b := b4) (o := 0) (r := 2) Fd26_2 rfl rfl ?_)
        refine L_op0 (X_store (b := b4) (o := 2) T24 rfl rfl hNu.sv.one hBT (by show (2 : Nat) < 4; decide) ?_)
        intro w6 hu6 hb6
        have hz6 := hu6.size
        replace hP2 := hP2.upd hu6 fun i h1 h2 h => by have h : i = b4 := h; omega
        replace hC2 := hC2.upd hu6 fun i h1 h2 h => by have h : i = b4 := h; omega
        replace hc := hc.upd hu6 fun i h1 h2 h => by have h : i = b4 := h; omega
        replace hB1 := hB1.upd hu6 fun h => by have h : b1 = b4 := h; omega
        replace hB2 := hB2.upd hu6 fun h => by have h : b2 = b4 := h; omega
        replace hU := hU.trans (hu6.mono fun i _ h => by have h : i = b4 := h; show n0 ≤ i; omega)
        replace hB11 := hB11.upd hu6 fun h => by have h : b11 = b4 := h; omega
        replace hNu := hNu.upd hu6 fun i hi h => by have hi := hu_b _ hi; have h : i = b4 := h; omega
        have hBT : Blk w6 b4 #[p_2, c_2, u, .bool off] 26 := hb6
        rw [hqq] at hP2
        refine L_nil ?_
        refine B_n ?_
        refine T_n ?_
        refine W_reg ?_
        refine L_op rfl (X_move (v := (.int .i64 (((i : Nat) : Int)))) rfl ?_)
        refine L_op rfl (X_arith (k := .i64) (a := ((i : Nat) : Int)) (b := 1) (r := ((i + 1 : Nat) : Int)) rfl rfl rfl (iadd64 (by omega) (by omega) (by omega)) ?_)
        refine L_op rfl (X_assign (v := (.int .i64 (((i + 1 : Nat) : Int)))) rfl ?_)
        refine L_nil ?_
        refine T_n ?_
        exact ⟨rfl, (i + 1, u, qs.set e.1.toNat e.2, ds), ⟨⟨hi, by rw [hqs, flP_step hei], by rw [hdd, has, flB_step hei], hP2, hC2, hNu, hc, hB1, hB2, hBT, hU⟩, (by show cs.length - (i + 1) < cs.length - i; omega)⟩, (Out.in_ rfl rfl (Out.mk rfl)), ⟨rfl, trivial⟩⟩
    · refine L_op rfl (X_cmp (k := .i64) (a := ((i : Nat) : Int)) (b := ((cs.length : Nat) : Int)) (r := false) rfl rfl rfl (decide_eq_false (p := ((((i : Nat) : Int)) : Int) < ((((cs.length : Nat) : Int)) : Int)) (by omega)) ?_)
      have hnT := own_ne hI3 hBT (by decide)
      have hn2 := own_ne hI3 hB2 (by decide)
      refine L_nil ?_
      refine T_n ?_
      refine W_cf rfl ?_
      refine W_exit ?_
      refine T_e ?_
      refine T_e ?_
      refine B_x ?_
      refine T_n ?_
      refine W_seq ?_
      refine W_reg ?_
      refine L_op rfl (X_fldP (b := b4) (o := 0) (r := 1) Fd26_1 rfl rfl ?_)
      refine L_op0 (X_store (b := b4) (o := 1) T23 rfl rfl rfl hBT (by show (1 : Nat) < 4; decide) ?_)
      intro w19 hu19 hb19
      have hz19 := hu19.size
      replace hP2 := hP2.upd hu19 fun i h1 h2 h => by have h : i = b4 := h; omega
      replace hC2 := hC2.upd hu19 fun i h1 h2 h => by have h : i = b4 := h; omega
      replace hI3 := hI3.upd hu19 fun b hb h => by have h1_ := hnT b hb; have h2_ := hn2 b hb; have h : b = b4 := h; omega
      replace hc := hc.upd hu19 fun i h1 h2 h => by have h : i = b4 := h; omega
      replace hB1 := hB1.upd hu19 fun h => by have h : b1 = b4 := h; omega
      replace hB2 := hB2.upd hu19 fun h => by have h : b2 = b4 := h; omega
      replace hU := hU.trans (hu19.mono fun i _ h => by have h : i = b4 := h; show n0 ≤ i; omega)
      replace hBT : Blk w19 b4 #[p_2, (.slice none 0 0), i_3, (.bool (off))] 26 := hb19
      refine L_nil ?_
      refine T_n ?_
      refine W_seq ?_
      refine W_reg ?_
      refine L_op rfl (X_loadA (p := (ptr b4 (0))) (xs := [p_2, (.slice none 0 0), i_3, (.bool (off))]) A26 rfl hBT.atAll rfl ?_)
      refine L_op0 (X_storeW (b := b2) (ys := [p_2, (.slice none 0 0), i_3, (.bool (off))]) A26 rfl rfl (List.forall_mem_cons.2 ⟨(hP2.1.sv.one), (List.forall_mem_cons.2 ⟨rfl, (List.forall_mem_cons.2 ⟨(hI3.sv.one), (List.forall_mem_cons.2 ⟨rfl, (fun _ h => by cases h)⟩)⟩)⟩)⟩) rfl hB2 rfl ?_)
      intro w20 hu20 hb20
      have hz20 := hu20.size
      replace hP2 := hP2.upd hu20 fun i h1 h2 h => by have h : i = b2 := h; omega
      replace hC2 := hC2.upd hu20 fun i h1 h2 h => by have h : i = b2 := h; omega
      replace hI3 := hI3.upd hu20 fun b hb h => by have h1_ := hnT b hb; have h2_ := hn2 b hb; have h : b = b2 := h; omega
      replace hc := hc.upd hu20 fun i h1 h2 h => by have h : i = b2 := h; omega
      replace hB1 := hB1.upd hu20 fun h => by have h : b1 = b2 := h; omega
      replace hU := hU.trans (hu20.mono fun i _ h => by have h : i = b2 := h; show n0 ≤ i; omega)
      replace hBT := hBT.upd hu20 fun h => by have h : b4 = b2 := h; omega
      replace hB2 : Blk w20 b2 #[p_2, (.slice none 0 0), i_3, (.bool (off))] 26 := hb20
      refine L_op rfl (X_assign (v := (.int .i64 (0))) rfl ?_)
      refine L_nil ?_
      refine T_n ?_
      refine W_ret ?_
      exact BQ_r (End_2 Try.results10 (RV_A A26 rfl hB2.atAll rfl) (v2 := .int .i64 0) rfl ⟨_, _, _, qs, [], as_, by rw [hq0], hP2.mono (by omega) (by omega), NOwn.nil _ _ _ _ _, NOwn.of (fun _ => rfl) (hI3.more (by omega)) (fun b hb => (hI3.lt hb).2), fun _ => ⟨by rw [hqs, List.take_of_length_le (by omega)], rfl, by rw [has, List.take_of_length_le (by omega)]⟩, fun h => absurd hq0 h, hU.own hn0⟩)
end Go.Proofs.Ytfmgjkchhajpmaa
