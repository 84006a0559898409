/-
  Contracts of chapter 04: flips, picks. (Printed by wip/gen/t04c.py of this repo.)
-/
import Derived.Test.YtfmgjkchhajpmaaDkB
import Derived.Test.YtfmgjkchhajpmaaBaseT
namespace Go.Proofs.Ytfmgjkchhajpmaa
open Go Go.SL Go.Proofs
set_option linter.unusedVariables false

def flipPg (p : Pg) (k : Nat) (y : UInt8) : Pg := ⟨p.1.set k (p.1.getD k 0 ^^^ y), by rw [List.length_set]; exact p.2⟩
def flipP (ps : List Pg) (n k : Nat) (y : UInt8) : List Pg := ps.set n (flipPg (ps.getD n default) k y)
theorem flipP_length (ps : List Pg) (n k : Nat) (y : UInt8) : (flipP ps n k y).length = ps.length := List.length_set
theorem flip_cells {ps : List Pg} {n k : Nat} {p : Pg} {x : UInt8} (hp : ps[n]? = some p) (hx : p.1[k]? = some x) (hk : k < 256) (y : UInt8) : (ps.flatMap LP.cel).set (n * 256 + k) (byteV (x ^^^ y)) = (flipP ps n k y).flatMap LP.cel := by
  have e : flipP ps n k y = ps.set n (flipPg p k y) := by unfold flipP; rw [List.getD_eq_getElem?_getD, hp]; rfl
  rw [e]
  refine flat_setC (L := LP) hp hk ?_
  show (p.1.set k (p.1.getD k 0 ^^^ y)).map byteV = (p.1.map byteV).set k (byteV (x ^^^ y))
  rw [List.getD_eq_getElem?_getD, hx, List.map_set]; rfl

theorem c_flip (pv cv bv : Value) (ps : List Pg) (cs : List Wr) (bs : List Int) (off : Bool) (n k : Int) (y : UInt8) (w : World) (lo up : Nat) (hup : up ≤ w.heap.size) (hp : NRd LP w lo up pv ps) (hc : NRd LW w lo up cv cs) (hb : NRd LI w lo up bv bs) (hpL : ps.length ≤ 1048576) (hcL : cs.length ≤ 1048576) (hbL : bs.length ≤ 1048576) : CT Try.prog 13 #[(.agg #[pv, cv, bv, (.bool (off))]), (.int .i64 (n)), (.int .i64 (k)), (byteV y)] w fun v w' => ∃ p2 c2 i2 qs e, v = .tuple #[.agg #[p2, c2, i2, .bool off], .int .i64 e] ∧ NOwn LP w' 33 5 w.heap.size w'.heap.size p2 qs ∧ NOwn LW w' 35 5 w.heap.size w'.heap.size c2 cs ∧ NOwn LI w' 3 5 w.heap.size w'.heap.size i2 bs ∧ ((0 ≤ n ∧ n < ps.length ∧ 0 ≤ k ∧ k < 256) → e = 0 ∧ qs = flipP ps n.toNat k.toNat y) ∧ (¬ (0 ≤ n ∧ n < ps.length ∧ 0 ≤ k ∧ k < 256) → e = 2 ∧ qs = ps) ∧ Ext w w' := by
  obtain ⟨n0, hn0⟩ : ∃ n, n = w.heap.size := ⟨_, rfl⟩
  have hU : Upd (fun i => n0 ≤ i) w w := Upd.refl _ _
  have hpl := hp.sv.len
  have hcl := hc.sv.len
  have hbl := hb.sv.len
  rw [← hn0] at hup
  refine CT_of Try.func13 rfl rfl rfl ?_
  refine W_seq ?_
  refine W_reg ?_
  refine L_op rfl (X_box (v := (.agg #[pv, cv, bv, (.bool (off))])) (c := ([pv, cv, bv, (.bool (off))]).toArray) rfl rfl ?_)
  intro b1 w1 hn1
  have hbn1 := hn1.num; have hbs1 := hn1.size
  replace hp := hp.ext hn1.ext
  replace hc := hc.ext hn1.ext
  replace hb := hb.ext hn1.ext
  replace hU := hU.trans (Ext.upd hn1.ext)
  have hB1 := hn1.blk
  refine L_op rfl (X_alloc (z := (.agg #[(.slice none 0 0), (.slice none 0 0), (.slice none 0 0), (.bool (false))])) (c := #[(.slice none 0 0), (.slice none 0 0), (.slice none 0 0), (.bool (false))]) Zv26 rfl ?_)
  intro b2 w2 hn2
  have hbn2 := hn2.num; have hbs2 := hn2.size
  replace hp := hp.ext hn2.ext
  replace hc := hc.ext hn2.ext
  replace hb := hb.ext hn2.ext
  replace hU := hU.trans (Ext.upd hn2.ext)
  replace hB1 := hB1.ext hn2.ext
  have hB2 := hn2.blk
  refine L_op rfl (X_assign (v := (.int .i64 (0))) rfl ?_)
  refine L_nil ?_
  refine T_n ?_
  refine W_seq ?_
  refine W_reg ?_
  refine L_op rfl (X_loadA (p := (ptr b1 (0))) (xs := [pv, cv, bv, (.bool (off))]) A26 rfl hB1.atAll rfl ?_)
  obtain ⟨s0, hs0⟩ : ∃ n, n = w2.heap.size := ⟨_, rfl⟩
  refine L_op rfl (X_fn (vs := [(.agg ([pv, cv, bv, (.bool (off))]).toArray)]) en25 rfl (CT.mono (c_own pv cv bv ps cs bs off _ lo up (by omega) hp hc hb hpL hcL hbL) ?_))
  rintro _ w3 ⟨p_2, c_2, i_2, rfl, hP2, hC2, hI2, hu3⟩
  have hz3 := hu3.size
  rw [← hs0] at hP2 hC2 hI2
  obtain ⟨us0, hus0_⟩ : ∃ n, n = w3.heap.size := ⟨_, rfl⟩
  rw [← hus0_] at hP2 hC2 hI2
  replace hp := hp.ext hu3
  replace hc := hc.ext hu3
  replace hb := hb.ext hu3
  replace hU := hU.trans (Ext.upd hu3)
  replace hB1 := hB1.ext hu3
  replace hB2 := hB2.ext hu3
  refine L_op0 (X_storeW (b := b1) (ys := [p_2, c_2, i_2, (.bool (off))]) A26 rfl rfl (List.forall_mem_cons.2 ⟨(hP2.1.sv.one), (List.forall_mem_cons.2 ⟨(hC2.1.sv.one), (List.forall_mem_cons.2 ⟨(hI2.1.sv.one), (List.forall_mem_cons.2 ⟨rfl, (fun _ h => by cases h)⟩)⟩)⟩)⟩) rfl hB1 rfl ?_)
  intro w4 hu4 hb4
  have hz4 := hu4.size
  replace hp := hp.upd hu4 fun i h1 h2 h => by have h : i = b1 := h; omega
  replace hc := hc.upd hu4 fun i h1 h2 h => by have h : i = b1 := h; omega
  replace hb := hb.upd hu4 fun i h1 h2 h => by have h : i = b1 := h; omega
  replace hU := hU.trans (hu4.mono fun i _ h => by have h : i = b1 := h; show n0 ≤ i; omega)
  replace hB2 := hB2.upd hu4 fun h => by have h : b2 = b1 := h; omega
  replace hP2 := hP2.upd hu4 fun i h1 h2 h => by have h : i = b1 := h; omega
  replace hC2 := hC2.upd hu4 fun i h1 h2 h => by have h : i = b1 := h; omega
  replace hI2 := hI2.upd hu4 fun i h1 h2 h => by have h : i = b1 := h; omega
  replace hB1 : Blk w4 b1 #[p_2, c_2, i_2, (.bool (off))] 26 := hb4
  refine L_nil ?_
  refine T_n ?_
  refine W_seq ?_
  refine W_seq ?_
  refine W_reg ?_
  refine L_op rfl (X_move (v := (.int .i64 (n))) rfl ?_)
  by_cases hc5 : (n : Int) < (0)
  · refine L_op rfl (X_cmp (k := .i64) (a := n) (b := 0) (r := true) rfl rfl rfl (decide_eq_true (p := ((n) : Int) < ((0) : Int)) (by omega)) ?_)
    refine L_op rfl (X_move (v := (.bool (true))) rfl ?_)
    refine L_gn (dj := 14) (t := true) rfl rfl rfl rfl ?_
    refine L_gn (dj := 14) (t := true) rfl rfl rfl rfl ?_
    refine L_gn (dj := 14) (t := true) rfl rfl rfl rfl ?_
    refine L_gn (dj := 14) (t := true) rfl rfl rfl rfl ?_
    refine L_gn (dj := 14) (t := true) rfl rfl rfl rfl ?_
    refine L_op rfl (X_pick (t := true) (v := (.bool (true))) rfl rfl ?_)
    refine L_op rfl (X_move (v := (.bool (true))) rfl ?_)
    refine L_gn (dj := 21) (t := true) rfl rfl rfl rfl ?_
    refine L_gn (dj := 21) (t := true) rfl rfl rfl rfl ?_
    refine L_op rfl (X_pick (t := true) (v := (.bool (true))) rfl rfl ?_)
    refine L_op rfl (X_move (v := (.bool (true))) rfl ?_)
    refine L_gn (dj := 25) (t := true) rfl rfl rfl rfl ?_
    refine L_gn (dj := 25) (t := true) rfl rfl rfl rfl ?_
    refine L_op rfl (X_pick (t := true) (v := (.bool (true))) rfl rfl ?_)
    refine L_nil ?_
    refine T_n ?_
    refine W_ct rfl ?_
    refine W_seq ?_
    refine W_reg ?_
    refine L_op rfl (X_loadA (p := (ptr b1 (0))) (xs := [p_2, c_2, i_2, (.bool (off))]) A26 rfl hB1.atAll rfl ?_)
    refine L_op0 (X_storeW (b := b2) (ys := [p_2, c_2, i_2, (.bool (off))]) A26 rfl rfl (List.forall_mem_cons.2 ⟨(hP2.1.sv.one), (List.forall_mem_cons.2 ⟨(hC2.1.sv.one), (List.forall_mem_cons.2 ⟨(hI2.1.sv.one), (List.forall_mem_cons.2 ⟨rfl, (fun _ h => by cases h)⟩)⟩)⟩)⟩) rfl hB2 rfl ?_)
    intro w6 hu6 hb6
    have hz6 := hu6.size
    replace hp := hp.upd hu6 fun i h1 h2 h => by have h : i = b2 := h; omega
    replace hc := hc.upd hu6 fun i h1 h2 h => by have h : i = b2 := h; omega
    replace hb := hb.upd hu6 fun i h1 h2 h => by have h : i = b2 := h; omega
    replace hU := hU.trans (hu6.mono fun i _ h => by have h : i = b2 := h; show n0 ≤ i; omega)
    replace hP2 := hP2.upd hu6 fun i h1 h2 h => by have h : i = b2 := h; omega
    replace hC2 := hC2.upd hu6 fun i h1 h2 h => by have h : i = b2 := h; omega
    replace hI2 := hI2.upd hu6 fun i h1 h2 h => by have h : i = b2 := h; omega
    replace hB1 := hB1.upd hu6 fun h => by have h : b1 = b2 := h; omega
    replace hB2 : Blk w6 b2 #[p_2, c_2, i_2, (.bool (off))] 26 := hb6
    refine L_op rfl (X_assign (v := (.int .i64 (2))) rfl ?_)
    refine L_nil ?_
    refine T_n ?_
    refine W_ret ?_
    refine T_r ?_
    exact BQ_r (End_2 Try.results13 (RV_A A26 rfl hB2.atAll rfl) (v2 := .int .i64 2) rfl ⟨_, _, _, ps, 2, rfl, hP2.mono (by omega) (by omega), hC2.mono (by omega) (by omega), hI2.mono (by omega) (by omega), fun h => by omega, fun _ => ⟨rfl, rfl⟩, hU.own hn0⟩)
  · refine L_op rfl (X_cmp (k := .i64) (a := n) (b := 0) (r := false) rfl rfl rfl (decide_eq_false (p := ((n) : Int) < ((0) : Int)) (by omega)) ?_)
    refine L_op rfl (X_move (v := (.bool (false))) rfl ?_)
    refine L_gy (dj := 14) rfl rfl rfl (X_move (v := (.int .i64 (n))) rfl ?_)
    refine L_gy (dj := 14) rfl rfl rfl (X_fldP (b := b1) (o := 0) (r := 0) Fd26_0 rfl rfl ?_)
    refine L_gy (dj := 14) rfl rfl rfl (X_load (p := (ptr b1 (0))) (v := p_2) T22 rfl (hB1.at1 rfl) ?_)
    refine L_gy (dj := 14) rfl rfl rfl (X_len (v := p_2) (n := ps.length) Try.underlying22 rfl hP2.1.sv ?_)
    by_cases hc7 : (n : Int) ≥ (((ps.length : Nat) : Int))
    · refine L_gy (dj := 14) rfl rfl rfl (X_cmp (k := .i64) (a := n) (b := ((ps.length : Nat) : Int)) (r := true) rfl rfl rfl (decide_eq_true (p := ((((ps.length : Nat) : Int)) : Int) ≤ ((n) : Int)) (by omega)) ?_)
      refine L_op rfl (X_pick (t := false) (v := (.bool (true))) rfl rfl ?_)
      refine L_op rfl (X_move (v := (.bool (true))) rfl ?_)
      refine L_gn (dj := 21) (t := true) rfl rfl rfl rfl ?_
      refine L_gn (dj := 21) (t := true) rfl rfl rfl rfl ?_
      refine L_op rfl (X_pick (t := true) (v := (.bool (true))) rfl rfl ?_)
      refine L_op rfl (X_move (v := (.bool (true))) rfl ?_)
      refine L_gn (dj := 25) (t := true) rfl rfl rfl rfl ?_
      refine L_gn (dj := 25) (t := true) rfl rfl rfl rfl ?_
      refine L_op rfl (X_pick (t := true) (v := (.bool (true))) rfl rfl ?_)
      refine L_nil ?_
      refine T_n ?_
      refine W_ct rfl ?_
      refine W_seq ?_
      refine W_reg ?_
      refine L_op rfl (X_loadA (p := (ptr b1 (0))) (xs := [p_2, c_2, i_2, (.bool (off))]) A26 rfl hB1.atAll rfl ?_)
      refine L_op0 (X_storeW (b := b2) (ys := [p_2, c_2, i_2, (.bool (off))]) A26 rfl rfl (List.forall_mem_cons.2 ⟨(hP2.1.sv.one), (List.forall_mem_cons.2 ⟨(hC2.1.sv.one), (List.forall_mem_cons.2 ⟨(hI2.1.sv.one), (List.forall_mem_cons.2 ⟨rfl, (fun _ h => by cases h)⟩)⟩)⟩)⟩) rfl hB2 rfl ?_)
      intro w8 hu8 hb8
      have hz8 := hu8.size
      replace hp := hp.upd hu8 fun i h1 h2 h => by have h : i = b2 := h; omega
      replace hc := hc.upd hu8 fun i h1 h2 h => by have h : i = b2 := h; omega
      replace hb := hb.upd hu8 fun i h1 h2 h => by have h : i = b2 := h; omega
      replace hU := hU.trans (hu8.mono fun i _ h => by have h : i = b2 := h; show n0 ≤ i; omega)
      replace hP2 := hP2.upd hu8 fun i h1 h2 h => by have h : i = b2 := h; omega
      replace hC2 := hC2.upd hu8 fun i h1 h2 h => by have h : i = b2 := h; omega
      replace hI2 := hI2.upd hu8 fun i h1 h2 h => by have h : i = b2 := h; omega
      replace hB1 := hB1.upd hu8 fun h => by have h : b1 = b2 := h; omega
      replace hB2 : Blk w8 b2 #[p_2, c_2, i_2, (.bool (off))] 26 := hb8
      refine L_op rfl (X_assign (v := (.int .i64 (2))) rfl ?_)
      refine L_nil ?_
      refine T_n ?_
      refine W_ret ?_
      refine T_r ?_
      exact BQ_r (End_2 Try.results13 (RV_A A26 rfl hB2.atAll rfl) (v2 := .int .i64 2) rfl ⟨_, _, _, ps, 2, rfl, hP2.mono (by omega) (by omega), hC2.mono (by omega) (by omega), hI2.mono (by omega) (by omega), fun h => by omega, fun _ => ⟨rfl, rfl⟩, hU.own hn0⟩)
    · refine L_gy (dj := 14) rfl rfl rfl (X_cmp (k := .i64) (a := n) (b := ((ps.length : Nat) : Int)) (r := false) rfl rfl rfl (decide_eq_false (p := ((((ps.length : Nat) : Int)) : Int) ≤ ((n) : Int)) (by omega)) ?_)
      refine L_op rfl (X_pick (t := false) (v := (.bool (false))) rfl rfl ?_)
      refine L_op rfl (X_move (v := (.bool (false))) rfl ?_)
      refine L_gy (dj := 21) rfl rfl rfl (X_move (v := (.int .i64 (k))) rfl ?_)
      by_cases hc9 : (k : Int) < (0)
      · refine L_gy (dj := 21) rfl rfl rfl (X_cmp (k := .i64) (a := k) (b := 0) (r := true) rfl rfl rfl (decide_eq_true (p := ((k) : Int) < ((0) : Int)) (by omega)) ?_)
        refine L_op rfl (X_pick (t := false) (v := (.bool (true))) rfl rfl ?_)
        refine L_op rfl (X_move (v := (.bool (true))) rfl ?_)
        refine L_gn (dj := 25) (t := true) rfl rfl rfl rfl ?_
        refine L_gn (dj := 25) (t := true) rfl rfl rfl rfl ?_
        refine L_op rfl (X_pick (t := true) (v := (.bool (true))) rfl rfl ?_)
        refine L_nil ?_
        refine T_n ?_
        refine W_ct rfl ?_
        refine W_seq ?_
        refine W_reg ?_
        refine L_op rfl (X_loadA (p := (ptr b1 (0))) (xs := [p_2, c_2, i_2, (.bool (off))]) A26 rfl hB1.atAll rfl ?_)
        refine L_op0 (X_storeW (b := b2) (ys := [p_2, c_2, i_2, (.bool (off))]) A26 rfl rfl (List.forall_mem_cons.2 ⟨(hP2.1.sv.one), (List.forall_mem_cons.2 ⟨(hC2.1.sv.one), (List.forall_mem_cons.2 ⟨(hI2.1.sv.one), (List.forall_mem_cons.2 ⟨rfl, (fun _ h => by cases h)⟩)⟩)⟩)⟩) rfl hB2 rfl ?_)
        intro w10 hu10 hb10
        have hz10 := hu10.size
        replace hp := hp.upd hu10 fun i h1 h2 h => by have h : i = b2 := h; omega
        replace hc := hc.upd hu10 fun i h1 h2 h => by have h : i = b2 := h; omega
        replace hb := hb.upd hu10 fun i h1 h2 h => by have h : i = b2 := h; omega
        replace hU := hU.trans (hu10.mono fun i _ h => by have h : i = b2 := h; show n0 ≤ i; omega)
        replace hP2 := hP2.upd hu10 fun i h1 h2 h => by have h : i = b2 := h; omega
        replace hC2 := hC2.upd hu10 fun i h1 h2 h => by have h : i = b2 := h; omega
        replace hI2 := hI2.upd hu10 fun i h1 h2 h => by have h : i = b2 := h; omega
        replace hB1 := hB1.upd hu10 fun h => by have h : b1 = b2 := h; omega
        replace hB2 : Blk w10 b2 #[p_2, c_2, i_2, (.bool (off))] 26 := hb10
        refine L_op rfl (X_assign (v := (.int .i64 (2))) rfl ?_)
        refine L_nil ?_
        refine T_n ?_
        refine W_ret ?_
        refine T_r ?_
        exact BQ_r (End_2 Try.results13 (RV_A A26 rfl hB2.atAll rfl) (v2 := .int .i64 2) rfl ⟨_, _, _, ps, 2, rfl, hP2.mono (by omega) (by omega), hC2.mono (by omega) (by omega), hI2.mono (by omega) (by omega), fun h => by omega, fun _ => ⟨rfl, rfl⟩, hU.own hn0⟩)
      · refine L_gy (dj := 21) rfl rfl rfl (X_cmp (k := .i64) (a := k) (b := 0) (r := false) rfl rfl rfl (decide_eq_false (p := ((k) : Int) < ((0) : Int)) (by omega)) ?_)
        refine L_op rfl (X_pick (t := false) (v := (.bool (false))) rfl rfl ?_)
        refine L_op rfl (X_move (v := (.bool (false))) rfl ?_)
        refine L_gy (dj := 25) rfl rfl rfl (X_move (v := (.int .i64 (k))) rfl ?_)
        by_cases hc11 : (k : Int) ≥ (256)
        · refine L_gy (dj := 25) rfl rfl rfl (X_cmp (k := .i64) (a := k) (b := 256) (r := true) rfl rfl rfl (decide_eq_true (p := ((256) : Int) ≤ ((k) : Int)) (by omega)) ?_)
          refine L_op rfl (X_pick (t := false) (v := (.bool (true))) rfl rfl ?_)
          refine L_nil ?_
          refine T_n ?_
          refine W_ct rfl ?_
          refine W_seq ?_
          refine W_reg ?_
          refine L_op rfl (X_loadA (p := (ptr b1 (0))) (xs := [p_2, c_2, i_2, (.bool (off))]) A26 rfl hB1.atAll rfl ?_)
          refine L_op0 (X_storeW (b := b2) (ys := [p_2, c_2, i_2, (.bool (off))]) A26 rfl rfl (List.forall_mem_cons.2 ⟨(hP2.1.sv.one), (List.forall_mem_cons.2 ⟨(hC2.1.sv.one), (List.forall_mem_cons.2 ⟨(hI2.1.sv.one), (List.forall_mem_cons.2 ⟨rfl, (fun _ h => by cases h)⟩)⟩)⟩)⟩) rfl hB2 rfl ?_)
          intro w12 hu12 hb12
          have hz12 := hu12.size
          replace hp := hp.upd hu12 fun i h1 h2 h => by have h : i = b2 := h; omega
          replace hc := hc.upd hu12 fun i h1 h2 h => by have h : i = b2 := h; omega
          replace hb := hb.upd hu12 fun i h1 h2 h => by have h : i = b2 := h; omega
          replace hU := hU.trans (hu12.mono fun i _ h => by have h : i = b2 := h; show n0 ≤ i; omega)
          replace hP2 := hP2.upd hu12 fun i h1 h2 h => by have h : i = b2 := h; omega
          replace hC2 := hC2.upd hu12 fun i h1 h2 h => by have h : i = b2 := h; omega
          replace hI2 := hI2.upd hu12 fun i h1 h2 h => by have h : i = b2 := h; omega
          replace hB1 := hB1.upd hu12 fun h => by have h : b1 = b2 := h; omega
          replace hB2 : Blk w12 b2 #[p_2, c_2, i_2, (.bool (off))] 26 := hb12
          refine L_op rfl (X_assign (v := (.int .i64 (2))) rfl ?_)
          refine L_nil ?_
          refine T_n ?_
          refine W_ret ?_
          refine T_r ?_
          exact BQ_r (End_2 Try.results13 (RV_A A26 rfl hB2.atAll rfl) (v2 := .int .i64 2) rfl ⟨_, _, _, ps, 2, rfl, hP2.mono (by omega) (by omega), hC2.mono (by omega) (by omega), hI2.mono (by omega) (by omega), fun h => by omega, fun _ => ⟨rfl, rfl⟩, hU.own hn0⟩)
        · refine L_gy (dj := 25) rfl rfl rfl (X_cmp (k := .i64) (a := k) (b := 256) (r := false) rfl rfl rfl (decide_eq_false (p := ((256) : Int) ≤ ((k) : Int)) (by omega)) ?_)
          refine L_op rfl (X_pick (t := false) (v := (.bool (false))) rfl rfl ?_)
          refine L_nil ?_
          refine T_n ?_
          refine W_cf rfl ?_
          refine W_skip ?_
          refine T_n ?_
          refine W_seq ?_
          obtain ⟨p0, hp0⟩ : ∃ e, ps[n.toNat]? = some e := ⟨_, List.getElem?_eq_getElem (by omega)⟩
          obtain ⟨x0, hx0⟩ : ∃ e, p0.1[k.toNat]? = some e := ⟨_, List.getElem?_eq_getElem (by rw [p0.2]; omega)⟩
          refine W_draw 10 [[], [0], [], [], [0, 1, 2], [0, 1, 2, 3, 4], [0, 1, 2, 3, 4, 5], [], [0, 1, 2, 3, 4, 5, 6, 7], [0, 1, 2], [0, 1, 2, 3, 4, 5, 6, 7, 8, 9], [0, 1, 2, 3, 4, 5, 6, 7, 8, 9, 10]] mixed (by kernel_rfl) ?_
          refine ⟨.det (fun val => (ptr b1 (0))), ⟨fun _ _ hv => rfl, fun _ _ _ _ _ => trivial⟩, fun val h_ W hx he => ⟨trivial, ?_⟩, ?_⟩
          · replace hx := (Upd.drew _ _).trans hx
            replace hp := hp.ext hx
            replace hc := hc.ext hx
            replace hb := hb.ext hx
            replace hB2 := hB2.ext hx
            replace hP2 := hP2.ext hx
            replace hC2 := hC2.ext hx
            replace hI2 := hI2.ext hx
            replace hB1 := hB1.ext hx
            have hE := Upd.refl (fun _ => False) W
            refine id (X_fldP (b := b1) (o := 0) (r := 0) Fd26_0 rfl rfl ?_)
            exact ⟨hE, rfl⟩
          refine ⟨.det (fun val => p_2), ⟨fun _ _ hv => rfl, fun _ _ _ _ _ => trivial⟩, fun val h_ W hx he => ⟨trivial, ?_⟩, ?_⟩
          · replace hx := (Upd.drew _ _).trans hx
            replace hp := hp.ext hx
            replace hc := hc.ext hx
            replace hb := hb.ext hx
            replace hB2 := hB2.ext hx
            replace hP2 := hP2.ext hx
            replace hC2 := hC2.ext hx
            replace hI2 := hI2.ext hx
            replace hB1 := hB1.ext hx
            have hE := Upd.refl (fun _ => False) W
            refine id (X_load (p := (ptr b1 (0))) (v := p_2) T22 rfl (hB1.at1 rfl) ?_)
            exact ⟨hE, rfl⟩
          refine ⟨.det (fun val => (.int .i64 (n))), ⟨fun _ _ hv => rfl, fun _ _ _ _ _ => trivial⟩, fun val h_ W hx he => ⟨trivial, ?_⟩, ?_⟩
          · replace hx := (Upd.drew _ _).trans hx
            replace hp := hp.ext hx
            replace hc := hc.ext hx
            replace hb := hb.ext hx
            replace hB2 := hB2.ext hx
            replace hP2 := hP2.ext hx
            replace hC2 := hC2.ext hx
            replace hI2 := hI2.ext hx
            replace hB1 := hB1.ext hx
            have hE := Upd.refl (fun _ => False) W
            refine id (X_move (v := (.int .i64 (n))) rfl ?_)
            exact ⟨hE, rfl⟩
          refine ⟨.det (fun val => (.int .i64 (k))), ⟨fun _ _ hv => rfl, fun _ _ _ _ _ => trivial⟩, fun val h_ W hx he => ⟨trivial, ?_⟩, ?_⟩
          · replace hx := (Upd.drew _ _).trans hx
            replace hp := hp.ext hx
            replace hc := hc.ext hx
            replace hb := hb.ext hx
            replace hB2 := hB2.ext hx
            replace hP2 := hP2.ext hx
            replace hC2 := hC2.ext hx
            replace hI2 := hI2.ext hx
            replace hB1 := hB1.ext hx
            have hE := Upd.refl (fun _ => False) W
            refine id (X_move (v := (.int .i64 (k))) rfl ?_)
            exact ⟨hE, rfl⟩
          refine ⟨.det (fun val => (pof p_2 ((n : Int).toNat * 256))), ⟨fun _ _ hv => rfl, fun _ _ _ _ _ => trivial⟩, fun val h_ W hx he => ⟨trivial, ?_⟩, ?_⟩
          · replace hx := (Upd.drew _ _).trans hx
            replace hp := hp.ext hx
            replace hc := hc.ext hx
            replace hb := hb.ext hx
            replace hB2 := hB2.ext hx
            replace hP2 := hP2.ext hx
            replace hC2 := hC2.ext hx
            replace hI2 := hI2.ext hx
            replace hB1 := hB1.ext hx
            have hE := Upd.refl (fun _ => False) W
            refine id (X_idx (v := p_2) (n := ps.length) (k := .i64) (i := n) S22 rfl hP2.1.sv rfl (by omega) (by omega) ?_)
            exact ⟨hE, rfl⟩
          refine ⟨.det (fun val => (pof p_2 ((n : Int).toNat * 256 + (k : Int).toNat * 1))), ⟨fun _ _ hv => rfl, fun _ _ _ _ _ => trivial⟩, fun val h_ W hx he => ⟨trivial, ?_⟩, ?_⟩
          · replace hx := (Upd.drew _ _).trans hx
            replace hp := hp.ext hx
            replace hc := hc.ext hx
            replace hb := hb.ext hx
            replace hB2 := hB2.ext hx
            replace hP2 := hP2.ext hx
            replace hC2 := hC2.ext hx
            replace hI2 := hI2.ext hx
            replace hB1 := hB1.ext hx
            have hE := Upd.refl (fun _ => False) W
            refine id (X_idxAS (len := 256) (sz := 1) (v := p_2) (o := (n : Int).toNat * 256) (k := .i64) (i := k) (r := (n : Int).toNat * 256 + (k : Int).toNat * 1) Try.underlying33 Z5 rfl hP2.1.sv (by omega) rfl (by omega) (by omega) (by omega) ?_)
            exact ⟨hE, rfl⟩
          refine ⟨.det (fun val => (.int .u8 (((x0.toNat : Nat) : Int)))), ⟨fun _ _ hv => rfl, fun _ _ _ _ _ => trivial⟩, fun val h_ W hx he => ⟨trivial, ?_⟩, ?_⟩
          · replace hx := (Upd.drew _ _).trans hx
            replace hp := hp.ext hx
            replace hc := hc.ext hx
            replace hb := hb.ext hx
            replace hB2 := hB2.ext hx
            replace hP2 := hP2.ext hx
            replace hC2 := hC2.ext hx
            replace hI2 := hI2.ext hx
            replace hB1 := hB1.ext hx
            have hE := Upd.refl (fun _ => False) W
            refine id (X_load (v := .int .u8 ((x0.toNat : Nat) : Int)) T5 rfl (hP2.1.rd.cell (by rw [show (n : Int).toNat * 256 + (k : Int).toNat * 1 = n.toNat * LP.sz + k.toNat by (show _ = n.toNat * 256 + k.toNat; omega)]; exact flat_at (L := LP) hp0 (by show (p0.1.map byteV)[k.toNat]? = _; rw [List.getElem?_map, hx0]; rfl))) ?_)
            exact ⟨hE, rfl⟩
          refine ⟨.det (fun val => (byteV y)), ⟨fun _ _ hv => rfl, fun _ _ _ _ _ => trivial⟩, fun val h_ W hx he => ⟨trivial, ?_⟩, ?_⟩
          · replace hx := (Upd.drew _ _).trans hx
            replace hp := hp.ext hx
            replace hc := hc.ext hx
            replace hb := hb.ext hx
            replace hB2 := hB2.ext hx
            replace hP2 := hP2.ext hx
            replace hC2 := hC2.ext hx
            replace hI2 := hI2.ext hx
            replace hB1 := hB1.ext hx
            have hE := Upd.refl (fun _ => False) W
            refine id (X_move (v := (byteV y)) rfl ?_)
            exact ⟨hE, rfl⟩
          refine ⟨.det (fun val => (.int .u8 ((((x0 ^^^ y).toNat : Nat) : Int)))), ⟨fun _ _ hv => rfl, fun _ _ _ _ _ => trivial⟩, fun val h_ W hx he => ⟨trivial, ?_⟩, ?_⟩
          · replace hx := (Upd.drew _ _).trans hx
            replace hp := hp.ext hx
            replace hc := hc.ext hx
            replace hb := hb.ext hx
            replace hB2 := hB2.ext hx
            replace hP2 := hP2.ext hx
            replace hC2 := hC2.ext hx
            replace hI2 := hI2.ext hx
            replace hB1 := hB1.ext hx
            have hE := Upd.refl (fun _ => False) W
            refine id (X_arith (k := .u8) (a := ((x0.toNat : Nat) : Int)) (b := ((y.toNat : Nat) : Int)) (r := (((x0 ^^^ y).toNat : Nat) : Int)) rfl rfl rfl (u8_xor x0 y) ?_)
            exact ⟨hE, rfl⟩
          refine ⟨.det (fun val => (pof p_2 ((n : Int).toNat * 256))), ⟨fun _ _ hv => rfl, fun _ _ _ _ _ => trivial⟩, fun val h_ W hx he => ⟨trivial, ?_⟩, ?_⟩
          · replace hx := (Upd.drew _ _).trans hx
            replace hp := hp.ext hx
            replace hc := hc.ext hx
            replace hb := hb.ext hx
            replace hB2 := hB2.ext hx
            replace hP2 := hP2.ext hx
            replace hC2 := hC2.ext hx
            replace hI2 := hI2.ext hx
            replace hB1 := hB1.ext hx
            have hE := Upd.refl (fun _ => False) W
            refine id (X_idx (v := p_2) (n := ps.length) (k := .i64) (i := n) S22 rfl hP2.1.sv rfl (by omega) (by omega) ?_)
            exact ⟨hE, rfl⟩
          intro val W13 hx13 he13
          replace hx13 := (Upd.drew _ _).trans hx13
          have hz13 := hx13.size
          replace hp := hp.ext hx13
          replace hc := hc.ext hx13
          replace hb := hb.ext hx13
          replace hU := hU.trans (Ext.upd hx13)
          replace hB2 := hB2.ext hx13
          replace hP2 := hP2.ext hx13
          replace hC2 := hC2.ext hx13
          replace hI2 := hI2.ext hx13
          replace hB1 := hB1.ext hx13
          refine L_op rfl (X_idxAS (len := 256) (sz := 1) (v := p_2) (o := (n : Int).toNat * 256) (k := .i64) (i := k) (r := (n : Int).toNat * 256 + (k : Int).toNat * 1) Try.underlying33 Z5 rfl hP2.1.sv (by omega) rfl (by omega) (by omega) (by omega) ?_)
          refine L_op0 (X_storeOwnC (i := (n : Int).toNat * 256 + (k : Int).toNat * 1) (v := p_2) (u := .int .u8 (((x0 ^^^ y).toNat : Nat) : Int)) T5 hP2.1 (by show _ < ps.length * 256; omega) rfl rfl rfl ?_)
          intro w5 hO5 hu5
          have hz5 := hu5.size
          rw [show (n : Int).toNat * 256 + (k : Int).toNat * 1 = n.toNat * 256 + k.toNat by omega, show Value.int .u8 (((x0 ^^^ y).toNat : Nat) : Int) = byteV (x0 ^^^ y) from rfl, flip_cells hp0 hx0 (by omega) y] at hO5
          have hP5 : NOwn LP w5 33 5 s0 us0 p_2 (flipP ps n.toNat k.toNat y) := NOwn.of (fun _ => rfl) (hO5.eq (flipP_length _ _ _ _).symm rfl) hP2.2.1
          replace hC2 := NOwn.upd' (fun _ => rfl) hC2 hu5 fun b h1 h2 => absurd (hC2.1.types hP2.1 h1 h2) (by decide)
          replace hI2 := NOwn.upd' (fun _ => rfl) hI2 hu5 fun b h1 h2 => absurd (hI2.1.types hP2.1 h1 h2) (by decide)
          replace hp := hp.upd hu5 fun i h1 h2 h => by have h1_ := hP2.1.lt h; have h2_ := hP2.2.1 _ h; omega
          replace hc := hc.upd hu5 fun i h1 h2 h => by have h1_ := hP2.1.lt h; have h2_ := hP2.2.1 _ h; omega
          replace hb := hb.upd hu5 fun i h1 h2 h => by have h1_ := hP2.1.lt h; have h2_ := hP2.2.1 _ h; omega
          replace hU := hU.trans (hu5.mono fun i _ h => by have h1_ := hP2.1.lt h; have h2_ := hP2.2.1 _ h; show n0 ≤ i; omega)
          replace hB2 := hB2.upd hu5 fun h => by have h1_ := hP2.1.lt h; have h2_ := hP2.2.1 _ h; omega
          replace hB1 := hB1.upd hu5 fun h => by have h1_ := hP2.1.lt h; have h2_ := hP2.2.1 _ h; omega
          replace hP2 := hP5
          refine L_nil ?_
          refine T_n ?_
          refine W_seq ?_
          refine W_reg ?_
          refine L_op rfl (X_loadA (p := (ptr b1 (0))) (xs := [p_2, c_2, i_2, (.bool (off))]) A26 rfl hB1.atAll rfl ?_)
          refine L_op0 (X_storeW (b := b2) (ys := [p_2, c_2, i_2, (.bool (off))]) A26 rfl rfl (List.forall_mem_cons.2 ⟨(hP2.1.sv.one), (List.forall_mem_cons.2 ⟨(hC2.1.sv.one), (List.forall_mem_cons.2 ⟨(hI2.1.sv.one), (List.forall_mem_cons.2 ⟨rfl, (fun _ h => by cases h)⟩)⟩)⟩)⟩) rfl hB2 rfl ?_)
          intro w14 hu14 hb14
          have hz14 := hu14.size
          replace hp := hp.upd hu14 fun i h1 h2 h => by have h : i = b2 := h; omega
          replace hc := hc.upd hu14 fun i h1 h2 h => by have h : i = b2 := h; omega
          replace hb := hb.upd hu14 fun i h1 h2 h => by have h : i = b2 := h; omega
          replace hU := hU.trans (hu14.mono fun i _ h => by have h : i = b2 := h; show n0 ≤ i; omega)
          replace hB1 := hB1.upd hu14 fun h => by have h : b1 = b2 := h; omega
          replace hP2 := hP2.upd hu14 fun i h1 h2 h => by have h : i = b2 := h; omega
          replace hC2 := hC2.upd hu14 fun i h1 h2 h => by have h : i = b2 := h; omega
          replace hI2 := hI2.upd hu14 fun i h1 h2 h => by have h : i = b2 := h; omega
          replace hB2 : Blk w14 b2 #[p_2, c_2, i_2, (.bool (off))] 26 := hb14
          refine L_op rfl (X_assign (v := (.int .i64 (0))) rfl ?_)
          refine L_nil ?_
          refine T_n ?_
          refine W_ret ?_
          exact BQ_r (End_2 Try.results13 (RV_A A26 rfl hB2.atAll rfl) (v2 := .int .i64 0) rfl ⟨_, _, _, flipP ps n.toNat k.toNat y, 0, rfl, hP2.mono (by omega) (by omega), hC2.mono (by omega) (by omega), hI2.mono (by omega) (by omega), fun _ => ⟨rfl, rfl⟩, fun h => absurd ⟨by omega, by omega, by omega, by omega⟩ h, hU.own hn0⟩)

theorem c_detach (pv cv bv : Value) (ps : List Pg) (cs : List Wr) (bs : List Int) (off : Bool) (w : World) (lo up : Nat) (hup : up ≤ w.heap.size) (hp : NRd LP w lo up pv ps) (hc : NRd LW w lo up cv cs) (hb : NRd LI w lo up bv bs) (hpL : ps.length ≤ 1048576) (hcL : cs.length ≤ 1048576) (hbL : bs.length ≤ 1048576) : CT Try.prog 21 #[(.agg #[pv, cv, bv, (.bool (off))])] w fun v w' => ∃ p2 i2, v = .agg #[p2, .slice none 0 0, i2, .bool true] ∧ NOwn LP w' 33 5 w.heap.size w'.heap.size p2 ps ∧ NOwn LI w' 3 5 w.heap.size w'.heap.size i2 bs ∧ Ext w w' := by
  obtain ⟨n0, hn0⟩ : ∃ n, n = w.heap.size := ⟨_, rfl⟩
  have hU : Upd (fun i => n0 ≤ i) w w := Upd.refl _ _
  have hpl := hp.sv.len
  have hcl := hc.sv.len
  have hbl := hb.sv.len
  rw [← hn0] at hup
  refine CT_of Try.func21 rfl rfl rfl ?_
  refine W_seq ?_
  refine W_reg ?_
  refine L_op rfl (X_box (v := (.agg #[pv, cv, bv, (.bool (off))])) (c := ([pv, cv, bv, (.bool (off))]).toArray) rfl rfl ?_)
  intro b1 w1 hn1
  have hbn1 := hn1.num; have hbs1 := hn1.size
  replace hp := hp.ext hn1.ext
  replace hc := hc.ext hn1.ext
  replace hb := hb.ext hn1.ext
  replace hU := hU.trans (Ext.upd hn1.ext)
  have hB1 := hn1.blk
  refine L_op rfl (X_alloc (z := (.agg #[(.slice none 0 0), (.slice none 0 0), (.slice none 0 0), (.bool (false))])) (c := #[(.slice none 0 0), (.slice none 0 0), (.slice none 0 0), (.bool (false))]) Zv26 rfl ?_)
  intro b2 w2 hn2
  have hbn2 := hn2.num; have hbs2 := hn2.size
  replace hp := hp.ext hn2.ext
  replace hc := hc.ext hn2.ext
  replace hb := hb.ext hn2.ext
  replace hU := hU.trans (Ext.upd hn2.ext)
  replace hB1 := hB1.ext hn2.ext
  have hB2 := hn2.blk
  refine L_nil ?_
  refine T_n ?_
  refine W_seq ?_
  refine W_reg ?_
  refine L_op rfl (X_loadA (p := (ptr b1 (0))) (xs := [pv, cv, bv, (.bool (off))]) A26 rfl hB1.atAll rfl ?_)
  obtain ⟨s0, hs0⟩ : ∃ n, n = w2.heap.size := ⟨_, rfl⟩
  refine L_op rfl (X_fn (vs := [(.agg ([pv, cv, bv, (.bool (off))]).toArray)]) en25 rfl (CT.mono (c_own pv cv bv ps cs bs off _ lo up (by omega) hp hc hb hpL hcL hbL) ?_))
  rintro _ w3 ⟨p_2, c_2, i_2, rfl, hP2, hC2, hI2, hu3⟩
  have hz3 := hu3.size
  rw [← hs0] at hP2 hC2 hI2
  obtain ⟨us0, hus0_⟩ : ∃ n, n = w3.heap.size := ⟨_, rfl⟩
  rw [← hus0_] at hP2 hC2 hI2
  replace hp := hp.ext hu3
  replace hc := hc.ext hu3
  replace hb := hb.ext hu3
  replace hU := hU.trans (Ext.upd hu3)
  replace hB1 := hB1.ext hu3
  replace hB2 := hB2.ext hu3
  refine L_op0 (X_storeW (b := b1) (ys := [p_2, c_2, i_2, (.bool (off))]) A26 rfl rfl (List.forall_mem_cons.2 ⟨(hP2.1.sv.one), (List.forall_mem_cons.2 ⟨(hC2.1.sv.one), (List.forall_mem_cons.2 ⟨(hI2.1.sv.one), (List.forall_mem_cons.2 ⟨rfl, (fun _ h => by cases h)⟩)⟩)⟩)⟩) rfl hB1 rfl ?_)
  intro w4 hu4 hb4
  have hz4 := hu4.size
  replace hp := hp.upd hu4 fun i h1 h2 h => by have h : i = b1 := h; omega
  replace hc := hc.upd hu4 fun i h1 h2 h => by have h : i = b1 := h; omega
  replace hb := hb.upd hu4 fun i h1 h2 h => by have h : i = b1 := h; omega
  replace hU := hU.trans (hu4.mono fun i _ h => by have h : i = b1 := h; show n0 ≤ i; omega)
  replace hB2 := hB2.upd hu4 fun h => by have h : b2 = b1 := h; omega
  replace hP2 := hP2.upd hu4 fun i h1 h2 h => by have h : i = b1 := h; omega
  replace hC2 := hC2.upd hu4 fun i h1 h2 h => by have h : i = b1 := h; omega
  replace hI2 := hI2.upd hu4 fun i h1 h2 h => by have h : i = b1 := h; omega
  replace hB1 : Blk w4 b1 #[p_2, c_2, i_2, (.bool (off))] 26 := hb4
  refine L_nil ?_
  refine T_n ?_
  refine W_seq ?_
  refine W_reg ?_
  refine L_op rfl (X_fldP (b := b1) (o := 0) (r := 3) Fd26_3 rfl rfl ?_)
  refine L_op0 (X_store (b := b1) (o := 3) T4 rfl rfl rfl hB1 (by show (3 : Nat) < 4; decide) ?_)
  intro w5 hu5 hb5
  have hz5 := hu5.size
  replace hp := hp.upd hu5 fun i h1 h2 h => by have h : i = b1 := h; omega
  replace hc := hc.upd hu5 fun i h1 h2 h => by have h : i = b1 := h; omega
  replace hb := hb.upd hu5 fun i h1 h2 h => by have h : i = b1 := h; omega
  replace hU := hU.trans (hu5.mono fun i _ h => by have h : i = b1 := h; show n0 ≤ i; omega)
  replace hB2 := hB2.upd hu5 fun h => by have h : b2 = b1 := h; omega
  replace hP2 := hP2.upd hu5 fun i h1 h2 h => by have h : i = b1 := h; omega
  replace hC2 := hC2.upd hu5 fun i h1 h2 h => by have h : i = b1 := h; omega
  replace hI2 := hI2.upd hu5 fun i h1 h2 h => by have h : i = b1 := h; omega
  replace hB1 : Blk w5 b1 #[p_2, c_2, i_2, (.bool (true))] 26 := hb5
  refine L_op rfl (X_fldP (b := b1) (o := 0) (r := 1) Fd26_1 rfl rfl ?_)
  refine L_op0 (X_store (b := b1) (o := 1) T23 rfl rfl rfl hB1 (by show (1 : Nat) < 4; decide) ?_)
  intro w6 hu6 hb6
  have hz6 := hu6.size
  replace hp := hp.upd hu6 fun i h1 h2 h => by have h : i = b1 := h; omega
  replace hc := hc.upd hu6 fun i h1 h2 h => by have h : i = b1 := h; omega
  replace hb := hb.upd hu6 fun i h1 h2 h => by have h : i = b1 := h; omega
  replace hU := hU.trans (hu6.mono fun i _ h => by have h : i = b1 := h; show n0 ≤ i; omega)
  replace hB2 := hB2.upd hu6 fun h => by have h : b2 = b1 := h; omega
  replace hP2 := hP2.upd hu6 fun i h1 h2 h => by have h : i = b1 := h; omega
  replace hC2 := hC2.upd hu6 fun i h1 h2 h => by have h : i = b1 := h; omega
  replace hI2 := hI2.upd hu6 fun i h1 h2 h => by have h : i = b1 := h; omega
  replace hB1 : Blk w6 b1 #[p_2, (.slice none 0 0), i_2, (.bool (true))] 26 := hb6
  refine L_nil ?_
  refine T_n ?_
  refine W_seq ?_
  refine W_reg ?_
  refine L_op rfl (X_loadA (p := (ptr b1 (0))) (xs := [p_2, (.slice none 0 0), i_2, (.bool (true))]) A26 rfl hB1.atAll rfl ?_)
  refine L_op0 (X_storeW (b := b2) (ys := [p_2, (.slice none 0 0), i_2, (.bool (true))]) A26 rfl rfl (List.forall_mem_cons.2 ⟨(hP2.1.sv.one), (List.forall_mem_cons.2 ⟨rfl, (List.forall_mem_cons.2 ⟨(hI2.1.sv.one), (List.forall_mem_cons.2 ⟨rfl, (fun _ h => by cases h)⟩)⟩)⟩)⟩) rfl hB2 rfl ?_)
  intro w7 hu7 hb7
  have hz7 := hu7.size
  replace hp := hp.upd hu7 fun i h1 h2 h => by have h : i = b2 := h; omega
  replace hc := hc.upd hu7 fun i h1 h2 h => by have h : i = b2 := h; omega
  replace hb := hb.upd hu7 fun i h1 h2 h => by have h : i = b2 := h; omega
  replace hU := hU.trans (hu7.mono fun i _ h => by have h : i = b2 := h; show n0 ≤ i; omega)
  replace hP2 := hP2.upd hu7 fun i h1 h2 h => by have h : i = b2 := h; omega
  replace hC2 := hC2.upd hu7 fun i h1 h2 h => by have h : i = b2 := h; omega
  replace hI2 := hI2.upd hu7 fun i h1 h2 h => by have h : i = b2 := h; omega
  replace hB1 := hB1.upd hu7 fun h => by have h : b1 = b2 := h; omega
  replace hB2 : Blk w7 b2 #[p_2, (.slice none 0 0), i_2, (.bool (true))] 26 := hb7
  refine L_nil ?_
  refine T_n ?_
  refine W_ret ?_
  exact BQ_r (End_1 Try.results21 (RV_A A26 rfl hB2.atAll rfl) ⟨_, _, rfl, hP2.mono (by omega) (by omega), hI2.mono (by omega) (by omega), hU.own hn0⟩)

def pkN (l : List UInt8) (i : Nat) : Nat := if i < l.length then (l.getD i 0).toNat % 3 else 0
theorem pkN_in {l : List UInt8} {i : Nat} {x : UInt8} (h : l[i]? = some x) : pkN l i = x.toNat % 3 := by
  unfold pkN
  rw [if_pos (List.getElem?_eq_some_iff.1 h).1, List.getD_eq_getElem?_getD, h]; rfl
theorem pkN_out {l : List UInt8} {i : Nat} (h : l.length ≤ i) : pkN l i = 0 := if_neg (by omega)
def pickX (cs : List Wr) (l : List UInt8) : List (List Value) := (List.range cs.length).map fun i => [.int .u8 ((pkN l i : Nat) : Int), wrV (cs.getD i wZ)]
theorem pickX_length (cs : List Wr) (l : List UInt8) : (pickX cs l).length = cs.length := by unfold pickX; rw [List.length_map, List.length_range]
theorem pickX_at {cs : List Wr} {l : List UInt8} {k : Nat} (hk : k < cs.length) : (pickX cs l)[k]? = some [.int .u8 ((pkN l k : Nat) : Int), wrV (cs.getD k wZ)] := by
  unfold pickX
  rw [List.getElem?_map, List.getElem?_range hk]; rfl
def AP (x1 x2 : Nat) (cv lv : Value) (cs : List Wr) (ls : List UInt8) (W : World) : Prop := Blk W x1 #[cv] 23 ∧ Blk W x2 #[lv] 27 ∧ Rd W 257 cv cs.length (cs.flatMap LW.cel) ∧ Rd W 1 lv ls.length (ls.map byteV)

theorem c_picked (cv lv : Value) (cs : List Wr) (ls : List UInt8) (w : World) (hc : Rd w 257 cv cs.length (cs.flatMap LW.cel)) (hl : Rd w 1 lv ls.length (ls.map byteV)) : CT Try.prog 26 #[cv, lv] w fun v w' => v = .func (.func 40) #[] #[ptr w.heap.size 0, ptr (w.heap.size + 1) 0] ∧ Blk w' w.heap.size #[cv] 23 ∧ Blk w' (w.heap.size + 1) #[lv] 27 ∧ Ext w w' ∧ w'.heap.size = w.heap.size + 2 := by
  obtain ⟨n0, hn0⟩ : ∃ n, n = w.heap.size := ⟨_, rfl⟩
  have hU : Upd (fun i => n0 ≤ i) w w := Upd.refl _ _
  refine CT_of Try.func26 rfl rfl rfl ?_
  refine W_seq ?_
  refine W_reg ?_
  refine L_op rfl (X_box (v := cv) (c := #[cv]) rfl (hc.sv.cells) ?_)
  intro b1 w1 hn1
  have hbn1 := hn1.num; have hbs1 := hn1.size
  replace hU := hU.trans (Ext.upd hn1.ext)
  have hB1 := hn1.blk
  refine L_op rfl (X_box (v := lv) (c := #[lv]) rfl (hl.sv.cells) ?_)
  intro b2 w2 hn2
  have hbn2 := hn2.num; have hbs2 := hn2.size
  replace hU := hU.trans (Ext.upd hn2.ext)
  replace hB1 := hB1.ext hn2.ext
  have hB2 := hn2.blk
  refine L_op rfl (X_assign (v := .nilFunc) rfl ?_)
  refine L_nil ?_
  refine T_n ?_
  refine W_seq ?_
  refine W_reg ?_
  refine L_op rfl (X_makeFunc (vs := [ptr b1 0, ptr b2 0]) rfl ?_)
  refine L_op rfl (X_assign (v := (.func (.func 40) #[] #[ptr b1 0, ptr b2 0])) rfl ?_)
  refine L_nil ?_
  refine T_n ?_
  refine W_ret ?_
  have e2 : b2 = w.heap.size + 1 := by omega
  exact BQ_r (End_1 Try.results26 (v := .func (.func 40) #[] #[ptr b1 0, ptr b2 0]) rfl ⟨by rw [hbn1, e2], hbn1 ▸ hB1, e2 ▸ hB2, hU.own hn0, by omega⟩)

theorem c_picked1 (cv lv : Value) (cs : List Wr) (ls : List UInt8) (x1 x2 : Nat) : IterJ Try.prog 40 [ptr x1 0, ptr x2 0] (pickX cs ls) (AP x1 x2 cv lv cs ls) (fun _ => False) := by
  intro lp J Jx W hA hJs hJxs hy hJ0
  obtain ⟨hX1, hX2, hC, hL⟩ := hA 0 _ hJ0
  have hcsv := hC.sv
  have hlsv := hL.sv
  have hmx := hC.sv.len
  have hmx2 := hL.sv.len
  show CT Try.prog 40 #[.func (.yield lp) #[] #[], ptr x1 0, ptr x2 0] W _
  refine CT_of Try.func40 rfl rfl rfl ?_
  refine W_seq ?_
  refine W_reg ?_
  refine L_op rfl (X_load (p := (ptr x1 (0))) (v := cv) T23 rfl (hX1.at1 rfl) ?_)
  refine L_op rfl (X_len (v := cv) (n := cs.length) Try.underlying23 rfl hcsv ?_)
  refine L_op rfl (X_move (v := (.int .i64 (0))) rfl ?_)
  refine L_nil ?_
  refine T_n ?_
  refine W_block ?_
  refine W_loop (α := Nat) [4, 5, 6, 9, 10, 11, 12, 13, 14, 15, 16, 17, 18, 19, 20, 21, 22, 23, 24, 25, 26, 27, 28] (fun k => [(9, (.int .i64 (((k : Nat) : Int))))]) (fun k w_ => k ≤ cs.length ∧ J k w_) (fun k => cs.length - k) ⟨rfl, 0, ⟨Nat.zero_le _, hJ0⟩, Out.refl _ _, ⟨rfl, trivial⟩⟩ ?_
  rintro k w1 _ ⟨hkl, hJ⟩
  obtain ⟨hX1, hX2, hC, hL⟩ := hA k _ hJ
  obtain ⟨nk, hnk⟩ : ∃ n, n = w1.heap.size := ⟨_, rfl⟩
  have hCn : NRd LW w1 0 nk cv cs := NRd.of (fun _ => rfl) hC fun b hb => ⟨Nat.zero_le _, by rw [hnk]; exact hC.bound (by decide) hb⟩
  have hLb : ∀ i, rbk lv = some i → i < nk := by rw [hnk]; exact fun i hi => hL.bound (by decide) hi
  have hx1 := hX1.lt; have hx2 := hX2.lt
  have hE := Upd.refl (fun _ => False) w1
  refine W_seq ?_
  refine W_reg ?_
  by_cases hc2 : (((k : Nat) : Int) : Int) < (((cs.length : Nat) : Int))
  · refine L_op rfl (X_cmp (k := .i64) (a := ((k : Nat) : Int)) (b := ((cs.length : Nat) : Int)) (r := true) rfl rfl rfl (decide_eq_true (p := ((((k : Nat) : Int)) : Int) < ((((cs.length : Nat) : Int)) : Int)) (by omega)) ?_)
    have hk : k < cs.length := by omega
    refine L_nil ?_
    refine T_n ?_
    refine W_seq ?_
    refine W_ct rfl ?_
    refine W_skip ?_
    refine T_n ?_
    refine W_seq ?_
    refine W_block ?_
    refine W_seq ?_
    refine W_reg ?_
    refine L_op rfl (X_move (v := (.int .i64 (((k : Nat) : Int)))) rfl ?_)
    refine L_op rfl (X_idx (v := cv) (n := cs.length) (k := .i64) (i := ((k : Nat) : Int)) S23 rfl hcsv rfl (by omega) (by omega) ?_)
    have hce : cs[k]? = some (cs.getD k wZ) := wgetD (by omega)
    refine L_op rfl (X_loadA (xs := LW.cel (cs.getD k wZ)) A35 rfl (wall hCn (Int.toNat_natCast _) hce) (LW.len _) ?_)
    refine L_op rfl (X_alloc (z := zv35) (c := zc35.toArray) Zv35 rfl ?_)
    intro b3 w3 hn3
    have hbn3 := hn3.num; have hbs3 := hn3.size
    replace hX1 := hX1.ext hn3.ext
    replace hX2 := hX2.ext hn3.ext
    replace hCn := hCn.ext hn3.ext
    replace hL := hL.ext hn3.ext
    replace hE := hE.trans hn3.ext
    have hB3 := hn3.blk
    refine L_op rfl (X_assign (v := (.int .i64 (((k : Nat) : Int)))) rfl ?_)
    refine L_op0 (X_storeW (b := b3) (ys := LW.cel (cs.getD k wZ)) A35 rfl rfl (LW.one (cs.getD k wZ) (fun _ h => by cases h)) (LW.len (cs.getD k wZ)) hB3 zc35_size ?_)
    intro w4 hu4 hb4
    have hz4 := hu4.size
    replace hX1 := hX1.upd hu4 fun h => by have h : x1 = b3 := h; omega
    replace hX2 := hX2.upd hu4 fun h => by have h : x2 = b3 := h; omega
    replace hCn := hCn.upd hu4 fun i h1 h2 h => by have h : i = b3 := h; omega
    replace hL := hL.upd hu4 fun i hi h => by have hi := hLb _ hi; have h : i = b3 := h; omega
    replace hE := hE.comp hu4 (fun _ _ h => h) fun i hi h => by have h : i = b3 := h; omega
    replace hB3 := hb4
    refine L_nil ?_
    refine T_n ?_
    refine W_seq ?_
    refine W_reg ?_
    refine L_op rfl (X_assign (v := (.int .u8 (0))) rfl ?_)
    refine L_nil ?_
    refine T_n ?_
    refine W_seq ?_
    refine W_seq ?_
    refine W_reg ?_
    refine L_op rfl (X_move (v := (.int .i64 (((k : Nat) : Int)))) rfl ?_)
    refine L_op rfl (X_load (p := (ptr x2 (0))) (v := lv) T27 rfl (hX2.at1 rfl) ?_)
    refine L_op rfl (X_len (v := lv) (n := ls.length) Try.underlying27 rfl hlsv ?_)
    by_cases hc5 : (((k : Nat) : Int) : Int) < (((ls.length : Nat) : Int))
    · refine L_op rfl (X_cmp (k := .i64) (a := ((k : Nat) : Int)) (b := ((ls.length : Nat) : Int)) (r := true) rfl rfl rfl (decide_eq_true (p := ((((k : Nat) : Int)) : Int) < ((((ls.length : Nat) : Int)) : Int)) (by omega)) ?_)
      refine L_nil ?_
      refine T_n ?_
      refine W_ct rfl ?_
      refine W_reg ?_
      refine L_op rfl (X_load (p := (ptr x2 (0))) (v := lv) T27 rfl (hX2.at1 rfl) ?_)
      refine L_op rfl (X_move (v := (.int .i64 (((k : Nat) : Int)))) rfl ?_)
      refine L_op rfl (X_idx (v := lv) (n := ls.length) (k := .i64) (i := ((k : Nat) : Int)) S27 rfl hlsv rfl (by omega) (by omega) ?_)
      obtain ⟨x0, hx0⟩ : ∃ x, ls[k]? = some x := ⟨_, List.getElem?_eq_getElem (by omega)⟩
      have hpk := pkN_in hx0
      refine L_op rfl (X_load (v := .int .u8 ((x0.toNat : Nat) : Int)) T5 rfl (hL.cell (by rw [show (((k : Nat) : Int).toNat * 1) = k by omega, List.getElem?_map, hx0]; rfl)) ?_)
      refine L_op rfl (X_arith (k := .u8) (a := ((x0.toNat : Nat) : Int)) (b := 3) (r := ((x0.toNat % 3 : Nat) : Int)) rfl rfl rfl (u8_rem x0 3) ?_)
      refine L_op rfl (X_assign (v := (.int .u8 (((x0.toNat % 3 : Nat) : Int)))) rfl ?_)
      refine L_nil ?_
      refine T_n ?_
      refine W_seq ?_
      refine W_reg ?_
      refine L_op rfl (X_move (v := (.func (.yield lp) #[] #[])) rfl ?_)
      refine L_op rfl (X_move (v := (.int .u8 (((x0.toNat % 3 : Nat) : Int)))) rfl ?_)
      refine L_op rfl (X_loadA (p := (ptr b3 (0))) (xs := LW.cel (cs.getD k wZ)) A35 rfl hB3.atAll (LW.len _) ?_)
      have hJ2_ := hJs _ _ _ hJ hE
      refine L_op rfl (X_yield (vs := [(.int .u8 (((x0.toNat % 3 : Nat) : Int))), wrV (cs.getD k wZ)]) rfl rfl (YieldC.mono (hy k _ _ (by rw [pickX_at hk, hpk] <;> rfl) hJ2_) ?_))
      rintro _ W2 (⟨rfl, hJ2⟩ | ⟨rfl, hJx⟩)
      · refine L_op rfl (X_not (b := true) (r := false) rfl rfl ?_)
        refine L_nil ?_
        refine T_n ?_
        refine W_cf rfl ?_
        refine W_skip ?_
        refine B_n ?_
        refine T_n ?_
        refine W_reg ?_
        refine L_op rfl (X_arith (k := .i64) (a := ((k : Nat) : Int)) (b := 1) (r := ((k + 1 : Nat) : Int)) rfl rfl rfl (iadd64 (by omega) (by omega) (by omega)) ?_)
        refine L_op rfl (X_move (v := (.int .i64 (((k + 1 : Nat) : Int)))) rfl ?_)
        refine L_nil ?_
        refine T_n ?_
        exact ⟨rfl, k + 1, ⟨⟨hk, hJ2⟩, (by show cs.length - (k + 1) < cs.length - k; omega)⟩, (Out.mk rfl), ⟨rfl, trivial⟩⟩
      · refine L_op rfl (X_not (b := false) (r := true) rfl rfl ?_)
        refine L_nil ?_
        refine T_n ?_
        refine W_ct rfl ?_
        refine W_ret ?_
        refine B_r ?_
        refine T_r ?_
        refine T_r ?_
        refine B_r ?_
        exact BQ_r (End_0 Try.results40 (.inr ⟨k, by rw [pickX_length]; omega, hJx⟩))
    · refine L_op rfl (X_cmp (k := .i64) (a := ((k : Nat) : Int)) (b := ((ls.length : Nat) : Int)) (r := false) rfl rfl rfl (decide_eq_false (p := ((((k : Nat) : Int)) : Int) < ((((ls.length : Nat) : Int)) : Int)) (by omega)) ?_)
      have hpk := pkN_out (l := ls) (i := k) (by omega)
      refine L_nil ?_
      refine T_n ?_
      refine W_cf rfl ?_
      refine W_skip ?_
      refine T_n ?_
      refine W_seq ?_
      refine W_reg ?_
      refine L_op rfl (X_move (v := (.func (.yield lp) #[] #[])) rfl ?_)
      refine L_op rfl (X_move (v := (.int .u8 (0))) rfl ?_)
      refine L_op rfl (X_loadA (p := (ptr b3 (0))) (xs := LW.cel (cs.getD k wZ)) A35 rfl hB3.atAll (LW.len _) ?_)
      have hJ2_ := hJs _ _ _ hJ hE
      refine L_op rfl (X_yield (vs := [(.int .u8 (0)), wrV (cs.getD k wZ)]) rfl rfl (YieldC.mono (hy k _ _ (by rw [pickX_at hk, hpk] <;> rfl) hJ2_) ?_))
      rintro _ W2 (⟨rfl, hJ2⟩ | ⟨rfl, hJx⟩)
      · refine L_op rfl (X_not (b := true) (r := false) rfl rfl ?_)
        refine L_nil ?_
        refine T_n ?_
        refine W_cf rfl ?_
        refine W_skip ?_
        refine B_n ?_
        refine T_n ?_
        refine W_reg ?_
        refine L_op rfl (X_arith (k := .i64) (a := ((k : Nat) : Int)) (b := 1) (r := ((k + 1 : Nat) : Int)) rfl rfl rfl (iadd64 (by omega) (by omega) (by omega)) ?_)
        refine L_op rfl (X_move (v := (.int .i64 (((k + 1 : Nat) : Int)))) rfl ?_)
        refine L_nil ?_
        refine T_n ?_
        exact ⟨rfl, k + 1, ⟨⟨hk, hJ2⟩, (by show cs.length - (k + 1) < cs.length - k; omega)⟩, (Out.mk rfl), ⟨rfl, trivial⟩⟩
      · refine L_op rfl (X_not (b := false) (r := true) rfl rfl ?_)
        refine L_nil ?_
        refine T_n ?_
        refine W_ct rfl ?_
        refine W_ret ?_
        refine B_r ?_
        refine T_r ?_
        refine T_r ?_
        refine B_r ?_
        exact BQ_r (End_0 Try.results40 (.inr ⟨k, by rw [pickX_length]; omega, hJx⟩))
  · refine L_op rfl (X_cmp (k := .i64) (a := ((k : Nat) : Int)) (b := ((cs.length : Nat) : Int)) (r := false) rfl rfl rfl (decide_eq_false (p := ((((k : Nat) : Int)) : Int) < ((((cs.length : Nat) : Int)) : Int)) (by omega)) ?_)
    refine L_nil ?_
    refine T_n ?_
    refine W_seq ?_
    refine W_cf rfl ?_
    refine W_exit ?_
    refine T_e ?_
    refine T_e ?_
    refine B_x ?_
    obtain rfl : k = cs.length := by omega
    exact BQ_n (End_0 Try.results40 (.inl (by rw [pickX_length]; exact hJ)))
end Go.Proofs.Ytfmgjkchhajpmaa
