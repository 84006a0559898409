/-
  More contracts of chapter 03: disks that are the same. (Printed by wip/gen/t03j.py of this repo.)
-/
import Derived.Test.YthongcaijgfojaaBack
import Derived.Test.YthongcaijgfojaaBaseR
namespace Go.Proofs.Ythongcaijgfojaa
open Go Go.SL Go.Proofs
set_option linter.unusedVariables false

theorem take_same {α : Type} {l m : List α} {i : Nat} {a b : α} (ha : l[i]? = some a) (hb : m[i]? = some b) (h : l.take i = m.take i) (he : a = b) : l.take (i + 1) = m.take (i + 1) := by
  rw [List.take_add_one, List.take_add_one, ha, hb, h, he]
theorem not_same {α : Type} {l m : List α} {i : Nat} {a b : α} (ha : l[i]? = some a) (hb : m[i]? = some b) (he : a ≠ b) : l ≠ m := fun h => by
  rw [h, hb] at ha; cases ha; exact he rfl
theorem take_eq {α : Type} {l m : List α} {i : Nat} (h : l.take i = m.take i) (h1 : l.length ≤ i) (h2 : m.length ≤ i) : l = m := by
  rwa [List.take_of_length_le h1, List.take_of_length_le h2] at h

theorem c_ints (u s : Value) (as_ bs : List Int) (w : World) (lo up lo2 up2 : Nat) (ha : NRd LI w lo up u as_) (hb : NRd LI w lo2 up2 s bs) : CT Try.prog 24 #[u, s] w fun v w' => (∃ g, v = .bool g ∧ (g = true ↔ as_ = bs)) ∧ Ext w w' := by
  obtain ⟨n0, hn0⟩ : ∃ n, n = w.heap.size := ⟨_, rfl⟩
  have hU : Upd (fun i => n0 ≤ i) w w := Upd.refl _ _
  have hal := ha.sv.len
  have hbl := hb.sv.len
  refine CT_of Try.func24 rfl rfl rfl ?_
  refine W_seq ?_
  refine W_reg ?_
  refine L_op rfl (X_assign (v := (.bool (false))) rfl ?_)
  refine L_nil ?_
  refine T_n ?_
  refine W_seq ?_
  refine W_seq ?_
  refine W_reg ?_
  refine L_op rfl (X_move (v := u) rfl ?_)
  refine L_op rfl (X_len (v := u) (n := as_.length) Try.underlying24 rfl ha.sv ?_)
  refine L_op rfl (X_move (v := s) rfl ?_)
  refine L_op rfl (X_len (v := s) (n := bs.length) Try.underlying24 rfl hb.sv ?_)
  by_cases hc1 : (((as_.length : Nat) : Int) : Int) ≠ (((bs.length : Nat) : Int))
  · refine L_op rfl (X_cmp (k := .i64) (a := ((as_.length : Nat) : Int)) (b := ((bs.length : Nat) : Int)) (r := true) rfl rfl rfl (decide_eq_true (p := ((((as_.length : Nat) : Int)) : Int) ≠ ((((bs.length : Nat) : Int)) : Int)) (by omega)) ?_)
    refine L_nil ?_
    refine T_n ?_
    refine W_ct rfl ?_
    refine W_seq ?_
    refine W_reg ?_
    refine L_op rfl (X_assign (v := (.bool (false))) rfl ?_)
    refine L_nil ?_
    refine T_n ?_
    refine W_ret ?_
    refine T_r ?_
    exact BQ_r (End_1 Try.results24 (v := .bool false) rfl ⟨⟨false, rfl, ⟨fun h => (by cases h), fun h => (by have h1 := congrArg List.length h; omega)⟩⟩, hU.own hn0⟩)
  · refine L_op rfl (X_cmp (k := .i64) (a := ((as_.length : Nat) : Int)) (b := ((bs.length : Nat) : Int)) (r := false) rfl rfl rfl (decide_eq_false (p := ((((as_.length : Nat) : Int)) : Int) ≠ ((((bs.length : Nat) : Int)) : Int)) (by omega)) ?_)
    refine L_nil ?_
    refine T_n ?_
    refine W_cf rfl ?_
    refine W_skip ?_
    refine T_n ?_
    refine W_seq ?_
    refine W_seq ?_
    refine W_reg ?_
    refine L_op rfl (X_assign (v := (.int .i64 (0))) rfl ?_)
    refine L_nil ?_
    refine T_n ?_
    refine W_block ?_
    refine W_loop (α := Nat) [4, 5, 11, 12, 13, 14, 15, 16, 17, 18, 19, 20, 21, 22, 23, 24, 25] (fun i => [(5, (.int .i64 (((i : Nat) : Int))))]) (fun i w_ => i ≤ as_.length ∧ NRd LI w_ lo up u as_ ∧ NRd LI w_ lo2 up2 s bs ∧ Upd (fun i => n0 ≤ i) w w_ ∧ as_.take i = bs.take i) (fun i => as_.length - i) ⟨rfl, 0, ⟨Nat.zero_le _, ha, hb, hU, rfl⟩, Out.refl _ _, ⟨rfl, trivial⟩⟩ ?_
    rintro i w2 _ ⟨hil, ha, hb, hU, hz⟩
    refine W_seq ?_
    refine W_seq ?_
    refine W_reg ?_
    refine L_op rfl (X_move (v := (.int .i64 (((i : Nat) : Int)))) rfl ?_)
    refine L_op rfl (X_move (v := u) rfl ?_)
    refine L_op rfl (X_len (v := u) (n := as_.length) Try.underlying24 rfl ha.sv ?_)
    by_cases hc3 : (((i : Nat) : Int) : Int) < (((as_.length : Nat) : Int))
    · refine L_op rfl (X_cmp (k := .i64) (a := ((i : Nat) : Int)) (b := ((as_.length : Nat) : Int)) (r := true) rfl rfl rfl (decide_eq_true (p := ((((i : Nat) : Int)) : Int) < ((((as_.length : Nat) : Int)) : Int)) (by omega)) ?_)
      have hi : i < as_.length := by omega
      obtain ⟨a, hai⟩ : ∃ a, as_[i]? = some a := ⟨_, List.getElem?_eq_getElem hi⟩
      obtain ⟨b, hbi⟩ : ∃ b, bs[i]? = some b := ⟨_, List.getElem?_eq_getElem (by omega)⟩
      refine L_nil ?_
      refine T_n ?_
      refine W_ct rfl ?_
      refine W_skip ?_
      refine T_n ?_
      refine W_seq ?_
      refine W_block ?_
      refine W_seq ?_
      rcases Bool.eq_false_or_eq_true (decide (a = b)) with hs4 | hs4
      · refine W_draw 8 [[], [], [0, 1], [0, 1, 2], [], [], [4, 5], [4, 5, 6], [0, 1, 2, 3, 4, 5, 6, 7]] mixed (by kernel_rfl) ?_
        refine ⟨.det (fun val => u), ⟨fun _ _ hv => rfl, fun _ _ _ _ _ => trivial⟩, fun val h_ W hx he => ⟨trivial, ?_⟩, ?_⟩
        · replace hx := (Upd.drew _ _).trans hx
          replace ha := ha.ext hx
          replace hb := hb.ext hx
          have hE := Upd.refl (fun _ => False) W
          refine id (X_move (v := u) rfl ?_)
          exact ⟨hE, rfl⟩
        refine ⟨.det (fun val => (.int .i64 (((i : Nat) : Int)))), ⟨fun _ _ hv => rfl, fun _ _ _ _ _ => trivial⟩, fun val h_ W hx he => ⟨trivial, ?_⟩, ?_⟩
        · replace hx := (Upd.drew _ _).trans hx
          replace ha := ha.ext hx
          replace hb := hb.ext hx
          have hE := Upd.refl (fun _ => False) W
          refine id (X_move (v := (.int .i64 (((i : Nat) : Int)))) rfl ?_)
          exact ⟨hE, rfl⟩
        refine ⟨.det (fun val => (pof u ((((i : Nat) : Int) : Int).toNat * 1))), ⟨fun _ _ hv => rfl, fun _ _ _ _ _ => trivial⟩, fun val h_ W hx he => ⟨trivial, ?_⟩, ?_⟩
        · replace hx := (Upd.drew _ _).trans hx
          replace ha := ha.ext hx
          replace hb := hb.ext hx
          have hE := Upd.refl (fun _ => False) W
          refine id (X_idx (v := u) (n := as_.length) (k := .i64) (i := ((i : Nat) : Int)) S24 rfl ha.sv rfl (by omega) (by omega) ?_)
          exact ⟨hE, rfl⟩
        refine ⟨.det (fun val => (.int .i64 (a))), ⟨fun _ _ hv => rfl, fun _ _ _ _ _ => trivial⟩, fun val h_ W hx he => ⟨trivial, ?_⟩, ?_⟩
        · replace hx := (Upd.drew _ _).trans hx
          replace ha := ha.ext hx
          replace hb := hb.ext hx
          have hE := Upd.refl (fun _ => False) W
          refine id (X_load (v := .int .i64 a) T3 rfl (iat ha (Int.toNat_natCast _) hai) ?_)
          exact ⟨hE, rfl⟩
        refine ⟨.det (fun val => s), ⟨fun _ _ hv => rfl, fun _ _ _ _ _ => trivial⟩, fun val h_ W hx he => ⟨trivial, ?_⟩, ?_⟩
        · replace hx := (Upd.drew _ _).trans hx
          replace ha := ha.ext hx
          replace hb := hb.ext hx
          have hE := Upd.refl (fun _ => False) W
          refine id (X_move (v := s) rfl ?_)
          exact ⟨hE, rfl⟩
        refine ⟨.det (fun val => (.int .i64 (((i : Nat) : Int)))), ⟨fun _ _ hv => rfl, fun _ _ _ _ _ => trivial⟩, fun val h_ W hx he => ⟨trivial, ?_⟩, ?_⟩
        · replace hx := (Upd.drew _ _).trans hx
          replace ha := ha.ext hx
          replace hb := hb.ext hx
          have hE := Upd.refl (fun _ => False) W
          refine id (X_move (v := (.int .i64 (((i : Nat) : Int)))) rfl ?_)
          exact ⟨hE, rfl⟩
        refine ⟨.det (fun val => (pof s ((((i : Nat) : Int) : Int).toNat * 1))), ⟨fun _ _ hv => rfl, fun _ _ _ _ _ => trivial⟩, fun val h_ W hx he => ⟨trivial, ?_⟩, ?_⟩
        · replace hx := (Upd.drew _ _).trans hx
          replace ha := ha.ext hx
          replace hb := hb.ext hx
          have hE := Upd.refl (fun _ => False) W
          refine id (X_idx (v := s) (n := bs.length) (k := .i64) (i := ((i : Nat) : Int)) S24 rfl hb.sv rfl (by omega) (by omega) ?_)
          exact ⟨hE, rfl⟩
        refine ⟨.det (fun val => (.int .i64 (b))), ⟨fun _ _ hv => rfl, fun _ _ _ _ _ => trivial⟩, fun val h_ W hx he => ⟨trivial, ?_⟩, ?_⟩
        · replace hx := (Upd.drew _ _).trans hx
          replace ha := ha.ext hx
          replace hb := hb.ext hx
          have hE := Upd.refl (fun _ => False) W
          refine id (X_load (v := .int .i64 b) T3 rfl (iat hb (Int.toNat_natCast _) hbi) ?_)
          exact ⟨hE, rfl⟩
        intro val W5 hx5 he5
        replace hx5 := (Upd.drew _ _).trans hx5
        have hz5 := hx5.size
        replace ha := ha.ext hx5
        replace hb := hb.ext hx5
        replace hU := hU.trans (Ext.upd hx5)
        refine L_op rfl (X_cmp (k := .i64) (a := a) (b := b) (r := false) rfl rfl rfl (decide_eq_false (fun h_ => h_ (of_decide_eq_true hs4))) ?_)
        refine L_nil ?_
        refine T_n ?_
        refine W_cf rfl ?_
        refine W_skip ?_
        refine B_n ?_
        refine T_n ?_
        refine W_reg ?_
        refine L_op rfl (X_move (v := (.int .i64 (((i : Nat) : Int)))) rfl ?_)
        refine L_op rfl (X_arith (k := .i64) (a := ((i : Nat) : Int)) (b := 1) (r := ((i + 1 : Nat) : Int)) rfl rfl rfl (iadd64 (by omega) (by omega) (by omega)) ?_)
        refine L_op rfl (X_assign (v := (.int .i64 (((i + 1 : Nat) : Int)))) rfl ?_)
        refine L_nil ?_
        refine T_n ?_
        exact ⟨rfl, i + 1, ⟨⟨hi, ha, hb, hU, take_same hai hbi hz (of_decide_eq_true hs4)⟩, (by show as_.length - (i + 1) < as_.length - i; omega)⟩, (Out.mk rfl), ⟨rfl, trivial⟩⟩
      · refine W_draw 8 [[], [], [0, 1], [0, 1, 2], [], [], [4, 5], [4, 5, 6], [0, 1, 2, 3, 4, 5, 6, 7]] mixed (by kernel_rfl) ?_
        refine ⟨.det (fun val => u), ⟨fun _ _ hv => rfl, fun _ _ _ _ _ => trivial⟩, fun val h_ W hx he => ⟨trivial, ?_⟩, ?_⟩
        · replace hx := (Upd.drew _ _).trans hx
          replace ha := ha.ext hx
          replace hb := hb.ext hx
          have hE := Upd.refl (fun _ => False) W
          refine id (X_move (v := u) rfl ?_)
          exact ⟨hE, rfl⟩
        refine ⟨.det (fun val => (.int .i64 (((i : Nat) : Int)))), ⟨fun _ _ hv => rfl, fun _ _ _ _ _ => trivial⟩, fun val h_ W hx he => ⟨trivial, ?_⟩, ?_⟩
        · replace hx := (Upd.drew _ _).trans hx
          replace ha := ha.ext hx
          replace hb := hb.ext hx
          have hE := Upd.refl (fun _ => False) W
          refine id (X_move (v := (.int .i64 (((i : Nat) : Int)))) rfl ?_)
          exact ⟨hE, rfl⟩
        refine ⟨.det (fun val => (pof u ((((i : Nat) : Int) : Int).toNat * 1))), ⟨fun _ _ hv => rfl, fun _ _ _ _ _ => trivial⟩, fun val h_ W hx he => ⟨trivial, ?_⟩, ?_⟩
        · replace hx := (Upd.drew _ _).trans hx
          replace ha := ha.ext hx
          replace hb := hb.ext hx
          have hE := Upd.refl (fun _ => False) W
          refine id (X_idx (v := u) (n := as_.length) (k := .i64) (i := ((i : Nat) : Int)) S24 rfl ha.sv rfl (by omega) (by omega) ?_)
          exact ⟨hE, rfl⟩
        refine ⟨.det (fun val => (.int .i64 (a))), ⟨fun _ _ hv => rfl, fun _ _ _ _ _ => trivial⟩, fun val h_ W hx he => ⟨trivial, ?_⟩, ?_⟩
        · replace hx := (Upd.drew _ _).trans hx
          replace ha := ha.ext hx
          replace hb := hb.ext hx
          have hE := Upd.refl (fun _ => False) W
          refine id (X_load (v := .int .i64 a) T3 rfl (iat ha (Int.toNat_natCast _) hai) ?_)
          exact ⟨hE, rfl⟩
        refine ⟨.det (fun val => s), ⟨fun _ _ hv => rfl, fun _ _ _ _ _ => trivial⟩, fun val h_ W hx he => ⟨trivial, ?_⟩, ?_⟩
        · replace hx := (Upd.drew _ _).trans hx
          replace ha := ha.ext hx
          replace hb := hb.ext hx
          have hE := Upd.refl (fun _ => False) W
          refine id (X_move (v := s) rfl ?_)
          exact ⟨hE, rfl⟩
        refine ⟨.det (fun val => (.int .i64 (((i : Nat) : Int)))), ⟨fun _ _ hv => rfl, fun _ _ _ _ _ => trivial⟩, fun val h_ W hx he => ⟨trivial, ?_⟩, ?_⟩
        · replace hx := (Upd.drew _ _).trans hx
          replace ha := ha.ext hx
          replace hb := hb.ext hx
          have hE := Upd.refl (fun _ => False) W
          refine id (X_move (v := (.int .i64 (((i : Nat) : Int)))) rfl ?_)
          exact ⟨hE, rfl⟩
        refine ⟨.det (fun val => (pof s ((((i : Nat) : Int) : Int).toNat * 1))), ⟨fun _ _ hv => rfl, fun _ _ _ _ _ => trivial⟩, fun val h_ W hx he => ⟨trivial, ?_⟩, ?_⟩
        · replace hx := (Upd.drew _ _).trans hx
          replace ha := ha.ext hx
          replace hb := hb.ext hx
          have hE := Upd.refl (fun _ => False) W
          refine id (X_idx (v := s) (n := bs.length) (k := .i64) (i := ((i : Nat) : Int)) S24 rfl hb.sv rfl (by omega) (by omega) ?_)
          exact ⟨hE, rfl⟩
        refine ⟨.det (fun val => (.int .i64 (b))), ⟨fun _ _ hv => rfl, fun _ _ _ _ _ => trivial⟩, fun val h_ W hx he => ⟨trivial, ?_⟩, ?_⟩
        · replace hx := (Upd.drew _ _).trans hx
          replace ha := ha.ext hx
          replace hb := hb.ext hx
          have hE := Upd.refl (fun _ => False) W
          refine id (X_load (v := .int .i64 b) T3 rfl (iat hb (Int.toNat_natCast _) hbi) ?_)
          exact ⟨hE, rfl⟩
        intro val W6 hx6 he6
        replace hx6 := (Upd.drew _ _).trans hx6
        have hz6 := hx6.size
        replace ha := ha.ext hx6
        replace hb := hb.ext hx6
        replace hU := hU.trans (Ext.upd hx6)
        refine L_op rfl (X_cmp (k := .i64) (a := a) (b := b) (r := true) rfl rfl rfl (decide_eq_true (of_decide_eq_false hs4)) ?_)
        refine L_nil ?_
        refine T_n ?_
        refine W_ct rfl ?_
        refine W_seq ?_
        refine W_reg ?_
        refine L_op rfl (X_assign (v := (.bool (false))) rfl ?_)
        refine L_nil ?_
        refine T_n ?_
        refine W_ret ?_
        refine B_r ?_
        refine T_r ?_
        refine T_r ?_
        refine B_r ?_
        refine T_r ?_
        exact BQ_r (End_1 Try.results24 (v := .bool false) rfl ⟨⟨false, rfl, ⟨fun h => (by cases h), fun h => (by exact absurd h (not_same hai hbi (of_decide_eq_false hs4)))⟩⟩, hU.own hn0⟩)
    · refine L_op rfl (X_cmp (k := .i64) (a := ((i : Nat) : Int)) (b := ((as_.length : Nat) : Int)) (r := false) rfl rfl rfl (decide_eq_false (p := ((((i : Nat) : Int)) : Int) < ((((as_.length : Nat) : Int)) : Int)) (by omega)) ?_)
      refine L_nil ?_
      refine T_n ?_
      refine W_cf rfl ?_
      refine W_exit ?_
      refine T_e ?_
      refine T_e ?_
      refine B_x ?_
      refine T_n ?_
      refine W_seq ?_
      refine W_reg ?_
      refine L_op rfl (X_assign (v := (.bool (true))) rfl ?_)
      refine L_nil ?_
      refine T_n ?_
      refine W_ret ?_
      exact BQ_r (End_1 Try.results24 (v := .bool true) rfl ⟨⟨true, rfl, ⟨fun _ => take_eq hz (by omega) (by omega), fun _ => rfl⟩⟩, hU.own hn0⟩)

theorem c_sameR (pv cv bv : Value) (ps : List Pg) (cs : List Wr) (bs : List Int) (off : Bool) (pv2 cv2 bv2 : Value) (ps2 : List Pg) (cs2 : List Wr) (bs2 : List Int) (off2 : Bool) (w : World) (lo up lo2 up2 : Nat) (hp : NRd LP w lo up pv ps) (hc : NRd LW w lo up cv cs) (hb : NRd LI w lo up bv bs) (hp2 : NRd LP w lo2 up2 pv2 ps2) (hc2 : NRd LW w lo2 up2 cv2 cs2) (hb2 : NRd LI w lo2 up2 bv2 bs2) : CT Try.prog 23 #[(.agg #[pv, cv, bv, (.bool (off))]), (.agg #[pv2, cv2, bv2, (.bool (off2))])] w fun v w' => (∃ g, v = .bool g ∧ (g = true ↔ ps = ps2 ∧ cs = cs2 ∧ bs = bs2 ∧ off = off2)) ∧ Ext w w' := by
  obtain ⟨n0, hn0⟩ : ∃ n, n = w.heap.size := ⟨_, rfl⟩
  have hU : Upd (fun i => n0 ≤ i) w w := Upd.refl _ _
  have hpl := hp.sv.len
  have hcl := hc.sv.len
  have hbl := hb.sv.len
  have hpl2 := hp2.sv.len
  have hcl2 := hc2.sv.len
  have hbl2 := hb2.sv.len
  refine CT_of Try.func23 rfl rfl rfl ?_
  refine W_seq ?_
  refine W_reg ?_
  refine L_op rfl (X_box (v := (.agg #[pv, cv, bv, (.bool (off))])) (c := ([pv, cv, bv, (.bool (off))]).toArray) rfl rfl ?_)
  intro b1 w1 hn1
  have hbn1 := hn1.num; have hbs1 := hn1.size
  replace hp := hp.ext hn1.ext
  replace hc := hc.ext hn1.ext
  replace hb := hb.ext hn1.ext
  replace hp2 := hp2.ext hn1.ext
  replace hc2 := hc2.ext hn1.ext
  replace hb2 := hb2.ext hn1.ext
  replace hU := hU.trans (Ext.upd hn1.ext)
  have hB1 := hn1.blk
  refine L_op rfl (X_box (v := (.agg #[pv2, cv2, bv2, (.bool (off2))])) (c := ([pv2, cv2, bv2, (.bool (off2))]).toArray) rfl rfl ?_)
  intro b2 w2 hn2
  have hbn2 := hn2.num; have hbs2 := hn2.size
  replace hp := hp.ext hn2.ext
  replace hc := hc.ext hn2.ext
  replace hb := hb.ext hn2.ext
  replace hp2 := hp2.ext hn2.ext
  replace hc2 := hc2.ext hn2.ext
  replace hb2 := hb2.ext hn2.ext
  replace hU := hU.trans (Ext.upd hn2.ext)
  replace hB1 := hB1.ext hn2.ext
  have hB2 := hn2.blk
  refine L_op rfl (X_assign (v := (.bool (false))) rfl ?_)
  refine L_nil ?_
  refine T_n ?_
  refine W_seq ?_
  refine W_seq ?_
  refine W_reg ?_
  refine L_op rfl (X_fldP (b := b1) (o := 0) (r := 0) Fd26_0 rfl rfl ?_)
  refine L_op rfl (X_load (p := (ptr b1 (0))) (v := pv) T22 rfl (hB1.at1 rfl) ?_)
  refine L_op rfl (X_len (v := pv) (n := ps.length) Try.underlying22 rfl hp.sv ?_)
  refine L_op rfl (X_fldP (b := b2) (o := 0) (r := 0) Fd26_0 rfl rfl ?_)
  refine L_op rfl (X_load (p := (ptr b2 (0))) (v := pv2) T22 rfl (hB2.at1 rfl) ?_)
  refine L_op rfl (X_len (v := pv2) (n := ps2.length) Try.underlying22 rfl hp2.sv ?_)
  by_cases hc3 : (((ps.length : Nat) : Int) : Int) ≠ (((ps2.length : Nat) : Int))
  · refine L_op rfl (X_cmp (k := .i64) (a := ((ps.length : Nat) : Int)) (b := ((ps2.length : Nat) : Int)) (r := true) rfl rfl rfl (decide_eq_true (p := ((((ps.length : Nat) : Int)) : Int) ≠ ((((ps2.length : Nat) : Int)) : Int)) (by omega)) ?_)
    refine L_op rfl (X_move (v := (.bool (true))) rfl ?_)
    refine L_gn (dj := 14) (t := true) rfl rfl rfl rfl ?_
    refine L_gn (dj := 14) (t := true) rfl rfl rfl rfl ?_
    refine L_gn (dj := 14) (t := true) rfl rfl rfl rfl ?_
    refine L_gn (dj := 14) (t := true) rfl rfl rfl rfl ?_
    refine L_gn (dj := 14) (t := true) rfl rfl rfl rfl ?_
    refine L_gn (dj := 14) (t := true) rfl rfl rfl rfl ?_
    refine L_gn (dj := 14) (t := true) rfl rfl rfl rfl ?_
    refine L_op rfl (X_pick (t := true) (v := (.bool (true))) rfl rfl ?_)
    refine L_op rfl (X_move (v := (.bool (true))) rfl ?_)
    refine L_gn (dj := 23) (t := true) rfl rfl rfl rfl ?_
    refine L_gn (dj := 23) (t := true) rfl rfl rfl rfl ?_
    refine L_gn (dj := 23) (t := true) rfl rfl rfl rfl ?_
    refine L_gn (dj := 23) (t := true) rfl rfl rfl rfl ?_
    refine L_gn (dj := 23) (t := true) rfl rfl rfl rfl ?_
    refine L_op rfl (X_pick (t := true) (v := (.bool (true))) rfl rfl ?_)
    refine L_op rfl (X_move (v := (.bool (true))) rfl ?_)
    refine L_gn (dj := 30) (t := true) rfl rfl rfl rfl ?_
    refine L_gn (dj := 30) (t := true) rfl rfl rfl rfl ?_
    refine L_gn (dj := 30) (t := true) rfl rfl rfl rfl ?_
    refine L_gn (dj := 30) (t := true) rfl rfl rfl rfl ?_
    refine L_gn (dj := 30) (t := true) rfl rfl rfl rfl ?_
    refine L_gn (dj := 30) (t := true) rfl rfl rfl rfl ?_
    refine L_op rfl (X_pick (t := true) (v := (.bool (true))) rfl rfl ?_)
    refine L_nil ?_
    refine T_n ?_
    refine W_ct rfl ?_
    refine W_seq ?_
    refine W_reg ?_
    refine L_op rfl (X_assign (v := (.bool (false))) rfl ?_)
    refine L_nil ?_
    refine T_n ?_
    refine W_ret ?_
    refine T_r ?_
    exact BQ_r (End_1 Try.results23 (v := .bool false) rfl ⟨⟨false, rfl, ⟨fun h => (by cases h), fun h => (by have h1 := congrArg List.length h.1; have h2 := congrArg List.length h.2.1; omega)⟩⟩, hU.own hn0⟩)
  · refine L_op rfl (X_cmp (k := .i64) (a := ((ps.length : Nat) : Int)) (b := ((ps2.length : Nat) : Int)) (r := false) rfl rfl rfl (decide_eq_false (p := ((((ps.length : Nat) : Int)) : Int) ≠ ((((ps2.length : Nat) : Int)) : Int)) (by omega)) ?_)
    refine L_op rfl (X_move (v := (.bool (false))) rfl ?_)
    refine L_gy (dj := 14) rfl rfl rfl (X_fldP (b := b1) (o := 0) (r := 1) Fd26_1 rfl rfl ?_)
    refine L_gy (dj := 14) rfl rfl rfl (X_load (p := (ptr b1 (1))) (v := cv) T23 rfl (hB1.at1 rfl) ?_)
    refine L_gy (dj := 14) rfl rfl rfl (X_len (v := cv) (n := cs.length) Try.underlying23 rfl hc.sv ?_)
    refine L_gy (dj := 14) rfl rfl rfl (X_fldP (b := b2) (o := 0) (r := 1) Fd26_1 rfl rfl ?_)
    refine L_gy (dj := 14) rfl rfl rfl (X_load (p := (ptr b2 (1))) (v := cv2) T23 rfl (hB2.at1 rfl) ?_)
    refine L_gy (dj := 14) rfl rfl rfl (X_len (v := cv2) (n := cs2.length) Try.underlying23 rfl hc2.sv ?_)
    by_cases hc4 : (((cs.length : Nat) : Int) : Int) ≠ (((cs2.length : Nat) : Int))
    · refine L_gy (dj := 14) rfl rfl rfl (X_cmp (k := .i64) (a := ((cs.length : Nat) : Int)) (b := ((cs2.length : Nat) : Int)) (r := true) rfl rfl rfl (decide_eq_true (p := ((((cs.length : Nat) : Int)) : Int) ≠ ((((cs2.length : Nat) : Int)) : Int)) (by omega)) ?_)
      refine L_op rfl (X_pick (t := false) (v := (.bool (true))) rfl rfl ?_)
      refine L_op rfl (X_move (v := (.bool (true))) rfl ?_)
      refine L_gn (dj := 23) (t := true) rfl rfl rfl rfl ?_
      refine L_gn (dj := 23) (t := true) rfl rfl rfl rfl ?_
      refine L_gn (dj := 23) (t := true) rfl rfl rfl rfl ?_
      refine L_gn (dj := 23) (t := true) rfl rfl rfl rfl ?_
      refine L_gn (dj := 23) (t := true) rfl rfl rfl rfl ?_
      refine L_op rfl (X_pick (t := true) (v := (.bool (true))) rfl rfl ?_)
      refine L_op rfl (X_move (v := (.bool (true))) rfl ?_)
      refine L_gn (dj := 30) (t := true) rfl rfl rfl rfl ?_
      refine L_gn (dj := 30) (t := true) rfl rfl rfl rfl ?_
      refine L_gn (dj := 30) (t := true) rfl rfl rfl rfl ?_
      refine L_gn (dj := 30) (t := true) rfl rfl rfl rfl ?_
      refine L_gn (dj := 30) (t := true) rfl rfl rfl rfl ?_
      refine L_gn (dj := 30) (t := true) rfl rfl rfl rfl ?_
      refine L_op rfl (X_pick (t := true) (v := (.bool (true))) rfl rfl ?_)
      refine L_nil ?_
      refine T_n ?_
      refine W_ct rfl ?_
      refine W_seq ?_
      refine W_reg ?_
      refine L_op rfl (X_assign (v := (.bool (false))) rfl ?_)
      refine L_nil ?_
      refine T_n ?_
      refine W_ret ?_
      refine T_r ?_
      exact BQ_r (End_1 Try.results23 (v := .bool false) rfl ⟨⟨false, rfl, ⟨fun h => (by cases h), fun h => (by have h1 := congrArg List.length h.1; have h2 := congrArg List.length h.2.1; omega)⟩⟩, hU.own hn0⟩)
    · refine L_gy (dj := 14) rfl rfl rfl (X_cmp (k := .i64) (a := ((cs.length : Nat) : Int)) (b := ((cs2.length : Nat) : Int)) (r := false) rfl rfl rfl (decide_eq_false (p := ((((cs.length : Nat) : Int)) : Int) ≠ ((((cs2.length : Nat) : Int)) : Int)) (by omega)) ?_)
      refine L_op rfl (X_pick (t := false) (v := (.bool (false))) rfl rfl ?_)
      refine L_op rfl (X_move (v := (.bool (false))) rfl ?_)
      refine L_gy (dj := 23) rfl rfl rfl (X_fldP (b := b1) (o := 0) (r := 3) Fd26_3 rfl rfl ?_)
      refine L_gy (dj := 23) rfl rfl rfl (X_load (p := (ptr b1 (3))) (v := (.bool (off))) T4 rfl (hB1.at1 rfl) ?_)
      refine L_gy (dj := 23) rfl rfl rfl (X_fldP (b := b2) (o := 0) (r := 3) Fd26_3 rfl rfl ?_)
      refine L_gy (dj := 23) rfl rfl rfl (X_load (p := (ptr b2 (3))) (v := (.bool (off2))) T4 rfl (hB2.at1 rfl) ?_)
      rcases Bool.eq_false_or_eq_true (off == off2) with hoo | hoo
      · refine L_gy (dj := 23) rfl rfl rfl (X_cmpBool (a := off) (b := off2) (r := false) Try.underlying4 rfl rfl (.inr ⟨rfl, by rw [hoo]; rfl⟩) ?_)
        refine L_op rfl (X_pick (t := false) (v := (.bool (false))) rfl rfl ?_)
        refine L_op rfl (X_move (v := (.bool (false))) rfl ?_)
        refine L_gy (dj := 30) rfl rfl rfl (X_fldP (b := b1) (o := 0) (r := 2) Fd26_2 rfl rfl ?_)
        refine L_gy (dj := 30) rfl rfl rfl (X_load (p := (ptr b1 (2))) (v := bv) T24 rfl (hB1.at1 rfl) ?_)
        refine L_gy (dj := 30) rfl rfl rfl (X_fldP (b := b2) (o := 0) (r := 2) Fd26_2 rfl rfl ?_)
        refine L_gy (dj := 30) rfl rfl rfl (X_load (p := (ptr b2 (2))) (v := bv2) T24 rfl (hB2.at1 rfl) ?_)
        refine L_gy (dj := 30) rfl rfl rfl (X_fn (vs := [bv, bv2]) en24 rfl (CT.mono (c_ints _ _ bs bs2 _ _ _ _ _ hb hb2) ?_))
        rintro _ w5 ⟨⟨gI, rfl, hgI⟩, hu5⟩
        have hz5 := hu5.size
        replace hp := hp.ext hu5
        replace hc := hc.ext hu5
        replace hb := hb.ext hu5
        replace hp2 := hp2.ext hu5
        replace hc2 := hc2.ext hu5
        replace hb2 := hb2.ext hu5
        replace hU := hU.trans (Ext.upd hu5)
        replace hB1 := hB1.ext hu5
        replace hB2 := hB2.ext hu5
        rcases Bool.eq_false_or_eq_true (gI) with hc6 | hc6
        · rw [hc6]
          refine L_gy (dj := 30) rfl rfl rfl (X_not (b := true) (r := false) rfl rfl ?_)
          refine L_op rfl (X_pick (t := false) (v := (.bool (false))) rfl rfl ?_)
          refine L_nil ?_
          refine T_n ?_
          refine W_cf rfl ?_
          refine W_skip ?_
          refine T_n ?_
          refine W_seq ?_
          refine W_seq ?_
          refine W_reg ?_
          refine L_op rfl (X_assign (v := (.int .i64 (0))) rfl ?_)
          refine L_nil ?_
          refine T_n ?_
          refine W_block ?_
          refine W_loop (α := Nat) [4, 5, 38, 39, 40, 41, 42, 43, 44, 45, 46, 47, 48, 49, 50, 51, 52, 53, 54, 55] (fun i => [(5, (.int .i64 (((i : Nat) : Int))))]) (fun i w_ => i ≤ ps.length ∧ NRd LP w_ lo up pv ps ∧ NRd LP w_ lo2 up2 pv2 ps2 ∧ NRd LW w_ lo up cv cs ∧ NRd LW w_ lo2 up2 cv2 cs2 ∧ Blk w_ b1 #[pv, cv, bv, .bool off] 26 ∧ Blk w_ b2 #[pv2, cv2, bv2, .bool off2] 26 ∧ Upd (fun i => n0 ≤ i) w w_ ∧ ps.take i = ps2.take i) (fun i => ps.length - i) ⟨rfl, 0, ⟨Nat.zero_le _, hp, hp2, hc, hc2, hB1, hB2, hU, rfl⟩, Out.refl _ _, ⟨rfl, trivial⟩⟩ ?_
          rintro i w7 _ ⟨hil, hp, hp2, hc, hc2, hB1, hB2, hU, hzp⟩
          refine W_seq ?_
          refine W_seq ?_
          refine W_reg ?_
          refine L_op rfl (X_move (v := (.int .i64 (((i : Nat) : Int)))) rfl ?_)
          refine L_op rfl (X_fldP (b := b1) (o := 0) (r := 0) Fd26_0 rfl rfl ?_)
          refine L_op rfl (X_load (p := (ptr b1 (0))) (v := pv) T22 rfl (hB1.at1 rfl) ?_)
          refine L_op rfl (X_len (v := pv) (n := ps.length) Try.underlying22 rfl hp.sv ?_)
          by_cases hc8 : (((i : Nat) : Int) : Int) < (((ps.length : Nat) : Int))
          · refine L_op rfl (X_cmp (k := .i64) (a := ((i : Nat) : Int)) (b := ((ps.length : Nat) : Int)) (r := true) rfl rfl rfl (decide_eq_true (p := ((((i : Nat) : Int)) : Int) < ((((ps.length : Nat) : Int)) : Int)) (by omega)) ?_)
            have hi : i < ps.length := by omega
            obtain ⟨a, hai⟩ : ∃ a, ps[i]? = some a := ⟨_, List.getElem?_eq_getElem hi⟩
            obtain ⟨b, hbi⟩ : ∃ b, ps2[i]? = some b := ⟨_, List.getElem?_eq_getElem (by omega)⟩
            refine L_nil ?_
            refine T_n ?_
            refine W_ct rfl ?_
            refine W_skip ?_
            refine T_n ?_
            refine W_seq ?_
            refine W_block ?_
            refine W_seq ?_
            rcases Bool.eq_false_or_eq_true ((a.1 == b.1)) with hs9 | hs9
            · refine W_draw 10 [[], [0], [], [0, 1, 2], [0, 1, 2, 3], [], [5], [], [5, 6, 7], [5, 6, 7, 8], [0, 1, 2, 3, 4, 5, 6, 7, 8, 9]] mixed (by kernel_rfl) ?_
              refine ⟨.det (fun val => (ptr b1 (0))), ⟨fun _ _ hv => rfl, fun _ _ _ _ _ => trivial⟩, fun val h_ W hx he => ⟨trivial, ?_⟩, ?_⟩
              · replace hx := (Upd.drew _ _).trans hx
                replace hp := hp.ext hx
                replace hp2 := hp2.ext hx
                replace hc := hc.ext hx
                replace hc2 := hc2.ext hx
                replace hB1 := hB1.ext hx
                replace hB2 := hB2.ext hx
                have hE := Upd.refl (fun _ => False) W
                refine id (X_fldP (b := b1) (o := 0) (r := 0) Fd26_0 rfl rfl ?_)
                exact ⟨hE, rfl⟩
              refine ⟨.det (fun val => pv), ⟨fun _ _ hv => rfl, fun _ _ _ _ _ => trivial⟩, fun val h_ W hx he => ⟨trivial, ?_⟩, ?_⟩
              · replace hx := (Upd.drew _ _).trans hx
                replace hp := hp.ext hx
                replace hp2 := hp2.ext hx
                replace hc := hc.ext hx
                replace hc2 := hc2.ext hx
                replace hB1 := hB1.ext hx
                replace hB2 := hB2.ext hx
                have hE := Upd.refl (fun _ => False) W
                refine id (X_load (p := (ptr b1 (0))) (v := pv) T22 rfl (hB1.at1 rfl) ?_)
                exact ⟨hE, rfl⟩
              refine ⟨.det (fun val => (.int .i64 (((i : Nat) : Int)))), ⟨fun _ _ hv => rfl, fun _ _ _ _ _ => trivial⟩, fun val h_ W hx he => ⟨trivial, ?_⟩, ?_⟩
              · replace hx := (Upd.drew _ _).trans hx
                replace hp := hp.ext hx
                replace hp2 := hp2.ext hx
                replace hc := hc.ext hx
                replace hc2 := hc2.ext hx
                replace hB1 := hB1.ext hx
                replace hB2 := hB2.ext hx
                have hE := Upd.refl (fun _ => False) W
                refine id (X_move (v := (.int .i64 (((i : Nat) : Int)))) rfl ?_)
                exact ⟨hE, rfl⟩
              refine ⟨.det (fun val => (pof pv ((((i : Nat) : Int) : Int).toNat * 256))), ⟨fun _ _ hv => rfl, fun _ _ _ _ _ => trivial⟩, fun val h_ W hx he => ⟨trivial, ?_⟩, ?_⟩
              · replace hx := (Upd.drew _ _).trans hx
                replace hp := hp.ext hx
                replace hp2 := hp2.ext hx
                replace hc := hc.ext hx
                replace hc2 := hc2.ext hx
                replace hB1 := hB1.ext hx
                replace hB2 := hB2.ext hx
                have hE := Upd.refl (fun _ => False) W
                refine id (X_idx (v := pv) (n := ps.length) (k := .i64) (i := ((i : Nat) : Int)) S22 rfl hp.sv rfl (by omega) (by omega) ?_)
                exact ⟨hE, rfl⟩
              refine ⟨.det (fun val => (.agg (((a.1).map byteV)).toArray)), ⟨fun _ _ hv => rfl, fun _ _ _ _ _ => trivial⟩, fun val h_ W hx he => ⟨trivial, ?_⟩, ?_⟩
              · replace hx := (Upd.drew _ _).trans hx
                replace hp := hp.ext hx
                replace hp2 := hp2.ext hx
                replace hc := hc.ext hx
                replace hc2 := hc2.ext hx
                replace hB1 := hB1.ext hx
                replace hB2 := hB2.ext hx
                have hE := Upd.refl (fun _ => False) W
                refine id (X_loadA (xs := a.1.map byteV) A28 rfl (pall hp (Int.toNat_natCast _) hai) (by rw [List.length_map]; exact a.2) ?_)
                exact ⟨hE, rfl⟩
              refine ⟨.det (fun val => (ptr b2 (0))), ⟨fun _ _ hv => rfl, fun _ _ _ _ _ => trivial⟩, fun val h_ W hx he => ⟨trivial, ?_⟩, ?_⟩
              · replace hx := (Upd.drew _ _).trans hx
                replace hp := hp.ext hx
                replace hp2 := hp2.ext hx
                replace hc := hc.ext hx
                replace hc2 := hc2.ext hx
                replace hB1 := hB1.ext hx
                replace hB2 := hB2.ext hx
                have hE := Upd.refl (fun _ => False) W
                refine id (X_fldP (b := b2) (o := 0) (r := 0) Fd26_0 rfl rfl ?_)
                exact ⟨hE, rfl⟩
              refine ⟨.det (fun val => pv2), ⟨fun _ _ hv => rfl, fun _ _ _ _ _ => trivial⟩, fun val h_ W hx he => ⟨trivial, ?_⟩, ?_⟩
              · replace hx := (Upd.drew _ _).trans hx
                replace hp := hp.ext hx
                replace hp2 := hp2.ext hx
                replace hc := hc.ext hx
                replace hc2 := hc2.ext hx
                replace hB1 := hB1.ext hx
                replace hB2 := hB2.ext hx
                have hE := Upd.refl (fun _ => False) W
                refine id (X_load (p := (ptr b2 (0))) (v := pv2) T22 rfl (hB2.at1 rfl) ?_)
                exact ⟨hE, rfl⟩
              refine ⟨.det (fun val => (.int .i64 (((i : Nat) : Int)))), ⟨fun _ _ hv => rfl, fun _ _ _ _ _ => trivial⟩, fun val h_ W hx he => ⟨trivial, ?_⟩, ?_⟩
              · replace hx := (Upd.drew _ _).trans hx
                replace hp := hp.ext hx
                replace hp2 := hp2.ext hx
                replace hc := hc.ext hx
                replace hc2 := hc2.ext hx
                replace hB1 := hB1.ext hx
                replace hB2 := hB2.ext hx
                have hE := Upd.refl (fun _ => False) W
                refine id (X_move (v := (.int .i64 (((i : Nat) : Int)))) rfl ?_)
                exact ⟨hE, rfl⟩
              refine ⟨.det (fun val => (pof pv2 ((((i : Nat) : Int) : Int).toNat * 256))), ⟨fun _ _ hv => rfl, fun _ _ _ _ _ => trivial⟩, fun val h_ W hx he => ⟨trivial, ?_⟩, ?_⟩
              · replace hx := (Upd.drew _ _).trans hx
                replace hp := hp.ext hx
                replace hp2 := hp2.ext hx
                replace hc := hc.ext hx
                replace hc2 := hc2.ext hx
                replace hB1 := hB1.ext hx
                replace hB2 := hB2.ext hx
                have hE := Upd.refl (fun _ => False) W
                refine id (X_idx (v := pv2) (n := ps2.length) (k := .i64) (i := ((i : Nat) : Int)) S22 rfl hp2.sv rfl (by omega) (by omega) ?_)
                exact ⟨hE, rfl⟩
              refine ⟨.det (fun val => (.agg (((b.1).map byteV)).toArray)), ⟨fun _ _ hv => rfl, fun _ _ _ _ _ => trivial⟩, fun val h_ W hx he => ⟨trivial, ?_⟩, ?_⟩
              · replace hx := (Upd.drew _ _).trans hx
                replace hp := hp.ext hx
                replace hp2 := hp2.ext hx
                replace hc := hc.ext hx
                replace hc2 := hc2.ext hx
                replace hB1 := hB1.ext hx
                replace hB2 := hB2.ext hx
                have hE := Upd.refl (fun _ => False) W
                refine id (X_loadA (xs := b.1.map byteV) A28 rfl (pall hp2 (Int.toNat_natCast _) hbi) (by rw [List.length_map]; exact b.2) ?_)
                exact ⟨hE, rfl⟩
              intro val W10 hx10 he10
              replace hx10 := (Upd.drew _ _).trans hx10
              have hz10 := hx10.size
              replace hp := hp.ext hx10
              replace hp2 := hp2.ext hx10
              replace hc := hc.ext hx10
              replace hc2 := hc2.ext hx10
              replace hU := hU.trans (Ext.upd hx10)
              replace hB1 := hB1.ext hx10
              replace hB2 := hB2.ext hx10
              refine L_op rfl (X_eqA (n := 256) (l := a.1) (m := b.1) (r := false) Try.underlying28 Try.underlying5 (by kernel_rfl) (by kernel_rfl) (by kernel_rfl) rfl rfl (a.2) (b.2) (.inr ⟨rfl, (by rw [hs9]; rfl)⟩) ?_)
              refine L_nil ?_
              refine T_n ?_
              refine W_cf rfl ?_
              refine W_skip ?_
              refine B_n ?_
              refine T_n ?_
              refine W_reg ?_
              refine L_op rfl (X_move (v := (.int .i64 (((i : Nat) : Int)))) rfl ?_)
              refine L_op rfl (X_arith (k := .i64) (a := ((i : Nat) : Int)) (b := 1) (r := ((i + 1 : Nat) : Int)) rfl rfl rfl (iadd64 (by omega) (by omega) (by omega)) ?_)
              refine L_op rfl (X_assign (v := (.int .i64 (((i + 1 : Nat) : Int)))) rfl ?_)
              refine L_nil ?_
              refine T_n ?_
              exact ⟨rfl, i + 1, ⟨⟨hi, hp, hp2, hc, hc2, hB1, hB2, hU, take_same hai hbi hzp (Subtype.ext (beq_iff_eq.1 hs9))⟩, (by show ps.length - (i + 1) < ps.length - i; omega)⟩, (Out.mk rfl), ⟨rfl, trivial⟩⟩
            · refine W_draw 10 [[], [0], [], [0, 1, 2], [0, 1, 2, 3], [], [5], [], [5, 6, 7], [5, 6, 7, 8], [0, 1, 2, 3, 4, 5, 6, 7, 8, 9]] mixed (by kernel_rfl) ?_
              refine ⟨.det (fun val => (ptr b1 (0))), ⟨fun _ _ hv => rfl, fun _ _ _ _ _ => trivial⟩, fun val h_ W hx he => ⟨trivial, ?_⟩, ?_⟩
              · replace hx := (Upd.drew _ _).trans hx
                replace hp := hp.ext hx
                replace hp2 := hp2.ext hx
                replace hc := hc.ext hx
                replace hc2 := hc2.ext hx
                replace hB1 := hB1.ext hx
                replace hB2 := hB2.ext hx
                have hE := Upd.refl (fun _ => False) W
                refine id (X_fldP (b := b1) (o := 0) (r := 0) Fd26_0 rfl rfl ?_)
                exact ⟨hE, rfl⟩
              refine ⟨.det (fun val => pv), ⟨fun _ _ hv => rfl, fun _ _ _ _ _ => trivial⟩, fun val h_ W hx he => ⟨trivial, ?_⟩, ?_⟩
              · replace hx := (Upd.drew _ _).trans hx
                replace hp := hp.ext hx
                replace hp2 := hp2.ext hx
                replace hc := hc.ext hx
                replace hc2 := hc2.ext hx
                replace hB1 := hB1.ext hx
                replace hB2 := hB2.ext hx
                have hE := Upd.refl (fun _ => False) W
                refine id (X_load (p := (ptr b1 (0))) (v := pv) T22 rfl (hB1.at1 rfl) ?_)
                exact ⟨hE, rfl⟩
              refine ⟨.det (fun val => (.int .i64 (((i : Nat) : Int)))), ⟨fun _ _ hv => rfl, fun _ _ _ _ _ => trivial⟩, fun val h_ W hx he => ⟨trivial, ?_⟩, ?_⟩
              · replace hx := (Upd.drew _ _).trans hx
                replace hp := hp.ext hx
                replace hp2 := hp2.ext hx
                replace hc := hc.ext hx
                replace hc2 := hc2.ext hx
                replace hB1 := hB1.ext hx
                replace hB2 := hB2.ext hx
                have hE := Upd.refl (fun _ => False) W
                refine id (X_move (v := (.int .i64 (((i : Nat) : Int)))) rfl ?_)
                exact ⟨hE, rfl⟩
              refine ⟨.det (fun val => (pof pv ((((i : Nat) : Int) : Int).toNat * 256))), ⟨fun _ _ hv => rfl, fun _ _ _ _ _ => trivial⟩, fun val h_ W hx he => ⟨trivial, ?_⟩, ?_⟩
              · replace hx := (Upd.drew _ _).trans hx
                replace hp := hp.ext hx
                replace hp2 := hp2.ext hx
                replace hc := hc.ext hx
                replace hc2 := hc2.ext hx
                replace hB1 := hB1.ext hx
                replace hB2 := hB2.ext hx
                have hE := Upd.refl (fun _ => False) W
                refine id (X_idx (v := pv) (n := ps.length) (k := .i64) (i := ((i : Nat) : Int)) S22 rfl hp.sv rfl (by omega) (by omega) ?_)
                exact ⟨hE, rfl⟩
              refine ⟨.det (fun val => (.agg (((a.1).map byteV)).toArray)), ⟨fun _ _ hv => rfl, fun _ _ _ _ _ => trivial⟩, fun val h_ W hx he => ⟨trivial, ?_⟩, ?_⟩
              · replace hx := (Upd.drew _ _).trans hx
                replace hp := hp.ext hx
                replace hp2 := hp2.ext hx
                replace hc := hc.ext hx
                replace hc2 := hc2.ext hx
                replace hB1 := hB1.ext hx
                replace hB2 := hB2.ext hx
                have hE := Upd.refl (fun _ => False) W
                refine id (X_loadA (xs := a.1.map byteV) A28 rfl (pall hp (Int.toNat_natCast _) hai) (by rw [List.length_map]; exact a.2) ?_)
                exact ⟨hE, rfl⟩
              refine ⟨.det (fun val => (ptr b2 (0))), ⟨fun _ _ hv => rfl, fun _ _ _ _ _ => trivial⟩, fun val h_ W hx he => ⟨trivial, ?_⟩, ?_⟩
              · replace hx := (Upd.drew _ _).trans hx
                replace hp := hp.ext hx
                replace hp2 := hp2.ext hx
                replace hc := hc.ext hx
                replace hc2 := hc2.ext hx
                replace hB1 := hB1.ext hx
                replace hB2 := hB2.ext hx
                have hE := Upd.refl (fun _ => False) W
                refine id (X_fldP (b := b2) (o := 0) (r := 0) Fd26_0 rfl rfl ?_)
                exact ⟨hE, rfl⟩
              refine ⟨.det (fun val => pv2), ⟨fun _ _ hv => rfl, fun _ _ _ _ _ => trivial⟩, fun val h_ W hx he => ⟨trivial, ?_⟩, ?_⟩
              · replace hx := (Upd.drew _ _).trans hx
                replace hp := hp.ext hx
                replace hp2 := hp2.ext hx
                replace hc := hc.ext hx
                replace hc2 := hc2.ext hx
                replace hB1 := hB1.ext hx
                replace hB2 := hB2.ext hx
                have hE := Upd.refl (fun _ => False) W
                refine id (X_load (p := (ptr b2 (0))) (v := pv2) T22 rfl (hB2.at1 rfl) ?_)
                exact ⟨hE, rfl⟩
              refine ⟨.det (fun val => (.int .i64 (((i : Nat) : Int)))), ⟨fun _ _ hv => rfl, fun _ _ _ _ _ => trivial⟩, fun val h_ W hx he => ⟨trivial, ?_⟩, ?_⟩
              · replace hx := (Upd.drew _ _).trans hx
                replace hp := hp.ext hx
                replace hp2 := hp2.ext hx
                replace hc := hc.ext hx
                replace hc2 := hc2.ext hx
                replace hB1 := hB1.ext hx
                replace hB2 := hB2.ext hx
                have hE := Upd.refl (fun _ => False) W
                refine id (X_move (v := (.int .i64 (((i : Nat) : Int)))) rfl ?_)
                exact ⟨hE, rfl⟩
              refine ⟨.det (fun val => (pof pv2 ((((i : Nat) : Int) : Int).toNat * 256))), ⟨fun _ _ hv => rfl, fun _ _ _ _ _ => trivial⟩, fun val h_ W hx he => ⟨trivial, ?_⟩, ?_⟩
              · replace hx := (Upd.drew _ _).trans hx
                replace hp := hp.ext hx
                replace hp2 := hp2.ext hx
                replace hc := hc.ext hx
                replace hc2 := hc2.ext hx
                replace hB1 := hB1.ext hx
                replace hB2 := hB2.ext hx
                have hE := Upd.refl (fun _ => False) W
                refine id (X_idx (v := pv2) (n := ps2.length) (k := .i64) (i := ((i : Nat) : Int)) S22 rfl hp2.sv rfl (by omega) (by omega) ?_)
                exact ⟨hE, rfl⟩
              refine ⟨.det (fun val => (.agg (((b.1).map byteV)).toArray)), ⟨fun _ _ hv => rfl, fun _ _ _ _ _ => trivial⟩, fun val h_ W hx he => ⟨trivial, ?_⟩, ?_⟩
              · replace hx := (Upd.drew _ _).trans hx
                replace hp := hp.ext hx
                replace hp2 := hp2.ext hx
                replace hc := hc.ext hx
                replace hc2 := hc2.ext hx
                replace hB1 := hB1.ext hx
                replace hB2 := hB2.ext hx
                have hE := Upd.refl (fun _ => False) W
                refine id (X_loadA (xs := b.1.map byteV) A28 rfl (pall hp2 (Int.toNat_natCast _) hbi) (by rw [List.length_map]; exact b.2) ?_)
                exact ⟨hE, rfl⟩
              intro val W11 hx11 he11
              replace hx11 := (Upd.drew _ _).trans hx11
              have hz11 := hx11.size
              replace hp := hp.ext hx11
              replace hp2 := hp2.ext hx11
              replace hc := hc.ext hx11
              replace hc2 := hc2.ext hx11
              replace hU := hU.trans (Ext.upd hx11)
              replace hB1 := hB1.ext hx11
              replace hB2 := hB2.ext hx11
              refine L_op rfl (X_eqA (n := 256) (l := a.1) (m := b.1) (r := true) Try.underlying28 Try.underlying5 (by kernel_rfl) (by kernel_rfl) (by kernel_rfl) rfl rfl (a.2) (b.2) (.inr ⟨rfl, (by rw [hs9]; rfl)⟩) ?_)
              refine L_nil ?_
              refine T_n ?_
              refine W_ct rfl ?_
              refine W_seq ?_
              refine W_reg ?_
              refine L_op rfl (X_assign (v := (.bool (false))) rfl ?_)
              refine L_nil ?_
              refine T_n ?_
              refine W_ret ?_
              refine B_r ?_
              refine T_r ?_
              refine T_r ?_
              refine B_r ?_
              refine T_r ?_
              exact BQ_r (End_1 Try.results23 (v := .bool false) rfl ⟨⟨false, rfl, ⟨fun h => (by cases h), fun h => (by exact absurd h.1 (not_same hai hbi (fun h_ => by subst h_; rw [beq_self_eq_true] at hs9; cases hs9)))⟩⟩, hU.own hn0⟩)
          · refine L_op rfl (X_cmp (k := .i64) (a := ((i : Nat) : Int)) (b := ((ps.length : Nat) : Int)) (r := false) rfl rfl rfl (decide_eq_false (p := ((((i : Nat) : Int)) : Int) < ((((ps.length : Nat) : Int)) : Int)) (by omega)) ?_)
            refine L_nil ?_
            refine T_n ?_
            refine W_cf rfl ?_
            refine W_exit ?_
            refine T_e ?_
            refine T_e ?_
            refine B_x ?_
            refine T_n ?_
            refine W_seq ?_
            refine W_seq ?_
            refine W_reg ?_
            refine L_op rfl (X_assign (v := (.int .i64 (0))) rfl ?_)
            refine L_nil ?_
            refine T_n ?_
            refine W_block ?_
            refine W_loop (α := Nat) [4, 6, 56, 57, 58, 59, 60, 61, 62, 63, 64, 65, 66, 67, 68, 69, 70, 71, 72, 73] (fun i => [(6, (.int .i64 (((i : Nat) : Int))))]) (fun i w_ => i ≤ cs.length ∧ NRd LP w_ lo up pv ps ∧ NRd LP w_ lo2 up2 pv2 ps2 ∧ NRd LW w_ lo up cv cs ∧ NRd LW w_ lo2 up2 cv2 cs2 ∧ Blk w_ b1 #[pv, cv, bv, .bool off] 26 ∧ Blk w_ b2 #[pv2, cv2, bv2, .bool off2] 26 ∧ Upd (fun i => n0 ≤ i) w w_ ∧ cs.take i = cs2.take i) (fun i => cs.length - i) ⟨rfl, 0, ⟨Nat.zero_le _, hp, hp2, hc, hc2, hB1, hB2, hU, rfl⟩, Out.refl _ _, ⟨rfl, trivial⟩⟩ ?_
            rintro i w12 _ ⟨hil, hp, hp2, hc, hc2, hB1, hB2, hU, hzc⟩
            refine W_seq ?_
            refine W_seq ?_
            refine W_reg ?_
            refine L_op rfl (X_move (v := (.int .i64 (((i : Nat) : Int)))) rfl ?_)
            refine L_op rfl (X_fldP (b := b1) (o := 0) (r := 1) Fd26_1 rfl rfl ?_)
            refine L_op rfl (X_load (p := (ptr b1 (1))) (v := cv) T23 rfl (hB1.at1 rfl) ?_)
            refine L_op rfl (X_len (v := cv) (n := cs.length) Try.underlying23 rfl hc.sv ?_)
            by_cases hc13 : (((i : Nat) : Int) : Int) < (((cs.length : Nat) : Int))
            · refine L_op rfl (X_cmp (k := .i64) (a := ((i : Nat) : Int)) (b := ((cs.length : Nat) : Int)) (r := true) rfl rfl rfl (decide_eq_true (p := ((((i : Nat) : Int)) : Int) < ((((cs.length : Nat) : Int)) : Int)) (by omega)) ?_)
              have hi : i < cs.length := by omega
              obtain ⟨a, hai⟩ : ∃ a, cs[i]? = some a := ⟨_, List.getElem?_eq_getElem hi⟩
              obtain ⟨b, hbi⟩ : ∃ b, cs2[i]? = some b := ⟨_, List.getElem?_eq_getElem (by omega)⟩
              refine L_nil ?_
              refine T_n ?_
              refine W_ct rfl ?_
              refine W_skip ?_
              refine T_n ?_
              refine W_seq ?_
              refine W_block ?_
              refine W_seq ?_
              rcases Bool.eq_false_or_eq_true ((a.1 == b.1 && a.2.1 == b.2.1)) with hs14 | hs14
              · refine W_draw 10 [[], [0], [], [0, 1, 2], [0, 1, 2, 3], [], [5], [], [5, 6, 7], [5, 6, 7, 8], [0, 1, 2, 3, 4, 5, 6, 7, 8, 9]] mixed (by kernel_rfl) ?_
                refine ⟨.det (fun val => (ptr b1 (1))), ⟨fun _ _ hv => rfl, fun _ _ _ _ _ => trivial⟩, fun val h_ W hx he => ⟨trivial, ?_⟩, ?_⟩
                · replace hx := (Upd.drew _ _).trans hx
                  replace hp := hp.ext hx
                  replace hp2 := hp2.ext hx
                  replace hc := hc.ext hx
                  replace hc2 := hc2.ext hx
                  replace hB1 := hB1.ext hx
                  replace hB2 := hB2.ext hx
                  have hE := Upd.refl (fun _ => False) W
                  refine id (X_fldP (b := b1) (o := 0) (r := 1) Fd26_1 rfl rfl ?_)
                  exact ⟨hE, rfl⟩
                refine ⟨.det (fun val => cv), ⟨fun _ _ hv => rfl, fun _ _ _ _ _ => trivial⟩, fun val h_ W hx he => ⟨trivial, ?_⟩, ?_⟩
                · replace hx := (Upd.drew _ _).trans hx
                  replace hp := hp.ext hx
                  replace hp2 := hp2.ext hx
                  replace hc := hc.ext hx
                  replace hc2 := hc2.ext hx
                  replace hB1 := hB1.ext hx
                  replace hB2 := hB2.ext hx
                  have hE := Upd.refl (fun _ => False) W
                  refine id (X_load (p := (ptr b1 (1))) (v := cv) T23 rfl (hB1.at1 rfl) ?_)
                  exact ⟨hE, rfl⟩
                refine ⟨.det (fun val => (.int .i64 (((i : Nat) : Int)))), ⟨fun _ _ hv => rfl, fun _ _ _ _ _ => trivial⟩, fun val h_ W hx he => ⟨trivial, ?_⟩, ?_⟩
                · replace hx := (Upd.drew _ _).trans hx
                  replace hp := hp.ext hx
                  replace hp2 := hp2.ext hx
                  replace hc := hc.ext hx
                  replace hc2 := hc2.ext hx
                  replace hB1 := hB1.ext hx
                  replace hB2 := hB2.ext hx
                  have hE := Upd.refl (fun _ => False) W
                  refine id (X_move (v := (.int .i64 (((i : Nat) : Int)))) rfl ?_)
                  exact ⟨hE, rfl⟩
                refine ⟨.det (fun val => (pof cv ((((i : Nat) : Int) : Int).toNat * 257))), ⟨fun _ _ hv => rfl, fun _ _ _ _ _ => trivial⟩, fun val h_ W hx he => ⟨trivial, ?_⟩, ?_⟩
                · replace hx := (Upd.drew _ _).trans hx
                  replace hp := hp.ext hx
                  replace hp2 := hp2.ext hx
                  replace hc := hc.ext hx
                  replace hc2 := hc2.ext hx
                  replace hB1 := hB1.ext hx
                  replace hB2 := hB2.ext hx
                  have hE := Upd.refl (fun _ => False) W
                  refine id (X_idx (v := cv) (n := cs.length) (k := .i64) (i := ((i : Nat) : Int)) S23 rfl hc.sv rfl (by omega) (by omega) ?_)
                  exact ⟨hE, rfl⟩
                refine ⟨.det (fun val => (wrV a)), ⟨fun _ _ hv => rfl, fun _ _ _ _ _ => trivial⟩, fun val h_ W hx he => ⟨trivial, ?_⟩, ?_⟩
                · replace hx := (Upd.drew _ _).trans hx
                  replace hp := hp.ext hx
                  replace hp2 := hp2.ext hx
                  replace hc := hc.ext hx
                  replace hc2 := hc2.ext hx
                  replace hB1 := hB1.ext hx
                  replace hB2 := hB2.ext hx
                  have hE := Upd.refl (fun _ => False) W
                  refine id (X_loadA (xs := LW.cel a) A43 rfl (wall hc (Int.toNat_natCast _) hai) (LW.len _) ?_)
                  exact ⟨hE, rfl⟩
                refine ⟨.det (fun val => (ptr b2 (1))), ⟨fun _ _ hv => rfl, fun _ _ _ _ _ => trivial⟩, fun val h_ W hx he => ⟨trivial, ?_⟩, ?_⟩
                · replace hx := (Upd.drew _ _).trans hx
                  replace hp := hp.ext hx
                  replace hp2 := hp2.ext hx
                  replace hc := hc.ext hx
                  replace hc2 := hc2.ext hx
                  replace hB1 := hB1.ext hx
                  replace hB2 := hB2.ext hx
                  have hE := Upd.refl (fun _ => False) W
                  refine id (X_fldP (b := b2) (o := 0) (r := 1) Fd26_1 rfl rfl ?_)
                  exact ⟨hE, rfl⟩
                refine ⟨.det (fun val => cv2), ⟨fun _ _ hv => rfl, fun _ _ _ _ _ => trivial⟩, fun val h_ W hx he => ⟨trivial, ?_⟩, ?_⟩
                · replace hx := (Upd.drew _ _).trans hx
                  replace hp := hp.ext hx
                  replace hp2 := hp2.ext hx
                  replace hc := hc.ext hx
                  replace hc2 := hc2.ext hx
                  replace hB1 := hB1.ext hx
                  replace hB2 := hB2.ext hx
                  have hE := Upd.refl (fun _ => False) W
                  refine id (X_load (p := (ptr b2 (1))) (v := cv2) T23 rfl (hB2.at1 rfl) ?_)
                  exact ⟨hE, rfl⟩
                refine ⟨.det (fun val => (.int .i64 (((i : Nat) : Int)))), ⟨fun _ _ hv => rfl, fun _ _ _ _ _ => trivial⟩, fun val h_ W hx he => ⟨trivial, ?_⟩, ?_⟩
                · replace hx := (Upd.drew _ _).trans hx
                  replace hp := hp.ext hx
                  replace hp2 := hp2.ext hx
                  replace hc := hc.ext hx
                  replace hc2 := hc2.ext hx
                  replace hB1 := hB1.ext hx
                  replace hB2 := hB2.ext hx
                  have hE := Upd.refl (fun _ => False) W
                  refine id (X_move (v := (.int .i64 (((i : Nat) : Int)))) rfl ?_)
                  exact ⟨hE, rfl⟩
                refine ⟨.det (fun val => (pof cv2 ((((i : Nat) : Int) : Int).toNat * 257))), ⟨fun _ _ hv => rfl, fun _ _ _ _ _ => trivial⟩, fun val h_ W hx he => ⟨trivial, ?_⟩, ?_⟩
                · replace hx := (Upd.drew _ _).trans hx
                  replace hp := hp.ext hx
                  replace hp2 := hp2.ext hx
                  replace hc := hc.ext hx
                  replace hc2 := hc2.ext hx
                  replace hB1 := hB1.ext hx
                  replace hB2 := hB2.ext hx
                  have hE := Upd.refl (fun _ => False) W
                  refine id (X_idx (v := cv2) (n := cs2.length) (k := .i64) (i := ((i : Nat) : Int)) S23 rfl hc2.sv rfl (by omega) (by omega) ?_)
                  exact ⟨hE, rfl⟩
                refine ⟨.det (fun val => (wrV b)), ⟨fun _ _ hv => rfl, fun _ _ _ _ _ => trivial⟩, fun val h_ W hx he => ⟨trivial, ?_⟩, ?_⟩
                · replace hx := (Upd.drew _ _).trans hx
                  replace hp := hp.ext hx
                  replace hp2 := hp2.ext hx
                  replace hc := hc.ext hx
                  replace hc2 := hc2.ext hx
                  replace hB1 := hB1.ext hx
                  replace hB2 := hB2.ext hx
                  have hE := Upd.refl (fun _ => False) W
                  refine id (X_loadA (xs := LW.cel b) A43 rfl (wall hc2 (Int.toNat_natCast _) hbi) (LW.len _) ?_)
                  exact ⟨hE, rfl⟩
                intro val W15 hx15 he15
                replace hx15 := (Upd.drew _ _).trans hx15
                have hz15 := hx15.size
                replace hp := hp.ext hx15
                replace hp2 := hp2.ext hx15
                replace hc := hc.ext hx15
                replace hc2 := hc2.ext hx15
                replace hU := hU.trans (Ext.upd hx15)
                replace hB1 := hB1.ext hx15
                replace hB2 := hB2.ext hx15
                refine L_op rfl (X_eqW (p := a) (q := b) (r := false) Try.underlying43 (by kernel_rfl) (by kernel_rfl) (by decide) ⟨rfl, rfl⟩ Try.underlying3 Try.underlying28 (by kernel_rfl) Try.underlying5 (ie := _) rfl (by kernel_rfl) (by kernel_rfl) rfl rfl (.inr ⟨rfl, by rw [hs14]; rfl⟩) ?_)
                refine L_nil ?_
                refine T_n ?_
                refine W_cf rfl ?_
                refine W_skip ?_
                refine B_n ?_
                refine T_n ?_
                refine W_reg ?_
                refine L_op rfl (X_move (v := (.int .i64 (((i : Nat) : Int)))) rfl ?_)
                refine L_op rfl (X_arith (k := .i64) (a := ((i : Nat) : Int)) (b := 1) (r := ((i + 1 : Nat) : Int)) rfl rfl rfl (iadd64 (by omega) (by omega) (by omega)) ?_)
                refine L_op rfl (X_assign (v := (.int .i64 (((i + 1 : Nat) : Int)))) rfl ?_)
                refine L_nil ?_
                refine T_n ?_
                exact ⟨rfl, i + 1, ⟨⟨hi, hp, hp2, hc, hc2, hB1, hB2, hU, take_same hai hbi hzc (wr_beq.1 hs14)⟩, (by show cs.length - (i + 1) < cs.length - i; omega)⟩, (Out.mk rfl), ⟨rfl, trivial⟩⟩
              · refine W_draw 10 [[], [0], [], [0, 1, 2], [0, 1, 2, 3], [], [5], [], [5, 6, 7], [5, 6, 7, 8], [0, 1, 2, 3, 4, 5, 6, 7, 8, 9]] mixed (by kernel_rfl) ?_
                refine ⟨.det (fun val => (ptr b1 (1))), ⟨fun _ _ hv => rfl, fun _ _ _ _ _ => trivial⟩, fun val h_ W hx he => ⟨trivial, ?_⟩, ?_⟩
                · replace hx := (Upd.drew _ _).trans hx
                  replace hp := hp.ext hx
                  replace hp2 := hp2.ext hx
                  replace hc := hc.ext hx
                  replace hc2 := hc2.ext hx
                  replace hB1 := hB1.ext hx
                  replace hB2 := hB2.ext hx
                  have hE := Upd.refl (fun _ => False) W
                  refine id (X_fldP (b := b1) (o := 0) (r := 1) Fd26_1 rfl rfl ?_)
                  exact ⟨hE, rfl⟩
                refine ⟨.det (fun val => cv), ⟨fun _ _ hv => rfl, fun _ _ _ _ _ => trivial⟩, fun val h_ W hx he => ⟨trivial, ?_⟩, ?_⟩
                · replace hx := (Upd.drew _ _).trans hx
                  replace hp := hp.ext hx
                  replace hp2 := hp2.ext hx
                  replace hc := hc.ext hx
                  replace hc2 := hc2.ext hx
                  replace hB1 := hB1.ext hx
                  replace hB2 := hB2.ext hx
                  have hE := Upd.refl (fun _ => False) W
                  refine id (X_load (p := (ptr b1 (1))) (v := cv) T23 rfl (hB1.at1 rfl) ?_)
                  exact ⟨hE, rfl⟩
                refine ⟨.det (fun val => (.int .i64 (((i : Nat) : Int)))), ⟨fun _ _ hv => rfl, fun _ _ _ _ _ => trivial⟩, fun val h_ W hx he => ⟨trivial, ?_⟩, ?_⟩
                · replace hx := (Upd.drew _ _).trans hx
                  replace hp := hp.ext hx
                  replace hp2 := hp2.ext hx
                  replace hc := hc.ext hx
                  replace hc2 := hc2.ext hx
                  replace hB1 := hB1.ext hx
                  replace hB2 := hB2.ext hx
                  have hE := Upd.refl (fun _ => False) W
                  refine id (X_move (v := (.int .i64 (((i : Nat) : Int)))) rfl ?_)
                  exact ⟨hE, rfl⟩
                refine ⟨.det (fun val => (pof cv ((((i : Nat) : Int) : Int).toNat * 257))), ⟨fun _ _ hv => rfl, fun _ _ _ _ _ => trivial⟩, fun val h_ W hx he => ⟨trivial, ?_⟩, ?_⟩
                · replace hx := (Upd.drew _ _).trans hx
                  replace hp := hp.ext hx
                  replace hp2 := hp2.ext hx
                  replace hc := hc.ext hx
                  replace hc2 := hc2.ext hx
                  replace hB1 := hB1.ext hx
                  replace hB2 := hB2.ext hx
                  have hE := Upd.refl (fun _ => False) W
                  refine id (X_idx (v := cv) (n := cs.length) (k := .i64) (i := ((i : Nat) : Int)) S23 rfl hc.sv rfl (by omega) (by omega) ?_)
                  exact ⟨hE, rfl⟩
                refine ⟨.det (fun val => (wrV a)), ⟨fun _ _ hv => rfl, fun _ _ _ _ _ => trivial⟩, fun val h_ W hx he => ⟨trivial, ?_⟩, ?_⟩
                · replace hx := (Upd.drew _ _).trans hx
                  replace hp := hp.ext hx
                  replace hp2 := hp2.ext hx
                  replace hc := hc.ext hx
                  replace hc2 := hc2.ext hx
                  replace hB1 := hB1.ext hx
                  replace hB2 := hB2.ext hx
                  have hE := Upd.refl (fun _ => False) W
                  refine id (X_loadA (xs := LW.cel a) A43 rfl (wall hc (Int.toNat_natCast _) hai) (LW.len _) ?_)
                  exact ⟨hE, rfl⟩
                refine ⟨.det (fun val => (ptr b2 (1))), ⟨fun _ _ hv => rfl, fun _ _ _ _ _ => trivial⟩, fun val h_ W hx he => ⟨trivial, ?_⟩, ?_⟩
                · replace hx := (Upd.drew _ _).trans hx
                  replace hp := hp.ext hx
                  replace hp2 := hp2.ext hx
                  replace hc := hc.ext hx
                  replace hc2 := hc2.ext hx
                  replace hB1 := hB1.ext hx
                  replace hB2 := hB2.ext hx
                  have hE := Upd.refl (fun _ => False) W
                  refine id (X_fldP (b := b2) (o := 0) (r := 1) Fd26_1 rfl rfl ?_)
                  exact ⟨hE, rfl⟩
                refine ⟨.det (fun val => cv2), ⟨fun _ _ hv => rfl, fun _ _ _ _ _ => trivial⟩, fun val h_ W hx he => ⟨trivial, ?_⟩, ?_⟩
                · replace hx := (Upd.drew _ _).trans hx
                  replace hp := hp.ext hx
                  replace hp2 := hp2.ext hx
                  replace hc := hc.ext hx
                  replace hc2 := hc2.ext hx
                  replace hB1 := hB1.ext hx
                  replace hB2 := hB2.ext hx
                  have hE := Upd.refl (fun _ => False) W
                  refine id (X_load (p := (ptr b2 (1))) (v := cv2) T23 rfl (hB2.at1 rfl) ?_)
                  exact ⟨hE, rfl⟩
                refine ⟨.det (fun val => (.int .i64 (((i : Nat) : Int)))), ⟨fun _ _ hv => rfl, fun _ _ _ _ _ => trivial⟩, fun val h_ W hx he => ⟨trivial, ?_⟩, ?_⟩
                · replace hx := (Upd.drew _ _).trans hx
                  replace hp := hp.ext hx
                  replace hp2 := hp2.ext hx
                  replace hc := hc.ext hx
                  replace hc2 := hc2.ext hx
                  replace hB1 := hB1.ext hx
                  replace hB2 := hB2.ext hx
                  have hE := Upd.refl (fun _ => False) W
                  refine id (X_move (v := (.int .i64 (((i : Nat) : Int)))) rfl ?_)
                  exact ⟨hE, rfl⟩
                refine ⟨.det (fun val => (pof cv2 ((((i : Nat) : Int) : Int).toNat * 257))), ⟨fun _ _ hv => rfl, fun _ _ _ _ _ => trivial⟩, fun val h_ W hx he => ⟨trivial, ?_⟩, ?_⟩
                · replace hx := (Upd.drew _ _).trans hx
                  replace hp := hp.ext hx
                  replace hp2 := hp2.ext hx
                  replace hc := hc.ext hx
                  replace hc2 := hc2.ext hx
                  replace hB1 := hB1.ext hx
                  replace hB2 := hB2.ext hx
                  have hE := Upd.refl (fun _ => False) W
                  refine id (X_idx (v := cv2) (n := cs2.length) (k := .i64) (i := ((i : Nat) : Int)) S23 rfl hc2.sv rfl (by omega) (by omega) ?_)
                  exact ⟨hE, rfl⟩
                refine ⟨.det (fun val => (wrV b)), ⟨fun _ _ hv => rfl, fun _ _ _ _ _ => trivial⟩, fun val h_ W hx he => ⟨trivial, ?_⟩, ?_⟩
                · replace hx := (Upd.drew _ _).trans hx
                  replace hp := hp.ext hx
                  replace hp2 := hp2.ext hx
                  replace hc := hc.ext hx
                  replace hc2 := hc2.ext hx
                  replace hB1 := hB1.ext hx
                  replace hB2 := hB2.ext hx
                  have hE := Upd.refl (fun _ => False) W
                  refine id (X_loadA (xs := LW.cel b) A43 rfl (wall hc2 (Int.toNat_natCast _) hbi) (LW.len _) ?_)
                  exact ⟨hE, rfl⟩
                intro val W16 hx16 he16
                replace hx16 := (Upd.drew _ _).trans hx16
                have hz16 := hx16.size
                replace hp := hp.ext hx16
                replace hp2 := hp2.ext hx16
                replace hc := hc.ext hx16
                replace hc2 := hc2.ext hx16
                replace hU := hU.trans (Ext.upd hx16)
                replace hB1 := hB1.ext hx16
                replace hB2 := hB2.ext hx16
                refine L_op rfl (X_eqW (p := a) (q := b) (r := true) Try.underlying43 (by kernel_rfl) (by kernel_rfl) (by decide) ⟨rfl, rfl⟩ Try.underlying3 Try.underlying28 (by kernel_rfl) Try.underlying5 (ie := _) rfl (by kernel_rfl) (by kernel_rfl) rfl rfl (.inr ⟨rfl, by rw [hs14]; rfl⟩) ?_)
                refine L_nil ?_
                refine T_n ?_
                refine W_ct rfl ?_
                refine W_seq ?_
                refine W_reg ?_
                refine L_op rfl (X_assign (v := (.bool (false))) rfl ?_)
                refine L_nil ?_
                refine T_n ?_
                refine W_ret ?_
                refine B_r ?_
                refine T_r ?_
                refine T_r ?_
                refine B_r ?_
                refine T_r ?_
                exact BQ_r (End_1 Try.results23 (v := .bool false) rfl ⟨⟨false, rfl, ⟨fun h => (by cases h), fun h => (by exact absurd h.2.1 (not_same hai hbi (fun h_ => by have h1 := wr_beq.2 h_; rw [hs14] at h1; cases h1)))⟩⟩, hU.own hn0⟩)
            · refine L_op rfl (X_cmp (k := .i64) (a := ((i : Nat) : Int)) (b := ((cs.length : Nat) : Int)) (r := false) rfl rfl rfl (decide_eq_false (p := ((((i : Nat) : Int)) : Int) < ((((cs.length : Nat) : Int)) : Int)) (by omega)) ?_)
              refine L_nil ?_
              refine T_n ?_
              refine W_cf rfl ?_
              refine W_exit ?_
              refine T_e ?_
              refine T_e ?_
              refine B_x ?_
              refine T_n ?_
              refine W_seq ?_
              refine W_reg ?_
              refine L_op rfl (X_assign (v := (.bool (true))) rfl ?_)
              refine L_nil ?_
              refine T_n ?_
              refine W_ret ?_
              exact BQ_r (End_1 Try.results23 (v := .bool true) rfl ⟨⟨true, rfl, ⟨fun _ => ⟨take_eq hzp (by omega) (by omega), take_eq hzc (by omega) (by omega), hgI.1 hc6, by simpa using hoo⟩, fun _ => rfl⟩⟩, hU.own hn0⟩)
        · rw [hc6]
          refine L_gy (dj := 30) rfl rfl rfl (X_not (b := false) (r := true) rfl rfl ?_)
          refine L_op rfl (X_pick (t := false) (v := (.bool (true))) rfl rfl ?_)
          refine L_nil ?_
          refine T_n ?_
          refine W_ct rfl ?_
          refine W_seq ?_
          refine W_reg ?_
          refine L_op rfl (X_assign (v := (.bool (false))) rfl ?_)
          refine L_nil ?_
          refine T_n ?_
          refine W_ret ?_
          refine T_r ?_
          exact BQ_r (End_1 Try.results23 (v := .bool false) rfl ⟨⟨false, rfl, ⟨fun h => (by cases h), fun h => (by have h1 := hgI.2 h.2.2.1; rw [hc6] at h1; cases h1)⟩⟩, hU.own hn0⟩)
      · refine L_gy (dj := 23) rfl rfl rfl (X_cmpBool (a := off) (b := off2) (r := true) Try.underlying4 rfl rfl (.inr ⟨rfl, by rw [hoo]; rfl⟩) ?_)
        refine L_op rfl (X_pick (t := false) (v := (.bool (true))) rfl rfl ?_)
        refine L_op rfl (X_move (v := (.bool (true))) rfl ?_)
        refine L_gn (dj := 30) (t := true) rfl rfl rfl rfl ?_
        refine L_gn (dj := 30) (t := true) rfl rfl rfl rfl ?_
        refine L_gn (dj := 30) (t := true) rfl rfl rfl rfl ?_
        refine L_gn (dj := 30) (t := true) rfl rfl rfl rfl ?_
        refine L_gn (dj := 30) (t := true) rfl rfl rfl rfl ?_
        refine L_gn (dj := 30) (t := true) rfl rfl rfl rfl ?_
        refine L_op rfl (X_pick (t := true) (v := (.bool (true))) rfl rfl ?_)
        refine L_nil ?_
        refine T_n ?_
        refine W_ct rfl ?_
        refine W_seq ?_
        refine W_reg ?_
        refine L_op rfl (X_assign (v := (.bool (false))) rfl ?_)
        refine L_nil ?_
        refine T_n ?_
        refine W_ret ?_
        refine T_r ?_
        exact BQ_r (End_1 Try.results23 (v := .bool false) rfl ⟨⟨false, rfl, ⟨fun h => (by cases h), fun h => (by have h1 := h.2.2.2; rw [h1, beq_self_eq_true] at hoo; cases hoo)⟩⟩, hU.own hn0⟩)

theorem c_same (pv cv bv : Value) (ps : List Pg) (cs : List Wr) (bs : List Int) (off : Bool) (pv2 cv2 bv2 : Value) (ps2 : List Pg) (cs2 : List Wr) (bs2 : List Int) (off2 : Bool) (w : World) (lo up lo2 up2 : Nat) (hp : NRd LP w lo up pv ps) (hc : NRd LW w lo up cv cs) (hb : NRd LI w lo up bv bs) (hp2 : NRd LP w lo2 up2 pv2 ps2) (hc2 : NRd LW w lo2 up2 cv2 cs2) (hb2 : NRd LI w lo2 up2 bv2 bs2) : CT Try.prog 18 #[(.agg #[pv, cv, bv, (.bool (off))]), (.agg #[pv2, cv2, bv2, (.bool (off2))])] w fun v w' => (∃ g, v = .bool g ∧ (g = true ↔ ps = ps2 ∧ cs = cs2 ∧ bs = bs2 ∧ off = off2)) ∧ Ext w w' := by
  obtain ⟨n0, hn0⟩ : ∃ n, n = w.heap.size := ⟨_, rfl⟩
  have hU : Upd (fun i => n0 ≤ i) w w := Upd.refl _ _
  refine CT_of Try.func18 rfl rfl rfl ?_
  refine W_seq ?_
  refine W_reg ?_
  refine L_op rfl (X_box (v := (.agg #[pv, cv, bv, (.bool (off))])) (c := ([pv, cv, bv, (.bool (off))]).toArray) rfl rfl ?_)
  intro b1 w1 hn1
  have hbn1 := hn1.num; have hbs1 := hn1.size
  replace hp := hp.ext hn1.ext
  replace hc := hc.ext hn1.ext
  replace hb := hb.ext hn1.ext
  replace hp2 := hp2.ext hn1.ext
  replace hc2 := hc2.ext hn1.ext
  replace hb2 := hb2.ext hn1.ext
  replace hU := hU.trans (Ext.upd hn1.ext)
  have hB1 := hn1.blk
  refine L_op rfl (X_box (v := (.agg #[pv2, cv2, bv2, (.bool (off2))])) (c := ([pv2, cv2, bv2, (.bool (off2))]).toArray) rfl rfl ?_)
  intro b2 w2 hn2
  have hbn2 := hn2.num; have hbs2 := hn2.size
  replace hp := hp.ext hn2.ext
  replace hc := hc.ext hn2.ext
  replace hb := hb.ext hn2.ext
  replace hp2 := hp2.ext hn2.ext
  replace hc2 := hc2.ext hn2.ext
  replace hb2 := hb2.ext hn2.ext
  replace hU := hU.trans (Ext.upd hn2.ext)
  replace hB1 := hB1.ext hn2.ext
  have hB2 := hn2.blk
  refine L_op rfl (X_assign (v := (.bool (false))) rfl ?_)
  refine L_nil ?_
  refine T_n ?_
  refine W_seq ?_
  refine W_reg ?_
  refine L_op rfl (X_loadA (p := (ptr b1 (0))) (xs := [pv, cv, bv, (.bool (off))]) A26 rfl hB1.atAll rfl ?_)
  refine L_op rfl (X_loadA (p := (ptr b2 (0))) (xs := [pv2, cv2, bv2, (.bool (off2))]) A26 rfl hB2.atAll rfl ?_)
  refine L_op rfl (X_fn (vs := [(.agg ([pv, cv, bv, (.bool (off))]).toArray), (.agg ([pv2, cv2, bv2, (.bool (off2))]).toArray)]) en23 rfl (CT.mono (c_sameR pv cv bv ps cs bs off pv2 cv2 bv2 ps2 cs2 bs2 off2 _ lo up lo2 up2 hp hc hb hp2 hc2 hb2) ?_))
  rintro _ w3 ⟨⟨gS, rfl, hgS⟩, hu3⟩
  have hz3 := hu3.size
  replace hp := hp.ext hu3
  replace hc := hc.ext hu3
  replace hb := hb.ext hu3
  replace hp2 := hp2.ext hu3
  replace hc2 := hc2.ext hu3
  replace hb2 := hb2.ext hu3
  replace hU := hU.trans (Ext.upd hu3)
  replace hB1 := hB1.ext hu3
  replace hB2 := hB2.ext hu3
  refine L_op rfl (X_assign (v := (.bool (gS))) rfl ?_)
  refine L_nil ?_
  refine T_n ?_
  refine W_ret ?_
  exact BQ_r (End_1 Try.results18 (v := .bool gS) rfl ⟨⟨_, rfl, hgS⟩, hU.own hn0⟩)
end Go.Proofs.Ythongcaijgfojaa
