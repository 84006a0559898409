/-
  The walk of FlawFlip. (Printed by wip/gen/t04f.py of this repo.)
-/
import Derived.Test.YtfmgjkchhajpmaaDkE
namespace Go.Proofs.Ytfmgjkchhajpmaa
open Go Go.SL Go.Proofs
set_option linter.unusedVariables false

theorem tmod_lo {a : Int} {n : Nat} (h : 0 < n) : -(n : Int) < a.tmod n ∧ a.tmod n < n := by
  refine ⟨?_, Int.tmod_lt_of_pos a (by omega)⟩
  rcases Int.le_total 0 a with h1 | h1
  · have := Int.tmod_nonneg (n : Int) h1; omega
  · have h2 := Int.tmod_lt_of_pos (-a) (show (0 : Int) < n by omega)
    rw [Int.neg_tmod] at h2
    omega
theorem flipPg_twice (p : Pg) {k : Nat} (hk : k < 256) (y : UInt8) : flipPg (flipPg p k y) k y = p := by
  apply Subtype.ext
  have hl : k < p.1.length := by rw [p.2]; exact hk
  show (p.1.set k (p.1.getD k 0 ^^^ y)).set k ((p.1.set k (p.1.getD k 0 ^^^ y)).getD k 0 ^^^ y) = p.1
  rw [List.set_set]
  have h1 : (p.1.set k (p.1.getD k 0 ^^^ y)).getD k 0 = p.1.getD k 0 ^^^ y := by rw [List.getD_eq_getElem?_getD, List.getElem?_set_self hl]; rfl
  rw [h1, UInt8.xor_assoc, UInt8.xor_self, UInt8.xor_zero]
  apply List.ext_getElem?
  intro j
  rw [List.getElem?_set]
  split
  · rename_i h
    subst h
    rw [List.getD_eq_getElem?_getD, List.getElem?_eq_getElem hl]; rfl
  · rfl
theorem flipP_self {ps : List Pg} {n k : Nat} {p : Pg} {y : UInt8} (hp : ps[n]? = some p) : (flipP ps n k y)[n]? = some (flipPg p k y) := by
  unfold flipP
  rw [List.getElem?_set_self (List.getElem?_eq_some_iff.1 hp).1, List.getD_eq_getElem?_getD, hp]; rfl
theorem flipP_other {ps : List Pg} {n k i : Nat} {y : UInt8} (h : i ≠ n) : (flipP ps n k y)[i]? = ps[i]? := List.getElem?_set_ne (fun h1 => h h1.symm)
theorem flipP_twice {ps : List Pg} {n k : Nat} (hn : n < ps.length) (hk : k < 256) (y : UInt8) : flipP (flipP ps n k y) n k y = ps := by
  obtain ⟨p, hp⟩ : ∃ p, ps[n]? = some p := ⟨_, List.getElem?_eq_getElem hn⟩
  apply List.ext_getElem?
  intro i
  by_cases h : i = n
  · subst h
    rw [flipP_self (flipP_self hp), hp, flipPg_twice p hk]
  · rw [flipP_other h, flipP_other h]

theorem flipPg_cells {p : Pg} {k : Nat} {x : UInt8} (hx : p.1[k]? = some x) (y : UInt8) : ((p.1.map byteV).toArray.setIfInBounds k (byteV (x ^^^ y))) = ((flipPg p k y).1.map byteV).toArray := by
  apply Array.ext'
  rw [Array.toList_setIfInBounds]
  show (p.1.map byteV).set k (byteV (x ^^^ y)) = (p.1.set k (p.1.getD k 0 ^^^ y)).map byteV
  rw [List.getD_eq_getElem?_getD, hx, List.map_set]; rfl

set_option maxRecDepth 10000 in
set_option maxHeartbeats 2000000 in
theorem c_flawFlip (pv cv bv : Value) (ps : List Pg) (cs : List Wr) (bs : List Int) (off : Bool) (m k : Int) (y : UInt8) (w : World) (hp : NRd LP w 0 w.heap.size pv ps) (hc : NRd LW w 0 w.heap.size cv cs) (hb : NRd LI w 0 w.heap.size bv bs) : CT Try.prog 4 #[(.agg #[pv, cv, bv, (.bool (off))]), (.int .i64 (m)), (.int .i64 (k)), (byteV y)] w fun v w' => v = .bool true ∧ Ext w w' := by
  obtain ⟨n0, hn0⟩ : ∃ n, n = w.heap.size := ⟨_, rfl⟩
  have hU : Upd (fun i => n0 ≤ i) w w := Upd.refl _ _
  have hpl := hp.sv.len
  have hcl := hc.sv.len
  have hbl := hb.sv.len
  rw [← hn0] at hp hc hb
  refine CT_of Try.func4 rfl rfl rfl ?_
  refine W_seq ?_
  refine W_reg ?_
  refine L_op rfl (X_box (v := (.agg #[pv, cv, bv, (.bool (off))])) (c := ([pv, cv, bv, (.bool (off))]).toArray) rfl rfl ?_)
  intro b1 w1 hn1
  have hbn1 := hn1.num; have hbs1 := hn1.size
  replace hp := hp.ext hn1.ext
  replace hc := hc.ext hn1.ext
  replace hb := hb.ext hn1.ext
  replace hU := hU.trans (Ext.upd hn1.ext)
  have hB1 := hn1.blk
  refine L_op rfl (X_assign (v := (.bool (false))) rfl ?_)
  refine L_nil ?_
  refine T_n ?_
  refine W_seq ?_
  refine W_seq ?_
  refine W_reg ?_
  refine L_op rfl (X_loadA (p := (ptr b1 (0))) (xs := [pv, cv, bv, (.bool (off))]) A26 rfl hB1.atAll rfl ?_)
  refine L_op rfl (X_fn (vs := [(.agg ([pv, cv, bv, (.bool (off))]).toArray)]) en7 rfl (CT.mono (c_great4 pv cv bv ps cs bs off _ 0 n0 hp hc hb) ?_))
  rintro _ w2 ⟨⟨gG, rfl, hgG⟩, hu2⟩
  have hz2 := hu2.size
  replace hp := hp.ext hu2
  replace hc := hc.ext hu2
  replace hb := hb.ext hu2
  replace hU := hU.trans (Ext.upd hu2)
  replace hB1 := hB1.ext hu2
  rcases Bool.eq_false_or_eq_true (gG) with hc3 | hc3
  · rw [hc3]
    refine L_op rfl (X_move (v := (.bool (true))) rfl ?_)
    refine L_gn (dj := 24) (t := true) rfl rfl rfl rfl ?_
    refine L_gn (dj := 24) (t := true) rfl rfl rfl rfl ?_
    refine L_gn (dj := 24) (t := true) rfl rfl rfl rfl ?_
    refine L_gn (dj := 24) (t := true) rfl rfl rfl rfl ?_
    refine L_op rfl (X_pick (t := true) (v := (.bool (true))) rfl rfl ?_)
    refine L_nil ?_
    refine T_n ?_
    refine W_ct rfl ?_
    refine W_seq ?_
    refine W_reg ?_
    refine L_op rfl (X_fn (vs := []) en8 rfl (CT.mono (c_wakes4 _) ?_))
    rintro vb4 w4 ⟨hvb4, hu4⟩
    have hz4 := hu4.size
    replace hp := hp.ext hu4
    replace hc := hc.ext hu4
    replace hb := hb.ext hu4
    replace hU := hU.trans (Ext.upd hu4)
    replace hB1 := hB1.ext hu4
    subst hvb4
    refine L_op rfl (X_assign (v := (.bool (true))) rfl ?_)
    refine L_nil ?_
    refine T_n ?_
    refine W_ret ?_
    refine T_r ?_
    exact BQ_r (End_1 Try.results4 (v := .bool true) rfl ⟨rfl, hU.own hn0⟩)
  · rw [hc3]
    refine L_op rfl (X_move (v := (.bool (false))) rfl ?_)
    refine L_gy (dj := 24) rfl rfl rfl (X_fldP (b := b1) (o := 0) (r := 0) Fd26_0 rfl rfl ?_)
    refine L_gy (dj := 24) rfl rfl rfl (X_load (p := (ptr b1 (0))) (v := pv) T22 rfl (hB1.at1 rfl) ?_)
    refine L_gy (dj := 24) rfl rfl rfl (X_len (v := pv) (n := ps.length) Try.underlying22 rfl hp.sv ?_)
    by_cases hc5 : (((ps.length : Nat) : Int) : Int) = (0)
    · refine L_gy (dj := 24) rfl rfl rfl (X_cmp (k := .i64) (a := ((ps.length : Nat) : Int)) (b := 0) (r := true) rfl rfl rfl (decide_eq_true (p := ((((ps.length : Nat) : Int)) : Int) = ((0) : Int)) (by omega)) ?_)
      refine L_op rfl (X_pick (t := false) (v := (.bool (true))) rfl rfl ?_)
      refine L_nil ?_
      refine T_n ?_
      refine W_ct rfl ?_
      refine W_seq ?_
      refine W_reg ?_
      refine L_op rfl (X_fn (vs := []) en8 rfl (CT.mono (c_wakes4 _) ?_))
      rintro vb6 w6 ⟨hvb6, hu6⟩
      have hz6 := hu6.size
      replace hp := hp.ext hu6
      replace hc := hc.ext hu6
      replace hb := hb.ext hu6
      replace hU := hU.trans (Ext.upd hu6)
      replace hB1 := hB1.ext hu6
      subst hvb6
      refine L_op rfl (X_assign (v := (.bool (true))) rfl ?_)
      refine L_nil ?_
      refine T_n ?_
      refine W_ret ?_
      refine T_r ?_
      exact BQ_r (End_1 Try.results4 (v := .bool true) rfl ⟨rfl, hU.own hn0⟩)
    · refine L_gy (dj := 24) rfl rfl rfl (X_cmp (k := .i64) (a := ((ps.length : Nat) : Int)) (b := 0) (r := false) rfl rfl rfl (decide_eq_false (p := ((((ps.length : Nat) : Int)) : Int) = ((0) : Int)) (by omega)) ?_)
      refine L_op rfl (X_pick (t := false) (v := (.bool (false))) rfl rfl ?_)
      refine L_nil ?_
      refine T_n ?_
      refine W_cf rfl ?_
      refine W_skip ?_
      refine T_n ?_
      refine W_seq ?_
      have hgd := hgG hc3
      obtain ⟨q, hq⟩ : ∃ q, q = m.tmod ((ps.length : Nat) : Int) := ⟨_, rfl⟩
      have hql := tmod_lo (a := m) (n := ps.length) (by omega)
      rw [← hq] at hql
      obtain ⟨A, hA0⟩ : ∃ A : Nat, ((A : Nat) : Int) = (q + ((ps.length : Nat) : Int)) % ((ps.length : Nat) : Int) := ⟨((q + ((ps.length : Nat) : Int)) % ((ps.length : Nat) : Int)).toNat, Int.toNat_of_nonneg (Int.emod_nonneg _ (by omega))⟩
      have hAl : A < ps.length := by have h := Int.emod_lt_of_pos (q + ((ps.length : Nat) : Int)) (show (0 : Int) < ((ps.length : Nat) : Int) by omega); rw [← hA0] at h; omega
      obtain ⟨q2, hq2⟩ : ∃ q, q = k.tmod 256 := ⟨_, rfl⟩
      have hql2 : -256 < q2 ∧ q2 < 256 := by rw [hq2]; exact tmod_lo (a := k) (n := 256) (by decide)
      obtain ⟨K, hK0⟩ : ∃ A : Nat, ((A : Nat) : Int) = (q2 + 256) % 256 := ⟨((q2 + 256) % 256).toNat, Int.toNat_of_nonneg (by omega)⟩
      have hKl : K < 256 := by omega
      obtain ⟨po, hpo⟩ : ∃ x, ps[A]? = some x := ⟨_, List.getElem?_eq_getElem hAl⟩
      obtain ⟨x0, hx0⟩ : ∃ x, po.1[K]? = some x := ⟨_, List.getElem?_eq_getElem (by rw [po.2]; exact hKl)⟩
      have htw := flipP_twice hAl hKl y
      have hqa := flipP_length ps A K y
      refine W_draw 12 [[], [], [1], [1, 2], [0, 1, 2, 3], [], [5], [5, 6], [0, 1, 2, 3, 4, 5, 6, 7], [], [9], [9, 10], [0, 1, 2, 3, 4, 5, 6, 7, 8, 9, 10, 11], [0, 1, 2, 3, 4, 5, 6, 7, 8, 9, 10, 11, 12]] mixed (by kernel_rfl) ?_
      refine ⟨.det (fun val => (.int .i64 (m))), ⟨fun _ _ hv => rfl, fun _ _ _ _ _ => trivial⟩, fun val h_ W hx he => ⟨trivial, ?_⟩, ?_⟩
      · replace hx := (Upd.drew _ _).trans hx
        replace hp := hp.ext hx
        replace hc := hc.ext hx
        replace hb := hb.ext hx
        replace hB1 := hB1.ext hx
        have hE := Upd.refl (fun _ => False) W
        refine id (X_move (v := (.int .i64 (m))) rfl ?_)
        exact ⟨hE, rfl⟩
      refine ⟨.det (fun val => (ptr b1 (0))), ⟨fun _ _ hv => rfl, fun _ _ _ _ _ => trivial⟩, fun val h_ W hx he => ⟨trivial, ?_⟩, ?_⟩
      · replace hx := (Upd.drew _ _).trans hx
        replace hp := hp.ext hx
        replace hc := hc.ext hx
        replace hb := hb.ext hx
        replace hB1 := hB1.ext hx
        have hE := Upd.refl (fun _ => False) W
        refine id (X_fldP (b := b1) (o := 0) (r := 0) Fd26_0 rfl rfl ?_)
        exact ⟨hE, rfl⟩
      refine ⟨.det (fun val => pv), ⟨fun _ _ hv => rfl, fun _ _ _ _ _ => trivial⟩, fun val h_ W hx he => ⟨trivial, ?_⟩, ?_⟩
      · replace hx := (Upd.drew _ _).trans hx
        replace hp := hp.ext hx
        replace hc := hc.ext hx
        replace hb := hb.ext hx
        replace hB1 := hB1.ext hx
        have hE := Upd.refl (fun _ => False) W
        refine id (X_load (p := (ptr b1 (0))) (v := pv) T22 rfl (hB1.at1 rfl) ?_)
        exact ⟨hE, rfl⟩
      refine ⟨.det (fun val => (.int .i64 (((ps.length : Nat) : Int)))), ⟨fun _ _ hv => rfl, fun _ _ _ _ _ => trivial⟩, fun val h_ W hx he => ⟨trivial, ?_⟩, ?_⟩
      · replace hx := (Upd.drew _ _).trans hx
        replace hp := hp.ext hx
        replace hc := hc.ext hx
        replace hb := hb.ext hx
        replace hB1 := hB1.ext hx
        have hE := Upd.refl (fun _ => False) W
        refine id (X_len (v := pv) (n := ps.length) Try.underlying22 rfl hp.sv ?_)
        exact ⟨hE, rfl⟩
      refine ⟨.det (fun val => (.int .i64 (q))), ⟨fun _ _ hv => rfl, fun _ _ _ _ _ => trivial⟩, fun val h_ W hx he => ⟨trivial, ?_⟩, ?_⟩
      · replace hx := (Upd.drew _ _).trans hx
        replace hp := hp.ext hx
        replace hc := hc.ext hx
        replace hb := hb.ext hx
        replace hB1 := hB1.ext hx
        have hE := Upd.refl (fun _ => False) W
        refine id (X_arith (k := .i64) (a := m) (b := ((ps.length : Nat) : Int)) (r := q) (decide_eq_true (by omega)) rfl rfl hq.symm ?_)
        exact ⟨hE, rfl⟩
      refine ⟨.det (fun val => (ptr b1 (0))), ⟨fun _ _ hv => rfl, fun _ _ _ _ _ => trivial⟩, fun val h_ W hx he => ⟨trivial, ?_⟩, ?_⟩
      · replace hx := (Upd.drew _ _).trans hx
        replace hp := hp.ext hx
        replace hc := hc.ext hx
        replace hb := hb.ext hx
        replace hB1 := hB1.ext hx
        have hE := Upd.refl (fun _ => False) W
        refine id (X_fldP (b := b1) (o := 0) (r := 0) Fd26_0 rfl rfl ?_)
        exact ⟨hE, rfl⟩
      refine ⟨.det (fun val => pv), ⟨fun _ _ hv => rfl, fun _ _ _ _ _ => trivial⟩, fun val h_ W hx he => ⟨trivial, ?_⟩, ?_⟩
      · replace hx := (Upd.drew _ _).trans hx
        replace hp := hp.ext hx
        replace hc := hc.ext hx
        replace hb := hb.ext hx
        replace hB1 := hB1.ext hx
        have hE := Upd.refl (fun _ => False) W
        refine id (X_load (p := (ptr b1 (0))) (v := pv) T22 rfl (hB1.at1 rfl) ?_)
        exact ⟨hE, rfl⟩
      refine ⟨.det (fun val => (.int .i64 (((ps.length : Nat) : Int)))), ⟨fun _ _ hv => rfl, fun _ _ _ _ _ => trivial⟩, fun val h_ W hx he => ⟨trivial, ?_⟩, ?_⟩
      · replace hx := (Upd.drew _ _).trans hx
        replace hp := hp.ext hx
        replace hc := hc.ext hx
        replace hb := hb.ext hx
        replace hB1 := hB1.ext hx
        have hE := Upd.refl (fun _ => False) W
        refine id (X_len (v := pv) (n := ps.length) Try.underlying22 rfl hp.sv ?_)
        exact ⟨hE, rfl⟩
      refine ⟨.det (fun val => (.int .i64 (q + ((ps.length : Nat) : Int)))), ⟨fun _ _ hv => rfl, fun _ _ _ _ _ => trivial⟩, fun val h_ W hx he => ⟨trivial, ?_⟩, ?_⟩
      · replace hx := (Upd.drew _ _).trans hx
        replace hp := hp.ext hx
        replace hc := hc.ext hx
        replace hb := hb.ext hx
        replace hB1 := hB1.ext hx
        have hE := Upd.refl (fun _ => False) W
        refine id (X_arith (k := .i64) (a := q) (b := ((ps.length : Nat) : Int)) (r := q + ((ps.length : Nat) : Int)) rfl rfl rfl (iadd64 rfl (by omega) (by omega)) ?_)
        exact ⟨hE, rfl⟩
      refine ⟨.det (fun val => (ptr b1 (0))), ⟨fun _ _ hv => rfl, fun _ _ _ _ _ => trivial⟩, fun val h_ W hx he => ⟨trivial, ?_⟩, ?_⟩
      · replace hx := (Upd.drew _ _).trans hx
        replace hp := hp.ext hx
        replace hc := hc.ext hx
        replace hb := hb.ext hx
        replace hB1 := hB1.ext hx
        have hE := Upd.refl (fun _ => False) W
        refine id (X_fldP (b := b1) (o := 0) (r := 0) Fd26_0 rfl rfl ?_)
        exact ⟨hE, rfl⟩
      refine ⟨.det (fun val => pv), ⟨fun _ _ hv => rfl, fun _ _ _ _ _ => trivial⟩, fun val h_ W hx he => ⟨trivial, ?_⟩, ?_⟩
      · replace hx := (Upd.drew _ _).trans hx
        replace hp := hp.ext hx
        replace hc := hc.ext hx
        replace hb := hb.ext hx
        replace hB1 := hB1.ext hx
        have hE := Upd.refl (fun _ => False) W
        refine id (X_load (p := (ptr b1 (0))) (v := pv) T22 rfl (hB1.at1 rfl) ?_)
        exact ⟨hE, rfl⟩
      refine ⟨.det (fun val => (.int .i64 (((ps.length : Nat) : Int)))), ⟨fun _ _ hv => rfl, fun _ _ _ _ _ => trivial⟩, fun val h_ W hx he => ⟨trivial, ?_⟩, ?_⟩
      · replace hx := (Upd.drew _ _).trans hx
        replace hp := hp.ext hx
        replace hc := hc.ext hx
        replace hb := hb.ext hx
        replace hB1 := hB1.ext hx
        have hE := Upd.refl (fun _ => False) W
        refine id (X_len (v := pv) (n := ps.length) Try.underlying22 rfl hp.sv ?_)
        exact ⟨hE, rfl⟩
      intro val W7 hx7 he7
      replace hx7 := (Upd.drew _ _).trans hx7
      have hz7 := hx7.size
      replace hp := hp.ext hx7
      replace hc := hc.ext hx7
      replace hb := hb.ext hx7
      replace hU := hU.trans (Ext.upd hx7)
      replace hB1 := hB1.ext hx7
      refine L_op rfl (X_arith (k := .i64) (a := q + ((ps.length : Nat) : Int)) (b := ((ps.length : Nat) : Int)) (r := ((A : Nat) : Int)) (decide_eq_true (by omega)) rfl rfl (irem64 (by omega) hA0) ?_)
      refine L_op rfl (X_assign (v := (.int .i64 (((A : Nat) : Int)))) rfl ?_)
      refine L_nil ?_
      refine T_n ?_
      refine W_seq ?_
      refine W_reg ?_
      refine L_op rfl (X_move (v := (.int .i64 (k))) rfl ?_)
      refine L_op rfl (X_arith (k := .i64) (a := k) (b := 256) (r := q2) rfl rfl rfl hq2.symm ?_)
      refine L_op rfl (X_arith (k := .i64) (a := q2) (b := 256) (r := q2 + 256) rfl rfl rfl (iadd64 rfl (by omega) (by omega)) ?_)
      refine L_op rfl (X_arith (k := .i64) (a := q2 + 256) (b := 256) (r := ((K : Nat) : Int)) rfl rfl rfl (irem64 (by omega) hK0) ?_)
      refine L_op rfl (X_assign (v := (.int .i64 (((K : Nat) : Int)))) rfl ?_)
      refine L_nil ?_
      refine T_n ?_
      refine W_seq ?_
      refine W_reg ?_
      refine L_op rfl (X_loadA (p := (ptr b1 (0))) (xs := [pv, cv, bv, (.bool (off))]) A26 rfl hB1.atAll rfl ?_)
      obtain ⟨s_w, hs_w⟩ : ∃ n, n = W7.heap.size := ⟨_, rfl⟩
      refine L_op rfl (X_fn (vs := [(.agg ([pv, cv, bv, (.bool (off))]).toArray)]) en12 rfl (CT.mono (c_ownR pv cv bv ps cs bs off _ 0 n0 (by omega) hp hc hb (by omega) (by omega) (by omega)) ?_))
      rintro _ w8 ⟨p_w, c_w, i_w, rfl, hPw, hCw, hIw, hu8⟩
      have hz8 := hu8.size
      replace hp := hp.ext hu8
      replace hc := hc.ext hu8
      replace hb := hb.ext hu8
      replace hU := hU.trans (Ext.upd hu8)
      replace hB1 := hB1.ext hu8
      obtain ⟨u_w, hu_w⟩ : ∃ n, n = w8.heap.size := ⟨_, rfl⟩
      rw [← hs_w, ← hu_w] at hPw hCw hIw
      refine L_op rfl (X_alloc (z := (.agg #[(.slice none 0 0), (.slice none 0 0), (.slice none 0 0), (.bool (false))])) (c := #[(.slice none 0 0), (.slice none 0 0), (.slice none 0 0), (.bool (false))]) Zv26 rfl ?_)
      intro b9 w9 hn9
      have hbn9 := hn9.num; have hbs9 := hn9.size
      replace hp := hp.ext hn9.ext
      replace hc := hc.ext hn9.ext
      replace hb := hb.ext hn9.ext
      replace hU := hU.trans (Ext.upd hn9.ext)
      replace hB1 := hB1.ext hn9.ext
      replace hPw := hPw.ext hn9.ext
      replace hCw := hCw.ext hn9.ext
      replace hIw := hIw.ext hn9.ext
      have hB9 := hn9.blk
      refine L_op0 (X_storeW (b := b9) (ys := [p_w, c_w, i_w, (.bool (off))]) A26 rfl rfl (List.forall_mem_cons.2 ⟨(hPw.1.sv.one), (List.forall_mem_cons.2 ⟨(hCw.1.sv.one), (List.forall_mem_cons.2 ⟨(hIw.1.sv.one), (List.forall_mem_cons.2 ⟨rfl, (fun _ h => by cases h)⟩)⟩)⟩)⟩) rfl hB9 rfl ?_)
      intro w10 hu10 hb10
      have hz10 := hu10.size
      replace hp := hp.upd hu10 fun i h1 h2 h => by have h : i = b9 := h; omega
      replace hc := hc.upd hu10 fun i h1 h2 h => by have h : i = b9 := h; omega
      replace hb := hb.upd hu10 fun i h1 h2 h => by have h : i = b9 := h; omega
      replace hU := hU.trans (hu10.mono fun i _ h => by have h : i = b9 := h; show n0 ≤ i; omega)
      replace hB1 := hB1.upd hu10 fun h => by have h : b1 = b9 := h; omega
      replace hPw := hPw.upd hu10 fun i h1 h2 h => by have h : i = b9 := h; omega
      replace hCw := hCw.upd hu10 fun i h1 h2 h => by have h : i = b9 := h; omega
      replace hIw := hIw.upd hu10 fun i h1 h2 h => by have h : i = b9 := h; omega
      replace hB9 : Blk w10 b9 #[p_w, c_w, i_w, (.bool (off))] 26 := hb10
      refine L_nil ?_
      refine T_n ?_
      refine W_seq ?_
      refine W_reg ?_
      refine L_op rfl (X_loadA (p := (ptr b1 (0))) (xs := [pv, cv, bv, (.bool (off))]) A26 rfl hB1.atAll rfl ?_)
      refine L_op rfl (X_move (v := (.int .i64 (((A : Nat) : Int)))) rfl ?_)
      refine L_op rfl (X_move (v := (.int .i64 (((K : Nat) : Int)))) rfl ?_)
      refine L_op rfl (X_move (v := (byteV y)) rfl ?_)
      obtain ⟨s_a, hs_a⟩ : ∃ n, n = w10.heap.size := ⟨_, rfl⟩
      refine L_op rfl (X_fn (vs := [(.agg ([pv, cv, bv, (.bool (off))]).toArray), (.int .i64 (((A : Nat) : Int))), (.int .i64 (((K : Nat) : Int))), (byteV y)]) en13 rfl (CT.mono (c_flip pv cv bv ps cs bs off ((A : Nat) : Int) ((K : Nat) : Int) y _ 0 n0 (by omega) hp hc hb (by omega) (by omega) (by omega)) ?_))
      rintro _ w11 ⟨p_a, c_a, i_a, q_a, e_a, rfl, hPa, hCa, hIa, hoka, hnoa, hu11⟩
      have hz11 := hu11.size
      replace hp := hp.ext hu11
      replace hc := hc.ext hu11
      replace hb := hb.ext hu11
      replace hU := hU.trans (Ext.upd hu11)
      replace hB1 := hB1.ext hu11
      replace hPw := hPw.ext hu11
      replace hCw := hCw.ext hu11
      replace hIw := hIw.ext hu11
      replace hB9 := hB9.ext hu11
      obtain ⟨h1_, h2_⟩ := hoka ⟨by omega, by omega, by omega, by omega⟩
      rw [Int.toNat_natCast, Int.toNat_natCast] at h2_
      subst h1_
      rw [h2_] at hPa
      obtain ⟨u_a, hu_a⟩ : ∃ n, n = w11.heap.size := ⟨_, rfl⟩
      rw [← hs_a, ← hu_a] at hPa hCa hIa
      refine L_op rfl (X_move (v := (.tuple #[(.agg #[p_a, c_a, i_a, (.bool (off))]), (.int .i64 (0))])) rfl ?_)
      refine L_op rfl (X_extract (l := [(.agg #[p_a, c_a, i_a, (.bool (off))]), (.int .i64 (0))]) (v := (.agg #[p_a, c_a, i_a, (.bool (off))])) rfl rfl ?_)
      refine L_op rfl (X_extract (l := [(.agg #[p_a, c_a, i_a, (.bool (off))]), (.int .i64 (0))]) (v := (.int .i64 (0))) rfl rfl ?_)
      refine L_op rfl (X_alloc (z := (.agg #[(.slice none 0 0), (.slice none 0 0), (.slice none 0 0), (.bool (false))])) (c := #[(.slice none 0 0), (.slice none 0 0), (.slice none 0 0), (.bool (false))]) Zv26 rfl ?_)
      intro b12 w12 hn12
      have hbn12 := hn12.num; have hbs12 := hn12.size
      replace hp := hp.ext hn12.ext
      replace hc := hc.ext hn12.ext
      replace hb := hb.ext hn12.ext
      replace hU := hU.trans (Ext.upd hn12.ext)
      replace hB1 := hB1.ext hn12.ext
      replace hPw := hPw.ext hn12.ext
      replace hCw := hCw.ext hn12.ext
      replace hIw := hIw.ext hn12.ext
      replace hB9 := hB9.ext hn12.ext
      replace hPa := hPa.ext hn12.ext
      replace hCa := hCa.ext hn12.ext
      replace hIa := hIa.ext hn12.ext
      have hB12 := hn12.blk
      refine L_op0 (X_storeW (b := b12) (ys := [p_a, c_a, i_a, (.bool (off))]) A26 rfl rfl (List.forall_mem_cons.2 ⟨(hPa.1.sv.one), (List.forall_mem_cons.2 ⟨(hCa.1.sv.one), (List.forall_mem_cons.2 ⟨(hIa.1.sv.one), (List.forall_mem_cons.2 ⟨rfl, (fun _ h => by cases h)⟩)⟩)⟩)⟩) rfl hB12 rfl ?_)
      intro w13 hu13 hb13
      have hz13 := hu13.size
      replace hp := hp.upd hu13 fun i h1 h2 h => by have h : i = b12 := h; omega
      replace hc := hc.upd hu13 fun i h1 h2 h => by have h : i = b12 := h; omega
      replace hb := hb.upd hu13 fun i h1 h2 h => by have h : i = b12 := h; omega
      replace hU := hU.trans (hu13.mono fun i _ h => by have h : i = b12 := h; show n0 ≤ i; omega)
      replace hB1 := hB1.upd hu13 fun h => by have h : b1 = b12 := h; omega
      replace hPw := hPw.upd hu13 fun i h1 h2 h => by have h : i = b12 := h; omega
      replace hCw := hCw.upd hu13 fun i h1 h2 h => by have h : i = b12 := h; omega
      replace hIw := hIw.upd hu13 fun i h1 h2 h => by have h : i = b12 := h; omega
      replace hB9 := hB9.upd hu13 fun h => by have h : b9 = b12 := h; omega
      replace hPa := hPa.upd hu13 fun i h1 h2 h => by have h : i = b12 := h; omega
      replace hCa := hCa.upd hu13 fun i h1 h2 h => by have h : i = b12 := h; omega
      replace hIa := hIa.upd hu13 fun i h1 h2 h => by have h : i = b12 := h; omega
      replace hB12 : Blk w13 b12 #[p_a, c_a, i_a, (.bool (off))] 26 := hb13
      refine L_op rfl (X_assign (v := (.int .i64 (0))) rfl ?_)
      refine L_nil ?_
      refine T_n ?_
      refine W_seq ?_
      refine W_reg ?_
      refine L_op rfl (X_loadA (p := (ptr b12 (0))) (xs := [p_a, c_a, i_a, (.bool (off))]) A26 rfl hB12.atAll rfl ?_)
      refine L_op rfl (X_move (v := (.int .i64 (((A : Nat) : Int)))) rfl ?_)
      refine L_op rfl (X_move (v := (.int .i64 (((K : Nat) : Int)))) rfl ?_)
      refine L_op rfl (X_move (v := (byteV y)) rfl ?_)
      obtain ⟨s_b, hs_b⟩ : ∃ n, n = w13.heap.size := ⟨_, rfl⟩
      refine L_op rfl (X_fn (vs := [(.agg ([p_a, c_a, i_a, (.bool (off))]).toArray), (.int .i64 (((A : Nat) : Int))), (.int .i64 (((K : Nat) : Int))), (byteV y)]) en13 rfl (CT.mono (c_flip p_a c_a i_a (flipP ps A K y) cs bs off ((A : Nat) : Int) ((K : Nat) : Int) y _ s_a u_a (by omega) hPa.rd hCa.rd hIa.rd (by omega) (by omega) (by omega)) ?_))
      rintro _ w14 ⟨p_b, c_b, i_b, q_b, e_b, rfl, hPb, hCb, hIb, hokb, hnob, hu14⟩
      have hz14 := hu14.size
      replace hp := hp.ext hu14
      replace hc := hc.ext hu14
      replace hb := hb.ext hu14
      replace hU := hU.trans (Ext.upd hu14)
      replace hB1 := hB1.ext hu14
      replace hPw := hPw.ext hu14
      replace hCw := hCw.ext hu14
      replace hIw := hIw.ext hu14
      replace hB9 := hB9.ext hu14
      replace hPa := hPa.ext hu14
      replace hCa := hCa.ext hu14
      replace hIa := hIa.ext hu14
      replace hB12 := hB12.ext hu14
      obtain ⟨h1_, h2_⟩ := hokb ⟨by omega, by omega, by omega, by omega⟩
      rw [Int.toNat_natCast, Int.toNat_natCast] at h2_
      subst h1_
      rw [h2_] at hPb
      obtain ⟨u_b, hu_b⟩ : ∃ n, n = w14.heap.size := ⟨_, rfl⟩
      rw [← hs_b, ← hu_b] at hPb hCb hIb
      refine L_op rfl (X_move (v := (.tuple #[(.agg #[p_b, c_b, i_b, (.bool (off))]), (.int .i64 (0))])) rfl ?_)
      refine L_op rfl (X_extract (l := [(.agg #[p_b, c_b, i_b, (.bool (off))]), (.int .i64 (0))]) (v := (.agg #[p_b, c_b, i_b, (.bool (off))])) rfl rfl ?_)
      refine L_op rfl (X_extract (l := [(.agg #[p_b, c_b, i_b, (.bool (off))]), (.int .i64 (0))]) (v := (.int .i64 (0))) rfl rfl ?_)
      refine L_op rfl (X_alloc (z := (.agg #[(.slice none 0 0), (.slice none 0 0), (.slice none 0 0), (.bool (false))])) (c := #[(.slice none 0 0), (.slice none 0 0), (.slice none 0 0), (.bool (false))]) Zv26 rfl ?_)
      intro b15 w15 hn15
      have hbn15 := hn15.num; have hbs15 := hn15.size
      replace hp := hp.ext hn15.ext
      replace hc := hc.ext hn15.ext
      replace hb := hb.ext hn15.ext
      replace hU := hU.trans (Ext.upd hn15.ext)
      replace hB1 := hB1.ext hn15.ext
      replace hPw := hPw.ext hn15.ext
      replace hCw := hCw.ext hn15.ext
      replace hIw := hIw.ext hn15.ext
      replace hB9 := hB9.ext hn15.ext
      replace hPa := hPa.ext hn15.ext
      replace hCa := hCa.ext hn15.ext
      replace hIa := hIa.ext hn15.ext
      replace hB12 := hB12.ext hn15.ext
      replace hPb := hPb.ext hn15.ext
      replace hCb := hCb.ext hn15.ext
      replace hIb := hIb.ext hn15.ext
      have hB15 := hn15.blk
      refine L_op0 (X_storeW (b := b15) (ys := [p_b, c_b, i_b, (.bool (off))]) A26 rfl rfl (List.forall_mem_cons.2 ⟨(hPb.1.sv.one), (List.forall_mem_cons.2 ⟨(hCb.1.sv.one), (List.forall_mem_cons.2 ⟨(hIb.1.sv.one), (List.forall_mem_cons.2 ⟨rfl, (fun _ h => by cases h)⟩)⟩)⟩)⟩) rfl hB15 rfl ?_)
      intro w16 hu16 hb16
      have hz16 := hu16.size
      replace hp := hp.upd hu16 fun i h1 h2 h => by have h : i = b15 := h; omega
      replace hc := hc.upd hu16 fun i h1 h2 h => by have h : i = b15 := h; omega
      replace hb := hb.upd hu16 fun i h1 h2 h => by have h : i = b15 := h; omega
      replace hU := hU.trans (hu16.mono fun i _ h => by have h : i = b15 := h; show n0 ≤ i; omega)
      replace hB1 := hB1.upd hu16 fun h => by have h : b1 = b15 := h; omega
      replace hPw := hPw.upd hu16 fun i h1 h2 h => by have h : i = b15 := h; omega
      replace hCw := hCw.upd hu16 fun i h1 h2 h => by have h : i = b15 := h; omega
      replace hIw := hIw.upd hu16 fun i h1 h2 h => by have h : i = b15 := h; omega
      replace hB9 := hB9.upd hu16 fun h => by have h : b9 = b15 := h; omega
      replace hPa := hPa.upd hu16 fun i h1 h2 h => by have h : i = b15 := h; omega
      replace hCa := hCa.upd hu16 fun i h1 h2 h => by have h : i = b15 := h; omega
      replace hIa := hIa.upd hu16 fun i h1 h2 h => by have h : i = b15 := h; omega
      replace hB12 := hB12.upd hu16 fun h => by have h : b12 = b15 := h; omega
      replace hPb := hPb.upd hu16 fun i h1 h2 h => by have h : i = b15 := h; omega
      replace hCb := hCb.upd hu16 fun i h1 h2 h => by have h : i = b15 := h; omega
      replace hIb := hIb.upd hu16 fun i h1 h2 h => by have h : i = b15 := h; omega
      replace hB15 : Blk w16 b15 #[p_b, c_b, i_b, (.bool (off))] 26 := hb16
      refine L_op rfl (X_assign (v := (.int .i64 (0))) rfl ?_)
      refine L_nil ?_
      refine T_n ?_
      refine W_seq ?_
      refine W_seq ?_
      refine W_reg ?_
      refine L_op rfl (X_move (v := (.int .i64 (0))) rfl ?_)
      refine L_op rfl (X_cmp (k := .i64) (a := 0) (b := 0) (r := false) rfl rfl rfl rfl ?_)
      refine L_op rfl (X_move (v := (.bool (false))) rfl ?_)
      refine L_gy (dj := 68) rfl rfl rfl (X_move (v := (.int .i64 (0))) rfl ?_)
      refine L_gy (dj := 68) rfl rfl rfl (X_cmp (k := .i64) (a := 0) (b := 0) (r := false) rfl rfl rfl rfl ?_)
      refine L_op rfl (X_pick (t := false) (v := (.bool (false))) rfl rfl ?_)
      refine L_op rfl (X_move (v := (.bool (false))) rfl ?_)
      refine L_gy (dj := 72) rfl rfl rfl (X_loadA (p := (ptr b15 (0))) (xs := [p_b, c_b, i_b, (.bool (off))]) A26 rfl hB15.atAll rfl ?_)
      refine L_gy (dj := 72) rfl rfl rfl (X_loadA (p := (ptr b1 (0))) (xs := [pv, cv, bv, (.bool (off))]) A26 rfl hB1.atAll rfl ?_)
      refine L_gy (dj := 72) rfl rfl rfl (X_fn (vs := [(.agg ([p_b, c_b, i_b, (.bool (off))]).toArray), (.agg ([pv, cv, bv, (.bool (off))]).toArray)]) en11 rfl (CT.mono (c_same4 p_b c_b i_b (flipP (flipP ps A K y) A K y) cs bs off pv cv bv ps cs bs off _ s_b u_b 0 n0  hPb.rd hCb.rd hIb.rd hp hc hb) ?_))
      rintro _ w17 ⟨⟨g17, rfl, hg17⟩, hu17⟩
      have hz17 := hu17.size
      replace hp := hp.ext hu17
      replace hc := hc.ext hu17
      replace hb := hb.ext hu17
      replace hU := hU.trans (Ext.upd hu17)
      replace hB1 := hB1.ext hu17
      replace hPw := hPw.ext hu17
      replace hCw := hCw.ext hu17
      replace hIw := hIw.ext hu17
      replace hB9 := hB9.ext hu17
      replace hPa := hPa.ext hu17
      replace hCa := hCa.ext hu17
      replace hIa := hIa.ext hu17
      replace hB12 := hB12.ext hu17
      replace hPb := hPb.ext hu17
      replace hCb := hCb.ext hu17
      replace hIb := hIb.ext hu17
      replace hB15 := hB15.ext hu17
      obtain rfl : g17 = true := hg17.2 ⟨htw, rfl, rfl, rfl⟩
      refine L_gy (dj := 72) rfl rfl rfl (X_not (b := true) (r := false) rfl rfl ?_)
      refine L_op rfl (X_pick (t := false) (v := (.bool (false))) rfl rfl ?_)
      refine L_op rfl (X_move (v := (.bool (false))) rfl ?_)
      refine L_gy (dj := 78) rfl rfl rfl (X_loadA (p := (ptr b1 (0))) (xs := [pv, cv, bv, (.bool (off))]) A26 rfl hB1.atAll rfl ?_)
      refine L_gy (dj := 78) rfl rfl rfl (X_loadA (p := (ptr b9 (0))) (xs := [p_w, c_w, i_w, (.bool (off))]) A26 rfl hB9.atAll rfl ?_)
      refine L_gy (dj := 78) rfl rfl rfl (X_fn (vs := [(.agg ([pv, cv, bv, (.bool (off))]).toArray), (.agg ([p_w, c_w, i_w, (.bool (off))]).toArray)]) en11 rfl (CT.mono (c_same4 pv cv bv ps cs bs off p_w c_w i_w ps cs bs off _ 0 n0 s_w u_w  hp hc hb hPw.rd hCw.rd hIw.rd) ?_))
      rintro _ w18 ⟨⟨g18, rfl, hg18⟩, hu18⟩
      have hz18 := hu18.size
      replace hp := hp.ext hu18
      replace hc := hc.ext hu18
      replace hb := hb.ext hu18
      replace hU := hU.trans (Ext.upd hu18)
      replace hB1 := hB1.ext hu18
      replace hPw := hPw.ext hu18
      replace hCw := hCw.ext hu18
      replace hIw := hIw.ext hu18
      replace hB9 := hB9.ext hu18
      replace hPa := hPa.ext hu18
      replace hCa := hCa.ext hu18
      replace hIa := hIa.ext hu18
      replace hB12 := hB12.ext hu18
      replace hPb := hPb.ext hu18
      replace hCb := hCb.ext hu18
      replace hIb := hIb.ext hu18
      replace hB15 := hB15.ext hu18
      obtain rfl : g18 = true := hg18.2 ⟨rfl, rfl, rfl, rfl⟩
      refine L_gy (dj := 78) rfl rfl rfl (X_not (b := true) (r := false) rfl rfl ?_)
      refine L_op rfl (X_pick (t := false) (v := (.bool (false))) rfl rfl ?_)
      refine L_op rfl (X_move (v := (.bool (false))) rfl ?_)
      refine L_gy (dj := 84) rfl rfl rfl (X_fldP (b := b12) (o := 0) (r := 0) Fd26_0 rfl rfl ?_)
      refine L_gy (dj := 84) rfl rfl rfl (X_load (p := (ptr b12 (0))) (v := p_a) T22 rfl (hB12.at1 rfl) ?_)
      refine L_gy (dj := 84) rfl rfl rfl (X_len (v := p_a) (n := (flipP ps A K y).length) Try.underlying22 rfl hPa.1.sv ?_)
      refine L_gy (dj := 84) rfl rfl rfl (X_fldP (b := b1) (o := 0) (r := 0) Fd26_0 rfl rfl ?_)
      refine L_gy (dj := 84) rfl rfl rfl (X_load (p := (ptr b1 (0))) (v := pv) T22 rfl (hB1.at1 rfl) ?_)
      refine L_gy (dj := 84) rfl rfl rfl (X_len (v := pv) (n := ps.length) Try.underlying22 rfl hp.sv ?_)
      refine L_gy (dj := 84) rfl rfl rfl (X_cmp (k := .i64) (a := (((flipP ps A K y).length : Nat) : Int)) (b := ((ps.length : Nat) : Int)) (r := false) rfl rfl rfl (decide_eq_false (p := (((((flipP ps A K y).length : Nat) : Int)) : Int) ≠ ((((ps.length : Nat) : Int)) : Int)) (by omega)) ?_)
      refine L_op rfl (X_pick (t := false) (v := (.bool (false))) rfl rfl ?_)
      refine L_nil ?_
      refine T_n ?_
      refine W_cf rfl ?_
      refine W_skip ?_
      refine T_n ?_
      refine W_seq ?_
      refine W_reg ?_
      refine L_op rfl (X_fldP (b := b1) (o := 0) (r := 0) Fd26_0 rfl rfl ?_)
      refine L_op rfl (X_load (p := (ptr b1 (0))) (v := pv) T22 rfl (hB1.at1 rfl) ?_)
      refine L_op rfl (X_move (v := (.int .i64 (((A : Nat) : Int)))) rfl ?_)
      refine L_op rfl (X_idx (v := pv) (n := ps.length) (k := .i64) (i := ((A : Nat) : Int)) S22 rfl hp.sv rfl (by omega) (by omega) ?_)
      refine L_op rfl (X_loadA (xs := po.1.map byteV) A33 rfl (pall hp (Int.toNat_natCast _) hpo) (by rw [List.length_map]; exact po.2) ?_)
      refine L_op rfl (X_alloc (z := zv33) (c := zc33.toArray) Zv33 rfl ?_)
      intro b19 w19 hn19
      have hbn19 := hn19.num; have hbs19 := hn19.size
      replace hp := hp.ext hn19.ext
      replace hc := hc.ext hn19.ext
      replace hb := hb.ext hn19.ext
      replace hU := hU.trans (Ext.upd hn19.ext)
      replace hB1 := hB1.ext hn19.ext
      replace hPw := hPw.ext hn19.ext
      replace hCw := hCw.ext hn19.ext
      replace hIw := hIw.ext hn19.ext
      replace hB9 := hB9.ext hn19.ext
      replace hPa := hPa.ext hn19.ext
      replace hCa := hCa.ext hn19.ext
      replace hIa := hIa.ext hn19.ext
      replace hB12 := hB12.ext hn19.ext
      replace hPb := hPb.ext hn19.ext
      replace hCb := hCb.ext hn19.ext
      replace hIb := hIb.ext hn19.ext
      replace hB15 := hB15.ext hn19.ext
      have hB19 := hn19.blk
      rw [zc33_eq] at hB19
      refine L_op0 (X_storeW (b := b19) (ys := ((po.1).map byteV)) A33 rfl rfl (byteV_one _) (by rw [List.length_map]; exact po.2) hB19 (by rw [List.size_toArray]; exact (by rw [List.length_map]; exact List.length_replicate)) ?_)
      intro w20 hu20 hb20
      have hz20 := hu20.size
      replace hp := hp.upd hu20 fun i h1 h2 h => by have h : i = b19 := h; omega
      replace hc := hc.upd hu20 fun i h1 h2 h => by have h : i = b19 := h; omega
      replace hb := hb.upd hu20 fun i h1 h2 h => by have h : i = b19 := h; omega
      replace hU := hU.trans (hu20.mono fun i _ h => by have h : i = b19 := h; show n0 ≤ i; omega)
      replace hB1 := hB1.upd hu20 fun h => by have h : b1 = b19 := h; omega
      replace hPw := hPw.upd hu20 fun i h1 h2 h => by have h : i = b19 := h; omega
      replace hCw := hCw.upd hu20 fun i h1 h2 h => by have h : i = b19 := h; omega
      replace hIw := hIw.upd hu20 fun i h1 h2 h => by have h : i = b19 := h; omega
      replace hB9 := hB9.upd hu20 fun h => by have h : b9 = b19 := h; omega
      replace hPa := hPa.upd hu20 fun i h1 h2 h => by have h : i = b19 := h; omega
      replace hCa := hCa.upd hu20 fun i h1 h2 h => by have h : i = b19 := h; omega
      replace hIa := hIa.upd hu20 fun i h1 h2 h => by have h : i = b19 := h; omega
      replace hB12 := hB12.upd hu20 fun h => by have h : b12 = b19 := h; omega
      replace hPb := hPb.upd hu20 fun i h1 h2 h => by have h : i = b19 := h; omega
      replace hCb := hCb.upd hu20 fun i h1 h2 h => by have h : i = b19 := h; omega
      replace hIb := hIb.upd hu20 fun i h1 h2 h => by have h : i = b19 := h; omega
      replace hB15 := hB15.upd hu20 fun h => by have h : b15 = b19 := h; omega
      replace hB19 := hb20
      refine L_nil ?_
      refine T_n ?_
      refine W_seq ?_
      refine W_reg ?_
      refine L_op rfl (X_move (v := (.int .i64 (((K : Nat) : Int)))) rfl ?_)
      refine L_op rfl (X_move (v := (.int .i64 (((K : Nat) : Int)))) rfl ?_)
      refine L_op rfl (X_idxAP (len := 256) (sz := 1) (b := b19) (o := 0) (k := .i64) (i := ((K : Nat) : Int)) (r := (((K : Nat) : Int) : Int).toNat) Try.underlying33 Z5 rfl rfl (by omega) (by omega) (by omega) ?_)
      refine L_op rfl (X_load (p := (ptr b19 ((((K : Nat) : Int) : Int).toNat))) (v := .int .u8 ((x0.toNat : Nat) : Int)) T5 rfl (hB19.at1 (by rw [show ((K : Nat) : Int).toNat = K from rfl]; simp [hx0, byteV])) ?_)
      refine L_op rfl (X_move (v := (byteV y)) rfl ?_)
      refine L_op rfl (X_arith (k := .u8) (a := ((x0.toNat : Nat) : Int)) (b := ((y.toNat : Nat) : Int)) (r := (((x0 ^^^ y).toNat : Nat) : Int)) rfl rfl rfl (u8_xor x0 y) ?_)
      refine L_op rfl (X_idxAP (len := 256) (sz := 1) (b := b19) (o := 0) (k := .i64) (i := ((K : Nat) : Int)) (r := (((K : Nat) : Int) : Int).toNat) Try.underlying33 Z5 rfl rfl (by omega) (by omega) (by omega) ?_)
      refine L_op0 (X_store (b := b19) (o := K) (v := byteV (x0 ^^^ y)) T5 rfl rfl rfl hB19 (by rw [List.size_toArray, List.length_map, po.2]; exact hKl) ?_)
      intro w7 hu7 hb7
      have hz7 := hu7.size
      replace hp := hp.upd hu7 fun i h1 h2 h => by have h : i = b19 := h; omega
      replace hc := hc.upd hu7 fun i h1 h2 h => by have h : i = b19 := h; omega
      replace hb := hb.upd hu7 fun i h1 h2 h => by have h : i = b19 := h; omega
      replace hU := hU.trans (hu7.mono fun i _ h => by have h : i = b19 := h; show n0 ≤ i; omega)
      replace hB1 := hB1.upd hu7 fun h => by have h : b1 = b19 := h; omega
      replace hPw := hPw.upd hu7 fun i h1 h2 h => by have h : i = b19 := h; omega
      replace hCw := hCw.upd hu7 fun i h1 h2 h => by have h : i = b19 := h; omega
      replace hIw := hIw.upd hu7 fun i h1 h2 h => by have h : i = b19 := h; omega
      replace hB9 := hB9.upd hu7 fun h => by have h : b9 = b19 := h; omega
      replace hPa := hPa.upd hu7 fun i h1 h2 h => by have h : i = b19 := h; omega
      replace hCa := hCa.upd hu7 fun i h1 h2 h => by have h : i = b19 := h; omega
      replace hIa := hIa.upd hu7 fun i h1 h2 h => by have h : i = b19 := h; omega
      replace hB12 := hB12.upd hu7 fun h => by have h : b12 = b19 := h; omega
      replace hPb := hPb.upd hu7 fun i h1 h2 h => by have h : i = b19 := h; omega
      replace hCb := hCb.upd hu7 fun i h1 h2 h => by have h : i = b19 := h; omega
      replace hIb := hIb.upd hu7 fun i h1 h2 h => by have h : i = b19 := h; omega
      replace hB15 := hB15.upd hu7 fun h => by have h : b15 = b19 := h; omega
      rw [flipPg_cells hx0] at hb7
      replace hB19 := hb7
      refine L_nil ?_
      refine T_n ?_
      refine W_seq ?_
      refine W_seq ?_
      refine W_reg ?_
      refine L_op rfl (X_assign (v := (.int .i64 (0))) rfl ?_)
      refine L_nil ?_
      refine T_n ?_
      refine W_block ?_
      have hcasv := hCa.1.sv; have hiasv := hIa.1.sv
      refine W_loop (α := Nat) [8, 15, 105, 106, 107, 108, 109, 110, 111, 112, 113, 114, 115, 116, 117, 118, 119, 120, 121, 122, 123, 124, 125, 126, 127, 128, 129, 130, 131, 132, 133, 134, 135, 136, 137, 138, 139, 140, 141] (fun i => [(15, (.int .i64 (((i : Nat) : Int))))]) (fun i w_ => i ≤ ps.length ∧ NRd LP w_ 0 n0 pv ps ∧ NRd LW w_ 0 n0 cv cs ∧ NRd LI w_ 0 n0 bv bs ∧ NOwn LP w_ 33 5 s_a u_a p_a (flipP ps A K y) ∧ Blk w_ b1 #[pv, cv, bv, .bool off] 26 ∧ Blk w_ b12 #[p_a, c_a, i_a, .bool off] 26 ∧ Blk w_ b19 ((flipPg po K y).1.map byteV).toArray 33 ∧ Upd (fun i => n0 ≤ i) w w_ ∧ u_a ≤ w_.heap.size) (fun i => ps.length - i) ⟨rfl, 0, ⟨Nat.zero_le _, hp, hc, hb, hPa, hB1, hB12, hB19, hU, by omega⟩, Out.refl _ _, ⟨rfl, trivial⟩⟩ ?_
      rintro i w21 _ ⟨hil, hp, hc, hb, hPa, hB1, hB12, hB19, hU, huaw⟩
      have hsz_ := hU.size
      have hbal_ := hB12.lt; have hbol_ := hB19.lt
      refine W_seq ?_
      refine W_seq ?_
      refine W_reg ?_
      refine L_op rfl (X_move (v := (.int .i64 (((i : Nat) : Int)))) rfl ?_)
      refine L_op rfl (X_fldP (b := b1) (o := 0) (r := 0) Fd26_0 rfl rfl ?_)
      refine L_op rfl (X_load (p := (ptr b1 (0))) (v := pv) T22 rfl (hB1.at1 rfl) ?_)
      refine L_op rfl (X_len (v := pv) (n := ps.length) Try.underlying22 rfl hp.sv ?_)
      by_cases hc22 : (((i : Nat) : Int) : Int) < (((ps.length : Nat) : Int))
      · refine L_op rfl (X_cmp (k := .i64) (a := ((i : Nat) : Int)) (b := ((ps.length : Nat) : Int)) (r := true) rfl rfl rfl (decide_eq_true (p := ((((i : Nat) : Int)) : Int) < ((((ps.length : Nat) : Int)) : Int)) (by omega)) ?_)
        have hi : i < ps.length := by omega
        obtain ⟨pi, hpi⟩ : ∃ x, ps[i]? = some x := ⟨_, List.getElem?_eq_getElem hi⟩
        refine L_nil ?_
        refine T_n ?_
        refine W_ct rfl ?_
        refine W_skip ?_
        refine T_n ?_
        refine W_seq ?_
        refine W_block ?_
        refine W_seq ?_
        rcases Bool.eq_false_or_eq_true (decide (i = A)) with hs23 | hs23
        · have hia := of_decide_eq_true hs23
          have hai : (flipP ps A K y)[i]? = some (flipPg po K y) := by rw [hia]; exact flipP_self hpo
          refine W_draw 27 [[], [], [0, 1], [0, 1, 2], [0, 1, 2, 3], [0, 1, 2, 3, 4], [0, 1, 2, 3], [0, 1, 2, 3, 4, 5, 6], [0, 1, 2, 3, 4, 5, 6, 7], [0, 1, 2, 3], [0, 1, 2, 3, 9], [0, 1, 2, 3], [0, 1, 2, 3, 9, 10, 11], [0, 1, 2, 3, 9, 10, 11, 12], [0, 1, 2, 3, 4, 5, 6, 7, 8, 9, 10, 11, 12, 13], [0, 1, 2, 3, 4, 5, 6, 7, 8, 9, 10, 11, 12, 13, 14], [0, 1, 2, 3, 4, 5, 6, 7, 8, 9, 10, 11, 12, 13, 14, 15], [0, 1, 2, 3, 4, 5, 6, 7, 8, 9, 10, 11, 12, 13, 14, 15, 16], [0, 1, 2, 3, 4, 5, 6, 7, 8, 9, 10, 11, 12, 13, 14, 15, 16], [0, 1, 2, 3, 4, 5, 6, 7, 8, 9, 10, 11, 12, 13, 14, 15, 16, 17, 18], [0, 1, 2, 3, 4, 5, 6, 7, 8, 9, 10, 11, 12, 13, 14, 15, 16, 17, 18, 19], [0, 1, 2, 3, 4, 5, 6, 7, 8, 9, 10, 11, 12, 13, 14, 15, 16, 17, 18, 19, 20], [0, 1, 2, 3, 4, 5, 6, 7, 8, 9, 10, 11, 12, 13, 14, 15, 16, 17, 18, 19, 20, 21], [0, 1, 2, 3, 4, 5, 6, 7, 8, 9, 10, 11, 12, 13, 14, 15, 16, 17, 18, 19, 20], [0, 1, 2, 3, 4, 5, 6, 7, 8, 9, 10, 11, 12, 13, 14, 15, 16, 17, 18, 19, 20, 21, 22, 23], [0, 1, 2, 3, 4, 5, 6, 7, 8, 9, 10, 11, 12, 13, 14, 15, 16, 17, 18, 19, 20, 21, 22, 23, 24], [0, 1, 2, 3, 4, 5, 6, 7, 8, 9, 10, 11, 12, 13, 14, 15, 16, 17, 18, 19, 20], [0, 1, 2, 3, 4, 5, 6, 7, 8, 9, 10, 11, 12, 13, 14, 15, 16, 17, 18, 19, 20, 21, 22, 23, 24, 25, 26], [0, 1, 2, 3, 4, 5, 6, 7, 8, 9, 10, 11, 12, 13, 14, 15, 16, 17, 18, 19, 20, 21, 22, 23, 24, 25, 26, 27], [0, 1, 2, 3, 4, 5, 6, 7, 8, 9, 10, 11, 12, 13, 14, 15, 16, 17, 18, 19, 20, 21, 22, 23, 24, 25, 26, 27, 28]] mixed (by kernel_rfl) ?_
          refine ⟨.det (fun val => (.int .i64 (((i : Nat) : Int)))), ⟨fun _ _ hv => rfl, fun _ _ _ _ _ => trivial⟩, fun val h_ W hx he => ⟨trivial, ?_⟩, ?_⟩
          · replace hx := (Upd.drew _ _).trans hx
            replace hp := hp.ext hx
            replace hc := hc.ext hx
            replace hb := hb.ext hx
            replace hPa := hPa.ext hx
            replace hB1 := hB1.ext hx
            replace hB12 := hB12.ext hx
            replace hB19 := hB19.ext hx
            have hE := Upd.refl (fun _ => False) W
            refine id (X_move (v := (.int .i64 (((i : Nat) : Int)))) rfl ?_)
            exact ⟨hE, rfl⟩
          refine ⟨.det (fun val => (.int .i64 (((A : Nat) : Int)))), ⟨fun _ _ hv => rfl, fun _ _ _ _ _ => trivial⟩, fun val h_ W hx he => ⟨trivial, ?_⟩, ?_⟩
          · replace hx := (Upd.drew _ _).trans hx
            replace hp := hp.ext hx
            replace hc := hc.ext hx
            replace hb := hb.ext hx
            replace hPa := hPa.ext hx
            replace hB1 := hB1.ext hx
            replace hB12 := hB12.ext hx
            replace hB19 := hB19.ext hx
            have hE := Upd.refl (fun _ => False) W
            refine id (X_move (v := (.int .i64 (((A : Nat) : Int)))) rfl ?_)
            exact ⟨hE, rfl⟩
          refine ⟨.det (fun val => (.bool (false))), ⟨fun _ _ hv => rfl, fun _ _ _ _ _ => trivial⟩, fun val h_ W hx he => ⟨trivial, ?_⟩, ?_⟩
          · replace hx := (Upd.drew _ _).trans hx
            replace hp := hp.ext hx
            replace hc := hc.ext hx
            replace hb := hb.ext hx
            replace hPa := hPa.ext hx
            replace hB1 := hB1.ext hx
            replace hB12 := hB12.ext hx
            replace hB19 := hB19.ext hx
            have hE := Upd.refl (fun _ => False) W
            refine id (X_cmp (k := .i64) (a := ((i : Nat) : Int)) (b := ((A : Nat) : Int)) (r := false) rfl rfl rfl (decide_eq_false (p := (((i : Nat) : Int) ≠ ((A : Nat) : Int))) (by omega)) ?_)
            exact ⟨hE, rfl⟩
          refine ⟨.det (fun val => (.bool (false))), ⟨fun _ _ hv => rfl, fun _ _ _ _ _ => trivial⟩, fun val h_ W hx he => ⟨trivial, ?_⟩, ?_⟩
          · replace hx := (Upd.drew _ _).trans hx
            replace hp := hp.ext hx
            replace hc := hc.ext hx
            replace hb := hb.ext hx
            replace hPa := hPa.ext hx
            replace hB1 := hB1.ext hx
            replace hB12 := hB12.ext hx
            replace hB19 := hB19.ext hx
            have hE := Upd.refl (fun _ => False) W
            refine id (X_move (v := (.bool (false))) rfl ?_)
            exact ⟨hE, rfl⟩
          refine ⟨.no, ⟨fun _ _ _ => trivial, fun _ _ _ _ _ => trivial⟩, fun val h_ W hx he => ⟨115, rfl, .inl rfl⟩, ?_⟩
          refine ⟨.no, ⟨fun _ _ _ => trivial, fun _ _ _ _ _ => trivial⟩, fun val h_ W hx he => ⟨115, rfl, .inl rfl⟩, ?_⟩
          refine ⟨.no, ⟨fun _ _ _ => trivial, fun _ _ _ _ _ => trivial⟩, fun val h_ W hx he => ⟨115, rfl, .inl rfl⟩, ?_⟩
          refine ⟨.no, ⟨fun _ _ _ => trivial, fun _ _ _ _ _ => trivial⟩, fun val h_ W hx he => ⟨115, rfl, .inl rfl⟩, ?_⟩
          refine ⟨.no, ⟨fun _ _ _ => trivial, fun _ _ _ _ _ => trivial⟩, fun val h_ W hx he => ⟨115, rfl, .inl rfl⟩, ?_⟩
          refine ⟨.no, ⟨fun _ _ _ => trivial, fun _ _ _ _ _ => trivial⟩, fun val h_ W hx he => ⟨115, rfl, .inl rfl⟩, ?_⟩
          refine ⟨.no, ⟨fun _ _ _ => trivial, fun _ _ _ _ _ => trivial⟩, fun val h_ W hx he => ⟨115, rfl, .inl rfl⟩, ?_⟩
          refine ⟨.no, ⟨fun _ _ _ => trivial, fun _ _ _ _ _ => trivial⟩, fun val h_ W hx he => ⟨115, rfl, .inl rfl⟩, ?_⟩
          refine ⟨.no, ⟨fun _ _ _ => trivial, fun _ _ _ _ _ => trivial⟩, fun val h_ W hx he => ⟨115, rfl, .inl rfl⟩, ?_⟩
          refine ⟨.no, ⟨fun _ _ _ => trivial, fun _ _ _ _ _ => trivial⟩, fun val h_ W hx he => ⟨115, rfl, .inl rfl⟩, ?_⟩
          refine ⟨.no, ⟨fun _ _ _ => trivial, fun _ _ _ _ _ => trivial⟩, fun val h_ W hx he => ⟨115, rfl, .inl rfl⟩, ?_⟩
          refine ⟨.det (fun val => (.bool (false))), ⟨fun _ _ hv => rfl, fun _ _ _ _ _ => trivial⟩, fun val h_ W hx he => ⟨trivial, ?_⟩, ?_⟩
          · replace hx := (Upd.drew _ _).trans hx
            replace hp := hp.ext hx
            replace hc := hc.ext hx
            replace hb := hb.ext hx
            replace hPa := hPa.ext hx
            replace hB1 := hB1.ext hx
            replace hB12 := hB12.ext hx
            replace hB19 := hB19.ext hx
            have hE := Upd.refl (fun _ => False) W
            refine id (X_pick (t := false) (v := (.bool (false))) rfl rfl ?_)
            exact ⟨hE, rfl⟩
          refine ⟨.det (fun val => (.bool (false))), ⟨fun _ _ hv => rfl, fun _ _ _ _ _ => trivial⟩, fun val h_ W hx he => ⟨trivial, ?_⟩, ?_⟩
          · replace hx := (Upd.drew _ _).trans hx
            replace hp := hp.ext hx
            replace hc := hc.ext hx
            replace hb := hb.ext hx
            replace hPa := hPa.ext hx
            replace hB1 := hB1.ext hx
            replace hB12 := hB12.ext hx
            replace hB19 := hB19.ext hx
            have hE := Upd.refl (fun _ => False) W
            refine id (X_move (v := (.bool (false))) rfl ?_)
            exact ⟨hE, rfl⟩
          refine ⟨.det (fun val => (.int .i64 (((i : Nat) : Int)))), ⟨fun _ _ hv => rfl, fun _ _ _ _ _ => trivial⟩, fun val h_ W hx he => ⟨⟨128, rfl, rfl⟩, ?_⟩, ?_⟩
          · replace hx := (Upd.drew _ _).trans hx
            replace hp := hp.ext hx
            replace hc := hc.ext hx
            replace hb := hb.ext hx
            replace hPa := hPa.ext hx
            replace hB1 := hB1.ext hx
            replace hB12 := hB12.ext hx
            replace hB19 := hB19.ext hx
            have hE := Upd.refl (fun _ => False) W
            refine id (X_move (v := (.int .i64 (((i : Nat) : Int)))) rfl ?_)
            exact ⟨hE, rfl⟩
          refine ⟨.det (fun val => (.int .i64 (((A : Nat) : Int)))), ⟨fun _ _ hv => rfl, fun _ _ _ _ _ => trivial⟩, fun val h_ W hx he => ⟨⟨128, rfl, rfl⟩, ?_⟩, ?_⟩
          · replace hx := (Upd.drew _ _).trans hx
            replace hp := hp.ext hx
            replace hc := hc.ext hx
            replace hb := hb.ext hx
            replace hPa := hPa.ext hx
            replace hB1 := hB1.ext hx
            replace hB12 := hB12.ext hx
            replace hB19 := hB19.ext hx
            have hE := Upd.refl (fun _ => False) W
            refine id (X_move (v := (.int .i64 (((A : Nat) : Int)))) rfl ?_)
            exact ⟨hE, rfl⟩
          refine ⟨.det (fun val => (.bool (true))), ⟨fun _ _ hv => rfl, fun _ _ _ _ _ => trivial⟩, fun val h_ W hx he => ⟨⟨128, rfl, rfl⟩, ?_⟩, ?_⟩
          · replace hx := (Upd.drew _ _).trans hx
            replace hp := hp.ext hx
            replace hc := hc.ext hx
            replace hb := hb.ext hx
            replace hPa := hPa.ext hx
            replace hB1 := hB1.ext hx
            replace hB12 := hB12.ext hx
            replace hB19 := hB19.ext hx
            have hE := Upd.refl (fun _ => False) W
            refine id (X_cmp (k := .i64) (a := ((i : Nat) : Int)) (b := ((A : Nat) : Int)) (r := true) rfl rfl rfl (decide_eq_true (p := (((i : Nat) : Int) = ((A : Nat) : Int))) (by omega)) ?_)
            exact ⟨hE, rfl⟩
          refine ⟨.det (fun val => (.bool (true))), ⟨fun _ _ hv => rfl, fun _ _ _ _ _ => trivial⟩, fun val h_ W hx he => ⟨⟨128, rfl, rfl⟩, ?_⟩, ?_⟩
          · replace hx := (Upd.drew _ _).trans hx
            replace hp := hp.ext hx
            replace hc := hc.ext hx
            replace hb := hb.ext hx
            replace hPa := hPa.ext hx
            replace hB1 := hB1.ext hx
            replace hB12 := hB12.ext hx
            replace hB19 := hB19.ext hx
            have hE := Upd.refl (fun _ => False) W
            refine id (X_move (v := (.bool (true))) rfl ?_)
            exact ⟨hE, rfl⟩
          refine ⟨.det (fun val => (ptr b12 (0))), ⟨fun _ _ hv => rfl, fun _ _ _ _ _ => trivial⟩, fun val h_ W hx he => ⟨⟨132, rfl, rfl⟩, ?_⟩, ?_⟩
          · replace hx := (Upd.drew _ _).trans hx
            replace hp := hp.ext hx
            replace hc := hc.ext hx
            replace hb := hb.ext hx
            replace hPa := hPa.ext hx
            replace hB1 := hB1.ext hx
            replace hB12 := hB12.ext hx
            replace hB19 := hB19.ext hx
            have hE := Upd.refl (fun _ => False) W
            refine id (X_fldP (b := b12) (o := 0) (r := 0) Fd26_0 rfl rfl ?_)
            exact ⟨hE, rfl⟩
          refine ⟨.det (fun val => p_a), ⟨fun _ _ hv => rfl, fun _ _ _ _ _ => trivial⟩, fun val h_ W hx he => ⟨⟨132, rfl, rfl⟩, ?_⟩, ?_⟩
          · replace hx := (Upd.drew _ _).trans hx
            replace hp := hp.ext hx
            replace hc := hc.ext hx
            replace hb := hb.ext hx
            replace hPa := hPa.ext hx
            replace hB1 := hB1.ext hx
            replace hB12 := hB12.ext hx
            replace hB19 := hB19.ext hx
            have hE := Upd.refl (fun _ => False) W
            refine id (X_load (p := (ptr b12 (0))) (v := p_a) T22 rfl (hB12.at1 rfl) ?_)
            exact ⟨hE, rfl⟩
          refine ⟨.det (fun val => (.int .i64 (((i : Nat) : Int)))), ⟨fun _ _ hv => rfl, fun _ _ _ _ _ => trivial⟩, fun val h_ W hx he => ⟨⟨132, rfl, rfl⟩, ?_⟩, ?_⟩
          · replace hx := (Upd.drew _ _).trans hx
            replace hp := hp.ext hx
            replace hc := hc.ext hx
            replace hb := hb.ext hx
            replace hPa := hPa.ext hx
            replace hB1 := hB1.ext hx
            replace hB12 := hB12.ext hx
            replace hB19 := hB19.ext hx
            have hE := Upd.refl (fun _ => False) W
            refine id (X_move (v := (.int .i64 (((i : Nat) : Int)))) rfl ?_)
            exact ⟨hE, rfl⟩
          refine ⟨.det (fun val => (pof p_a ((((i : Nat) : Int) : Int).toNat * 256))), ⟨fun _ _ hv => rfl, fun _ _ _ _ _ => trivial⟩, fun val h_ W hx he => ⟨⟨132, rfl, rfl⟩, ?_⟩, ?_⟩
          · replace hx := (Upd.drew _ _).trans hx
            replace hp := hp.ext hx
            replace hc := hc.ext hx
            replace hb := hb.ext hx
            replace hPa := hPa.ext hx
            replace hB1 := hB1.ext hx
            replace hB12 := hB12.ext hx
            replace hB19 := hB19.ext hx
            have hE := Upd.refl (fun _ => False) W
            refine id (X_idx (v := p_a) (n := (flipP ps A K y).length) (k := .i64) (i := ((i : Nat) : Int)) S22 rfl hPa.1.sv rfl (by omega) (by omega) ?_)
            exact ⟨hE, rfl⟩
          refine ⟨.det (fun val => (.agg ((((flipPg po K y).1).map byteV)).toArray)), ⟨fun _ _ hv => rfl, fun _ _ _ _ _ => trivial⟩, fun val h_ W hx he => ⟨⟨132, rfl, rfl⟩, ?_⟩, ?_⟩
          · replace hx := (Upd.drew _ _).trans hx
            replace hp := hp.ext hx
            replace hc := hc.ext hx
            replace hb := hb.ext hx
            replace hPa := hPa.ext hx
            replace hB1 := hB1.ext hx
            replace hB12 := hB12.ext hx
            replace hB19 := hB19.ext hx
            have hE := Upd.refl (fun _ => False) W
            refine id (X_loadA (xs := (flipPg po K y).1.map byteV) A33 rfl (pall hPa.rd (Int.toNat_natCast _) hai) (by rw [List.length_map]; exact (flipPg po K y).2) ?_)
            exact ⟨hE, rfl⟩
          refine ⟨.det (fun val => (.agg ((((flipPg po K y).1).map byteV)).toArray)), ⟨fun _ _ hv => rfl, fun _ _ _ _ _ => trivial⟩, fun val h_ W hx he => ⟨⟨132, rfl, rfl⟩, ?_⟩, ?_⟩
          · replace hx := (Upd.drew _ _).trans hx
            replace hp := hp.ext hx
            replace hc := hc.ext hx
            replace hb := hb.ext hx
            replace hPa := hPa.ext hx
            replace hB1 := hB1.ext hx
            replace hB12 := hB12.ext hx
            replace hB19 := hB19.ext hx
            have hE := Upd.refl (fun _ => False) W
            refine id (X_loadA (p := (ptr b19 (0))) (xs := (((flipPg po K y).1).map byteV)) A33 rfl hB19.atAll (by rw [List.length_map]; exact (flipPg po K y).2) ?_)
            exact ⟨hE, rfl⟩
          intro val W24 hx24 he24
          replace hx24 := (Upd.drew _ _).trans hx24
          have hz24 := hx24.size
          replace hp := hp.ext hx24
          replace hc := hc.ext hx24
          replace hb := hb.ext hx24
          replace hPa := hPa.ext hx24
          replace hB1 := hB1.ext hx24
          replace hB12 := hB12.ext hx24
          replace hB19 := hB19.ext hx24
          replace hU := hU.trans (Ext.upd hx24)
          refine L_gy (dj := 132) rfl rfl rfl (X_eqA (n := 256) (l := (flipPg po K y).1) (m := (flipPg po K y).1) (r := false) Try.underlying33 Try.underlying5 (by kernel_rfl) (by kernel_rfl) (by kernel_rfl) rfl rfl ((flipPg po K y).2) ((flipPg po K y).2) (.inr ⟨rfl, (by rw [beq_self_eq_true]; rfl)⟩) ?_)
          refine L_gy (dj := 128) rfl rfl rfl (X_pick (t := true) (v := (.bool (false))) rfl rfl ?_)
          refine L_op rfl (X_pick (t := false) (v := (.bool (false))) rfl rfl ?_)
          refine L_nil ?_
          refine T_n ?_
          refine W_cf rfl ?_
          refine W_skip ?_
          refine B_n ?_
          refine T_n ?_
          refine W_reg ?_
          refine L_op rfl (X_move (v := (.int .i64 (((i : Nat) : Int)))) rfl ?_)
          refine L_op rfl (X_arith (k := .i64) (a := ((i : Nat) : Int)) (b := 1) (r := ((i + 1 : Nat) : Int)) rfl rfl rfl (iadd64 (by omega) (by omega) (by omega)) ?_)
          refine L_op rfl (X_assign (v := (.int .i64 (((i + 1 : Nat) : Int)))) rfl ?_)
          refine L_nil ?_
          refine T_n ?_
          exact ⟨rfl, i + 1, ⟨⟨hi, hp, hc, hb, hPa, hB1, hB12, hB19, hU, by omega⟩, (by show ps.length - (i + 1) < ps.length - i; omega)⟩, (Out.mk rfl), ⟨rfl, trivial⟩⟩
        · have hia := of_decide_eq_false hs23
          have hai : (flipP ps A K y)[i]? = some pi := by rw [flipP_other hia]; exact hpi
          refine W_draw 27 [[], [], [0, 1], [0, 1, 2], [0, 1, 2, 3], [0, 1, 2, 3, 4], [0, 1, 2, 3], [0, 1, 2, 3, 4, 5, 6], [0, 1, 2, 3, 4, 5, 6, 7], [0, 1, 2, 3], [0, 1, 2, 3, 9], [0, 1, 2, 3], [0, 1, 2, 3, 9, 10, 11], [0, 1, 2, 3, 9, 10, 11, 12], [0, 1, 2, 3, 4, 5, 6, 7, 8, 9, 10, 11, 12, 13], [0, 1, 2, 3, 4, 5, 6, 7, 8, 9, 10, 11, 12, 13, 14], [0, 1, 2, 3, 4, 5, 6, 7, 8, 9, 10, 11, 12, 13, 14, 15], [0, 1, 2, 3, 4, 5, 6, 7, 8, 9, 10, 11, 12, 13, 14, 15, 16], [0, 1, 2, 3, 4, 5, 6, 7, 8, 9, 10, 11, 12, 13, 14, 15, 16], [0, 1, 2, 3, 4, 5, 6, 7, 8, 9, 10, 11, 12, 13, 14, 15, 16, 17, 18], [0, 1, 2, 3, 4, 5, 6, 7, 8, 9, 10, 11, 12, 13, 14, 15, 16, 17, 18, 19], [0, 1, 2, 3, 4, 5, 6, 7, 8, 9, 10, 11, 12, 13, 14, 15, 16, 17, 18, 19, 20], [0, 1, 2, 3, 4, 5, 6, 7, 8, 9, 10, 11, 12, 13, 14, 15, 16, 17, 18, 19, 20, 21], [0, 1, 2, 3, 4, 5, 6, 7, 8, 9, 10, 11, 12, 13, 14, 15, 16, 17, 18, 19, 20], [0, 1, 2, 3, 4, 5, 6, 7, 8, 9, 10, 11, 12, 13, 14, 15, 16, 17, 18, 19, 20, 21, 22, 23], [0, 1, 2, 3, 4, 5, 6, 7, 8, 9, 10, 11, 12, 13, 14, 15, 16, 17, 18, 19, 20, 21, 22, 23, 24], [0, 1, 2, 3, 4, 5, 6, 7, 8, 9, 10, 11, 12, 13, 14, 15, 16, 17, 18, 19, 20], [0, 1, 2, 3, 4, 5, 6, 7, 8, 9, 10, 11, 12, 13, 14, 15, 16, 17, 18, 19, 20, 21, 22, 23, 24, 25, 26], [0, 1, 2, 3, 4, 5, 6, 7, 8, 9, 10, 11, 12, 13, 14, 15, 16, 17, 18, 19, 20, 21, 22, 23, 24, 25, 26, 27], [0, 1, 2, 3, 4, 5, 6, 7, 8, 9, 10, 11, 12, 13, 14, 15, 16, 17, 18, 19, 20, 21, 22, 23, 24, 25, 26, 27, 28]] mixed (by kernel_rfl) ?_
          refine ⟨.det (fun val => (.int .i64 (((i : Nat) : Int)))), ⟨fun _ _ hv => rfl, fun _ _ _ _ _ => trivial⟩, fun val h_ W hx he => ⟨trivial, ?_⟩, ?_⟩
          · replace hx := (Upd.drew _ _).trans hx
            replace hp := hp.ext hx
            replace hc := hc.ext hx
            replace hb := hb.ext hx
            replace hPa := hPa.ext hx
            replace hB1 := hB1.ext hx
            replace hB12 := hB12.ext hx
            replace hB19 := hB19.ext hx
            have hE := Upd.refl (fun _ => False) W
            refine id (X_move (v := (.int .i64 (((i : Nat) : Int)))) rfl ?_)
            exact ⟨hE, rfl⟩
          refine ⟨.det (fun val => (.int .i64 (((A : Nat) : Int)))), ⟨fun _ _ hv => rfl, fun _ _ _ _ _ => trivial⟩, fun val h_ W hx he => ⟨trivial, ?_⟩, ?_⟩
          · replace hx := (Upd.drew _ _).trans hx
            replace hp := hp.ext hx
            replace hc := hc.ext hx
            replace hb := hb.ext hx
            replace hPa := hPa.ext hx
            replace hB1 := hB1.ext hx
            replace hB12 := hB12.ext hx
            replace hB19 := hB19.ext hx
            have hE := Upd.refl (fun _ => False) W
            refine id (X_move (v := (.int .i64 (((A : Nat) : Int)))) rfl ?_)
            exact ⟨hE, rfl⟩
          refine ⟨.det (fun val => (.bool (true))), ⟨fun _ _ hv => rfl, fun _ _ _ _ _ => trivial⟩, fun val h_ W hx he => ⟨trivial, ?_⟩, ?_⟩
          · replace hx := (Upd.drew _ _).trans hx
            replace hp := hp.ext hx
            replace hc := hc.ext hx
            replace hb := hb.ext hx
            replace hPa := hPa.ext hx
            replace hB1 := hB1.ext hx
            replace hB12 := hB12.ext hx
            replace hB19 := hB19.ext hx
            have hE := Upd.refl (fun _ => False) W
            refine id (X_cmp (k := .i64) (a := ((i : Nat) : Int)) (b := ((A : Nat) : Int)) (r := true) rfl rfl rfl (decide_eq_true (p := (((i : Nat) : Int) ≠ ((A : Nat) : Int))) (by omega)) ?_)
            exact ⟨hE, rfl⟩
          refine ⟨.det (fun val => (.bool (true))), ⟨fun _ _ hv => rfl, fun _ _ _ _ _ => trivial⟩, fun val h_ W hx he => ⟨trivial, ?_⟩, ?_⟩
          · replace hx := (Upd.drew _ _).trans hx
            replace hp := hp.ext hx
            replace hc := hc.ext hx
            replace hb := hb.ext hx
            replace hPa := hPa.ext hx
            replace hB1 := hB1.ext hx
            replace hB12 := hB12.ext hx
            replace hB19 := hB19.ext hx
            have hE := Upd.refl (fun _ => False) W
            refine id (X_move (v := (.bool (true))) rfl ?_)
            exact ⟨hE, rfl⟩
          refine ⟨.det (fun val => (ptr b12 (0))), ⟨fun _ _ hv => rfl, fun _ _ _ _ _ => trivial⟩, fun val h_ W hx he => ⟨⟨115, rfl, rfl⟩, ?_⟩, ?_⟩
          · replace hx := (Upd.drew _ _).trans hx
            replace hp := hp.ext hx
            replace hc := hc.ext hx
            replace hb := hb.ext hx
            replace hPa := hPa.ext hx
            replace hB1 := hB1.ext hx
            replace hB12 := hB12.ext hx
            replace hB19 := hB19.ext hx
            have hE := Upd.refl (fun _ => False) W
            refine id (X_fldP (b := b12) (o := 0) (r := 0) Fd26_0 rfl rfl ?_)
            exact ⟨hE, rfl⟩
          refine ⟨.det (fun val => p_a), ⟨fun _ _ hv => rfl, fun _ _ _ _ _ => trivial⟩, fun val h_ W hx he => ⟨⟨115, rfl, rfl⟩, ?_⟩, ?_⟩
          · replace hx := (Upd.drew _ _).trans hx
            replace hp := hp.ext hx
            replace hc := hc.ext hx
            replace hb := hb.ext hx
            replace hPa := hPa.ext hx
            replace hB1 := hB1.ext hx
            replace hB12 := hB12.ext hx
            replace hB19 := hB19.ext hx
            have hE := Upd.refl (fun _ => False) W
            refine id (X_load (p := (ptr b12 (0))) (v := p_a) T22 rfl (hB12.at1 rfl) ?_)
            exact ⟨hE, rfl⟩
          refine ⟨.det (fun val => (.int .i64 (((i : Nat) : Int)))), ⟨fun _ _ hv => rfl, fun _ _ _ _ _ => trivial⟩, fun val h_ W hx he => ⟨⟨115, rfl, rfl⟩, ?_⟩, ?_⟩
          · replace hx := (Upd.drew _ _).trans hx
            replace hp := hp.ext hx
            replace hc := hc.ext hx
            replace hb := hb.ext hx
            replace hPa := hPa.ext hx
            replace hB1 := hB1.ext hx
            replace hB12 := hB12.ext hx
            replace hB19 := hB19.ext hx
            have hE := Upd.refl (fun _ => False) W
            refine id (X_move (v := (.int .i64 (((i : Nat) : Int)))) rfl ?_)
            exact ⟨hE, rfl⟩
          refine ⟨.det (fun val => (pof p_a ((((i : Nat) : Int) : Int).toNat * 256))), ⟨fun _ _ hv => rfl, fun _ _ _ _ _ => trivial⟩, fun val h_ W hx he => ⟨⟨115, rfl, rfl⟩, ?_⟩, ?_⟩
          · replace hx := (Upd.drew _ _).trans hx
            replace hp := hp.ext hx
            replace hc := hc.ext hx
            replace hb := hb.ext hx
            replace hPa := hPa.ext hx
            replace hB1 := hB1.ext hx
            replace hB12 := hB12.ext hx
            replace hB19 := hB19.ext hx
            have hE := Upd.refl (fun _ => False) W
            refine id (X_idx (v := p_a) (n := (flipP ps A K y).length) (k := .i64) (i := ((i : Nat) : Int)) S22 rfl hPa.1.sv rfl (by omega) (by omega) ?_)
            exact ⟨hE, rfl⟩
          refine ⟨.det (fun val => (.agg (((pi.1).map byteV)).toArray)), ⟨fun _ _ hv => rfl, fun _ _ _ _ _ => trivial⟩, fun val h_ W hx he => ⟨⟨115, rfl, rfl⟩, ?_⟩, ?_⟩
          · replace hx := (Upd.drew _ _).trans hx
            replace hp := hp.ext hx
            replace hc := hc.ext hx
            replace hb := hb.ext hx
            replace hPa := hPa.ext hx
            replace hB1 := hB1.ext hx
            replace hB12 := hB12.ext hx
            replace hB19 := hB19.ext hx
            have hE := Upd.refl (fun _ => False) W
            refine id (X_loadA (xs := pi.1.map byteV) A33 rfl (pall hPa.rd (Int.toNat_natCast _) hai) (by rw [List.length_map]; exact pi.2) ?_)
            exact ⟨hE, rfl⟩
          refine ⟨.det (fun val => (ptr b1 (0))), ⟨fun _ _ hv => rfl, fun _ _ _ _ _ => trivial⟩, fun val h_ W hx he => ⟨⟨115, rfl, rfl⟩, ?_⟩, ?_⟩
          · replace hx := (Upd.drew _ _).trans hx
            replace hp := hp.ext hx
            replace hc := hc.ext hx
            replace hb := hb.ext hx
            replace hPa := hPa.ext hx
            replace hB1 := hB1.ext hx
            replace hB12 := hB12.ext hx
            replace hB19 := hB19.ext hx
            have hE := Upd.refl (fun _ => False) W
            refine id (X_fldP (b := b1) (o := 0) (r := 0) Fd26_0 rfl rfl ?_)
            exact ⟨hE, rfl⟩
          refine ⟨.det (fun val => pv), ⟨fun _ _ hv => rfl, fun _ _ _ _ _ => trivial⟩, fun val h_ W hx he => ⟨⟨115, rfl, rfl⟩, ?_⟩, ?_⟩
          · replace hx := (Upd.drew _ _).trans hx
            replace hp := hp.ext hx
            replace hc := hc.ext hx
            replace hb := hb.ext hx
            replace hPa := hPa.ext hx
            replace hB1 := hB1.ext hx
            replace hB12 := hB12.ext hx
            replace hB19 := hB19.ext hx
            have hE := Upd.refl (fun _ => False) W
            refine id (X_load (p := (ptr b1 (0))) (v := pv) T22 rfl (hB1.at1 rfl) ?_)
            exact ⟨hE, rfl⟩
          refine ⟨.det (fun val => (.int .i64 (((i : Nat) : Int)))), ⟨fun _ _ hv => rfl, fun _ _ _ _ _ => trivial⟩, fun val h_ W hx he => ⟨⟨115, rfl, rfl⟩, ?_⟩, ?_⟩
          · replace hx := (Upd.drew _ _).trans hx
            replace hp := hp.ext hx
            replace hc := hc.ext hx
            replace hb := hb.ext hx
            replace hPa := hPa.ext hx
            replace hB1 := hB1.ext hx
            replace hB12 := hB12.ext hx
            replace hB19 := hB19.ext hx
            have hE := Upd.refl (fun _ => False) W
            refine id (X_move (v := (.int .i64 (((i : Nat) : Int)))) rfl ?_)
            exact ⟨hE, rfl⟩
          refine ⟨.det (fun val => (pof pv ((((i : Nat) : Int) : Int).toNat * 256))), ⟨fun _ _ hv => rfl, fun _ _ _ _ _ => trivial⟩, fun val h_ W hx he => ⟨⟨115, rfl, rfl⟩, ?_⟩, ?_⟩
          · replace hx := (Upd.drew _ _).trans hx
            replace hp := hp.ext hx
            replace hc := hc.ext hx
            replace hb := hb.ext hx
            replace hPa := hPa.ext hx
            replace hB1 := hB1.ext hx
            replace hB12 := hB12.ext hx
            replace hB19 := hB19.ext hx
            have hE := Upd.refl (fun _ => False) W
            refine id (X_idx (v := pv) (n := ps.length) (k := .i64) (i := ((i : Nat) : Int)) S22 rfl hp.sv rfl (by omega) (by omega) ?_)
            exact ⟨hE, rfl⟩
          refine ⟨.det (fun val => (.agg (((pi.1).map byteV)).toArray)), ⟨fun _ _ hv => rfl, fun _ _ _ _ _ => trivial⟩, fun val h_ W hx he => ⟨⟨115, rfl, rfl⟩, ?_⟩, ?_⟩
          · replace hx := (Upd.drew _ _).trans hx
            replace hp := hp.ext hx
            replace hc := hc.ext hx
            replace hb := hb.ext hx
            replace hPa := hPa.ext hx
            replace hB1 := hB1.ext hx
            replace hB12 := hB12.ext hx
            replace hB19 := hB19.ext hx
            have hE := Upd.refl (fun _ => False) W
            refine id (X_loadA (xs := pi.1.map byteV) A33 rfl (pall hp (Int.toNat_natCast _) hpi) (by rw [List.length_map]; exact pi.2) ?_)
            exact ⟨hE, rfl⟩
          refine ⟨.det (fun val => (.bool (false))), ⟨fun _ _ hv => rfl, fun _ _ _ _ _ => trivial⟩, fun val h_ W hx he => ⟨⟨115, rfl, rfl⟩, ?_⟩, ?_⟩
          · replace hx := (Upd.drew _ _).trans hx
            replace hp := hp.ext hx
            replace hc := hc.ext hx
            replace hb := hb.ext hx
            replace hPa := hPa.ext hx
            replace hB1 := hB1.ext hx
            replace hB12 := hB12.ext hx
            replace hB19 := hB19.ext hx
            have hE := Upd.refl (fun _ => False) W
            refine id (X_eqA (n := 256) (l := pi.1) (m := pi.1) (r := false) Try.underlying33 Try.underlying5 (by kernel_rfl) (by kernel_rfl) (by kernel_rfl) rfl rfl (pi.2) (pi.2) (.inr ⟨rfl, (by rw [beq_self_eq_true]; rfl)⟩) ?_)
            exact ⟨hE, rfl⟩
          refine ⟨.det (fun val => (.bool (false))), ⟨fun _ _ hv => rfl, fun _ _ _ _ _ => trivial⟩, fun val h_ W hx he => ⟨trivial, ?_⟩, ?_⟩
          · replace hx := (Upd.drew _ _).trans hx
            replace hp := hp.ext hx
            replace hc := hc.ext hx
            replace hb := hb.ext hx
            replace hPa := hPa.ext hx
            replace hB1 := hB1.ext hx
            replace hB12 := hB12.ext hx
            replace hB19 := hB19.ext hx
            have hE := Upd.refl (fun _ => False) W
            refine id (X_pick (t := true) (v := (.bool (false))) rfl rfl ?_)
            exact ⟨hE, rfl⟩
          refine ⟨.det (fun val => (.bool (false))), ⟨fun _ _ hv => rfl, fun _ _ _ _ _ => trivial⟩, fun val h_ W hx he => ⟨trivial, ?_⟩, ?_⟩
          · replace hx := (Upd.drew _ _).trans hx
            replace hp := hp.ext hx
            replace hc := hc.ext hx
            replace hb := hb.ext hx
            replace hPa := hPa.ext hx
            replace hB1 := hB1.ext hx
            replace hB12 := hB12.ext hx
            replace hB19 := hB19.ext hx
            have hE := Upd.refl (fun _ => False) W
            refine id (X_move (v := (.bool (false))) rfl ?_)
            exact ⟨hE, rfl⟩
          refine ⟨.det (fun val => (.int .i64 (((i : Nat) : Int)))), ⟨fun _ _ hv => rfl, fun _ _ _ _ _ => trivial⟩, fun val h_ W hx he => ⟨⟨128, rfl, rfl⟩, ?_⟩, ?_⟩
          · replace hx := (Upd.drew _ _).trans hx
            replace hp := hp.ext hx
            replace hc := hc.ext hx
            replace hb := hb.ext hx
            replace hPa := hPa.ext hx
            replace hB1 := hB1.ext hx
            replace hB12 := hB12.ext hx
            replace hB19 := hB19.ext hx
            have hE := Upd.refl (fun _ => False) W
            refine id (X_move (v := (.int .i64 (((i : Nat) : Int)))) rfl ?_)
            exact ⟨hE, rfl⟩
          refine ⟨.det (fun val => (.int .i64 (((A : Nat) : Int)))), ⟨fun _ _ hv => rfl, fun _ _ _ _ _ => trivial⟩, fun val h_ W hx he => ⟨⟨128, rfl, rfl⟩, ?_⟩, ?_⟩
          · replace hx := (Upd.drew _ _).trans hx
            replace hp := hp.ext hx
            replace hc := hc.ext hx
            replace hb := hb.ext hx
            replace hPa := hPa.ext hx
            replace hB1 := hB1.ext hx
            replace hB12 := hB12.ext hx
            replace hB19 := hB19.ext hx
            have hE := Upd.refl (fun _ => False) W
            refine id (X_move (v := (.int .i64 (((A : Nat) : Int)))) rfl ?_)
            exact ⟨hE, rfl⟩
          refine ⟨.det (fun val => (.bool (false))), ⟨fun _ _ hv => rfl, fun _ _ _ _ _ => trivial⟩, fun val h_ W hx he => ⟨⟨128, rfl, rfl⟩, ?_⟩, ?_⟩
          · replace hx := (Upd.drew _ _).trans hx
            replace hp := hp.ext hx
            replace hc := hc.ext hx
            replace hb := hb.ext hx
            replace hPa := hPa.ext hx
            replace hB1 := hB1.ext hx
            replace hB12 := hB12.ext hx
            replace hB19 := hB19.ext hx
            have hE := Upd.refl (fun _ => False) W
            refine id (X_cmp (k := .i64) (a := ((i : Nat) : Int)) (b := ((A : Nat) : Int)) (r := false) rfl rfl rfl (decide_eq_false (p := (((i : Nat) : Int) = ((A : Nat) : Int))) (by omega)) ?_)
            exact ⟨hE, rfl⟩
          refine ⟨.det (fun val => (.bool (false))), ⟨fun _ _ hv => rfl, fun _ _ _ _ _ => trivial⟩, fun val h_ W hx he => ⟨⟨128, rfl, rfl⟩, ?_⟩, ?_⟩
          · replace hx := (Upd.drew _ _).trans hx
            replace hp := hp.ext hx
            replace hc := hc.ext hx
            replace hb := hb.ext hx
            replace hPa := hPa.ext hx
            replace hB1 := hB1.ext hx
            replace hB12 := hB12.ext hx
            replace hB19 := hB19.ext hx
            have hE := Upd.refl (fun _ => False) W
            refine id (X_move (v := (.bool (false))) rfl ?_)
            exact ⟨hE, rfl⟩
          refine ⟨.no, ⟨fun _ _ _ => trivial, fun _ _ _ _ _ => trivial⟩, fun val h_ W hx he => ⟨132, rfl, .inl rfl⟩, ?_⟩
          refine ⟨.no, ⟨fun _ _ _ => trivial, fun _ _ _ _ _ => trivial⟩, fun val h_ W hx he => ⟨132, rfl, .inl rfl⟩, ?_⟩
          refine ⟨.no, ⟨fun _ _ _ => trivial, fun _ _ _ _ _ => trivial⟩, fun val h_ W hx he => ⟨132, rfl, .inl rfl⟩, ?_⟩
          refine ⟨.no, ⟨fun _ _ _ => trivial, fun _ _ _ _ _ => trivial⟩, fun val h_ W hx he => ⟨132, rfl, .inl rfl⟩, ?_⟩
          refine ⟨.no, ⟨fun _ _ _ => trivial, fun _ _ _ _ _ => trivial⟩, fun val h_ W hx he => ⟨132, rfl, .inl rfl⟩, ?_⟩
          refine ⟨.no, ⟨fun _ _ _ => trivial, fun _ _ _ _ _ => trivial⟩, fun val h_ W hx he => ⟨132, rfl, .inl rfl⟩, ?_⟩
          intro val W25 hx25 he25
          replace hx25 := (Upd.drew _ _).trans hx25
          have hz25 := hx25.size
          replace hp := hp.ext hx25
          replace hc := hc.ext hx25
          replace hb := hb.ext hx25
          replace hPa := hPa.ext hx25
          replace hB1 := hB1.ext hx25
          replace hB12 := hB12.ext hx25
          replace hB19 := hB19.ext hx25
          replace hU := hU.trans (Ext.upd hx25)
          refine L_gn (dj := 132) (t := false) rfl rfl rfl rfl ?_
          refine L_gy (dj := 128) rfl rfl rfl (X_pick (t := false) (v := (.bool (false))) rfl rfl ?_)
          refine L_op rfl (X_pick (t := false) (v := (.bool (false))) rfl rfl ?_)
          refine L_nil ?_
          refine T_n ?_
          refine W_cf rfl ?_
          refine W_skip ?_
          refine B_n ?_
          refine T_n ?_
          refine W_reg ?_
          refine L_op rfl (X_move (v := (.int .i64 (((i : Nat) : Int)))) rfl ?_)
          refine L_op rfl (X_arith (k := .i64) (a := ((i : Nat) : Int)) (b := 1) (r := ((i + 1 : Nat) : Int)) rfl rfl rfl (iadd64 (by omega) (by omega) (by omega)) ?_)
          refine L_op rfl (X_assign (v := (.int .i64 (((i + 1 : Nat) : Int)))) rfl ?_)
          refine L_nil ?_
          refine T_n ?_
          exact ⟨rfl, i + 1, ⟨⟨hi, hp, hc, hb, hPa, hB1, hB12, hB19, hU, by omega⟩, (by show ps.length - (i + 1) < ps.length - i; omega)⟩, (Out.mk rfl), ⟨rfl, trivial⟩⟩
      · refine L_op rfl (X_cmp (k := .i64) (a := ((i : Nat) : Int)) (b := ((ps.length : Nat) : Int)) (r := false) rfl rfl rfl (decide_eq_false (p := ((((i : Nat) : Int)) : Int) < ((((ps.length : Nat) : Int)) : Int)) (by omega)) ?_)
        refine L_nil ?_
        refine T_n ?_
        refine W_cf rfl ?_
        refine W_exit ?_
        refine T_e ?_
        refine T_e ?_
        refine B_x ?_
        refine T_n ?_
        refine W_seq ?_
        refine W_reg ?_
        refine L_op rfl (X_loadA (p := (ptr b1 (0))) (xs := [pv, cv, bv, (.bool (off))]) A26 rfl hB1.atAll rfl ?_)
        refine L_op rfl (X_fldP (b := b1) (o := 0) (r := 0) Fd26_0 rfl rfl ?_)
        refine L_op rfl (X_load (p := (ptr b1 (0))) (v := pv) T22 rfl (hB1.at1 rfl) ?_)
        refine L_op rfl (X_len (v := pv) (n := ps.length) Try.underlying22 rfl hp.sv ?_)
        refine L_op rfl (X_move (v := (byteV y)) rfl ?_)
        obtain ⟨s_c, hs_c⟩ : ∃ n, n = w21.heap.size := ⟨_, rfl⟩
        refine L_op rfl (X_fn (vs := [(.agg ([pv, cv, bv, (.bool (off))]).toArray), (.int .i64 (((ps.length : Nat) : Int))), (.int .i64 (0)), (byteV y)]) en13 rfl (CT.mono (c_flip pv cv bv ps cs bs off ((ps.length : Nat) : Int) (0) y _ 0 n0 (by omega) hp hc hb (by omega) (by omega) (by omega)) ?_))
        rintro _ w26 ⟨p_c, c_c, i_c, q_c, e_c, rfl, hPc, hCc, hIc, hokc, hnoc, hu26⟩
        have hz26 := hu26.size
        replace hp := hp.ext hu26
        replace hc := hc.ext hu26
        replace hb := hb.ext hu26
        replace hPa := hPa.ext hu26
        replace hB1 := hB1.ext hu26
        replace hB12 := hB12.ext hu26
        replace hB19 := hB19.ext hu26
        replace hU := hU.trans (Ext.upd hu26)
        obtain ⟨h1_, h2_⟩ := hnoc (fun h => by omega)
        subst h1_
        rw [h2_] at hPc
        obtain ⟨u_c, hu_c⟩ : ∃ n, n = w26.heap.size := ⟨_, rfl⟩
        rw [← hs_c, ← hu_c] at hPc hCc hIc
        refine L_op rfl (X_move (v := (.tuple #[(.agg #[p_c, c_c, i_c, (.bool (off))]), (.int .i64 (2))])) rfl ?_)
        refine L_op rfl (X_extract (l := [(.agg #[p_c, c_c, i_c, (.bool (off))]), (.int .i64 (2))]) (v := (.agg #[p_c, c_c, i_c, (.bool (off))])) rfl rfl ?_)
        refine L_op rfl (X_extract (l := [(.agg #[p_c, c_c, i_c, (.bool (off))]), (.int .i64 (2))]) (v := (.int .i64 (2))) rfl rfl ?_)
        refine L_op rfl (X_alloc (z := (.agg #[(.slice none 0 0), (.slice none 0 0), (.slice none 0 0), (.bool (false))])) (c := #[(.slice none 0 0), (.slice none 0 0), (.slice none 0 0), (.bool (false))]) Zv26 rfl ?_)
        intro b27 w27 hn27
        have hbn27 := hn27.num; have hbs27 := hn27.size
        replace hp := hp.ext hn27.ext
        replace hc := hc.ext hn27.ext
        replace hb := hb.ext hn27.ext
        replace hPa := hPa.ext hn27.ext
        replace hB1 := hB1.ext hn27.ext
        replace hB12 := hB12.ext hn27.ext
        replace hB19 := hB19.ext hn27.ext
        replace hU := hU.trans (Ext.upd hn27.ext)
        replace hPc := hPc.ext hn27.ext
        replace hCc := hCc.ext hn27.ext
        replace hIc := hIc.ext hn27.ext
        have hB27 := hn27.blk
        refine L_op0 (X_storeW (b := b27) (ys := [p_c, c_c, i_c, (.bool (off))]) A26 rfl rfl (List.forall_mem_cons.2 ⟨(hPc.1.sv.one), (List.forall_mem_cons.2 ⟨(hCc.1.sv.one), (List.forall_mem_cons.2 ⟨(hIc.1.sv.one), (List.forall_mem_cons.2 ⟨rfl, (fun _ h => by cases h)⟩)⟩)⟩)⟩) rfl hB27 rfl ?_)
        intro w28 hu28 hb28
        have hz28 := hu28.size
        replace hp := hp.upd hu28 fun i h1 h2 h => by have h : i = b27 := h; omega
        replace hc := hc.upd hu28 fun i h1 h2 h => by have h : i = b27 := h; omega
        replace hb := hb.upd hu28 fun i h1 h2 h => by have h : i = b27 := h; omega
        replace hPa := hPa.upd hu28 fun i h1 h2 h => by have h : i = b27 := h; omega
        replace hB1 := hB1.upd hu28 fun h => by have h : b1 = b27 := h; omega
        replace hB12 := hB12.upd hu28 fun h => by have h : b12 = b27 := h; omega
        replace hB19 := hB19.upd hu28 fun h => by have h : b19 = b27 := h; omega
        replace hU := hU.trans (hu28.mono fun i _ h => by have h : i = b27 := h; show n0 ≤ i; omega)
        replace hPc := hPc.upd hu28 fun i h1 h2 h => by have h : i = b27 := h; omega
        replace hCc := hCc.upd hu28 fun i h1 h2 h => by have h : i = b27 := h; omega
        replace hIc := hIc.upd hu28 fun i h1 h2 h => by have h : i = b27 := h; omega
        replace hB27 : Blk w28 b27 #[p_c, c_c, i_c, (.bool (off))] 26 := hb28
        refine L_op rfl (X_assign (v := (.int .i64 (2))) rfl ?_)
        refine L_nil ?_
        refine T_n ?_
        refine W_seq ?_
        refine W_reg ?_
        refine L_op rfl (X_loadA (p := (ptr b1 (0))) (xs := [pv, cv, bv, (.bool (off))]) A26 rfl hB1.atAll rfl ?_)
        refine L_op rfl (X_move (v := (.int .i64 (((A : Nat) : Int)))) rfl ?_)
        refine L_op rfl (X_move (v := (byteV y)) rfl ?_)
        obtain ⟨s_d, hs_d⟩ : ∃ n, n = w28.heap.size := ⟨_, rfl⟩
        refine L_op rfl (X_fn (vs := [(.agg ([pv, cv, bv, (.bool (off))]).toArray), (.int .i64 (((A : Nat) : Int))), (.int .i64 (256)), (byteV y)]) en13 rfl (CT.mono (c_flip pv cv bv ps cs bs off ((A : Nat) : Int) (256) y _ 0 n0 (by omega) hp hc hb (by omega) (by omega) (by omega)) ?_))
        rintro _ w29 ⟨p_d, c_d, i_d, q_d, e_d, rfl, hPd, hCd, hId, hokd, hnod, hu29⟩
        have hz29 := hu29.size
        replace hp := hp.ext hu29
        replace hc := hc.ext hu29
        replace hb := hb.ext hu29
        replace hPa := hPa.ext hu29
        replace hB1 := hB1.ext hu29
        replace hB12 := hB12.ext hu29
        replace hB19 := hB19.ext hu29
        replace hU := hU.trans (Ext.upd hu29)
        replace hPc := hPc.ext hu29
        replace hCc := hCc.ext hu29
        replace hIc := hIc.ext hu29
        replace hB27 := hB27.ext hu29
        obtain ⟨h1_, h2_⟩ := hnod (fun h => by omega)
        subst h1_
        rw [h2_] at hPd
        obtain ⟨u_d, hu_d⟩ : ∃ n, n = w29.heap.size := ⟨_, rfl⟩
        rw [← hs_d, ← hu_d] at hPd hCd hId
        refine L_op rfl (X_move (v := (.tuple #[(.agg #[p_d, c_d, i_d, (.bool (off))]), (.int .i64 (2))])) rfl ?_)
        refine L_op rfl (X_extract (l := [(.agg #[p_d, c_d, i_d, (.bool (off))]), (.int .i64 (2))]) (v := (.agg #[p_d, c_d, i_d, (.bool (off))])) rfl rfl ?_)
        refine L_op rfl (X_extract (l := [(.agg #[p_d, c_d, i_d, (.bool (off))]), (.int .i64 (2))]) (v := (.int .i64 (2))) rfl rfl ?_)
        refine L_op rfl (X_alloc (z := (.agg #[(.slice none 0 0), (.slice none 0 0), (.slice none 0 0), (.bool (false))])) (c := #[(.slice none 0 0), (.slice none 0 0), (.slice none 0 0), (.bool (false))]) Zv26 rfl ?_)
        intro b30 w30 hn30
        have hbn30 := hn30.num; have hbs30 := hn30.size
        replace hp := hp.ext hn30.ext
        replace hc := hc.ext hn30.ext
        replace hb := hb.ext hn30.ext
        replace hPa := hPa.ext hn30.ext
        replace hB1 := hB1.ext hn30.ext
        replace hB12 := hB12.ext hn30.ext
        replace hB19 := hB19.ext hn30.ext
        replace hU := hU.trans (Ext.upd hn30.ext)
        replace hPc := hPc.ext hn30.ext
        replace hCc := hCc.ext hn30.ext
        replace hIc := hIc.ext hn30.ext
        replace hB27 := hB27.ext hn30.ext
        replace hPd := hPd.ext hn30.ext
        replace hCd := hCd.ext hn30.ext
        replace hId := hId.ext hn30.ext
        have hB30 := hn30.blk
        refine L_op0 (X_storeW (b := b30) (ys := [p_d, c_d, i_d, (.bool (off))]) A26 rfl rfl (List.forall_mem_cons.2 ⟨(hPd.1.sv.one), (List.forall_mem_cons.2 ⟨(hCd.1.sv.one), (List.forall_mem_cons.2 ⟨(hId.1.sv.one), (List.forall_mem_cons.2 ⟨rfl, (fun _ h => by cases h)⟩)⟩)⟩)⟩) rfl hB30 rfl ?_)
        intro w31 hu31 hb31
        have hz31 := hu31.size
        replace hp := hp.upd hu31 fun i h1 h2 h => by have h : i = b30 := h; omega
        replace hc := hc.upd hu31 fun i h1 h2 h => by have h : i = b30 := h; omega
        replace hb := hb.upd hu31 fun i h1 h2 h => by have h : i = b30 := h; omega
        replace hPa := hPa.upd hu31 fun i h1 h2 h => by have h : i = b30 := h; omega
        replace hB1 := hB1.upd hu31 fun h => by have h : b1 = b30 := h; omega
        replace hB12 := hB12.upd hu31 fun h => by have h : b12 = b30 := h; omega
        replace hB19 := hB19.upd hu31 fun h => by have h : b19 = b30 := h; omega
        replace hU := hU.trans (hu31.mono fun i _ h => by have h : i = b30 := h; show n0 ≤ i; omega)
        replace hPc := hPc.upd hu31 fun i h1 h2 h => by have h : i = b30 := h; omega
        replace hCc := hCc.upd hu31 fun i h1 h2 h => by have h : i = b30 := h; omega
        replace hIc := hIc.upd hu31 fun i h1 h2 h => by have h : i = b30 := h; omega
        replace hB27 := hB27.upd hu31 fun h => by have h : b27 = b30 := h; omega
        replace hPd := hPd.upd hu31 fun i h1 h2 h => by have h : i = b30 := h; omega
        replace hCd := hCd.upd hu31 fun i h1 h2 h => by have h : i = b30 := h; omega
        replace hId := hId.upd hu31 fun i h1 h2 h => by have h : i = b30 := h; omega
        replace hB30 : Blk w31 b30 #[p_d, c_d, i_d, (.bool (off))] 26 := hb31
        refine L_op rfl (X_assign (v := (.int .i64 (2))) rfl ?_)
        refine L_nil ?_
        refine T_n ?_
        refine W_seq ?_
        refine W_reg ?_
        refine L_op rfl (X_loadA (p := (ptr b1 (0))) (xs := [pv, cv, bv, (.bool (off))]) A26 rfl hB1.atAll rfl ?_)
        refine L_op rfl (X_move (v := (byteV y)) rfl ?_)
        obtain ⟨s_e, hs_e⟩ : ∃ n, n = w31.heap.size := ⟨_, rfl⟩
        refine L_op rfl (X_fn (vs := [(.agg ([pv, cv, bv, (.bool (off))]).toArray), (.int .i64 (-1)), (.int .i64 (0)), (byteV y)]) en13 rfl (CT.mono (c_flip pv cv bv ps cs bs off (-1) (0) y _ 0 n0 (by omega) hp hc hb (by omega) (by omega) (by omega)) ?_))
        rintro _ w32 ⟨p_e, c_e, i_e, q_e, e_e, rfl, hPe, hCe, hIe, hoke, hnoe, hu32⟩
        have hz32 := hu32.size
        replace hp := hp.ext hu32
        replace hc := hc.ext hu32
        replace hb := hb.ext hu32
        replace hPa := hPa.ext hu32
        replace hB1 := hB1.ext hu32
        replace hB12 := hB12.ext hu32
        replace hB19 := hB19.ext hu32
        replace hU := hU.trans (Ext.upd hu32)
        replace hPc := hPc.ext hu32
        replace hCc := hCc.ext hu32
        replace hIc := hIc.ext hu32
        replace hB27 := hB27.ext hu32
        replace hPd := hPd.ext hu32
        replace hCd := hCd.ext hu32
        replace hId := hId.ext hu32
        replace hB30 := hB30.ext hu32
        obtain ⟨h1_, h2_⟩ := hnoe (fun h => by omega)
        subst h1_
        rw [h2_] at hPe
        obtain ⟨u_e, hu_e⟩ : ∃ n, n = w32.heap.size := ⟨_, rfl⟩
        rw [← hs_e, ← hu_e] at hPe hCe hIe
        refine L_op rfl (X_move (v := (.tuple #[(.agg #[p_e, c_e, i_e, (.bool (off))]), (.int .i64 (2))])) rfl ?_)
        refine L_op rfl (X_extract (l := [(.agg #[p_e, c_e, i_e, (.bool (off))]), (.int .i64 (2))]) (v := (.agg #[p_e, c_e, i_e, (.bool (off))])) rfl rfl ?_)
        refine L_op rfl (X_extract (l := [(.agg #[p_e, c_e, i_e, (.bool (off))]), (.int .i64 (2))]) (v := (.int .i64 (2))) rfl rfl ?_)
        refine L_op rfl (X_alloc (z := (.agg #[(.slice none 0 0), (.slice none 0 0), (.slice none 0 0), (.bool (false))])) (c := #[(.slice none 0 0), (.slice none 0 0), (.slice none 0 0), (.bool (false))]) Zv26 rfl ?_)
        intro b33 w33 hn33
        have hbn33 := hn33.num; have hbs33 := hn33.size
        replace hp := hp.ext hn33.ext
        replace hc := hc.ext hn33.ext
        replace hb := hb.ext hn33.ext
        replace hPa := hPa.ext hn33.ext
        replace hB1 := hB1.ext hn33.ext
        replace hB12 := hB12.ext hn33.ext
        replace hB19 := hB19.ext hn33.ext
        replace hU := hU.trans (Ext.upd hn33.ext)
        replace hPc := hPc.ext hn33.ext
        replace hCc := hCc.ext hn33.ext
        replace hIc := hIc.ext hn33.ext
        replace hB27 := hB27.ext hn33.ext
        replace hPd := hPd.ext hn33.ext
        replace hCd := hCd.ext hn33.ext
        replace hId := hId.ext hn33.ext
        replace hB30 := hB30.ext hn33.ext
        replace hPe := hPe.ext hn33.ext
        replace hCe := hCe.ext hn33.ext
        replace hIe := hIe.ext hn33.ext
        have hB33 := hn33.blk
        refine L_op0 (X_storeW (b := b33) (ys := [p_e, c_e, i_e, (.bool (off))]) A26 rfl rfl (List.forall_mem_cons.2 ⟨(hPe.1.sv.one), (List.forall_mem_cons.2 ⟨(hCe.1.sv.one), (List.forall_mem_cons.2 ⟨(hIe.1.sv.one), (List.forall_mem_cons.2 ⟨rfl, (fun _ h => by cases h)⟩)⟩)⟩)⟩) rfl hB33 rfl ?_)
        intro w34 hu34 hb34
        have hz34 := hu34.size
        replace hp := hp.upd hu34 fun i h1 h2 h => by have h : i = b33 := h; omega
        replace hc := hc.upd hu34 fun i h1 h2 h => by have h : i = b33 := h; omega
        replace hb := hb.upd hu34 fun i h1 h2 h => by have h : i = b33 := h; omega
        replace hPa := hPa.upd hu34 fun i h1 h2 h => by have h : i = b33 := h; omega
        replace hB1 := hB1.upd hu34 fun h => by have h : b1 = b33 := h; omega
        replace hB12 := hB12.upd hu34 fun h => by have h : b12 = b33 := h; omega
        replace hB19 := hB19.upd hu34 fun h => by have h : b19 = b33 := h; omega
        replace hU := hU.trans (hu34.mono fun i _ h => by have h : i = b33 := h; show n0 ≤ i; omega)
        replace hPc := hPc.upd hu34 fun i h1 h2 h => by have h : i = b33 := h; omega
        replace hCc := hCc.upd hu34 fun i h1 h2 h => by have h : i = b33 := h; omega
        replace hIc := hIc.upd hu34 fun i h1 h2 h => by have h : i = b33 := h; omega
        replace hB27 := hB27.upd hu34 fun h => by have h : b27 = b33 := h; omega
        replace hPd := hPd.upd hu34 fun i h1 h2 h => by have h : i = b33 := h; omega
        replace hCd := hCd.upd hu34 fun i h1 h2 h => by have h : i = b33 := h; omega
        replace hId := hId.upd hu34 fun i h1 h2 h => by have h : i = b33 := h; omega
        replace hB30 := hB30.upd hu34 fun h => by have h : b30 = b33 := h; omega
        replace hPe := hPe.upd hu34 fun i h1 h2 h => by have h : i = b33 := h; omega
        replace hCe := hCe.upd hu34 fun i h1 h2 h => by have h : i = b33 := h; omega
        replace hIe := hIe.upd hu34 fun i h1 h2 h => by have h : i = b33 := h; omega
        replace hB33 : Blk w34 b33 #[p_e, c_e, i_e, (.bool (off))] 26 := hb34
        refine L_op rfl (X_assign (v := (.int .i64 (2))) rfl ?_)
        refine L_nil ?_
        refine T_n ?_
        refine W_seq ?_
        refine W_reg ?_
        refine L_op rfl (X_move (v := (.int .i64 (2))) rfl ?_)
        refine L_op rfl (X_cmp (k := .i64) (a := 2) (b := 2) (r := true) rfl rfl rfl rfl ?_)
        refine L_op rfl (X_move (v := (.bool (true))) rfl ?_)
        refine L_gy (dj := 166) rfl rfl rfl (X_move (v := (.int .i64 (2))) rfl ?_)
        refine L_gy (dj := 166) rfl rfl rfl (X_cmp (k := .i64) (a := 2) (b := 2) (r := true) rfl rfl rfl rfl ?_)
        refine L_op rfl (X_pick (t := true) (v := (.bool (true))) rfl rfl ?_)
        refine L_op rfl (X_move (v := (.bool (true))) rfl ?_)
        refine L_gy (dj := 170) rfl rfl rfl (X_move (v := (.int .i64 (2))) rfl ?_)
        refine L_gy (dj := 170) rfl rfl rfl (X_cmp (k := .i64) (a := 2) (b := 2) (r := true) rfl rfl rfl rfl ?_)
        refine L_op rfl (X_pick (t := true) (v := (.bool (true))) rfl rfl ?_)
        refine L_op rfl (X_move (v := (.bool (true))) rfl ?_)
        refine L_gy (dj := 174) rfl rfl rfl (X_fn (vs := []) en8 rfl (CT.mono (c_wakes4 _) ?_))
        rintro vb35 w35 ⟨hvb35, hu35⟩
        have hz35 := hu35.size
        replace hp := hp.ext hu35
        replace hc := hc.ext hu35
        replace hb := hb.ext hu35
        replace hPa := hPa.ext hu35
        replace hB1 := hB1.ext hu35
        replace hB12 := hB12.ext hu35
        replace hB19 := hB19.ext hu35
        replace hU := hU.trans (Ext.upd hu35)
        replace hPc := hPc.ext hu35
        replace hCc := hCc.ext hu35
        replace hIc := hIc.ext hu35
        replace hB27 := hB27.ext hu35
        replace hPd := hPd.ext hu35
        replace hCd := hCd.ext hu35
        replace hId := hId.ext hu35
        replace hB30 := hB30.ext hu35
        replace hPe := hPe.ext hu35
        replace hCe := hCe.ext hu35
        replace hIe := hIe.ext hu35
        replace hB33 := hB33.ext hu35
        subst hvb35
        refine L_op rfl (X_pick (t := true) (v := (.bool (true))) rfl rfl ?_)
        refine L_op rfl (X_assign (v := (.bool (true))) rfl ?_)
        refine L_nil ?_
        refine T_n ?_
        refine W_ret ?_
        exact BQ_r (End_1 Try.results4 (v := .bool true) rfl ⟨rfl, hU.own hn0⟩)
end Go.Proofs.Ytfmgjkchhajpmaa
