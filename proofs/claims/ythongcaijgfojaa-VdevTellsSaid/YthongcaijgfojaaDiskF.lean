/-
  More contracts of chapter 03: flushing. (Printed by wip/gen/t03f.py of this repo.)
-/
import Derived.Test.YthongcaijgfojaaDiskE
namespace Go.Proofs.Ythongcaijgfojaa
open Go Go.SL Go.Proofs
set_option linter.unusedVariables false

theorem liF (bs : List Int) : bs.flatMap LI.cel = bs.map fun n => Value.int .i64 n := by
  induction bs with
  | nil => rfl
  | cons a r ih => rw [List.flatMap_cons, ih]; rfl
theorem liTake (bs : List Int) (i : Nat) : (bs.flatMap LI.cel).take i = (bs.take i).flatMap LI.cel := by rw [liF, liF, List.map_take]
theorem liSet (bs : List Int) (i : Nat) (a : Int) : (bs.flatMap LI.cel).set i (.int .i64 a) = (bs.set i a).flatMap LI.cel := by rw [liF, liF, List.map_set]
theorem take_set_succ {xs : List Int} {i : Nat} {a : Int} (hi : i < xs.length) : (xs.set i a).take (i + 1) = xs.take i ++ [a] := by
  rw [List.take_add_one, List.getElem?_set_self hi]
  congr 1
  apply List.ext_getElem?
  intro j
  simp only [List.getElem?_take, List.getElem?_set]
  grind
def flP (ps : List Pg) (l : List Wr) : List Pg := l.foldl (fun q e => q.set e.1.toNat e.2) ps
def flB (bs : List Int) (l : List Wr) : List Int := l.foldl (fun q e => keepI q e.1) bs
theorem flP_length (ps : List Pg) (l : List Wr) : (flP ps l).length = ps.length := by
  unfold flP
  induction l generalizing ps with
  | nil => rfl
  | cons a r ih => rw [List.foldl_cons, ih, List.length_set]
theorem flP_step {ps : List Pg} {l : List Wr} {i : Nat} {e : Wr} (h : l[i]? = some e) : flP ps (l.take (i + 1)) = (flP ps (l.take i)).set e.1.toNat e.2 := by
  unfold flP
  rw [List.take_add_one, h, List.foldl_append]; rfl
theorem flB_step {bs : List Int} {l : List Wr} {i : Nat} {e : Wr} (h : l[i]? = some e) : flB bs (l.take (i + 1)) = keepI (flB bs (l.take i)) e.1 := by
  unfold flB
  rw [List.take_add_one, h, List.foldl_append]; rfl
theorem flB_le (bs : List Int) (l : List Wr) : (flB bs l).length ≤ bs.length := by
  unfold flB
  induction l generalizing bs with
  | nil => exact Nat.le_refl _
  | cons a r ih => rw [List.foldl_cons]; exact Nat.le_trans (ih _) (keepI_le _ _)
theorem obk_cut0 {v : Value} {k n : Nat} (h : SV v n) : obk (cutv v 1 0 k) = obk v := by
  obtain ⟨a, c, rfl, _⟩ := h
  rw [cutv_zero']
  cases a <;> cases c <;> rfl
theorem keepI_ne {bs : List Int} {n : Int} {i : Nat} (h : ∀ (j : Nat) (a : Int), j < i → bs[j]? = some a → a ≠ n) : keepI (bs.take i) n = bs.take i := keepI_all fun j a hj => by
  rw [List.getElem?_take] at hj
  split at hj
  · exact h j a (by assumption) hj
  · cases hj

theorem c_delete (s : Value) (e : Wr) (b1 : Nat) (bs : List Int) (w : World) (lo up : Nat) (hN : NOwn LI w 3 5 lo up s bs) (hE : Blk w b1 (LW.cel e).toArray 43) (hb1 : b1 < lo ∨ up ≤ b1) : CT Try.prog 31 #[s, (.func (.func 32) #[] #[ptr b1 0])] w fun v w' => ∃ ds, NOwn LI w' 3 5 lo up v ds ∧ ds = keepI bs e.1 ∧ (∀ b, obk v = some b → obk s = some b) ∧ Upd (fun b => obk s = some b) w w' := by
  have hmx := hN.1.sv.len
  have hsv := hN.1.sv
  have hbd := hN.2.1
  refine CT_of Try.func31 rfl rfl rfl ?_
  refine W_seq ?_
  refine W_reg ?_
  refine L_op rfl (X_assign (v := (.slice none 0 0)) rfl ?_)
  refine L_nil ?_
  refine T_n ?_
  refine W_seq ?_
  refine W_reg ?_
  refine L_op rfl (X_move (v := s) rfl ?_)
  refine L_op rfl (X_move (v := (.func (.func 32) #[] #[ptr b1 0])) rfl ?_)
  have hbr := hN.rd
  refine L_op rfl (X_fn (vs := [s, (.func (.func 32) #[] #[ptr b1 0])]) en45 rfl (CT.mono (c_indexf s e b1 bs _ lo up hbr hE) ?_))
  rintro _ _ ⟨⟨rfl, hno⟩ | ⟨i0, rfl, hi0, hlt0⟩, rfl⟩
  · refine L_op rfl (X_assign (v := (.int .i64 (-1))) rfl ?_)
    refine L_nil ?_
    refine T_n ?_
    refine W_seq ?_
    refine W_seq ?_
    refine W_reg ?_
    refine L_op rfl (X_move (v := (.int .i64 (-1))) rfl ?_)
    refine L_op rfl (X_cmp (k := .i64) (a := -1) (b := -1) (r := true) rfl rfl rfl rfl ?_)
    refine L_nil ?_
    refine T_n ?_
    refine W_ct rfl ?_
    refine W_seq ?_
    refine W_reg ?_
    refine L_op rfl (X_move (v := s) rfl ?_)
    refine L_op rfl (X_assign (v := s) rfl ?_)
    refine L_nil ?_
    refine T_n ?_
    refine W_ret ?_
    refine T_r ?_
    exact BQ_r (End_1 Try.results31 (v := s) rfl ⟨bs, hN, (keepI_all hno).symm, fun _ h => h, Upd.refl _ _⟩)
  · have hi0l := (List.getElem?_eq_some_iff.1 hi0).1
    refine L_op rfl (X_assign (v := (.int .i64 (((i0 : Nat) : Int)))) rfl ?_)
    refine L_nil ?_
    refine T_n ?_
    refine W_seq ?_
    refine W_seq ?_
    refine W_reg ?_
    refine L_op rfl (X_move (v := (.int .i64 (((i0 : Nat) : Int)))) rfl ?_)
    refine L_op rfl (X_cmp (k := .i64) (a := ((i0 : Nat) : Int)) (b := -1) (r := false) rfl rfl rfl (decide_eq_false (p := ((((i0 : Nat) : Int)) : Int) = ((-1) : Int)) (by omega)) ?_)
    refine L_nil ?_
    refine T_n ?_
    refine W_cf rfl ?_
    refine W_skip ?_
    refine T_n ?_
    refine W_seq ?_
    refine W_seq ?_
    refine W_reg ?_
    refine L_op rfl (X_move (v := (.int .i64 (((i0 : Nat) : Int)))) rfl ?_)
    refine L_op rfl (X_arith (k := .i64) (a := ((i0 : Nat) : Int)) (b := 1) (r := ((i0 + 1 : Nat) : Int)) rfl rfl rfl (iadd64 (by omega) (by omega) (by omega)) ?_)
    refine L_op rfl (X_assign (v := (.int .i64 (((i0 + 1 : Nat) : Int)))) rfl ?_)
    refine L_nil ?_
    refine T_n ?_
    refine W_block ?_
    refine W_loop (α := Nat × Nat × List Int) [5, 6, 7, 16, 17, 18, 19, 20, 21, 22, 23, 24, 25, 26, 27, 28, 29, 30, 31, 32, 33, 34, 35] (fun ⟨i, j, xs⟩ => [(5, (.int .i64 (((i : Nat) : Int)))), (6, (.int .i64 (((j : Nat) : Int))))]) (fun ⟨i, j, xs⟩ w_ => j ≤ bs.length ∧ i < j ∧ xs.length = bs.length ∧ xs.take i = keepI (bs.take j) e.1 ∧ (keepI (bs.take j) e.1).length = i ∧ (∀ m, j ≤ m → xs[m]? = bs[m]?) ∧ Own w_ lo 3 1 s bs.length (xs.flatMap LI.cel) ∧ Blk w_ b1 (LW.cel e).toArray 43 ∧ Upd (fun b => obk s = some b) w w_) (fun ⟨i, j, xs⟩ => bs.length - j) ⟨rfl, (i0, i0 + 1, bs), ⟨by omega, Nat.lt_succ_self _, rfl, by rw [keepI_take_hit hi0, keepI_ne hlt0], by rw [keepI_take_hit hi0, keepI_ne hlt0, List.length_take]; omega, fun _ _ => rfl, hN.1, hE, Upd.refl _ _⟩, Out.refl _ _, ⟨rfl, rfl, trivial⟩⟩ ?_
    rintro ⟨i, j, xs⟩ w1 _ ⟨hjl, hij, hxs, hxi, hil, hrest, hO, hE, hU⟩
    have hxl : xs.length = bs.length := hxs
    refine W_seq ?_
    refine W_seq ?_
    refine W_reg ?_
    refine L_op rfl (X_move (v := (.int .i64 (((j : Nat) : Int)))) rfl ?_)
    refine L_op rfl (X_move (v := s) rfl ?_)
    refine L_op rfl (X_len (v := s) (n := bs.length) Try.underlying24 rfl hsv ?_)
    by_cases hc2 : (((j : Nat) : Int) : Int) < (((bs.length : Nat) : Int))
    · refine L_op rfl (X_cmp (k := .i64) (a := ((j : Nat) : Int)) (b := ((bs.length : Nat) : Int)) (r := true) rfl rfl rfl (decide_eq_true (p := ((((j : Nat) : Int)) : Int) < ((((bs.length : Nat) : Int)) : Int)) (by omega)) ?_)
      have hj : j < bs.length := by omega
      obtain ⟨a, haj⟩ : ∃ a, bs[j]? = some a := ⟨_, List.getElem?_eq_getElem hj⟩
      refine L_nil ?_
      refine T_n ?_
      refine W_ct rfl ?_
      refine W_skip ?_
      refine T_n ?_
      refine W_seq ?_
      refine W_block ?_
      refine W_seq ?_
      refine W_reg ?_
      refine L_op rfl (X_move (v := s) rfl ?_)
      refine L_op rfl (X_move (v := (.int .i64 (((j : Nat) : Int)))) rfl ?_)
      refine L_op rfl (X_idx (v := s) (n := bs.length) (k := .i64) (i := ((j : Nat) : Int)) S24 rfl hsv rfl (by omega) (by omega) ?_)
      refine L_op rfl (X_load (v := .int .i64 a) T3 rfl (hO.rd.cell (by rw [show (((j : Nat) : Int).toNat * 1) = j by omega, liF, List.getElem?_map, hrest j (Nat.le_refl _), haj]; rfl)) ?_)
      refine L_op rfl (X_assign (v := (.int .i64 (a))) rfl ?_)
      refine L_nil ?_
      refine T_n ?_
      refine W_seq ?_
      refine W_reg ?_
      refine L_op rfl (X_move (v := (.func (.func 32) #[] #[ptr b1 0])) rfl ?_)
      refine L_op rfl (X_move (v := (.int .i64 (a))) rfl ?_)
      refine L_op rfl (X_cl (vs := [.int .i64 a]) (cap := [ptr b1 0]) en32 rfl rfl (CT.mono (c_flush1 a e b1 _ hE) ?_))
      rintro _ _ ⟨rfl, rfl⟩
      rcases Bool.eq_false_or_eq_true (decide (a = e.1)) with hc3 | hc3
      · rw [hc3]
        refine L_op rfl (X_not (b := true) (r := false) rfl rfl ?_)
        refine L_nil ?_
        refine T_n ?_
        refine W_cf rfl ?_
        refine W_skip ?_
        refine B_n ?_
        refine T_n ?_
        refine W_reg ?_
        refine L_op rfl (X_move (v := (.int .i64 (((j : Nat) : Int)))) rfl ?_)
        refine L_op rfl (X_arith (k := .i64) (a := ((j : Nat) : Int)) (b := 1) (r := ((j + 1 : Nat) : Int)) rfl rfl rfl (iadd64 (by omega) (by omega) (by omega)) ?_)
        refine L_op rfl (X_assign (v := (.int .i64 (((j + 1 : Nat) : Int)))) rfl ?_)
        refine L_nil ?_
        refine T_n ?_
        exact ⟨rfl, ⟨i, j + 1, xs⟩, ⟨⟨hj, by omega, hxs, by rw [keepI_take_hit (by rw [haj, of_decide_eq_true hc3])]; exact hxi, by rw [keepI_take_hit (by rw [haj, of_decide_eq_true hc3])]; exact hil, fun m hm => hrest m (by omega), hO, hE, hU⟩, (by show bs.length - (j + 1) < bs.length - j; omega)⟩, (Out.mk rfl), ⟨rfl, rfl, trivial⟩⟩
      · rw [hc3]
        refine L_op rfl (X_not (b := false) (r := true) rfl rfl ?_)
        refine L_nil ?_
        refine T_n ?_
        refine W_ct rfl ?_
        refine W_seq ?_
        refine W_reg ?_
        refine L_op rfl (X_move (v := s) rfl ?_)
        refine L_op rfl (X_move (v := (.int .i64 (((i : Nat) : Int)))) rfl ?_)
        refine L_op rfl (X_move (v := (.int .i64 (a))) rfl ?_)
        refine L_op rfl (X_idx (v := s) (n := bs.length) (k := .i64) (i := ((i : Nat) : Int)) S24 rfl hsv rfl (by omega) (by omega) ?_)
        refine L_op0 (X_storeOwnC (i := ((i : Nat) : Int).toNat * 1) (v := s) (u := .int .i64 a) T3 hO (by omega) rfl rfl rfl ?_)
        intro w5 hO5 hu5
        have hz5 := hu5.size
        rw [show ((i : Nat) : Int).toNat * 1 = i by omega, liSet] at hO5
        replace hE := hE.upd hu5 fun h => by have h1 := hbd _ h; have h2 := (hO.lt h).1; omega
        replace hU := hU.trans hu5
        replace hO := hO5
        refine L_nil ?_
        refine T_n ?_
        refine W_reg ?_
        refine L_op rfl (X_move (v := (.int .i64 (((i : Nat) : Int)))) rfl ?_)
        refine L_op rfl (X_arith (k := .i64) (a := ((i : Nat) : Int)) (b := 1) (r := ((i + 1 : Nat) : Int)) rfl rfl rfl (iadd64 (by omega) (by omega) (by omega)) ?_)
        refine L_op rfl (X_assign (v := (.int .i64 (((i + 1 : Nat) : Int)))) rfl ?_)
        refine L_nil ?_
        refine B_n ?_
        refine T_n ?_
        refine W_reg ?_
        refine L_op rfl (X_move (v := (.int .i64 (((j : Nat) : Int)))) rfl ?_)
        refine L_op rfl (X_arith (k := .i64) (a := ((j : Nat) : Int)) (b := 1) (r := ((j + 1 : Nat) : Int)) rfl rfl rfl (iadd64 (by omega) (by omega) (by omega)) ?_)
        refine L_op rfl (X_assign (v := (.int .i64 (((j + 1 : Nat) : Int)))) rfl ?_)
        refine L_nil ?_
        refine T_n ?_
        exact ⟨rfl, ⟨i + 1, j + 1, xs.set i a⟩, ⟨⟨hj, by omega, by rw [List.length_set]; exact hxs, by rw [take_set_succ (by omega), hxi, keepI_take_miss haj (of_decide_eq_false hc3)], (by rw [keepI_take_miss haj (of_decide_eq_false hc3), List.length_append, hil]; rfl), fun m hm => by rw [List.getElem?_set_ne (by omega)]; exact hrest m (by omega), hO, hE, hU⟩, (by show bs.length - (j + 1) < bs.length - j; omega)⟩, (Out.mk rfl), ⟨rfl, rfl, trivial⟩⟩
    · refine L_op rfl (X_cmp (k := .i64) (a := ((j : Nat) : Int)) (b := ((bs.length : Nat) : Int)) (r := false) rfl rfl rfl (decide_eq_false (p := ((((j : Nat) : Int)) : Int) < ((((bs.length : Nat) : Int)) : Int)) (by omega)) ?_)
      refine L_nil ?_
      refine T_n ?_
      refine W_cf rfl ?_
      refine W_exit ?_
      refine T_e ?_
      refine T_e ?_
      refine B_x ?_
      refine T_n ?_
      refine W_seq ?_
      refine W_reg ?_
      refine L_op rfl (X_move (v := s) rfl ?_)
      refine L_op rfl (X_move (v := (.int .i64 (((i : Nat) : Int)))) rfl ?_)
      refine L_op rfl (X_slice (n := bs.length) (l := i) (h' := bs.length) (kl := .i64) (kh := .i64) S24 rfl hsv rfl rfl (by omega) (by omega) ?_)
      refine L_op0 (X_clearTail (z := .int .i64 0) (v := s) S24 rfl rfl hO (i := i) (by omega) rfl ?_)
      intro w8 ys hO8 hys hu8
      rw [liTake] at hys
      replace hU := hU.trans hu8
      refine L_nil ?_
      refine T_n ?_
      refine W_seq ?_
      refine W_reg ?_
      refine L_op rfl (X_move (v := s) rfl ?_)
      refine L_op rfl (X_move (v := (.int .i64 (((i : Nat) : Int)))) rfl ?_)
      refine L_op rfl (X_slice (n := bs.length) (l := 0) (h' := i) (kl := .i64) (kh := .i64) S24 rfl hsv rfl rfl (by omega) (by omega) ?_)
      refine L_op rfl (X_assign (v := (cutv s 1 0 i)) rfl ?_)
      refine L_nil ?_
      refine T_n ?_
      refine W_ret ?_
      obtain rfl : j = bs.length := by omega
      have hO9 := hO8.cut0 (k := i) (by omega)
      rw [Nat.mul_one, hys, hxi, List.take_length] at hO9
      exact BQ_r (End_1 Try.results31 (v := cutv s 1 0 i) rfl ⟨keepI bs e.1, NOwn.of (fun _ => rfl) (hO9.eq (by rw [List.take_length] at hil; omega) rfl) (fun b hb => hbd b (by rwa [obk_cut0 hsv] at hb)), rfl, fun b hb => by rwa [obk_cut0 hsv] at hb, hU⟩)

theorem c_flush (pv cv bv : Value) (ps : List Pg) (cs : List Wr) (bs : List Int) (off : Bool) (w : World) (lo up : Nat) (hup : up ≤ w.heap.size) (hp : NRd LP w lo up pv ps) (hc : NRd LW w lo up cv cs) (hb : NRd LI w lo up bv bs) (hpL : ps.length ≤ 1048576) (hcL : cs.length ≤ 1048576) (hbL : bs.length ≤ 1048576) : CT Try.prog 13 #[(.agg #[pv, cv, bv, (.bool (off))])] w fun v w' => ∃ p2 c2 i2 qs ds as_, v = .tuple #[.agg #[p2, c2, i2, .bool off], .int .i64 (askE ps.length cs bs off 0)] ∧ NOwn LP w' 28 5 w.heap.size w'.heap.size p2 qs ∧ NOwn LW w' 43 5 w.heap.size w'.heap.size c2 ds ∧ NOwn LI w' 3 5 w.heap.size w'.heap.size i2 as_ ∧ (askE ps.length cs bs off 0 = 0 → qs = flP ps cs ∧ ds = [] ∧ as_ = flB bs cs) ∧ (askE ps.length cs bs off 0 ≠ 0 → qs = ps ∧ ds = cs ∧ as_ = bs) ∧ Ext w w' := by
  obtain ⟨n0, hn0⟩ : ∃ n, n = w.heap.size := ⟨_, rfl⟩
  have hU : Upd (fun i => n0 ≤ i) w w := Upd.refl _ _
  have hpl := hp.sv.len
  have hcl := hc.sv.len
  have hbl := hb.sv.len
  rw [← hn0] at hup
  refine CT_of Try.func13 rfl rfl rfl ?_
  refine W_seq ?_
  refine W_reg ?_
  refine L_op rfl (X_box (v := (.agg #[pv, cv, bv, (.bool (off))])) (c := ([pv, cv, bv, (.bool (off))]).toArray) rfl rfl ?_)
  intro b1 w1 hn1
  have hbn1 := hn1.num; have hbs1 := hn1.size
  replace hp := hp.ext hn1.ext
  replace hc := hc.ext hn1.ext
  replace hb := hb.ext hn1.ext
  replace hU := hU.trans (Ext.upd hn1.ext)
  have hB1 := hn1.blk
  refine L_op rfl (X_alloc (z := (.agg #[(.slice none 0 0), (.slice none 0 0), (.slice none 0 0), (.bool (false))])) (c := #[(.slice none 0 0), (.slice none 0 0), (.slice none 0 0), (.bool (false))]) Zv26 rfl ?_)
  intro b2 w2 hn2
  have hbn2 := hn2.num; have hbs2 := hn2.size
  replace hp := hp.ext hn2.ext
  replace hc := hc.ext hn2.ext
  replace hb := hb.ext hn2.ext
  replace hU := hU.trans (Ext.upd hn2.ext)
  replace hB1 := hB1.ext hn2.ext
  have hB2 := hn2.blk
  refine L_op rfl (X_assign (v := (.int .i64 (0))) rfl ?_)
  refine L_nil ?_
  refine T_n ?_
  refine W_seq ?_
  refine W_reg ?_
  refine L_op rfl (X_loadA (p := (ptr b1 (0))) (xs := [pv, cv, bv, (.bool (off))]) A26 rfl hB1.atAll rfl ?_)
  refine L_op rfl (X_fn (vs := [(.agg ([pv, cv, bv, (.bool (off))]).toArray), (.int .i64 (0))]) en28 rfl (CT.mono (c_asked pv cv bv ps cs bs off 0 _ lo up (by omega) hp hc hb) ?_))
  rintro _ w3 ⟨rfl, hu3⟩
  have hz3 := hu3.size
  replace hp := hp.ext hu3
  replace hc := hc.ext hu3
  replace hb := hb.ext hu3
  replace hU := hU.trans (Ext.upd hu3)
  replace hB1 := hB1.ext hu3
  replace hB2 := hB2.ext hu3
  refine L_op rfl (X_assign (v := (.int .i64 ((askE ps.length cs bs off (0))))) rfl ?_)
  refine L_nil ?_
  refine T_n ?_
  refine W_seq ?_
  refine W_reg ?_
  refine L_op rfl (X_loadA (p := (ptr b1 (0))) (xs := [pv, cv, bv, (.bool (off))]) A26 rfl hB1.atAll rfl ?_)
  obtain ⟨s0, hs0⟩ : ∃ n, n = w3.heap.size := ⟨_, rfl⟩
  refine L_op rfl (X_fn (vs := [(.agg ([pv, cv, bv, (.bool (off))]).toArray)]) en17 rfl (CT.mono (c_copy pv cv bv ps cs bs off _ lo up (by omega) hp hc hb hpL hcL hbL) ?_))
  rintro _ w4 ⟨p_2, c_2, i_2, rfl, hP2, hC2, hI2, hu4⟩
  have hz4 := hu4.size
  rw [← hs0] at hP2 hC2 hI2
  obtain ⟨us0, hus0_⟩ : ∃ n, n = w4.heap.size := ⟨_, rfl⟩
  rw [← hus0_] at hP2 hC2 hI2
  replace hp := hp.ext hu4
  replace hc := hc.ext hu4
  replace hb := hb.ext hu4
  replace hU := hU.trans (Ext.upd hu4)
  replace hB1 := hB1.ext hu4
  replace hB2 := hB2.ext hu4
  refine L_op0 (X_storeW (b := b1) (ys := [p_2, c_2, i_2, (.bool (off))]) A26 rfl rfl (List.forall_mem_cons.2 ⟨(hP2.1.sv.one), (List.forall_mem_cons.2 ⟨(hC2.1.sv.one), (List.forall_mem_cons.2 ⟨(hI2.1.sv.one), (List.forall_mem_cons.2 ⟨rfl, (fun _ h => by cases h)⟩)⟩)⟩)⟩) rfl hB1 rfl ?_)
  intro w5 hu5 hb5
  have hz5 := hu5.size
  replace hp := hp.upd hu5 fun i h1 h2 h => by have h : i = b1 := h; omega
  replace hc := hc.upd hu5 fun i h1 h2 h => by have h : i = b1 := h; omega
  replace hb := hb.upd hu5 fun i h1 h2 h => by have h : i = b1 := h; omega
  replace hU := hU.trans (hu5.mono fun i _ h => by have h : i = b1 := h; show n0 ≤ i; omega)
  replace hB2 := hB2.upd hu5 fun h => by have h : b2 = b1 := h; omega
  replace hP2 := hP2.upd hu5 fun i h1 h2 h => by have h : i = b1 := h; omega
  replace hC2 := hC2.upd hu5 fun i h1 h2 h => by have h : i = b1 := h; omega
  replace hI2 := hI2.upd hu5 fun i h1 h2 h => by have h : i = b1 := h; omega
  replace hB1 : Blk w5 b1 #[p_2, c_2, i_2, (.bool (off))] 26 := hb5
  refine L_nil ?_
  refine T_n ?_
  refine W_seq ?_
  refine W_seq ?_
  refine W_reg ?_
  refine L_op rfl (X_move (v := (.int .i64 ((askE ps.length cs bs off (0))))) rfl ?_)
  by_cases hc6 : ((askE ps.length cs bs off (0)) : Int) ≠ (0)
  · refine L_op rfl (X_cmp (k := .i64) (a := (askE ps.length cs bs off (0))) (b := 0) (r := true) rfl rfl rfl (decide_eq_true (p := (((askE ps.length cs bs off (0))) : Int) ≠ ((0) : Int)) (by omega)) ?_)
    refine L_nil ?_
    refine T_n ?_
    refine W_ct rfl ?_
    refine W_seq ?_
    refine W_reg ?_
    refine L_op rfl (X_loadA (p := (ptr b1 (0))) (xs := [p_2, c_2, i_2, (.bool (off))]) A26 rfl hB1.atAll rfl ?_)
    refine L_op rfl (X_move (v := (.int .i64 ((askE ps.length cs bs off (0))))) rfl ?_)
    refine L_op0 (X_storeW (b := b2) (ys := [p_2, c_2, i_2, (.bool (off))]) A26 rfl rfl (List.forall_mem_cons.2 ⟨(hP2.1.sv.one), (List.forall_mem_cons.2 ⟨(hC2.1.sv.one), (List.forall_mem_cons.2 ⟨(hI2.1.sv.one), (List.forall_mem_cons.2 ⟨rfl, (fun _ h => by cases h)⟩)⟩)⟩)⟩) rfl hB2 rfl ?_)
    intro w7 hu7 hb7
    have hz7 := hu7.size
    replace hp := hp.upd hu7 fun i h1 h2 h => by have h : i = b2 := h; omega
    replace hc := hc.upd hu7 fun i h1 h2 h => by have h : i = b2 := h; omega
    replace hb := hb.upd hu7 fun i h1 h2 h => by have h : i = b2 := h; omega
    replace hU := hU.trans (hu7.mono fun i _ h => by have h : i = b2 := h; show n0 ≤ i; omega)
    replace hP2 := hP2.upd hu7 fun i h1 h2 h => by have h : i = b2 := h; omega
    replace hC2 := hC2.upd hu7 fun i h1 h2 h => by have h : i = b2 := h; omega
    replace hI2 := hI2.upd hu7 fun i h1 h2 h => by have h : i = b2 := h; omega
    replace hB1 := hB1.upd hu7 fun h => by have h : b1 = b2 := h; omega
    replace hB2 : Blk w7 b2 #[p_2, c_2, i_2, (.bool (off))] 26 := hb7
    refine L_op rfl (X_assign (v := (.int .i64 ((askE ps.length cs bs off (0))))) rfl ?_)
    refine L_nil ?_
    refine T_n ?_
    refine W_ret ?_
    refine T_r ?_
    exact BQ_r (End_2 Try.results13 (RV_A A26 rfl hB2.atAll rfl) (v2 := .int .i64 (askE ps.length cs bs off (0))) rfl ⟨_, _, _, ps, cs, bs, rfl, hP2.mono (by omega) (by omega), hC2.mono (by omega) (by omega), hI2.mono (by omega) (by omega), fun h => absurd h hc6, fun _ => ⟨rfl, rfl, rfl⟩, hU.own hn0⟩)
  · refine L_op rfl (X_cmp (k := .i64) (a := (askE ps.length cs bs off (0))) (b := 0) (r := false) rfl rfl rfl (decide_eq_false (p := (((askE ps.length cs bs off (0))) : Int) ≠ ((0) : Int)) (by omega)) ?_)
    have hq0 : askE ps.length cs bs off 0 = 0 := by omega
    have hz0 := askE_zero hq0
    have hsvc := hC2.1.sv
    refine L_nil ?_
    refine T_n ?_
    refine W_cf rfl ?_
    refine W_skip ?_
    refine T_n ?_
    refine W_seq ?_
    refine W_seq ?_
    refine W_reg ?_
    refine L_op rfl (X_fldP (b := b1) (o := 0) (r := 1) Fd26_1 rfl rfl ?_)
    refine L_op rfl (X_load (p := (ptr b1 (1))) (v := c_2) T23 rfl (hB1.at1 rfl) ?_)
    refine L_op rfl (X_len (v := c_2) (n := cs.length) Try.underlying23 rfl hC2.1.sv ?_)
    refine L_op rfl (X_move (v := (.int .i64 (0))) rfl ?_)
    refine L_nil ?_
    refine T_n ?_
    refine W_block ?_
    refine W_loop (α := Nat × Value × List Pg × List Int) [6, 18, 19, 20, 21, 22, 23, 24, 25, 26, 27, 28, 29, 30, 31, 32, 33, 34] (fun ⟨i, i_3, qs, as_⟩ => [(18, (.int .i64 (((i : Nat) : Int))))]) (fun ⟨i, i_3, qs, as_⟩ w_ => i ≤ cs.length ∧ qs = flP ps (cs.take i) ∧ as_ = flB bs (cs.take i) ∧ NOwn LP w_ 28 5 s0 us0 p_2 qs ∧ NOwn LW w_ 43 5 s0 us0 c_2 cs ∧ NOwn LI w_ 3 5 s0 us0 i_3 as_ ∧ Blk w_ b1 #[p_2, c_2, i_3, .bool off] 26 ∧ Blk w_ b2 #[.slice none 0 0, .slice none 0 0, .slice none 0 0, .bool false] 26 ∧ Upd (fun i => n0 ≤ i) w w_ ∧ us0 ≤ w_.heap.size) (fun ⟨i, i_3, qs, as_⟩ => cs.length - i) ⟨rfl, (0, i_2, ps, bs), ⟨Nat.zero_le _, rfl, rfl, hP2, hC2, hI2, hB1, hB2, hU, by omega⟩, Out.refl _ _, ⟨rfl, trivial⟩⟩ ?_
    rintro ⟨i, i_3, qs, as_⟩ w8 _ ⟨hil, hqs, has, hP2, hC2, hI2, hB1, hB2, hU, husw⟩
    have hsz_ := hU.size
    have hql : qs.length = ps.length := by rw [hqs, flP_length]
    have hal_ : as_.length ≤ bs.length := by rw [has]; exact flB_le _ _
    refine W_seq ?_
    refine W_reg ?_
    by_cases hc9 : (((i : Nat) : Int) : Int) < (((cs.length : Nat) : Int))
    · refine L_op rfl (X_cmp (k := .i64) (a := ((i : Nat) : Int)) (b := ((cs.length : Nat) : Int)) (r := true) rfl rfl rfl (decide_eq_true (p := ((((i : Nat) : Int)) : Int) < ((((cs.length : Nat) : Int)) : Int)) (by omega)) ?_)
      have hi : i < cs.length := by omega
      obtain ⟨e, hei⟩ : ∃ e, cs[i]? = some e := ⟨_, List.getElem?_eq_getElem hi⟩
      have hin := hz0.1.2.1 i e hi hei
      refine L_nil ?_
      refine T_n ?_
      refine W_seq ?_
      refine W_ct rfl ?_
      refine W_skip ?_
      refine T_n ?_
      refine W_seq ?_
      refine W_block ?_
      refine W_seq ?_
      refine W_reg ?_
      refine L_op rfl (X_idx (v := c_2) (n := cs.length) (k := .i64) (i := ((i : Nat) : Int)) S23 rfl hsvc rfl (by omega) (by omega) ?_)
      refine L_op rfl (X_loadA (xs := LW.cel e) A43 rfl (wall hC2.rd (Int.toNat_natCast _) hei) (LW.len e) ?_)
      refine L_op rfl (X_alloc (z := zv43) (c := zc43.toArray) Zv43 rfl ?_)
      intro b10 w10 hn10
      have hbn10 := hn10.num; have hbs10 := hn10.size
      replace hP2 := hP2.ext hn10.ext
      replace hC2 := hC2.ext hn10.ext
      replace hI2 := hI2.ext hn10.ext
      replace hB1 := hB1.ext hn10.ext
      replace hB2 := hB2.ext hn10.ext
      replace hU := hU.trans (Ext.upd hn10.ext)
      have hB10 := hn10.blk
      refine L_op0 (X_storeW (b := b10) (ys := LW.cel e) A43 rfl rfl (LW.one e (fun _ h => by cases h)) (LW.len e) hB10 zc43_size ?_)
      intro w11 hu11 hb11
      have hz11 := hu11.size
      replace hP2 := hP2.upd hu11 fun i h1 h2 h => by have h : i = b10 := h; omega
      replace hC2 := hC2.upd hu11 fun i h1 h2 h => by have h : i = b10 := h; omega
      replace hI2 := hI2.upd hu11 fun i h1 h2 h => by have h : i = b10 := h; omega
      replace hB1 := hB1.upd hu11 fun h => by have h : b1 = b10 := h; omega
      replace hB2 := hB2.upd hu11 fun h => by have h : b2 = b10 := h; omega
      replace hU := hU.trans (hu11.mono fun i _ h => by have h : i = b10 := h; show n0 ≤ i; omega)
      replace hB10 := hb11
      refine L_nil ?_
      refine T_n ?_
      refine W_seq ?_
      refine W_reg ?_
      refine L_op rfl (X_fldP (b := b1) (o := 0) (r := 0) Fd26_0 rfl rfl ?_)
      refine L_op rfl (X_load (p := (ptr b1 (0))) (v := p_2) T22 rfl (hB1.at1 rfl) ?_)
      refine L_op rfl (X_fldP (b := b10) (o := 0) (r := 0) Fd43_0 rfl rfl ?_)
      refine L_op rfl (X_load (p := (ptr b10 (0))) (v := .int .i64 e.1) T3 rfl (hB10.at1 rfl) ?_)
      refine L_op rfl (X_fldP (b := b10) (o := 0) (r := 1) Fd43_1 rfl rfl ?_)
      refine L_op rfl (X_loadA (xs := e.2.1.map byteV) A28 rfl (hB10.at_ 1 (e.2.1.map byteV) (fun j u hj => by rw [Nat.add_comm]; simpa [LW] using hj)) (by rw [List.length_map]; exact e.2.2) ?_)
      refine L_op rfl (X_idx (v := p_2) (n := qs.length) (k := .i64) (i := e.1) S22 rfl hP2.1.sv rfl (by omega) (by omega) ?_)
      refine L_op0 (X_storeOwnA (i := e.1.toNat * 256) (m := 256) (v := p_2) (ys := e.2.1.map byteV) A28 hP2.1 (by have h1 := hin.2; have h2 : LP.sz = 256 := rfl; rw [h2]; omega) (by decide) rfl rfl (byteV_one _) (by rw [List.length_map]; exact e.2.2) ?_)
      intro w8 hO8 hu8
      have hz8 := hu8.size
      have hlt_ : e.1.toNat < qs.length := by omega
      have hP8 : NOwn LP w8 28 5 s0 us0 p_2 (qs.set e.1.toNat e.2) := NOwn.of (fun _ => rfl) (hO8.eq (by rw [List.length_set]) (by rw [flat_setA (L := LP) hlt_]; rfl)) hP2.2.1
      replace hC2 := NOwn.upd' (fun _ => rfl) hC2 hu8 fun b h1 h2 => absurd (hC2.1.types hP2.1 h1 h2) (by decide)
      replace hI2 := NOwn.upd' (fun _ => rfl) hI2 hu8 fun b h1 h2 => absurd (hI2.1.types hP2.1 h1 h2) (by decide)
      replace hB1 := hB1.upd hu8 fun h => by have h1_ := hP2.1.lt h; have h2_ := hP2.2.1 _ h; omega
      replace hB2 := hB2.upd hu8 fun h => by have h1_ := hP2.1.lt h; have h2_ := hP2.2.1 _ h; omega
      replace hU := hU.trans (hu8.mono fun i _ h => by have h1_ := hP2.1.lt h; have h2_ := hP2.2.1 _ h; show n0 ≤ i; omega)
      replace hB10 := hB10.upd hu8 fun h => by have h1_ := hP2.1.lt h; have h2_ := hP2.2.1 _ h; omega
      replace hP2 := hP8
      refine L_nil ?_
      refine T_n ?_
      refine W_reg ?_
      refine L_op rfl (X_fldP (b := b1) (o := 0) (r := 2) Fd26_2 rfl rfl ?_)
      refine L_op rfl (X_load (p := (ptr b1 (2))) (v := i_3) T24 rfl (hB1.at1 rfl) ?_)
      refine L_op rfl (X_makeFunc (vs := [(ptr b10 (0))]) rfl ?_)
      have hbe_ := hB10.lt
      have hbg : us0 ≤ b10 := by omega
      refine L_op rfl (X_fn (vs := [i_3, (.func (.func 32) #[] #[(ptr b10 (0))])]) en31 rfl (CT.mono (c_delete i_3 e b10 as_ _ s0 us0 hI2 hB10 (.inr hbg)) ?_))
      rintro i_4 w9 ⟨ds, hI4, hds, hob, hu9⟩
      have hz9 := hu9.size
      replace hP2 := NOwn.upd' (fun _ => rfl) hP2 hu9 fun b h1 h2 => absurd (hP2.1.types hI2.1 h1 h2) (by decide)
      replace hC2 := NOwn.upd' (fun _ => rfl) hC2 hu9 fun b h1 h2 => absurd (hC2.1.types hI2.1 h1 h2) (by decide)
      replace hB1 := hB1.upd hu9 fun h => by have h1_ := hI2.1.lt h; have h2_ := hI2.2.1 _ h; omega
      replace hB2 := hB2.upd hu9 fun h => by have h1_ := hI2.1.lt h; have h2_ := hI2.2.1 _ h; omega
      replace hU := hU.trans (hu9.mono fun i _ h => by have h1_ := hI2.1.lt h; have h2_ := hI2.2.1 _ h; show n0 ≤ i; omega)
      refine L_op rfl (X_fldP (b := b1) (o := 0) (r := 2) Fd26_2 rfl rfl ?_)
      refine L_op0 (X_store (b := b1) (o := 2) T24 rfl rfl (hI4.1.sv.one) hB1 (by show (2 : Nat) < 4; decide) ?_)
      intro w12 hu12 hb12
      have hz12 := hu12.size
      replace hB2 := hB2.upd hu12 fun h => by have h : b2 = b1 := h; omega
      replace hU := hU.trans (hu12.mono fun i _ h => by have h : i = b1 := h; show n0 ≤ i; omega)
      replace hP2 := hP2.upd hu12 fun i h1 h2 h => by have h : i = b1 := h; omega
      replace hC2 := hC2.upd hu12 fun i h1 h2 h => by have h : i = b1 := h; omega
      replace hI4 := hI4.upd hu12 fun i h1 h2 h => by have h : i = b1 := h; omega
      replace hB1 : Blk w12 b1 #[p_2, c_2, i_4, (.bool (off))] 26 := hb12
      refine L_nil ?_
      refine B_n ?_
      refine T_n ?_
      refine W_reg ?_
      refine L_op rfl (X_arith (k := .i64) (a := ((i : Nat) : Int)) (b := 1) (r := ((i + 1 : Nat) : Int)) rfl rfl rfl (iadd64 (by omega) (by omega) (by omega)) ?_)
      refine L_op rfl (X_move (v := (.int .i64 (((i + 1 : Nat) : Int)))) rfl ?_)
      refine L_nil ?_
      refine T_n ?_
      exact ⟨rfl, (i + 1, i_4, qs.set e.1.toNat e.2, ds), ⟨⟨hi, by rw [hqs, flP_step hei], by rw [hds, has, flB_step hei], hP2, hC2, hI4, hB1, hB2, hU, by omega⟩, (by show cs.length - (i + 1) < cs.length - i; omega)⟩, (Out.mk rfl), ⟨rfl, trivial⟩⟩
    · refine L_op rfl (X_cmp (k := .i64) (a := ((i : Nat) : Int)) (b := ((cs.length : Nat) : Int)) (r := false) rfl rfl rfl (decide_eq_false (p := ((((i : Nat) : Int)) : Int) < ((((cs.length : Nat) : Int)) : Int)) (by omega)) ?_)
      refine L_nil ?_
      refine T_n ?_
      refine W_seq ?_
      refine W_cf rfl ?_
      refine W_exit ?_
      refine T_e ?_
      refine T_e ?_
      refine B_x ?_
      refine T_n ?_
      refine W_seq ?_
      refine W_reg ?_
      refine L_op rfl (X_fldP (b := b1) (o := 0) (r := 1) Fd26_1 rfl rfl ?_)
      refine L_op0 (X_store (b := b1) (o := 1) T23 rfl rfl rfl hB1 (by show (1 : Nat) < 4; decide) ?_)
      intro w13 hu13 hb13
      have hz13 := hu13.size
      replace hP2 := hP2.upd hu13 fun i h1 h2 h => by have h : i = b1 := h; omega
      replace hC2 := hC2.upd hu13 fun i h1 h2 h => by have h : i = b1 := h; omega
      replace hI2 := hI2.upd hu13 fun i h1 h2 h => by have h : i = b1 := h; omega
      replace hB2 := hB2.upd hu13 fun h => by have h : b2 = b1 := h; omega
      replace hU := hU.trans (hu13.mono fun i _ h => by have h : i = b1 := h; show n0 ≤ i; omega)
      replace hB1 : Blk w13 b1 #[p_2, (.slice none 0 0), i_3, (.bool (off))] 26 := hb13
      refine L_nil ?_
      refine T_n ?_
      refine W_seq ?_
      refine W_reg ?_
      refine L_op rfl (X_loadA (p := (ptr b1 (0))) (xs := [p_2, (.slice none 0 0), i_3, (.bool (off))]) A26 rfl hB1.atAll rfl ?_)
      refine L_op0 (X_storeW (b := b2) (ys := [p_2, (.slice none 0 0), i_3, (.bool (off))]) A26 rfl rfl (List.forall_mem_cons.2 ⟨(hP2.1.sv.one), (List.forall_mem_cons.2 ⟨rfl, (List.forall_mem_cons.2 ⟨(hI2.1.sv.one), (List.forall_mem_cons.2 ⟨rfl, (fun _ h => by cases h)⟩)⟩)⟩)⟩) rfl hB2 rfl ?_)
      intro w14 hu14 hb14
      have hz14 := hu14.size
      replace hP2 := hP2.upd hu14 fun i h1 h2 h => by have h : i = b2 := h; omega
      replace hC2 := hC2.upd hu14 fun i h1 h2 h => by have h : i = b2 := h; omega
      replace hI2 := hI2.upd hu14 fun i h1 h2 h => by have h : i = b2 := h; omega
      replace hU := hU.trans (hu14.mono fun i _ h => by have h : i = b2 := h; show n0 ≤ i; omega)
      replace hB1 := hB1.upd hu14 fun h => by have h : b1 = b2 := h; omega
      replace hB2 : Blk w14 b2 #[p_2, (.slice none 0 0), i_3, (.bool (off))] 26 := hb14
      refine L_op rfl (X_assign (v := (.int .i64 (0))) rfl ?_)
      refine L_nil ?_
      refine T_n ?_
      refine W_ret ?_
      exact BQ_r (End_2 Try.results13 (RV_A A26 rfl hB2.atAll rfl) (v2 := .int .i64 0) rfl ⟨_, _, _, qs, [], as_, by rw [hq0], hP2.mono (by omega) (by omega), NOwn.nil _ _ _ _ _, hI2.mono (by omega) (by omega), fun _ => ⟨by rw [hqs, List.take_of_length_le (by omega)], rfl, by rw [has, List.take_of_length_le (by omega)]⟩, fun h => absurd hq0 h, hU.own hn0⟩)
end Go.Proofs.Ythongcaijgfojaa
