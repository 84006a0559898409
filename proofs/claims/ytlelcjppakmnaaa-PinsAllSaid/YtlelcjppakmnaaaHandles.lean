/-
  The walks of chapter 14: wakes, PinsHandles. (Printed by wip/gen/t14e.py of this repo.)
-/
import Derived.Test.YtlelcjppakmnaaaPinD
namespace Go.Proofs.Ytlelcjppakmnaaa
open Go Go.SL Go.Proofs
set_option linter.unusedVariables false

def on0 : List Bool := [false, false, false, false, false, false, false, false]
def tx0 : List Int := [0, 0, 0, 0, 0, 0, 0, 0]
def on1 : List Bool := [true, false, false, false, false, false, false, false]
def tx1 : List Int := [7, 0, 0, 0, 0, 0, 0, 0]
def on2 : List Bool := [true, true, false, false, false, false, false, false]
def tx2 : List Int := [7, 5, 0, 0, 0, 0, 0, 0]
def on3 : List Bool := [false, true, false, false, false, false, false, false]
def tx3 : List Int := [0, 5, 0, 0, 0, 0, 0, 0]
def on4 : List Bool := [true, true, false, false, false, false, false, false]
def tx4 : List Int := [9, 5, 0, 0, 0, 0, 0, 0]

theorem built26z : Try.prog.built 26 [] = some (pinC on0 tx0).toArray := by kernel_rfl
theorem least_of {zs : List Int} {x : Int} (hp : zs.Pairwise (· < ·)) (hm : ∀ z, z ∈ zs ↔ z ∈ [9, 5]) (hx : zs[0]? = some x ∨ (zs = [] ∧ x = 0)) : x = 5 ∧ 0 < zs.length := by
  have h5 : (5 : Int) ∈ zs := (hm 5).2 (by decide)
  rcases hx with hx | ⟨hx, _⟩
  · cases zs with
    | nil => cases hx
    | cons a r =>
      cases hx
      have h1 := (hm x).1 List.mem_cons_self
      have h2 : x = 9 ∨ x = 5 := by simpa using h1
      have h3 : (5 : Int) = x ∨ (5 : Int) ∈ r := by simpa using h5
      rcases h3 with h3 | h3
      · exact ⟨h3.symm, Nat.zero_lt_succ _⟩
      · have h4 := (List.pairwise_cons.1 hp).1 5 h3
        exact ⟨by omega, Nat.zero_lt_succ _⟩
  · rw [hx] at h5; cases h5
theorem fst_lt : ∀ {on : List Bool}, on.countP id < on.length → fstO on < on.length
  | [], h => absurd h (Nat.lt_irrefl 0)
  | true :: r, h => by
    rw [List.countP_cons_of_pos rfl, List.length_cons] at h
    have := fst_lt (on := r) (by omega)
    show fstO r + 1 < r.length + 1
    omega
  | false :: r, _ => Nat.zero_lt_succ _
theorem cnt_set : ∀ {on : List Bool}, fstO on < on.length → (on.set (fstO on) true).countP id = on.countP id + 1
  | [], h => absurd h (Nat.not_lt_zero _)
  | true :: r, h => by
    show (true :: r.set (fstO r) true).countP id = (true :: r).countP id + 1
    rw [List.countP_cons_of_pos rfl, List.countP_cons_of_pos rfl, cnt_set (on := r) (Nat.lt_of_succ_lt_succ h)]
  | false :: r, _ => by
    show (true :: r).countP id = (false :: r).countP id + 1
    rw [List.countP_cons_of_pos rfl, List.countP_cons_of_neg (by decide)]
theorem fst_full {on : List Bool} (h : on.countP id = on.length) : fstO on = on.length := fst_all fun j hj => by
  have h1 := List.countP_eq_length.1 h _ (List.getElem_mem hj)
  rw [List.getElem?_eq_getElem hj]
  exact congrArg some h1

set_option maxRecDepth 10000 in
theorem c_wakes14 (w : World) : CT Try.prog 8 #[] w fun v w' => v = .bool true ∧ Ext w w' := by
  obtain ⟨n0, hn0⟩ : ∃ n, n = w.heap.size := ⟨_, rfl⟩
  have hU : Upd (fun i => n0 ≤ i) w w := Upd.refl _ _
  refine CT_of Try.func8 rfl rfl rfl ?_
  refine W_seq ?_
  refine W_reg ?_
  refine L_op rfl (X_assign (v := (.bool (false))) rfl ?_)
  refine L_nil ?_
  refine T_n ?_
  refine W_seq ?_
  refine W_reg ?_
  refine L_op rfl (X_build built26z ?_)
  refine L_op rfl (X_fn (vs := [(.agg (pinC on0 tx0).toArray), (.int .u32 (7))]) en11 rfl (CT.mono (c_open on0 tx0 7 _ rfl rfl) ?_))
  rintro _ w1 ⟨hd_, on_, tx_, e_, rfl, _, _, hA_, _, hu1⟩
  have hz1 := hu1.size
  replace hU := hU.trans (Ext.upd hu1)
  obtain ⟨h1_, h2_, h3_, h4_⟩ := hA_ (by decide)
  replace h1_ : hd_ = 1 := h1_.trans (by decide)
  replace h2_ : on_ = on1 := h2_.trans (by decide)
  replace h3_ : tx_ = tx1 := h3_.trans (by decide)
  subst h1_ h2_ h3_ h4_
  refine L_op rfl (X_move (v := (.tuple #[(.int .i64 (1)), (.agg (pinC on1 tx1).toArray), (.int .i64 (0))])) rfl ?_)
  refine L_op rfl (X_extract (l := [(.int .i64 (1)), (.agg (pinC on1 tx1).toArray), (.int .i64 (0))]) (v := (.int .i64 (1))) rfl rfl ?_)
  refine L_op rfl (X_extract (l := [(.int .i64 (1)), (.agg (pinC on1 tx1).toArray), (.int .i64 (0))]) (v := (.agg (pinC on1 tx1).toArray)) rfl rfl ?_)
  refine L_op rfl (X_extract (l := [(.int .i64 (1)), (.agg (pinC on1 tx1).toArray), (.int .i64 (0))]) (v := (.int .i64 (0))) rfl rfl ?_)
  refine L_op rfl (X_alloc (z := (.agg #[(.bool (false)), (.bool (false)), (.bool (false)), (.bool (false)), (.bool (false)), (.bool (false)), (.bool (false)), (.bool (false)), (.int .u32 (0)), (.int .u32 (0)), (.int .u32 (0)), (.int .u32 (0)), (.int .u32 (0)), (.int .u32 (0)), (.int .u32 (0)), (.int .u32 (0))])) (c := #[(.bool (false)), (.bool (false)), (.bool (false)), (.bool (false)), (.bool (false)), (.bool (false)), (.bool (false)), (.bool (false)), (.int .u32 (0)), (.int .u32 (0)), (.int .u32 (0)), (.int .u32 (0)), (.int .u32 (0)), (.int .u32 (0)), (.int .u32 (0)), (.int .u32 (0))]) Zv26 rfl ?_)
  intro b2 w2 hn2
  have hbn2 := hn2.num; have hbs2 := hn2.size
  replace hU := hU.trans (Ext.upd hn2.ext)
  have hB2 := hn2.blk
  refine L_op rfl (X_assign (v := (.int .i64 (1))) rfl ?_)
  refine L_op0 (X_storeW (b := b2) (ys := (pinC on1 tx1)) A26 rfl rfl (pinC_one _ _) (pinC_len rfl rfl) hB2 rfl ?_)
  intro w3 hu3 hb3
  have hz3 := hu3.size
  replace hU := hU.trans (hu3.mono fun i _ h => by have h : i = b2 := h; show n0 ≤ i; omega)
  replace hB2 := hb3
  refine L_op rfl (X_assign (v := (.int .i64 (0))) rfl ?_)
  refine L_nil ?_
  refine T_n ?_
  refine W_seq ?_
  refine W_reg ?_
  refine L_op rfl (X_loadA (p := (ptr b2 (0))) (xs := (pinC on1 tx1)) A26 rfl hB2.atAll (pinC_len rfl rfl) ?_)
  refine L_op rfl (X_fn (vs := [(.agg (pinC on1 tx1).toArray), (.int .u32 (5))]) en11 rfl (CT.mono (c_open on1 tx1 5 _ rfl rfl) ?_))
  rintro _ w4 ⟨hd_, on_, tx_, e_, rfl, _, _, hA_, _, hu4⟩
  have hz4 := hu4.size
  replace hU := hU.trans (Ext.upd hu4)
  replace hB2 := hB2.ext hu4
  obtain ⟨h1_, h2_, h3_, h4_⟩ := hA_ (by decide)
  replace h1_ : hd_ = 2 := h1_.trans (by decide)
  replace h2_ : on_ = on2 := h2_.trans (by decide)
  replace h3_ : tx_ = tx2 := h3_.trans (by decide)
  subst h1_ h2_ h3_ h4_
  refine L_op rfl (X_move (v := (.tuple #[(.int .i64 (2)), (.agg (pinC on2 tx2).toArray), (.int .i64 (0))])) rfl ?_)
  refine L_op rfl (X_extract (l := [(.int .i64 (2)), (.agg (pinC on2 tx2).toArray), (.int .i64 (0))]) (v := (.int .i64 (2))) rfl rfl ?_)
  refine L_op rfl (X_extract (l := [(.int .i64 (2)), (.agg (pinC on2 tx2).toArray), (.int .i64 (0))]) (v := (.agg (pinC on2 tx2).toArray)) rfl rfl ?_)
  refine L_op rfl (X_extract (l := [(.int .i64 (2)), (.agg (pinC on2 tx2).toArray), (.int .i64 (0))]) (v := (.int .i64 (0))) rfl rfl ?_)
  refine L_op rfl (X_assign (v := (.int .i64 (2))) rfl ?_)
  refine L_op0 (X_storeW (b := b2) (ys := (pinC on2 tx2)) A26 rfl rfl (pinC_one _ _) (pinC_len rfl rfl) hB2 (by rw [List.size_toArray]; exact (pinC_len rfl rfl)) ?_)
  intro w5 hu5 hb5
  have hz5 := hu5.size
  replace hU := hU.trans (hu5.mono fun i _ h => by have h : i = b2 := h; show n0 ≤ i; omega)
  replace hB2 := hb5
  refine L_op rfl (X_assign (v := (.int .i64 (0))) rfl ?_)
  refine L_nil ?_
  refine T_n ?_
  refine W_seq ?_
  refine W_reg ?_
  refine L_op rfl (X_loadA (p := (ptr b2 (0))) (xs := (pinC on2 tx2)) A26 rfl hB2.atAll (pinC_len rfl rfl) ?_)
  refine L_op rfl (X_fn (vs := [(.agg (pinC on2 tx2).toArray), (.int .i64 (1))]) en10 rfl (CT.mono (c_close on2 tx2 1 _ rfl rfl) ?_))
  rintro _ w6 ⟨on_, tx_, e_, rfl, _, _, hA_, _, hu6⟩
  have hz6 := hu6.size
  replace hU := hU.trans (Ext.upd hu6)
  replace hB2 := hB2.ext hu6
  obtain ⟨h2_, h3_, h4_⟩ := hA_ (by decide)
  replace h2_ : on_ = on3 := h2_.trans (by decide)
  replace h3_ : tx_ = tx3 := h3_.trans (by decide)
  subst h2_ h3_ h4_
  refine L_op rfl (X_move (v := (.tuple #[(.agg (pinC on3 tx3).toArray), (.int .i64 (0))])) rfl ?_)
  refine L_op rfl (X_extract (l := [(.agg (pinC on3 tx3).toArray), (.int .i64 (0))]) (v := (.agg (pinC on3 tx3).toArray)) rfl rfl ?_)
  refine L_op rfl (X_extract (l := [(.agg (pinC on3 tx3).toArray), (.int .i64 (0))]) (v := (.int .i64 (0))) rfl rfl ?_)
  refine L_op0 (X_storeW (b := b2) (ys := (pinC on3 tx3)) A26 rfl rfl (pinC_one _ _) (pinC_len rfl rfl) hB2 (by rw [List.size_toArray]; exact (pinC_len rfl rfl)) ?_)
  intro w7 hu7 hb7
  have hz7 := hu7.size
  replace hU := hU.trans (hu7.mono fun i _ h => by have h : i = b2 := h; show n0 ≤ i; omega)
  replace hB2 := hb7
  refine L_op rfl (X_assign (v := (.int .i64 (0))) rfl ?_)
  refine L_nil ?_
  refine T_n ?_
  refine W_seq ?_
  refine W_reg ?_
  refine L_op rfl (X_loadA (p := (ptr b2 (0))) (xs := (pinC on3 tx3)) A26 rfl hB2.atAll (pinC_len rfl rfl) ?_)
  refine L_op rfl (X_fn (vs := [(.agg (pinC on3 tx3).toArray), (.int .u32 (9))]) en11 rfl (CT.mono (c_open on3 tx3 9 _ rfl rfl) ?_))
  rintro _ w8 ⟨hd_, on_, tx_, e_, rfl, _, _, hA_, _, hu8⟩
  have hz8 := hu8.size
  replace hU := hU.trans (Ext.upd hu8)
  replace hB2 := hB2.ext hu8
  obtain ⟨h1_, h2_, h3_, h4_⟩ := hA_ (by decide)
  replace h1_ : hd_ = 1 := h1_.trans (by decide)
  replace h2_ : on_ = on4 := h2_.trans (by decide)
  replace h3_ : tx_ = tx4 := h3_.trans (by decide)
  subst h1_ h2_ h3_ h4_
  refine L_op rfl (X_move (v := (.tuple #[(.int .i64 (1)), (.agg (pinC on4 tx4).toArray), (.int .i64 (0))])) rfl ?_)
  refine L_op rfl (X_extract (l := [(.int .i64 (1)), (.agg (pinC on4 tx4).toArray), (.int .i64 (0))]) (v := (.int .i64 (1))) rfl rfl ?_)
  refine L_op rfl (X_extract (l := [(.int .i64 (1)), (.agg (pinC on4 tx4).toArray), (.int .i64 (0))]) (v := (.agg (pinC on4 tx4).toArray)) rfl rfl ?_)
  refine L_op rfl (X_extract (l := [(.int .i64 (1)), (.agg (pinC on4 tx4).toArray), (.int .i64 (0))]) (v := (.int .i64 (0))) rfl rfl ?_)
  refine L_op rfl (X_assign (v := (.int .i64 (1))) rfl ?_)
  refine L_op0 (X_storeW (b := b2) (ys := (pinC on4 tx4)) A26 rfl rfl (pinC_one _ _) (pinC_len rfl rfl) hB2 (by rw [List.size_toArray]; exact (pinC_len rfl rfl)) ?_)
  intro w9 hu9 hb9
  have hz9 := hu9.size
  replace hU := hU.trans (hu9.mono fun i _ h => by have h : i = b2 := h; show n0 ≤ i; omega)
  replace hB2 := hb9
  refine L_op rfl (X_assign (v := (.int .i64 (0))) rfl ?_)
  refine L_nil ?_
  refine T_n ?_
  refine W_seq ?_
  refine W_reg ?_
  refine L_op rfl (X_loadA (p := (ptr b2 (0))) (xs := (pinC on4 tx4)) A26 rfl hB2.atAll (pinC_len rfl rfl) ?_)
  refine L_op rfl (X_fn (vs := [(.agg (pinC on4 tx4).toArray), (.int .i64 (3))]) en9 rfl (CT.mono (c_ofh on4 tx4 3 _ rfl rfl) ?_))
  rintro _ w10 ⟨x_, e_, rfl, _, hF_, hu10⟩
  have hz10 := hu10.size
  replace hU := hU.trans (Ext.upd hu10)
  replace hB2 := hB2.ext hu10
  obtain ⟨h1_, h2_⟩ := hF_ (by decide)
  subst h1_ h2_
  refine L_op rfl (X_move (v := (.tuple #[(u32V 0), (.int .i64 (140))])) rfl ?_)
  refine L_op rfl (X_extract (l := [(u32V 0), (.int .i64 (140))]) (v := (u32V 0)) rfl rfl ?_)
  refine L_op rfl (X_extract (l := [(u32V 0), (.int .i64 (140))]) (v := (.int .i64 (140))) rfl rfl ?_)
  refine L_op rfl (X_assign (v := (u32V 0)) rfl ?_)
  refine L_op rfl (X_assign (v := (.int .i64 (140))) rfl ?_)
  refine L_nil ?_
  refine T_n ?_
  refine W_seq ?_
  refine W_reg ?_
  refine L_op rfl (X_loadA (p := (ptr b2 (0))) (xs := (pinC on4 tx4)) A26 rfl hB2.atAll (pinC_len rfl rfl) ?_)
  refine L_op rfl (X_fn (vs := [(.agg (pinC on4 tx4).toArray)]) en6 rfl (CT.mono (c_oldest on4 tx4 _ rfl rfl) ?_))
  rintro _ w11 ⟨zs, x_, g_, rfl, hpw, hme, hg, hx, hu11⟩
  have hz11 := hu11.size
  replace hU := hU.trans (Ext.upd hu11)
  replace hB2 := hB2.ext hu11
  obtain ⟨h1_, h2_⟩ := least_of hpw (fun z => hme z) hx
  rw [decide_eq_true h2_] at hg
  subst h1_ hg
  refine L_op rfl (X_move (v := (.tuple #[(u32V 5), (.bool (true))])) rfl ?_)
  refine L_op rfl (X_extract (l := [(u32V 5), (.bool (true))]) (v := (u32V 5)) rfl rfl ?_)
  refine L_op rfl (X_extract (l := [(u32V 5), (.bool (true))]) (v := (.bool (true))) rfl rfl ?_)
  refine L_op rfl (X_assign (v := (u32V 5)) rfl ?_)
  refine L_op rfl (X_assign (v := (.bool (true))) rfl ?_)
  refine L_nil ?_
  refine T_n ?_
  refine W_seq ?_
  refine W_reg ?_
  refine L_op rfl (X_move (v := (.int .i64 (1))) rfl ?_)
  refine L_op rfl (X_cmp (k := .i64) (a := 1) (b := 1) (r := true) rfl rfl rfl rfl ?_)
  refine L_op rfl (X_move (v := (.bool (true))) rfl ?_)
  refine L_gy (dj := 48) rfl rfl rfl (X_move (v := (.int .i64 (2))) rfl ?_)
  refine L_gy (dj := 48) rfl rfl rfl (X_cmp (k := .i64) (a := 2) (b := 2) (r := true) rfl rfl rfl rfl ?_)
  refine L_op rfl (X_pick (t := true) (v := (.bool (true))) rfl rfl ?_)
  refine L_op rfl (X_move (v := (.bool (true))) rfl ?_)
  refine L_gy (dj := 52) rfl rfl rfl (X_move (v := (.int .i64 (1))) rfl ?_)
  refine L_gy (dj := 52) rfl rfl rfl (X_cmp (k := .i64) (a := 1) (b := 1) (r := true) rfl rfl rfl rfl ?_)
  refine L_op rfl (X_pick (t := true) (v := (.bool (true))) rfl rfl ?_)
  refine L_op rfl (X_move (v := (.bool (true))) rfl ?_)
  refine L_gy (dj := 56) rfl rfl rfl (X_move (v := (.int .i64 (0))) rfl ?_)
  refine L_gy (dj := 56) rfl rfl rfl (X_cmp (k := .i64) (a := 0) (b := 0) (r := true) rfl rfl rfl rfl ?_)
  refine L_op rfl (X_pick (t := true) (v := (.bool (true))) rfl rfl ?_)
  refine L_op rfl (X_move (v := (.bool (true))) rfl ?_)
  refine L_gy (dj := 60) rfl rfl rfl (X_move (v := (.int .i64 (0))) rfl ?_)
  refine L_gy (dj := 60) rfl rfl rfl (X_cmp (k := .i64) (a := 0) (b := 0) (r := true) rfl rfl rfl rfl ?_)
  refine L_op rfl (X_pick (t := true) (v := (.bool (true))) rfl rfl ?_)
  refine L_op rfl (X_move (v := (.bool (true))) rfl ?_)
  refine L_gy (dj := 64) rfl rfl rfl (X_move (v := (.int .i64 (0))) rfl ?_)
  refine L_gy (dj := 64) rfl rfl rfl (X_cmp (k := .i64) (a := 0) (b := 0) (r := true) rfl rfl rfl rfl ?_)
  refine L_op rfl (X_pick (t := true) (v := (.bool (true))) rfl rfl ?_)
  refine L_op rfl (X_move (v := (.bool (true))) rfl ?_)
  refine L_gy (dj := 68) rfl rfl rfl (X_move (v := (.int .i64 (0))) rfl ?_)
  refine L_gy (dj := 68) rfl rfl rfl (X_cmp (k := .i64) (a := 0) (b := 0) (r := true) rfl rfl rfl rfl ?_)
  refine L_op rfl (X_pick (t := true) (v := (.bool (true))) rfl rfl ?_)
  refine L_op rfl (X_move (v := (.bool (true))) rfl ?_)
  refine L_gy (dj := 72) rfl rfl rfl (X_move (v := (.int .i64 (140))) rfl ?_)
  refine L_gy (dj := 72) rfl rfl rfl (X_cmp (k := .i64) (a := 140) (b := 140) (r := true) rfl rfl rfl rfl ?_)
  refine L_op rfl (X_pick (t := true) (v := (.bool (true))) rfl rfl ?_)
  refine L_op rfl (X_move (v := (.bool (true))) rfl ?_)
  refine L_gy (dj := 76) rfl rfl rfl (X_move (v := (u32V 5)) rfl ?_)
  refine L_gy (dj := 76) rfl rfl rfl (X_cmp (k := .u32) (a := 5) (b := 5) (r := true) rfl rfl rfl rfl ?_)
  refine L_op rfl (X_pick (t := true) (v := (.bool (true))) rfl rfl ?_)
  refine L_op rfl (X_move (v := (.bool (true))) rfl ?_)
  refine L_gy (dj := 80) rfl rfl rfl (X_move (v := (.bool (true))) rfl ?_)
  refine L_op rfl (X_pick (t := true) (v := (.bool (true))) rfl rfl ?_)
  refine L_op rfl (X_move (v := (.bool (true))) rfl ?_)
  refine L_gy (dj := 83) rfl rfl rfl (X_loadA (p := (ptr b2 (0))) (xs := (pinC on4 tx4)) A26 rfl hB2.atAll (pinC_len rfl rfl) ?_)
  refine L_gy (dj := 83) rfl rfl rfl (X_fn (vs := [(.agg (pinC on4 tx4).toArray)]) en7 rfl (CT.mono (c_many on4 tx4 _ rfl rfl) ?_))
  rintro _ w12 ⟨rfl, hu12⟩
  have hz12 := hu12.size
  replace hU := hU.trans (Ext.upd hu12)
  replace hB2 := hB2.ext hu12
  rw [show (((openL on4 tx4).length : Nat) : Int) = 2 from by decide]
  refine L_gy (dj := 83) rfl rfl rfl (X_cmp (k := .i64) (a := 2) (b := 2) (r := true) rfl rfl rfl rfl ?_)
  refine L_op rfl (X_pick (t := true) (v := (.bool (true))) rfl rfl ?_)
  refine L_op rfl (X_assign (v := (.bool (true))) rfl ?_)
  refine L_nil ?_
  refine T_n ?_
  refine W_ret ?_
  exact BQ_r (End_1 Try.results8 (v := .bool true) rfl ⟨rfl, hU.own hn0⟩)

theorem c_pinsHandles (on : List Bool) (tx : List Int) (h : Int) (w : World) (hon : on.length = 8) (htx : tx.length = 8) : CT Try.prog 4 #[(.agg (pinC on tx).toArray), (.int .i64 (h))] w fun v w' => v = .bool true ∧ Ext w w' := by
  obtain ⟨n0, hn0⟩ : ∃ n, n = w.heap.size := ⟨_, rfl⟩
  have hU : Upd (fun i => n0 ≤ i) w w := Upd.refl _ _
  refine CT_of Try.func4 rfl rfl rfl ?_
  refine W_seq ?_
  refine W_reg ?_
  refine L_op rfl (X_box (v := (.agg (pinC on tx).toArray)) (c := ((pinC on tx)).toArray) rfl rfl ?_)
  intro b1 w1 hn1
  have hbn1 := hn1.num; have hbs1 := hn1.size
  replace hU := hU.trans (Ext.upd hn1.ext)
  have hB1 := hn1.blk
  refine L_op rfl (X_assign (v := (.bool (false))) rfl ?_)
  refine L_nil ?_
  refine T_n ?_
  refine W_seq ?_
  refine W_reg ?_
  rcases Bool.eq_false_or_eq_true (isO on h) with hg | hg
  · obtain ⟨h1, h2, h3⟩ := isO_true hg
    refine L_op rfl (X_loadA (p := (ptr b1 (0))) (xs := (pinC on tx)) A26 rfl hB1.atAll (pinC_len hon htx) ?_)
    refine L_op rfl (X_move (v := (.int .i64 (h))) rfl ?_)
    refine L_op rfl (X_fn (vs := [(.agg (pinC on tx).toArray), (.int .i64 (h))]) en9 rfl (CT.mono (c_ofh on tx h _ hon htx) ?_))
    rintro _ w2 ⟨x_, e_, rfl, hT_, hF_, hu2⟩
    have hz2 := hu2.size
    replace hU := hU.trans (Ext.upd hu2)
    replace hB1 := hB1.ext hu2
    obtain ⟨_, he_⟩ := hT_ hg
    subst he_
    refine L_op rfl (X_move (v := (.tuple #[(u32V x_), (.int .i64 (0))])) rfl ?_)
    refine L_op rfl (X_extract (l := [(u32V x_), (.int .i64 (0))]) (v := (u32V x_)) rfl rfl ?_)
    refine L_op rfl (X_extract (l := [(u32V x_), (.int .i64 (0))]) (v := (.int .i64 (0))) rfl rfl ?_)
    refine L_op rfl (X_assign (v := (u32V x_)) rfl ?_)
    refine L_op rfl (X_assign (v := (.int .i64 (0))) rfl ?_)
    refine L_nil ?_
    refine T_n ?_
    refine W_seq ?_
    refine W_reg ?_
    refine L_op rfl (X_loadA (p := (ptr b1 (0))) (xs := (pinC on tx)) A26 rfl hB1.atAll (pinC_len hon htx) ?_)
    refine L_op rfl (X_move (v := (.int .i64 (h))) rfl ?_)
    refine L_op rfl (X_fn (vs := [(.agg (pinC on tx).toArray), (.int .i64 (h))]) en10 rfl (CT.mono (c_close on tx h _ hon htx) ?_))
    rintro _ w3 ⟨onc, txc, e_, rfl, hl1, hl2, hT_, hF_, hu3⟩
    have hz3 := hu3.size
    replace hU := hU.trans (Ext.upd hu3)
    replace hB1 := hB1.ext hu3
    obtain ⟨_, _, he_⟩ := hT_ hg
    subst he_
    refine L_op rfl (X_move (v := (.tuple #[(.agg (pinC onc txc).toArray), (.int .i64 (0))])) rfl ?_)
    refine L_op rfl (X_extract (l := [(.agg (pinC onc txc).toArray), (.int .i64 (0))]) (v := (.agg (pinC onc txc).toArray)) rfl rfl ?_)
    refine L_op rfl (X_extract (l := [(.agg (pinC onc txc).toArray), (.int .i64 (0))]) (v := (.int .i64 (0))) rfl rfl ?_)
    refine L_op rfl (X_alloc (z := (.agg #[(.bool (false)), (.bool (false)), (.bool (false)), (.bool (false)), (.bool (false)), (.bool (false)), (.bool (false)), (.bool (false)), (.int .u32 (0)), (.int .u32 (0)), (.int .u32 (0)), (.int .u32 (0)), (.int .u32 (0)), (.int .u32 (0)), (.int .u32 (0)), (.int .u32 (0))])) (c := #[(.bool (false)), (.bool (false)), (.bool (false)), (.bool (false)), (.bool (false)), (.bool (false)), (.bool (false)), (.bool (false)), (.int .u32 (0)), (.int .u32 (0)), (.int .u32 (0)), (.int .u32 (0)), (.int .u32 (0)), (.int .u32 (0)), (.int .u32 (0)), (.int .u32 (0))]) Zv26 rfl ?_)
    intro b4 w4 hn4
    have hbn4 := hn4.num; have hbs4 := hn4.size
    replace hU := hU.trans (Ext.upd hn4.ext)
    replace hB1 := hB1.ext hn4.ext
    have hB4 := hn4.blk
    refine L_op0 (X_storeW (b := b4) (ys := (pinC onc txc)) A26 rfl rfl (pinC_one _ _) (pinC_len hl1 hl2) hB4 rfl ?_)
    intro w5 hu5 hb5
    have hz5 := hu5.size
    replace hU := hU.trans (hu5.mono fun i _ h => by have h : i = b4 := h; show n0 ≤ i; omega)
    replace hB1 := hB1.upd hu5 fun h => by have h : b1 = b4 := h; omega
    replace hB4 := hb5
    refine L_op rfl (X_assign (v := (.int .i64 (0))) rfl ?_)
    refine L_nil ?_
    refine T_n ?_
    refine W_seq ?_
    refine W_reg ?_
    refine L_op rfl (X_move (v := (.int .i64 (h))) rfl ?_)
    refine L_op rfl (X_cmp (k := .i64) (a := h) (b := 1) (r := true) rfl rfl rfl (decide_eq_true (p := ((1) : Int) ≤ ((h) : Int)) (by omega)) ?_)
    refine L_op rfl (X_move (v := (.bool (true))) rfl ?_)
    refine L_gy (dj := 32) rfl rfl rfl (X_move (v := (.int .i64 (h))) rfl ?_)
    refine L_gy (dj := 32) rfl rfl rfl (X_cmp (k := .i64) (a := h) (b := 8) (r := true) rfl rfl rfl (decide_eq_true (p := ((h) : Int) ≤ ((8) : Int)) (by omega)) ?_)
    refine L_op rfl (X_pick (t := true) (v := (.bool (true))) rfl rfl ?_)
    refine L_op rfl (X_move (v := (.bool (true))) rfl ?_)
    refine L_gy (dj := 36) rfl rfl rfl (X_move (v := (.int .i64 (h))) rfl ?_)
    refine L_gy (dj := 36) rfl rfl rfl (X_arith (k := .i64) (a := h) (b := 1) (r := (h - 1 : Int)) rfl rfl rfl (isub64 rfl (by omega) (by omega)) ?_)
    refine L_gy (dj := 36) rfl rfl rfl (X_fldP (b := b1) (o := 0) (r := 0) Fd26_0 rfl rfl ?_)
    refine L_gy (dj := 36) rfl rfl rfl (X_idxAP (len := 8) (sz := 1) (b := b1) (o := 0) (k := .i64) (i := (h - 1 : Int)) (r := ((h - 1 : Int) : Int).toNat) Try.underlying22 Z4 rfl rfl (by omega) (by omega) (by omega) ?_)
    refine L_gy (dj := 36) rfl rfl rfl (X_load (p := (ptr b1 (((h - 1 : Int) : Int).toNat))) (v := .bool true) T4 rfl (hB1.at1 (by rw [List.getElem?_toArray]; unfold pinC; rw [List.getElem?_append_left (by rw [List.length_map]; omega), List.getElem?_map, h3]; rfl)) ?_)
    refine L_op rfl (X_pick (t := true) (v := (.bool (true))) rfl rfl ?_)
    refine L_op rfl (X_assign (v := (.bool (true))) rfl ?_)
    refine L_nil ?_
    refine T_n ?_
    refine W_seq ?_
    refine W_seq ?_
    refine W_reg ?_
    refine L_op rfl (X_move (v := (.int .i64 (0))) rfl ?_)
    refine L_op rfl (X_cmp (k := .i64) (a := 0) (b := 0) (r := true) rfl rfl rfl rfl ?_)
    refine L_op rfl (X_move (v := (.bool (true))) rfl ?_)
    refine L_op rfl (X_cmpBool (a := true) (b := true) (r := false) Try.underlying4 rfl rfl (.inr ⟨rfl, rfl⟩) ?_)
    refine L_op rfl (X_move (v := (.bool (false))) rfl ?_)
    refine L_gy (dj := 47) rfl rfl rfl (X_move (v := (.int .i64 (0))) rfl ?_)
    refine L_gy (dj := 47) rfl rfl rfl (X_cmp (k := .i64) (a := 0) (b := 0) (r := true) rfl rfl rfl rfl ?_)
    refine L_gy (dj := 47) rfl rfl rfl (X_move (v := (.bool (true))) rfl ?_)
    refine L_gy (dj := 47) rfl rfl rfl (X_cmpBool (a := true) (b := true) (r := false) Try.underlying4 rfl rfl (.inr ⟨rfl, rfl⟩) ?_)
    refine L_op rfl (X_pick (t := false) (v := (.bool (false))) rfl rfl ?_)
    refine L_nil ?_
    refine T_n ?_
    refine W_cf rfl ?_
    refine W_skip ?_
    refine T_n ?_
    refine W_seq ?_
    refine W_reg ?_
    refine L_op rfl (X_loadA (p := (ptr b1 (0))) (xs := (pinC on tx)) A26 rfl hB1.atAll (pinC_len hon htx) ?_)
    refine L_op rfl (X_fn (vs := [(.agg (pinC on tx).toArray)]) en7 rfl (CT.mono (c_many on tx _ hon htx) ?_))
    rintro _ w6 ⟨rfl, hu6⟩
    have hz6 := hu6.size
    replace hU := hU.trans (Ext.upd hu6)
    replace hB1 := hB1.ext hu6
    replace hB4 := hB4.ext hu6
    rw [open_len (show on.length = tx.length by omega)]
    obtain ⟨n, hn⟩ : ∃ n, n = on.countP id := ⟨_, rfl⟩
    rw [← hn]
    refine L_op rfl (X_assign (v := (.int .i64 (((n : Nat) : Int)))) rfl ?_)
    refine L_nil ?_
    refine T_n ?_
    refine W_seq ?_
    refine W_seq ?_
    refine W_reg ?_
    refine L_op rfl (X_move (v := (.int .i64 (((n : Nat) : Int)))) rfl ?_)
    refine L_op rfl (X_assign (v := (.int .i64 (((n : Nat) : Int)))) rfl ?_)
    refine L_nil ?_
    refine T_n ?_
    refine W_block ?_
    have hn8 : n ≤ 8 := by rw [hn, ← hon]; exact List.countP_le_length
    have hbl0_ := hB1.lt
    refine W_loop (α := Nat × List Bool × List Int) [4, 11, 12, 13, 14, 56, 57, 58, 59, 60, 61, 62, 63, 64, 65, 66, 67, 68] (fun ⟨i, on2, tx2⟩ => [(11, (.int .i64 (((i : Nat) : Int))))]) (fun ⟨i, on2, tx2⟩ w_ => i ≤ 8 ∧ on2.length = 8 ∧ tx2.length = 8 ∧ on2.countP id = i ∧ Blk w_ b1 (pinC on2 tx2).toArray 26 ∧ Upd (fun i => n0 ≤ i) w w_) (fun ⟨i, on2, tx2⟩ => 8 - i) ⟨rfl, (n, on, tx), ⟨hn8, hon, htx, hn.symm, hB1, hU⟩, Out.refl _ _, ⟨rfl, trivial⟩⟩ ?_
    rintro ⟨i, on2, tx2⟩ w7 _ ⟨hil, hl3, hl4, hcn, hB1, hU⟩
    have hsz_ := hU.size
    have hbl_ := hB1.lt
    refine W_seq ?_
    refine W_seq ?_
    refine W_reg ?_
    refine L_op rfl (X_move (v := (.int .i64 (((i : Nat) : Int)))) rfl ?_)
    by_cases hc8 : (((i : Nat) : Int) : Int) < (8)
    · refine L_op rfl (X_cmp (k := .i64) (a := ((i : Nat) : Int)) (b := 8) (r := true) rfl rfl rfl (decide_eq_true (p := ((((i : Nat) : Int)) : Int) < ((8) : Int)) (by omega)) ?_)
      refine L_nil ?_
      refine T_n ?_
      refine W_ct rfl ?_
      refine W_skip ?_
      refine T_n ?_
      refine W_seq ?_
      refine W_block ?_
      refine W_seq ?_
      refine W_reg ?_
      refine L_op rfl (X_loadA (p := (ptr b1 (0))) (xs := (pinC on2 tx2)) A26 rfl hB1.atAll (pinC_len hl3 hl4) ?_)
      refine L_op rfl (X_fn (vs := [(.agg (pinC on2 tx2).toArray), (.int .u32 (3))]) en11 rfl (CT.mono (c_open on2 tx2 3 _ hl3 hl4) ?_))
      rintro _ w9 ⟨hdn, onn, txn, en, rfl, hl5, hl6, hA_, hB_, hu9⟩
      have hz9 := hu9.size
      replace hB1 := hB1.ext hu9
      replace hU := hU.trans (Ext.upd hu9)
      have hfl : fstO on2 < on2.length := fst_lt (by omega)
      obtain ⟨hq1, hq2, hq3, hq4⟩ := hA_ (by omega)
      subst hq4
      refine L_op rfl (X_move (v := (.tuple #[(.int .i64 (hdn)), (.agg (pinC onn txn).toArray), (.int .i64 (0))])) rfl ?_)
      refine L_op rfl (X_extract (l := [(.int .i64 (hdn)), (.agg (pinC onn txn).toArray), (.int .i64 (0))]) (v := (.int .i64 (hdn))) rfl rfl ?_)
      refine L_op rfl (X_extract (l := [(.int .i64 (hdn)), (.agg (pinC onn txn).toArray), (.int .i64 (0))]) (v := (.agg (pinC onn txn).toArray)) rfl rfl ?_)
      refine L_op rfl (X_extract (l := [(.int .i64 (hdn)), (.agg (pinC onn txn).toArray), (.int .i64 (0))]) (v := (.int .i64 (0))) rfl rfl ?_)
      refine L_op rfl (X_alloc (z := (.agg #[(.bool (false)), (.bool (false)), (.bool (false)), (.bool (false)), (.bool (false)), (.bool (false)), (.bool (false)), (.bool (false)), (.int .u32 (0)), (.int .u32 (0)), (.int .u32 (0)), (.int .u32 (0)), (.int .u32 (0)), (.int .u32 (0)), (.int .u32 (0)), (.int .u32 (0))])) (c := #[(.bool (false)), (.bool (false)), (.bool (false)), (.bool (false)), (.bool (false)), (.bool (false)), (.bool (false)), (.bool (false)), (.int .u32 (0)), (.int .u32 (0)), (.int .u32 (0)), (.int .u32 (0)), (.int .u32 (0)), (.int .u32 (0)), (.int .u32 (0)), (.int .u32 (0))]) Zv26 rfl ?_)
      intro b10 w10 hn10
      have hbn10 := hn10.num; have hbs10 := hn10.size
      replace hB1 := hB1.ext hn10.ext
      replace hU := hU.trans (Ext.upd hn10.ext)
      have hB10 := hn10.blk
      refine L_op rfl (X_assign (v := (.int .i64 (hdn))) rfl ?_)
      refine L_op0 (X_storeW (b := b10) (ys := (pinC onn txn)) A26 rfl rfl (pinC_one _ _) (pinC_len hl5 hl6) hB10 rfl ?_)
      intro w11 hu11 hb11
      have hz11 := hu11.size
      replace hB1 := hB1.upd hu11 fun h => by have h : b1 = b10 := h; omega
      replace hU := hU.trans (hu11.mono fun i _ h => by have h : i = b10 := h; show n0 ≤ i; omega)
      replace hB10 := hb11
      refine L_op rfl (X_assign (v := (.int .i64 (0))) rfl ?_)
      refine L_nil ?_
      refine T_n ?_
      refine W_seq ?_
      refine W_seq ?_
      refine W_reg ?_
      refine L_op rfl (X_move (v := (.int .i64 (0))) rfl ?_)
      refine L_op rfl (X_cmp (k := .i64) (a := 0) (b := 0) (r := false) rfl rfl rfl rfl ?_)
      refine L_nil ?_
      refine T_n ?_
      refine W_cf rfl ?_
      refine W_skip ?_
      refine T_n ?_
      refine W_reg ?_
      refine L_op rfl (X_loadA (p := (ptr b10 (0))) (xs := (pinC onn txn)) A26 rfl hB10.atAll (pinC_len hl5 hl6) ?_)
      refine L_op0 (X_storeW (b := b1) (ys := (pinC onn txn)) A26 rfl rfl (pinC_one _ _) (pinC_len hl5 hl6) hB1 (by rw [List.size_toArray]; exact (pinC_len hl3 hl4)) ?_)
      intro w12 hu12 hb12
      have hz12 := hu12.size
      replace hU := hU.trans (hu12.mono fun i _ h => by have h : i = b1 := h; show n0 ≤ i; omega)
      replace hB10 := hB10.upd hu12 fun h => by have h : b10 = b1 := h; omega
      replace hB1 := hb12
      refine L_nil ?_
      refine B_n ?_
      refine T_n ?_
      refine W_reg ?_
      refine L_op rfl (X_move (v := (.int .i64 (((i : Nat) : Int)))) rfl ?_)
      refine L_op rfl (X_arith (k := .i64) (a := ((i : Nat) : Int)) (b := 1) (r := ((i + 1 : Nat) : Int)) rfl rfl rfl (iadd64 (by omega) (by omega) (by omega)) ?_)
      refine L_op rfl (X_assign (v := (.int .i64 (((i + 1 : Nat) : Int)))) rfl ?_)
      refine L_nil ?_
      refine T_n ?_
      exact ⟨rfl, (i + 1, onn, txn), ⟨⟨by omega, hl5, hl6, by rw [hq2, cnt_set (by omega), hcn], hB1, hU⟩, (by show 8 - (i + 1) < 8 - i; omega)⟩, (Out.mk rfl), ⟨rfl, trivial⟩⟩
    · refine L_op rfl (X_cmp (k := .i64) (a := ((i : Nat) : Int)) (b := 8) (r := false) rfl rfl rfl (decide_eq_false (p := ((((i : Nat) : Int)) : Int) < ((8) : Int)) (by omega)) ?_)
      have hi8 : i = 8 := by omega
      refine L_nil ?_
      refine T_n ?_
      refine W_cf rfl ?_
      refine W_exit ?_
      refine T_e ?_
      refine T_e ?_
      refine B_x ?_
      refine T_n ?_
      refine W_seq ?_
      refine W_reg ?_
      refine L_op rfl (X_loadA (p := (ptr b1 (0))) (xs := (pinC on2 tx2)) A26 rfl hB1.atAll (pinC_len hl3 hl4) ?_)
      refine L_op rfl (X_fn (vs := [(.agg (pinC on2 tx2).toArray), (.int .u32 (3))]) en11 rfl (CT.mono (c_open on2 tx2 3 _ hl3 hl4) ?_))
      rintro _ w13 ⟨hdn, onn, txn, en, rfl, hl5, hl6, hA_, hB_, hu13⟩
      have hz13 := hu13.size
      replace hB1 := hB1.ext hu13
      replace hU := hU.trans (Ext.upd hu13)
      have hfu : fstO on2 = 8 := (fst_full (by omega)).trans hl3
      obtain ⟨hq1, hq2, hq3, hq4⟩ := hB_ (by omega)
      subst hq1 hq4
      refine L_op rfl (X_move (v := (.tuple #[(.int .i64 (0)), (.agg (pinC onn txn).toArray), (.int .i64 (140))])) rfl ?_)
      refine L_op rfl (X_extract (l := [(.int .i64 (0)), (.agg (pinC onn txn).toArray), (.int .i64 (140))]) (v := (.int .i64 (0))) rfl rfl ?_)
      refine L_op rfl (X_extract (l := [(.int .i64 (0)), (.agg (pinC onn txn).toArray), (.int .i64 (140))]) (v := (.agg (pinC onn txn).toArray)) rfl rfl ?_)
      refine L_op rfl (X_extract (l := [(.int .i64 (0)), (.agg (pinC onn txn).toArray), (.int .i64 (140))]) (v := (.int .i64 (140))) rfl rfl ?_)
      refine L_op rfl (X_alloc (z := (.agg #[(.bool (false)), (.bool (false)), (.bool (false)), (.bool (false)), (.bool (false)), (.bool (false)), (.bool (false)), (.bool (false)), (.int .u32 (0)), (.int .u32 (0)), (.int .u32 (0)), (.int .u32 (0)), (.int .u32 (0)), (.int .u32 (0)), (.int .u32 (0)), (.int .u32 (0))])) (c := #[(.bool (false)), (.bool (false)), (.bool (false)), (.bool (false)), (.bool (false)), (.bool (false)), (.bool (false)), (.bool (false)), (.int .u32 (0)), (.int .u32 (0)), (.int .u32 (0)), (.int .u32 (0)), (.int .u32 (0)), (.int .u32 (0)), (.int .u32 (0)), (.int .u32 (0))]) Zv26 rfl ?_)
      intro b14 w14 hn14
      have hbn14 := hn14.num; have hbs14 := hn14.size
      replace hB1 := hB1.ext hn14.ext
      replace hU := hU.trans (Ext.upd hn14.ext)
      have hB14 := hn14.blk
      refine L_op rfl (X_assign (v := (.int .i64 (0))) rfl ?_)
      refine L_op0 (X_storeW (b := b14) (ys := (pinC onn txn)) A26 rfl rfl (pinC_one _ _) (pinC_len hl5 hl6) hB14 rfl ?_)
      intro w15 hu15 hb15
      have hz15 := hu15.size
      replace hB1 := hB1.upd hu15 fun h => by have h : b1 = b14 := h; omega
      replace hU := hU.trans (hu15.mono fun i _ h => by have h : i = b14 := h; show n0 ≤ i; omega)
      replace hB14 := hb15
      refine L_op rfl (X_assign (v := (.int .i64 (140))) rfl ?_)
      refine L_nil ?_
      refine T_n ?_
      refine W_seq ?_
      refine W_reg ?_
      refine L_op rfl (X_move (v := (.int .i64 (140))) rfl ?_)
      refine L_op rfl (X_cmp (k := .i64) (a := 140) (b := 140) (r := true) rfl rfl rfl rfl ?_)
      refine L_op rfl (X_move (v := (.bool (true))) rfl ?_)
      refine L_gy (dj := 77) rfl rfl rfl (X_loadA (p := (ptr b1 (0))) (xs := (pinC on2 tx2)) A26 rfl hB1.atAll (pinC_len hl3 hl4) ?_)
      refine L_gy (dj := 77) rfl rfl rfl (X_fn (vs := [(.agg (pinC on2 tx2).toArray)]) en7 rfl (CT.mono (c_many on2 tx2 _ hl3 hl4) ?_))
      rintro _ w16 ⟨rfl, hu16⟩
      have hz16 := hu16.size
      replace hB1 := hB1.ext hu16
      replace hU := hU.trans (Ext.upd hu16)
      replace hB14 := hB14.ext hu16
      rw [show (((openL on2 tx2).length : Nat) : Int) = 8 from by rw [open_len (show on2.length = tx2.length by omega)]; omega]
      refine L_gy (dj := 77) rfl rfl rfl (X_cmp (k := .i64) (a := 8) (b := 8) (r := true) rfl rfl rfl rfl ?_)
      refine L_op rfl (X_pick (t := true) (v := (.bool (true))) rfl rfl ?_)
      refine L_op rfl (X_move (v := (.bool (true))) rfl ?_)
      refine L_gy (dj := 82) rfl rfl rfl (X_fn (vs := []) en8 rfl (CT.mono (c_wakes14 _) ?_))
      rintro vb17 w17 ⟨hvb17, hu17⟩
      have hz17 := hu17.size
      replace hB1 := hB1.ext hu17
      replace hU := hU.trans (Ext.upd hu17)
      replace hB14 := hB14.ext hu17
      subst hvb17
      refine L_op rfl (X_pick (t := true) (v := (.bool (true))) rfl rfl ?_)
      refine L_op rfl (X_assign (v := (.bool (true))) rfl ?_)
      refine L_nil ?_
      refine T_n ?_
      refine W_ret ?_
      exact BQ_r (End_1 Try.results4 (v := .bool true) rfl ⟨rfl, hU.own hn0⟩)
  · refine L_op rfl (X_loadA (p := (ptr b1 (0))) (xs := (pinC on tx)) A26 rfl hB1.atAll (pinC_len hon htx) ?_)
    refine L_op rfl (X_move (v := (.int .i64 (h))) rfl ?_)
    refine L_op rfl (X_fn (vs := [(.agg (pinC on tx).toArray), (.int .i64 (h))]) en9 rfl (CT.mono (c_ofh on tx h _ hon htx) ?_))
    rintro _ w18 ⟨x_, e_, rfl, hT_, hF_, hu18⟩
    have hz18 := hu18.size
    replace hU := hU.trans (Ext.upd hu18)
    replace hB1 := hB1.ext hu18
    obtain ⟨_, he_⟩ := hF_ hg
    subst he_
    refine L_op rfl (X_move (v := (.tuple #[(u32V x_), (.int .i64 (140))])) rfl ?_)
    refine L_op rfl (X_extract (l := [(u32V x_), (.int .i64 (140))]) (v := (u32V x_)) rfl rfl ?_)
    refine L_op rfl (X_extract (l := [(u32V x_), (.int .i64 (140))]) (v := (.int .i64 (140))) rfl rfl ?_)
    refine L_op rfl (X_assign (v := (u32V x_)) rfl ?_)
    refine L_op rfl (X_assign (v := (.int .i64 (140))) rfl ?_)
    refine L_nil ?_
    refine T_n ?_
    refine W_seq ?_
    refine W_reg ?_
    refine L_op rfl (X_loadA (p := (ptr b1 (0))) (xs := (pinC on tx)) A26 rfl hB1.atAll (pinC_len hon htx) ?_)
    refine L_op rfl (X_move (v := (.int .i64 (h))) rfl ?_)
    refine L_op rfl (X_fn (vs := [(.agg (pinC on tx).toArray), (.int .i64 (h))]) en10 rfl (CT.mono (c_close on tx h _ hon htx) ?_))
    rintro _ w19 ⟨onc, txc, e_, rfl, hl1, hl2, hT_, hF_, hu19⟩
    have hz19 := hu19.size
    replace hU := hU.trans (Ext.upd hu19)
    replace hB1 := hB1.ext hu19
    obtain ⟨_, _, he_⟩ := hF_ hg
    subst he_
    refine L_op rfl (X_move (v := (.tuple #[(.agg (pinC onc txc).toArray), (.int .i64 (140))])) rfl ?_)
    refine L_op rfl (X_extract (l := [(.agg (pinC onc txc).toArray), (.int .i64 (140))]) (v := (.agg (pinC onc txc).toArray)) rfl rfl ?_)
    refine L_op rfl (X_extract (l := [(.agg (pinC onc txc).toArray), (.int .i64 (140))]) (v := (.int .i64 (140))) rfl rfl ?_)
    refine L_op rfl (X_alloc (z := (.agg #[(.bool (false)), (.bool (false)), (.bool (false)), (.bool (false)), (.bool (false)), (.bool (false)), (.bool (false)), (.bool (false)), (.int .u32 (0)), (.int .u32 (0)), (.int .u32 (0)), (.int .u32 (0)), (.int .u32 (0)), (.int .u32 (0)), (.int .u32 (0)), (.int .u32 (0))])) (c := #[(.bool (false)), (.bool (false)), (.bool (false)), (.bool (false)), (.bool (false)), (.bool (false)), (.bool (false)), (.bool (false)), (.int .u32 (0)), (.int .u32 (0)), (.int .u32 (0)), (.int .u32 (0)), (.int .u32 (0)), (.int .u32 (0)), (.int .u32 (0)), (.int .u32 (0))]) Zv26 rfl ?_)
    intro b20 w20 hn20
    have hbn20 := hn20.num; have hbs20 := hn20.size
    replace hU := hU.trans (Ext.upd hn20.ext)
    replace hB1 := hB1.ext hn20.ext
    have hB20 := hn20.blk
    refine L_op0 (X_storeW (b := b20) (ys := (pinC onc txc)) A26 rfl rfl (pinC_one _ _) (pinC_len hl1 hl2) hB20 rfl ?_)
    intro w21 hu21 hb21
    have hz21 := hu21.size
    replace hU := hU.trans (hu21.mono fun i _ h => by have h : i = b20 := h; show n0 ≤ i; omega)
    replace hB1 := hB1.upd hu21 fun h => by have h : b1 = b20 := h; omega
    replace hB20 := hb21
    refine L_op rfl (X_assign (v := (.int .i64 (140))) rfl ?_)
    refine L_nil ?_
    refine T_n ?_
    refine W_seq ?_
    refine W_reg ?_
    refine L_op rfl (X_move (v := (.int .i64 (h))) rfl ?_)
    by_cases hc22 : (h : Int) ≥ (1)
    · refine L_op rfl (X_cmp (k := .i64) (a := h) (b := 1) (r := true) rfl rfl rfl (decide_eq_true (p := ((1) : Int) ≤ ((h) : Int)) (by omega)) ?_)
      refine L_op rfl (X_move (v := (.bool (true))) rfl ?_)
      refine L_gy (dj := 32) rfl rfl rfl (X_move (v := (.int .i64 (h))) rfl ?_)
      by_cases hc23 : (h : Int) ≤ (8)
      · refine L_gy (dj := 32) rfl rfl rfl (X_cmp (k := .i64) (a := h) (b := 8) (r := true) rfl rfl rfl (decide_eq_true (p := ((h) : Int) ≤ ((8) : Int)) (by omega)) ?_)
        refine L_op rfl (X_pick (t := true) (v := (.bool (true))) rfl rfl ?_)
        refine L_op rfl (X_move (v := (.bool (true))) rfl ?_)
        refine L_gy (dj := 36) rfl rfl rfl (X_move (v := (.int .i64 (h))) rfl ?_)
        refine L_gy (dj := 36) rfl rfl rfl (X_arith (k := .i64) (a := h) (b := 1) (r := (h - 1 : Int)) rfl rfl rfl (isub64 rfl (by omega) (by omega)) ?_)
        refine L_gy (dj := 36) rfl rfl rfl (X_fldP (b := b1) (o := 0) (r := 0) Fd26_0 rfl rfl ?_)
        refine L_gy (dj := 36) rfl rfl rfl (X_idxAP (len := 8) (sz := 1) (b := b1) (o := 0) (k := .i64) (i := (h - 1 : Int)) (r := ((h - 1 : Int) : Int).toNat) Try.underlying22 Z4 rfl rfl (by omega) (by omega) (by omega) ?_)
        obtain ⟨o1, ho1⟩ : ∃ o, on[(h - 1).toNat]? = some o := ⟨_, List.getElem?_eq_getElem (by omega)⟩
        have h3 : on[(h - 1).toNat]? = some false := by rw [ho1, ← isO_in (by omega) (by omega) ho1, hg]
        refine L_gy (dj := 36) rfl rfl rfl (X_load (p := (ptr b1 (((h - 1 : Int) : Int).toNat))) (v := .bool false) T4 rfl (hB1.at1 (by rw [List.getElem?_toArray]; unfold pinC; rw [List.getElem?_append_left (by rw [List.length_map]; omega), List.getElem?_map, h3]; rfl)) ?_)
        refine L_op rfl (X_pick (t := true) (v := (.bool (false))) rfl rfl ?_)
        refine L_op rfl (X_assign (v := (.bool (false))) rfl ?_)
        refine L_nil ?_
        refine T_n ?_
        refine W_seq ?_
        refine W_seq ?_
        refine W_reg ?_
        refine L_op rfl (X_move (v := (.int .i64 (140))) rfl ?_)
        refine L_op rfl (X_cmp (k := .i64) (a := 140) (b := 0) (r := false) rfl rfl rfl rfl ?_)
        refine L_op rfl (X_move (v := (.bool (false))) rfl ?_)
        refine L_op rfl (X_cmpBool (a := false) (b := false) (r := false) Try.underlying4 rfl rfl (.inr ⟨rfl, rfl⟩) ?_)
        refine L_op rfl (X_move (v := (.bool (false))) rfl ?_)
        refine L_gy (dj := 47) rfl rfl rfl (X_move (v := (.int .i64 (140))) rfl ?_)
        refine L_gy (dj := 47) rfl rfl rfl (X_cmp (k := .i64) (a := 140) (b := 0) (r := false) rfl rfl rfl rfl ?_)
        refine L_gy (dj := 47) rfl rfl rfl (X_move (v := (.bool (false))) rfl ?_)
        refine L_gy (dj := 47) rfl rfl rfl (X_cmpBool (a := false) (b := false) (r := false) Try.underlying4 rfl rfl (.inr ⟨rfl, rfl⟩) ?_)
        refine L_op rfl (X_pick (t := false) (v := (.bool (false))) rfl rfl ?_)
        refine L_nil ?_
        refine T_n ?_
        refine W_cf rfl ?_
        refine W_skip ?_
        refine T_n ?_
        refine W_seq ?_
        refine W_reg ?_
        refine L_op rfl (X_loadA (p := (ptr b1 (0))) (xs := (pinC on tx)) A26 rfl hB1.atAll (pinC_len hon htx) ?_)
        refine L_op rfl (X_fn (vs := [(.agg (pinC on tx).toArray)]) en7 rfl (CT.mono (c_many on tx _ hon htx) ?_))
        rintro _ w24 ⟨rfl, hu24⟩
        have hz24 := hu24.size
        replace hU := hU.trans (Ext.upd hu24)
        replace hB1 := hB1.ext hu24
        replace hB20 := hB20.ext hu24
        rw [open_len (show on.length = tx.length by omega)]
        obtain ⟨n, hn⟩ : ∃ n, n = on.countP id := ⟨_, rfl⟩
        rw [← hn]
        refine L_op rfl (X_assign (v := (.int .i64 (((n : Nat) : Int)))) rfl ?_)
        refine L_nil ?_
        refine T_n ?_
        refine W_seq ?_
        refine W_seq ?_
        refine W_reg ?_
        refine L_op rfl (X_move (v := (.int .i64 (((n : Nat) : Int)))) rfl ?_)
        refine L_op rfl (X_assign (v := (.int .i64 (((n : Nat) : Int)))) rfl ?_)
        refine L_nil ?_
        refine T_n ?_
        refine W_block ?_
        have hn8 : n ≤ 8 := by rw [hn, ← hon]; exact List.countP_le_length
        have hbl0_ := hB1.lt
        refine W_loop (α := Nat × List Bool × List Int) [4, 11, 12, 13, 14, 56, 57, 58, 59, 60, 61, 62, 63, 64, 65, 66, 67, 68] (fun ⟨i, on2, tx2⟩ => [(11, (.int .i64 (((i : Nat) : Int))))]) (fun ⟨i, on2, tx2⟩ w_ => i ≤ 8 ∧ on2.length = 8 ∧ tx2.length = 8 ∧ on2.countP id = i ∧ Blk w_ b1 (pinC on2 tx2).toArray 26 ∧ Upd (fun i => n0 ≤ i) w w_) (fun ⟨i, on2, tx2⟩ => 8 - i) ⟨rfl, (n, on, tx), ⟨hn8, hon, htx, hn.symm, hB1, hU⟩, Out.refl _ _, ⟨rfl, trivial⟩⟩ ?_
        rintro ⟨i, on2, tx2⟩ w25 _ ⟨hil, hl3, hl4, hcn, hB1, hU⟩
        have hsz_ := hU.size
        have hbl_ := hB1.lt
        refine W_seq ?_
        refine W_seq ?_
        refine W_reg ?_
        refine L_op rfl (X_move (v := (.int .i64 (((i : Nat) : Int)))) rfl ?_)
        by_cases hc26 : (((i : Nat) : Int) : Int) < (8)
        · refine L_op rfl (X_cmp (k := .i64) (a := ((i : Nat) : Int)) (b := 8) (r := true) rfl rfl rfl (decide_eq_true (p := ((((i : Nat) : Int)) : Int) < ((8) : Int)) (by omega)) ?_)
          refine L_nil ?_
          refine T_n ?_
          refine W_ct rfl ?_
          refine W_skip ?_
          refine T_n ?_
          refine W_seq ?_
          refine W_block ?_
          refine W_seq ?_
          refine W_reg ?_
          refine L_op rfl (X_loadA (p := (ptr b1 (0))) (xs := (pinC on2 tx2)) A26 rfl hB1.atAll (pinC_len hl3 hl4) ?_)
          refine L_op rfl (X_fn (vs := [(.agg (pinC on2 tx2).toArray), (.int .u32 (3))]) en11 rfl (CT.mono (c_open on2 tx2 3 _ hl3 hl4) ?_))
          rintro _ w27 ⟨hdn, onn, txn, en, rfl, hl5, hl6, hA_, hB_, hu27⟩
          have hz27 := hu27.size
          replace hB1 := hB1.ext hu27
          replace hU := hU.trans (Ext.upd hu27)
          have hfl : fstO on2 < on2.length := fst_lt (by omega)
          obtain ⟨hq1, hq2, hq3, hq4⟩ := hA_ (by omega)
          subst hq4
          refine L_op rfl (X_move (v := (.tuple #[(.int .i64 (hdn)), (.agg (pinC onn txn).toArray), (.int .i64 (0))])) rfl ?_)
          refine L_op rfl (X_extract (l := [(.int .i64 (hdn)), (.agg (pinC onn txn).toArray), (.int .i64 (0))]) (v := (.int .i64 (hdn))) rfl rfl ?_)
          refine L_op rfl (X_extract (l := [(.int .i64 (hdn)), (.agg (pinC onn txn).toArray), (.int .i64 (0))]) (v := (.agg (pinC onn txn).toArray)) rfl rfl ?_)
          refine L_op rfl (X_extract (l := [(.int .i64 (hdn)), (.agg (pinC onn txn).toArray), (.int .i64 (0))]) (v := (.int .i64 (0))) rfl rfl ?_)
          refine L_op rfl (X_alloc (z := (.agg #[(.bool (false)), (.bool (false)), (.bool (false)), (.bool (false)), (.bool (false)), (.bool (false)), (.bool (false)), (.bool (false)), (.int .u32 (0)), (.int .u32 (0)), (.int .u32 (0)), (.int .u32 (0)), (.int .u32 (0)), (.int .u32 (0)), (.int .u32 (0)), (.int .u32 (0))])) (c := #[(.bool (false)), (.bool (false)), (.bool (false)), (.bool (false)), (.bool (false)), (.bool (false)), (.bool (false)), (.bool (false)), (.int .u32 (0)), (.int .u32 (0)), (.int .u32 (0)), (.int .u32 (0)), (.int .u32 (0)), (.int .u32 (0)), (.int .u32 (0)), (.int .u32 (0))]) Zv26 rfl ?_)
          intro b28 w28 hn28
          have hbn28 := hn28.num; have hbs28 := hn28.size
          replace hB1 := hB1.ext hn28.ext
          replace hU := hU.trans (Ext.upd hn28.ext)
          have hB28 := hn28.blk
          refine L_op rfl (X_assign (v := (.int .i64 (hdn))) rfl ?_)
          refine L_op0 (X_storeW (b := b28) (ys := (pinC onn txn)) A26 rfl rfl (pinC_one _ _) (pinC_len hl5 hl6) hB28 rfl ?_)
          intro w29 hu29 hb29
          have hz29 := hu29.size
          replace hB1 := hB1.upd hu29 fun h => by have h : b1 = b28 := h; omega
          replace hU := hU.trans (hu29.mono fun i _ h => by have h : i = b28 := h; show n0 ≤ i; omega)
          replace hB28 := hb29
          refine L_op rfl (X_assign (v := (.int .i64 (0))) rfl ?_)
          refine L_nil ?_
          refine T_n ?_
          refine W_seq ?_
          refine W_seq ?_
          refine W_reg ?_
          refine L_op rfl (X_move (v := (.int .i64 (0))) rfl ?_)
          refine L_op rfl (X_cmp (k := .i64) (a := 0) (b := 0) (r := false) rfl rfl rfl rfl ?_)
          refine L_nil ?_
          refine T_n ?_
          refine W_cf rfl ?_
          refine W_skip ?_
          refine T_n ?_
          refine W_reg ?_
          refine L_op rfl (X_loadA (p := (ptr b28 (0))) (xs := (pinC onn txn)) A26 rfl hB28.atAll (pinC_len hl5 hl6) ?_)
          refine L_op0 (X_storeW (b := b1) (ys := (pinC onn txn)) A26 rfl rfl (pinC_one _ _) (pinC_len hl5 hl6) hB1 (by rw [List.size_toArray]; exact (pinC_len hl3 hl4)) ?_)
          intro w30 hu30 hb30
          have hz30 := hu30.size
          replace hU := hU.trans (hu30.mono fun i _ h => by have h : i = b1 := h; show n0 ≤ i; omega)
          replace hB28 := hB28.upd hu30 fun h => by have h : b28 = b1 := h; omega
          replace hB1 := hb30
          refine L_nil ?_
          refine B_n ?_
          refine T_n ?_
          refine W_reg ?_
          refine L_op rfl (X_move (v := (.int .i64 (((i : Nat) : Int)))) rfl ?_)
          refine L_op rfl (X_arith (k := .i64) (a := ((i : Nat) : Int)) (b := 1) (r := ((i + 1 : Nat) : Int)) rfl rfl rfl (iadd64 (by omega) (by omega) (by omega)) ?_)
          refine L_op rfl (X_assign (v := (.int .i64 (((i + 1 : Nat) : Int)))) rfl ?_)
          refine L_nil ?_
          refine T_n ?_
          exact ⟨rfl, (i + 1, onn, txn), ⟨⟨by omega, hl5, hl6, by rw [hq2, cnt_set (by omega), hcn], hB1, hU⟩, (by show 8 - (i + 1) < 8 - i; omega)⟩, (Out.mk rfl), ⟨rfl, trivial⟩⟩
        · refine L_op rfl (X_cmp (k := .i64) (a := ((i : Nat) : Int)) (b := 8) (r := false) rfl rfl rfl (decide_eq_false (p := ((((i : Nat) : Int)) : Int) < ((8) : Int)) (by omega)) ?_)
          have hi8 : i = 8 := by omega
          refine L_nil ?_
          refine T_n ?_
          refine W_cf rfl ?_
          refine W_exit ?_
          refine T_e ?_
          refine T_e ?_
          refine B_x ?_
          refine T_n ?_
          refine W_seq ?_
          refine W_reg ?_
          refine L_op rfl (X_loadA (p := (ptr b1 (0))) (xs := (pinC on2 tx2)) A26 rfl hB1.atAll (pinC_len hl3 hl4) ?_)
          refine L_op rfl (X_fn (vs := [(.agg (pinC on2 tx2).toArray), (.int .u32 (3))]) en11 rfl (CT.mono (c_open on2 tx2 3 _ hl3 hl4) ?_))
          rintro _ w31 ⟨hdn, onn, txn, en, rfl, hl5, hl6, hA_, hB_, hu31⟩
          have hz31 := hu31.size
          replace hB1 := hB1.ext hu31
          replace hU := hU.trans (Ext.upd hu31)
          have hfu : fstO on2 = 8 := (fst_full (by omega)).trans hl3
          obtain ⟨hq1, hq2, hq3, hq4⟩ := hB_ (by omega)
          subst hq1 hq4
          refine L_op rfl (X_move (v := (.tuple #[(.int .i64 (0)), (.agg (pinC onn txn).toArray), (.int .i64 (140))])) rfl ?_)
          refine L_op rfl (X_extract (l := [(.int .i64 (0)), (.agg (pinC onn txn).toArray), (.int .i64 (140))]) (v := (.int .i64 (0))) rfl rfl ?_)
          refine L_op rfl (X_extract (l := [(.int .i64 (0)), (.agg (pinC onn txn).toArray), (.int .i64 (140))]) (v := (.agg (pinC onn txn).toArray)) rfl rfl ?_)
          refine L_op rfl (X_extract (l := [(.int .i64 (0)), (.agg (pinC onn txn).toArray), (.int .i64 (140))]) (v := (.int .i64 (140))) rfl rfl ?_)
          refine L_op rfl (X_alloc (z := (.agg #[(.bool (false)), (.bool (false)), (.bool (false)), (.bool (false)), (.bool (false)), (.bool (false)), (.bool (false)), (.bool (false)), (.int .u32 (0)), (.int .u32 (0)), (.int .u32 (0)), (.int .u32 (0)), (.int .u32 (0)), (.int .u32 (0)), (.int .u32 (0)), (.int .u32 (0))])) (c := #[(.bool (false)), (.bool (false)), (.bool (false)), (.bool (false)), (.bool (false)), (.bool (false)), (.bool (false)), (.bool (false)), (.int .u32 (0)), (.int .u32 (0)), (.int .u32 (0)), (.int .u32 (0)), (.int .u32 (0)), (.int .u32 (0)), (.int .u32 (0)), (.int .u32 (0))]) Zv26 rfl ?_)
          intro b32 w32 hn32
          have hbn32 := hn32.num; have hbs32 := hn32.size
          replace hB1 := hB1.ext hn32.ext
          replace hU := hU.trans (Ext.upd hn32.ext)
          have hB32 := hn32.blk
          refine L_op rfl (X_assign (v := (.int .i64 (0))) rfl ?_)
          refine L_op0 (X_storeW (b := b32) (ys := (pinC onn txn)) A26 rfl rfl (pinC_one _ _) (pinC_len hl5 hl6) hB32 rfl ?_)
          intro w33 hu33 hb33
          have hz33 := hu33.size
          replace hB1 := hB1.upd hu33 fun h => by have h : b1 = b32 := h; omega
          replace hU := hU.trans (hu33.mono fun i _ h => by have h : i = b32 := h; show n0 ≤ i; omega)
          replace hB32 := hb33
          refine L_op rfl (X_assign (v := (.int .i64 (140))) rfl ?_)
          refine L_nil ?_
          refine T_n ?_
          refine W_seq ?_
          refine W_reg ?_
          refine L_op rfl (X_move (v := (.int .i64 (140))) rfl ?_)
          refine L_op rfl (X_cmp (k := .i64) (a := 140) (b := 140) (r := true) rfl rfl rfl rfl ?_)
          refine L_op rfl (X_move (v := (.bool (true))) rfl ?_)
          refine L_gy (dj := 77) rfl rfl rfl (X_loadA (p := (ptr b1 (0))) (xs := (pinC on2 tx2)) A26 rfl hB1.atAll (pinC_len hl3 hl4) ?_)
          refine L_gy (dj := 77) rfl rfl rfl (X_fn (vs := [(.agg (pinC on2 tx2).toArray)]) en7 rfl (CT.mono (c_many on2 tx2 _ hl3 hl4) ?_))
          rintro _ w34 ⟨rfl, hu34⟩
          have hz34 := hu34.size
          replace hB1 := hB1.ext hu34
          replace hU := hU.trans (Ext.upd hu34)
          replace hB32 := hB32.ext hu34
          rw [show (((openL on2 tx2).length : Nat) : Int) = 8 from by rw [open_len (show on2.length = tx2.length by omega)]; omega]
          refine L_gy (dj := 77) rfl rfl rfl (X_cmp (k := .i64) (a := 8) (b := 8) (r := true) rfl rfl rfl rfl ?_)
          refine L_op rfl (X_pick (t := true) (v := (.bool (true))) rfl rfl ?_)
          refine L_op rfl (X_move (v := (.bool (true))) rfl ?_)
          refine L_gy (dj := 82) rfl rfl rfl (X_fn (vs := []) en8 rfl (CT.mono (c_wakes14 _) ?_))
          rintro vb35 w35 ⟨hvb35, hu35⟩
          have hz35 := hu35.size
          replace hB1 := hB1.ext hu35
          replace hU := hU.trans (Ext.upd hu35)
          replace hB32 := hB32.ext hu35
          subst hvb35
          refine L_op rfl (X_pick (t := true) (v := (.bool (true))) rfl rfl ?_)
          refine L_op rfl (X_assign (v := (.bool (true))) rfl ?_)
          refine L_nil ?_
          refine T_n ?_
          refine W_ret ?_
          exact BQ_r (End_1 Try.results4 (v := .bool true) rfl ⟨rfl, hU.own hn0⟩)
      · refine L_gy (dj := 32) rfl rfl rfl (X_cmp (k := .i64) (a := h) (b := 8) (r := false) rfl rfl rfl (decide_eq_false (p := ((h) : Int) ≤ ((8) : Int)) (by omega)) ?_)
        refine L_op rfl (X_pick (t := true) (v := (.bool (false))) rfl rfl ?_)
        refine L_op rfl (X_move (v := (.bool (false))) rfl ?_)
        refine L_gn (dj := 36) (t := false) rfl rfl rfl rfl ?_
        refine L_gn (dj := 36) (t := false) rfl rfl rfl rfl ?_
        refine L_gn (dj := 36) (t := false) rfl rfl rfl rfl ?_
        refine L_gn (dj := 36) (t := false) rfl rfl rfl rfl ?_
        refine L_gn (dj := 36) (t := false) rfl rfl rfl rfl ?_
        refine L_op rfl (X_pick (t := false) (v := (.bool (false))) rfl rfl ?_)
        refine L_op rfl (X_assign (v := (.bool (false))) rfl ?_)
        refine L_nil ?_
        refine T_n ?_
        refine W_seq ?_
        refine W_seq ?_
        refine W_reg ?_
        refine L_op rfl (X_move (v := (.int .i64 (140))) rfl ?_)
        refine L_op rfl (X_cmp (k := .i64) (a := 140) (b := 0) (r := false) rfl rfl rfl rfl ?_)
        refine L_op rfl (X_move (v := (.bool (false))) rfl ?_)
        refine L_op rfl (X_cmpBool (a := false) (b := false) (r := false) Try.underlying4 rfl rfl (.inr ⟨rfl, rfl⟩) ?_)
        refine L_op rfl (X_move (v := (.bool (false))) rfl ?_)
        refine L_gy (dj := 47) rfl rfl rfl (X_move (v := (.int .i64 (140))) rfl ?_)
        refine L_gy (dj := 47) rfl rfl rfl (X_cmp (k := .i64) (a := 140) (b := 0) (r := false) rfl rfl rfl rfl ?_)
        refine L_gy (dj := 47) rfl rfl rfl (X_move (v := (.bool (false))) rfl ?_)
        refine L_gy (dj := 47) rfl rfl rfl (X_cmpBool (a := false) (b := false) (r := false) Try.underlying4 rfl rfl (.inr ⟨rfl, rfl⟩) ?_)
        refine L_op rfl (X_pick (t := false) (v := (.bool (false))) rfl rfl ?_)
        refine L_nil ?_
        refine T_n ?_
        refine W_cf rfl ?_
        refine W_skip ?_
        refine T_n ?_
        refine W_seq ?_
        refine W_reg ?_
        refine L_op rfl (X_loadA (p := (ptr b1 (0))) (xs := (pinC on tx)) A26 rfl hB1.atAll (pinC_len hon htx) ?_)
        refine L_op rfl (X_fn (vs := [(.agg (pinC on tx).toArray)]) en7 rfl (CT.mono (c_many on tx _ hon htx) ?_))
        rintro _ w36 ⟨rfl, hu36⟩
        have hz36 := hu36.size
        replace hU := hU.trans (Ext.upd hu36)
        replace hB1 := hB1.ext hu36
        replace hB20 := hB20.ext hu36
        rw [open_len (show on.length = tx.length by omega)]
        obtain ⟨n, hn⟩ : ∃ n, n = on.countP id := ⟨_, rfl⟩
        rw [← hn]
        refine L_op rfl (X_assign (v := (.int .i64 (((n : Nat) : Int)))) rfl ?_)
        refine L_nil ?_
        refine T_n ?_
        refine W_seq ?_
        refine W_seq ?_
        refine W_reg ?_
        refine L_op rfl (X_move (v := (.int .i64 (((n : Nat) : Int)))) rfl ?_)
        refine L_op rfl (X_assign (v := (.int .i64 (((n : Nat) : Int)))) rfl ?_)
        refine L_nil ?_
        refine T_n ?_
        refine W_block ?_
        have hn8 : n ≤ 8 := by rw [hn, ← hon]; exact List.countP_le_length
        have hbl0_ := hB1.lt
        refine W_loop (α := Nat × List Bool × List Int) [4, 11, 12, 13, 14, 56, 57, 58, 59, 60, 61, 62, 63, 64, 65, 66, 67, 68] (fun ⟨i, on2, tx2⟩ => [(11, (.int .i64 (((i : Nat) : Int))))]) (fun ⟨i, on2, tx2⟩ w_ => i ≤ 8 ∧ on2.length = 8 ∧ tx2.length = 8 ∧ on2.countP id = i ∧ Blk w_ b1 (pinC on2 tx2).toArray 26 ∧ Upd (fun i => n0 ≤ i) w w_) (fun ⟨i, on2, tx2⟩ => 8 - i) ⟨rfl, (n, on, tx), ⟨hn8, hon, htx, hn.symm, hB1, hU⟩, Out.refl _ _, ⟨rfl, trivial⟩⟩ ?_
        rintro ⟨i, on2, tx2⟩ w37 _ ⟨hil, hl3, hl4, hcn, hB1, hU⟩
        have hsz_ := hU.size
        have hbl_ := hB1.lt
        refine W_seq ?_
        refine W_seq ?_
        refine W_reg ?_
        refine L_op rfl (X_move (v := (.int .i64 (((i : Nat) : Int)))) rfl ?_)
        by_cases hc38 : (((i : Nat) : Int) : Int) < (8)
        · refine L_op rfl (X_cmp (k := .i64) (a := ((i : Nat) : Int)) (b := 8) (r := true) rfl rfl rfl (decide_eq_true (p := ((((i : Nat) : Int)) : Int) < ((8) : Int)) (by omega)) ?_)
          refine L_nil ?_
          refine T_n ?_
          refine W_ct rfl ?_
          refine W_skip ?_
          refine T_n ?_
          refine W_seq ?_
          refine W_block ?_
          refine W_seq ?_
          refine W_reg ?_
          refine L_op rfl (X_loadA (p := (ptr b1 (0))) (xs := (pinC on2 tx2)) A26 rfl hB1.atAll (pinC_len hl3 hl4) ?_)
          refine L_op rfl (X_fn (vs := [(.agg (pinC on2 tx2).toArray), (.int .u32 (3))]) en11 rfl (CT.mono (c_open on2 tx2 3 _ hl3 hl4) ?_))
          rintro _ w39 ⟨hdn, onn, txn, en, rfl, hl5, hl6, hA_, hB_, hu39⟩
          have hz39 := hu39.size
          replace hB1 := hB1.ext hu39
          replace hU := hU.trans (Ext.upd hu39)
          have hfl : fstO on2 < on2.length := fst_lt (by omega)
          obtain ⟨hq1, hq2, hq3, hq4⟩ := hA_ (by omega)
          subst hq4
          refine L_op rfl (X_move (v := (.tuple #[(.int .i64 (hdn)), (.agg (pinC onn txn).toArray), (.int .i64 (0))])) rfl ?_)
          refine L_op rfl (X_extract (l := [(.int .i64 (hdn)), (.agg (pinC onn txn).toArray), (.int .i64 (0))]) (v := (.int .i64 (hdn))) rfl rfl ?_)
          refine L_op rfl (X_extract (l := [(.int .i64 (hdn)), (.agg (pinC onn txn).toArray), (.int .i64 (0))]) (v := (.agg (pinC onn txn).toArray)) rfl rfl ?_)
          refine L_op rfl (X_extract (l := [(.int .i64 (hdn)), (.agg (pinC onn txn).toArray), (.int .i64 (0))]) (v := (.int .i64 (0))) rfl rfl ?_)
          refine L_op rfl (X_alloc (z := (.agg #[(.bool (false)), (.bool (false)), (.bool (false)), (.bool (false)), (.bool (false)), (.bool (false)), (.bool (false)), (.bool (false)), (.int .u32 (0)), (.int .u32 (0)), (.int .u32 (0)), (.int .u32 (0)), (.int .u32 (0)), (.int .u32 (0)), (.int .u32 (0)), (.int .u32 (0))])) (c := #[(.bool (false)), (.bool (false)), (.bool (false)), (.bool (false)), (.bool (false)), (.bool (false)), (.bool (false)), (.bool (false)), (.int .u32 (0)), (.int .u32 (0)), (.int .u32 (0)), (.int .u32 (0)), (.int .u32 (0)), (.int .u32 (0)), (.int .u32 (0)), (.int .u32 (0))]) Zv26 rfl ?_)
          intro b40 w40 hn40
          have hbn40 := hn40.num; have hbs40 := hn40.size
          replace hB1 := hB1.ext hn40.ext
          replace hU := hU.trans (Ext.upd hn40.ext)
          have hB40 := hn40.blk
          refine L_op rfl (X_assign (v := (.int .i64 (hdn))) rfl ?_)
          refine L_op0 (X_storeW (b := b40) (ys := (pinC onn txn)) A26 rfl rfl (pinC_one _ _) (pinC_len hl5 hl6) hB40 rfl ?_)
          intro w41 hu41 hb41
          have hz41 := hu41.size
          replace hB1 := hB1.upd hu41 fun h => by have h : b1 = b40 := h; omega
          replace hU := hU.trans (hu41.mono fun i _ h => by have h : i = b40 := h; show n0 ≤ i; omega)
          replace hB40 := hb41
          refine L_op rfl (X_assign (v := (.int .i64 (0))) rfl ?_)
          refine L_nil ?_
          refine T_n ?_
          refine W_seq ?_
          refine W_seq ?_
          refine W_reg ?_
          refine L_op rfl (X_move (v := (.int .i64 (0))) rfl ?_)
          refine L_op rfl (X_cmp (k := .i64) (a := 0) (b := 0) (r := false) rfl rfl rfl rfl ?_)
          refine L_nil ?_
          refine T_n ?_
          refine W_cf rfl ?_
          refine W_skip ?_
          refine T_n ?_
          refine W_reg ?_
          refine L_op rfl (X_loadA (p := (ptr b40 (0))) (xs := (pinC onn txn)) A26 rfl hB40.atAll (pinC_len hl5 hl6) ?_)
          refine L_op0 (X_storeW (b := b1) (ys := (pinC onn txn)) A26 rfl rfl (pinC_one _ _) (pinC_len hl5 hl6) hB1 (by rw [List.size_toArray]; exact (pinC_len hl3 hl4)) ?_)
          intro w42 hu42 hb42
          have hz42 := hu42.size
          replace hU := hU.trans (hu42.mono fun i _ h => by have h : i = b1 := h; show n0 ≤ i; omega)
          replace hB40 := hB40.upd hu42 fun h => by have h : b40 = b1 := h; omega
          replace hB1 := hb42
          refine L_nil ?_
          refine B_n ?_
          refine T_n ?_
          refine W_reg ?_
          refine L_op rfl (X_move (v := (.int .i64 (((i : Nat) : Int)))) rfl ?_)
          refine L_op rfl (X_arith (k := .i64) (a := ((i : Nat) : Int)) (b := 1) (r := ((i + 1 : Nat) : Int)) rfl rfl rfl (iadd64 (by omega) (by omega) (by omega)) ?_)
          refine L_op rfl (X_assign (v := (.int .i64 (((i + 1 : Nat) : Int)))) rfl ?_)
          refine L_nil ?_
          refine T_n ?_
          exact ⟨rfl, (i + 1, onn, txn), ⟨⟨by omega, hl5, hl6, by rw [hq2, cnt_set (by omega), hcn], hB1, hU⟩, (by show 8 - (i + 1) < 8 - i; omega)⟩, (Out.mk rfl), ⟨rfl, trivial⟩⟩
        · refine L_op rfl (X_cmp (k := .i64) (a := ((i : Nat) : Int)) (b := 8) (r := false) rfl rfl rfl (decide_eq_false (p := ((((i : Nat) : Int)) : Int) < ((8) : Int)) (by omega)) ?_)
          have hi8 : i = 8 := by omega
          refine L_nil ?_
          refine T_n ?_
          refine W_cf rfl ?_
          refine W_exit ?_
          refine T_e ?_
          refine T_e ?_
          refine B_x ?_
          refine T_n ?_
          refine W_seq ?_
          refine W_reg ?_
          refine L_op rfl (X_loadA (p := (ptr b1 (0))) (xs := (pinC on2 tx2)) A26 rfl hB1.atAll (pinC_len hl3 hl4) ?_)
          refine L_op rfl (X_fn (vs := [(.agg (pinC on2 tx2).toArray), (.int .u32 (3))]) en11 rfl (CT.mono (c_open on2 tx2 3 _ hl3 hl4) ?_))
          rintro _ w43 ⟨hdn, onn, txn, en, rfl, hl5, hl6, hA_, hB_, hu43⟩
          have hz43 := hu43.size
          replace hB1 := hB1.ext hu43
          replace hU := hU.trans (Ext.upd hu43)
          have hfu : fstO on2 = 8 := (fst_full (by omega)).trans hl3
          obtain ⟨hq1, hq2, hq3, hq4⟩ := hB_ (by omega)
          subst hq1 hq4
          refine L_op rfl (X_move (v := (.tuple #[(.int .i64 (0)), (.agg (pinC onn txn).toArray), (.int .i64 (140))])) rfl ?_)
          refine L_op rfl (X_extract (l := [(.int .i64 (0)), (.agg (pinC onn txn).toArray), (.int .i64 (140))]) (v := (.int .i64 (0))) rfl rfl ?_)
          refine L_op rfl (X_extract (l := [(.int .i64 (0)), (.agg (pinC onn txn).toArray), (.int .i64 (140))]) (v := (.agg (pinC onn txn).toArray)) rfl rfl ?_)
          refine L_op rfl (X_extract (l := [(.int .i64 (0)), (.agg (pinC onn txn).toArray), (.int .i64 (140))]) (v := (.int .i64 (140))) rfl rfl ?_)
          refine L_op rfl (X_alloc (z := (.agg #[(.bool (false)), (.bool (false)), (.bool (false)), (.bool (false)), (.bool (false)), (.bool (false)), (.bool (false)), (.bool (false)), (.int .u32 (0)), (.int .u32 (0)), (.int .u32 (0)), (.int .u32 (0)), (.int .u32 (0)), (.int .u32 (0)), (.int .u32 (0)), (.int .u32 (0))])) (c := #[(.bool (false)), (.bool (false)), (.bool (false)), (.bool (false)), (.bool (false)), (.bool (false)), (.bool (false)), (.bool (false)), (.int .u32 (0)), (.int .u32 (0)), (.int .u32 (0)), (.int .u32 (0)), (.int .u32 (0)), (.int .u32 (0)), (.int .u32 (0)), (.int .u32 (0))]) Zv26 rfl ?_)
          intro b44 w44 hn44
          have hbn44 := hn44.num; have hbs44 := hn44.size
          replace hB1 := hB1.ext hn44.ext
          replace hU := hU.trans (Ext.upd hn44.ext)
          have hB44 := hn44.blk
          refine L_op rfl (X_assign (v := (.int .i64 (0))) rfl ?_)
          refine L_op0 (X_storeW (b := b44) (ys := (pinC onn txn)) A26 rfl rfl (pinC_one _ _) (pinC_len hl5 hl6) hB44 rfl ?_)
          intro w45 hu45 hb45
          have hz45 := hu45.size
          replace hB1 := hB1.upd hu45 fun h => by have h : b1 = b44 := h; omega
          replace hU := hU.trans (hu45.mono fun i _ h => by have h : i = b44 := h; show n0 ≤ i; omega)
          replace hB44 := hb45
          refine L_op rfl (X_assign (v := (.int .i64 (140))) rfl ?_)
          refine L_nil ?_
          refine T_n ?_
          refine W_seq ?_
          refine W_reg ?_
          refine L_op rfl (X_move (v := (.int .i64 (140))) rfl ?_)
          refine L_op rfl (X_cmp (k := .i64) (a := 140) (b := 140) (r := true) rfl rfl rfl rfl ?_)
          refine L_op rfl (X_move (v := (.bool (true))) rfl ?_)
          refine L_gy (dj := 77) rfl rfl rfl (X_loadA (p := (ptr b1 (0))) (xs := (pinC on2 tx2)) A26 rfl hB1.atAll (pinC_len hl3 hl4) ?_)
          refine L_gy (dj := 77) rfl rfl rfl (X_fn (vs := [(.agg (pinC on2 tx2).toArray)]) en7 rfl (CT.mono (c_many on2 tx2 _ hl3 hl4) ?_))
          rintro _ w46 ⟨rfl, hu46⟩
          have hz46 := hu46.size
          replace hB1 := hB1.ext hu46
          replace hU := hU.trans (Ext.upd hu46)
          replace hB44 := hB44.ext hu46
          rw [show (((openL on2 tx2).length : Nat) : Int) = 8 from by rw [open_len (show on2.length = tx2.length by omega)]; omega]
          refine L_gy (dj := 77) rfl rfl rfl (X_cmp (k := .i64) (a := 8) (b := 8) (r := true) rfl rfl rfl rfl ?_)
          refine L_op rfl (X_pick (t := true) (v := (.bool (true))) rfl rfl ?_)
          refine L_op rfl (X_move (v := (.bool (true))) rfl ?_)
          refine L_gy (dj := 82) rfl rfl rfl (X_fn (vs := []) en8 rfl (CT.mono (c_wakes14 _) ?_))
          rintro vb47 w47 ⟨hvb47, hu47⟩
          have hz47 := hu47.size
          replace hB1 := hB1.ext hu47
          replace hU := hU.trans (Ext.upd hu47)
          replace hB44 := hB44.ext hu47
          subst hvb47
          refine L_op rfl (X_pick (t := true) (v := (.bool (true))) rfl rfl ?_)
          refine L_op rfl (X_assign (v := (.bool (true))) rfl ?_)
          refine L_nil ?_
          refine T_n ?_
          refine W_ret ?_
          exact BQ_r (End_1 Try.results4 (v := .bool true) rfl ⟨rfl, hU.own hn0⟩)
    · refine L_op rfl (X_cmp (k := .i64) (a := h) (b := 1) (r := false) rfl rfl rfl (decide_eq_false (p := ((1) : Int) ≤ ((h) : Int)) (by omega)) ?_)
      refine L_op rfl (X_move (v := (.bool (false))) rfl ?_)
      refine L_gn (dj := 32) (t := false) rfl rfl rfl rfl ?_
      refine L_gn (dj := 32) (t := false) rfl rfl rfl rfl ?_
      refine L_op rfl (X_pick (t := false) (v := (.bool (false))) rfl rfl ?_)
      refine L_op rfl (X_move (v := (.bool (false))) rfl ?_)
      refine L_gn (dj := 36) (t := false) rfl rfl rfl rfl ?_
      refine L_gn (dj := 36) (t := false) rfl rfl rfl rfl ?_
      refine L_gn (dj := 36) (t := false) rfl rfl rfl rfl ?_
      refine L_gn (dj := 36) (t := false) rfl rfl rfl rfl ?_
      refine L_gn (dj := 36) (t := false) rfl rfl rfl rfl ?_
      refine L_op rfl (X_pick (t := false) (v := (.bool (false))) rfl rfl ?_)
      refine L_op rfl (X_assign (v := (.bool (false))) rfl ?_)
      refine L_nil ?_
      refine T_n ?_
      refine W_seq ?_
      refine W_seq ?_
      refine W_reg ?_
      refine L_op rfl (X_move (v := (.int .i64 (140))) rfl ?_)
      refine L_op rfl (X_cmp (k := .i64) (a := 140) (b := 0) (r := false) rfl rfl rfl rfl ?_)
      refine L_op rfl (X_move (v := (.bool (false))) rfl ?_)
      refine L_op rfl (X_cmpBool (a := false) (b := false) (r := false) Try.underlying4 rfl rfl (.inr ⟨rfl, rfl⟩) ?_)
      refine L_op rfl (X_move (v := (.bool (false))) rfl ?_)
      refine L_gy (dj := 47) rfl rfl rfl (X_move (v := (.int .i64 (140))) rfl ?_)
      refine L_gy (dj := 47) rfl rfl rfl (X_cmp (k := .i64) (a := 140) (b := 0) (r := false) rfl rfl rfl rfl ?_)
      refine L_gy (dj := 47) rfl rfl rfl (X_move (v := (.bool (false))) rfl ?_)
      refine L_gy (dj := 47) rfl rfl rfl (X_cmpBool (a := false) (b := false) (r := false) Try.underlying4 rfl rfl (.inr ⟨rfl, rfl⟩) ?_)
      refine L_op rfl (X_pick (t := false) (v := (.bool (false))) rfl rfl ?_)
      refine L_nil ?_
      refine T_n ?_
      refine W_cf rfl ?_
      refine W_skip ?_
      refine T_n ?_
      refine W_seq ?_
      refine W_reg ?_
      refine L_op rfl (X_loadA (p := (ptr b1 (0))) (xs := (pinC on tx)) A26 rfl hB1.atAll (pinC_len hon htx) ?_)
      refine L_op rfl (X_fn (vs := [(.agg (pinC on tx).toArray)]) en7 rfl (CT.mono (c_many on tx _ hon htx) ?_))
      rintro _ w48 ⟨rfl, hu48⟩
      have hz48 := hu48.size
      replace hU := hU.trans (Ext.upd hu48)
      replace hB1 := hB1.ext hu48
      replace hB20 := hB20.ext hu48
      rw [open_len (show on.length = tx.length by omega)]
      obtain ⟨n, hn⟩ : ∃ n, n = on.countP id := ⟨_, rfl⟩
      rw [← hn]
      refine L_op rfl (X_assign (v := (.int .i64 (((n : Nat) : Int)))) rfl ?_)
      refine L_nil ?_
      refine T_n ?_
      refine W_seq ?_
      refine W_seq ?_
      refine W_reg ?_
      refine L_op rfl (X_move (v := (.int .i64 (((n : Nat) : Int)))) rfl ?_)
      refine L_op rfl (X_assign (v := (.int .i64 (((n : Nat) : Int)))) rfl ?_)
      refine L_nil ?_
      refine T_n ?_
      refine W_block ?_
      have hn8 : n ≤ 8 := by rw [hn, ← hon]; exact List.countP_le_length
      have hbl0_ := hB1.lt
      refine W_loop (α := Nat × List Bool × List Int) [4, 11, 12, 13, 14, 56, 57, 58, 59, 60, 61, 62, 63, 64, 65, 66, 67, 68] (fun ⟨i, on2, tx2⟩ => [(11, (.int .i64 (((i : Nat) : Int))))]) (fun ⟨i, on2, tx2⟩ w_ => i ≤ 8 ∧ on2.length = 8 ∧ tx2.length = 8 ∧ on2.countP id = i ∧ Blk w_ b1 (pinC on2 tx2).toArray 26 ∧ Upd (fun i => n0 ≤ i) w w_) (fun ⟨i, on2, tx2⟩ => 8 - i) ⟨rfl, (n, on, tx), ⟨hn8, hon, htx, hn.symm, hB1, hU⟩, Out.refl _ _, ⟨rfl, trivial⟩⟩ ?_
      rintro ⟨i, on2, tx2⟩ w49 _ ⟨hil, hl3, hl4, hcn, hB1, hU⟩
      have hsz_ := hU.size
      have hbl_ := hB1.lt
      refine W_seq ?_
      refine W_seq ?_
      refine W_reg ?_
      refine L_op rfl (X_move (v := (.int .i64 (((i : Nat) : Int)))) rfl ?_)
      by_cases hc50 : (((i : Nat) : Int) : Int) < (8)
      · refine L_op rfl (X_cmp (k := .i64) (a := ((i : Nat) : Int)) (b := 8) (r := true) rfl rfl rfl (decide_eq_true (p := ((((i : Nat) : Int)) : Int) < ((8) : Int)) (by omega)) ?_)
        refine L_nil ?_
        refine T_n ?_
        refine W_ct rfl ?_
        refine W_skip ?_
        refine T_n ?_
        refine W_seq ?_
        refine W_block ?_
        refine W_seq ?_
        refine W_reg ?_
        refine L_op rfl (X_loadA (p := (ptr b1 (0))) (xs := (pinC on2 tx2)) A26 rfl hB1.atAll (pinC_len hl3 hl4) ?_)
        refine L_op rfl (X_fn (vs := [(.agg (pinC on2 tx2).toArray), (.int .u32 (3))]) en11 rfl (CT.mono (c_open on2 tx2 3 _ hl3 hl4) ?_))
        rintro _ w51 ⟨hdn, onn, txn, en, rfl, hl5, hl6, hA_, hB_, hu51⟩
        have hz51 := hu51.size
        replace hB1 := hB1.ext hu51
        replace hU := hU.trans (Ext.upd hu51)
        have hfl : fstO on2 < on2.length := fst_lt (by omega)
        obtain ⟨hq1, hq2, hq3, hq4⟩ := hA_ (by omega)
        subst hq4
        refine L_op rfl (X_move (v := (.tuple #[(.int .i64 (hdn)), (.agg (pinC onn txn).toArray), (.int .i64 (0))])) rfl ?_)
        refine L_op rfl (X_extract (l := [(.int .i64 (hdn)), (.agg (pinC onn txn).toArray), (.int .i64 (0))]) (v := (.int .i64 (hdn))) rfl rfl ?_)
        refine L_op rfl (X_extract (l := [(.int .i64 (hdn)), (.agg (pinC onn txn).toArray), (.int .i64 (0))]) (v := (.agg (pinC onn txn).toArray)) rfl rfl ?_)
        refine L_op rfl (X_extract (l := [(.int .i64 (hdn)), (.agg (pinC onn txn).toArray), (.int .i64 (0))]) (v := (.int .i64 (0))) rfl rfl ?_)
        refine L_op rfl (X_alloc (z := (.agg #[(.bool (false)), (.bool (false)), (.bool (false)), (.bool (false)), (.bool (false)), (.bool (false)), (.bool (false)), (.bool (false)), (.int .u32 (0)), (.int .u32 (0)), (.int .u32 (0)), (.int .u32 (0)), (.int .u32 (0)), (.int .u32 (0)), (.int .u32 (0)), (.int .u32 (0))])) (c := #[(.bool (false)), (.bool (false)), (.bool (false)), (.bool (false)), (.bool (false)), (.bool (false)), (.bool (false)), (.bool (false)), (.int .u32 (0)), (.int .u32 (0)), (.int .u32 (0)), (.int .u32 (0)), (.int .u32 (0)), (.int .u32 (0)), (.int .u32 (0)), (.int .u32 (0))]) Zv26 rfl ?_)
        intro b52 w52 hn52
        have hbn52 := hn52.num; have hbs52 := hn52.size
        replace hB1 := hB1.ext hn52.ext
        replace hU := hU.trans (Ext.upd hn52.ext)
        have hB52 := hn52.blk
        refine L_op rfl (X_assign (v := (.int .i64 (hdn))) rfl ?_)
        refine L_op0 (X_storeW (b := b52) (ys := (pinC onn txn)) A26 rfl rfl (pinC_one _ _) (pinC_len hl5 hl6) hB52 rfl ?_)
        intro w53 hu53 hb53
        have hz53 := hu53.size
        replace hB1 := hB1.upd hu53 fun h => by have h : b1 = b52 := h; omega
        replace hU := hU.trans (hu53.mono fun i _ h => by have h : i = b52 := h; show n0 ≤ i; omega)
        replace hB52 := hb53
        refine L_op rfl (X_assign (v := (.int .i64 (0))) rfl ?_)
        refine L_nil ?_
        refine T_n ?_
        refine W_seq ?_
        refine W_seq ?_
        refine W_reg ?_
        refine L_op rfl (X_move (v := (.int .i64 (0))) rfl ?_)
        refine L_op rfl (X_cmp (k := .i64) (a := 0) (b := 0) (r := false) rfl rfl rfl rfl ?_)
        refine L_nil ?_
        refine T_n ?_
        refine W_cf rfl ?_
        refine W_skip ?_
        refine T_n ?_
        refine W_reg ?_
        refine L_op rfl (X_loadA (p := (ptr b52 (0))) (xs := (pinC onn txn)) A26 rfl hB52.atAll (pinC_len hl5 hl6) ?_)
        refine L_op0 (X_storeW (b := b1) (ys := (pinC onn txn)) A26 rfl rfl (pinC_one _ _) (pinC_len hl5 hl6) hB1 (by rw [List.size_toArray]; exact (pinC_len hl3 hl4)) ?_)
        intro w54 hu54 hb54
        have hz54 := hu54.size
        replace hU := hU.trans (hu54.mono fun i _ h => by have h : i = b1 := h; show n0 ≤ i; omega)
        replace hB52 := hB52.upd hu54 fun h => by have h : b52 = b1 := h; omega
        replace hB1 := hb54
        refine L_nil ?_
        refine B_n ?_
        refine T_n ?_
        refine W_reg ?_
        refine L_op rfl (X_move (v := (.int .i64 (((i : Nat) : Int)))) rfl ?_)
        refine L_op rfl (X_arith (k := .i64) (a := ((i : Nat) : Int)) (b := 1) (r := ((i + 1 : Nat) : Int)) rfl rfl rfl (iadd64 (by omega) (by omega) (by omega)) ?_)
        refine L_op rfl (X_assign (v := (.int .i64 (((i + 1 : Nat) : Int)))) rfl ?_)
        refine L_nil ?_
        refine T_n ?_
        exact ⟨rfl, (i + 1, onn, txn), ⟨⟨by omega, hl5, hl6, by rw [hq2, cnt_set (by omega), hcn], hB1, hU⟩, (by show 8 - (i + 1) < 8 - i; omega)⟩, (Out.mk rfl), ⟨rfl, trivial⟩⟩
      · refine L_op rfl (X_cmp (k := .i64) (a := ((i : Nat) : Int)) (b := 8) (r := false) rfl rfl rfl (decide_eq_false (p := ((((i : Nat) : Int)) : Int) < ((8) : Int)) (by omega)) ?_)
        have hi8 : i = 8 := by omega
        refine L_nil ?_
        refine T_n ?_
        refine W_cf rfl ?_
        refine W_exit ?_
        refine T_e ?_
        refine T_e ?_
        refine B_x ?_
        refine T_n ?_
        refine W_seq ?_
        refine W_reg ?_
        refine L_op rfl (X_loadA (p := (ptr b1 (0))) (xs := (pinC on2 tx2)) A26 rfl hB1.atAll (pinC_len hl3 hl4) ?_)
        refine L_op rfl (X_fn (vs := [(.agg (pinC on2 tx2).toArray), (.int .u32 (3))]) en11 rfl (CT.mono (c_open on2 tx2 3 _ hl3 hl4) ?_))
        rintro _ w55 ⟨hdn, onn, txn, en, rfl, hl5, hl6, hA_, hB_, hu55⟩
        have hz55 := hu55.size
        replace hB1 := hB1.ext hu55
        replace hU := hU.trans (Ext.upd hu55)
        have hfu : fstO on2 = 8 := (fst_full (by omega)).trans hl3
        obtain ⟨hq1, hq2, hq3, hq4⟩ := hB_ (by omega)
        subst hq1 hq4
        refine L_op rfl (X_move (v := (.tuple #[(.int .i64 (0)), (.agg (pinC onn txn).toArray), (.int .i64 (140))])) rfl ?_)
        refine L_op rfl (X_extract (l := [(.int .i64 (0)), (.agg (pinC onn txn).toArray), (.int .i64 (140))]) (v := (.int .i64 (0))) rfl rfl ?_)
        refine L_op rfl (X_extract (l := [(.int .i64 (0)), (.agg (pinC onn txn).toArray), (.int .i64 (140))]) (v := (.agg (pinC onn txn).toArray)) rfl rfl ?_)
        refine L_op rfl (X_extract (l := [(.int .i64 (0)), (.agg (pinC onn txn).toArray), (.int .i64 (140))]) (v := (.int .i64 (140))) rfl rfl ?_)
        refine L_op rfl (X_alloc (z := (.agg #[(.bool (false)), (.bool (false)), (.bool (false)), (.bool (false)), (.bool (false)), (.bool (false)), (.bool (false)), (.bool (false)), (.int .u32 (0)), (.int .u32 (0)), (.int .u32 (0)), (.int .u32 (0)), (.int .u32 (0)), (.int .u32 (0)), (.int .u32 (0)), (.int .u32 (0))])) (c := #[(.bool (false)), (.bool (false)), (.bool (false)), (.bool (false)), (.bool (false)), (.bool (false)), (.bool (false)), (.bool (false)), (.int .u32 (0)), (.int .u32 (0)), (.int .u32 (0)), (.int .u32 (0)), (.int .u32 (0)), (.int .u32 (0)), (.int .u32 (0)), (.int .u32 (0))]) Zv26 rfl ?_)
        intro b56 w56 hn56
        have hbn56 := hn56.num; have hbs56 := hn56.size
        replace hB1 := hB1.ext hn56.ext
        replace hU := hU.trans (Ext.upd hn56.ext)
        have hB56 := hn56.blk
        refine L_op rfl (X_assign (v := (.int .i64 (0))) rfl ?_)
        refine L_op0 (X_storeW (b := b56) (ys := (pinC onn txn)) A26 rfl rfl (pinC_one _ _) (pinC_len hl5 hl6) hB56 rfl ?_)
        intro w57 hu57 hb57
        have hz57 := hu57.size
        replace hB1 := hB1.upd hu57 fun h => by have h : b1 = b56 := h; omega
        replace hU := hU.trans (hu57.mono fun i _ h => by have h : i = b56 := h; show n0 ≤ i; omega)
        replace hB56 := hb57
        refine L_op rfl (X_assign (v := (.int .i64 (140))) rfl ?_)
        refine L_nil ?_
        refine T_n ?_
        refine W_seq ?_
        refine W_reg ?_
        refine L_op rfl (X_move (v := (.int .i64 (140))) rfl ?_)
        refine L_op rfl (X_cmp (k := .i64) (a := 140) (b := 140) (r := true) rfl rfl rfl rfl ?_)
        refine L_op rfl (X_move (v := (.bool (true))) rfl ?_)
        refine L_gy (dj := 77) rfl rfl rfl (X_loadA (p := (ptr b1 (0))) (xs := (pinC on2 tx2)) A26 rfl hB1.atAll (pinC_len hl3 hl4) ?_)
        refine L_gy (dj := 77) rfl rfl rfl (X_fn (vs := [(.agg (pinC on2 tx2).toArray)]) en7 rfl (CT.mono (c_many on2 tx2 _ hl3 hl4) ?_))
        rintro _ w58 ⟨rfl, hu58⟩
        have hz58 := hu58.size
        replace hB1 := hB1.ext hu58
        replace hU := hU.trans (Ext.upd hu58)
        replace hB56 := hB56.ext hu58
        rw [show (((openL on2 tx2).length : Nat) : Int) = 8 from by rw [open_len (show on2.length = tx2.length by omega)]; omega]
        refine L_gy (dj := 77) rfl rfl rfl (X_cmp (k := .i64) (a := 8) (b := 8) (r := true) rfl rfl rfl rfl ?_)
        refine L_op rfl (X_pick (t := true) (v := (.bool (true))) rfl rfl ?_)
        refine L_op rfl (X_move (v := (.bool (true))) rfl ?_)
        refine L_gy (dj := 82) rfl rfl rfl (X_fn (vs := []) en8 rfl (CT.mono (c_wakes14 _) ?_))
        rintro vb59 w59 ⟨hvb59, hu59⟩
        have hz59 := hu59.size
        replace hB1 := hB1.ext hu59
        replace hU := hU.trans (Ext.upd hu59)
        replace hB56 := hB56.ext hu59
        subst hvb59
        refine L_op rfl (X_pick (t := true) (v := (.bool (true))) rfl rfl ?_)
        refine L_op rfl (X_assign (v := (.bool (true))) rfl ?_)
        refine L_nil ?_
        refine T_n ?_
        refine W_ret ?_
        exact BQ_r (End_1 Try.results4 (v := .bool true) rfl ⟨rfl, hU.own hn0⟩)
end Go.Proofs.Ytlelcjppakmnaaa
