/-
 Spaces: which may be, copies, which are the same. (Printed by wip/gen/t13b.py of this repo.)
-/
import Derived.Test.YtmaikcnjgkoghaaSp
import Derived.Test.YtmaikcnjgkoghaaBaseLA
namespace Go.Proofs.Ytmaikcnjgkoghaa
open Go Go.SL Go.Proofs
set_option linter.unusedVariables false

theorem all_not {bs : List Bool} (h : ∀ (j : Nat) (b : Bool), bs[j]? = some b → b = true) : false ∉ bs := fun hm => by
 obtain ⟨j, hj, e⟩ := List.getElem_of_mem hm
 have := h j _ (List.getElem?_eq_getElem hj)
 rw [e] at this; cases this
theorem four_iff {us : List Bool} (hl : 4 ≤ us.length) : (∀ j, j < 4 → us[j]? = some true) ↔ false ∉ (us.drop 0).take (4 - 0) := by
 constructor
 ·intro h
  refine all_not fun j b hb => ?_
  rw [List.drop_zero, List.getElem?_take] at hb
  split at hb
  ·rename_i h4
   rw [h j (by omega)] at hb; cases hb; rfl
  ·cases hb
 ·intro h j hj
  obtain ⟨b, hb⟩ : ∃ b, us[j]? = some b := ⟨_, List.getElem?_eq_getElem (by omega)⟩
  cases b with
  | true => exact hb
  | false =>
   refine absurd ?_ h
   rw [List.drop_zero]
   exact List.mem_of_getElem? (i := j) (by rw [List.getElem?_take, if_pos (by omega)]; exact hb)
theorem take_same {α : Type} {l m : List α} {i : Nat} {a b : α} (ha : l[i]? = some a) (hb : m[i]? = some b) (h : l.take i = m.take i) (he : a = b) : l.take (i + 1) = m.take (i + 1) := by
 rw [List.take_add_one, List.take_add_one, ha, hb, h, he]
theorem not_same {α : Type} {l m : List α} {i : Nat} {a b : α} (ha : l[i]? = some a) (hb : m[i]? = some b) (he : a ≠ b) : l ≠ m := fun h => by
 rw [h, hb] at ha; cases ha; exact he rfl
theorem take_eq {α : Type} {l m : List α} {i : Nat} (h : l.take i = m.take i) (h1 : l.length ≤ i) (h2 : m.length ≤ i) : l = m := by
 rwa [List.take_of_length_le h1, List.take_of_length_le h2] at h

theorem c_index (v : Value) (bs : List Bool) (w : World) (lo up : Nat) (hb : NRd LBo w lo up v bs) : CT Try.prog 29 #[v, (.bool (false))] w fun v w' => (∃ r : Int, v = .int .i64 r ∧ (0 ≤ r ↔ false ∈ bs)) ∧ w = w' := by
 have hmx := hb.sv.len
 refine CT_of Try.func29 rfl rfl rfl ?_
 refine W_seq ?_
 refine W_reg ?_
 refine L_op rfl (X_assign (v := (.int .i64 (0))) rfl ?_)
 refine L_nil ?_
 refine T_n ?_
 refine W_seq ?_
 refine W_seq ?_
 refine W_reg ?_
 refine L_op rfl (X_move (v := v) rfl ?_)
 refine L_op rfl (X_len (v := v) (n := bs.length) Try.underlying22 rfl hb.sv ?_)
 refine L_op rfl (X_move (v := (.int .i64 (0))) rfl ?_)
 refine L_nil ?_
 refine T_n ?_
 refine W_block ?_
 refine W_loop (α := Nat) [4, 5, 8, 9, 10, 11, 12, 13, 14, 15, 16, 17, 18] (fun i => [(8, (.int .i64 (((i : Nat) : Int))))]) (fun i w_ => w = w_ ∧ i ≤ bs.length ∧ ∀ (j : Nat) (b : Bool), j < i → bs[j]? = some b → b = true) (fun i => bs.length - i) ⟨rfl, 0, ⟨rfl, Nat.zero_le _, fun j _ h => absurd h (Nat.not_lt_zero j)⟩, Out.refl _ _, ⟨rfl, trivial⟩⟩ ?_
 rintro i w1 _ ⟨rfl, hil, hz⟩
 refine W_seq ?_
 refine W_reg ?_
 by_cases hc2 : (((i : Nat) : Int) : Int) < (((bs.length : Nat) : Int))
 ·refine L_op rfl (X_cmp (k := .i64) (a := ((i : Nat) : Int)) (b := ((bs.length : Nat) : Int)) (r := true) rfl rfl rfl (decide_eq_true (p := ((((i : Nat) : Int)) : Int) < ((((bs.length : Nat) : Int)) : Int)) (by omega)) ?_)
  refine L_nil ?_
  refine T_n ?_
  refine W_seq ?_
  refine W_ct rfl ?_
  refine W_skip ?_
  refine T_n ?_
  refine W_seq ?_
  refine W_block ?_
  refine W_seq ?_
  refine W_reg ?_
  refine L_op rfl (X_move (v := (.int .i64 (((i : Nat) : Int)))) rfl ?_)
  refine L_op rfl (X_assign (v := (.int .i64 (((i : Nat) : Int)))) rfl ?_)
  refine L_nil ?_
  refine T_n ?_
  refine W_seq ?_
  refine W_reg ?_
  refine L_op rfl (X_move (v := (.bool (false))) rfl ?_)
  refine L_op rfl (X_move (v := v) rfl ?_)
  refine L_op rfl (X_move (v := (.int .i64 (((i : Nat) : Int)))) rfl ?_)
  refine L_op rfl (X_idx (v := v) (n := bs.length) (k := .i64) (i := ((i : Nat) : Int)) S22 rfl hb.sv rfl (by omega) (by omega) ?_)
  obtain ⟨bi, hbi⟩ : ∃ b, bs[i]? = some b := ⟨_, List.getElem?_eq_getElem (by omega)⟩
  rcases Bool.eq_false_or_eq_true bi with rfl | rfl
  ·refine L_op rfl (X_load (p := (pof v ((((i : Nat) : Int) : Int).toNat * 1))) (v := .bool true) T4 rfl (bat hb (Int.toNat_natCast _) hbi) ?_)
   refine L_op rfl (X_cmpBool (a := false) (b := true) (r := false) Try.underlying4 rfl rfl (.inl ⟨rfl, rfl⟩) ?_)
   refine L_nil ?_
   refine T_n ?_
   refine W_cf rfl ?_
   refine W_skip ?_
   refine B_n ?_
   refine T_n ?_
   refine W_reg ?_
   refine L_op rfl (X_arith (k := .i64) (a := ((i : Nat) : Int)) (b := 1) (r := ((i + 1 : Nat) : Int)) rfl rfl rfl (iadd64 (by omega) (by omega) (by omega)) ?_)
   refine L_op rfl (X_move (v := (.int .i64 (((i + 1 : Nat) : Int)))) rfl ?_)
   refine L_nil ?_
   refine T_n ?_
   exact ⟨rfl, i + 1, ⟨⟨rfl, by omega, fun j e hj he => (Nat.lt_or_ge j i).elim (fun h1 => hz j e h1 he) fun h1 => by obtain rfl : j = i := by { omega }; rw [hbi] at he; cases he; rfl⟩, (by show bs.length - (i + 1) < bs.length - i; omega)⟩, (Out.mk rfl), ⟨rfl, trivial⟩⟩
  ·refine L_op rfl (X_load (p := (pof v ((((i : Nat) : Int) : Int).toNat * 1))) (v := .bool false) T4 rfl (bat hb (Int.toNat_natCast _) hbi) ?_)
   refine L_op rfl (X_cmpBool (a := false) (b := false) (r := true) Try.underlying4 rfl rfl (.inl ⟨rfl, rfl⟩) ?_)
   refine L_nil ?_
   refine T_n ?_
   refine W_ct rfl ?_
   refine W_seq ?_
   refine W_reg ?_
   refine L_op rfl (X_move (v := (.int .i64 (((i : Nat) : Int)))) rfl ?_)
   refine L_op rfl (X_assign (v := (.int .i64 (((i : Nat) : Int)))) rfl ?_)
   refine L_nil ?_
   refine T_n ?_
   refine W_ret ?_
   refine B_r ?_
   refine T_r ?_
   refine T_r ?_
   refine B_r ?_
   refine T_r ?_
   exact BQ_r (End_1 Try.results29 (v := (.int .i64 (((i : Nat) : Int)))) rfl ⟨⟨_, rfl, ⟨fun _ => List.mem_of_getElem? hbi, fun _ => by omega⟩⟩, rfl⟩)
 ·refine L_op rfl (X_cmp (k := .i64) (a := ((i : Nat) : Int)) (b := ((bs.length : Nat) : Int)) (r := false) rfl rfl rfl (decide_eq_false (p := ((((i : Nat) : Int)) : Int) < ((((bs.length : Nat) : Int)) : Int)) (by omega)) ?_)
  refine L_nil ?_
  refine T_n ?_
  refine W_seq ?_
  refine W_cf rfl ?_
  refine W_exit ?_
  refine T_e ?_
  refine T_e ?_
  refine B_x ?_
  refine T_n ?_
  refine W_seq ?_
  refine W_reg ?_
  refine L_op rfl (X_assign (v := (.int .i64 (-1))) rfl ?_)
  refine L_nil ?_
  refine T_n ?_
  refine W_ret ?_
  exact BQ_r (End_1 Try.results29 (v := (.int .i64 (-1))) rfl ⟨⟨_, rfl, ⟨fun h => by omega, fun h => absurd h (all_not fun j b hj => hz j b (by have := (List.getElem?_eq_some_iff.1 hj).1; omega) hj)⟩⟩, rfl⟩)

theorem c_contains (v : Value) (bs : List Bool) (w : World) (lo up : Nat) (hb : NRd LBo w lo up v bs) : CT Try.prog 21 #[v, (.bool (false))] w fun v w' => (∃ g, v = .bool g ∧ (g = true ↔ false ∈ bs)) ∧ w = w' := by
 refine CT_of Try.func21 rfl rfl rfl ?_
 refine W_seq ?_
 refine W_reg ?_
 refine L_op rfl (X_assign (v := (.bool (false))) rfl ?_)
 refine L_nil ?_
 refine T_n ?_
 refine W_seq ?_
 refine W_reg ?_
 refine L_op rfl (X_move (v := v) rfl ?_)
 refine L_op rfl (X_move (v := (.bool (false))) rfl ?_)
 refine L_op rfl (X_fn (vs := [v, (.bool (false))]) en29 rfl (CT.mono (c_index v bs _ lo up hb) ?_))
 rintro _ _ ⟨⟨r_, rfl, hr_⟩, rfl⟩
 by_cases hc1 : (r_ : Int) ≥ (0)
 ·refine L_op rfl (X_cmp (k := .i64) (a := r_) (b := 0) (r := true) rfl rfl rfl (decide_eq_true (p := ((0) : Int) ≤ ((r_) : Int)) (by omega)) ?_)
  refine L_op rfl (X_assign (v := (.bool (true))) rfl ?_)
  refine L_nil ?_
  refine T_n ?_
  refine W_ret ?_
  exact BQ_r (End_1 Try.results21 (v := .bool true) rfl ⟨⟨_, rfl, ⟨fun _ => hr_.1 (by omega), fun _ => rfl⟩⟩, rfl⟩)
 ·refine L_op rfl (X_cmp (k := .i64) (a := r_) (b := 0) (r := false) rfl rfl rfl (decide_eq_false (p := ((0) : Int) ≤ ((r_) : Int)) (by omega)) ?_)
  refine L_op rfl (X_assign (v := (.bool (false))) rfl ?_)
  refine L_nil ?_
  refine T_n ?_
  refine W_ret ?_
  exact BQ_r (End_1 Try.results21 (v := .bool false) rfl ⟨⟨_, rfl, ⟨fun h => (by cases h), fun h => (by have := hr_.2 h; omega)⟩⟩, rfl⟩)

theorem c_may (s : Sp) (w : World) (lo up : Nat) (hup : up ≤ w.heap.size) (hs : s.Rd w lo up) : CT Try.prog 11 #[(.agg #[(.int .i64 (s.sz)), s.uv, s.lv])] w fun v w' => (∃ g, v = .bool g ∧ (g = true ↔ MayS s.sz s.us s.ls)) ∧ Ext w w' := by
 obtain ⟨n0, hn0⟩ : ∃ n, n = w.heap.size := ⟨_, rfl⟩
 have hU : Upd (fun i => n0 ≤ i) w w := Upd.refl _ _
 have hul := hs.1.sv.len; have hll := hs.2.sv.len
 rw [← hn0] at hup
 refine CT_of Try.func11 rfl rfl rfl ?_
 refine W_seq ?_
 refine W_reg ?_
 refine L_op rfl (X_box (v := (.agg #[(.int .i64 (s.sz)), s.uv, s.lv])) (c := ([(.int .i64 (s.sz)), s.uv, s.lv]).toArray) rfl rfl ?_)
 intro b1 w1 hn1
 have hbn1 := hn1.num; have hbs1 := hn1.size
 replace hs := hs.ext hn1.ext
 replace hU := hU.trans (Ext.upd hn1.ext)
 have hB1 := hn1.blk
 refine L_op rfl (X_assign (v := (.bool (false))) rfl ?_)
 refine L_nil ?_
 refine T_n ?_
 refine W_scopeQ ?_
 refine W_seq ?_
 refine W_reg ?_
 refine L_op rfl (X_fldP (b := b1) (o := 0) (r := 0) Fd25_0 rfl rfl ?_)
 refine L_op rfl (X_load (p := (ptr b1 (0))) (v := (.int .i64 (s.sz))) T3 rfl (hB1.at1 rfl) ?_)
 by_cases hc2 : (s.sz : Int) ≥ (32)
 ·refine L_op rfl (X_cmp (k := .i64) (a := s.sz) (b := 32) (r := true) rfl rfl rfl (decide_eq_true (p := ((32) : Int) ≤ ((s.sz) : Int)) (by omega)) ?_)
  refine L_op rfl (X_move (v := (.bool (true))) rfl ?_)
  refine L_gy (dj := 9) rfl rfl rfl (X_fldP (b := b1) (o := 0) (r := 0) Fd25_0 rfl rfl ?_)
  refine L_gy (dj := 9) rfl rfl rfl (X_load (p := (ptr b1 (0))) (v := (.int .i64 (s.sz))) T3 rfl (hB1.at1 rfl) ?_)
  by_cases hc3 : (s.sz : Int) ≤ (256)
  ·refine L_gy (dj := 9) rfl rfl rfl (X_cmp (k := .i64) (a := s.sz) (b := 256) (r := true) rfl rfl rfl (decide_eq_true (p := ((s.sz) : Int) ≤ ((256) : Int)) (by omega)) ?_)
   refine L_op rfl (X_pick (t := true) (v := (.bool (true))) rfl rfl ?_)
   refine L_op rfl (X_move (v := (.bool (true))) rfl ?_)
   refine L_gy (dj := 14) rfl rfl rfl (X_fldP (b := b1) (o := 0) (r := 1) Fd25_1 rfl rfl ?_)
   refine L_gy (dj := 14) rfl rfl rfl (X_load (p := (ptr b1 (1))) (v := s.uv) T22 rfl (hB1.at1 rfl) ?_)
   refine L_gy (dj := 14) rfl rfl rfl (X_len (v := s.uv) (n := s.us.length) Try.underlying22 rfl hs.1.sv ?_)
   refine L_gy (dj := 14) rfl rfl rfl (X_fldP (b := b1) (o := 0) (r := 0) Fd25_0 rfl rfl ?_)
   refine L_gy (dj := 14) rfl rfl rfl (X_load (p := (ptr b1 (0))) (v := (.int .i64 (s.sz))) T3 rfl (hB1.at1 rfl) ?_)
   by_cases hc4 : (((s.us.length : Nat) : Int) : Int) = (s.sz)
   ·refine L_gy (dj := 14) rfl rfl rfl (X_cmp (k := .i64) (a := ((s.us.length : Nat) : Int)) (b := s.sz) (r := true) rfl rfl rfl (decide_eq_true (p := ((((s.us.length : Nat) : Int)) : Int) = ((s.sz) : Int)) (by omega)) ?_)
    refine L_op rfl (X_pick (t := true) (v := (.bool (true))) rfl rfl ?_)
    refine L_op rfl (X_assign (v := (.bool (true))) rfl ?_)
    refine L_nil ?_
    refine T_n ?_
    refine W_seq ?_
    refine W_seq ?_
    refine W_reg ?_
    refine L_op rfl (X_move (v := (.bool (true))) rfl ?_)
    refine L_op rfl (X_not (b := true) (r := false) rfl rfl ?_)
    refine L_op rfl (X_move (v := (.bool (false))) rfl ?_)
    refine L_gy (dj := 24) rfl rfl rfl (X_fldP (b := b1) (o := 0) (r := 1) Fd25_1 rfl rfl ?_)
    refine L_gy (dj := 24) rfl rfl rfl (X_load (p := (ptr b1 (1))) (v := s.uv) T22 rfl (hB1.at1 rfl) ?_)
    have hcut := hs.1.cut (l := 0) (h := 4) (by omega) (by omega)
    refine L_gy (dj := 24) rfl rfl rfl (X_slice (n := s.us.length) (l := 0) (h' := 4) (kl := .i64) (kh := .i64) S22 rfl hs.1.sv rfl rfl (by omega) (by omega) ?_)
    refine L_gy (dj := 24) rfl rfl rfl (X_fn (vs := [(cutv s.uv 1 0 4), (.bool (false))]) en21 rfl (CT.mono (c_contains (cutv s.uv 1 0 4) _ _ lo up hcut) ?_))
    rintro _ _ ⟨⟨g_, rfl, hg_⟩, rfl⟩
    rcases Bool.eq_false_or_eq_true (g_) with hc5 | hc5
    ·rw [hc5]
     refine L_op rfl (X_pick (t := false) (v := (.bool (true))) rfl rfl ?_)
     refine L_nil ?_
     refine T_n ?_
     refine W_ct rfl ?_
     refine W_seq ?_
     refine W_reg ?_
     refine L_op rfl (X_assign (v := (.bool (false))) rfl ?_)
     refine L_nil ?_
     refine T_n ?_
     refine W_ret ?_
     refine T_r ?_
     refine S_r ?_
     exact BQ_r (End_1 Try.results11 (v := .bool false) rfl ⟨⟨false, rfl, ⟨fun h_ => (by cases h_), fun h_ => (by exact ((four_iff (by omega)).1 h_.1.2 (hg_.1 hc5)).elim)⟩⟩, hU.own hn0⟩)
    ·rw [hc5]
     refine L_op rfl (X_pick (t := false) (v := (.bool (false))) rfl rfl ?_)
     refine L_nil ?_
     refine T_n ?_
     refine W_cf rfl ?_
     refine W_skip ?_
     refine T_n ?_
     refine W_seq ?_
     refine W_reg ?_
     refine L_op rfl (X_assign (v := (.int .i64 (3))) rfl ?_)
     refine L_nil ?_
     refine T_n ?_
     refine W_seq ?_
     refine W_label ?_
     refine T_n ?_
     refine W_seq ?_
     refine W_seq ?_
     refine W_reg ?_
     refine L_op rfl (X_fldP (b := b1) (o := 0) (r := 2) Fd25_2 rfl rfl ?_)
     refine L_op rfl (X_load (p := (ptr b1 (2))) (v := s.lv) T23 rfl (hB1.at1 rfl) ?_)
     refine L_op rfl (X_len (v := s.lv) (n := s.ls.length) Try.underlying23 rfl hs.2.sv ?_)
     refine L_op rfl (X_move (v := (.int .i64 (0))) rfl ?_)
     refine L_nil ?_
     refine T_n ?_
     refine W_block ?_
     have hfour := (four_iff (us := s.us) (by omega)).2 (fun h_ => by have h2_ := hg_.2 h_; rw [hc5] at h2_; cases h2_)
     have hb1l := hB1.lt
     refine W_loop (α := Nat) [2, 3, 5, 33, 34, 35, 36, 37, 38, 39, 40, 41, 42, 43, 44, 45, 46, 47, 48, 49, 50, 51, 52, 53, 54, 55, 56, 57, 58, 59, 60] (fun i => [(33, (.int .i64 (((i : Nat) : Int)))), (3, (.int .i64 ((befS s.ls i)))), (2, (.bool (true)))]) (fun i w_ => i ≤ s.ls.length ∧ InL s.us s.ls i ∧ s.Rd w_ lo up ∧ Blk w_ b1 #[(.int .i64 (s.sz)), s.uv, s.lv] 25 ∧ Upd (fun i => n0 ≤ i) w w_) (fun i => s.ls.length - i) ⟨rfl, 0, ⟨Nat.zero_le _, inL_0, hs, hB1, hU⟩, Out.refl _ _, ⟨rfl, rfl, rfl, trivial⟩⟩ ?_
     rintro i w6 _ ⟨hil, hin, hs, hB1, hU⟩
     have hsz_ := hU.size
     have hb1l := hB1.lt
     refine W_seq ?_
     refine W_reg ?_
     by_cases hc7 : (((i : Nat) : Int) : Int) < (((s.ls.length : Nat) : Int))
     ·refine L_op rfl (X_cmp (k := .i64) (a := ((i : Nat) : Int)) (b := ((s.ls.length : Nat) : Int)) (r := true) rfl rfl rfl (decide_eq_true (p := ((((i : Nat) : Int)) : Int) < ((((s.ls.length : Nat) : Int)) : Int)) (by omega)) ?_)
      obtain ⟨x, hx⟩ : ∃ x, s.ls[i]? = some x := ⟨_, List.getElem?_eq_getElem (by omega)⟩
      have hst := inL_step (us := s.us) hx
      have hbf := bef4 hin hil
      refine L_nil ?_
      refine T_n ?_
      refine W_seq ?_
      refine W_ct rfl ?_
      refine W_skip ?_
      refine T_n ?_
      refine W_seq ?_
      refine W_block ?_
      refine W_seq ?_
      refine W_reg ?_
      refine L_op rfl (X_idx (v := s.lv) (n := s.ls.length) (k := .i64) (i := ((i : Nat) : Int)) S23 rfl hs.2.sv rfl (by omega) (by omega) ?_)
      refine L_op rfl (X_loadA (p := (pof s.lv ((((i : Nat) : Int) : Int).toNat * 2))) (xs := [(.int .i64 (x.1)), (.int .u32 (x.2))]) A44 rfl (lall hs.2 (Int.toNat_natCast _) hx) rfl ?_)
      refine L_op rfl (X_alloc (z := (.agg #[(.int .i64 (0)), (.int .u32 (0))])) (c := #[(.int .i64 (0)), (.int .u32 (0))]) Zv44 rfl ?_)
      intro b8 w8 hn8
      have hbn8 := hn8.num; have hbs8 := hn8.size
      replace hs := hs.ext hn8.ext
      replace hB1 := hB1.ext hn8.ext
      replace hU := hU.trans (Ext.upd hn8.ext)
      have hB8 := hn8.blk
      refine L_op0 (X_storeW (b := b8) (ys := [(.int .i64 (x.1)), (.int .u32 (x.2))]) A44 rfl rfl (List.forall_mem_cons.2 ⟨rfl, (List.forall_mem_cons.2 ⟨rfl, (fun _ h => by cases h)⟩)⟩) rfl hB8 rfl ?_)
      intro w9 hu9 hb9
      have hz9 := hu9.size
      replace hs := hs.upd hu9 fun i h1 h2 h => by have h : i = b8 := h; omega
      replace hB1 := hB1.upd hu9 fun h => by have h : b1 = b8 := h; omega
      replace hU := hU.trans (hu9.mono fun i _ h => by have h : i = b8 := h; show n0 ≤ i; omega)
      replace hB8 : Blk w9 b8 #[(.int .i64 (x.1)), (.int .u32 (x.2))] 44 := hb9
      refine L_nil ?_
      refine T_n ?_
      refine W_seq ?_
      refine W_seq ?_
      refine W_reg ?_
      refine L_op rfl (X_fldP (b := b8) (o := 0) (r := 0) Fd44_0 rfl rfl ?_)
      refine L_op rfl (X_load (p := (ptr b8 (0))) (v := (.int .i64 (x.1))) T3 rfl (hB8.at1 rfl) ?_)
      refine L_op rfl (X_move (v := (.int .i64 ((befS s.ls i)))) rfl ?_)
      by_cases hc10 : (x.1 : Int) > ((befS s.ls i))
      ·refine L_op rfl (X_cmp (k := .i64) (a := x.1) (b := (befS s.ls i)) (r := true) rfl rfl rfl (decide_eq_true (p := (((befS s.ls i)) : Int) < ((x.1) : Int)) (by omega)) ?_)
       refine L_op rfl (X_move (v := (.bool (true))) rfl ?_)
       refine L_gy (dj := 41) rfl rfl rfl (X_fldP (b := b8) (o := 0) (r := 0) Fd44_0 rfl rfl ?_)
       refine L_gy (dj := 41) rfl rfl rfl (X_load (p := (ptr b8 (0))) (v := (.int .i64 (x.1))) T3 rfl (hB8.at1 rfl) ?_)
       refine L_gy (dj := 41) rfl rfl rfl (X_fldP (b := b1) (o := 0) (r := 0) Fd25_0 rfl rfl ?_)
       refine L_gy (dj := 41) rfl rfl rfl (X_load (p := (ptr b1 (0))) (v := (.int .i64 (s.sz))) T3 rfl (hB1.at1 rfl) ?_)
       by_cases hc11 : (x.1 : Int) < (s.sz)
       ·refine L_gy (dj := 41) rfl rfl rfl (X_cmp (k := .i64) (a := x.1) (b := s.sz) (r := true) rfl rfl rfl (decide_eq_true (p := ((x.1) : Int) < ((s.sz) : Int)) (by omega)) ?_)
        refine L_op rfl (X_pick (t := true) (v := (.bool (true))) rfl rfl ?_)
        refine L_op rfl (X_move (v := (.bool (true))) rfl ?_)
        refine L_gy (dj := 48) rfl rfl rfl (X_fldP (b := b1) (o := 0) (r := 1) Fd25_1 rfl rfl ?_)
        refine L_gy (dj := 48) rfl rfl rfl (X_load (p := (ptr b1 (1))) (v := s.uv) T22 rfl (hB1.at1 rfl) ?_)
        refine L_gy (dj := 48) rfl rfl rfl (X_fldP (b := b8) (o := 0) (r := 0) Fd44_0 rfl rfl ?_)
        refine L_gy (dj := 48) rfl rfl rfl (X_load (p := (ptr b8 (0))) (v := (.int .i64 (x.1))) T3 rfl (hB8.at1 rfl) ?_)
        refine L_gy (dj := 48) rfl rfl rfl (X_idx (v := s.uv) (n := s.us.length) (k := .i64) (i := x.1) S22 rfl hs.1.sv rfl (by omega) (by omega) ?_)
        obtain ⟨bx, hbx⟩ : ∃ b, s.us[x.1.toNat]? = some b := ⟨_, List.getElem?_eq_getElem (by omega)⟩
        rcases Bool.eq_false_or_eq_true bx with rfl | rfl
        ·refine L_gy (dj := 48) rfl rfl rfl (X_load (p := (pof s.uv ((x.1 : Int).toNat * 1))) (v := .bool true) T4 rfl (bat hs.1 rfl hbx) ?_)
         refine L_op rfl (X_pick (t := true) (v := (.bool (true))) rfl rfl ?_)
         refine L_op rfl (X_assign (v := (.bool (true))) rfl ?_)
         refine L_nil ?_
         refine T_n ?_
         refine W_seq ?_
         refine W_reg ?_
         refine L_op rfl (X_move (v := (.bool (true))) rfl ?_)
         refine L_op rfl (X_not (b := true) (r := false) rfl rfl ?_)
         refine L_nil ?_
         refine T_n ?_
         refine W_cf rfl ?_
         refine W_skip ?_
         refine T_n ?_
         refine W_reg ?_
         refine L_op rfl (X_fldP (b := b8) (o := 0) (r := 0) Fd44_0 rfl rfl ?_)
         refine L_op rfl (X_load (p := (ptr b8 (0))) (v := (.int .i64 (x.1))) T3 rfl (hB8.at1 rfl) ?_)
         refine L_op rfl (X_assign (v := (.int .i64 (x.1))) rfl ?_)
         refine L_nil ?_
         refine B_n ?_
         refine T_n ?_
         refine W_reg ?_
         refine L_op rfl (X_arith (k := .i64) (a := ((i : Nat) : Int)) (b := 1) (r := ((i + 1 : Nat) : Int)) rfl rfl rfl (iadd64 (by omega) (by omega) (by omega)) ?_)
         refine L_op rfl (X_move (v := (.int .i64 (((i + 1 : Nat) : Int)))) rfl ?_)
         refine L_nil ?_
         refine T_n ?_
         exact ⟨rfl, i + 1, ⟨⟨by omega, hst.2 ⟨hin, by omega, by omega, by omega, hbx⟩, hs, hB1, hU⟩, (by show s.ls.length - (i + 1) < s.ls.length - i; omega)⟩, (Out.mk rfl), ⟨rfl, by rw [befS_s hx] <;> rfl, rfl, trivial⟩⟩
        ·refine L_gy (dj := 48) rfl rfl rfl (X_load (p := (pof s.uv ((x.1 : Int).toNat * 1))) (v := .bool false) T4 rfl (bat hs.1 rfl hbx) ?_)
         refine L_op rfl (X_pick (t := true) (v := (.bool (false))) rfl rfl ?_)
         refine L_op rfl (X_assign (v := (.bool (false))) rfl ?_)
         refine L_nil ?_
         refine T_n ?_
         refine W_seq ?_
         refine W_reg ?_
         refine L_op rfl (X_move (v := (.bool (false))) rfl ?_)
         refine L_op rfl (X_not (b := false) (r := true) rfl rfl ?_)
         refine L_nil ?_
         refine T_n ?_
         refine W_ct rfl ?_
         refine W_exit ?_
         refine T_e ?_
         refine B_e rfl ?_
         refine T_e ?_
         refine T_e ?_
         refine B_x ?_
         refine T_n ?_
         refine W_seq ?_
         refine W_reg ?_
         refine L_op rfl (X_move (v := (.bool (false))) rfl ?_)
         refine L_op rfl (X_assign (v := (.bool (false))) rfl ?_)
         refine L_nil ?_
         refine T_n ?_
         refine W_ret ?_
         refine S_r ?_
         exact BQ_r (End_1 Try.results11 (v := .bool false) rfl ⟨⟨false, rfl, ⟨fun h_ => (by cases h_), fun h_ => (by have h1_ := (hst.1 (fun j y hj => h_.2 j y (by omega))).2; rw [hbx] at h1_; cases h1_.2.2.2)⟩⟩, hU.own hn0⟩)
       ·refine L_gy (dj := 41) rfl rfl rfl (X_cmp (k := .i64) (a := x.1) (b := s.sz) (r := false) rfl rfl rfl (decide_eq_false (p := ((x.1) : Int) < ((s.sz) : Int)) (by omega)) ?_)
        refine L_op rfl (X_pick (t := true) (v := (.bool (false))) rfl rfl ?_)
        refine L_op rfl (X_move (v := (.bool (false))) rfl ?_)
        refine L_gn (dj := 48) (t := false) rfl rfl rfl rfl ?_
        refine L_gn (dj := 48) (t := false) rfl rfl rfl rfl ?_
        refine L_gn (dj := 48) (t := false) rfl rfl rfl rfl ?_
        refine L_gn (dj := 48) (t := false) rfl rfl rfl rfl ?_
        refine L_gn (dj := 48) (t := false) rfl rfl rfl rfl ?_
        refine L_gn (dj := 48) (t := false) rfl rfl rfl rfl ?_
        refine L_op rfl (X_pick (t := false) (v := (.bool (false))) rfl rfl ?_)
        refine L_op rfl (X_assign (v := (.bool (false))) rfl ?_)
        refine L_nil ?_
        refine T_n ?_
        refine W_seq ?_
        refine W_reg ?_
        refine L_op rfl (X_move (v := (.bool (false))) rfl ?_)
        refine L_op rfl (X_not (b := false) (r := true) rfl rfl ?_)
        refine L_nil ?_
        refine T_n ?_
        refine W_ct rfl ?_
        refine W_exit ?_
        refine T_e ?_
        refine B_e rfl ?_
        refine T_e ?_
        refine T_e ?_
        refine B_x ?_
        refine T_n ?_
        refine W_seq ?_
        refine W_reg ?_
        refine L_op rfl (X_move (v := (.bool (false))) rfl ?_)
        refine L_op rfl (X_assign (v := (.bool (false))) rfl ?_)
        refine L_nil ?_
        refine T_n ?_
        refine W_ret ?_
        refine S_r ?_
        exact BQ_r (End_1 Try.results11 (v := .bool false) rfl ⟨⟨false, rfl, ⟨fun h_ => (by cases h_), fun h_ => (by have h1_ := (hst.1 (fun j y hj => h_.2 j y (by omega))).2; omega)⟩⟩, hU.own hn0⟩)
      ·refine L_op rfl (X_cmp (k := .i64) (a := x.1) (b := (befS s.ls i)) (r := false) rfl rfl rfl (decide_eq_false (p := (((befS s.ls i)) : Int) < ((x.1) : Int)) (by omega)) ?_)
       refine L_op rfl (X_move (v := (.bool (false))) rfl ?_)
       refine L_gn (dj := 41) (t := false) rfl rfl rfl rfl ?_
       refine L_gn (dj := 41) (t := false) rfl rfl rfl rfl ?_
       refine L_gn (dj := 41) (t := false) rfl rfl rfl rfl ?_
       refine L_gn (dj := 41) (t := false) rfl rfl rfl rfl ?_
       refine L_gn (dj := 41) (t := false) rfl rfl rfl rfl ?_
       refine L_op rfl (X_pick (t := false) (v := (.bool (false))) rfl rfl ?_)
       refine L_op rfl (X_move (v := (.bool (false))) rfl ?_)
       refine L_gn (dj := 48) (t := false) rfl rfl rfl rfl ?_
       refine L_gn (dj := 48) (t := false) rfl rfl rfl rfl ?_
       refine L_gn (dj := 48) (t := false) rfl rfl rfl rfl ?_
       refine L_gn (dj := 48) (t := false) rfl rfl rfl rfl ?_
       refine L_gn (dj := 48) (t := false) rfl rfl rfl rfl ?_
       refine L_gn (dj := 48) (t := false) rfl rfl rfl rfl ?_
       refine L_op rfl (X_pick (t := false) (v := (.bool (false))) rfl rfl ?_)
       refine L_op rfl (X_assign (v := (.bool (false))) rfl ?_)
       refine L_nil ?_
       refine T_n ?_
       refine W_seq ?_
       refine W_reg ?_
       refine L_op rfl (X_move (v := (.bool (false))) rfl ?_)
       refine L_op rfl (X_not (b := false) (r := true) rfl rfl ?_)
       refine L_nil ?_
       refine T_n ?_
       refine W_ct rfl ?_
       refine W_exit ?_
       refine T_e ?_
       refine B_e rfl ?_
       refine T_e ?_
       refine T_e ?_
       refine B_x ?_
       refine T_n ?_
       refine W_seq ?_
       refine W_reg ?_
       refine L_op rfl (X_move (v := (.bool (false))) rfl ?_)
       refine L_op rfl (X_assign (v := (.bool (false))) rfl ?_)
       refine L_nil ?_
       refine T_n ?_
       refine W_ret ?_
       refine S_r ?_
       exact BQ_r (End_1 Try.results11 (v := .bool false) rfl ⟨⟨false, rfl, ⟨fun h_ => (by cases h_), fun h_ => (by have h1_ := (hst.1 (fun j y hj => h_.2 j y (by omega))).2; omega)⟩⟩, hU.own hn0⟩)
     ·refine L_op rfl (X_cmp (k := .i64) (a := ((i : Nat) : Int)) (b := ((s.ls.length : Nat) : Int)) (r := false) rfl rfl rfl (decide_eq_false (p := ((((i : Nat) : Int)) : Int) < ((((s.ls.length : Nat) : Int)) : Int)) (by omega)) ?_)
      replace hin : InL s.us s.ls s.ls.length := by rw [show s.ls.length = i by omega]; exact hin
      refine L_nil ?_
      refine T_n ?_
      refine W_seq ?_
      refine W_cf rfl ?_
      refine W_exit ?_
      refine T_e ?_
      refine T_e ?_
      refine B_x ?_
      refine T_n ?_
      refine W_seq ?_
      refine W_reg ?_
      refine L_op rfl (X_move (v := (.bool (true))) rfl ?_)
      refine L_op rfl (X_assign (v := (.bool (true))) rfl ?_)
      refine L_nil ?_
      refine T_n ?_
      refine W_ret ?_
      refine S_r ?_
      exact BQ_r (End_1 Try.results11 (v := .bool true) rfl ⟨⟨true, rfl, ⟨fun _ => ⟨⟨⟨by omega, by omega, by omega⟩, hfour⟩, hin⟩, fun _ => rfl⟩⟩, hU.own hn0⟩)
   ·refine L_gy (dj := 14) rfl rfl rfl (X_cmp (k := .i64) (a := ((s.us.length : Nat) : Int)) (b := s.sz) (r := false) rfl rfl rfl (decide_eq_false (p := ((((s.us.length : Nat) : Int)) : Int) = ((s.sz) : Int)) (by omega)) ?_)
    refine L_op rfl (X_pick (t := true) (v := (.bool (false))) rfl rfl ?_)
    refine L_op rfl (X_assign (v := (.bool (false))) rfl ?_)
    refine L_nil ?_
    refine T_n ?_
    refine W_seq ?_
    refine W_seq ?_
    refine W_reg ?_
    refine L_op rfl (X_move (v := (.bool (false))) rfl ?_)
    refine L_op rfl (X_not (b := false) (r := true) rfl rfl ?_)
    refine L_op rfl (X_move (v := (.bool (true))) rfl ?_)
    refine L_gn (dj := 24) (t := true) rfl rfl rfl rfl ?_
    refine L_gn (dj := 24) (t := true) rfl rfl rfl rfl ?_
    refine L_gn (dj := 24) (t := true) rfl rfl rfl rfl ?_
    refine L_gn (dj := 24) (t := true) rfl rfl rfl rfl ?_
    refine L_op rfl (X_pick (t := true) (v := (.bool (true))) rfl rfl ?_)
    refine L_nil ?_
    refine T_n ?_
    refine W_ct rfl ?_
    refine W_seq ?_
    refine W_reg ?_
    refine L_op rfl (X_assign (v := (.bool (false))) rfl ?_)
    refine L_nil ?_
    refine T_n ?_
    refine W_ret ?_
    refine T_r ?_
    refine S_r ?_
    exact BQ_r (End_1 Try.results11 (v := .bool false) rfl ⟨⟨false, rfl, ⟨fun h_ => (by cases h_), fun h_ => (by have h1_ := h_.1.1; omega)⟩⟩, hU.own hn0⟩)
  ·refine L_gy (dj := 9) rfl rfl rfl (X_cmp (k := .i64) (a := s.sz) (b := 256) (r := false) rfl rfl rfl (decide_eq_false (p := ((s.sz) : Int) ≤ ((256) : Int)) (by omega)) ?_)
   refine L_op rfl (X_pick (t := true) (v := (.bool (false))) rfl rfl ?_)
   refine L_op rfl (X_move (v := (.bool (false))) rfl ?_)
   refine L_gn (dj := 14) (t := false) rfl rfl rfl rfl ?_
   refine L_gn (dj := 14) (t := false) rfl rfl rfl rfl ?_
   refine L_gn (dj := 14) (t := false) rfl rfl rfl rfl ?_
   refine L_gn (dj := 14) (t := false) rfl rfl rfl rfl ?_
   refine L_gn (dj := 14) (t := false) rfl rfl rfl rfl ?_
   refine L_gn (dj := 14) (t := false) rfl rfl rfl rfl ?_
   refine L_op rfl (X_pick (t := false) (v := (.bool (false))) rfl rfl ?_)
   refine L_op rfl (X_assign (v := (.bool (false))) rfl ?_)
   refine L_nil ?_
   refine T_n ?_
   refine W_seq ?_
   refine W_seq ?_
   refine W_reg ?_
   refine L_op rfl (X_move (v := (.bool (false))) rfl ?_)
   refine L_op rfl (X_not (b := false) (r := true) rfl rfl ?_)
   refine L_op rfl (X_move (v := (.bool (true))) rfl ?_)
   refine L_gn (dj := 24) (t := true) rfl rfl rfl rfl ?_
   refine L_gn (dj := 24) (t := true) rfl rfl rfl rfl ?_
   refine L_gn (dj := 24) (t := true) rfl rfl rfl rfl ?_
   refine L_gn (dj := 24) (t := true) rfl rfl rfl rfl ?_
   refine L_op rfl (X_pick (t := true) (v := (.bool (true))) rfl rfl ?_)
   refine L_nil ?_
   refine T_n ?_
   refine W_ct rfl ?_
   refine W_seq ?_
   refine W_reg ?_
   refine L_op rfl (X_assign (v := (.bool (false))) rfl ?_)
   refine L_nil ?_
   refine T_n ?_
   refine W_ret ?_
   refine T_r ?_
   refine S_r ?_
   exact BQ_r (End_1 Try.results11 (v := .bool false) rfl ⟨⟨false, rfl, ⟨fun h_ => (by cases h_), fun h_ => (by have h1_ := h_.1.1; omega)⟩⟩, hU.own hn0⟩)
 ·refine L_op rfl (X_cmp (k := .i64) (a := s.sz) (b := 32) (r := false) rfl rfl rfl (decide_eq_false (p := ((32) : Int) ≤ ((s.sz) : Int)) (by omega)) ?_)
  refine L_op rfl (X_move (v := (.bool (false))) rfl ?_)
  refine L_gn (dj := 9) (t := false) rfl rfl rfl rfl ?_
  refine L_gn (dj := 9) (t := false) rfl rfl rfl rfl ?_
  refine L_gn (dj := 9) (t := false) rfl rfl rfl rfl ?_
  refine L_op rfl (X_pick (t := false) (v := (.bool (false))) rfl rfl ?_)
  refine L_op rfl (X_move (v := (.bool (false))) rfl ?_)
  refine L_gn (dj := 14) (t := false) rfl rfl rfl rfl ?_
  refine L_gn (dj := 14) (t := false) rfl rfl rfl rfl ?_
  refine L_gn (dj := 14) (t := false) rfl rfl rfl rfl ?_
  refine L_gn (dj := 14) (t := false) rfl rfl rfl rfl ?_
  refine L_gn (dj := 14) (t := false) rfl rfl rfl rfl ?_
  refine L_gn (dj := 14) (t := false) rfl rfl rfl rfl ?_
  refine L_op rfl (X_pick (t := false) (v := (.bool (false))) rfl rfl ?_)
  refine L_op rfl (X_assign (v := (.bool (false))) rfl ?_)
  refine L_nil ?_
  refine T_n ?_
  refine W_seq ?_
  refine W_seq ?_
  refine W_reg ?_
  refine L_op rfl (X_move (v := (.bool (false))) rfl ?_)
  refine L_op rfl (X_not (b := false) (r := true) rfl rfl ?_)
  refine L_op rfl (X_move (v := (.bool (true))) rfl ?_)
  refine L_gn (dj := 24) (t := true) rfl rfl rfl rfl ?_
  refine L_gn (dj := 24) (t := true) rfl rfl rfl rfl ?_
  refine L_gn (dj := 24) (t := true) rfl rfl rfl rfl ?_
  refine L_gn (dj := 24) (t := true) rfl rfl rfl rfl ?_
  refine L_op rfl (X_pick (t := true) (v := (.bool (true))) rfl rfl ?_)
  refine L_nil ?_
  refine T_n ?_
  refine W_ct rfl ?_
  refine W_seq ?_
  refine W_reg ?_
  refine L_op rfl (X_assign (v := (.bool (false))) rfl ?_)
  refine L_nil ?_
  refine T_n ?_
  refine W_ret ?_
  refine T_r ?_
  refine S_r ?_
  exact BQ_r (End_1 Try.results11 (v := .bool false) rfl ⟨⟨false, rfl, ⟨fun h_ => (by cases h_), fun h_ => (by have h1_ := h_.1.1; omega)⟩⟩, hU.own hn0⟩)

theorem c_own (s : Sp) (w : World) (lo up : Nat) (hup : up ≤ w.heap.size) (hs : s.Rd w lo up) (hLu : s.us.length ≤ 1048576) (hLl : s.ls.length ≤ 1048576) : CT Try.prog 16 #[(.agg #[(.int .i64 (s.sz)), s.uv, s.lv])] w fun v w' => ∃ u2 l2, v = .agg #[.int .i64 s.sz, u2, l2] ∧ NOwn LBo w' 4 5 w.heap.size w'.heap.size u2 s.us ∧ NOwn LL w' 44 5 w.heap.size w'.heap.size l2 s.ls ∧ Ext w w' := by
 obtain ⟨n0, hn0⟩ : ∃ n, n = w.heap.size := ⟨_, rfl⟩
 have hU : Upd (fun i => n0 ≤ i) w w := Upd.refl _ _
 have hul := hs.1.sv.len; have hll := hs.2.sv.len
 rw [← hn0] at hup
 refine CT_of Try.func16 rfl rfl rfl ?_
 refine W_seq ?_
 refine W_reg ?_
 refine L_op rfl (X_box (v := (.agg #[(.int .i64 (s.sz)), s.uv, s.lv])) (c := ([(.int .i64 (s.sz)), s.uv, s.lv]).toArray) rfl rfl ?_)
 intro b1 w1 hn1
 have hbn1 := hn1.num; have hbs1 := hn1.size
 replace hs := hs.ext hn1.ext
 replace hU := hU.trans (Ext.upd hn1.ext)
 have hB1 := hn1.blk
 refine L_op rfl (X_alloc (z := (.agg #[(.int .i64 (0)), (.slice none 0 0), (.slice none 0 0)])) (c := #[(.int .i64 (0)), (.slice none 0 0), (.slice none 0 0)]) Zv25 rfl ?_)
 intro b2 w2 hn2
 have hbn2 := hn2.num; have hbs2 := hn2.size
 replace hs := hs.ext hn2.ext
 replace hU := hU.trans (Ext.upd hn2.ext)
 replace hB1 := hB1.ext hn2.ext
 have hB2 := hn2.blk
 refine L_nil ?_
 refine T_n ?_
 refine W_seq ?_
 obtain ⟨s0, hs0⟩ : ∃ n, n = w2.heap.size := ⟨_, rfl⟩
 refine W_draw 9 [[], [], [1], [0, 1, 2], [], [], [5], [0, 1, 2, 3, 4, 5, 6], [0, 1, 2, 3, 5, 6], [0, 1, 2, 3, 4, 5, 6, 7, 8], [0, 1, 2, 3, 4, 5, 6, 7, 8, 9], [0, 1, 2, 3, 4, 5, 6, 7, 8, 9, 10]] mixed (by kernel_rfl) ?_
 refine ⟨.abs (fun _ x_ _ => ∃ b, x_ = .slice (some ⟨b, 0, none⟩) 0 0), ⟨fun _ _ _ => rfl, fun _ _ _ _ _ h => h⟩, fun val h_ W hx he => ⟨trivial, ?_⟩, ?_⟩
 ·refine X_buildSlice1 (vs := []) S22 (by decide) rfl rfl (fun _ h => by cases h) ?_
  intro b w2 hn
  exact ⟨hn.ext, b, rfl⟩
 refine ⟨.det (fun val => (ptr b1 (1))), ⟨fun _ _ hv => rfl, fun _ _ _ _ _ => trivial⟩, fun val h_ W hx he => ⟨trivial, ?_⟩, ?_⟩
 ·exact X_fldP (b := b1) (o := 0) (r := 1) Fd25_1 rfl rfl ⟨Upd.refl _ _, rfl⟩
 refine ⟨.det (fun val => s.uv), ⟨fun _ _ hv => rfl, fun _ _ _ _ _ => trivial⟩, fun val h_ W hx he => ⟨trivial, ?_⟩, ?_⟩
 ·replace hx := (Upd.drew _ _).trans hx
  replace hB1 := hB1.ext hx
  refine id (X_load (p := (ptr b1 (1))) (v := s.uv) T22 rfl (hB1.at1 rfl) ?_)
  exact ⟨Upd.refl _ _, rfl⟩
 refine ⟨.abs (fun _ x_ W_ => ∃ u, u ≤ W_.heap.size ∧ NOwn LBo W_ 4 5 s0 u x_ s.us), ⟨fun _ _ _ => rfl, fun _ _ _ _ hu h => (by obtain ⟨u, h1, h2⟩ := h; exact ⟨u, Nat.le_trans h1 hu.size, h2.ext hu⟩)⟩, fun val h_ W hx he => ⟨trivial, ?_⟩, ?_⟩
 ·replace hx := (Upd.drew _ _).trans hx
  replace hs := hs.ext hx
  have hxs := hx.size
  obtain ⟨⟨bz, hbz⟩, _⟩ := he
  refine X_append (B := s0) (n := 0) (s := val 0) (x := s.uv) S22 ⟨_, Try.underlying22⟩ rfl rfl (xs := []) (by rw [hbz]; exact Own.zero _ _ _ _ _) hs.1.1 (NRd.sub_one hs.1) (by unfold maxLen; omega) (by omega) (by omega) ?_
  intro v5 w5 hO5 hu5 _
  rw [hbz] at hu5
  replace hO5 := hO5.eq (Nat.zero_add _) (List.nil_append _)
  exact ⟨hu5.nobk, _, Nat.le_refl _, NOwn.of (fun _ => rfl) hO5 fun b hb => (hO5.lt hb).2⟩
 refine ⟨.abs (fun _ x_ _ => ∃ b, x_ = .slice (some ⟨b, 0, none⟩) 0 0), ⟨fun _ _ _ => rfl, fun _ _ _ _ _ h => h⟩, fun val h_ W hx he => ⟨trivial, ?_⟩, ?_⟩
 ·refine X_buildSliceL (vs := []) (c := []) S23 (by decide) rfl rfl (fun _ h => by cases h) rfl ?_
  intro b w2 hn
  exact ⟨hn.ext, b, rfl⟩
 refine ⟨.det (fun val => (ptr b1 (2))), ⟨fun _ _ hv => rfl, fun _ _ _ _ _ => trivial⟩, fun val h_ W hx he => ⟨trivial, ?_⟩, ?_⟩
 ·exact X_fldP (b := b1) (o := 0) (r := 2) Fd25_2 rfl rfl ⟨Upd.refl _ _, rfl⟩
 refine ⟨.det (fun val => s.lv), ⟨fun _ _ hv => rfl, fun _ _ _ _ _ => trivial⟩, fun val h_ W hx he => ⟨trivial, ?_⟩, ?_⟩
 ·replace hx := (Upd.drew _ _).trans hx
  replace hB1 := hB1.ext hx
  refine id (X_load (p := (ptr b1 (2))) (v := s.lv) T23 rfl (hB1.at1 rfl) ?_)
  exact ⟨Upd.refl _ _, rfl⟩
 refine ⟨.abs (fun _ x_ W_ => ∃ u, u ≤ W_.heap.size ∧ NOwn LL W_ 44 5 s0 u x_ s.ls), ⟨fun _ _ _ => rfl, fun _ _ _ _ hu h => (by obtain ⟨u, h1, h2⟩ := h; exact ⟨u, Nat.le_trans h1 hu.size, h2.ext hu⟩)⟩, fun val h_ W hx he => ⟨trivial, ?_⟩, ?_⟩
 ·replace hx := (Upd.drew _ _).trans hx
  replace hs := hs.ext hx
  have hxs := hx.size
  obtain ⟨⟨bz, hbz⟩, _⟩ := he
  refine X_append (B := s0) (n := 0) (s := val 4) (x := s.lv) S23 ⟨_, Try.underlying23⟩ rfl rfl (xs := []) (by rw [hbz]; exact Own.zero _ _ _ _ _) hs.2.1 (NRd.sub_one hs.2) (by unfold maxLen; omega) (by omega) (by omega) ?_
  intro v5 w5 hO5 hu5 _
  rw [hbz] at hu5
  replace hO5 := hO5.eq (Nat.zero_add _) (List.nil_append _)
  exact ⟨hu5.nobk, _, Nat.le_refl _, NOwn.of (fun _ => rfl) hO5 fun b hb => (hO5.lt hb).2⟩
 refine ⟨.det (fun val => (ptr b1 (1))), ⟨fun _ _ hv => rfl, fun _ _ _ _ _ => trivial⟩, fun val h_ W hx he => ⟨trivial, ?_⟩, ?_⟩
 ·obtain ⟨⟨u3, hu3_, hN3⟩, he⟩ := he
  obtain ⟨⟨bz0, hbz0⟩, he⟩ := he
  refine id (X_fldP (b := b1) (o := 0) (r := 1) Fd25_1 rfl rfl ?_)
  exact ⟨Upd.refl _ _, rfl⟩
 intro val W3 hx3 he3
 replace hx3 := (Upd.drew _ _).trans hx3
 have hz3 := hx3.size
 replace hs := hs.ext hx3
 replace hU := hU.trans (Ext.upd hx3)
 replace hB1 := hB1.ext hx3
 replace hB2 := hB2.ext hx3
 obtain ⟨⟨u7, hu7_, hN7⟩, he3⟩ := he3
 obtain ⟨⟨bz4, hbz4⟩, he3⟩ := he3
 obtain ⟨⟨u3, hu3_, hN3⟩, he3⟩ := he3
 obtain ⟨⟨bz0, hbz0⟩, he3⟩ := he3
 refine L_op0 (X_store (b := b1) (o := 1) T22 rfl rfl (hN3.1.sv.one) hB1 (by show (1 : Nat) < 3; decide) ?_)
 intro w4 hu4 hb4
 have hz4 := hu4.size
 replace hs := hs.upd hu4 fun i h1 h2 h => by have h : i = b1 := h; omega
 replace hU := hU.trans (hu4.mono fun i _ h => by have h : i = b1 := h; show n0 ≤ i; omega)
 replace hB2 := hB2.upd hu4 fun h => by have h : b2 = b1 := h; omega
 replace hN3 := hN3.upd hu4 fun i h1 h2 h => by have h : i = b1 := h; omega
 replace hN7 := hN7.upd hu4 fun i h1 h2 h => by have h : i = b1 := h; omega
 replace hB1 : Blk w4 b1 #[(.int .i64 (s.sz)), (val 3), s.lv] 25 := hb4
 refine L_op rfl (X_fldP (b := b1) (o := 0) (r := 2) Fd25_2 rfl rfl ?_)
 refine L_op0 (X_store (b := b1) (o := 2) T23 rfl rfl (hN7.1.sv.one) hB1 (by show (2 : Nat) < 3; decide) ?_)
 intro w5 hu5 hb5
 have hz5 := hu5.size
 replace hs := hs.upd hu5 fun i h1 h2 h => by have h : i = b1 := h; omega
 replace hU := hU.trans (hu5.mono fun i _ h => by have h : i = b1 := h; show n0 ≤ i; omega)
 replace hB2 := hB2.upd hu5 fun h => by have h : b2 = b1 := h; omega
 replace hN3 := hN3.upd hu5 fun i h1 h2 h => by have h : i = b1 := h; omega
 replace hN7 := hN7.upd hu5 fun i h1 h2 h => by have h : i = b1 := h; omega
 replace hB1 : Blk w5 b1 #[(.int .i64 (s.sz)), (val 3), (val 7)] 25 := hb5
 refine L_nil ?_
 refine T_n ?_
 refine W_seq ?_
 refine W_reg ?_
 refine L_op rfl (X_loadA (p := (ptr b1 (0))) (xs := [(.int .i64 (s.sz)), (val 3), (val 7)]) A25 rfl hB1.atAll rfl ?_)
 refine L_op0 (X_storeW (b := b2) (ys := [(.int .i64 (s.sz)), (val 3), (val 7)]) A25 rfl rfl (List.forall_mem_cons.2 ⟨rfl, (List.forall_mem_cons.2 ⟨(hN3.1.sv.one), (List.forall_mem_cons.2 ⟨(hN7.1.sv.one), (fun _ h => by cases h)⟩)⟩)⟩) rfl hB2 rfl ?_)
 intro w6 hu6 hb6
 have hz6 := hu6.size
 replace hs := hs.upd hu6 fun i h1 h2 h => by have h : i = b2 := h; omega
 replace hU := hU.trans (hu6.mono fun i _ h => by have h : i = b2 := h; show n0 ≤ i; omega)
 replace hN3 := hN3.upd hu6 fun i h1 h2 h => by have h : i = b2 := h; omega
 replace hN7 := hN7.upd hu6 fun i h1 h2 h => by have h : i = b2 := h; omega
 replace hB1 := hB1.upd hu6 fun h => by have h : b1 = b2 := h; omega
 replace hB2 : Blk w6 b2 #[(.int .i64 (s.sz)), (val 3), (val 7)] 25 := hb6
 refine L_nil ?_
 refine T_n ?_
 refine W_ret ?_
 have hU2 := hU.own hn0
 exact BQ_r (End_1 Try.results16 (RV_A A25 rfl hB2.atAll rfl) ⟨_, _, rfl, hN3.mono (by omega) (by omega), hN7.mono (by omega) (by omega), hU2⟩)

theorem c_same (s t : Sp) (w : World) (lo up lo2 up2 : Nat) (hs : s.Rd w lo up) (ht : t.Rd w lo2 up2) : CT Try.prog 20 #[(.agg #[(.int .i64 (s.sz)), s.uv, s.lv]), (.agg #[(.int .i64 (t.sz)), t.uv, t.lv])] w fun v w' => (∃ g, v = .bool g ∧ (g = true ↔ s.sz = t.sz ∧ s.us = t.us ∧ s.ls = t.ls)) ∧ Ext w w' := by
 obtain ⟨n0, hn0⟩ : ∃ n, n = w.heap.size := ⟨_, rfl⟩
 have hU : Upd (fun i => n0 ≤ i) w w := Upd.refl _ _
 have hul := hs.1.sv.len; have hll := hs.2.sv.len
 have htu := ht.1.sv.len; have htl := ht.2.sv.len
 refine CT_of Try.func20 rfl rfl rfl ?_
 refine W_seq ?_
 refine W_reg ?_
 refine L_op rfl (X_box (v := (.agg #[(.int .i64 (s.sz)), s.uv, s.lv])) (c := ([(.int .i64 (s.sz)), s.uv, s.lv]).toArray) rfl rfl ?_)
 intro b1 w1 hn1
 have hbn1 := hn1.num; have hbs1 := hn1.size
 replace hs := hs.ext hn1.ext
 replace hU := hU.trans (Ext.upd hn1.ext)
 replace ht := ht.ext hn1.ext
 have hB1 := hn1.blk
 refine L_op rfl (X_box (v := (.agg #[(.int .i64 (t.sz)), t.uv, t.lv])) (c := ([(.int .i64 (t.sz)), t.uv, t.lv]).toArray) rfl rfl ?_)
 intro b2 w2 hn2
 have hbn2 := hn2.num; have hbs2 := hn2.size
 replace hs := hs.ext hn2.ext
 replace hU := hU.trans (Ext.upd hn2.ext)
 replace ht := ht.ext hn2.ext
 replace hB1 := hB1.ext hn2.ext
 have hB2 := hn2.blk
 refine L_op rfl (X_assign (v := (.bool (false))) rfl ?_)
 refine L_nil ?_
 refine T_n ?_
 refine W_seq ?_
 refine W_seq ?_
 refine W_reg ?_
 refine L_op rfl (X_fldP (b := b1) (o := 0) (r := 0) Fd25_0 rfl rfl ?_)
 refine L_op rfl (X_load (p := (ptr b1 (0))) (v := (.int .i64 (s.sz))) T3 rfl (hB1.at1 rfl) ?_)
 refine L_op rfl (X_fldP (b := b2) (o := 0) (r := 0) Fd25_0 rfl rfl ?_)
 refine L_op rfl (X_load (p := (ptr b2 (0))) (v := (.int .i64 (t.sz))) T3 rfl (hB2.at1 rfl) ?_)
 by_cases hc3 : (s.sz : Int) ≠ (t.sz)
 ·refine L_op rfl (X_cmp (k := .i64) (a := s.sz) (b := t.sz) (r := true) rfl rfl rfl (decide_eq_true (p := ((s.sz) : Int) ≠ ((t.sz) : Int)) (by omega)) ?_)
  refine L_op rfl (X_move (v := (.bool (true))) rfl ?_)
  refine L_gn (dj := 12) (t := true) rfl rfl rfl rfl ?_
  refine L_gn (dj := 12) (t := true) rfl rfl rfl rfl ?_
  refine L_gn (dj := 12) (t := true) rfl rfl rfl rfl ?_
  refine L_gn (dj := 12) (t := true) rfl rfl rfl rfl ?_
  refine L_gn (dj := 12) (t := true) rfl rfl rfl rfl ?_
  refine L_gn (dj := 12) (t := true) rfl rfl rfl rfl ?_
  refine L_gn (dj := 12) (t := true) rfl rfl rfl rfl ?_
  refine L_op rfl (X_pick (t := true) (v := (.bool (true))) rfl rfl ?_)
  refine L_op rfl (X_move (v := (.bool (true))) rfl ?_)
  refine L_gn (dj := 21) (t := true) rfl rfl rfl rfl ?_
  refine L_gn (dj := 21) (t := true) rfl rfl rfl rfl ?_
  refine L_gn (dj := 21) (t := true) rfl rfl rfl rfl ?_
  refine L_gn (dj := 21) (t := true) rfl rfl rfl rfl ?_
  refine L_gn (dj := 21) (t := true) rfl rfl rfl rfl ?_
  refine L_gn (dj := 21) (t := true) rfl rfl rfl rfl ?_
  refine L_gn (dj := 21) (t := true) rfl rfl rfl rfl ?_
  refine L_op rfl (X_pick (t := true) (v := (.bool (true))) rfl rfl ?_)
  refine L_nil ?_
  refine T_n ?_
  refine W_ct rfl ?_
  refine W_seq ?_
  refine W_reg ?_
  refine L_op rfl (X_assign (v := (.bool (false))) rfl ?_)
  refine L_nil ?_
  refine T_n ?_
  refine W_ret ?_
  refine T_r ?_
  exact BQ_r (End_1 Try.results20 (v := .bool false) rfl ⟨⟨false, rfl, ⟨fun h_ => (by cases h_), fun h_ => (by omega)⟩⟩, hU.own hn0⟩)
 ·refine L_op rfl (X_cmp (k := .i64) (a := s.sz) (b := t.sz) (r := false) rfl rfl rfl (decide_eq_false (p := ((s.sz) : Int) ≠ ((t.sz) : Int)) (by omega)) ?_)
  refine L_op rfl (X_move (v := (.bool (false))) rfl ?_)
  refine L_gy (dj := 12) rfl rfl rfl (X_fldP (b := b1) (o := 0) (r := 1) Fd25_1 rfl rfl ?_)
  refine L_gy (dj := 12) rfl rfl rfl (X_load (p := (ptr b1 (1))) (v := s.uv) T22 rfl (hB1.at1 rfl) ?_)
  refine L_gy (dj := 12) rfl rfl rfl (X_len (v := s.uv) (n := s.us.length) Try.underlying22 rfl hs.1.sv ?_)
  refine L_gy (dj := 12) rfl rfl rfl (X_fldP (b := b2) (o := 0) (r := 1) Fd25_1 rfl rfl ?_)
  refine L_gy (dj := 12) rfl rfl rfl (X_load (p := (ptr b2 (1))) (v := t.uv) T22 rfl (hB2.at1 rfl) ?_)
  refine L_gy (dj := 12) rfl rfl rfl (X_len (v := t.uv) (n := t.us.length) Try.underlying22 rfl ht.1.sv ?_)
  by_cases hc4 : (((s.us.length : Nat) : Int) : Int) ≠ (((t.us.length : Nat) : Int))
  ·refine L_gy (dj := 12) rfl rfl rfl (X_cmp (k := .i64) (a := ((s.us.length : Nat) : Int)) (b := ((t.us.length : Nat) : Int)) (r := true) rfl rfl rfl (decide_eq_true (p := ((((s.us.length : Nat) : Int)) : Int) ≠ ((((t.us.length : Nat) : Int)) : Int)) (by omega)) ?_)
   refine L_op rfl (X_pick (t := false) (v := (.bool (true))) rfl rfl ?_)
   refine L_op rfl (X_move (v := (.bool (true))) rfl ?_)
   refine L_gn (dj := 21) (t := true) rfl rfl rfl rfl ?_
   refine L_gn (dj := 21) (t := true) rfl rfl rfl rfl ?_
   refine L_gn (dj := 21) (t := true) rfl rfl rfl rfl ?_
   refine L_gn (dj := 21) (t := true) rfl rfl rfl rfl ?_
   refine L_gn (dj := 21) (t := true) rfl rfl rfl rfl ?_
   refine L_gn (dj := 21) (t := true) rfl rfl rfl rfl ?_
   refine L_gn (dj := 21) (t := true) rfl rfl rfl rfl ?_
   refine L_op rfl (X_pick (t := true) (v := (.bool (true))) rfl rfl ?_)
   refine L_nil ?_
   refine T_n ?_
   refine W_ct rfl ?_
   refine W_seq ?_
   refine W_reg ?_
   refine L_op rfl (X_assign (v := (.bool (false))) rfl ?_)
   refine L_nil ?_
   refine T_n ?_
   refine W_ret ?_
   refine T_r ?_
   exact BQ_r (End_1 Try.results20 (v := .bool false) rfl ⟨⟨false, rfl, ⟨fun h_ => (by cases h_), fun h_ => (by have h1_ := congrArg List.length h_.2.1; omega)⟩⟩, hU.own hn0⟩)
  ·refine L_gy (dj := 12) rfl rfl rfl (X_cmp (k := .i64) (a := ((s.us.length : Nat) : Int)) (b := ((t.us.length : Nat) : Int)) (r := false) rfl rfl rfl (decide_eq_false (p := ((((s.us.length : Nat) : Int)) : Int) ≠ ((((t.us.length : Nat) : Int)) : Int)) (by omega)) ?_)
   refine L_op rfl (X_pick (t := false) (v := (.bool (false))) rfl rfl ?_)
   refine L_op rfl (X_move (v := (.bool (false))) rfl ?_)
   refine L_gy (dj := 21) rfl rfl rfl (X_fldP (b := b1) (o := 0) (r := 2) Fd25_2 rfl rfl ?_)
   refine L_gy (dj := 21) rfl rfl rfl (X_load (p := (ptr b1 (2))) (v := s.lv) T23 rfl (hB1.at1 rfl) ?_)
   refine L_gy (dj := 21) rfl rfl rfl (X_len (v := s.lv) (n := s.ls.length) Try.underlying23 rfl hs.2.sv ?_)
   refine L_gy (dj := 21) rfl rfl rfl (X_fldP (b := b2) (o := 0) (r := 2) Fd25_2 rfl rfl ?_)
   refine L_gy (dj := 21) rfl rfl rfl (X_load (p := (ptr b2 (2))) (v := t.lv) T23 rfl (hB2.at1 rfl) ?_)
   refine L_gy (dj := 21) rfl rfl rfl (X_len (v := t.lv) (n := t.ls.length) Try.underlying23 rfl ht.2.sv ?_)
   by_cases hc5 : (((s.ls.length : Nat) : Int) : Int) ≠ (((t.ls.length : Nat) : Int))
   ·refine L_gy (dj := 21) rfl rfl rfl (X_cmp (k := .i64) (a := ((s.ls.length : Nat) : Int)) (b := ((t.ls.length : Nat) : Int)) (r := true) rfl rfl rfl (decide_eq_true (p := ((((s.ls.length : Nat) : Int)) : Int) ≠ ((((t.ls.length : Nat) : Int)) : Int)) (by omega)) ?_)
    refine L_op rfl (X_pick (t := false) (v := (.bool (true))) rfl rfl ?_)
    refine L_nil ?_
    refine T_n ?_
    refine W_ct rfl ?_
    refine W_seq ?_
    refine W_reg ?_
    refine L_op rfl (X_assign (v := (.bool (false))) rfl ?_)
    refine L_nil ?_
    refine T_n ?_
    refine W_ret ?_
    refine T_r ?_
    exact BQ_r (End_1 Try.results20 (v := .bool false) rfl ⟨⟨false, rfl, ⟨fun h_ => (by cases h_), fun h_ => (by have h1_ := congrArg List.length h_.2.2; omega)⟩⟩, hU.own hn0⟩)
   ·refine L_gy (dj := 21) rfl rfl rfl (X_cmp (k := .i64) (a := ((s.ls.length : Nat) : Int)) (b := ((t.ls.length : Nat) : Int)) (r := false) rfl rfl rfl (decide_eq_false (p := ((((s.ls.length : Nat) : Int)) : Int) ≠ ((((t.ls.length : Nat) : Int)) : Int)) (by omega)) ?_)
    refine L_op rfl (X_pick (t := false) (v := (.bool (false))) rfl rfl ?_)
    refine L_nil ?_
    refine T_n ?_
    refine W_cf rfl ?_
    refine W_skip ?_
    refine T_n ?_
    refine W_seq ?_
    refine W_seq ?_
    refine W_reg ?_
    refine L_op rfl (X_assign (v := (.int .i64 (0))) rfl ?_)
    refine L_nil ?_
    refine T_n ?_
    refine W_block ?_
    refine W_loop (α := Nat) [4, 5, 30, 31, 32, 33, 34, 35, 36, 37, 38, 39, 40, 41, 42, 43, 44, 45, 46, 47] (fun i => [(5, (.int .i64 (((i : Nat) : Int))))]) (fun i w_ => i ≤ s.us.length ∧ s.us.take i = t.us.take i ∧ s.Rd w_ lo up ∧ t.Rd w_ lo2 up2 ∧ Blk w_ b1 #[(.int .i64 (s.sz)), s.uv, s.lv] 25 ∧ Blk w_ b2 #[(.int .i64 (t.sz)), t.uv, t.lv] 25 ∧ Upd (fun i => n0 ≤ i) w w_) (fun i => s.us.length - i) ⟨rfl, 0, ⟨Nat.zero_le _, rfl, hs, ht, hB1, hB2, hU⟩, Out.refl _ _, ⟨rfl, trivial⟩⟩ ?_
    rintro i w6 _ ⟨hil, hz, hs, ht, hB1, hB2, hU⟩
    have hsz_ := hU.size
    refine W_seq ?_
    refine W_seq ?_
    refine W_reg ?_
    refine L_op rfl (X_move (v := (.int .i64 (((i : Nat) : Int)))) rfl ?_)
    refine L_op rfl (X_fldP (b := b1) (o := 0) (r := 1) Fd25_1 rfl rfl ?_)
    refine L_op rfl (X_load (p := (ptr b1 (1))) (v := s.uv) T22 rfl (hB1.at1 rfl) ?_)
    refine L_op rfl (X_len (v := s.uv) (n := s.us.length) Try.underlying22 rfl hs.1.sv ?_)
    by_cases hc7 : (((i : Nat) : Int) : Int) < (((s.us.length : Nat) : Int))
    ·refine L_op rfl (X_cmp (k := .i64) (a := ((i : Nat) : Int)) (b := ((s.us.length : Nat) : Int)) (r := true) rfl rfl rfl (decide_eq_true (p := ((((i : Nat) : Int)) : Int) < ((((s.us.length : Nat) : Int)) : Int)) (by omega)) ?_)
     have hi : i < s.us.length := by omega
     obtain ⟨a, hai⟩ : ∃ a, s.us[i]? = some a := ⟨_, List.getElem?_eq_getElem hi⟩
     obtain ⟨b, hbi⟩ : ∃ b, t.us[i]? = some b := ⟨_, List.getElem?_eq_getElem (by omega)⟩
     refine L_nil ?_
     refine T_n ?_
     refine W_ct rfl ?_
     refine W_skip ?_
     refine T_n ?_
     refine W_seq ?_
     refine W_block ?_
     refine W_seq ?_
     rcases Bool.eq_false_or_eq_true ((a == b)) with hs8 | hs8
     ·refine W_draw 10 [[], [0], [], [0, 1, 2], [0, 1, 2, 3], [], [5], [], [5, 6, 7], [5, 6, 7, 8], [0, 1, 2, 3, 4, 5, 6, 7, 8, 9]] mixed (by kernel_rfl) ?_
      refine ⟨.det (fun val => (ptr b1 (1))), ⟨fun _ _ hv => rfl, fun _ _ _ _ _ => trivial⟩, fun val h_ W hx he => ⟨trivial, ?_⟩, ?_⟩
      ·exact X_fldP (b := b1) (o := 0) (r := 1) Fd25_1 rfl rfl ⟨Upd.refl _ _, rfl⟩
      refine ⟨.det (fun val => s.uv), ⟨fun _ _ hv => rfl, fun _ _ _ _ _ => trivial⟩, fun val h_ W hx he => ⟨trivial, ?_⟩, ?_⟩
      ·replace hx := (Upd.drew _ _).trans hx
       replace hB1 := hB1.ext hx
       refine id (X_load (p := (ptr b1 (1))) (v := s.uv) T22 rfl (hB1.at1 rfl) ?_)
       exact ⟨Upd.refl _ _, rfl⟩
      refine ⟨.det (fun val => (.int .i64 (((i : Nat) : Int)))), ⟨fun _ _ hv => rfl, fun _ _ _ _ _ => trivial⟩, fun val h_ W hx he => ⟨trivial, ?_⟩, ?_⟩
      ·exact X_move (v := (.int .i64 (((i : Nat) : Int)))) rfl ⟨Upd.refl _ _, rfl⟩
      refine ⟨.det (fun val => (pof s.uv ((((i : Nat) : Int) : Int).toNat * 1))), ⟨fun _ _ hv => rfl, fun _ _ _ _ _ => trivial⟩, fun val h_ W hx he => ⟨trivial, ?_⟩, ?_⟩
      ·replace hx := (Upd.drew _ _).trans hx
       replace hs := hs.ext hx
       refine id (X_idx (v := s.uv) (n := s.us.length) (k := .i64) (i := ((i : Nat) : Int)) S22 rfl hs.1.sv rfl (by omega) (by omega) ?_)
       exact ⟨Upd.refl _ _, rfl⟩
      refine ⟨.det (fun val => (.bool (a))), ⟨fun _ _ hv => rfl, fun _ _ _ _ _ => trivial⟩, fun val h_ W hx he => ⟨trivial, ?_⟩, ?_⟩
      ·replace hx := (Upd.drew _ _).trans hx
       replace hs := hs.ext hx
       refine id (X_load (p := (pof s.uv ((((i : Nat) : Int) : Int).toNat * 1))) (v := .bool a) T4 rfl (bat hs.1 (Int.toNat_natCast _) hai) ?_)
       exact ⟨Upd.refl _ _, rfl⟩
      refine ⟨.det (fun val => (ptr b2 (1))), ⟨fun _ _ hv => rfl, fun _ _ _ _ _ => trivial⟩, fun val h_ W hx he => ⟨trivial, ?_⟩, ?_⟩
      ·exact X_fldP (b := b2) (o := 0) (r := 1) Fd25_1 rfl rfl ⟨Upd.refl _ _, rfl⟩
      refine ⟨.det (fun val => t.uv), ⟨fun _ _ hv => rfl, fun _ _ _ _ _ => trivial⟩, fun val h_ W hx he => ⟨trivial, ?_⟩, ?_⟩
      ·replace hx := (Upd.drew _ _).trans hx
       replace hB2 := hB2.ext hx
       refine id (X_load (p := (ptr b2 (1))) (v := t.uv) T22 rfl (hB2.at1 rfl) ?_)
       exact ⟨Upd.refl _ _, rfl⟩
      refine ⟨.det (fun val => (.int .i64 (((i : Nat) : Int)))), ⟨fun _ _ hv => rfl, fun _ _ _ _ _ => trivial⟩, fun val h_ W hx he => ⟨trivial, ?_⟩, ?_⟩
      ·exact X_move (v := (.int .i64 (((i : Nat) : Int)))) rfl ⟨Upd.refl _ _, rfl⟩
      refine ⟨.det (fun val => (pof t.uv ((((i : Nat) : Int) : Int).toNat * 1))), ⟨fun _ _ hv => rfl, fun _ _ _ _ _ => trivial⟩, fun val h_ W hx he => ⟨trivial, ?_⟩, ?_⟩
      ·replace hx := (Upd.drew _ _).trans hx
       replace ht := ht.ext hx
       refine id (X_idx (v := t.uv) (n := t.us.length) (k := .i64) (i := ((i : Nat) : Int)) S22 rfl ht.1.sv rfl (by omega) (by omega) ?_)
       exact ⟨Upd.refl _ _, rfl⟩
      refine ⟨.det (fun val => (.bool (b))), ⟨fun _ _ hv => rfl, fun _ _ _ _ _ => trivial⟩, fun val h_ W hx he => ⟨trivial, ?_⟩, ?_⟩
      ·replace hx := (Upd.drew _ _).trans hx
       replace ht := ht.ext hx
       refine id (X_load (p := (pof t.uv ((((i : Nat) : Int) : Int).toNat * 1))) (v := .bool b) T4 rfl (bat ht.1 (Int.toNat_natCast _) hbi) ?_)
       exact ⟨Upd.refl _ _, rfl⟩
      intro val W9 hx9 he9
      replace hx9 := (Upd.drew _ _).trans hx9
      have hz9 := hx9.size
      replace hs := hs.ext hx9
      replace ht := ht.ext hx9
      replace hB1 := hB1.ext hx9
      replace hB2 := hB2.ext hx9
      replace hU := hU.trans (Ext.upd hx9)
      refine L_op rfl (X_cmpBool (a := a) (b := b) (r := false) Try.underlying4 rfl rfl (.inr ⟨rfl, by rw [hs8]; rfl⟩) ?_)
      refine L_nil ?_
      refine T_n ?_
      refine W_cf rfl ?_
      refine W_skip ?_
      refine B_n ?_
      refine T_n ?_
      refine W_reg ?_
      refine L_op rfl (X_move (v := (.int .i64 (((i : Nat) : Int)))) rfl ?_)
      refine L_op rfl (X_arith (k := .i64) (a := ((i : Nat) : Int)) (b := 1) (r := ((i + 1 : Nat) : Int)) rfl rfl rfl (iadd64 (by omega) (by omega) (by omega)) ?_)
      refine L_op rfl (X_assign (v := (.int .i64 (((i + 1 : Nat) : Int)))) rfl ?_)
      refine L_nil ?_
      refine T_n ?_
      exact ⟨rfl, i + 1, ⟨⟨by omega, take_same hai hbi hz (beq_iff_eq.1 hs8), hs, ht, hB1, hB2, hU⟩, (by show s.us.length - (i + 1) < s.us.length - i; omega)⟩, (Out.mk rfl), ⟨rfl, trivial⟩⟩
     ·refine W_draw 10 [[], [0], [], [0, 1, 2], [0, 1, 2, 3], [], [5], [], [5, 6, 7], [5, 6, 7, 8], [0, 1, 2, 3, 4, 5, 6, 7, 8, 9]] mixed (by kernel_rfl) ?_
      refine ⟨.det (fun val => (ptr b1 (1))), ⟨fun _ _ hv => rfl, fun _ _ _ _ _ => trivial⟩, fun val h_ W hx he => ⟨trivial, ?_⟩, ?_⟩
      ·exact X_fldP (b := b1) (o := 0) (r := 1) Fd25_1 rfl rfl ⟨Upd.refl _ _, rfl⟩
      refine ⟨.det (fun val => s.uv), ⟨fun _ _ hv => rfl, fun _ _ _ _ _ => trivial⟩, fun val h_ W hx he => ⟨trivial, ?_⟩, ?_⟩
      ·replace hx := (Upd.drew _ _).trans hx
       replace hB1 := hB1.ext hx
       refine id (X_load (p := (ptr b1 (1))) (v := s.uv) T22 rfl (hB1.at1 rfl) ?_)
       exact ⟨Upd.refl _ _, rfl⟩
      refine ⟨.det (fun val => (.int .i64 (((i : Nat) : Int)))), ⟨fun _ _ hv => rfl, fun _ _ _ _ _ => trivial⟩, fun val h_ W hx he => ⟨trivial, ?_⟩, ?_⟩
      ·exact X_move (v := (.int .i64 (((i : Nat) : Int)))) rfl ⟨Upd.refl _ _, rfl⟩
      refine ⟨.det (fun val => (pof s.uv ((((i : Nat) : Int) : Int).toNat * 1))), ⟨fun _ _ hv => rfl, fun _ _ _ _ _ => trivial⟩, fun val h_ W hx he => ⟨trivial, ?_⟩, ?_⟩
      ·replace hx := (Upd.drew _ _).trans hx
       replace hs := hs.ext hx
       refine id (X_idx (v := s.uv) (n := s.us.length) (k := .i64) (i := ((i : Nat) : Int)) S22 rfl hs.1.sv rfl (by omega) (by omega) ?_)
       exact ⟨Upd.refl _ _, rfl⟩
      refine ⟨.det (fun val => (.bool (a))), ⟨fun _ _ hv => rfl, fun _ _ _ _ _ => trivial⟩, fun val h_ W hx he => ⟨trivial, ?_⟩, ?_⟩
      ·replace hx := (Upd.drew _ _).trans hx
       replace hs := hs.ext hx
       refine id (X_load (p := (pof s.uv ((((i : Nat) : Int) : Int).toNat * 1))) (v := .bool a) T4 rfl (bat hs.1 (Int.toNat_natCast _) hai) ?_)
       exact ⟨Upd.refl _ _, rfl⟩
      refine ⟨.det (fun val => (ptr b2 (1))), ⟨fun _ _ hv => rfl, fun _ _ _ _ _ => trivial⟩, fun val h_ W hx he => ⟨trivial, ?_⟩, ?_⟩
      ·exact X_fldP (b := b2) (o := 0) (r := 1) Fd25_1 rfl rfl ⟨Upd.refl _ _, rfl⟩
      refine ⟨.det (fun val => t.uv), ⟨fun _ _ hv => rfl, fun _ _ _ _ _ => trivial⟩, fun val h_ W hx he => ⟨trivial, ?_⟩, ?_⟩
      ·replace hx := (Upd.drew _ _).trans hx
       replace hB2 := hB2.ext hx
       refine id (X_load (p := (ptr b2 (1))) (v := t.uv) T22 rfl (hB2.at1 rfl) ?_)
       exact ⟨Upd.refl _ _, rfl⟩
      refine ⟨.det (fun val => (.int .i64 (((i : Nat) : Int)))), ⟨fun _ _ hv => rfl, fun _ _ _ _ _ => trivial⟩, fun val h_ W hx he => ⟨trivial, ?_⟩, ?_⟩
      ·exact X_move (v := (.int .i64 (((i : Nat) : Int)))) rfl ⟨Upd.refl _ _, rfl⟩
      refine ⟨.det (fun val => (pof t.uv ((((i : Nat) : Int) : Int).toNat * 1))), ⟨fun _ _ hv => rfl, fun _ _ _ _ _ => trivial⟩, fun val h_ W hx he => ⟨trivial, ?_⟩, ?_⟩
      ·replace hx := (Upd.drew _ _).trans hx
       replace ht := ht.ext hx
       refine id (X_idx (v := t.uv) (n := t.us.length) (k := .i64) (i := ((i : Nat) : Int)) S22 rfl ht.1.sv rfl (by omega) (by omega) ?_)
       exact ⟨Upd.refl _ _, rfl⟩
      refine ⟨.det (fun val => (.bool (b))), ⟨fun _ _ hv => rfl, fun _ _ _ _ _ => trivial⟩, fun val h_ W hx he => ⟨trivial, ?_⟩, ?_⟩
      ·replace hx := (Upd.drew _ _).trans hx
       replace ht := ht.ext hx
       refine id (X_load (p := (pof t.uv ((((i : Nat) : Int) : Int).toNat * 1))) (v := .bool b) T4 rfl (bat ht.1 (Int.toNat_natCast _) hbi) ?_)
       exact ⟨Upd.refl _ _, rfl⟩
      intro val W10 hx10 he10
      replace hx10 := (Upd.drew _ _).trans hx10
      have hz10 := hx10.size
      replace hs := hs.ext hx10
      replace ht := ht.ext hx10
      replace hB1 := hB1.ext hx10
      replace hB2 := hB2.ext hx10
      replace hU := hU.trans (Ext.upd hx10)
      refine L_op rfl (X_cmpBool (a := a) (b := b) (r := true) Try.underlying4 rfl rfl (.inr ⟨rfl, by rw [hs8]; rfl⟩) ?_)
      refine L_nil ?_
      refine T_n ?_
      refine W_ct rfl ?_
      refine W_seq ?_
      refine W_reg ?_
      refine L_op rfl (X_assign (v := (.bool (false))) rfl ?_)
      refine L_nil ?_
      refine T_n ?_
      refine W_ret ?_
      refine B_r ?_
      refine T_r ?_
      refine T_r ?_
      refine B_r ?_
      refine T_r ?_
      exact BQ_r (End_1 Try.results20 (v := .bool false) rfl ⟨⟨false, rfl, ⟨fun h_ => (by cases h_), fun h_ => (by exact (not_same hai hbi (fun h2_ => by rw [h2_, beq_self_eq_true] at hs8; cases hs8) h_.2.1).elim)⟩⟩, hU.own hn0⟩)
    ·refine L_op rfl (X_cmp (k := .i64) (a := ((i : Nat) : Int)) (b := ((s.us.length : Nat) : Int)) (r := false) rfl rfl rfl (decide_eq_false (p := ((((i : Nat) : Int)) : Int) < ((((s.us.length : Nat) : Int)) : Int)) (by omega)) ?_)
     have hus : s.us = t.us := take_eq hz (by omega) (by omega)
     refine L_nil ?_
     refine T_n ?_
     refine W_cf rfl ?_
     refine W_exit ?_
     refine T_e ?_
     refine T_e ?_
     refine B_x ?_
     refine T_n ?_
     refine W_seq ?_
     refine W_seq ?_
     refine W_reg ?_
     refine L_op rfl (X_assign (v := (.int .i64 (0))) rfl ?_)
     refine L_nil ?_
     refine T_n ?_
     refine W_block ?_
     refine W_loop (α := Nat) [4, 6, 48, 49, 50, 51, 52, 53, 54, 55, 56, 57, 58, 59, 60, 61, 62, 63, 64, 65] (fun i => [(6, (.int .i64 (((i : Nat) : Int))))]) (fun i w_ => i ≤ s.ls.length ∧ s.ls.take i = t.ls.take i ∧ s.Rd w_ lo up ∧ t.Rd w_ lo2 up2 ∧ Blk w_ b1 #[(.int .i64 (s.sz)), s.uv, s.lv] 25 ∧ Blk w_ b2 #[(.int .i64 (t.sz)), t.uv, t.lv] 25 ∧ Upd (fun i => n0 ≤ i) w w_) (fun i => s.ls.length - i) ⟨rfl, 0, ⟨Nat.zero_le _, rfl, hs, ht, hB1, hB2, hU⟩, Out.refl _ _, ⟨rfl, trivial⟩⟩ ?_
     rintro i w11 _ ⟨hil, hz, hs, ht, hB1, hB2, hU⟩
     have hsz_ := hU.size
     refine W_seq ?_
     refine W_seq ?_
     refine W_reg ?_
     refine L_op rfl (X_move (v := (.int .i64 (((i : Nat) : Int)))) rfl ?_)
     refine L_op rfl (X_fldP (b := b1) (o := 0) (r := 2) Fd25_2 rfl rfl ?_)
     refine L_op rfl (X_load (p := (ptr b1 (2))) (v := s.lv) T23 rfl (hB1.at1 rfl) ?_)
     refine L_op rfl (X_len (v := s.lv) (n := s.ls.length) Try.underlying23 rfl hs.2.sv ?_)
     by_cases hc12 : (((i : Nat) : Int) : Int) < (((s.ls.length : Nat) : Int))
     ·refine L_op rfl (X_cmp (k := .i64) (a := ((i : Nat) : Int)) (b := ((s.ls.length : Nat) : Int)) (r := true) rfl rfl rfl (decide_eq_true (p := ((((i : Nat) : Int)) : Int) < ((((s.ls.length : Nat) : Int)) : Int)) (by omega)) ?_)
      have hi : i < s.ls.length := by omega
      obtain ⟨a, hai⟩ : ∃ a, s.ls[i]? = some a := ⟨_, List.getElem?_eq_getElem hi⟩
      obtain ⟨b, hbi⟩ : ∃ b, t.ls[i]? = some b := ⟨_, List.getElem?_eq_getElem (by omega)⟩
      refine L_nil ?_
      refine T_n ?_
      refine W_ct rfl ?_
      refine W_skip ?_
      refine T_n ?_
      refine W_seq ?_
      refine W_block ?_
      refine W_seq ?_
      rcases Bool.eq_false_or_eq_true ((a.1 == b.1 && a.2 == b.2)) with hs13 | hs13
      ·refine W_draw 10 [[], [0], [], [0, 1, 2], [0, 1, 2, 3], [], [5], [], [5, 6, 7], [5, 6, 7, 8], [0, 1, 2, 3, 4, 5, 6, 7, 8, 9]] mixed (by kernel_rfl) ?_
       refine ⟨.det (fun val => (ptr b1 (2))), ⟨fun _ _ hv => rfl, fun _ _ _ _ _ => trivial⟩, fun val h_ W hx he => ⟨trivial, ?_⟩, ?_⟩
       ·exact X_fldP (b := b1) (o := 0) (r := 2) Fd25_2 rfl rfl ⟨Upd.refl _ _, rfl⟩
       refine ⟨.det (fun val => s.lv), ⟨fun _ _ hv => rfl, fun _ _ _ _ _ => trivial⟩, fun val h_ W hx he => ⟨trivial, ?_⟩, ?_⟩
       ·replace hx := (Upd.drew _ _).trans hx
        replace hB1 := hB1.ext hx
        refine id (X_load (p := (ptr b1 (2))) (v := s.lv) T23 rfl (hB1.at1 rfl) ?_)
        exact ⟨Upd.refl _ _, rfl⟩
       refine ⟨.det (fun val => (.int .i64 (((i : Nat) : Int)))), ⟨fun _ _ hv => rfl, fun _ _ _ _ _ => trivial⟩, fun val h_ W hx he => ⟨trivial, ?_⟩, ?_⟩
       ·exact X_move (v := (.int .i64 (((i : Nat) : Int)))) rfl ⟨Upd.refl _ _, rfl⟩
       refine ⟨.det (fun val => (pof s.lv ((((i : Nat) : Int) : Int).toNat * 2))), ⟨fun _ _ hv => rfl, fun _ _ _ _ _ => trivial⟩, fun val h_ W hx he => ⟨trivial, ?_⟩, ?_⟩
       ·replace hx := (Upd.drew _ _).trans hx
        replace hs := hs.ext hx
        refine id (X_idx (v := s.lv) (n := s.ls.length) (k := .i64) (i := ((i : Nat) : Int)) S23 rfl hs.2.sv rfl (by omega) (by omega) ?_)
        exact ⟨Upd.refl _ _, rfl⟩
       refine ⟨.det (fun val => (.agg (laC a).toArray)), ⟨fun _ _ hv => rfl, fun _ _ _ _ _ => trivial⟩, fun val h_ W hx he => ⟨trivial, ?_⟩, ?_⟩
       ·replace hx := (Upd.drew _ _).trans hx
        replace hs := hs.ext hx
        refine id (X_loadA (p := (pof s.lv ((((i : Nat) : Int) : Int).toNat * 2))) (xs := laC a) A44 rfl (lall hs.2 (Int.toNat_natCast _) hai) rfl ?_)
        exact ⟨Upd.refl _ _, rfl⟩
       refine ⟨.det (fun val => (ptr b2 (2))), ⟨fun _ _ hv => rfl, fun _ _ _ _ _ => trivial⟩, fun val h_ W hx he => ⟨trivial, ?_⟩, ?_⟩
       ·exact X_fldP (b := b2) (o := 0) (r := 2) Fd25_2 rfl rfl ⟨Upd.refl _ _, rfl⟩
       refine ⟨.det (fun val => t.lv), ⟨fun _ _ hv => rfl, fun _ _ _ _ _ => trivial⟩, fun val h_ W hx he => ⟨trivial, ?_⟩, ?_⟩
       ·replace hx := (Upd.drew _ _).trans hx
        replace hB2 := hB2.ext hx
        refine id (X_load (p := (ptr b2 (2))) (v := t.lv) T23 rfl (hB2.at1 rfl) ?_)
        exact ⟨Upd.refl _ _, rfl⟩
       refine ⟨.det (fun val => (.int .i64 (((i : Nat) : Int)))), ⟨fun _ _ hv => rfl, fun _ _ _ _ _ => trivial⟩, fun val h_ W hx he => ⟨trivial, ?_⟩, ?_⟩
       ·exact X_move (v := (.int .i64 (((i : Nat) : Int)))) rfl ⟨Upd.refl _ _, rfl⟩
       refine ⟨.det (fun val => (pof t.lv ((((i : Nat) : Int) : Int).toNat * 2))), ⟨fun _ _ hv => rfl, fun _ _ _ _ _ => trivial⟩, fun val h_ W hx he => ⟨trivial, ?_⟩, ?_⟩
       ·replace hx := (Upd.drew _ _).trans hx
        replace ht := ht.ext hx
        refine id (X_idx (v := t.lv) (n := t.ls.length) (k := .i64) (i := ((i : Nat) : Int)) S23 rfl ht.2.sv rfl (by omega) (by omega) ?_)
        exact ⟨Upd.refl _ _, rfl⟩
       refine ⟨.det (fun val => (.agg (laC b).toArray)), ⟨fun _ _ hv => rfl, fun _ _ _ _ _ => trivial⟩, fun val h_ W hx he => ⟨trivial, ?_⟩, ?_⟩
       ·replace hx := (Upd.drew _ _).trans hx
        replace ht := ht.ext hx
        refine id (X_loadA (p := (pof t.lv ((((i : Nat) : Int) : Int).toNat * 2))) (xs := laC b) A44 rfl (lall ht.2 (Int.toNat_natCast _) hbi) rfl ?_)
        exact ⟨Upd.refl _ _, rfl⟩
       intro val W14 hx14 he14
       replace hx14 := (Upd.drew _ _).trans hx14
       have hz14 := hx14.size
       replace hs := hs.ext hx14
       replace ht := ht.ext hx14
       replace hB1 := hB1.ext hx14
       replace hB2 := hB2.ext hx14
       replace hU := hU.trans (Ext.upd hx14)
       refine L_op rfl (X_eqLa (p := a) (q := b) (r := false) Try.underlying44 (by kernel_rfl) (by kernel_rfl) (by decide) ⟨rfl, rfl⟩ Try.underlying3 Try.underlying26 (by kernel_rfl) rfl rfl (.inr ⟨rfl, by rw [hs13]; rfl⟩) ?_)
       refine L_nil ?_
       refine T_n ?_
       refine W_cf rfl ?_
       refine W_skip ?_
       refine B_n ?_
       refine T_n ?_
       refine W_reg ?_
       refine L_op rfl (X_move (v := (.int .i64 (((i : Nat) : Int)))) rfl ?_)
       refine L_op rfl (X_arith (k := .i64) (a := ((i : Nat) : Int)) (b := 1) (r := ((i + 1 : Nat) : Int)) rfl rfl rfl (iadd64 (by omega) (by omega) (by omega)) ?_)
       refine L_op rfl (X_assign (v := (.int .i64 (((i + 1 : Nat) : Int)))) rfl ?_)
       refine L_nil ?_
       refine T_n ?_
       exact ⟨rfl, i + 1, ⟨⟨by omega, take_same hai hbi hz (la_eq.1 hs13), hs, ht, hB1, hB2, hU⟩, (by show s.ls.length - (i + 1) < s.ls.length - i; omega)⟩, (Out.mk rfl), ⟨rfl, trivial⟩⟩
      ·refine W_draw 10 [[], [0], [], [0, 1, 2], [0, 1, 2, 3], [], [5], [], [5, 6, 7], [5, 6, 7, 8], [0, 1, 2, 3, 4, 5, 6, 7, 8, 9]] mixed (by kernel_rfl) ?_
       refine ⟨.det (fun val => (ptr b1 (2))), ⟨fun _ _ hv => rfl, fun _ _ _ _ _ => trivial⟩, fun val h_ W hx he => ⟨trivial, ?_⟩, ?_⟩
       ·exact X_fldP (b := b1) (o := 0) (r := 2) Fd25_2 rfl rfl ⟨Upd.refl _ _, rfl⟩
       refine ⟨.det (fun val => s.lv), ⟨fun _ _ hv => rfl, fun _ _ _ _ _ => trivial⟩, fun val h_ W hx he => ⟨trivial, ?_⟩, ?_⟩
       ·replace hx := (Upd.drew _ _).trans hx
        replace hB1 := hB1.ext hx
        refine id (X_load (p := (ptr b1 (2))) (v := s.lv) T23 rfl (hB1.at1 rfl) ?_)
        exact ⟨Upd.refl _ _, rfl⟩
       refine ⟨.det (fun val => (.int .i64 (((i : Nat) : Int)))), ⟨fun _ _ hv => rfl, fun _ _ _ _ _ => trivial⟩, fun val h_ W hx he => ⟨trivial, ?_⟩, ?_⟩
       ·exact X_move (v := (.int .i64 (((i : Nat) : Int)))) rfl ⟨Upd.refl _ _, rfl⟩
       refine ⟨.det (fun val => (pof s.lv ((((i : Nat) : Int) : Int).toNat * 2))), ⟨fun _ _ hv => rfl, fun _ _ _ _ _ => trivial⟩, fun val h_ W hx he => ⟨trivial, ?_⟩, ?_⟩
       ·replace hx := (Upd.drew _ _).trans hx
        replace hs := hs.ext hx
        refine id (X_idx (v := s.lv) (n := s.ls.length) (k := .i64) (i := ((i : Nat) : Int)) S23 rfl hs.2.sv rfl (by omega) (by omega) ?_)
        exact ⟨Upd.refl _ _, rfl⟩
       refine ⟨.det (fun val => (.agg (laC a).toArray)), ⟨fun _ _ hv => rfl, fun _ _ _ _ _ => trivial⟩, fun val h_ W hx he => ⟨trivial, ?_⟩, ?_⟩
       ·replace hx := (Upd.drew _ _).trans hx
        replace hs := hs.ext hx
        refine id (X_loadA (p := (pof s.lv ((((i : Nat) : Int) : Int).toNat * 2))) (xs := laC a) A44 rfl (lall hs.2 (Int.toNat_natCast _) hai) rfl ?_)
        exact ⟨Upd.refl _ _, rfl⟩
       refine ⟨.det (fun val => (ptr b2 (2))), ⟨fun _ _ hv => rfl, fun _ _ _ _ _ => trivial⟩, fun val h_ W hx he => ⟨trivial, ?_⟩, ?_⟩
       ·exact X_fldP (b := b2) (o := 0) (r := 2) Fd25_2 rfl rfl ⟨Upd.refl _ _, rfl⟩
       refine ⟨.det (fun val => t.lv), ⟨fun _ _ hv => rfl, fun _ _ _ _ _ => trivial⟩, fun val h_ W hx he => ⟨trivial, ?_⟩, ?_⟩
       ·replace hx := (Upd.drew _ _).trans hx
        replace hB2 := hB2.ext hx
        refine id (X_load (p := (ptr b2 (2))) (v := t.lv) T23 rfl (hB2.at1 rfl) ?_)
        exact ⟨Upd.refl _ _, rfl⟩
       refine ⟨.det (fun val => (.int .i64 (((i : Nat) : Int)))), ⟨fun _ _ hv => rfl, fun _ _ _ _ _ => trivial⟩, fun val h_ W hx he => ⟨trivial, ?_⟩, ?_⟩
       ·exact X_move (v := (.int .i64 (((i : Nat) : Int)))) rfl ⟨Upd.refl _ _, rfl⟩
       refine ⟨.det (fun val => (pof t.lv ((((i : Nat) : Int) : Int).toNat * 2))), ⟨fun _ _ hv => rfl, fun _ _ _ _ _ => trivial⟩, fun val h_ W hx he => ⟨trivial, ?_⟩, ?_⟩
       ·replace hx := (Upd.drew _ _).trans hx
        replace ht := ht.ext hx
        refine id (X_idx (v := t.lv) (n := t.ls.length) (k := .i64) (i := ((i : Nat) : Int)) S23 rfl ht.2.sv rfl (by omega) (by omega) ?_)
        exact ⟨Upd.refl _ _, rfl⟩
       refine ⟨.det (fun val => (.agg (laC b).toArray)), ⟨fun _ _ hv => rfl, fun _ _ _ _ _ => trivial⟩, fun val h_ W hx he => ⟨trivial, ?_⟩, ?_⟩
       ·replace hx := (Upd.drew _ _).trans hx
        replace ht := ht.ext hx
        refine id (X_loadA (p := (pof t.lv ((((i : Nat) : Int) : Int).toNat * 2))) (xs := laC b) A44 rfl (lall ht.2 (Int.toNat_natCast _) hbi) rfl ?_)
        exact ⟨Upd.refl _ _, rfl⟩
       intro val W15 hx15 he15
       replace hx15 := (Upd.drew _ _).trans hx15
       have hz15 := hx15.size
       replace hs := hs.ext hx15
       replace ht := ht.ext hx15
       replace hB1 := hB1.ext hx15
       replace hB2 := hB2.ext hx15
       replace hU := hU.trans (Ext.upd hx15)
       refine L_op rfl (X_eqLa (p := a) (q := b) (r := true) Try.underlying44 (by kernel_rfl) (by kernel_rfl) (by decide) ⟨rfl, rfl⟩ Try.underlying3 Try.underlying26 (by kernel_rfl) rfl rfl (.inr ⟨rfl, by rw [hs13]; rfl⟩) ?_)
       refine L_nil ?_
       refine T_n ?_
       refine W_ct rfl ?_
       refine W_seq ?_
       refine W_reg ?_
       refine L_op rfl (X_assign (v := (.bool (false))) rfl ?_)
       refine L_nil ?_
       refine T_n ?_
       refine W_ret ?_
       refine B_r ?_
       refine T_r ?_
       refine T_r ?_
       refine B_r ?_
       refine T_r ?_
       exact BQ_r (End_1 Try.results20 (v := .bool false) rfl ⟨⟨false, rfl, ⟨fun h_ => (by cases h_), fun h_ => (by exact (not_same hai hbi (fun h2_ => by rw [la_eq.2 h2_] at hs13; cases hs13) h_.2.2).elim)⟩⟩, hU.own hn0⟩)
     ·refine L_op rfl (X_cmp (k := .i64) (a := ((i : Nat) : Int)) (b := ((s.ls.length : Nat) : Int)) (r := false) rfl rfl rfl (decide_eq_false (p := ((((i : Nat) : Int)) : Int) < ((((s.ls.length : Nat) : Int)) : Int)) (by omega)) ?_)
      refine L_nil ?_
      refine T_n ?_
      refine W_cf rfl ?_
      refine W_exit ?_
      refine T_e ?_
      refine T_e ?_
      refine B_x ?_
      refine T_n ?_
      refine W_seq ?_
      refine W_reg ?_
      refine L_op rfl (X_assign (v := (.bool (true))) rfl ?_)
      refine L_nil ?_
      refine T_n ?_
      refine W_ret ?_
      exact BQ_r (End_1 Try.results20 (v := .bool true) rfl ⟨⟨true, rfl, ⟨fun _ => ⟨by omega, hus, take_eq hz (by omega) (by omega)⟩, fun _ => rfl⟩⟩, hU.own hn0⟩)

theorem c_sameL (s t : Sp) (w : World) (lo up lo2 up2 : Nat) (hs : s.Rd w lo up) (ht : t.Rd w lo2 up2) : CT Try.prog 10 #[(.agg #[(.int .i64 (s.sz)), s.uv, s.lv]), (.agg #[(.int .i64 (t.sz)), t.uv, t.lv])] w fun v w' => (∃ g, v = .bool g ∧ (g = true ↔ s.sz = t.sz ∧ s.us = t.us ∧ s.ls = t.ls)) ∧ Ext w w' := by
 obtain ⟨n0, hn0⟩ : ∃ n, n = w.heap.size := ⟨_, rfl⟩
 have hU : Upd (fun i => n0 ≤ i) w w := Upd.refl _ _
 refine CT_of Try.func10 rfl rfl rfl ?_
 refine W_seq ?_
 refine W_reg ?_
 refine L_op rfl (X_box (v := (.agg #[(.int .i64 (s.sz)), s.uv, s.lv])) (c := ([(.int .i64 (s.sz)), s.uv, s.lv]).toArray) rfl rfl ?_)
 intro b1 w1 hn1
 have hbn1 := hn1.num; have hbs1 := hn1.size
 replace hs := hs.ext hn1.ext
 replace hU := hU.trans (Ext.upd hn1.ext)
 replace ht := ht.ext hn1.ext
 have hB1 := hn1.blk
 refine L_op rfl (X_box (v := (.agg #[(.int .i64 (t.sz)), t.uv, t.lv])) (c := ([(.int .i64 (t.sz)), t.uv, t.lv]).toArray) rfl rfl ?_)
 intro b2 w2 hn2
 have hbn2 := hn2.num; have hbs2 := hn2.size
 replace hs := hs.ext hn2.ext
 replace hU := hU.trans (Ext.upd hn2.ext)
 replace ht := ht.ext hn2.ext
 replace hB1 := hB1.ext hn2.ext
 have hB2 := hn2.blk
 refine L_op rfl (X_assign (v := (.bool (false))) rfl ?_)
 refine L_nil ?_
 refine T_n ?_
 refine W_seq ?_
 refine W_reg ?_
 refine L_op rfl (X_loadA (p := (ptr b1 (0))) (xs := [(.int .i64 (s.sz)), s.uv, s.lv]) A25 rfl hB1.atAll rfl ?_)
 refine L_op rfl (X_loadA (p := (ptr b2 (0))) (xs := [(.int .i64 (t.sz)), t.uv, t.lv]) A25 rfl hB2.atAll rfl ?_)
 have hcr_ := c_same s t w2 lo up lo2 up2 hs ht
 refine L_op rfl (X_fn (vs := [(.agg ([(.int .i64 (s.sz)), s.uv, s.lv]).toArray), (.agg ([(.int .i64 (t.sz)), t.uv, t.lv]).toArray)]) en20 rfl ?_)
 refine CT.mono hcr_ ?_
 clear hcr_
 rintro _ w3 ⟨⟨g_, rfl, hg_⟩, hu3⟩
 have hz3 := hu3.size
 replace hs := hs.ext hu3
 replace hU := hU.trans (Ext.upd hu3)
 replace ht := ht.ext hu3
 replace hB1 := hB1.ext hu3
 replace hB2 := hB2.ext hu3
 refine L_op rfl (X_assign (v := (.bool (g_))) rfl ?_)
 refine L_nil ?_
 refine T_n ?_
 refine W_ret ?_
 exact BQ_r (End_1 Try.results10 (v := .bool g_) rfl ⟨⟨g_, rfl, hg_⟩, hU.own hn0⟩)
end Go.Proofs.Ytmaikcnjgkoghaa
