/-
  The references of chapter 03: Waits. (Printed by wip/gen/t03q.py of this repo.)
-/
import Derived.Test.YthongcaijgfojaaTellsA
import Derived.Test.YthongcaijgfojaaWaitsLaw
import Derived.Test.YthongcaijgfojaaBaseWT
namespace Go.Proofs.Ythongcaijgfojaa
open Go Go.SL Go.Proofs
set_option linter.unusedVariables false

theorem ins_lt {us : List Int} {k : Nat} {x : Int} (hp : us.Pairwise (· < ·)) (h1 : ∀ (j : Nat) (a : Int), j < k → us[j]? = some a → a < x) (h2 : ∀ a : Int, us[k]? = some a → x < a) : (us.take k ++ x :: us.drop k).Pairwise (· < ·) := by
  have hl : ∀ a ∈ us.take k, a < x := fun a ha => by
    obtain ⟨j, hj, rfl⟩ := List.getElem_of_mem ha
    rw [List.length_take] at hj
    exact h1 j _ (by omega) (by rw [List.getElem_take]; exact List.getElem?_eq_getElem (by omega))
  have hr : ∀ b ∈ us.drop k, x < b := fun b hb => by
    obtain ⟨j, hj, rfl⟩ := List.getElem_of_mem hb
    rw [List.length_drop] at hj
    rw [List.getElem_drop]
    have h3 := h2 _ (List.getElem?_eq_getElem (show k < us.length by omega))
    rcases Nat.eq_zero_or_pos j with h0 | h0
    · subst h0; exact h3
    · have h4 := (List.pairwise_iff_getElem.1 hp) k (k + j) (by omega) (by omega) (by omega)
      omega
  refine List.pairwise_append.2 ⟨hp.sublist (List.take_sublist _ _), List.pairwise_cons.2 ⟨hr, hp.sublist (List.drop_sublist _ _)⟩, fun a ha b hb => ?_⟩
  rcases List.mem_cons.1 hb with rfl | hb
  · exact hl a ha
  · have := hl a ha; have := hr b hb; omega
theorem ins_mem {us : List Int} {k : Nat} {x y : Int} : y ∈ us.take k ++ x :: us.drop k ↔ y ∈ us ∨ y = x := by
  have h : y ∈ us ↔ y ∈ us.take k ∨ y ∈ us.drop k := by
    rw [← List.mem_append, List.take_append_drop]
  rw [List.mem_append, List.mem_cons, h]
  constructor
  · rintro (h | h | h)
    · exact .inl (.inl h)
    · exact .inr h
    · exact .inl (.inr h)
  · rintro ((h | h) | h)
    · exact .inl h
    · exact .inr (.inr h)
    · exact .inr (.inl h)
theorem fst_mem {cs : List Wr} {i : Nat} {e : Wr} (h : cs[i]? = some e) (y : Int) : y ∈ fstW (cs.take (i + 1)) ↔ y ∈ fstW (cs.take i) ∨ y = e.1 := by rw [fstW_step h, List.mem_append, List.mem_singleton]
theorem liN (l : List Int) : (l.flatMap LI.cel).length = l.length := by rw [flat_len]; exact Nat.mul_one _
theorem li_ins (us : List Int) (k : Nat) (x : Int) : ((us.take k ++ [x]).flatMap LI.cel) ++ (((us.drop k).take (us.length - k)).flatMap LI.cel) = (us.take k ++ x :: us.drop k).flatMap LI.cel := by
  rw [← List.flatMap_append, List.take_of_length_le (l := us.drop k) (by rw [List.length_drop]; exact Nat.le_refl _), List.append_assoc]; rfl
theorem li_insn (us : List Int) (k : Nat) (x : Int) : (us.take k ++ [x]).length + (us.length - k) = (us.take k ++ x :: us.drop k).length := by
  simp only [List.length_append, List.length_cons, List.length_nil, List.length_drop]; omega
theorem li_len (us : List Int) (k : Nat) (x : Int) : (us.take k ++ x :: us.drop k).length = us.length + 1 := by
  simp only [List.length_append, List.length_cons, List.length_take, List.length_drop]; omega
theorem li_cut {w : World} {u : Value} {us : List Int} (h : Rd w 1 u us.length (us.flatMap LI.cel)) {a b : Nat} (h1 : a ≤ b) (h2 : b ≤ us.length) : Rd w 1 (cutv u 1 a b) (b - a) (((us.drop a).take (b - a)).flatMap LI.cel) := by
  refine (h.cut h1 h2).eq rfl ?_
  rw [liFst, liFst, Nat.mul_one, Nat.mul_one, List.map_take, List.map_drop]

theorem intV_one (l : List Int) : ∀ u ∈ l.map intV, u.oneCell' = true := by
  intro u hu; obtain ⟨x, _, rfl⟩ := List.mem_map.1 hu; rfl

theorem c_waitsR (pv cv bv : Value) (ps : List Pg) (cs : List Wr) (bs : List Int) (off : Bool) (w : World) (lo up : Nat) (hup : up ≤ w.heap.size) (hp : NRd LP w lo up pv ps) (hc : NRd LW w lo up cv cs) (hb : NRd LI w lo up bv bs) (hcL : cs.length ≤ 1048576) : CT Try.prog 25 #[(.agg #[pv, cv, bv, (.bool (off))])] w fun v w' => ∃ ds, NOwn LI w' 3 5 w.heap.size w'.heap.size v ds ∧ ds = waitsW cs ∧ Ext w w' := by
  obtain ⟨n0, hn0⟩ : ∃ n, n = w.heap.size := ⟨_, rfl⟩
  have hU : Upd (fun i => n0 ≤ i) w w := Upd.refl _ _
  have hpl := hp.sv.len
  have hcl := hc.sv.len
  have hbl := hb.sv.len
  rw [← hn0] at hup
  refine CT_of Try.func25 rfl rfl rfl ?_
  refine W_seq ?_
  refine W_reg ?_
  refine L_op rfl (X_box (v := (.agg #[pv, cv, bv, (.bool (off))])) (c := ([pv, cv, bv, (.bool (off))]).toArray) rfl rfl ?_)
  intro b1 w1 hn1
  have hbn1 := hn1.num; have hbs1 := hn1.size
  replace hp := hp.ext hn1.ext
  replace hc := hc.ext hn1.ext
  replace hb := hb.ext hn1.ext
  replace hU := hU.trans (Ext.upd hn1.ext)
  have hB1 := hn1.blk
  refine L_op rfl (X_assign (v := (.slice none 0 0)) rfl ?_)
  refine L_nil ?_
  refine T_n ?_
  refine W_seq ?_
  refine W_reg ?_
  refine L_op rfl (X_assign (v := (.slice none 0 0)) rfl ?_)
  refine L_nil ?_
  refine T_n ?_
  refine W_seq ?_
  refine W_seq ?_
  refine W_reg ?_
  refine L_op rfl (X_assign (v := (.int .i64 (0))) rfl ?_)
  refine L_nil ?_
  refine T_n ?_
  refine W_block ?_
  refine W_loop (α := Nat × Value × List Int) [3, 4, 5, 6, 7, 8, 9, 10, 11, 12, 13, 14, 15, 16, 17, 18, 19, 20, 21, 22, 23, 24, 25, 26, 27, 28, 29, 30, 31, 32, 33, 34, 35, 36, 37, 38, 39, 40, 41, 42, 43, 44, 45, 46, 47, 48, 49, 50, 51, 52, 53, 54, 55, 56, 57] (fun ⟨i, u, us⟩ => [(4, (.int .i64 (((i : Nat) : Int)))), (3, u)]) (fun ⟨i, u, us⟩ w_ => i ≤ cs.length ∧ NOwn LI w_ 3 5 n0 w_.heap.size u us ∧ us.Pairwise (· < ·) ∧ us.length ≤ i ∧ (∀ y, y ∈ us ↔ y ∈ fstW (cs.take i)) ∧ NRd LW w_ lo up cv cs ∧ Blk w_ b1 #[pv, cv, bv, .bool off] 26 ∧ Upd (fun i => n0 ≤ i) w w_) (fun ⟨i, u, us⟩ => cs.length - i) ⟨rfl, (0, .slice none 0 0, []), ⟨Nat.zero_le _, NOwn.nil _ _ _ _ _, List.Pairwise.nil, Nat.le_refl _, fun y => Iff.rfl, hc, hB1, hU⟩, Out.refl _ _, ⟨rfl, rfl, trivial⟩⟩ ?_
  rintro ⟨i, u, us⟩ w2 _ ⟨hil, hN, hpw, hul, hmem, hc, hB1, hU⟩
  have hsz_ := hU.size
  have hb1l := hB1.lt
  obtain ⟨s9, hs9⟩ : ∃ n, n = w2.heap.size := ⟨_, rfl⟩
  rw [← hs9] at hN
  refine W_seq ?_
  refine W_seq ?_
  refine W_reg ?_
  refine L_op rfl (X_move (v := (.int .i64 (((i : Nat) : Int)))) rfl ?_)
  refine L_op rfl (X_fldP (b := b1) (o := 0) (r := 1) Fd26_1 rfl rfl ?_)
  refine L_op rfl (X_load (p := (ptr b1 (1))) (v := cv) T23 rfl (hB1.at1 rfl) ?_)
  refine L_op rfl (X_len (v := cv) (n := cs.length) Try.underlying23 rfl hc.sv ?_)
  by_cases hc3 : (((i : Nat) : Int) : Int) < (((cs.length : Nat) : Int))
  · refine L_op rfl (X_cmp (k := .i64) (a := ((i : Nat) : Int)) (b := ((cs.length : Nat) : Int)) (r := true) rfl rfl rfl (decide_eq_true (p := ((((i : Nat) : Int)) : Int) < ((((cs.length : Nat) : Int)) : Int)) (by omega)) ?_)
    have hi : i < cs.length := by omega
    obtain ⟨e, hei⟩ : ∃ e, cs[i]? = some e := ⟨_, List.getElem?_eq_getElem hi⟩
    refine L_nil ?_
    refine T_n ?_
    refine W_ct rfl ?_
    refine W_skip ?_
    refine T_n ?_
    refine W_seq ?_
    refine W_block ?_
    refine W_seq ?_
    refine W_reg ?_
    refine L_op rfl (X_fldP (b := b1) (o := 0) (r := 1) Fd26_1 rfl rfl ?_)
    refine L_op rfl (X_load (p := (ptr b1 (1))) (v := cv) T23 rfl (hB1.at1 rfl) ?_)
    refine L_op rfl (X_move (v := (.int .i64 (((i : Nat) : Int)))) rfl ?_)
    refine L_op rfl (X_idx (v := cv) (n := cs.length) (k := .i64) (i := ((i : Nat) : Int)) S23 rfl hc.sv rfl (by omega) (by omega) ?_)
    refine L_op rfl (X_fldS (v := cv) (o := (((i : Nat) : Int) : Int).toNat * 257) Fd43_0 rfl hc.sv (by omega) ?_)
    refine L_op rfl (X_load (v := .int .i64 e.1) T3 rfl (wat hc (Int.toNat_natCast _) hei) ?_)
    refine L_op rfl (X_assign (v := (.int .i64 (e.1))) rfl ?_)
    refine L_nil ?_
    refine T_n ?_
    refine W_seq ?_
    refine W_reg ?_
    refine L_op rfl (X_assign (v := (.int .i64 (0))) rfl ?_)
    refine L_nil ?_
    refine T_n ?_
    refine W_seq ?_
    refine W_block ?_
    refine W_loop (α := Nat) [6, 20, 21, 22, 23, 24, 25, 26, 27, 28, 29, 30, 31, 32, 33] (fun k => [(6, (.int .i64 (((k : Nat) : Int))))]) (fun k w_ => w2 = w_ ∧ k ≤ us.length ∧ ∀ (j : Nat) (a : Int), j < k → us[j]? = some a → a < e.1) (fun k => us.length - k) ⟨rfl, 0, ⟨rfl, Nat.zero_le _, fun j a h => absurd h (Nat.not_lt_zero j)⟩, Out.refl _ _, ⟨rfl, trivial⟩⟩ ?_
    rintro k w4 _ ⟨rfl, hkl, hlt⟩
    refine W_seq ?_
    refine W_seq ?_
    refine W_reg ?_
    refine L_op rfl (X_move (v := (.int .i64 (((k : Nat) : Int)))) rfl ?_)
    refine L_op rfl (X_move (v := u) rfl ?_)
    refine L_op rfl (X_len (v := u) (n := us.length) Try.underlying24 rfl hN.1.sv ?_)
    by_cases hc5 : (((k : Nat) : Int) : Int) < (((us.length : Nat) : Int))
    · refine L_op rfl (X_cmp (k := .i64) (a := ((k : Nat) : Int)) (b := ((us.length : Nat) : Int)) (r := true) rfl rfl rfl (decide_eq_true (p := ((((k : Nat) : Int)) : Int) < ((((us.length : Nat) : Int)) : Int)) (by omega)) ?_)
      have hk : k < us.length := by omega
      obtain ⟨a, hak⟩ : ∃ a, us[k]? = some a := ⟨_, List.getElem?_eq_getElem hk⟩
      refine L_op rfl (X_move (v := (.bool (true))) rfl ?_)
      refine L_gy (dj := 24) rfl rfl rfl (X_move (v := u) rfl ?_)
      refine L_gy (dj := 24) rfl rfl rfl (X_move (v := (.int .i64 (((k : Nat) : Int)))) rfl ?_)
      refine L_gy (dj := 24) rfl rfl rfl (X_idx (v := u) (n := us.length) (k := .i64) (i := ((k : Nat) : Int)) S24 rfl hN.1.sv rfl (by omega) (by omega) ?_)
      refine L_gy (dj := 24) rfl rfl rfl (X_load (v := .int .i64 a) T3 rfl (iat hN.rd (Int.toNat_natCast _) hak) ?_)
      refine L_gy (dj := 24) rfl rfl rfl (X_move (v := (.int .i64 (e.1))) rfl ?_)
      by_cases hc6 : (a : Int) < (e.1)
      · refine L_gy (dj := 24) rfl rfl rfl (X_cmp (k := .i64) (a := a) (b := e.1) (r := true) rfl rfl rfl (decide_eq_true (p := ((a) : Int) < ((e.1) : Int)) (by omega)) ?_)
        refine L_op rfl (X_pick (t := true) (v := (.bool (true))) rfl rfl ?_)
        refine L_nil ?_
        refine T_n ?_
        refine W_ct rfl ?_
        refine W_skip ?_
        refine T_n ?_
        refine W_block ?_
        refine W_reg ?_
        refine L_op rfl (X_move (v := (.int .i64 (((k : Nat) : Int)))) rfl ?_)
        refine L_op rfl (X_arith (k := .i64) (a := ((k : Nat) : Int)) (b := 1) (r := ((k + 1 : Nat) : Int)) rfl rfl rfl (iadd64 (by omega) (by omega) (by omega)) ?_)
        refine L_op rfl (X_assign (v := (.int .i64 (((k + 1 : Nat) : Int)))) rfl ?_)
        refine L_nil ?_
        refine B_n ?_
        refine T_n ?_
        exact ⟨rfl, k + 1, ⟨⟨rfl, hk, fun j a2 h1 h2 => (Nat.lt_or_ge j k).elim (fun h3 => hlt j a2 h3 h2) fun h3 => (by obtain rfl : j = k := by { omega }; rw [hak] at h2; cases h2; omega)⟩, (by show us.length - (k + 1) < us.length - k; omega)⟩, (Out.mk rfl), ⟨rfl, trivial⟩⟩
      · refine L_gy (dj := 24) rfl rfl rfl (X_cmp (k := .i64) (a := a) (b := e.1) (r := false) rfl rfl rfl (decide_eq_false (p := ((a) : Int) < ((e.1) : Int)) (by omega)) ?_)
        refine L_op rfl (X_pick (t := true) (v := (.bool (false))) rfl rfl ?_)
        refine L_nil ?_
        refine T_n ?_
        refine W_cf rfl ?_
        refine W_exit ?_
        refine T_e ?_
        refine T_e ?_
        refine B_x ?_
        refine T_n ?_
        refine W_seq ?_
        refine W_reg ?_
        refine L_op rfl (X_move (v := (.int .i64 (((k : Nat) : Int)))) rfl ?_)
        refine L_op rfl (X_move (v := u) rfl ?_)
        refine L_op rfl (X_len (v := u) (n := us.length) Try.underlying24 rfl hN.1.sv ?_)
        refine L_op rfl (X_cmp (k := .i64) (a := ((k : Nat) : Int)) (b := ((us.length : Nat) : Int)) (r := false) rfl rfl rfl (decide_eq_false (p := ((((k : Nat) : Int)) : Int) = ((((us.length : Nat) : Int)) : Int)) (by omega)) ?_)
        refine L_op rfl (X_move (v := (.bool (false))) rfl ?_)
        refine L_gy (dj := 38) rfl rfl rfl (X_move (v := u) rfl ?_)
        refine L_gy (dj := 38) rfl rfl rfl (X_move (v := (.int .i64 (((k : Nat) : Int)))) rfl ?_)
        refine L_gy (dj := 38) rfl rfl rfl (X_idx (v := u) (n := us.length) (k := .i64) (i := ((k : Nat) : Int)) S24 rfl hN.1.sv rfl (by omega) (by omega) ?_)
        refine L_gy (dj := 38) rfl rfl rfl (X_load (v := .int .i64 a) T3 rfl (iat hN.rd (Int.toNat_natCast _) hak) ?_)
        refine L_gy (dj := 38) rfl rfl rfl (X_move (v := (.int .i64 (e.1))) rfl ?_)
        by_cases hc7 : (a : Int) ≠ (e.1)
        · refine L_gy (dj := 38) rfl rfl rfl (X_cmp (k := .i64) (a := a) (b := e.1) (r := true) rfl rfl rfl (decide_eq_true (p := ((a) : Int) ≠ ((e.1) : Int)) (by omega)) ?_)
          refine L_op rfl (X_pick (t := false) (v := (.bool (true))) rfl rfl ?_)
          refine L_nil ?_
          refine T_n ?_
          refine W_ct rfl ?_
          obtain ⟨s0, hs0⟩ : ∃ n, n = w2.heap.size := ⟨_, rfl⟩
          have hu_b : ∀ b, obk u = some b → b < s9 := fun b hb => hN.2.1 b hb
          refine W_drawT 11 [[], [], [], [1, 2], [0, 1, 2, 3], [], [5], [0, 1, 2, 3, 4, 5, 6], [], [], [8, 9], [0, 1, 2, 3, 4, 5, 6, 7, 8, 9, 10], [0, 1, 2, 3, 4, 5, 6, 7, 8, 9, 10, 11]] [[], [], [], [1, 2], [0, 1, 2, 3], [], [5], [0, 1, 2, 3, 4, 5, 6], [], [], [8, 9]] [0, 1, 2, 3, 5, 7, 8, 9, 10] [[], [], [], [], [], [], [], [4, 6], [], [], []] (fun j b => (j = 7 ∧ s0 ≤ b)) mixed (by kernel_rfl) (by decide) ?_
          refine ⟨.abs (fun _ x_ _ => ∃ b, x_ = .slice (some ⟨b, 0, none⟩) 0 0), ⟨fun _ _ _ => rfl, fun _ _ _ _ _ h => h⟩, fun val h_ W hx he => ⟨trivial, ?_⟩, ?_⟩
          · replace hx := (Upd.drew _ _).trans hx
            replace hx : Upd (fun b => False) w2 W := hx.mono fun b _ h_ => by obtain ⟨j, _, hne, hm_, hS⟩ := h_; obtain ⟨rfl, hS⟩ := hS; exact absurd hm_ (by decide)
            replace hN := hN.ext hx
            replace hc := hc.ext hx
            replace hB1 := hB1.ext hx
            have hE := Upd.refl (fun _ => False) W
            refine X_buildSlice1 (vs := []) S24 (by decide) rfl rfl (fun _ h => by cases h) ?_
            intro b w2 hn
            exact ⟨Ext.upd hn.ext, b, rfl⟩
          refine ⟨.det (fun val => u), ⟨fun _ _ hv => rfl, fun _ _ _ _ _ => trivial⟩, fun val h_ W hx he => ⟨trivial, ?_⟩, ?_⟩
          · replace hx := (Upd.drew _ _).trans hx
            replace hx : Upd (fun b => False) w2 W := hx.mono fun b _ h_ => by obtain ⟨j, _, hne, hm_, hS⟩ := h_; obtain ⟨rfl, hS⟩ := hS; exact absurd hm_ (by decide)
            replace hN := hN.ext hx
            replace hc := hc.ext hx
            replace hB1 := hB1.ext hx
            have hE := Upd.refl (fun _ => False) W
            refine id (X_move (v := u) rfl ?_)
            exact ⟨Ext.upd hE, rfl⟩
          refine ⟨.det (fun val => (.int .i64 (((k : Nat) : Int)))), ⟨fun _ _ hv => rfl, fun _ _ _ _ _ => trivial⟩, fun val h_ W hx he => ⟨trivial, ?_⟩, ?_⟩
          · replace hx := (Upd.drew _ _).trans hx
            replace hx : Upd (fun b => False) w2 W := hx.mono fun b _ h_ => by obtain ⟨j, _, hne, hm_, hS⟩ := h_; obtain ⟨rfl, hS⟩ := hS; exact absurd hm_ (by decide)
            replace hN := hN.ext hx
            replace hc := hc.ext hx
            replace hB1 := hB1.ext hx
            have hE := Upd.refl (fun _ => False) W
            refine id (X_move (v := (.int .i64 (((k : Nat) : Int)))) rfl ?_)
            exact ⟨Ext.upd hE, rfl⟩
          refine ⟨.det (fun _ => cutv u 1 0 k), ⟨fun _ _ _ => rfl, fun _ _ _ _ _ => trivial⟩, fun val h_ W hx he => ⟨trivial, ?_⟩, ?_⟩
          · replace hx := (Upd.drew _ _).trans hx
            replace hx : Upd (fun b => False) w2 W := hx.mono fun b _ h_ => by obtain ⟨j, _, hne, hm_, hS⟩ := h_; obtain ⟨rfl, hS⟩ := hS; exact absurd hm_ (by decide)
            replace hN := hN.ext hx
            replace hc := hc.ext hx
            replace hB1 := hB1.ext hx
            have hE := Upd.refl (fun _ => False) W
            refine id (X_slice (n := us.length) (l := 0) (h' := k) (kl := .i64) (kh := .i64) S24 rfl hN.1.sv rfl rfl (Nat.zero_le _) hkl ?_)
            exact ⟨Ext.upd hE, rfl⟩
          refine ⟨.abs (fun _ x_ W_ => Own W_ s0 3 1 x_ (us.take k).length ((us.take k).flatMap LI.cel)), ⟨fun _ _ _ => rfl, fun _ _ _ _ hu0 h => have hu : Upd (fun b => False) _ _ := hu0.mono fun b _ h_ => (by obtain ⟨j, _, hne, hm_, hk_, hS⟩ := h_; obtain ⟨rfl, hS⟩ := hS; exact absurd hk_ (by decide))
             (by have h2 := Own.ext h hu; exact h2)⟩, fun val h_ W hx he => ⟨trivial, ?_⟩, ?_⟩
          · replace hx := (Upd.drew _ _).trans hx
            replace hx : Upd (fun b => False) w2 W := hx.mono fun b _ h_ => by obtain ⟨j, _, hne, hm_, hS⟩ := h_; obtain ⟨rfl, hS⟩ := hS; exact absurd hm_ (by decide)
            replace hN := hN.ext hx
            replace hc := hc.ext hx
            replace hB1 := hB1.ext hx
            have hE := Upd.refl (fun _ => False) W
            have hxs := hx.size
            obtain ⟨⟨bz, hbz⟩, _⟩ := he
            have hcut := li_cut hN.1.rd (Nat.zero_le k) hkl
            refine X_append (B := s0) (n := 0) (s := val 0) (x := cutv u 1 0 k) S24 ⟨_, Try.underlying24⟩ rfl rfl (xs := []) (by rw [hbz]; exact Own.zero _ _ _ _ _) hcut (by rw [liFst]; exact intV_one _) (by unfold maxLen; omega) (by omega) (by omega) ?_
            intro v5 w5 hO5 hu5 _
            rw [hbz] at hu5
            exact ⟨Ext.upd hu5.nobk, hO5.eq (by rw [List.length_take]; omega) (by rw [List.nil_append, List.drop_zero, Nat.sub_zero])⟩
          refine ⟨.det (fun val => (.int .i64 (e.1))), ⟨fun _ _ hv => rfl, fun _ _ _ _ _ => trivial⟩, fun val h_ W hx he => ⟨trivial, ?_⟩, ?_⟩
          · replace hx := (Upd.drew _ _).trans hx
            replace hx : Upd (fun b => False) w2 W := hx.mono fun b _ h_ => by obtain ⟨j, _, hne, hm_, hS⟩ := h_; obtain ⟨rfl, hS⟩ := hS; exact absurd hm_ (by decide)
            replace hN := hN.ext hx
            replace hc := hc.ext hx
            replace hB1 := hB1.ext hx
            have hE := Upd.refl (fun _ => False) W
            refine id (X_move (v := (.int .i64 (e.1))) rfl ?_)
            exact ⟨Ext.upd hE, rfl⟩
          refine ⟨.abs (fun _ x_ W_ => ∃ b, x_ = .slice (some ⟨b, 0, none⟩) 1 1 ∧ Blk W_ b #[.int .i64 e.1] 3), ⟨fun _ _ _ => rfl, fun _ _ _ _ hu0 h => have hu : Upd (fun b => False) _ _ := hu0.mono fun b _ h_ => (by obtain ⟨j, _, hne, hm_, hk_, hS⟩ := h_; obtain ⟨rfl, hS⟩ := hS; exact absurd hk_ (by decide))
             (by obtain ⟨b, e1, e2⟩ := h; exact ⟨b, e1, e2.ext hu⟩)⟩, fun val h_ W hx he => ⟨trivial, ?_⟩, ?_⟩
          · replace hx := (Upd.drew _ _).trans hx
            replace hx : Upd (fun b => False) w2 W := hx.mono fun b _ h_ => by obtain ⟨j, _, hne, hm_, hS⟩ := h_; obtain ⟨rfl, hS⟩ := hS; exact absurd hm_ (by decide)
            replace hN := hN.ext hx
            replace hc := hc.ext hx
            replace hB1 := hB1.ext hx
            have hE := Upd.refl (fun _ => False) W
            refine X_buildSlice1 (vs := [.int .i64 e.1]) S24 (by decide) rfl rfl (List.forall_mem_cons.2 ⟨rfl, fun _ h => by cases h⟩) ?_
            intro b w2 hn
            exact ⟨Ext.upd hn.ext, b, rfl, hn.blk⟩
          refine ⟨.abs (fun _ x_ W_ => Own W_ s0 3 1 x_ (us.take k ++ [e.1]).length ((us.take k ++ [e.1]).flatMap LI.cel)), ⟨fun _ _ _ => rfl, fun _ _ _ _ hu0 h => have hu : Upd (fun b => False) _ _ := hu0.mono fun b _ h_ => (by obtain ⟨j, _, hne, hm_, hk_, hS⟩ := h_; obtain ⟨rfl, hS⟩ := hS; exact absurd rfl hne)
             (by have h2 := Own.ext h hu; exact h2)⟩, fun val h_ W hx he => ⟨trivial, ?_⟩, ?_⟩
          · replace hx := (Upd.drew _ _).trans hx
            replace hx : Upd (fun b => False) w2 W := hx.mono fun b _ h_ => by obtain ⟨j, _, hne, hm_, hS⟩ := h_; obtain ⟨rfl, hS⟩ := hS; exact absurd rfl hne
            replace hN := hN.ext hx
            replace hc := hc.ext hx
            replace hB1 := hB1.ext hx
            have hE := Upd.refl (fun _ => False) W
            have hxs := hx.size
            obtain ⟨⟨bl, hbl, hBl⟩, hO4, _⟩ := he
            have hlk : (us.take k).length ≤ us.length := by rw [List.length_take]; omega
            refine X_append (B := s0) (n := (us.take k).length) (s := val 4) (x := val 6) S24 ⟨_, Try.underlying24⟩ rfl rfl hO4 (m := 1) (ys := [.int .i64 e.1]) (by rw [hbl]; exact hBl.rd (o := 0) (n := 1) (c := 1) (sz := 1) (by decide) (by decide) rfl (fun j u hj => by rw [Nat.zero_add]; simpa using hj)) (List.forall_mem_cons.2 ⟨rfl, fun _ h => by cases h⟩) (by unfold maxLen; omega) (by omega) (by omega) ?_
            intro v5 w5 hO5 hu5 _
            exact ⟨hu5.mono fun b _ h => ⟨rfl, (hO4.lt h).1⟩, hO5.eq (by rw [List.length_append (bs := [_])]; rfl) (by rw [List.flatMap_append]; rfl)⟩
          refine ⟨.det (fun val => u), ⟨fun _ _ hv => rfl, fun _ _ _ _ _ => trivial⟩, fun val h_ W hx he => ⟨trivial, ?_⟩, ?_⟩
          · replace hx := (Upd.drew _ _).trans hx
            replace hx : Upd (fun b => (s0 ≤ b)) w2 W := hx.mono fun b _ h_ => by obtain ⟨j, _, hne, hm_, hS⟩ := h_; obtain ⟨rfl, hS⟩ := hS; exact hS
            replace hN := hN.upd hx fun i h1 h2 h => by have h : s0 ≤ i := h; omega
            replace hc := hc.upd hx fun i h1 h2 h => by have h : s0 ≤ i := h; omega
            replace hB1 := hB1.upd hx fun h => by have h : s0 ≤ b1 := h; omega
            have hE := Upd.refl (fun _ => False) W
            refine id (X_move (v := u) rfl ?_)
            exact ⟨Ext.upd hE, rfl⟩
          refine ⟨.det (fun val => (.int .i64 (((k : Nat) : Int)))), ⟨fun _ _ hv => rfl, fun _ _ _ _ _ => trivial⟩, fun val h_ W hx he => ⟨trivial, ?_⟩, ?_⟩
          · replace hx := (Upd.drew _ _).trans hx
            replace hx : Upd (fun b => (s0 ≤ b)) w2 W := hx.mono fun b _ h_ => by obtain ⟨j, _, hne, hm_, hS⟩ := h_; obtain ⟨rfl, hS⟩ := hS; exact hS
            replace hN := hN.upd hx fun i h1 h2 h => by have h : s0 ≤ i := h; omega
            replace hc := hc.upd hx fun i h1 h2 h => by have h : s0 ≤ i := h; omega
            replace hB1 := hB1.upd hx fun h => by have h : s0 ≤ b1 := h; omega
            have hE := Upd.refl (fun _ => False) W
            refine id (X_move (v := (.int .i64 (((k : Nat) : Int)))) rfl ?_)
            exact ⟨Ext.upd hE, rfl⟩
          refine ⟨.det (fun _ => cutv u 1 k us.length), ⟨fun _ _ _ => rfl, fun _ _ _ _ _ => trivial⟩, fun val h_ W hx he => ⟨trivial, ?_⟩, ?_⟩
          · replace hx := (Upd.drew _ _).trans hx
            replace hx : Upd (fun b => (s0 ≤ b)) w2 W := hx.mono fun b _ h_ => by obtain ⟨j, _, hne, hm_, hS⟩ := h_; obtain ⟨rfl, hS⟩ := hS; exact hS
            replace hN := hN.upd hx fun i h1 h2 h => by have h : s0 ≤ i := h; omega
            replace hc := hc.upd hx fun i h1 h2 h => by have h : s0 ≤ i := h; omega
            replace hB1 := hB1.upd hx fun h => by have h : s0 ≤ b1 := h; omega
            have hE := Upd.refl (fun _ => False) W
            refine id (X_slice (n := us.length) (l := k) (h' := us.length) (kl := .i64) (kh := .i64) S24 rfl hN.1.sv rfl rfl hkl (Nat.le_refl _) ?_)
            exact ⟨Ext.upd hE, rfl⟩
          intro val W8 hx8 he8
          replace hx8 := (Upd.drew _ _).trans hx8
          replace hx8 : Upd (fun b => (s0 ≤ b)) w2 W8 := hx8.mono fun b _ h_ => by obtain ⟨j, _, hS⟩ := h_; obtain ⟨rfl, hS⟩ := hS; exact hS
          have hz8 := hx8.size
          replace hN := hN.upd hx8 fun i h1 h2 h => by have h : s0 ≤ i := h; omega
          replace hc := hc.upd hx8 fun i h1 h2 h => by have h : s0 ≤ i := h; omega
          replace hB1 := hB1.upd hx8 fun h => by have h : s0 ≤ b1 := h; omega
          replace hU := hU.trans (hx8.mono fun i _ h => by have h : s0 ≤ i := h; show n0 ≤ i; omega)
          obtain ⟨hO7, he8⟩ := he8
          obtain ⟨⟨bz, hbz⟩, he8⟩ := he8
          have hlk : (us.take k).length ≤ us.length := by rw [List.length_take]; omega
          have hl7 : (us.take k ++ [e.1]).length = (us.take k).length + 1 := by rw [List.length_append]; rfl
          have hcut := li_cut hN.1.rd hkl (Nat.le_refl _)
          refine L_op rfl (X_append (B := s0) (n := (us.take k ++ [e.1]).length) (s := val 7) (x := cutv u 1 k us.length) S24 ⟨_, Try.underlying24⟩ rfl rfl hO7 hcut (by rw [liFst]; exact intV_one _) (by unfold maxLen; omega) (by omega) (by omega) ?_)
          intro v5 w5 hO5 hu5 _
          have hz5 := hu5.size
          have h7b := fun b (hb : obk (val 7) = some b) => (hO7.lt hb).1
          have hO11 : Own w5 s0 3 1 v5 (us.take k ++ e.1 :: us.drop k).length ((us.take k ++ e.1 :: us.drop k).flatMap LI.cel) := hO5.eq (li_insn _ _ _) (li_ins _ _ _)
          replace hN := hN.upd hu5 fun i h1 h2 h => by have h := h7b _ h; omega
          replace hc := hc.upd hu5 fun i h1 h2 h => by have h := h7b _ h; omega
          replace hB1 := hB1.upd hu5 fun h => by have h := h7b _ h; omega
          replace hU := hU.trans (hu5.mono fun i _ h => by have h := h7b _ h; show n0 ≤ i; omega)
          refine L_op rfl (X_assign (v := v5) rfl ?_)
          refine L_nil ?_
          refine B_n ?_
          refine T_n ?_
          refine W_reg ?_
          refine L_op rfl (X_move (v := (.int .i64 (((i : Nat) : Int)))) rfl ?_)
          refine L_op rfl (X_arith (k := .i64) (a := ((i : Nat) : Int)) (b := 1) (r := ((i + 1 : Nat) : Int)) rfl rfl rfl (iadd64 (by omega) (by omega) (by omega)) ?_)
          refine L_op rfl (X_assign (v := (.int .i64 (((i + 1 : Nat) : Int)))) rfl ?_)
          refine L_nil ?_
          refine T_n ?_
          exact ⟨rfl, (i + 1, v5, (us.take k ++ e.1 :: us.drop k)), ⟨⟨hi, ⟨hO11.more (by omega), fun b hb => (hO11.lt hb).2, fun _ _ s hs => (by cases hs)⟩, ins_lt hpw hlt (fun a2 h2 => by rw [hak] at h2; cases h2; omega), by rw [li_len]; omega, fun y => ins_mem.trans ((or_congr_left (hmem y)).trans (fst_mem hei y).symm), hc, hB1, hU⟩, (by show cs.length - (i + 1) < cs.length - i; omega)⟩, (Out.in_ rfl rfl (Out.mk rfl)), ⟨rfl, rfl, trivial⟩⟩
        · refine L_gy (dj := 38) rfl rfl rfl (X_cmp (k := .i64) (a := a) (b := e.1) (r := false) rfl rfl rfl (decide_eq_false (p := ((a) : Int) ≠ ((e.1) : Int)) (by omega)) ?_)
          refine L_op rfl (X_pick (t := false) (v := (.bool (false))) rfl rfl ?_)
          refine L_nil ?_
          refine T_n ?_
          refine W_cf rfl ?_
          refine W_skip ?_
          refine B_n ?_
          refine T_n ?_
          refine W_reg ?_
          refine L_op rfl (X_move (v := (.int .i64 (((i : Nat) : Int)))) rfl ?_)
          refine L_op rfl (X_arith (k := .i64) (a := ((i : Nat) : Int)) (b := 1) (r := ((i + 1 : Nat) : Int)) rfl rfl rfl (iadd64 (by omega) (by omega) (by omega)) ?_)
          refine L_op rfl (X_assign (v := (.int .i64 (((i + 1 : Nat) : Int)))) rfl ?_)
          refine L_nil ?_
          refine T_n ?_
          exact ⟨rfl, (i + 1, u, us), ⟨⟨hi, hN.mono (Nat.le_refl _) (by omega), hpw, by omega, fun y => ⟨fun h => (fst_mem hei y).2 (.inl ((hmem y).1 h)), fun h => ((fst_mem hei y).1 h).elim (fun h => (hmem y).2 h) fun h => by rw [h, show e.1 = a by omega]; exact List.mem_of_getElem? hak⟩, hc, hB1, hU⟩, (by show cs.length - (i + 1) < cs.length - i; omega)⟩, (Out.in_ rfl rfl (Out.mk rfl)), ⟨rfl, rfl, trivial⟩⟩
    · refine L_op rfl (X_cmp (k := .i64) (a := ((k : Nat) : Int)) (b := ((us.length : Nat) : Int)) (r := false) rfl rfl rfl (decide_eq_false (p := ((((k : Nat) : Int)) : Int) < ((((us.length : Nat) : Int)) : Int)) (by omega)) ?_)
      refine L_op rfl (X_move (v := (.bool (false))) rfl ?_)
      refine L_gn (dj := 24) (t := false) rfl rfl rfl rfl ?_
      refine L_gn (dj := 24) (t := false) rfl rfl rfl rfl ?_
      refine L_gn (dj := 24) (t := false) rfl rfl rfl rfl ?_
      refine L_gn (dj := 24) (t := false) rfl rfl rfl rfl ?_
      refine L_gn (dj := 24) (t := false) rfl rfl rfl rfl ?_
      refine L_gn (dj := 24) (t := false) rfl rfl rfl rfl ?_
      refine L_op rfl (X_pick (t := false) (v := (.bool (false))) rfl rfl ?_)
      refine L_nil ?_
      refine T_n ?_
      refine W_cf rfl ?_
      refine W_exit ?_
      refine T_e ?_
      refine T_e ?_
      refine B_x ?_
      refine T_n ?_
      refine W_seq ?_
      refine W_reg ?_
      refine L_op rfl (X_move (v := (.int .i64 (((k : Nat) : Int)))) rfl ?_)
      refine L_op rfl (X_move (v := u) rfl ?_)
      refine L_op rfl (X_len (v := u) (n := us.length) Try.underlying24 rfl hN.1.sv ?_)
      refine L_op rfl (X_cmp (k := .i64) (a := ((k : Nat) : Int)) (b := ((us.length : Nat) : Int)) (r := true) rfl rfl rfl (decide_eq_true (p := ((((k : Nat) : Int)) : Int) = ((((us.length : Nat) : Int)) : Int)) (by omega)) ?_)
      refine L_op rfl (X_move (v := (.bool (true))) rfl ?_)
      refine L_gn (dj := 38) (t := true) rfl rfl rfl rfl ?_
      refine L_gn (dj := 38) (t := true) rfl rfl rfl rfl ?_
      refine L_gn (dj := 38) (t := true) rfl rfl rfl rfl ?_
      refine L_gn (dj := 38) (t := true) rfl rfl rfl rfl ?_
      refine L_gn (dj := 38) (t := true) rfl rfl rfl rfl ?_
      refine L_gn (dj := 38) (t := true) rfl rfl rfl rfl ?_
      refine L_op rfl (X_pick (t := true) (v := (.bool (true))) rfl rfl ?_)
      refine L_nil ?_
      refine T_n ?_
      refine W_ct rfl ?_
      obtain ⟨s0, hs0⟩ : ∃ n, n = w2.heap.size := ⟨_, rfl⟩
      have hu_b : ∀ b, obk u = some b → b < s9 := fun b hb => hN.2.1 b hb
      refine W_drawT 11 [[], [], [], [1, 2], [0, 1, 2, 3], [], [5], [0, 1, 2, 3, 4, 5, 6], [], [], [8, 9], [0, 1, 2, 3, 4, 5, 6, 7, 8, 9, 10], [0, 1, 2, 3, 4, 5, 6, 7, 8, 9, 10, 11]] [[], [], [], [1, 2], [0, 1, 2, 3], [], [5], [0, 1, 2, 3, 4, 5, 6], [], [], [8, 9]] [0, 1, 2, 3, 5, 7, 8, 9, 10] [[], [], [], [], [], [], [], [4, 6], [], [], []] (fun j b => (j = 7 ∧ s0 ≤ b)) mixed (by kernel_rfl) (by decide) ?_
      refine ⟨.abs (fun _ x_ _ => ∃ b, x_ = .slice (some ⟨b, 0, none⟩) 0 0), ⟨fun _ _ _ => rfl, fun _ _ _ _ _ h => h⟩, fun val h_ W hx he => ⟨trivial, ?_⟩, ?_⟩
      · replace hx := (Upd.drew _ _).trans hx
        replace hx : Upd (fun b => False) w2 W := hx.mono fun b _ h_ => by obtain ⟨j, _, hne, hm_, hS⟩ := h_; obtain ⟨rfl, hS⟩ := hS; exact absurd hm_ (by decide)
        replace hN := hN.ext hx
        replace hc := hc.ext hx
        replace hB1 := hB1.ext hx
        have hE := Upd.refl (fun _ => False) W
        refine X_buildSlice1 (vs := []) S24 (by decide) rfl rfl (fun _ h => by cases h) ?_
        intro b w2 hn
        exact ⟨Ext.upd hn.ext, b, rfl⟩
      refine ⟨.det (fun val => u), ⟨fun _ _ hv => rfl, fun _ _ _ _ _ => trivial⟩, fun val h_ W hx he => ⟨trivial, ?_⟩, ?_⟩
      · replace hx := (Upd.drew _ _).trans hx
        replace hx : Upd (fun b => False) w2 W := hx.mono fun b _ h_ => by obtain ⟨j, _, hne, hm_, hS⟩ := h_; obtain ⟨rfl, hS⟩ := hS; exact absurd hm_ (by decide)
        replace hN := hN.ext hx
        replace hc := hc.ext hx
        replace hB1 := hB1.ext hx
        have hE := Upd.refl (fun _ => False) W
        refine id (X_move (v := u) rfl ?_)
        exact ⟨Ext.upd hE, rfl⟩
      refine ⟨.det (fun val => (.int .i64 (((k : Nat) : Int)))), ⟨fun _ _ hv => rfl, fun _ _ _ _ _ => trivial⟩, fun val h_ W hx he => ⟨trivial, ?_⟩, ?_⟩
      · replace hx := (Upd.drew _ _).trans hx
        replace hx : Upd (fun b => False) w2 W := hx.mono fun b _ h_ => by obtain ⟨j, _, hne, hm_, hS⟩ := h_; obtain ⟨rfl, hS⟩ := hS; exact absurd hm_ (by decide)
        replace hN := hN.ext hx
        replace hc := hc.ext hx
        replace hB1 := hB1.ext hx
        have hE := Upd.refl (fun _ => False) W
        refine id (X_move (v := (.int .i64 (((k : Nat) : Int)))) rfl ?_)
        exact ⟨Ext.upd hE, rfl⟩
      refine ⟨.det (fun _ => cutv u 1 0 k), ⟨fun _ _ _ => rfl, fun _ _ _ _ _ => trivial⟩, fun val h_ W hx he => ⟨trivial, ?_⟩, ?_⟩
      · replace hx := (Upd.drew _ _).trans hx
        replace hx : Upd (fun b => False) w2 W := hx.mono fun b _ h_ => by obtain ⟨j, _, hne, hm_, hS⟩ := h_; obtain ⟨rfl, hS⟩ := hS; exact absurd hm_ (by decide)
        replace hN := hN.ext hx
        replace hc := hc.ext hx
        replace hB1 := hB1.ext hx
        have hE := Upd.refl (fun _ => False) W
        refine id (X_slice (n := us.length) (l := 0) (h' := k) (kl := .i64) (kh := .i64) S24 rfl hN.1.sv rfl rfl (Nat.zero_le _) hkl ?_)
        exact ⟨Ext.upd hE, rfl⟩
      refine ⟨.abs (fun _ x_ W_ => Own W_ s0 3 1 x_ (us.take k).length ((us.take k).flatMap LI.cel)), ⟨fun _ _ _ => rfl, fun _ _ _ _ hu0 h => have hu : Upd (fun b => False) _ _ := hu0.mono fun b _ h_ => (by obtain ⟨j, _, hne, hm_, hk_, hS⟩ := h_; obtain ⟨rfl, hS⟩ := hS; exact absurd hk_ (by decide))
         (by have h2 := Own.ext h hu; exact h2)⟩, fun val h_ W hx he => ⟨trivial, ?_⟩, ?_⟩
      · replace hx := (Upd.drew _ _).trans hx
        replace hx : Upd (fun b => False) w2 W := hx.mono fun b _ h_ => by obtain ⟨j, _, hne, hm_, hS⟩ := h_; obtain ⟨rfl, hS⟩ := hS; exact absurd hm_ (by decide)
        replace hN := hN.ext hx
        replace hc := hc.ext hx
        replace hB1 := hB1.ext hx
        have hE := Upd.refl (fun _ => False) W
        have hxs := hx.size
        obtain ⟨⟨bz, hbz⟩, _⟩ := he
        have hcut := li_cut hN.1.rd (Nat.zero_le k) hkl
        refine X_append (B := s0) (n := 0) (s := val 0) (x := cutv u 1 0 k) S24 ⟨_, Try.underlying24⟩ rfl rfl (xs := []) (by rw [hbz]; exact Own.zero _ _ _ _ _) hcut (by rw [liFst]; exact intV_one _) (by unfold maxLen; omega) (by omega) (by omega) ?_
        intro v5 w5 hO5 hu5 _
        rw [hbz] at hu5
        exact ⟨Ext.upd hu5.nobk, hO5.eq (by rw [List.length_take]; omega) (by rw [List.nil_append, List.drop_zero, Nat.sub_zero])⟩
      refine ⟨.det (fun val => (.int .i64 (e.1))), ⟨fun _ _ hv => rfl, fun _ _ _ _ _ => trivial⟩, fun val h_ W hx he => ⟨trivial, ?_⟩, ?_⟩
      · replace hx := (Upd.drew _ _).trans hx
        replace hx : Upd (fun b => False) w2 W := hx.mono fun b _ h_ => by obtain ⟨j, _, hne, hm_, hS⟩ := h_; obtain ⟨rfl, hS⟩ := hS; exact absurd hm_ (by decide)
        replace hN := hN.ext hx
        replace hc := hc.ext hx
        replace hB1 := hB1.ext hx
        have hE := Upd.refl (fun _ => False) W
        refine id (X_move (v := (.int .i64 (e.1))) rfl ?_)
        exact ⟨Ext.upd hE, rfl⟩
      refine ⟨.abs (fun _ x_ W_ => ∃ b, x_ = .slice (some ⟨b, 0, none⟩) 1 1 ∧ Blk W_ b #[.int .i64 e.1] 3), ⟨fun _ _ _ => rfl, fun _ _ _ _ hu0 h => have hu : Upd (fun b => False) _ _ := hu0.mono fun b _ h_ => (by obtain ⟨j, _, hne, hm_, hk_, hS⟩ := h_; obtain ⟨rfl, hS⟩ := hS; exact absurd hk_ (by decide))
         (by obtain ⟨b, e1, e2⟩ := h; exact ⟨b, e1, e2.ext hu⟩)⟩, fun val h_ W hx he => ⟨trivial, ?_⟩, ?_⟩
      · replace hx := (Upd.drew _ _).trans hx
        replace hx : Upd (fun b => False) w2 W := hx.mono fun b _ h_ => by obtain ⟨j, _, hne, hm_, hS⟩ := h_; obtain ⟨rfl, hS⟩ := hS; exact absurd hm_ (by decide)
        replace hN := hN.ext hx
        replace hc := hc.ext hx
        replace hB1 := hB1.ext hx
        have hE := Upd.refl (fun _ => False) W
        refine X_buildSlice1 (vs := [.int .i64 e.1]) S24 (by decide) rfl rfl (List.forall_mem_cons.2 ⟨rfl, fun _ h => by cases h⟩) ?_
        intro b w2 hn
        exact ⟨Ext.upd hn.ext, b, rfl, hn.blk⟩
      refine ⟨.abs (fun _ x_ W_ => Own W_ s0 3 1 x_ (us.take k ++ [e.1]).length ((us.take k ++ [e.1]).flatMap LI.cel)), ⟨fun _ _ _ => rfl, fun _ _ _ _ hu0 h => have hu : Upd (fun b => False) _ _ := hu0.mono fun b _ h_ => (by obtain ⟨j, _, hne, hm_, hk_, hS⟩ := h_; obtain ⟨rfl, hS⟩ := hS; exact absurd rfl hne)
         (by have h2 := Own.ext h hu; exact h2)⟩, fun val h_ W hx he => ⟨trivial, ?_⟩, ?_⟩
      · replace hx := (Upd.drew _ _).trans hx
        replace hx : Upd (fun b => False) w2 W := hx.mono fun b _ h_ => by obtain ⟨j, _, hne, hm_, hS⟩ := h_; obtain ⟨rfl, hS⟩ := hS; exact absurd rfl hne
        replace hN := hN.ext hx
        replace hc := hc.ext hx
        replace hB1 := hB1.ext hx
        have hE := Upd.refl (fun _ => False) W
        have hxs := hx.size
        obtain ⟨⟨bl, hbl, hBl⟩, hO4, _⟩ := he
        have hlk : (us.take k).length ≤ us.length := by rw [List.length_take]; omega
        refine X_append (B := s0) (n := (us.take k).length) (s := val 4) (x := val 6) S24 ⟨_, Try.underlying24⟩ rfl rfl hO4 (m := 1) (ys := [.int .i64 e.1]) (by rw [hbl]; exact hBl.rd (o := 0) (n := 1) (c := 1) (sz := 1) (by decide) (by decide) rfl (fun j u hj => by rw [Nat.zero_add]; simpa using hj)) (List.forall_mem_cons.2 ⟨rfl, fun _ h => by cases h⟩) (by unfold maxLen; omega) (by omega) (by omega) ?_
        intro v5 w5 hO5 hu5 _
        exact ⟨hu5.mono fun b _ h => ⟨rfl, (hO4.lt h).1⟩, hO5.eq (by rw [List.length_append (bs := [_])]; rfl) (by rw [List.flatMap_append]; rfl)⟩
      refine ⟨.det (fun val => u), ⟨fun _ _ hv => rfl, fun _ _ _ _ _ => trivial⟩, fun val h_ W hx he => ⟨trivial, ?_⟩, ?_⟩
      · replace hx := (Upd.drew _ _).trans hx
        replace hx : Upd (fun b => (s0 ≤ b)) w2 W := hx.mono fun b _ h_ => by obtain ⟨j, _, hne, hm_, hS⟩ := h_; obtain ⟨rfl, hS⟩ := hS; exact hS
        replace hN := hN.upd hx fun i h1 h2 h => by have h : s0 ≤ i := h; omega
        replace hc := hc.upd hx fun i h1 h2 h => by have h : s0 ≤ i := h; omega
        replace hB1 := hB1.upd hx fun h => by have h : s0 ≤ b1 := h; omega
        have hE := Upd.refl (fun _ => False) W
        refine id (X_move (v := u) rfl ?_)
        exact ⟨Ext.upd hE, rfl⟩
      refine ⟨.det (fun val => (.int .i64 (((k : Nat) : Int)))), ⟨fun _ _ hv => rfl, fun _ _ _ _ _ => trivial⟩, fun val h_ W hx he => ⟨trivial, ?_⟩, ?_⟩
      · replace hx := (Upd.drew _ _).trans hx
        replace hx : Upd (fun b => (s0 ≤ b)) w2 W := hx.mono fun b _ h_ => by obtain ⟨j, _, hne, hm_, hS⟩ := h_; obtain ⟨rfl, hS⟩ := hS; exact hS
        replace hN := hN.upd hx fun i h1 h2 h => by have h : s0 ≤ i := h; omega
        replace hc := hc.upd hx fun i h1 h2 h => by have h : s0 ≤ i := h; omega
        replace hB1 := hB1.upd hx fun h => by have h : s0 ≤ b1 := h; omega
        have hE := Upd.refl (fun _ => False) W
        refine id (X_move (v := (.int .i64 (((k : Nat) : Int)))) rfl ?_)
        exact ⟨Ext.upd hE, rfl⟩
      refine ⟨.det (fun _ => cutv u 1 k us.length), ⟨fun _ _ _ => rfl, fun _ _ _ _ _ => trivial⟩, fun val h_ W hx he => ⟨trivial, ?_⟩, ?_⟩
      · replace hx := (Upd.drew _ _).trans hx
        replace hx : Upd (fun b => (s0 ≤ b)) w2 W := hx.mono fun b _ h_ => by obtain ⟨j, _, hne, hm_, hS⟩ := h_; obtain ⟨rfl, hS⟩ := hS; exact hS
        replace hN := hN.upd hx fun i h1 h2 h => by have h : s0 ≤ i := h; omega
        replace hc := hc.upd hx fun i h1 h2 h => by have h : s0 ≤ i := h; omega
        replace hB1 := hB1.upd hx fun h => by have h : s0 ≤ b1 := h; omega
        have hE := Upd.refl (fun _ => False) W
        refine id (X_slice (n := us.length) (l := k) (h' := us.length) (kl := .i64) (kh := .i64) S24 rfl hN.1.sv rfl rfl hkl (Nat.le_refl _) ?_)
        exact ⟨Ext.upd hE, rfl⟩
      intro val W9 hx9 he9
      replace hx9 := (Upd.drew _ _).trans hx9
      replace hx9 : Upd (fun b => (s0 ≤ b)) w2 W9 := hx9.mono fun b _ h_ => by obtain ⟨j, _, hS⟩ := h_; obtain ⟨rfl, hS⟩ := hS; exact hS
      have hz9 := hx9.size
      replace hN := hN.upd hx9 fun i h1 h2 h => by have h : s0 ≤ i := h; omega
      replace hc := hc.upd hx9 fun i h1 h2 h => by have h : s0 ≤ i := h; omega
      replace hB1 := hB1.upd hx9 fun h => by have h : s0 ≤ b1 := h; omega
      replace hU := hU.trans (hx9.mono fun i _ h => by have h : s0 ≤ i := h; show n0 ≤ i; omega)
      obtain ⟨hO7, he9⟩ := he9
      obtain ⟨⟨bz, hbz⟩, he9⟩ := he9
      have hlk : (us.take k).length ≤ us.length := by rw [List.length_take]; omega
      have hl7 : (us.take k ++ [e.1]).length = (us.take k).length + 1 := by rw [List.length_append]; rfl
      have hcut := li_cut hN.1.rd hkl (Nat.le_refl _)
      refine L_op rfl (X_append (B := s0) (n := (us.take k ++ [e.1]).length) (s := val 7) (x := cutv u 1 k us.length) S24 ⟨_, Try.underlying24⟩ rfl rfl hO7 hcut (by rw [liFst]; exact intV_one _) (by unfold maxLen; omega) (by omega) (by omega) ?_)
      intro v5 w5 hO5 hu5 _
      have hz5 := hu5.size
      have h7b := fun b (hb : obk (val 7) = some b) => (hO7.lt hb).1
      have hO11 : Own w5 s0 3 1 v5 (us.take k ++ e.1 :: us.drop k).length ((us.take k ++ e.1 :: us.drop k).flatMap LI.cel) := hO5.eq (li_insn _ _ _) (li_ins _ _ _)
      replace hN := hN.upd hu5 fun i h1 h2 h => by have h := h7b _ h; omega
      replace hc := hc.upd hu5 fun i h1 h2 h => by have h := h7b _ h; omega
      replace hB1 := hB1.upd hu5 fun h => by have h := h7b _ h; omega
      replace hU := hU.trans (hu5.mono fun i _ h => by have h := h7b _ h; show n0 ≤ i; omega)
      refine L_op rfl (X_assign (v := v5) rfl ?_)
      refine L_nil ?_
      refine B_n ?_
      refine T_n ?_
      refine W_reg ?_
      refine L_op rfl (X_move (v := (.int .i64 (((i : Nat) : Int)))) rfl ?_)
      refine L_op rfl (X_arith (k := .i64) (a := ((i : Nat) : Int)) (b := 1) (r := ((i + 1 : Nat) : Int)) rfl rfl rfl (iadd64 (by omega) (by omega) (by omega)) ?_)
      refine L_op rfl (X_assign (v := (.int .i64 (((i + 1 : Nat) : Int)))) rfl ?_)
      refine L_nil ?_
      refine T_n ?_
      exact ⟨rfl, (i + 1, v5, (us.take k ++ e.1 :: us.drop k)), ⟨⟨hi, ⟨hO11.more (by omega), fun b hb => (hO11.lt hb).2, fun _ _ s hs => (by cases hs)⟩, ins_lt hpw hlt (fun a2 h2 => by have := (List.getElem?_eq_some_iff.1 h2).1; omega), by rw [li_len]; omega, fun y => ins_mem.trans ((or_congr_left (hmem y)).trans (fst_mem hei y).symm), hc, hB1, hU⟩, (by show cs.length - (i + 1) < cs.length - i; omega)⟩, (Out.in_ rfl rfl (Out.mk rfl)), ⟨rfl, rfl, trivial⟩⟩
  · refine L_op rfl (X_cmp (k := .i64) (a := ((i : Nat) : Int)) (b := ((cs.length : Nat) : Int)) (r := false) rfl rfl rfl (decide_eq_false (p := ((((i : Nat) : Int)) : Int) < ((((cs.length : Nat) : Int)) : Int)) (by omega)) ?_)
    obtain rfl : i = cs.length := by omega
    refine L_nil ?_
    refine T_n ?_
    refine W_cf rfl ?_
    refine W_exit ?_
    refine T_e ?_
    refine T_e ?_
    refine B_x ?_
    refine T_n ?_
    refine W_seq ?_
    refine W_reg ?_
    refine L_op rfl (X_move (v := u) rfl ?_)
    refine L_op rfl (X_assign (v := u) rfl ?_)
    refine L_nil ?_
    refine T_n ?_
    refine W_ret ?_
    exact BQ_r (End_1 Try.results25 (v := u) rfl ⟨us, hN.mono (by omega) (by omega), incr_ext hpw (waits_lt cs) (fun y => ((hmem y).trans (by rw [List.take_length])).trans (waits_mem cs y).symm), hU.own hn0⟩)
end Go.Proofs.Ythongcaijgfojaa
