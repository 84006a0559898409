/-
  What chapter 06 takes over of chapter 02: PutBytes, Take. (Printed by wip/gen/t06b.py of this repo.)
-/
import Derived.Test.YtmddmghgkkjbiaaDoorPack
namespace Go.Proofs.YtmddmghgkkjbiaaDoor
open Go Go.SL Go.Proofs
set_option linter.unusedVariables false

theorem c_grow (n : Nat) (w : World) (hn : n ≤ 140737488355328) : CT Tryd.prog 55 #[(.slice none 0 0), (.int .i64 (((n : Nat) : Int)))] w fun v w' => Own w' w.heap.size 5 1 v 0 [] ∧ Ext w w' := by
  obtain ⟨n0, hn0⟩ : ∃ n, n = w.heap.size := ⟨_, rfl⟩
  have hU : Upd (fun i => n0 ≤ i) w w := Upd.refl _ _
  refine CT_of Tryd.func55 rfl rfl rfl ?_
  refine W_seq ?_
  refine W_reg ?_
  refine L_op rfl (X_assign (v := (.slice none 0 0)) rfl ?_)
  refine L_nil ?_
  refine T_n ?_
  refine W_seq ?_
  refine W_seq ?_
  refine W_reg ?_
  refine L_op rfl (X_move (v := (.int .i64 (((n : Nat) : Int)))) rfl ?_)
  refine L_op rfl (X_cmp (k := .i64) (a := ((n : Nat) : Int)) (b := 0) (r := false) rfl rfl rfl (decide_eq_false (p := ((((n : Nat) : Int)) : Int) < ((0) : Int)) (by omega)) ?_)
  refine L_nil ?_
  refine T_n ?_
  refine W_cf rfl ?_
  refine W_skip ?_
  refine T_n ?_
  refine W_seq ?_
  refine W_seq ?_
  refine W_reg ?_
  refine L_op rfl (X_move (v := (.int .i64 (((n : Nat) : Int)))) rfl ?_)
  refine L_op rfl (X_move (v := (.slice none 0 0)) rfl ?_)
  refine L_op rfl (X_cap (a := none) (n := 0) (c := 0) Tryd.underlying35 rfl ?_)
  refine L_op rfl (X_move (v := (.slice none 0 0)) rfl ?_)
  refine L_op rfl (X_len (v := (.slice none 0 0)) (n := 0) Tryd.underlying35 rfl (Own.nil w 0 5 1).sv ?_)
  refine L_op rfl (X_arith (k := .i64) (a := 0) (b := 0) (r := 0) rfl rfl rfl rfl ?_)
  refine L_op rfl (X_arith (k := .i64) (a := ((n : Nat) : Int)) (b := 0) (r := ((n : Nat) : Int)) rfl rfl rfl (isub64 (by omega) (by omega) (by omega)) ?_)
  refine L_op rfl (X_assign (v := (.int .i64 (((n : Nat) : Int)))) rfl ?_)
  refine L_nil ?_
  refine T_n ?_
  refine W_seq ?_
  refine W_reg ?_
  refine L_op rfl (X_move (v := (.int .i64 (((n : Nat) : Int)))) rfl ?_)
  by_cases hc1 : (((n : Nat) : Int) : Int) > (0)
  · refine L_op rfl (X_cmp (k := .i64) (a := ((n : Nat) : Int)) (b := 0) (r := true) rfl rfl rfl (decide_eq_true (p := ((0) : Int) < ((((n : Nat) : Int)) : Int)) (by omega)) ?_)
    refine L_nil ?_
    refine T_n ?_
    refine W_ct rfl ?_
    refine W_reg ?_
    refine L_op rfl (X_move (v := (.slice none 0 0)) rfl ?_)
    refine L_op rfl (X_move (v := (.slice none 0 0)) rfl ?_)
    refine L_op rfl (X_cap (a := none) (n := 0) (c := 0) Tryd.underlying35 rfl ?_)
    refine L_op rfl (X_slice (n := 0) (l := 0) (h' := 0) (kl := .i64) (kh := .i64) S35 rfl (Own.nil w 0 5 1).sv rfl rfl (by omega) (by omega) ?_)
    refine L_op rfl (X_move (v := (.int .i64 (((n : Nat) : Int)))) rfl ?_)
    refine L_op rfl (X_appendMake (B := n0) (a := none) (m := n) S35 Tryd.underlying3 rfl (by rfl) (by omega) (by unfold maxLen; omega) (by omega) (by omega) ?_)
    intro v1 w1 xs hO hu1 ho1
    replace hU := hU.trans (Ext.upd hu1)
    have hO_b : ∀ b, obk v1 = some b → b < w1.heap.size := fun b hb => (hO.lt hb).2
    refine L_op rfl (X_move (v := (.slice none 0 0)) rfl ?_)
    refine L_op rfl (X_len (v := (.slice none 0 0)) (n := 0) Tryd.underlying35 rfl (Own.nil w 0 5 1).sv ?_)
    refine L_op rfl (X_slice (n := n) (l := 0) (h' := 0) (kl := .i64) (kh := .i64) S35 rfl hO.sv rfl rfl (by omega) (by omega) ?_)
    refine L_op rfl (X_assign (v := (cutv v1 1 0 0)) rfl ?_)
    refine L_nil ?_
    refine T_n ?_
    refine W_seq ?_
    refine W_reg ?_
    refine L_op rfl (X_move (v := (cutv v1 1 0 0)) rfl ?_)
    refine L_op rfl (X_assign (v := (cutv v1 1 0 0)) rfl ?_)
    refine L_nil ?_
    refine T_n ?_
    refine W_ret ?_
    exact BQ_r (End_1 Tryd.results55 (v := cutv v1 1 0 0) rfl ⟨(hO.cut (Nat.zero_le _)).more (by omega) |>.eq rfl (by rw [Nat.zero_mul]; rfl), hU.own hn0⟩)
  · refine L_op rfl (X_cmp (k := .i64) (a := ((n : Nat) : Int)) (b := 0) (r := false) rfl rfl rfl (decide_eq_false (p := ((0) : Int) < ((((n : Nat) : Int)) : Int)) (by omega)) ?_)
    refine L_nil ?_
    refine T_n ?_
    refine W_cf rfl ?_
    refine W_skip ?_
    refine T_n ?_
    refine W_seq ?_
    refine W_reg ?_
    refine L_op rfl (X_move (v := (.slice none 0 0)) rfl ?_)
    refine L_op rfl (X_assign (v := (.slice none 0 0)) rfl ?_)
    refine L_nil ?_
    refine T_n ?_
    refine W_ret ?_
    exact BQ_r (End_1 Tryd.results55 (v := .slice none 0 0) rfl ⟨(Own.nil _ _ _ _), hU.own hn0⟩)

def totB (ss : List (Value × List UInt8)) (i : Nat) : List UInt8 := (ss.take i).flatMap (·.2)
theorem totB_step {ss : List (Value × List UInt8)} {i : Nat} (hi : i < ss.length) : totB ss (i + 1) = totB ss i ++ (ss[i]).2 := by
  unfold totB
  rw [List.take_add_one, List.getElem?_eq_getElem hi, List.flatMap_append]
  simp
theorem totB_le (ss : List (Value × List UInt8)) (i : Nat) : (totB ss i).length ≤ (totB ss ss.length).length := by
  unfold totB
  rw [List.take_length]
  have h : ss.flatMap (·.2) = (ss.take i).flatMap (·.2) ++ (ss.drop i).flatMap (·.2) := by rw [← List.flatMap_append, List.take_append_drop]
  rw [h, List.length_append]; omega
theorem totB_all (ss : List (Value × List UInt8)) : totB ss ss.length = ss.flatMap (·.2) := by unfold totB; rw [List.take_length]

theorem c_concat (s : Value) (ss : List (Value × List UInt8)) (w : World) (hs : Rd w 1 s ss.length (ss.map (·.1))) (hss : ∀ p ∈ ss, Rd w 1 p.1 p.2.length (p.2.map byteV)) (hl : (ss.flatMap (·.2)).length ≤ 140737488355328) : CT Tryd.prog 39 #[s] w fun v w' => Own w' w.heap.size 5 1 v (ss.flatMap (·.2)).length ((ss.flatMap (·.2)).map byteV) ∧ Ext w w' := by
  have hsl := hs.len
  have hs0 := hs
  rw [← totB_all] at hl ⊢
  obtain ⟨n0, hn0⟩ : ∃ n, n = w.heap.size := ⟨_, rfl⟩
  have hU : Upd (fun i => n0 ≤ i) w w := Upd.refl _ _
  have hs_b : ∀ i, rbk s = some i → i < n0 := by rw [hn0]; exact fun i hi => hs.bound (by decide) hi
  refine CT_of Tryd.func39 rfl rfl rfl ?_
  refine W_seq ?_
  refine W_reg ?_
  refine L_op rfl (X_assign (v := (.slice none 0 0)) rfl ?_)
  refine L_nil ?_
  refine T_n ?_
  refine W_seq ?_
  refine W_reg ?_
  refine L_op rfl (X_assign (v := (.int .i64 (0))) rfl ?_)
  refine L_nil ?_
  refine T_n ?_
  refine W_seq ?_
  refine W_seq ?_
  refine W_reg ?_
  refine L_op rfl (X_move (v := s) rfl ?_)
  refine L_op rfl (X_len (v := s) (n := ss.length) Tryd.underlying87 rfl hs.sv ?_)
  refine L_op rfl (X_move (v := (.int .i64 (0))) rfl ?_)
  refine L_nil ?_
  refine T_n ?_
  refine W_block ?_
  refine W_loop (α := Nat) [3, 5, 11, 12, 13, 14, 15, 16, 17, 18, 19, 20, 21, 22] (fun i => [(3, (.int .i64 ((((totB ss i).length : Nat) : Int)))), (11, (.int .i64 (((i : Nat) : Int))))]) (fun i w_ => w = w_ ∧ i ≤ ss.length) (fun i => ss.length - i) ⟨rfl, 0, ⟨rfl, Nat.zero_le _⟩, Out.refl _ _, ⟨rfl, rfl, trivial⟩⟩ ?_
  rintro i w1 _ ⟨rfl, hil⟩
  have htl := totB_le ss i
  refine W_seq ?_
  refine W_reg ?_
  by_cases hc2 : (((i : Nat) : Int) : Int) < (((ss.length : Nat) : Int))
  · refine L_op rfl (X_cmp (k := .i64) (a := ((i : Nat) : Int)) (b := ((ss.length : Nat) : Int)) (r := true) rfl rfl rfl (decide_eq_true (p := ((((i : Nat) : Int)) : Int) < ((((ss.length : Nat) : Int)) : Int)) (by omega)) ?_)
    have hi : i < ss.length := by omega
    have hst := totB_step hi
    have htl2 := totB_le ss (i + 1)
    have hlen : (totB ss (i + 1)).length = (totB ss i).length + (ss[i]'hi).2.length := by rw [hst, List.length_append]
    refine L_nil ?_
    refine T_n ?_
    refine W_seq ?_
    refine W_ct rfl ?_
    refine W_skip ?_
    refine T_n ?_
    refine W_seq ?_
    refine W_block ?_
    refine W_seq ?_
    refine W_reg ?_
    refine L_op rfl (X_idx (v := s) (n := ss.length) (k := .i64) (i := ((i : Nat) : Int)) S87 rfl hs.sv rfl (by omega) (by omega) ?_)
    refine L_op rfl (X_load (v := (ss[i]'hi).1) T35 rfl (hs.cell (by rw [show (((i : Nat) : Int).toNat * 1) = i by omega, List.getElem?_map, List.getElem?_eq_getElem hi]; rfl)) ?_)
    refine L_op rfl (X_assign (v := (ss[i]'hi).1) rfl ?_)
    refine L_nil ?_
    refine T_n ?_
    refine W_seq ?_
    refine W_reg ?_
    refine L_op rfl (X_move (v := (.int .i64 ((((totB ss i).length : Nat) : Int)))) rfl ?_)
    refine L_op rfl (X_move (v := (ss[i]'hi).1) rfl ?_)
    refine L_op rfl (X_len (v := (ss[i]'hi).1) (n := (ss[i]'hi).2.length) Tryd.underlying35 rfl (hss _ (List.getElem_mem hi)).sv ?_)
    refine L_op rfl (X_arith (k := .i64) (a := (((totB ss i).length : Nat) : Int)) (b := (((ss[i]'hi).2.length : Nat) : Int)) (r := (((totB ss (i + 1)).length : Nat) : Int)) rfl rfl rfl (iadd64 (by omega) (by omega) (by omega)) ?_)
    refine L_op rfl (X_assign (v := (.int .i64 ((((totB ss (i + 1)).length : Nat) : Int)))) rfl ?_)
    refine L_nil ?_
    refine T_n ?_
    refine W_seq ?_
    refine W_reg ?_
    refine L_op rfl (X_move (v := (.int .i64 ((((totB ss (i + 1)).length : Nat) : Int)))) rfl ?_)
    refine L_op rfl (X_cmp (k := .i64) (a := (((totB ss (i + 1)).length : Nat) : Int)) (b := 0) (r := false) rfl rfl rfl (decide_eq_false (p := (((((totB ss (i + 1)).length : Nat) : Int)) : Int) < ((0) : Int)) (by omega)) ?_)
    refine L_nil ?_
    refine T_n ?_
    refine W_cf rfl ?_
    refine W_skip ?_
    refine B_n ?_
    refine T_n ?_
    refine W_reg ?_
    refine L_op rfl (X_arith (k := .i64) (a := ((i : Nat) : Int)) (b := 1) (r := ((i + 1 : Nat) : Int)) rfl rfl rfl (iadd64 (by omega) (by omega) (by omega)) ?_)
    refine L_op rfl (X_move (v := (.int .i64 (((i + 1 : Nat) : Int)))) rfl ?_)
    refine L_nil ?_
    refine T_n ?_
    exact ⟨rfl, i + 1, ⟨⟨rfl, hi⟩, (by show ss.length - (i + 1) < ss.length - i; omega)⟩, (Out.mk rfl), ⟨rfl, rfl, trivial⟩⟩
  · refine L_op rfl (X_cmp (k := .i64) (a := ((i : Nat) : Int)) (b := ((ss.length : Nat) : Int)) (r := false) rfl rfl rfl (decide_eq_false (p := ((((i : Nat) : Int)) : Int) < ((((ss.length : Nat) : Int)) : Int)) (by omega)) ?_)
    obtain rfl : i = ss.length := by omega
    refine L_nil ?_
    refine T_n ?_
    refine W_seq ?_
    refine W_cf rfl ?_
    refine W_exit ?_
    refine T_e ?_
    refine T_e ?_
    refine B_x ?_
    refine T_n ?_
    refine W_seq ?_
    refine W_reg ?_
    refine L_op rfl (X_move (v := (.int .i64 ((((totB ss ss.length).length : Nat) : Int)))) rfl ?_)
    refine L_op rfl (X_fn (vs := [(.slice none 0 0), (.int .i64 ((((totB ss ss.length).length : Nat) : Int)))]) en55 rfl (CT.mono (c_grow (totB ss ss.length).length _ (by omega)) ?_))
    rintro v1 w1 ⟨hO, hu1⟩
    have hz1 := hu1.size
    replace hs := hs.ext hu1
    replace hU := hU.trans (Ext.upd hu1)
    have hO_b : ∀ b, obk v1 = some b → b < w1.heap.size := fun b hb => (hO.lt hb).2
    refine L_op rfl (X_assign (v := v1) rfl ?_)
    refine L_nil ?_
    refine T_n ?_
    refine W_seq ?_
    refine W_seq ?_
    refine W_reg ?_
    refine L_op rfl (X_move (v := s) rfl ?_)
    refine L_op rfl (X_len (v := s) (n := ss.length) Tryd.underlying87 rfl hs.sv ?_)
    refine L_op rfl (X_move (v := (.int .i64 (0))) rfl ?_)
    refine L_nil ?_
    refine T_n ?_
    refine W_block ?_
    refine W_loop (α := Nat × Value) [6, 8, 27, 28, 29, 30, 31, 32, 33, 34] (fun ⟨i, u⟩ => [(6, u), (27, (.int .i64 (((i : Nat) : Int))))]) (fun ⟨i, u⟩ w_ => i ≤ ss.length ∧ Own w_ n0 5 1 u (totB ss i).length ((totB ss i).map byteV) ∧ Upd (fun i => n0 ≤ i) w w_) (fun ⟨i, u⟩ => ss.length - i) ⟨rfl, (0, v1), ⟨Nat.zero_le _, hO.more (by omega), hU⟩, Out.refl _ _, ⟨rfl, rfl, trivial⟩⟩ ?_
    rintro ⟨i, u⟩ w3 _ ⟨hil, hO, hU⟩
    have hs := hs0.old (by decide) (hn0 ▸ hU)
    refine W_seq ?_
    refine W_reg ?_
    by_cases hc4 : (((i : Nat) : Int) : Int) < (((ss.length : Nat) : Int))
    · refine L_op rfl (X_cmp (k := .i64) (a := ((i : Nat) : Int)) (b := ((ss.length : Nat) : Int)) (r := true) rfl rfl rfl (decide_eq_true (p := ((((i : Nat) : Int)) : Int) < ((((ss.length : Nat) : Int)) : Int)) (by omega)) ?_)
      have hi : i < ss.length := by omega
      have hst := totB_step hi
      refine L_nil ?_
      refine T_n ?_
      refine W_seq ?_
      refine W_ct rfl ?_
      refine W_skip ?_
      refine T_n ?_
      refine W_seq ?_
      refine W_block ?_
      refine W_seq ?_
      refine W_reg ?_
      refine L_op rfl (X_idx (v := s) (n := ss.length) (k := .i64) (i := ((i : Nat) : Int)) S87 rfl hs.sv rfl (by omega) (by omega) ?_)
      refine L_op rfl (X_load (v := (ss[i]'hi).1) T35 rfl (hs.cell (by rw [show (((i : Nat) : Int).toNat * 1) = i by omega, List.getElem?_map, List.getElem?_eq_getElem hi]; rfl)) ?_)
      refine L_op rfl (X_assign (v := (ss[i]'hi).1) rfl ?_)
      refine L_nil ?_
      refine T_n ?_
      refine W_reg ?_
      refine L_op rfl (X_move (v := u) rfl ?_)
      refine L_op rfl (X_move (v := (ss[i]'hi).1) rfl ?_)
      refine L_op rfl (X_append (B := n0) (s := u) (x := (ss[i]'hi).1) S35 ⟨_, Tryd.underlying35⟩ rfl rfl hO ((hss _ (List.getElem_mem hi)).old (by decide) (hn0 ▸ hU)) (byteV_one _) (by unfold maxLen; have := totB_le ss (i + 1); rw [hst, List.length_append] at this; omega) (by have := totB_le ss (i + 1); rw [hst, List.length_append] at this; omega) (by have := hU.size; omega) ?_)
      intro v5 w5 hO5 hu5 _
      replace hU := hU.trans (hu5.mono fun i _ h => by have := (hO.lt h).1; show n0 ≤ i; omega)
      refine L_op rfl (X_assign (v := v5) rfl ?_)
      refine L_nil ?_
      refine B_n ?_
      refine T_n ?_
      refine W_reg ?_
      refine L_op rfl (X_arith (k := .i64) (a := ((i : Nat) : Int)) (b := 1) (r := ((i + 1 : Nat) : Int)) rfl rfl rfl (iadd64 (by omega) (by omega) (by omega)) ?_)
      refine L_op rfl (X_move (v := (.int .i64 (((i + 1 : Nat) : Int)))) rfl ?_)
      refine L_nil ?_
      refine T_n ?_
      exact ⟨rfl, (i + 1, v5), ⟨⟨hi, by rw [hst, List.length_append, List.map_append]; exact hO5, hU⟩, (by show ss.length - (i + 1) < ss.length - i; omega)⟩, (Out.mk rfl), ⟨rfl, rfl, trivial⟩⟩
    · refine L_op rfl (X_cmp (k := .i64) (a := ((i : Nat) : Int)) (b := ((ss.length : Nat) : Int)) (r := false) rfl rfl rfl (decide_eq_false (p := ((((i : Nat) : Int)) : Int) < ((((ss.length : Nat) : Int)) : Int)) (by omega)) ?_)
      obtain rfl : i = ss.length := by omega
      refine L_nil ?_
      refine T_n ?_
      refine W_seq ?_
      refine W_cf rfl ?_
      refine W_exit ?_
      refine T_e ?_
      refine T_e ?_
      refine B_x ?_
      refine T_n ?_
      refine W_seq ?_
      refine W_reg ?_
      refine L_op rfl (X_move (v := u) rfl ?_)
      refine L_op rfl (X_assign (v := u) rfl ?_)
      refine L_nil ?_
      refine T_n ?_
      refine W_ret ?_
      exact BQ_r (End_1 Tryd.results39 (v := u) rfl ⟨hO.more (by omega), hU.own hn0⟩)

def sizedB (s : List UInt8) : List UInt8 := UInt8.ofNat (s.take 255).length :: s.take 255
theorem take255 (m : List UInt8) : (m.drop 0).take (min m.length 255 - 0) = m.take 255 := by
  rw [List.drop_zero, Nat.sub_zero]
  rcases Nat.le_total m.length 255 with h | h
  · rw [Nat.min_eq_left h, List.take_length, List.take_of_length_le h]
  · rw [Nat.min_eq_right h]
theorem sizedB_length (s : List UInt8) : (sizedB s).length = 1 + (s.take 255).length := by unfold sizedB; rw [List.length_cons]; omega

theorem pb_flat {b x y : Value} {l m : List UInt8} : ([(b, l), (x, [UInt8.ofNat (m.take 255).length]), (y, m.take 255)].flatMap (·.2)) = l ++ sizedB m := by
  unfold sizedB
  simp

theorem c_putBytes (b s : Value) (l m : List UInt8) (w : World) (hl : l.length ≤ 140737488355000) (hb : Rd w 1 b l.length (l.map byteV)) (hs : Rd w 1 s m.length (m.map byteV)) : CT Tryd.prog 20 #[b, s] w fun v w' => Own w' w.heap.size 5 1 v (l ++ sizedB m).length ((l ++ sizedB m).map byteV) ∧ Ext w w' := by
  obtain ⟨n0, hn0⟩ : ∃ n, n = w.heap.size := ⟨_, rfl⟩
  have hU : Upd (fun i => n0 ≤ i) w w := Upd.refl _ _
  have hb_b : ∀ i, rbk b = some i → i < n0 := by rw [hn0]; exact fun i hi => hb.bound (by decide) hi
  have hs_b : ∀ i, rbk s = some i → i < n0 := by rw [hn0]; exact fun i hi => hs.bound (by decide) hi
  refine CT_of Tryd.func20 rfl rfl rfl ?_
  refine W_seq ?_
  refine W_reg ?_
  refine L_op rfl (X_assign (v := (.slice none 0 0)) rfl ?_)
  refine L_nil ?_
  refine T_n ?_
  refine W_seq ?_
  refine W_reg ?_
  refine L_op rfl (X_move (v := s) rfl ?_)
  refine L_op rfl (X_move (v := s) rfl ?_)
  refine L_op rfl (X_len (v := s) (n := m.length) Tryd.underlying35 rfl hs.sv ?_)
  refine L_op rfl (X_min (k := .i64) (a := ((m.length : Nat) : Int)) (b := 255) (r := ((min m.length 255 : Nat) : Int)) rfl rfl (by omega) ?_)
  refine L_op rfl (X_slice (n := m.length) (l := 0) (h' := min m.length 255) (kl := .i64) (kh := .i64) S35 rfl hs.sv rfl rfl (by omega) (by omega) ?_)
  refine L_op rfl (X_assign (v := (cutv s 1 (0) (min m.length 255))) rfl ?_)
  refine L_nil ?_
  refine T_n ?_
  refine W_seq ?_
  refine W_reg ?_
  refine L_op rfl (X_move (v := b) rfl ?_)
  refine L_op rfl (X_move (v := (cutv s 1 (0) (min m.length 255))) rfl ?_)
  refine L_op rfl (X_len (v := (cutv s 1 (0) (min m.length 255))) (n := (m.take 255).length) Tryd.underlying35 rfl (hs.cutB (lo := 0) (hi := min m.length 255) (by omega) (by omega) (m := m.take 255) (take255 m)).sv ?_)
  refine L_op rfl (X_convInt (k := .i64) (a := (((m.take 255).length : Nat) : Int)) (r := ((UInt8.ofNat (m.take 255).length).toNat : Int)) (by rw [Tryd.underlying3]; rfl) Tryd.underlying5 rfl (u8_wrap _) ?_)
  refine L_op rfl (X_buildSlice1 (vs := [(.int .u8 (((UInt8.ofNat (m.take 255).length).toNat : Int)))]) S35 (by decide) rfl rfl (List.forall_mem_cons.2 ⟨rfl, (fun _ h => by cases h)⟩) ?_)
  intro b2 w2 hn2
  have hbn2 := hn2.num; have hbs2 := hn2.size
  replace hb := hb.ext hn2.ext
  replace hs := hs.ext hn2.ext
  replace hU := hU.trans (Ext.upd hn2.ext)
  have hB2 := hn2.blk
  refine L_op rfl (X_move (v := (cutv s 1 (0) (min m.length 255))) rfl ?_)
  refine L_op rfl (X_buildSlice1 (vs := [b, (.slice (some ⟨b2, 0, none⟩) 1 1), (cutv s 1 (0) (min m.length 255))]) S87 (by decide) rfl rfl (List.forall_mem_cons.2 ⟨(hb.sv.cells), (List.forall_mem_cons.2 ⟨rfl, (List.forall_mem_cons.2 ⟨((hs.cutB (lo := 0) (hi := min m.length 255) (by omega) (by omega) (m := m.take 255) (take255 m)).sv.cells), (fun _ h => by cases h)⟩)⟩)⟩) ?_)
  intro b3 w3 hn3
  have hbn3 := hn3.num; have hbs3 := hn3.size
  replace hb := hb.ext hn3.ext
  replace hs := hs.ext hn3.ext
  replace hU := hU.trans (Ext.upd hn3.ext)
  replace hB2 := hB2.ext hn3.ext
  have hB3 := hn3.blk
  have hT : (m.take 255).length ≤ 255 := by rw [List.length_take]; omega
  have hcc := c_concat (.slice (some ⟨b3, 0, none⟩) 3 3) [(b, l), ((.slice (some ⟨b2, 0, none⟩) 1 1), [UInt8.ofNat (m.take 255).length]), ((cutv s 1 (0) (min m.length 255)), m.take 255)] w3 (hB3.rd (o := 0) (by decide) (by decide) rfl (fun j u hj => by rw [Nat.zero_add]; simpa using hj)) (List.forall_mem_cons.2 ⟨hb, List.forall_mem_cons.2 ⟨hB2.rd (o := 0) (n := 1) (c := 1) (by decide) (by decide) rfl (fun j u hj => by rw [Nat.zero_add]; simpa [byteV] using hj), List.forall_mem_cons.2 ⟨(hs.cutB (lo := 0) (hi := min m.length 255) (by omega) (by omega) (m := m.take 255) (take255 m)), fun _ h => by cases h⟩⟩⟩) (by rw [pb_flat, List.length_append, sizedB_length]; omega)
  rw [pb_flat] at hcc
  refine L_op rfl (X_fn (vs := [(.slice (some ⟨b3, 0, none⟩) 3 3)]) en39 rfl (CT.mono hcc ?_))
  rintro v9 w9 ⟨hO, hu9⟩
  have hz9 := hu9.size
  replace hb := hb.ext hu9
  replace hs := hs.ext hu9
  replace hU := hU.trans (Ext.upd hu9)
  replace hB2 := hB2.ext hu9
  replace hB3 := hB3.ext hu9
  have hO_b : ∀ b, obk v9 = some b → b < w9.heap.size := fun b hb => (hO.lt hb).2
  refine L_op rfl (X_assign (v := v9) rfl ?_)
  refine L_nil ?_
  refine T_n ?_
  refine W_ret ?_
  exact BQ_r (End_1 Tryd.results20 (v := v9) rfl ⟨hO.more (by omega), hU.own hn0⟩)

theorem c_backward (s : Value) (l : List UInt8) (w : World) (hs : Rd w 1 s l.length (l.map byteV)) : CT Tryd.prog 64 #[s] w fun v w' => v = .func (.func 66) #[] #[ptr w.heap.size 0] ∧ Blk w' w.heap.size #[s] 35 ∧ Ext w w' ∧ w'.heap.size = w.heap.size + 1 := by
  obtain ⟨n0, hn0⟩ : ∃ n, n = w.heap.size := ⟨_, rfl⟩
  have hU : Upd (fun i => n0 ≤ i) w w := Upd.refl _ _
  have hs_b : ∀ i, rbk s = some i → i < n0 := by rw [hn0]; exact fun i hi => hs.bound (by decide) hi
  refine CT_of Tryd.func64 rfl rfl rfl ?_
  refine W_seq ?_
  refine W_reg ?_
  refine L_op rfl (X_box (v := s) (c := #[s]) rfl (hs.sv.cells) ?_)
  intro b1 w1 hn1
  have hbn1 := hn1.num; have hbs1 := hn1.size
  replace hs := hs.ext hn1.ext
  replace hU := hU.trans (Ext.upd hn1.ext)
  have hB1 := hn1.blk
  refine L_op rfl (X_assign (v := .nilFunc) rfl ?_)
  refine L_nil ?_
  refine T_n ?_
  refine W_seq ?_
  refine W_reg ?_
  refine L_op rfl (X_makeFunc (vs := [ptr b1 0]) rfl ?_)
  refine L_op rfl (X_assign (v := (.func (.func 66) #[] #[ptr b1 0])) rfl ?_)
  refine L_nil ?_
  refine T_n ?_
  refine W_ret ?_
  exact BQ_r (End_1 Tryd.results64 (v := .func (.func 66) #[] #[ptr b1 0]) rfl ⟨by rw [hbn1], hbn1 ▸ hB1, hU.own hn0, hbs1⟩)

def backX (l : List UInt8) : List (List Value) := (List.range l.length).map fun k => [.int .i64 ((l.length - 1 - k : Nat) : Int), byteV (l.getD (l.length - 1 - k) 0)]
theorem backX_length (l : List UInt8) : (backX l).length = l.length := by unfold backX; rw [List.length_map, List.length_range]
theorem backX_at {l : List UInt8} {k : Nat} (hk : k < l.length) : (backX l)[k]? = some [.int .i64 ((l.length - 1 - k : Nat) : Int), byteV (l.getD (l.length - 1 - k) 0)] := by
  unfold backX
  rw [List.getElem?_map, List.getElem?_range hk]; rfl

theorem c_back1 (s : Value) (l : List UInt8) (b1 : Nat) (w : World) (hB : Blk w b1 #[s] 35) (hs : Rd w 1 s l.length (l.map byteV)) :
    IterC Tryd.prog 66 [ptr b1 0] (backX l) w (fun b => b = b1 ∨ rbk s = some b) (fun _ => False) := by
  intro lp J Jx W Db hu0 hDb hJs hJxs hy hJ0
  have hmx := hs.len
  replace hB := hB.upd hu0 fun h => h (.inl rfl)
  replace hs := hs.upd hu0 fun i hi h => h (.inr hi)
  show CT Tryd.prog 66 #[.func (.yield lp) #[] #[], ptr b1 0] W _
  refine CT_of Tryd.func66 rfl rfl rfl ?_
  refine W_seq ?_
  refine W_reg ?_
  refine L_op rfl (X_load (p := (ptr b1 (0))) (v := s) T35 rfl (hB.at1 rfl) ?_)
  refine L_op rfl (X_len (v := s) (n := l.length) Tryd.underlying35 rfl hs.sv ?_)
  refine L_op rfl (X_arith (k := .i64) (a := ((l.length : Nat) : Int)) (b := 1) (r := ((l.length : Nat) : Int) - 1) rfl rfl rfl (isub64 rfl (by omega) (by omega)) ?_)
  refine L_op rfl (X_assign (v := (.int .i64 (((l.length : Nat) : Int) - 1))) rfl ?_)
  refine L_nil ?_
  refine T_n ?_
  refine W_block ?_
  refine W_loop (α := Nat) [3, 7, 8, 9, 10, 11, 12, 13, 14, 15, 16, 17, 18] (fun k => [(3, (.int .i64 (((l.length : Nat) : Int) - 1 - ((k : Nat) : Int))))]) (fun k w_ => k ≤ l.length ∧ J k w_ ∧ Blk w_ b1 #[s] 35 ∧ Rd w_ 1 s l.length (l.map byteV)) (fun k => l.length - k) ⟨rfl, 0, ⟨Nat.zero_le _, hJ0, hB, hs⟩, Out.refl _ _, ⟨(by show Value.int .i64 (((l.length : Nat) : Int) - 1) = .int .i64 (((l.length : Nat) : Int) - 1 - ((0 : Nat) : Int)); congr 1; omega), trivial⟩⟩ ?_
  rintro k w1 _ ⟨hkl, hJ, hB, hs⟩
  refine W_seq ?_
  refine W_seq ?_
  refine W_reg ?_
  refine L_op rfl (X_move (v := (.int .i64 (((l.length : Nat) : Int) - 1 - ((k : Nat) : Int)))) rfl ?_)
  by_cases hc2 : (((l.length : Nat) : Int) - 1 - ((k : Nat) : Int) : Int) ≥ (0)
  · refine L_op rfl (X_cmp (k := .i64) (a := ((l.length : Nat) : Int) - 1 - ((k : Nat) : Int)) (b := 0) (r := true) rfl rfl rfl (decide_eq_true (p := ((0) : Int) ≤ ((((l.length : Nat) : Int) - 1 - ((k : Nat) : Int)) : Int)) (by omega)) ?_)
    have hk : k < l.length := by omega
    have hke : ((l.length : Nat) : Int) - 1 - ((k : Nat) : Int) = ((l.length - 1 - k : Nat) : Int) := by omega
    skip
    refine L_nil ?_
    refine T_n ?_
    refine W_ct rfl ?_
    refine W_skip ?_
    refine T_n ?_
    refine W_seq ?_
    refine W_block ?_
    refine W_seq ?_
    refine W_reg ?_
    refine L_op rfl (X_move (v := (.func (.yield lp) #[] #[])) rfl ?_)
    refine L_op rfl (X_move (v := .int .i64 ((l.length - 1 - k : Nat) : Int)) (by rw [← hke]; rfl) ?_)
    refine L_op rfl (X_load (p := (ptr b1 (0))) (v := s) T35 rfl (hB.at1 rfl) ?_)
    refine L_op rfl (X_move (v := (.int .i64 (((l.length : Nat) : Int) - 1 - ((k : Nat) : Int)))) rfl ?_)
    refine L_op rfl (X_idx (v := s) (n := l.length) (k := .i64) (i := ((l.length : Nat) : Int) - 1 - ((k : Nat) : Int)) S35 rfl hs.sv rfl (by omega) (by omega) ?_)
    refine L_op rfl (X_load (v := byteV (l.getD (l.length - 1 - k) 0)) T5 rfl (hs.cellB (by rw [show ((((l.length : Nat) : Int) - 1 - ((k : Nat) : Int)).toNat * 1) = l.length - 1 - k by omega, List.getD_eq_getElem?_getD, List.getElem?_eq_getElem (by omega)]; rfl)) ?_)
    refine L_op rfl (X_yield (vs := [.int .i64 ((l.length - 1 - k : Nat) : Int), byteV (l.getD (l.length - 1 - k) 0)]) rfl rfl (YieldC.mono (hy k _ _ (backX_at hk) hJ) ?_))
    rintro _ W2 (⟨rfl, hJ2, hu⟩ | ⟨rfl, hJx⟩)
    · replace hB := hB.upd hu fun h => hDb _ h (.inl rfl)
      replace hs := hs.upd hu fun i hi h => hDb _ h (.inr hi)
      refine L_op rfl (X_not (b := true) (r := false) rfl rfl ?_)
      refine L_nil ?_
      refine T_n ?_
      refine W_cf rfl ?_
      refine W_skip ?_
      refine B_n ?_
      refine T_n ?_
      refine W_reg ?_
      refine L_op rfl (X_move (v := (.int .i64 (((l.length : Nat) : Int) - 1 - ((k : Nat) : Int)))) rfl ?_)
      refine L_op rfl (X_arith (k := .i64) (a := ((l.length : Nat) : Int) - 1 - ((k : Nat) : Int)) (b := 1) (r := ((l.length : Nat) : Int) - 1 - ((k + 1 : Nat) : Int)) rfl rfl rfl (isub64 (by omega) (by omega) (by omega)) ?_)
      refine L_op rfl (X_assign (v := (.int .i64 (((l.length : Nat) : Int) - 1 - ((k + 1 : Nat) : Int)))) rfl ?_)
      refine L_nil ?_
      refine T_n ?_
      exact ⟨rfl, k + 1, ⟨⟨hk, hJ2, hB, hs⟩, (by show l.length - (k + 1) < l.length - k; omega)⟩, (Out.mk rfl), ⟨rfl, trivial⟩⟩
    · refine L_op rfl (X_not (b := false) (r := true) rfl rfl ?_)
      refine L_nil ?_
      refine T_n ?_
      refine W_ct rfl ?_
      refine W_ret ?_
      refine B_r ?_
      refine T_r ?_
      refine T_r ?_
      refine B_r ?_
      exact BQ_r (End_0 Tryd.results66 (.inr ⟨k, by rw [backX_length]; omega, hJx⟩))
  · refine L_op rfl (X_cmp (k := .i64) (a := ((l.length : Nat) : Int) - 1 - ((k : Nat) : Int)) (b := 0) (r := false) rfl rfl rfl (decide_eq_false (p := ((0) : Int) ≤ ((((l.length : Nat) : Int) - 1 - ((k : Nat) : Int)) : Int)) (by omega)) ?_)
    refine L_nil ?_
    refine T_n ?_
    refine W_cf rfl ?_
    refine W_exit ?_
    refine T_e ?_
    refine T_e ?_
    refine B_x ?_
    obtain rfl : k = l.length := by omega
    exact BQ_n (End_0 Tryd.results66 (.inl (by rw [backX_length]; exact hJ)))

def takeV (l : List UInt8) (W : Nat) : Nat := if l.length < W then 0 else valB (l.take W)
def restB (l : List UInt8) (W : Nat) : List UInt8 := if l.length < W then l else l.drop W
def accB (l : List UInt8) (k : Nat) : Nat := valB (l.drop (l.length - k))
theorem accB_zero (l : List UInt8) : accB l 0 = 0 := by unfold accB; rw [Nat.sub_zero, List.drop_length]; rfl
theorem accB_all (l : List UInt8) : accB l l.length = valB l := by unfold accB; rw [Nat.sub_self, List.drop_zero]
theorem accB_step {l : List UInt8} {k : Nat} (hk : k < l.length) : accB l (k + 1) = (l.getD (l.length - 1 - k) 0).toNat + 256 * accB l k := by
  unfold accB
  have h1 : l.length - (k + 1) < l.length := by omega
  rw [List.drop_eq_getElem_cons h1, List.getD_eq_getElem?_getD, show l.length - 1 - k = l.length - (k + 1) by omega, List.getElem?_eq_getElem h1, show l.length - (k + 1) + 1 = l.length - k by omega]
  rfl
theorem accB_lt {l : List UInt8} {k : Nat} (hk : k < l.length) (h8 : l.length ≤ 8) : 256 * accB l k < 18446744073709551616 := by
  have h := valB_lt (l.drop (l.length - k))
  rw [List.length_drop] at h
  have h2 : 256 ^ (l.length - (l.length - k)) ≤ 256 ^ 7 := Nat.pow_le_pow_right (by decide) (by omega)
  have h3 : (256 : Nat) ^ 7 = 72057594037927936 := by decide
  unfold accB
  omega
theorem take_take0 {l : List UInt8} {W : Nat} : (l.drop 0).take (W - 0) = l.take W := rfl
theorem drop_rest {l : List UInt8} {W : Nat} : (l.drop W).take (l.length - W) = l.drop W := List.take_of_length_le (by rw [List.length_drop]; omega)

theorem c_take (b : Value) (l : List UInt8) (m : Int) (w : World) (hb : Rd w 1 b l.length (l.map byteV)) : CT Tryd.prog 61 #[b, (.int .i64 (m))] w fun v w' => ∃ r, v = .tuple #[.int .u64 ((takeV l (wideN m) : Nat) : Int), r, .int .i64 (if l.length < wideN m then 20 else 0)] ∧ Rd w' 1 r (restB l (wideN m)).length ((restB l (wideN m)).map byteV) ∧ (∀ b', rbk r = some b' → rbk b = some b') ∧ Ext w w' := by
  have hw8 := wideN_le m
  have hmx := hb.len
  have hb0 := hb
  obtain ⟨n0, hn0⟩ : ∃ n, n = w.heap.size := ⟨_, rfl⟩
  have hU : Upd (fun i => n0 ≤ i) w w := Upd.refl _ _
  have hb_b : ∀ i, rbk b = some i → i < n0 := by rw [hn0]; exact fun i hi => hb.bound (by decide) hi
  refine CT_of Tryd.func61 rfl rfl rfl ?_
  refine W_seq ?_
  refine W_reg ?_
  refine L_op rfl (X_alloc (z := (.int .u64 (0))) (c := #[(.int .u64 (0))]) Zv39 rfl ?_)
  intro b1 w1 hn1
  have hbn1 := hn1.num; have hbs1 := hn1.size
  replace hb := hb.ext hn1.ext
  replace hU := hU.trans (Ext.upd hn1.ext)
  have hB1 := hn1.blk
  obtain rfl : n0 = b1 := by omega
  refine L_op rfl (X_assign (v := (.slice none 0 0)) rfl ?_)
  refine L_op rfl (X_assign (v := (.int .i64 (0))) rfl ?_)
  refine L_nil ?_
  refine T_n ?_
  refine W_seq ?_
  refine W_reg ?_
  refine L_op rfl (X_move (v := (.int .i64 (m))) rfl ?_)
  refine L_op rfl (X_fn (vs := [(.int .i64 (m))]) en57 rfl (CT.mono (c_wide m _) ?_))
  rintro _ _ ⟨rfl, rfl⟩
  rw [wideN_eq]
  refine L_op rfl (X_assign (v := (.int .i64 (((wideN m : Nat) : Int)))) rfl ?_)
  refine L_nil ?_
  refine T_n ?_
  refine W_seq ?_
  refine W_seq ?_
  refine W_reg ?_
  refine L_op rfl (X_move (v := b) rfl ?_)
  refine L_op rfl (X_len (v := b) (n := l.length) Tryd.underlying35 rfl hb.sv ?_)
  refine L_op rfl (X_move (v := (.int .i64 (((wideN m : Nat) : Int)))) rfl ?_)
  by_cases hc2 : (((l.length : Nat) : Int) : Int) < (((wideN m : Nat) : Int))
  · refine L_op rfl (X_cmp (k := .i64) (a := ((l.length : Nat) : Int)) (b := ((wideN m : Nat) : Int)) (r := true) rfl rfl rfl (decide_eq_true (p := ((((l.length : Nat) : Int)) : Int) < ((((wideN m : Nat) : Int)) : Int)) (by omega)) ?_)
    refine L_nil ?_
    refine T_n ?_
    refine W_ct rfl ?_
    refine W_seq ?_
    refine W_reg ?_
    refine L_op rfl (X_move (v := b) rfl ?_)
    refine L_op0 (X_store (b := n0) (o := 0) T39 rfl rfl rfl hB1 (by show (0 : Nat) < 1; decide) ?_)
    intro w3 hu3 hb3
    have hz3 := hu3.size
    replace hb := hb.upd hu3 fun i hi h => by have hi := hb_b _ hi; have h : i = n0 := h; omega
    replace hU := hU.trans (hu3.mono fun i _ h => by have h : i = n0 := h; show n0 ≤ i; omega)
    replace hB1 : Blk w3 n0 #[(.int .u64 (0))] 39 := hb3
    refine L_op rfl (X_assign (v := b) rfl ?_)
    refine L_op rfl (X_assign (v := (.int .i64 (20))) rfl ?_)
    refine L_nil ?_
    refine T_n ?_
    refine W_ret ?_
    refine T_r ?_
    exact BQ_r (End_3 Tryd.results61 (v1 := .int .u64 0) (v2 := b) (v3 := .int .i64 20) (RV_1 T39 rfl (hB1.at1 rfl)) rfl rfl ⟨b, by unfold takeV; rw [if_pos (by omega), if_pos (by omega)]; rfl, by unfold restB; rw [if_pos (by omega)]; exact hb, fun b' hb' => hb', hU.own hn0⟩)
  · refine L_op rfl (X_cmp (k := .i64) (a := ((l.length : Nat) : Int)) (b := ((wideN m : Nat) : Int)) (r := false) rfl rfl rfl (decide_eq_false (p := ((((l.length : Nat) : Int)) : Int) < ((((wideN m : Nat) : Int)) : Int)) (by omega)) ?_)
    have hWl : wideN m ≤ l.length := by omega
    have htl : (l.take (wideN m)).length = wideN m := by rw [List.length_take]; omega
    refine L_nil ?_
    refine T_n ?_
    refine W_cf rfl ?_
    refine W_skip ?_
    refine T_n ?_
    refine W_seq ?_
    refine W_seq ?_
    refine W_reg ?_
    refine L_op rfl (X_move (v := b) rfl ?_)
    refine L_op rfl (X_move (v := (.int .i64 (((wideN m : Nat) : Int)))) rfl ?_)
    refine L_op rfl (X_slice (n := l.length) (l := 0) (h' := wideN m) (kl := .i64) (kh := .i64) S35 rfl hb.sv rfl rfl (by omega) (by omega) ?_)
    refine L_op rfl (X_fn (vs := [(cutv b 1 (0) (wideN m))]) en64 rfl (CT.mono (c_backward _ (l.take (wideN m)) _ (hb.cutB (lo := 0) (hi := wideN m) (by omega) (by omega) (m := l.take (wideN m)) take_take0)) ?_))
    rintro _ w3 ⟨rfl, hK, hu3, hz3⟩
    obtain ⟨nb, hnb⟩ : ∃ n, n = w1.heap.size := ⟨_, rfl⟩
    rw [← hnb] at hK ⊢
    replace hb := hb.ext hu3
    replace hU := hU.trans (Ext.upd hu3)
    replace hB1 := hB1.ext hu3
    refine L_nil ?_
    refine T_n ?_
    refine W_block ?_
    obtain ⟨nL, hnL⟩ : ∃ n, n = w3.heap.size := ⟨_, rfl⟩
    refine W_range (lb := [ptr nb 0]) (xs := (backX (l.take (wideN m)))) rfl en66 (c_back1 _ (l.take (wideN m)) nb _ hK (hb.cutB (lo := 0) (hi := wideN m) (by omega) (by omega) (m := l.take (wideN m)) take_take0)) (Upd.refl _ _) rfl (fun x hx => by unfold backX at hx; obtain ⟨y, _, rfl⟩ := List.mem_map.1 hx; rfl) (fun b => b = n0) (fun b hb_ => by obtain rfl : b = n0 := hb_; exact ⟨fun h => by { rcases h with h | h; (· omega); (· have := hb_b _ (hb0.rbk_cut hWl h); omega) }, by omega, by omega⟩) (fun b hb_ h => by rcases h with h | h; (· omega); (· have := hb_b _ (hb0.rbk_cut hWl h); omega)) (fun b h => h.elim) (fun k W => Blk W n0 #[.int .u64 ((accB (l.take (wideN m)) k : Nat) : Int)] 39 ∧ Upd (fun i => n0 ≤ i) w W) (fun k e W => False) (fun k W W2 hI hu => ⟨hI.1.upd hu fun h => by { rcases h with h | h; (· exact h); (· omega) }, hI.2.trans (hu.mono fun i _ h => by { rcases h with h | h; (· exact h.elim); (· show n0 ≤ i; omega) })⟩) (fun _ _ _ _ h _ => h) ?_ ?_ ?_ ?_
    · intro W hx_ hs_
      replace hB1 := hB1.ext hx_
      exact ⟨by rw [accB_zero]; exact hB1, hU.trans (Ext.upd hx_)⟩
    · intro k x W hk_ hI_ hsz_ hlp_
      obtain ⟨hB, hUw⟩ := hI_
      have hkW : k < (l.take (wideN m)).length := by rw [← backX_length]; exact (List.getElem?_eq_some_iff.1 hk_).1
      rw [backX_at hkW] at hk_; cases hk_
      have hlt := accB_lt hkW (by omega)
      refine W_reg ?_
      refine L_op rfl (X_assign (v := (byteV ((l.take (wideN m)).getD ((l.take (wideN m)).length - 1 - k) 0))) rfl ?_)
      refine L_nil ?_
      refine T_n ⟨Upd.refl _ _, fun W2 hu2_ hlp2_ => ?_⟩
      have hsz2_ := hu2_.size
      replace hB := hB.upd hu2_ fun h => by have h : n0 = nL + 1 := (by rw [hnL]; exact h); omega
      refine W_block ?_
      refine W_reg ?_
      refine L_op rfl (X_load (p := (ptr n0 (0))) (v := (.int .u64 (((accB (l.take (wideN m)) k : Nat) : Int)))) T39 rfl (hB.at1 rfl) ?_)
      refine L_op rfl (X_shift (k := .u64) (yk := .u64) (a := ((accB (l.take (wideN m)) k : Nat) : Int)) (b := 8) (r := ((256 * accB (l.take (wideN m)) k : Nat) : Int)) (.inl ⟨rfl, shl8_u64 hlt⟩) (by omega) rfl rfl ?_)
      refine L_op rfl (X_move (v := (byteV ((l.take (wideN m)).getD ((l.take (wideN m)).length - 1 - k) 0))) rfl ?_)
      refine L_op rfl (X_convInt (k := .u8) (a := (((l.take (wideN m)).getD ((l.take (wideN m)).length - 1 - k) 0).toNat : Int)) (r := (((l.take (wideN m)).getD ((l.take (wideN m)).length - 1 - k) 0).toNat : Int)) (by rw [Tryd.underlying5]; rfl) Tryd.underlying39 rfl (u64_u8 _) ?_)
      refine L_op rfl (X_arith (k := .u64) (a := ((256 * accB (l.take (wideN m)) k : Nat) : Int)) (b := (((l.take (wideN m)).getD ((l.take (wideN m)).length - 1 - k) 0).toNat : Int)) (r := ((((l.take (wideN m)).getD ((l.take (wideN m)).length - 1 - k) 0).toNat + 256 * accB (l.take (wideN m)) k : Nat) : Int)) rfl rfl rfl (or_u64 (UInt8.toNat_lt _) hlt) ?_)
      refine L_op0 (X_store (b := n0) (o := 0) T39 rfl rfl rfl hB (by show (0 : Nat) < 1; decide) ?_)
      intro w5 hu5 hb5
      have hz5 := hu5.size
      replace hB : Blk w5 n0 #[(.int .u64 (((((l.take (wideN m)).getD ((l.take (wideN m)).length - 1 - k) 0).toNat + 256 * accB (l.take (wideN m)) k : Nat) : Int)))] 39 := hb5
      refine L_nil ?_
      refine B_n ?_
      refine RQ_n (hu5.mono fun _ _ h => h) ⟨by rw [accB_step hkW]; exact hB, hUw.trans ((hu2_.mono fun i _ h => by have h : i = nL + 1 := (by rw [hnL]; exact h); show n0 ≤ i; omega).trans (hu5.mono fun i _ h => by have h : i = n0 := h; show n0 ≤ i; omega))⟩
    · intro W hI_ hd_
      obtain ⟨hB, hUw⟩ := hI_
      rw [backX_length, accB_all] at hB
      have hd : Dfd W nL := by rw [hnL]; exact hd_
      replace hb := hb0.old (by decide) (hn0 ▸ hUw)
      have hU := hUw
      refine B_n ?_
      refine T_n ?_
      refine W_seq ?_
      refine W_draw 5 [[], [], [], [1, 2], [0], [0, 1, 2, 3, 4], [0, 1, 2, 3, 4, 5]] mixed (by kernel_rfl) ?_
      refine ⟨.det (fun val => (.int .u64 (((valB (l.take (wideN m)) : Nat) : Int)))), ⟨fun _ _ hv => rfl, fun _ _ _ _ _ => trivial⟩, fun val h_ W hx he => ⟨trivial, ?_⟩, ?_⟩
      · replace hx := (Upd.drew _ _).trans hx
        replace hb := hb.ext hx
        replace hd := hd.ext hx
        replace hB := hB.ext hx
        have hE := Upd.refl (fun _ => False) W
        refine id (X_load (p := (ptr n0 (0))) (v := (.int .u64 (((valB (l.take (wideN m)) : Nat) : Int)))) T39 rfl (hB.at1 rfl) ?_)
        exact ⟨hE, rfl⟩
      refine ⟨.det (fun val => b), ⟨fun _ _ hv => rfl, fun _ _ _ _ _ => trivial⟩, fun val h_ W hx he => ⟨trivial, ?_⟩, ?_⟩
      · replace hx := (Upd.drew _ _).trans hx
        replace hb := hb.ext hx
        replace hd := hd.ext hx
        replace hB := hB.ext hx
        have hE := Upd.refl (fun _ => False) W
        refine id (X_move (v := b) rfl ?_)
        exact ⟨hE, rfl⟩
      refine ⟨.det (fun val => (.int .i64 (((wideN m : Nat) : Int)))), ⟨fun _ _ hv => rfl, fun _ _ _ _ _ => trivial⟩, fun val h_ W hx he => ⟨trivial, ?_⟩, ?_⟩
      · replace hx := (Upd.drew _ _).trans hx
        replace hb := hb.ext hx
        replace hd := hd.ext hx
        replace hB := hB.ext hx
        have hE := Upd.refl (fun _ => False) W
        refine id (X_move (v := (.int .i64 (((wideN m : Nat) : Int)))) rfl ?_)
        exact ⟨hE, rfl⟩
      refine ⟨.det (fun val => (cutv b 1 (wideN m) (l.length))), ⟨fun _ _ hv => rfl, fun _ _ _ _ _ => trivial⟩, fun val h_ W hx he => ⟨trivial, ?_⟩, ?_⟩
      · replace hx := (Upd.drew _ _).trans hx
        replace hb := hb.ext hx
        replace hd := hd.ext hx
        replace hB := hB.ext hx
        have hE := Upd.refl (fun _ => False) W
        refine id (X_slice (n := l.length) (l := wideN m) (h' := l.length) (kl := .i64) (kh := .i64) S35 rfl hb.sv rfl rfl (by omega) (by omega) ?_)
        exact ⟨hE, rfl⟩
      refine ⟨.det (fun val => undef), ⟨fun _ _ hv => rfl, fun _ _ _ _ _ => trivial⟩, fun val h_ W hx he => ⟨trivial, ?_⟩, ?_⟩
      · replace hx := (Upd.drew _ _).trans hx
        replace hb := hb.ext hx
        replace hd := hd.ext hx
        replace hB := hB.ext hx
        have hE := Upd.refl (fun _ => False) W
        refine id (X_storeSame T39 rfl rfl rfl hB rfl ?_)
        exact ⟨hE, rfl⟩
      intro val W6 hx6 he6
      replace hx6 := (Upd.drew _ _).trans hx6
      have hz6 := hx6.size
      replace hb := hb.ext hx6
      replace hU := hU.trans (Ext.upd hx6)
      replace hd := hd.ext hx6
      replace hB := hB.ext hx6
      refine L_op rfl (X_assign (v := (cutv b 1 (wideN m) (l.length))) rfl ?_)
      refine L_op rfl (X_assign (v := (.int .i64 (0))) rfl ?_)
      refine L_nil ?_
      refine T_n ?_
      refine W_ret ?_
      refine BQ_r (End_m (hnL ▸ hd) fun w9 hu9 => ?_)
      have hB9 := hB.upd hu9 fun h => by have h : n0 = nL := (by rw [hnL]; exact h); omega
      replace hb := hb.upd hu9 fun i hi h => by have hi := hb_b _ hi; have h : i = nL := (by rw [hnL]; exact h); omega
      replace hU := hU.trans (hu9.mono fun i _ h => by have h : i = nL := (by rw [hnL]; exact h); show n0 ≤ i; omega)
      refine End_3 Tryd.results61 (v1 := .int .u64 (valB (l.take (wideN m)) : Nat)) (v2 := (cutv b 1 (wideN m) (l.length))) (v3 := .int .i64 0) (RV_1 T39 rfl (hB9.at1 rfl)) rfl rfl ⟨_, by unfold takeV; rw [if_neg (by omega), if_neg (by omega)], ?_, fun b' hb' => hb.rbk_cut (Nat.le_refl _) hb', hU.own hn0⟩
      unfold restB; rw [if_neg (by omega)]; exact hb.cutB (lo := wideN m) (hi := l.length) (by omega) (by omega) drop_rest
    · intro k e W hk_ hI_ hd_ he_
      exact hI_.elim
end Go.Proofs.YtmddmghgkkjbiaaDoor
