/-
  The contracts of chapter 16. (Printed by wip/gen/t16.py of this repo.)
-/
import Derived.Test.YtpjhadhniokgjaaHead
import Derived.Test.YtpjhadhniokgjaaBaseI
namespace Go.Proofs.Ytpjhadhniokgjaa
open Go Go.SL Go.Proofs

theorem u37 : Try.prog.underlying 37 = some (.struct (Try.prog.fieldsOf 37)) := by kernel_rfl

theorem c_great (l : Value) (es : List KE) (w : World) (lo hi : Nat) (hl : NRd LK w lo hi l es) : CT Try.prog 7 #[l] w fun v w' => (∃ g, v = .bool g ∧ (g = false → es.length ≤ 40 ∧ ∀ (j : Nat) (e : KE), es[j]? = some e → e.2.1.length ≤ 60)) ∧ w = w' := by
  have hmx := hl.sv.len
  refine CT_of Try.func7 rfl rfl rfl ?_
  refine W_seq ?_
  refine W_reg ?_
  refine L_op rfl (X_assign (v := (.bool (false))) rfl ?_)
  refine L_nil ?_
  refine T_n ?_
  refine W_seq ?_
  refine W_seq ?_
  refine W_reg ?_
  refine L_op rfl (X_assign (v := (.int .i64 (0))) rfl ?_)
  refine L_nil ?_
  refine T_n ?_
  refine W_block ?_
  refine W_loop (α := Nat) [2, 3, 4, 5, 6, 7, 8, 9, 10, 11, 12, 13, 14, 15, 16, 17, 18, 19, 20] (fun i => [(3, (.int .i64 (((i : Nat) : Int))))]) (fun i w_ => w = w_ ∧ i ≤ es.length ∧ ∀ (j : Nat) (e : KE), j < i → es[j]? = some e → e.2.1.length ≤ 60) (fun i => es.length - i) ⟨rfl, 0, ⟨rfl, Nat.zero_le _, fun j e h => absurd h (Nat.not_lt_zero j)⟩, Out.refl _ _, ⟨rfl, trivial⟩⟩ ?_
  rintro i w1 _ ⟨rfl, hil, hz⟩
  refine W_seq ?_
  refine W_seq ?_
  refine W_reg ?_
  refine L_op rfl (X_move (v := (.int .i64 (((i : Nat) : Int)))) rfl ?_)
  refine L_op rfl (X_move (v := l) rfl ?_)
  refine L_op rfl (X_len (v := l) (n := es.length) Try.underlying22 rfl hl.sv ?_)
  by_cases hc2 : (((i : Nat) : Int) : Int) < (((es.length : Nat) : Int))
  · refine L_op rfl (X_cmp (k := .i64) (a := ((i : Nat) : Int)) (b := ((es.length : Nat) : Int)) (r := true) rfl rfl rfl (decide_eq_true (p := ((((i : Nat) : Int)) : Int) < ((((es.length : Nat) : Int)) : Int)) (by omega)) ?_)
    have hi : i < es.length := by omega
    refine L_op rfl (X_move (v := (.bool (true))) rfl ?_)
    refine L_gy (dj := 8) rfl rfl rfl (X_move (v := (.int .i64 (((i : Nat) : Int)))) rfl ?_)
    by_cases hc3 : (((i : Nat) : Int) : Int) ≤ (40)
    · refine L_gy (dj := 8) rfl rfl rfl (X_cmp (k := .i64) (a := ((i : Nat) : Int)) (b := 40) (r := true) rfl rfl rfl (decide_eq_true (p := ((((i : Nat) : Int)) : Int) ≤ ((40) : Int)) (by omega)) ?_)
      obtain ⟨e, he⟩ : ∃ e, es[i]? = some e := ⟨_, List.getElem?_eq_getElem hi⟩
      have hkl := (krd hl he).len
      refine L_op rfl (X_pick (t := true) (v := (.bool (true))) rfl rfl ?_)
      refine L_nil ?_
      refine T_n ?_
      refine W_ct rfl ?_
      refine W_skip ?_
      refine T_n ?_
      refine W_seq ?_
      refine W_block ?_
      refine W_seq ?_
      refine W_reg ?_
      refine L_op rfl (X_move (v := l) rfl ?_)
      refine L_op rfl (X_move (v := (.int .i64 (((i : Nat) : Int)))) rfl ?_)
      refine L_op rfl (X_idx (v := l) (n := es.length) (k := .i64) (i := ((i : Nat) : Int)) S22 rfl hl.sv rfl (by omega) (by omega) ?_)
      refine L_op rfl (X_fldS (v := l) (o := (((i : Nat) : Int) : Int).toNat * 6) Fd39_0 rfl hl.sv (by omega) ?_)
      refine L_op rfl (X_load (v := e.1) T23 rfl (kkey hl (Int.toNat_natCast _) he) ?_)
      refine L_op rfl (X_len (v := e.1) (n := e.2.1.length) Try.underlying23 rfl (krd hl he).sv ?_)
      by_cases hc5 : (((e.2.1.length : Nat) : Int) : Int) > (60)
      · refine L_op rfl (X_cmp (k := .i64) (a := ((e.2.1.length : Nat) : Int)) (b := 60) (r := true) rfl rfl rfl (decide_eq_true (p := ((60) : Int) < ((((e.2.1.length : Nat) : Int)) : Int)) (by omega)) ?_)
        refine L_nil ?_
        refine T_n ?_
        refine W_ct rfl ?_
        refine W_seq ?_
        refine W_reg ?_
        refine L_op rfl (X_assign (v := (.bool (true))) rfl ?_)
        refine L_nil ?_
        refine T_n ?_
        refine W_ret ?_
        refine B_r ?_
        refine T_r ?_
        refine T_r ?_
        refine B_r ?_
        refine T_r ?_
        exact BQ_r (End_1 Try.results7 (v := .bool (true)) rfl ⟨⟨_, rfl, fun h => by cases h⟩, rfl⟩)
      · refine L_op rfl (X_cmp (k := .i64) (a := ((e.2.1.length : Nat) : Int)) (b := 60) (r := false) rfl rfl rfl (decide_eq_false (p := ((60) : Int) < ((((e.2.1.length : Nat) : Int)) : Int)) (by omega)) ?_)
        refine L_nil ?_
        refine T_n ?_
        refine W_cf rfl ?_
        refine W_skip ?_
        refine B_n ?_
        refine T_n ?_
        refine W_reg ?_
        refine L_op rfl (X_move (v := (.int .i64 (((i : Nat) : Int)))) rfl ?_)
        refine L_op rfl (X_arith (k := .i64) (a := ((i : Nat) : Int)) (b := 1) (r := ((i + 1 : Nat) : Int)) rfl rfl rfl (iadd64 (by omega) (by omega) (by omega)) ?_)
        refine L_op rfl (X_assign (v := (.int .i64 (((i + 1 : Nat) : Int)))) rfl ?_)
        refine L_nil ?_
        refine T_n ?_
        exact ⟨rfl, i + 1, ⟨⟨rfl, hi, fun j e_ hj hje => (Nat.lt_or_ge j i).elim (fun h1 => hz j e_ h1 hje) fun h1 => by obtain rfl : j = i := by { omega }; rw [he] at hje; cases hje; omega⟩, (by show es.length - (i + 1) < es.length - i; omega)⟩, (Out.mk rfl), ⟨rfl, trivial⟩⟩
    · refine L_gy (dj := 8) rfl rfl rfl (X_cmp (k := .i64) (a := ((i : Nat) : Int)) (b := 40) (r := false) rfl rfl rfl (decide_eq_false (p := ((((i : Nat) : Int)) : Int) ≤ ((40) : Int)) (by omega)) ?_)
      refine L_op rfl (X_pick (t := true) (v := (.bool (false))) rfl rfl ?_)
      refine L_nil ?_
      refine T_n ?_
      refine W_cf rfl ?_
      refine W_exit ?_
      refine T_e ?_
      refine T_e ?_
      refine B_x ?_
      refine T_n ?_
      refine W_seq ?_
      refine W_reg ?_
      refine L_op rfl (X_move (v := l) rfl ?_)
      refine L_op rfl (X_len (v := l) (n := es.length) Try.underlying22 rfl hl.sv ?_)
      refine L_op rfl (X_cmp (k := .i64) (a := ((es.length : Nat) : Int)) (b := 40) (r := decide (40 < es.length)) rfl rfl rfl (by show decide ((40 : Int) < ((es.length : Nat) : Int)) = _; congr 1; exact propext (by omega)) ?_)
      refine L_op rfl (X_assign (v := (.bool (decide (40 < es.length)))) rfl ?_)
      refine L_nil ?_
      refine T_n ?_
      refine W_ret ?_
      exact BQ_r (End_1 Try.results7 (v := .bool (decide (40 < es.length))) rfl ⟨⟨_, rfl, fun h => ⟨by have := of_decide_eq_false h; omega, fun j e hj => hz j e (by have := of_decide_eq_false h; have := (List.getElem?_eq_some_iff.1 hj).1; omega) hj⟩⟩, rfl⟩)
  · refine L_op rfl (X_cmp (k := .i64) (a := ((i : Nat) : Int)) (b := ((es.length : Nat) : Int)) (r := false) rfl rfl rfl (decide_eq_false (p := ((((i : Nat) : Int)) : Int) < ((((es.length : Nat) : Int)) : Int)) (by omega)) ?_)
    refine L_op rfl (X_move (v := (.bool (false))) rfl ?_)
    refine L_gn (dj := 8) (t := false) rfl rfl rfl rfl ?_
    refine L_gn (dj := 8) (t := false) rfl rfl rfl rfl ?_
    refine L_op rfl (X_pick (t := false) (v := (.bool (false))) rfl rfl ?_)
    refine L_nil ?_
    refine T_n ?_
    refine W_cf rfl ?_
    refine W_exit ?_
    refine T_e ?_
    refine T_e ?_
    refine B_x ?_
    refine T_n ?_
    refine W_seq ?_
    refine W_reg ?_
    refine L_op rfl (X_move (v := l) rfl ?_)
    refine L_op rfl (X_len (v := l) (n := es.length) Try.underlying22 rfl hl.sv ?_)
    refine L_op rfl (X_cmp (k := .i64) (a := ((es.length : Nat) : Int)) (b := 40) (r := decide (40 < es.length)) rfl rfl rfl (by show decide ((40 : Int) < ((es.length : Nat) : Int)) = _; congr 1; exact propext (by omega)) ?_)
    refine L_op rfl (X_assign (v := (.bool (decide (40 < es.length)))) rfl ?_)
    refine L_nil ?_
    refine T_n ?_
    refine W_ret ?_
    exact BQ_r (End_1 Try.results7 (v := .bool (decide (40 < es.length))) rfl ⟨⟨_, rfl, fun h => ⟨by have := of_decide_eq_false h; omega, fun j e hj => hz j e (by have := of_decide_eq_false h; have := (List.getElem?_eq_some_iff.1 hj).1; omega) hj⟩⟩, rfl⟩)

def Rises (es : List KE) : Prop := 2 ≤ es.length ∧ (∀ e : KE, es[0]? = some e → e.2.1.length = 0) ∧ ∀ (i : Nat) (a b : KE), es[i]? = some a → es[i + 1]? = some b → Op.bytesLess a.2.1 b.2.1 = true

theorem c_rises (l : Value) (es : List KE) (w : World) (lo hi : Nat) (hl : NRd LK w lo hi l es) : CT Try.prog 8 #[l] w fun v w' => (∃ g, v = .bool g ∧ (g = true ↔ Rises es)) ∧ Ext w w' := by
  have hmx := hl.sv.len
  have hE := Upd.refl (fun _ => False) w
  refine CT_of Try.func8 rfl rfl rfl ?_
  refine W_seq ?_
  refine W_reg ?_
  refine L_op rfl (X_assign (v := (.bool (false))) rfl ?_)
  refine L_nil ?_
  refine T_n ?_
  refine W_seq ?_
  refine W_seq ?_
  refine W_reg ?_
  refine L_op rfl (X_move (v := l) rfl ?_)
  refine L_op rfl (X_len (v := l) (n := es.length) Try.underlying22 rfl hl.sv ?_)
  by_cases hc1 : (((es.length : Nat) : Int) : Int) < (2)
  · refine L_op rfl (X_cmp (k := .i64) (a := ((es.length : Nat) : Int)) (b := 2) (r := true) rfl rfl rfl (decide_eq_true (p := ((((es.length : Nat) : Int)) : Int) < ((2) : Int)) (by omega)) ?_)
    refine L_op rfl (X_move (v := (.bool (true))) rfl ?_)
    refine L_gn (dj := 7) (t := true) rfl rfl rfl rfl ?_
    refine L_gn (dj := 7) (t := true) rfl rfl rfl rfl ?_
    refine L_gn (dj := 7) (t := true) rfl rfl rfl rfl ?_
    refine L_gn (dj := 7) (t := true) rfl rfl rfl rfl ?_
    refine L_gn (dj := 7) (t := true) rfl rfl rfl rfl ?_
    refine L_gn (dj := 7) (t := true) rfl rfl rfl rfl ?_
    refine L_op rfl (X_pick (t := true) (v := (.bool (true))) rfl rfl ?_)
    refine L_nil ?_
    refine T_n ?_
    refine W_ct rfl ?_
    refine W_seq ?_
    refine W_reg ?_
    refine L_op rfl (X_assign (v := (.bool (false))) rfl ?_)
    refine L_nil ?_
    refine T_n ?_
    refine W_ret ?_
    refine T_r ?_
    exact BQ_r (End_1 Try.results8 (v := .bool false) rfl ⟨⟨false, rfl, ⟨fun h => (by cases h), fun h => (by obtain ⟨h1, _⟩ := h; omega)⟩⟩, Ext.upd hE⟩)
  · refine L_op rfl (X_cmp (k := .i64) (a := ((es.length : Nat) : Int)) (b := 2) (r := false) rfl rfl rfl (decide_eq_false (p := ((((es.length : Nat) : Int)) : Int) < ((2) : Int)) (by omega)) ?_)
    obtain ⟨e, he0⟩ : ∃ e, es[0]? = some e := ⟨_, List.getElem?_eq_getElem (by omega)⟩
    have hkl := (krd hl he0).len
    refine L_op rfl (X_move (v := (.bool (false))) rfl ?_)
    refine L_gy (dj := 7) rfl rfl rfl (X_move (v := l) rfl ?_)
    refine L_gy (dj := 7) rfl rfl rfl (X_idx (v := l) (n := es.length) (k := .i64) (i := 0) S22 rfl hl.sv rfl (by omega) (by omega) ?_)
    refine L_gy (dj := 7) rfl rfl rfl (X_fldS (v := l) (o := (0 : Int).toNat * 6) Fd39_0 rfl hl.sv (by omega) ?_)
    refine L_gy (dj := 7) rfl rfl rfl (X_load (v := e.1) T23 rfl (kkey hl (rfl) he0) ?_)
    refine L_gy (dj := 7) rfl rfl rfl (X_len (v := e.1) (n := e.2.1.length) Try.underlying23 rfl (krd hl he0).sv ?_)
    by_cases hc3 : (((e.2.1.length : Nat) : Int) : Int) ≠ (0)
    · refine L_gy (dj := 7) rfl rfl rfl (X_cmp (k := .i64) (a := ((e.2.1.length : Nat) : Int)) (b := 0) (r := true) rfl rfl rfl (decide_eq_true (p := ((((e.2.1.length : Nat) : Int)) : Int) ≠ ((0) : Int)) (by omega)) ?_)
      refine L_op rfl (X_pick (t := false) (v := (.bool (true))) rfl rfl ?_)
      refine L_nil ?_
      refine T_n ?_
      refine W_ct rfl ?_
      refine W_seq ?_
      refine W_reg ?_
      refine L_op rfl (X_assign (v := (.bool (false))) rfl ?_)
      refine L_nil ?_
      refine T_n ?_
      refine W_ret ?_
      refine T_r ?_
      exact BQ_r (End_1 Try.results8 (v := .bool false) rfl ⟨⟨false, rfl, ⟨fun h => (by cases h), fun h => (by have := h.2.1 e he0; omega)⟩⟩, Ext.upd hE⟩)
    · refine L_gy (dj := 7) rfl rfl rfl (X_cmp (k := .i64) (a := ((e.2.1.length : Nat) : Int)) (b := 0) (r := false) rfl rfl rfl (decide_eq_false (p := ((((e.2.1.length : Nat) : Int)) : Int) ≠ ((0) : Int)) (by omega)) ?_)
      refine L_op rfl (X_pick (t := false) (v := (.bool (false))) rfl rfl ?_)
      refine L_nil ?_
      refine T_n ?_
      refine W_cf rfl ?_
      refine W_skip ?_
      refine T_n ?_
      refine W_seq ?_
      refine W_seq ?_
      refine W_reg ?_
      refine L_op rfl (X_assign (v := (.int .i64 (1))) rfl ?_)
      refine L_nil ?_
      refine T_n ?_
      refine W_block ?_
      refine W_loop (α := Nat) [2, 3, 15, 16, 17, 18, 19, 20, 21, 22, 23, 24, 25, 26, 27, 28, 29, 30, 31, 32, 33, 34] (fun i => [(3, (.int .i64 (((i : Nat) : Int))))]) (fun i w_ => 1 ≤ i ∧ i ≤ es.length ∧ NRd LK w_ lo hi l es ∧ Ext w w_ ∧ ∀ (j : Nat) (a b : KE), j + 1 < i → es[j]? = some a → es[j + 1]? = some b → Op.bytesLess a.2.1 b.2.1 = true) (fun i => es.length - i) ⟨rfl, 1, ⟨Nat.le_refl _, by omega, hl, hE, fun j a b h => by omega⟩, Out.refl _ _, ⟨rfl, trivial⟩⟩ ?_
      rintro i w4 _ ⟨hi1, hil, hl, hE, hz⟩
      refine W_seq ?_
      refine W_seq ?_
      refine W_reg ?_
      refine L_op rfl (X_move (v := (.int .i64 (((i : Nat) : Int)))) rfl ?_)
      refine L_op rfl (X_move (v := l) rfl ?_)
      refine L_op rfl (X_len (v := l) (n := es.length) Try.underlying22 rfl hl.sv ?_)
      by_cases hc5 : (((i : Nat) : Int) : Int) < (((es.length : Nat) : Int))
      · refine L_op rfl (X_cmp (k := .i64) (a := ((i : Nat) : Int)) (b := ((es.length : Nat) : Int)) (r := true) rfl rfl rfl (decide_eq_true (p := ((((i : Nat) : Int)) : Int) < ((((es.length : Nat) : Int)) : Int)) (by omega)) ?_)
        have hi : i < es.length := by omega
        obtain ⟨b, hbi⟩ : ∃ b, es[i]? = some b := ⟨_, List.getElem?_eq_getElem hi⟩
        obtain ⟨a, hai⟩ : ∃ a, es[i - 1]? = some a := ⟨_, List.getElem?_eq_getElem (by omega)⟩
        refine L_nil ?_
        refine T_n ?_
        refine W_ct rfl ?_
        refine W_skip ?_
        refine T_n ?_
        refine W_seq ?_
        refine W_block ?_
        refine W_seq ?_
        refine W_draw 13 [[], [], [1], [0, 1, 2], [0, 1, 2, 3], [0, 1, 2, 3, 4], [0, 1, 2, 3, 4, 5], [], [], [7, 8], [7, 8, 9], [7, 8, 9, 10], [7, 8, 9, 10, 11], [0, 1, 2, 3, 4, 5, 6, 7, 8, 9, 10, 11, 12]] mixed (by kernel_rfl) ?_
        refine ⟨.det (fun val => l), ⟨fun _ _ hv => rfl, fun _ _ _ _ _ => trivial⟩, fun val h_ W hx he => ⟨trivial, ?_⟩, ?_⟩
        · replace hx := (Upd.drew _ _).trans hx
          replace hl := hl.ext hx
          have hE := Upd.refl (fun _ => False) W
          refine id (X_move (v := l) rfl ?_)
          exact ⟨hE, rfl⟩
        refine ⟨.det (fun val => (.int .i64 (((i : Nat) : Int)))), ⟨fun _ _ hv => rfl, fun _ _ _ _ _ => trivial⟩, fun val h_ W hx he => ⟨trivial, ?_⟩, ?_⟩
        · replace hx := (Upd.drew _ _).trans hx
          replace hl := hl.ext hx
          have hE := Upd.refl (fun _ => False) W
          refine id (X_move (v := (.int .i64 (((i : Nat) : Int)))) rfl ?_)
          exact ⟨hE, rfl⟩
        refine ⟨.det (fun val => (.int .i64 ((((i - 1 : Nat)) : Int)))), ⟨fun _ _ hv => rfl, fun _ _ _ _ _ => trivial⟩, fun val h_ W hx he => ⟨trivial, ?_⟩, ?_⟩
        · replace hx := (Upd.drew _ _).trans hx
          replace hl := hl.ext hx
          have hE := Upd.refl (fun _ => False) W
          refine id (X_arith (k := .i64) (a := ((i : Nat) : Int)) (b := 1) (r := (((i - 1 : Nat)) : Int)) rfl rfl rfl (isub64 (by omega) (by omega) (by omega)) ?_)
          exact ⟨hE, rfl⟩
        refine ⟨.det (fun val => (pof l (((((i - 1 : Nat)) : Int) : Int).toNat * 6))), ⟨fun _ _ hv => rfl, fun _ _ _ _ _ => trivial⟩, fun val h_ W hx he => ⟨trivial, ?_⟩, ?_⟩
        · replace hx := (Upd.drew _ _).trans hx
          replace hl := hl.ext hx
          have hE := Upd.refl (fun _ => False) W
          refine id (X_idx (v := l) (n := es.length) (k := .i64) (i := (((i - 1 : Nat)) : Int)) S22 rfl hl.sv rfl (by omega) (by omega) ?_)
          exact ⟨hE, rfl⟩
        refine ⟨.det (fun val => (pof l (((((i - 1 : Nat)) : Int) : Int).toNat * 6 + 0))), ⟨fun _ _ hv => rfl, fun _ _ _ _ _ => trivial⟩, fun val h_ W hx he => ⟨trivial, ?_⟩, ?_⟩
        · replace hx := (Upd.drew _ _).trans hx
          replace hl := hl.ext hx
          have hE := Upd.refl (fun _ => False) W
          refine id (X_fldS (v := l) (o := ((((i - 1 : Nat)) : Int) : Int).toNat * 6) Fd39_0 rfl hl.sv (by omega) ?_)
          exact ⟨hE, rfl⟩
        refine ⟨.det (fun val => a.1), ⟨fun _ _ hv => rfl, fun _ _ _ _ _ => trivial⟩, fun val h_ W hx he => ⟨trivial, ?_⟩, ?_⟩
        · replace hx := (Upd.drew _ _).trans hx
          replace hl := hl.ext hx
          have hE := Upd.refl (fun _ => False) W
          refine id (X_load (v := a.1) T23 rfl (kkey hl (Int.toNat_natCast _) hai) ?_)
          exact ⟨hE, rfl⟩
        refine ⟨.det (fun val => (strV (a.2.1))), ⟨fun _ _ hv => rfl, fun _ _ _ _ _ => trivial⟩, fun val h_ W hx he => ⟨trivial, ?_⟩, ?_⟩
        · replace hx := (Upd.drew _ _).trans hx
          replace hl := hl.ext hx
          have hE := Upd.refl (fun _ => False) W
          refine id (X_str (v := a.1) (l := a.2.1) Try.underlying23 Try.underlying5 Try.underlying9 rfl (krd hl hai) ?_)
          exact ⟨hE, rfl⟩
        refine ⟨.det (fun val => l), ⟨fun _ _ hv => rfl, fun _ _ _ _ _ => trivial⟩, fun val h_ W hx he => ⟨trivial, ?_⟩, ?_⟩
        · replace hx := (Upd.drew _ _).trans hx
          replace hl := hl.ext hx
          have hE := Upd.refl (fun _ => False) W
          refine id (X_move (v := l) rfl ?_)
          exact ⟨hE, rfl⟩
        refine ⟨.det (fun val => (.int .i64 (((i : Nat) : Int)))), ⟨fun _ _ hv => rfl, fun _ _ _ _ _ => trivial⟩, fun val h_ W hx he => ⟨trivial, ?_⟩, ?_⟩
        · replace hx := (Upd.drew _ _).trans hx
          replace hl := hl.ext hx
          have hE := Upd.refl (fun _ => False) W
          refine id (X_move (v := (.int .i64 (((i : Nat) : Int)))) rfl ?_)
          exact ⟨hE, rfl⟩
        refine ⟨.det (fun val => (pof l ((((i : Nat) : Int) : Int).toNat * 6))), ⟨fun _ _ hv => rfl, fun _ _ _ _ _ => trivial⟩, fun val h_ W hx he => ⟨trivial, ?_⟩, ?_⟩
        · replace hx := (Upd.drew _ _).trans hx
          replace hl := hl.ext hx
          have hE := Upd.refl (fun _ => False) W
          refine id (X_idx (v := l) (n := es.length) (k := .i64) (i := ((i : Nat) : Int)) S22 rfl hl.sv rfl (by omega) (by omega) ?_)
          exact ⟨hE, rfl⟩
        refine ⟨.det (fun val => (pof l ((((i : Nat) : Int) : Int).toNat * 6 + 0))), ⟨fun _ _ hv => rfl, fun _ _ _ _ _ => trivial⟩, fun val h_ W hx he => ⟨trivial, ?_⟩, ?_⟩
        · replace hx := (Upd.drew _ _).trans hx
          replace hl := hl.ext hx
          have hE := Upd.refl (fun _ => False) W
          refine id (X_fldS (v := l) (o := (((i : Nat) : Int) : Int).toNat * 6) Fd39_0 rfl hl.sv (by omega) ?_)
          exact ⟨hE, rfl⟩
        refine ⟨.det (fun val => b.1), ⟨fun _ _ hv => rfl, fun _ _ _ _ _ => trivial⟩, fun val h_ W hx he => ⟨trivial, ?_⟩, ?_⟩
        · replace hx := (Upd.drew _ _).trans hx
          replace hl := hl.ext hx
          have hE := Upd.refl (fun _ => False) W
          refine id (X_load (v := b.1) T23 rfl (kkey hl (Int.toNat_natCast _) hbi) ?_)
          exact ⟨hE, rfl⟩
        refine ⟨.det (fun val => (strV (b.2.1))), ⟨fun _ _ hv => rfl, fun _ _ _ _ _ => trivial⟩, fun val h_ W hx he => ⟨trivial, ?_⟩, ?_⟩
        · replace hx := (Upd.drew _ _).trans hx
          replace hl := hl.ext hx
          have hE := Upd.refl (fun _ => False) W
          refine id (X_str (v := b.1) (l := b.2.1) Try.underlying23 Try.underlying5 Try.underlying9 rfl (krd hl hbi) ?_)
          exact ⟨hE, rfl⟩
        intro val W6 hx6 he6
        replace hx6 := (Upd.drew _ _).trans hx6
        have hz6 := hx6.size
        replace hl := hl.ext hx6
        replace hE := hE.trans (Ext.upd hx6)
        refine L_op rfl (X_scmp (a := a.2.1) (b := b.2.1) (r := !Op.bytesLess a.2.1 b.2.1) rfl rfl rfl rfl ?_)
        refine L_nil ?_
        refine T_n ?_
        refine W_cb (t := !Op.bytesLess a.2.1 b.2.1) rfl (fun hq9 => ?_) (fun hq9 => ?_)
        · have hlt := hq9
          refine W_seq ?_
          refine W_reg ?_
          refine L_op rfl (X_assign (v := (.bool (false))) rfl ?_)
          refine L_nil ?_
          refine T_n ?_
          refine W_ret ?_
          refine B_r ?_
          refine T_r ?_
          refine T_r ?_
          refine B_r ?_
          refine T_r ?_
          exact BQ_r (End_1 Try.results8 (v := .bool false) rfl ⟨⟨false, rfl, ⟨fun h => (by cases h), fun h => (by have := h.2.2 (i - 1) a b hai (by rw [show i - 1 + 1 = i by omega]; exact hbi); rw [this] at hlt; cases hlt)⟩⟩, Ext.upd hE⟩)
        · have hlt := hq9
          refine W_skip ?_
          refine B_n ?_
          refine T_n ?_
          refine W_reg ?_
          refine L_op rfl (X_move (v := (.int .i64 (((i : Nat) : Int)))) rfl ?_)
          refine L_op rfl (X_arith (k := .i64) (a := ((i : Nat) : Int)) (b := 1) (r := ((i + 1 : Nat) : Int)) rfl rfl rfl (iadd64 (by omega) (by omega) (by omega)) ?_)
          refine L_op rfl (X_assign (v := (.int .i64 (((i + 1 : Nat) : Int)))) rfl ?_)
          refine L_nil ?_
          refine T_n ?_
          exact ⟨rfl, i + 1, ⟨⟨by omega, hi, hl, hE, fun j a_ b_ hj ha hb => (Nat.lt_or_ge (j + 1) i).elim (fun h1 => hz j a_ b_ h1 ha hb) fun h1 => by obtain rfl : j = i - 1 := by { omega }; rw [show i - 1 + 1 = i by omega, hbi] at hb; rw [hai] at ha; cases ha; cases hb; simpa using hlt⟩, (by show es.length - (i + 1) < es.length - i; omega)⟩, (Out.mk rfl), ⟨rfl, trivial⟩⟩
      · refine L_op rfl (X_cmp (k := .i64) (a := ((i : Nat) : Int)) (b := ((es.length : Nat) : Int)) (r := false) rfl rfl rfl (decide_eq_false (p := ((((i : Nat) : Int)) : Int) < ((((es.length : Nat) : Int)) : Int)) (by omega)) ?_)
        refine L_nil ?_
        refine T_n ?_
        refine W_cf rfl ?_
        refine W_exit ?_
        refine T_e ?_
        refine T_e ?_
        refine B_x ?_
        refine T_n ?_
        refine W_seq ?_
        refine W_reg ?_
        refine L_op rfl (X_assign (v := (.bool (true))) rfl ?_)
        refine L_nil ?_
        refine T_n ?_
        refine W_ret ?_
        exact BQ_r (End_1 Try.results8 (v := .bool true) rfl ⟨⟨true, rfl, ⟨fun _ => ⟨by omega, fun e he1 => by rw [he0] at he1; cases he1; omega, fun j a b ha hb => hz j a b (by have := (List.getElem?_eq_some_iff.1 hb).1; omega) ha hb⟩, fun _ => rfl⟩⟩, Ext.upd hE⟩)

theorem same_step {es fs : List KE} {i : Nat} {a b : KE} (ha : es[i]? = some a) (hb : fs[i]? = some b) (hz : (es.take i).map (·.2) = (fs.take i).map (·.2)) (h : a.2 = b.2) : (es.take (i + 1)).map (·.2) = (fs.take (i + 1)).map (·.2) := by
  rw [List.take_add_one, List.take_add_one, ha, hb, List.map_append, List.map_append, hz]
  simp [h]
theorem same_kid {a b : KE} (h1 : a.2.1 = b.2.1) (h2 : a.2.2 = b.2.2) : a.2 = b.2 := Prod.ext h1 h2
theorem same_no {es fs : List KE} {i : Nat} {a b : KE} (ha : es[i]? = some a) (hb : fs[i]? = some b) (h : es.map (·.2) = fs.map (·.2)) : a.2 = b.2 := by
  have h2 : (es.map (·.2))[i]? = (fs.map (·.2))[i]? := by rw [h]
  rw [List.getElem?_map, List.getElem?_map, ha, hb] at h2
  simpa using h2

theorem c_same (l m : Value) (es fs : List KE) (w : World) (lo hi lo2 hi2 : Nat) (hl : NRd LK w lo hi l es) (hm : NRd LK w lo2 hi2 m fs) : CT Try.prog 11 #[l, m] w fun v w' => (∃ g, v = .bool g ∧ (g = true ↔ es.map (·.2) = fs.map (·.2))) ∧ Ext w w' := by
  have hmx := hl.sv.len
  have hE := Upd.refl (fun _ => False) w
  refine CT_of Try.func11 rfl rfl rfl ?_
  refine W_seq ?_
  refine W_reg ?_
  refine L_op rfl (X_assign (v := (.bool (false))) rfl ?_)
  refine L_nil ?_
  refine T_n ?_
  refine W_seq ?_
  refine W_seq ?_
  refine W_reg ?_
  refine L_op rfl (X_move (v := l) rfl ?_)
  refine L_op rfl (X_len (v := l) (n := es.length) Try.underlying22 rfl hl.sv ?_)
  refine L_op rfl (X_move (v := m) rfl ?_)
  refine L_op rfl (X_len (v := m) (n := fs.length) Try.underlying22 rfl hm.sv ?_)
  by_cases hc1 : (((es.length : Nat) : Int) : Int) ≠ (((fs.length : Nat) : Int))
  · refine L_op rfl (X_cmp (k := .i64) (a := ((es.length : Nat) : Int)) (b := ((fs.length : Nat) : Int)) (r := true) rfl rfl rfl (decide_eq_true (p := ((((es.length : Nat) : Int)) : Int) ≠ ((((fs.length : Nat) : Int)) : Int)) (by omega)) ?_)
    refine L_nil ?_
    refine T_n ?_
    refine W_ct rfl ?_
    refine W_seq ?_
    refine W_reg ?_
    refine L_op rfl (X_assign (v := (.bool (false))) rfl ?_)
    refine L_nil ?_
    refine T_n ?_
    refine W_ret ?_
    refine T_r ?_
    exact BQ_r (End_1 Try.results11 (v := .bool false) rfl ⟨⟨false, rfl, ⟨fun h => (by cases h), fun h => (by have h1 := congrArg List.length h; rw [List.length_map, List.length_map] at h1; omega)⟩⟩, Ext.upd hE⟩)
  · refine L_op rfl (X_cmp (k := .i64) (a := ((es.length : Nat) : Int)) (b := ((fs.length : Nat) : Int)) (r := false) rfl rfl rfl (decide_eq_false (p := ((((es.length : Nat) : Int)) : Int) ≠ ((((fs.length : Nat) : Int)) : Int)) (by omega)) ?_)
    refine L_nil ?_
    refine T_n ?_
    refine W_cf rfl ?_
    refine W_skip ?_
    refine T_n ?_
    refine W_seq ?_
    refine W_seq ?_
    refine W_reg ?_
    refine L_op rfl (X_assign (v := (.int .i64 (0))) rfl ?_)
    refine L_nil ?_
    refine T_n ?_
    refine W_block ?_
    refine W_loop (α := Nat) [4, 5, 11, 12, 13, 14, 15, 16, 17, 18, 19, 20, 21, 22, 23, 24, 25, 26, 27, 28, 29, 30, 31, 32, 33, 34, 35, 36, 37, 38, 39, 40, 41, 42] (fun i => [(5, (.int .i64 (((i : Nat) : Int))))]) (fun i w_ => i ≤ es.length ∧ NRd LK w_ lo hi l es ∧ NRd LK w_ lo2 hi2 m fs ∧ Ext w w_ ∧ (es.take i).map (·.2) = (fs.take i).map (·.2)) (fun i => es.length - i) ⟨rfl, 0, ⟨Nat.zero_le _, hl, hm, hE, rfl⟩, Out.refl _ _, ⟨rfl, trivial⟩⟩ ?_
    rintro i w2 _ ⟨hil, hl, hm, hE, hz⟩
    refine W_seq ?_
    refine W_seq ?_
    refine W_reg ?_
    refine L_op rfl (X_move (v := (.int .i64 (((i : Nat) : Int)))) rfl ?_)
    refine L_op rfl (X_move (v := l) rfl ?_)
    refine L_op rfl (X_len (v := l) (n := es.length) Try.underlying22 rfl hl.sv ?_)
    by_cases hc3 : (((i : Nat) : Int) : Int) < (((es.length : Nat) : Int))
    · refine L_op rfl (X_cmp (k := .i64) (a := ((i : Nat) : Int)) (b := ((es.length : Nat) : Int)) (r := true) rfl rfl rfl (decide_eq_true (p := ((((i : Nat) : Int)) : Int) < ((((es.length : Nat) : Int)) : Int)) (by omega)) ?_)
      have hi : i < es.length := by omega
      obtain ⟨a, hai⟩ : ∃ a, es[i]? = some a := ⟨_, List.getElem?_eq_getElem hi⟩
      obtain ⟨b, hbi⟩ : ∃ b, fs[i]? = some b := ⟨_, List.getElem?_eq_getElem (by omega)⟩
      refine L_nil ?_
      refine T_n ?_
      refine W_ct rfl ?_
      refine W_skip ?_
      refine T_n ?_
      refine W_seq ?_
      refine W_block ?_
      refine W_seq ?_
      rcases Bool.eq_false_or_eq_true (scmp .neq (a.2.1) (b.2.1)) with hs4 | hs4
      · rcases Bool.eq_false_or_eq_true (a.2.2 == b.2.2) with hs5 | hs5
        · refine W_draw 24 [[], [], [0, 1], [0, 1, 2], [0, 1, 2, 3], [0, 1, 2, 3, 4], [], [], [6, 7], [6, 7, 8], [6, 7, 8, 9], [6, 7, 8, 9, 10], [0, 1, 2, 3, 4, 5, 6, 7, 8, 9, 10, 11], [0, 1, 2, 3, 4, 5, 6, 7, 8, 9, 10, 11, 12], [0, 1, 2, 3, 4, 5, 6, 7, 8, 9, 10, 11, 12, 13], [0, 1, 2, 3, 4, 5, 6, 7, 8, 9, 10, 11, 12, 13], [0, 1, 2, 3, 4, 5, 6, 7, 8, 9, 10, 11, 12, 13, 14, 15], [0, 1, 2, 3, 4, 5, 6, 7, 8, 9, 10, 11, 12, 13, 14, 15, 16], [0, 1, 2, 3, 4, 5, 6, 7, 8, 9, 10, 11, 12, 13, 14, 15, 16, 17], [0, 1, 2, 3, 4, 5, 6, 7, 8, 9, 10, 11, 12, 13], [0, 1, 2, 3, 4, 5, 6, 7, 8, 9, 10, 11, 12, 13], [0, 1, 2, 3, 4, 5, 6, 7, 8, 9, 10, 11, 12, 13, 19, 20], [0, 1, 2, 3, 4, 5, 6, 7, 8, 9, 10, 11, 12, 13, 19, 20, 21], [0, 1, 2, 3, 4, 5, 6, 7, 8, 9, 10, 11, 12, 13, 19, 20, 21, 22], [0, 1, 2, 3, 4, 5, 6, 7, 8, 9, 10, 11, 12, 13, 14, 15, 16, 17, 18, 19, 20, 21, 22, 23], [0, 1, 2, 3, 4, 5, 6, 7, 8, 9, 10, 11, 12, 13, 14, 15, 16, 17, 18, 19, 20, 21, 22, 23, 24]] mixed (by kernel_rfl) ?_
          refine ⟨.det (fun val => l), ⟨fun _ _ hv => rfl, fun _ _ _ _ _ => trivial⟩, fun val h_ W hx he => ⟨trivial, ?_⟩, ?_⟩
          · replace hx := (Upd.drew _ _).trans hx
            replace hl := hl.ext hx
            replace hm := hm.ext hx
            have hE := Upd.refl (fun _ => False) W
            refine id (X_move (v := l) rfl ?_)
            exact ⟨hE, rfl⟩
          refine ⟨.det (fun val => (.int .i64 (((i : Nat) : Int)))), ⟨fun _ _ hv => rfl, fun _ _ _ _ _ => trivial⟩, fun val h_ W hx he => ⟨trivial, ?_⟩, ?_⟩
          · replace hx := (Upd.drew _ _).trans hx
            replace hl := hl.ext hx
            replace hm := hm.ext hx
            have hE := Upd.refl (fun _ => False) W
            refine id (X_move (v := (.int .i64 (((i : Nat) : Int)))) rfl ?_)
            exact ⟨hE, rfl⟩
          refine ⟨.det (fun val => (pof l ((((i : Nat) : Int) : Int).toNat * 6))), ⟨fun _ _ hv => rfl, fun _ _ _ _ _ => trivial⟩, fun val h_ W hx he => ⟨trivial, ?_⟩, ?_⟩
          · replace hx := (Upd.drew _ _).trans hx
            replace hl := hl.ext hx
            replace hm := hm.ext hx
            have hE := Upd.refl (fun _ => False) W
            refine id (X_idx (v := l) (n := es.length) (k := .i64) (i := ((i : Nat) : Int)) S22 rfl hl.sv rfl (by omega) (by omega) ?_)
            exact ⟨hE, rfl⟩
          refine ⟨.det (fun val => (pof l ((((i : Nat) : Int) : Int).toNat * 6 + 0))), ⟨fun _ _ hv => rfl, fun _ _ _ _ _ => trivial⟩, fun val h_ W hx he => ⟨trivial, ?_⟩, ?_⟩
          · replace hx := (Upd.drew _ _).trans hx
            replace hl := hl.ext hx
            replace hm := hm.ext hx
            have hE := Upd.refl (fun _ => False) W
            refine id (X_fldS (v := l) (o := (((i : Nat) : Int) : Int).toNat * 6) Fd39_0 rfl hl.sv (by omega) ?_)
            exact ⟨hE, rfl⟩
          refine ⟨.det (fun val => a.1), ⟨fun _ _ hv => rfl, fun _ _ _ _ _ => trivial⟩, fun val h_ W hx he => ⟨trivial, ?_⟩, ?_⟩
          · replace hx := (Upd.drew _ _).trans hx
            replace hl := hl.ext hx
            replace hm := hm.ext hx
            have hE := Upd.refl (fun _ => False) W
            refine id (X_load (v := a.1) T23 rfl (kkey hl (Int.toNat_natCast _) hai) ?_)
            exact ⟨hE, rfl⟩
          refine ⟨.det (fun val => (strV (a.2.1))), ⟨fun _ _ hv => rfl, fun _ _ _ _ _ => trivial⟩, fun val h_ W hx he => ⟨trivial, ?_⟩, ?_⟩
          · replace hx := (Upd.drew _ _).trans hx
            replace hl := hl.ext hx
            replace hm := hm.ext hx
            have hE := Upd.refl (fun _ => False) W
            refine id (X_str (v := a.1) (l := a.2.1) Try.underlying23 Try.underlying5 Try.underlying9 rfl (krd hl hai) ?_)
            exact ⟨hE, rfl⟩
          refine ⟨.det (fun val => m), ⟨fun _ _ hv => rfl, fun _ _ _ _ _ => trivial⟩, fun val h_ W hx he => ⟨trivial, ?_⟩, ?_⟩
          · replace hx := (Upd.drew _ _).trans hx
            replace hl := hl.ext hx
            replace hm := hm.ext hx
            have hE := Upd.refl (fun _ => False) W
            refine id (X_move (v := m) rfl ?_)
            exact ⟨hE, rfl⟩
          refine ⟨.det (fun val => (.int .i64 (((i : Nat) : Int)))), ⟨fun _ _ hv => rfl, fun _ _ _ _ _ => trivial⟩, fun val h_ W hx he => ⟨trivial, ?_⟩, ?_⟩
          · replace hx := (Upd.drew _ _).trans hx
            replace hl := hl.ext hx
            replace hm := hm.ext hx
            have hE := Upd.refl (fun _ => False) W
            refine id (X_move (v := (.int .i64 (((i : Nat) : Int)))) rfl ?_)
            exact ⟨hE, rfl⟩
          refine ⟨.det (fun val => (pof m ((((i : Nat) : Int) : Int).toNat * 6))), ⟨fun _ _ hv => rfl, fun _ _ _ _ _ => trivial⟩, fun val h_ W hx he => ⟨trivial, ?_⟩, ?_⟩
          · replace hx := (Upd.drew _ _).trans hx
            replace hl := hl.ext hx
            replace hm := hm.ext hx
            have hE := Upd.refl (fun _ => False) W
            refine id (X_idx (v := m) (n := fs.length) (k := .i64) (i := ((i : Nat) : Int)) S22 rfl hm.sv rfl (by omega) (by omega) ?_)
            exact ⟨hE, rfl⟩
          refine ⟨.det (fun val => (pof m ((((i : Nat) : Int) : Int).toNat * 6 + 0))), ⟨fun _ _ hv => rfl, fun _ _ _ _ _ => trivial⟩, fun val h_ W hx he => ⟨trivial, ?_⟩, ?_⟩
          · replace hx := (Upd.drew _ _).trans hx
            replace hl := hl.ext hx
            replace hm := hm.ext hx
            have hE := Upd.refl (fun _ => False) W
            refine id (X_fldS (v := m) (o := (((i : Nat) : Int) : Int).toNat * 6) Fd39_0 rfl hm.sv (by omega) ?_)
            exact ⟨hE, rfl⟩
          refine ⟨.det (fun val => b.1), ⟨fun _ _ hv => rfl, fun _ _ _ _ _ => trivial⟩, fun val h_ W hx he => ⟨trivial, ?_⟩, ?_⟩
          · replace hx := (Upd.drew _ _).trans hx
            replace hl := hl.ext hx
            replace hm := hm.ext hx
            have hE := Upd.refl (fun _ => False) W
            refine id (X_load (v := b.1) T23 rfl (kkey hm (Int.toNat_natCast _) hbi) ?_)
            exact ⟨hE, rfl⟩
          refine ⟨.det (fun val => (strV (b.2.1))), ⟨fun _ _ hv => rfl, fun _ _ _ _ _ => trivial⟩, fun val h_ W hx he => ⟨trivial, ?_⟩, ?_⟩
          · replace hx := (Upd.drew _ _).trans hx
            replace hl := hl.ext hx
            replace hm := hm.ext hx
            have hE := Upd.refl (fun _ => False) W
            refine id (X_str (v := b.1) (l := b.2.1) Try.underlying23 Try.underlying5 Try.underlying9 rfl (krd hm hbi) ?_)
            exact ⟨hE, rfl⟩
          refine ⟨.det (fun val => (.bool (true))), ⟨fun _ _ hv => rfl, fun _ _ _ _ _ => trivial⟩, fun val h_ W hx he => ⟨trivial, ?_⟩, ?_⟩
          · replace hx := (Upd.drew _ _).trans hx
            replace hl := hl.ext hx
            replace hm := hm.ext hx
            have hE := Upd.refl (fun _ => False) W
            refine id (X_scmp (a := a.2.1) (b := b.2.1) (r := true) rfl rfl rfl hs4 ?_)
            exact ⟨hE, rfl⟩
          refine ⟨.det (fun val => (.bool (true))), ⟨fun _ _ hv => rfl, fun _ _ _ _ _ => trivial⟩, fun val h_ W hx he => ⟨trivial, ?_⟩, ?_⟩
          · replace hx := (Upd.drew _ _).trans hx
            replace hl := hl.ext hx
            replace hm := hm.ext hx
            have hE := Upd.refl (fun _ => False) W
            refine id (X_move (v := (.bool (true))) rfl ?_)
            exact ⟨hE, rfl⟩
          refine ⟨.no, ⟨fun _ _ _ => trivial, fun _ _ _ _ _ => trivial⟩, fun val h_ W hx he => ⟨30, rfl, .inl rfl⟩, ?_⟩
          refine ⟨.no, ⟨fun _ _ _ => trivial, fun _ _ _ _ _ => trivial⟩, fun val h_ W hx he => ⟨30, rfl, .inl rfl⟩, ?_⟩
          refine ⟨.no, ⟨fun _ _ _ => trivial, fun _ _ _ _ _ => trivial⟩, fun val h_ W hx he => ⟨30, rfl, .inl rfl⟩, ?_⟩
          refine ⟨.no, ⟨fun _ _ _ => trivial, fun _ _ _ _ _ => trivial⟩, fun val h_ W hx he => ⟨30, rfl, .inl rfl⟩, ?_⟩
          refine ⟨.no, ⟨fun _ _ _ => trivial, fun _ _ _ _ _ => trivial⟩, fun val h_ W hx he => ⟨30, rfl, .inl rfl⟩, ?_⟩
          refine ⟨.no, ⟨fun _ _ _ => trivial, fun _ _ _ _ _ => trivial⟩, fun val h_ W hx he => ⟨30, rfl, .inl rfl⟩, ?_⟩
          refine ⟨.no, ⟨fun _ _ _ => trivial, fun _ _ _ _ _ => trivial⟩, fun val h_ W hx he => ⟨30, rfl, .inl rfl⟩, ?_⟩
          refine ⟨.no, ⟨fun _ _ _ => trivial, fun _ _ _ _ _ => trivial⟩, fun val h_ W hx he => ⟨30, rfl, .inl rfl⟩, ?_⟩
          refine ⟨.no, ⟨fun _ _ _ => trivial, fun _ _ _ _ _ => trivial⟩, fun val h_ W hx he => ⟨30, rfl, .inl rfl⟩, ?_⟩
          refine ⟨.no, ⟨fun _ _ _ => trivial, fun _ _ _ _ _ => trivial⟩, fun val h_ W hx he => ⟨30, rfl, .inl rfl⟩, ?_⟩
          intro val W6 hx6 he6
          replace hx6 := (Upd.drew _ _).trans hx6
          have hz6 := hx6.size
          replace hl := hl.ext hx6
          replace hm := hm.ext hx6
          replace hE := hE.trans (Ext.upd hx6)
          refine L_gn (dj := 30) (t := true) rfl rfl rfl rfl ?_
          refine L_op rfl (X_pick (t := true) (v := (.bool (true))) rfl rfl ?_)
          refine L_nil ?_
          refine T_n ?_
          refine W_ct rfl ?_
          refine W_seq ?_
          refine W_reg ?_
          refine L_op rfl (X_assign (v := (.bool (false))) rfl ?_)
          refine L_nil ?_
          refine T_n ?_
          refine W_ret ?_
          refine B_r ?_
          refine T_r ?_
          refine T_r ?_
          refine B_r ?_
          refine T_r ?_
          exact BQ_r (End_1 Try.results11 (v := .bool false) rfl ⟨⟨false, rfl, ⟨fun h => (by cases h), fun h => (by have h1 := same_no hai hbi h; rw [Prod.ext_iff] at h1; simp_all [scmp])⟩⟩, Ext.upd hE⟩)
        · refine W_draw 24 [[], [], [0, 1], [0, 1, 2], [0, 1, 2, 3], [0, 1, 2, 3, 4], [], [], [6, 7], [6, 7, 8], [6, 7, 8, 9], [6, 7, 8, 9, 10], [0, 1, 2, 3, 4, 5, 6, 7, 8, 9, 10, 11], [0, 1, 2, 3, 4, 5, 6, 7, 8, 9, 10, 11, 12], [0, 1, 2, 3, 4, 5, 6, 7, 8, 9, 10, 11, 12, 13], [0, 1, 2, 3, 4, 5, 6, 7, 8, 9, 10, 11, 12, 13], [0, 1, 2, 3, 4, 5, 6, 7, 8, 9, 10, 11, 12, 13, 14, 15], [0, 1, 2, 3, 4, 5, 6, 7, 8, 9, 10, 11, 12, 13, 14, 15, 16], [0, 1, 2, 3, 4, 5, 6, 7, 8, 9, 10, 11, 12, 13, 14, 15, 16, 17], [0, 1, 2, 3, 4, 5, 6, 7, 8, 9, 10, 11, 12, 13], [0, 1, 2, 3, 4, 5, 6, 7, 8, 9, 10, 11, 12, 13], [0, 1, 2, 3, 4, 5, 6, 7, 8, 9, 10, 11, 12, 13, 19, 20], [0, 1, 2, 3, 4, 5, 6, 7, 8, 9, 10, 11, 12, 13, 19, 20, 21], [0, 1, 2, 3, 4, 5, 6, 7, 8, 9, 10, 11, 12, 13, 19, 20, 21, 22], [0, 1, 2, 3, 4, 5, 6, 7, 8, 9, 10, 11, 12, 13, 14, 15, 16, 17, 18, 19, 20, 21, 22, 23], [0, 1, 2, 3, 4, 5, 6, 7, 8, 9, 10, 11, 12, 13, 14, 15, 16, 17, 18, 19, 20, 21, 22, 23, 24]] mixed (by kernel_rfl) ?_
          refine ⟨.det (fun val => l), ⟨fun _ _ hv => rfl, fun _ _ _ _ _ => trivial⟩, fun val h_ W hx he => ⟨trivial, ?_⟩, ?_⟩
          · replace hx := (Upd.drew _ _).trans hx
            replace hl := hl.ext hx
            replace hm := hm.ext hx
            have hE := Upd.refl (fun _ => False) W
            refine id (X_move (v := l) rfl ?_)
            exact ⟨hE, rfl⟩
          refine ⟨.det (fun val => (.int .i64 (((i : Nat) : Int)))), ⟨fun _ _ hv => rfl, fun _ _ _ _ _ => trivial⟩, fun val h_ W hx he => ⟨trivial, ?_⟩, ?_⟩
          · replace hx := (Upd.drew _ _).trans hx
            replace hl := hl.ext hx
            replace hm := hm.ext hx
            have hE := Upd.refl (fun _ => False) W
            refine id (X_move (v := (.int .i64 (((i : Nat) : Int)))) rfl ?_)
            exact ⟨hE, rfl⟩
          refine ⟨.det (fun val => (pof l ((((i : Nat) : Int) : Int).toNat * 6))), ⟨fun _ _ hv => rfl, fun _ _ _ _ _ => trivial⟩, fun val h_ W hx he => ⟨trivial, ?_⟩, ?_⟩
          · replace hx := (Upd.drew _ _).trans hx
            replace hl := hl.ext hx
            replace hm := hm.ext hx
            have hE := Upd.refl (fun _ => False) W
            refine id (X_idx (v := l) (n := es.length) (k := .i64) (i := ((i : Nat) : Int)) S22 rfl hl.sv rfl (by omega) (by omega) ?_)
            exact ⟨hE, rfl⟩
          refine ⟨.det (fun val => (pof l ((((i : Nat) : Int) : Int).toNat * 6 + 0))), ⟨fun _ _ hv => rfl, fun _ _ _ _ _ => trivial⟩, fun val h_ W hx he => ⟨trivial, ?_⟩, ?_⟩
          · replace hx := (Upd.drew _ _).trans hx
            replace hl := hl.ext hx
            replace hm := hm.ext hx
            have hE := Upd.refl (fun _ => False) W
            refine id (X_fldS (v := l) (o := (((i : Nat) : Int) : Int).toNat * 6) Fd39_0 rfl hl.sv (by omega) ?_)
            exact ⟨hE, rfl⟩
          refine ⟨.det (fun val => a.1), ⟨fun _ _ hv => rfl, fun _ _ _ _ _ => trivial⟩, fun val h_ W hx he => ⟨trivial, ?_⟩, ?_⟩
          · replace hx := (Upd.drew _ _).trans hx
            replace hl := hl.ext hx
            replace hm := hm.ext hx
            have hE := Upd.refl (fun _ => False) W
            refine id (X_load (v := a.1) T23 rfl (kkey hl (Int.toNat_natCast _) hai) ?_)
            exact ⟨hE, rfl⟩
          refine ⟨.det (fun val => (strV (a.2.1))), ⟨fun _ _ hv => rfl, fun _ _ _ _ _ => trivial⟩, fun val h_ W hx he => ⟨trivial, ?_⟩, ?_⟩
          · replace hx := (Upd.drew _ _).trans hx
            replace hl := hl.ext hx
            replace hm := hm.ext hx
            have hE := Upd.refl (fun _ => False) W
            refine id (X_str (v := a.1) (l := a.2.1) Try.underlying23 Try.underlying5 Try.underlying9 rfl (krd hl hai) ?_)
            exact ⟨hE, rfl⟩
          refine ⟨.det (fun val => m), ⟨fun _ _ hv => rfl, fun _ _ _ _ _ => trivial⟩, fun val h_ W hx he => ⟨trivial, ?_⟩, ?_⟩
          · replace hx := (Upd.drew _ _).trans hx
            replace hl := hl.ext hx
            replace hm := hm.ext hx
            have hE := Upd.refl (fun _ => False) W
            refine id (X_move (v := m) rfl ?_)
            exact ⟨hE, rfl⟩
          refine ⟨.det (fun val => (.int .i64 (((i : Nat) : Int)))), ⟨fun _ _ hv => rfl, fun _ _ _ _ _ => trivial⟩, fun val h_ W hx he => ⟨trivial, ?_⟩, ?_⟩
          · replace hx := (Upd.drew _ _).trans hx
            replace hl := hl.ext hx
            replace hm := hm.ext hx
            have hE := Upd.refl (fun _ => False) W
            refine id (X_move (v := (.int .i64 (((i : Nat) : Int)))) rfl ?_)
            exact ⟨hE, rfl⟩
          refine ⟨.det (fun val => (pof m ((((i : Nat) : Int) : Int).toNat * 6))), ⟨fun _ _ hv => rfl, fun _ _ _ _ _ => trivial⟩, fun val h_ W hx he => ⟨trivial, ?_⟩, ?_⟩
          · replace hx := (Upd.drew _ _).trans hx
            replace hl := hl.ext hx
            replace hm := hm.ext hx
            have hE := Upd.refl (fun _ => False) W
            refine id (X_idx (v := m) (n := fs.length) (k := .i64) (i := ((i : Nat) : Int)) S22 rfl hm.sv rfl (by omega) (by omega) ?_)
            exact ⟨hE, rfl⟩
          refine ⟨.det (fun val => (pof m ((((i : Nat) : Int) : Int).toNat * 6 + 0))), ⟨fun _ _ hv => rfl, fun _ _ _ _ _ => trivial⟩, fun val h_ W hx he => ⟨trivial, ?_⟩, ?_⟩
          · replace hx := (Upd.drew _ _).trans hx
            replace hl := hl.ext hx
            replace hm := hm.ext hx
            have hE := Upd.refl (fun _ => False) W
            refine id (X_fldS (v := m) (o := (((i : Nat) : Int) : Int).toNat * 6) Fd39_0 rfl hm.sv (by omega) ?_)
            exact ⟨hE, rfl⟩
          refine ⟨.det (fun val => b.1), ⟨fun _ _ hv => rfl, fun _ _ _ _ _ => trivial⟩, fun val h_ W hx he => ⟨trivial, ?_⟩, ?_⟩
          · replace hx := (Upd.drew _ _).trans hx
            replace hl := hl.ext hx
            replace hm := hm.ext hx
            have hE := Upd.refl (fun _ => False) W
            refine id (X_load (v := b.1) T23 rfl (kkey hm (Int.toNat_natCast _) hbi) ?_)
            exact ⟨hE, rfl⟩
          refine ⟨.det (fun val => (strV (b.2.1))), ⟨fun _ _ hv => rfl, fun _ _ _ _ _ => trivial⟩, fun val h_ W hx he => ⟨trivial, ?_⟩, ?_⟩
          · replace hx := (Upd.drew _ _).trans hx
            replace hl := hl.ext hx
            replace hm := hm.ext hx
            have hE := Upd.refl (fun _ => False) W
            refine id (X_str (v := b.1) (l := b.2.1) Try.underlying23 Try.underlying5 Try.underlying9 rfl (krd hm hbi) ?_)
            exact ⟨hE, rfl⟩
          refine ⟨.det (fun val => (.bool (true))), ⟨fun _ _ hv => rfl, fun _ _ _ _ _ => trivial⟩, fun val h_ W hx he => ⟨trivial, ?_⟩, ?_⟩
          · replace hx := (Upd.drew _ _).trans hx
            replace hl := hl.ext hx
            replace hm := hm.ext hx
            have hE := Upd.refl (fun _ => False) W
            refine id (X_scmp (a := a.2.1) (b := b.2.1) (r := true) rfl rfl rfl hs4 ?_)
            exact ⟨hE, rfl⟩
          refine ⟨.det (fun val => (.bool (true))), ⟨fun _ _ hv => rfl, fun _ _ _ _ _ => trivial⟩, fun val h_ W hx he => ⟨trivial, ?_⟩, ?_⟩
          · replace hx := (Upd.drew _ _).trans hx
            replace hl := hl.ext hx
            replace hm := hm.ext hx
            have hE := Upd.refl (fun _ => False) W
            refine id (X_move (v := (.bool (true))) rfl ?_)
            exact ⟨hE, rfl⟩
          refine ⟨.no, ⟨fun _ _ _ => trivial, fun _ _ _ _ _ => trivial⟩, fun val h_ W hx he => ⟨30, rfl, .inl rfl⟩, ?_⟩
          refine ⟨.no, ⟨fun _ _ _ => trivial, fun _ _ _ _ _ => trivial⟩, fun val h_ W hx he => ⟨30, rfl, .inl rfl⟩, ?_⟩
          refine ⟨.no, ⟨fun _ _ _ => trivial, fun _ _ _ _ _ => trivial⟩, fun val h_ W hx he => ⟨30, rfl, .inl rfl⟩, ?_⟩
          refine ⟨.no, ⟨fun _ _ _ => trivial, fun _ _ _ _ _ => trivial⟩, fun val h_ W hx he => ⟨30, rfl, .inl rfl⟩, ?_⟩
          refine ⟨.no, ⟨fun _ _ _ => trivial, fun _ _ _ _ _ => trivial⟩, fun val h_ W hx he => ⟨30, rfl, .inl rfl⟩, ?_⟩
          refine ⟨.no, ⟨fun _ _ _ => trivial, fun _ _ _ _ _ => trivial⟩, fun val h_ W hx he => ⟨30, rfl, .inl rfl⟩, ?_⟩
          refine ⟨.no, ⟨fun _ _ _ => trivial, fun _ _ _ _ _ => trivial⟩, fun val h_ W hx he => ⟨30, rfl, .inl rfl⟩, ?_⟩
          refine ⟨.no, ⟨fun _ _ _ => trivial, fun _ _ _ _ _ => trivial⟩, fun val h_ W hx he => ⟨30, rfl, .inl rfl⟩, ?_⟩
          refine ⟨.no, ⟨fun _ _ _ => trivial, fun _ _ _ _ _ => trivial⟩, fun val h_ W hx he => ⟨30, rfl, .inl rfl⟩, ?_⟩
          refine ⟨.no, ⟨fun _ _ _ => trivial, fun _ _ _ _ _ => trivial⟩, fun val h_ W hx he => ⟨30, rfl, .inl rfl⟩, ?_⟩
          intro val W9 hx9 he9
          replace hx9 := (Upd.drew _ _).trans hx9
          have hz9 := hx9.size
          replace hl := hl.ext hx9
          replace hm := hm.ext hx9
          replace hE := hE.trans (Ext.upd hx9)
          refine L_gn (dj := 30) (t := true) rfl rfl rfl rfl ?_
          refine L_op rfl (X_pick (t := true) (v := (.bool (true))) rfl rfl ?_)
          refine L_nil ?_
          refine T_n ?_
          refine W_ct rfl ?_
          refine W_seq ?_
          refine W_reg ?_
          refine L_op rfl (X_assign (v := (.bool (false))) rfl ?_)
          refine L_nil ?_
          refine T_n ?_
          refine W_ret ?_
          refine B_r ?_
          refine T_r ?_
          refine T_r ?_
          refine B_r ?_
          refine T_r ?_
          exact BQ_r (End_1 Try.results11 (v := .bool false) rfl ⟨⟨false, rfl, ⟨fun h => (by cases h), fun h => (by have h1 := same_no hai hbi h; rw [Prod.ext_iff] at h1; simp_all [scmp])⟩⟩, Ext.upd hE⟩)
      · rcases Bool.eq_false_or_eq_true (a.2.2 == b.2.2) with hs12 | hs12
        · refine W_draw 24 [[], [], [0, 1], [0, 1, 2], [0, 1, 2, 3], [0, 1, 2, 3, 4], [], [], [6, 7], [6, 7, 8], [6, 7, 8, 9], [6, 7, 8, 9, 10], [0, 1, 2, 3, 4, 5, 6, 7, 8, 9, 10, 11], [0, 1, 2, 3, 4, 5, 6, 7, 8, 9, 10, 11, 12], [0, 1, 2, 3, 4, 5, 6, 7, 8, 9, 10, 11, 12, 13], [0, 1, 2, 3, 4, 5, 6, 7, 8, 9, 10, 11, 12, 13], [0, 1, 2, 3, 4, 5, 6, 7, 8, 9, 10, 11, 12, 13, 14, 15], [0, 1, 2, 3, 4, 5, 6, 7, 8, 9, 10, 11, 12, 13, 14, 15, 16], [0, 1, 2, 3, 4, 5, 6, 7, 8, 9, 10, 11, 12, 13, 14, 15, 16, 17], [0, 1, 2, 3, 4, 5, 6, 7, 8, 9, 10, 11, 12, 13], [0, 1, 2, 3, 4, 5, 6, 7, 8, 9, 10, 11, 12, 13], [0, 1, 2, 3, 4, 5, 6, 7, 8, 9, 10, 11, 12, 13, 19, 20], [0, 1, 2, 3, 4, 5, 6, 7, 8, 9, 10, 11, 12, 13, 19, 20, 21], [0, 1, 2, 3, 4, 5, 6, 7, 8, 9, 10, 11, 12, 13, 19, 20, 21, 22], [0, 1, 2, 3, 4, 5, 6, 7, 8, 9, 10, 11, 12, 13, 14, 15, 16, 17, 18, 19, 20, 21, 22, 23], [0, 1, 2, 3, 4, 5, 6, 7, 8, 9, 10, 11, 12, 13, 14, 15, 16, 17, 18, 19, 20, 21, 22, 23, 24]] mixed (by kernel_rfl) ?_
          refine ⟨.det (fun val => l), ⟨fun _ _ hv => rfl, fun _ _ _ _ _ => trivial⟩, fun val h_ W hx he => ⟨trivial, ?_⟩, ?_⟩
          · replace hx := (Upd.drew _ _).trans hx
            replace hl := hl.ext hx
            replace hm := hm.ext hx
            have hE := Upd.refl (fun _ => False) W
            refine id (X_move (v := l) rfl ?_)
            exact ⟨hE, rfl⟩
          refine ⟨.det (fun val => (.int .i64 (((i : Nat) : Int)))), ⟨fun _ _ hv => rfl, fun _ _ _ _ _ => trivial⟩, fun val h_ W hx he => ⟨trivial, ?_⟩, ?_⟩
          · replace hx := (Upd.drew _ _).trans hx
            replace hl := hl.ext hx
            replace hm := hm.ext hx
            have hE := Upd.refl (fun _ => False) W
            refine id (X_move (v := (.int .i64 (((i : Nat) : Int)))) rfl ?_)
            exact ⟨hE, rfl⟩
          refine ⟨.det (fun val => (pof l ((((i : Nat) : Int) : Int).toNat * 6))), ⟨fun _ _ hv => rfl, fun _ _ _ _ _ => trivial⟩, fun val h_ W hx he => ⟨trivial, ?_⟩, ?_⟩
          · replace hx := (Upd.drew _ _).trans hx
            replace hl := hl.ext hx
            replace hm := hm.ext hx
            have hE := Upd.refl (fun _ => False) W
            refine id (X_idx (v := l) (n := es.length) (k := .i64) (i := ((i : Nat) : Int)) S22 rfl hl.sv rfl (by omega) (by omega) ?_)
            exact ⟨hE, rfl⟩
          refine ⟨.det (fun val => (pof l ((((i : Nat) : Int) : Int).toNat * 6 + 0))), ⟨fun _ _ hv => rfl, fun _ _ _ _ _ => trivial⟩, fun val h_ W hx he => ⟨trivial, ?_⟩, ?_⟩
          · replace hx := (Upd.drew _ _).trans hx
            replace hl := hl.ext hx
            replace hm := hm.ext hx
            have hE := Upd.refl (fun _ => False) W
            refine id (X_fldS (v := l) (o := (((i : Nat) : Int) : Int).toNat * 6) Fd39_0 rfl hl.sv (by omega) ?_)
            exact ⟨hE, rfl⟩
          refine ⟨.det (fun val => a.1), ⟨fun _ _ hv => rfl, fun _ _ _ _ _ => trivial⟩, fun val h_ W hx he => ⟨trivial, ?_⟩, ?_⟩
          · replace hx := (Upd.drew _ _).trans hx
            replace hl := hl.ext hx
            replace hm := hm.ext hx
            have hE := Upd.refl (fun _ => False) W
            refine id (X_load (v := a.1) T23 rfl (kkey hl (Int.toNat_natCast _) hai) ?_)
            exact ⟨hE, rfl⟩
          refine ⟨.det (fun val => (strV (a.2.1))), ⟨fun _ _ hv => rfl, fun _ _ _ _ _ => trivial⟩, fun val h_ W hx he => ⟨trivial, ?_⟩, ?_⟩
          · replace hx := (Upd.drew _ _).trans hx
            replace hl := hl.ext hx
            replace hm := hm.ext hx
            have hE := Upd.refl (fun _ => False) W
            refine id (X_str (v := a.1) (l := a.2.1) Try.underlying23 Try.underlying5 Try.underlying9 rfl (krd hl hai) ?_)
            exact ⟨hE, rfl⟩
          refine ⟨.det (fun val => m), ⟨fun _ _ hv => rfl, fun _ _ _ _ _ => trivial⟩, fun val h_ W hx he => ⟨trivial, ?_⟩, ?_⟩
          · replace hx := (Upd.drew _ _).trans hx
            replace hl := hl.ext hx
            replace hm := hm.ext hx
            have hE := Upd.refl (fun _ => False) W
            refine id (X_move (v := m) rfl ?_)
            exact ⟨hE, rfl⟩
          refine ⟨.det (fun val => (.int .i64 (((i : Nat) : Int)))), ⟨fun _ _ hv => rfl, fun _ _ _ _ _ => trivial⟩, fun val h_ W hx he => ⟨trivial, ?_⟩, ?_⟩
          · replace hx := (Upd.drew _ _).trans hx
            replace hl := hl.ext hx
            replace hm := hm.ext hx
            have hE := Upd.refl (fun _ => False) W
            refine id (X_move (v := (.int .i64 (((i : Nat) : Int)))) rfl ?_)
            exact ⟨hE, rfl⟩
          refine ⟨.det (fun val => (pof m ((((i : Nat) : Int) : Int).toNat * 6))), ⟨fun _ _ hv => rfl, fun _ _ _ _ _ => trivial⟩, fun val h_ W hx he => ⟨trivial, ?_⟩, ?_⟩
          · replace hx := (Upd.drew _ _).trans hx
            replace hl := hl.ext hx
            replace hm := hm.ext hx
            have hE := Upd.refl (fun _ => False) W
            refine id (X_idx (v := m) (n := fs.length) (k := .i64) (i := ((i : Nat) : Int)) S22 rfl hm.sv rfl (by omega) (by omega) ?_)
            exact ⟨hE, rfl⟩
          refine ⟨.det (fun val => (pof m ((((i : Nat) : Int) : Int).toNat * 6 + 0))), ⟨fun _ _ hv => rfl, fun _ _ _ _ _ => trivial⟩, fun val h_ W hx he => ⟨trivial, ?_⟩, ?_⟩
          · replace hx := (Upd.drew _ _).trans hx
            replace hl := hl.ext hx
            replace hm := hm.ext hx
            have hE := Upd.refl (fun _ => False) W
            refine id (X_fldS (v := m) (o := (((i : Nat) : Int) : Int).toNat * 6) Fd39_0 rfl hm.sv (by omega) ?_)
            exact ⟨hE, rfl⟩
          refine ⟨.det (fun val => b.1), ⟨fun _ _ hv => rfl, fun _ _ _ _ _ => trivial⟩, fun val h_ W hx he => ⟨trivial, ?_⟩, ?_⟩
          · replace hx := (Upd.drew _ _).trans hx
            replace hl := hl.ext hx
            replace hm := hm.ext hx
            have hE := Upd.refl (fun _ => False) W
            refine id (X_load (v := b.1) T23 rfl (kkey hm (Int.toNat_natCast _) hbi) ?_)
            exact ⟨hE, rfl⟩
          refine ⟨.det (fun val => (strV (b.2.1))), ⟨fun _ _ hv => rfl, fun _ _ _ _ _ => trivial⟩, fun val h_ W hx he => ⟨trivial, ?_⟩, ?_⟩
          · replace hx := (Upd.drew _ _).trans hx
            replace hl := hl.ext hx
            replace hm := hm.ext hx
            have hE := Upd.refl (fun _ => False) W
            refine id (X_str (v := b.1) (l := b.2.1) Try.underlying23 Try.underlying5 Try.underlying9 rfl (krd hm hbi) ?_)
            exact ⟨hE, rfl⟩
          refine ⟨.det (fun val => (.bool (false))), ⟨fun _ _ hv => rfl, fun _ _ _ _ _ => trivial⟩, fun val h_ W hx he => ⟨trivial, ?_⟩, ?_⟩
          · replace hx := (Upd.drew _ _).trans hx
            replace hl := hl.ext hx
            replace hm := hm.ext hx
            have hE := Upd.refl (fun _ => False) W
            refine id (X_scmp (a := a.2.1) (b := b.2.1) (r := false) rfl rfl rfl hs4 ?_)
            exact ⟨hE, rfl⟩
          refine ⟨.det (fun val => (.bool (false))), ⟨fun _ _ hv => rfl, fun _ _ _ _ _ => trivial⟩, fun val h_ W hx he => ⟨trivial, ?_⟩, ?_⟩
          · replace hx := (Upd.drew _ _).trans hx
            replace hl := hl.ext hx
            replace hm := hm.ext hx
            have hE := Upd.refl (fun _ => False) W
            refine id (X_move (v := (.bool (false))) rfl ?_)
            exact ⟨hE, rfl⟩
          refine ⟨.det (fun val => l), ⟨fun _ _ hv => rfl, fun _ _ _ _ _ => trivial⟩, fun val h_ W hx he => ⟨⟨30, rfl, rfl⟩, ?_⟩, ?_⟩
          · replace hx := (Upd.drew _ _).trans hx
            replace hl := hl.ext hx
            replace hm := hm.ext hx
            have hE := Upd.refl (fun _ => False) W
            refine id (X_move (v := l) rfl ?_)
            exact ⟨hE, rfl⟩
          refine ⟨.det (fun val => (.int .i64 (((i : Nat) : Int)))), ⟨fun _ _ hv => rfl, fun _ _ _ _ _ => trivial⟩, fun val h_ W hx he => ⟨⟨30, rfl, rfl⟩, ?_⟩, ?_⟩
          · replace hx := (Upd.drew _ _).trans hx
            replace hl := hl.ext hx
            replace hm := hm.ext hx
            have hE := Upd.refl (fun _ => False) W
            refine id (X_move (v := (.int .i64 (((i : Nat) : Int)))) rfl ?_)
            exact ⟨hE, rfl⟩
          refine ⟨.det (fun val => (pof l ((((i : Nat) : Int) : Int).toNat * 6))), ⟨fun _ _ hv => rfl, fun _ _ _ _ _ => trivial⟩, fun val h_ W hx he => ⟨⟨30, rfl, rfl⟩, ?_⟩, ?_⟩
          · replace hx := (Upd.drew _ _).trans hx
            replace hl := hl.ext hx
            replace hm := hm.ext hx
            have hE := Upd.refl (fun _ => False) W
            refine id (X_idx (v := l) (n := es.length) (k := .i64) (i := ((i : Nat) : Int)) S22 rfl hl.sv rfl (by omega) (by omega) ?_)
            exact ⟨hE, rfl⟩
          refine ⟨.det (fun val => (pof l ((((i : Nat) : Int) : Int).toNat * 6 + 1))), ⟨fun _ _ hv => rfl, fun _ _ _ _ _ => trivial⟩, fun val h_ W hx he => ⟨⟨30, rfl, rfl⟩, ?_⟩, ?_⟩
          · replace hx := (Upd.drew _ _).trans hx
            replace hl := hl.ext hx
            replace hm := hm.ext hx
            have hE := Upd.refl (fun _ => False) W
            refine id (X_fldS (v := l) (o := (((i : Nat) : Int) : Int).toNat * 6) Fd39_1 rfl hl.sv (by omega) ?_)
            exact ⟨hE, rfl⟩
          refine ⟨.det (fun val => (.agg (ptC a.2.2).toArray)), ⟨fun _ _ hv => rfl, fun _ _ _ _ _ => trivial⟩, fun val h_ W hx he => ⟨⟨30, rfl, rfl⟩, ?_⟩, ?_⟩
          · replace hx := (Upd.drew _ _).trans hx
            replace hl := hl.ext hx
            replace hm := hm.ext hx
            have hE := Upd.refl (fun _ => False) W
            refine id (X_loadA (xs := ptC a.2.2) A37 rfl (kptr hl (Int.toNat_natCast _) hai) rfl ?_)
            exact ⟨hE, rfl⟩
          refine ⟨.det (fun val => m), ⟨fun _ _ hv => rfl, fun _ _ _ _ _ => trivial⟩, fun val h_ W hx he => ⟨⟨30, rfl, rfl⟩, ?_⟩, ?_⟩
          · replace hx := (Upd.drew _ _).trans hx
            replace hl := hl.ext hx
            replace hm := hm.ext hx
            have hE := Upd.refl (fun _ => False) W
            refine id (X_move (v := m) rfl ?_)
            exact ⟨hE, rfl⟩
          refine ⟨.det (fun val => (.int .i64 (((i : Nat) : Int)))), ⟨fun _ _ hv => rfl, fun _ _ _ _ _ => trivial⟩, fun val h_ W hx he => ⟨⟨30, rfl, rfl⟩, ?_⟩, ?_⟩
          · replace hx := (Upd.drew _ _).trans hx
            replace hl := hl.ext hx
            replace hm := hm.ext hx
            have hE := Upd.refl (fun _ => False) W
            refine id (X_move (v := (.int .i64 (((i : Nat) : Int)))) rfl ?_)
            exact ⟨hE, rfl⟩
          refine ⟨.det (fun val => (pof m ((((i : Nat) : Int) : Int).toNat * 6))), ⟨fun _ _ hv => rfl, fun _ _ _ _ _ => trivial⟩, fun val h_ W hx he => ⟨⟨30, rfl, rfl⟩, ?_⟩, ?_⟩
          · replace hx := (Upd.drew _ _).trans hx
            replace hl := hl.ext hx
            replace hm := hm.ext hx
            have hE := Upd.refl (fun _ => False) W
            refine id (X_idx (v := m) (n := fs.length) (k := .i64) (i := ((i : Nat) : Int)) S22 rfl hm.sv rfl (by omega) (by omega) ?_)
            exact ⟨hE, rfl⟩
          refine ⟨.det (fun val => (pof m ((((i : Nat) : Int) : Int).toNat * 6 + 1))), ⟨fun _ _ hv => rfl, fun _ _ _ _ _ => trivial⟩, fun val h_ W hx he => ⟨⟨30, rfl, rfl⟩, ?_⟩, ?_⟩
          · replace hx := (Upd.drew _ _).trans hx
            replace hl := hl.ext hx
            replace hm := hm.ext hx
            have hE := Upd.refl (fun _ => False) W
            refine id (X_fldS (v := m) (o := (((i : Nat) : Int) : Int).toNat * 6) Fd39_1 rfl hm.sv (by omega) ?_)
            exact ⟨hE, rfl⟩
          refine ⟨.det (fun val => (.agg (ptC b.2.2).toArray)), ⟨fun _ _ hv => rfl, fun _ _ _ _ _ => trivial⟩, fun val h_ W hx he => ⟨⟨30, rfl, rfl⟩, ?_⟩, ?_⟩
          · replace hx := (Upd.drew _ _).trans hx
            replace hl := hl.ext hx
            replace hm := hm.ext hx
            have hE := Upd.refl (fun _ => False) W
            refine id (X_loadA (xs := ptC b.2.2) A37 rfl (kptr hm (Int.toNat_natCast _) hbi) rfl ?_)
            exact ⟨hE, rfl⟩
          intro val W13 hx13 he13
          replace hx13 := (Upd.drew _ _).trans hx13
          have hz13 := hx13.size
          replace hl := hl.ext hx13
          replace hm := hm.ext hx13
          replace hE := hE.trans (Ext.upd hx13)
          refine L_gy (dj := 30) rfl rfl rfl (X_eqP (p := a.2.2) (q := b.2.2) (r := false) Try.underlying37 u37 (by kernel_rfl) (by decide) ⟨rfl, rfl, rfl, rfl⟩ Try.underlying5 Try.underlying33 (by kernel_rfl) Try.underlying32 (ie := _) rfl (by kernel_rfl) Try.underlying34 Try.underlying35 (by kernel_rfl) rfl rfl (.inr ⟨rfl, by rw [hs12]; rfl⟩) ?_)
          refine L_op rfl (X_pick (t := false) (v := (.bool (false))) rfl rfl ?_)
          refine L_nil ?_
          refine T_n ?_
          refine W_cf rfl ?_
          refine W_skip ?_
          refine B_n ?_
          refine T_n ?_
          refine W_reg ?_
          refine L_op rfl (X_move (v := (.int .i64 (((i : Nat) : Int)))) rfl ?_)
          refine L_op rfl (X_arith (k := .i64) (a := ((i : Nat) : Int)) (b := 1) (r := ((i + 1 : Nat) : Int)) rfl rfl rfl (iadd64 (by omega) (by omega) (by omega)) ?_)
          refine L_op rfl (X_assign (v := (.int .i64 (((i + 1 : Nat) : Int)))) rfl ?_)
          refine L_nil ?_
          refine T_n ?_
          exact ⟨rfl, i + 1, ⟨⟨hi, hl, hm, hE, same_step hai hbi hz (same_kid (by simpa [scmp] using hs4) (by simpa using hs12))⟩, (by show es.length - (i + 1) < es.length - i; omega)⟩, (Out.mk rfl), ⟨rfl, trivial⟩⟩
        · refine W_draw 24 [[], [], [0, 1], [0, 1, 2], [0, 1, 2, 3], [0, 1, 2, 3, 4], [], [], [6, 7], [6, 7, 8], [6, 7, 8, 9], [6, 7, 8, 9, 10], [0, 1, 2, 3, 4, 5, 6, 7, 8, 9, 10, 11], [0, 1, 2, 3, 4, 5, 6, 7, 8, 9, 10, 11, 12], [0, 1, 2, 3, 4, 5, 6, 7, 8, 9, 10, 11, 12, 13], [0, 1, 2, 3, 4, 5, 6, 7, 8, 9, 10, 11, 12, 13], [0, 1, 2, 3, 4, 5, 6, 7, 8, 9, 10, 11, 12, 13, 14, 15], [0, 1, 2, 3, 4, 5, 6, 7, 8, 9, 10, 11, 12, 13, 14, 15, 16], [0, 1, 2, 3, 4, 5, 6, 7, 8, 9, 10, 11, 12, 13, 14, 15, 16, 17], [0, 1, 2, 3, 4, 5, 6, 7, 8, 9, 10, 11, 12, 13], [0, 1, 2, 3, 4, 5, 6, 7, 8, 9, 10, 11, 12, 13], [0, 1, 2, 3, 4, 5, 6, 7, 8, 9, 10, 11, 12, 13, 19, 20], [0, 1, 2, 3, 4, 5, 6, 7, 8, 9, 10, 11, 12, 13, 19, 20, 21], [0, 1, 2, 3, 4, 5, 6, 7, 8, 9, 10, 11, 12, 13, 19, 20, 21, 22], [0, 1, 2, 3, 4, 5, 6, 7, 8, 9, 10, 11, 12, 13, 14, 15, 16, 17, 18, 19, 20, 21, 22, 23], [0, 1, 2, 3, 4, 5, 6, 7, 8, 9, 10, 11, 12, 13, 14, 15, 16, 17, 18, 19, 20, 21, 22, 23, 24]] mixed (by kernel_rfl) ?_
          refine ⟨.det (fun val => l), ⟨fun _ _ hv => rfl, fun _ _ _ _ _ => trivial⟩, fun val h_ W hx he => ⟨trivial, ?_⟩, ?_⟩
          · replace hx := (Upd.drew _ _).trans hx
            replace hl := hl.ext hx
            replace hm := hm.ext hx
            have hE := Upd.refl (fun _ => False) W
            refine id (X_move (v := l) rfl ?_)
            exact ⟨hE, rfl⟩
          refine ⟨.det (fun val => (.int .i64 (((i : Nat) : Int)))), ⟨fun _ _ hv => rfl, fun _ _ _ _ _ => trivial⟩, fun val h_ W hx he => ⟨trivial, ?_⟩, ?_⟩
          · replace hx := (Upd.drew _ _).trans hx
            replace hl := hl.ext hx
            replace hm := hm.ext hx
            have hE := Upd.refl (fun _ => False) W
            refine id (X_move (v := (.int .i64 (((i : Nat) : Int)))) rfl ?_)
            exact ⟨hE, rfl⟩
          refine ⟨.det (fun val => (pof l ((((i : Nat) : Int) : Int).toNat * 6))), ⟨fun _ _ hv => rfl, fun _ _ _ _ _ => trivial⟩, fun val h_ W hx he => ⟨trivial, ?_⟩, ?_⟩
          · replace hx := (Upd.drew _ _).trans hx
            replace hl := hl.ext hx
            replace hm := hm.ext hx
            have hE := Upd.refl (fun _ => False) W
            refine id (X_idx (v := l) (n := es.length) (k := .i64) (i := ((i : Nat) : Int)) S22 rfl hl.sv rfl (by omega) (by omega) ?_)
            exact ⟨hE, rfl⟩
          refine ⟨.det (fun val => (pof l ((((i : Nat) : Int) : Int).toNat * 6 + 0))), ⟨fun _ _ hv => rfl, fun _ _ _ _ _ => trivial⟩, fun val h_ W hx he => ⟨trivial, ?_⟩, ?_⟩
          · replace hx := (Upd.drew _ _).trans hx
            replace hl := hl.ext hx
            replace hm := hm.ext hx
            have hE := Upd.refl (fun _ => False) W
            refine id (X_fldS (v := l) (o := (((i : Nat) : Int) : Int).toNat * 6) Fd39_0 rfl hl.sv (by omega) ?_)
            exact ⟨hE, rfl⟩
          refine ⟨.det (fun val => a.1), ⟨fun _ _ hv => rfl, fun _ _ _ _ _ => trivial⟩, fun val h_ W hx he => ⟨trivial, ?_⟩, ?_⟩
          · replace hx := (Upd.drew _ _).trans hx
            replace hl := hl.ext hx
            replace hm := hm.ext hx
            have hE := Upd.refl (fun _ => False) W
            refine id (X_load (v := a.1) T23 rfl (kkey hl (Int.toNat_natCast _) hai) ?_)
            exact ⟨hE, rfl⟩
          refine ⟨.det (fun val => (strV (a.2.1))), ⟨fun _ _ hv => rfl, fun _ _ _ _ _ => trivial⟩, fun val h_ W hx he => ⟨trivial, ?_⟩, ?_⟩
          · replace hx := (Upd.drew _ _).trans hx
            replace hl := hl.ext hx
            replace hm := hm.ext hx
            have hE := Upd.refl (fun _ => False) W
            refine id (X_str (v := a.1) (l := a.2.1) Try.underlying23 Try.underlying5 Try.underlying9 rfl (krd hl hai) ?_)
            exact ⟨hE, rfl⟩
          refine ⟨.det (fun val => m), ⟨fun _ _ hv => rfl, fun _ _ _ _ _ => trivial⟩, fun val h_ W hx he => ⟨trivial, ?_⟩, ?_⟩
          · replace hx := (Upd.drew _ _).trans hx
            replace hl := hl.ext hx
            replace hm := hm.ext hx
            have hE := Upd.refl (fun _ => False) W
            refine id (X_move (v := m) rfl ?_)
            exact ⟨hE, rfl⟩
          refine ⟨.det (fun val => (.int .i64 (((i : Nat) : Int)))), ⟨fun _ _ hv => rfl, fun _ _ _ _ _ => trivial⟩, fun val h_ W hx he => ⟨trivial, ?_⟩, ?_⟩
          · replace hx := (Upd.drew _ _).trans hx
            replace hl := hl.ext hx
            replace hm := hm.ext hx
            have hE := Upd.refl (fun _ => False) W
            refine id (X_move (v := (.int .i64 (((i : Nat) : Int)))) rfl ?_)
            exact ⟨hE, rfl⟩
          refine ⟨.det (fun val => (pof m ((((i : Nat) : Int) : Int).toNat * 6))), ⟨fun _ _ hv => rfl, fun _ _ _ _ _ => trivial⟩, fun val h_ W hx he => ⟨trivial, ?_⟩, ?_⟩
          · replace hx := (Upd.drew _ _).trans hx
            replace hl := hl.ext hx
            replace hm := hm.ext hx
            have hE := Upd.refl (fun _ => False) W
            refine id (X_idx (v := m) (n := fs.length) (k := .i64) (i := ((i : Nat) : Int)) S22 rfl hm.sv rfl (by omega) (by omega) ?_)
            exact ⟨hE, rfl⟩
          refine ⟨.det (fun val => (pof m ((((i : Nat) : Int) : Int).toNat * 6 + 0))), ⟨fun _ _ hv => rfl, fun _ _ _ _ _ => trivial⟩, fun val h_ W hx he => ⟨trivial, ?_⟩, ?_⟩
          · replace hx := (Upd.drew _ _).trans hx
            replace hl := hl.ext hx
            replace hm := hm.ext hx
            have hE := Upd.refl (fun _ => False) W
            refine id (X_fldS (v := m) (o := (((i : Nat) : Int) : Int).toNat * 6) Fd39_0 rfl hm.sv (by omega) ?_)
            exact ⟨hE, rfl⟩
          refine ⟨.det (fun val => b.1), ⟨fun _ _ hv => rfl, fun _ _ _ _ _ => trivial⟩, fun val h_ W hx he => ⟨trivial, ?_⟩, ?_⟩
          · replace hx := (Upd.drew _ _).trans hx
            replace hl := hl.ext hx
            replace hm := hm.ext hx
            have hE := Upd.refl (fun _ => False) W
            refine id (X_load (v := b.1) T23 rfl (kkey hm (Int.toNat_natCast _) hbi) ?_)
            exact ⟨hE, rfl⟩
          refine ⟨.det (fun val => (strV (b.2.1))), ⟨fun _ _ hv => rfl, fun _ _ _ _ _ => trivial⟩, fun val h_ W hx he => ⟨trivial, ?_⟩, ?_⟩
          · replace hx := (Upd.drew _ _).trans hx
            replace hl := hl.ext hx
            replace hm := hm.ext hx
            have hE := Upd.refl (fun _ => False) W
            refine id (X_str (v := b.1) (l := b.2.1) Try.underlying23 Try.underlying5 Try.underlying9 rfl (krd hm hbi) ?_)
            exact ⟨hE, rfl⟩
          refine ⟨.det (fun val => (.bool (false))), ⟨fun _ _ hv => rfl, fun _ _ _ _ _ => trivial⟩, fun val h_ W hx he => ⟨trivial, ?_⟩, ?_⟩
          · replace hx := (Upd.drew _ _).trans hx
            replace hl := hl.ext hx
            replace hm := hm.ext hx
            have hE := Upd.refl (fun _ => False) W
            refine id (X_scmp (a := a.2.1) (b := b.2.1) (r := false) rfl rfl rfl hs4 ?_)
            exact ⟨hE, rfl⟩
          refine ⟨.det (fun val => (.bool (false))), ⟨fun _ _ hv => rfl, fun _ _ _ _ _ => trivial⟩, fun val h_ W hx he => ⟨trivial, ?_⟩, ?_⟩
          · replace hx := (Upd.drew _ _).trans hx
            replace hl := hl.ext hx
            replace hm := hm.ext hx
            have hE := Upd.refl (fun _ => False) W
            refine id (X_move (v := (.bool (false))) rfl ?_)
            exact ⟨hE, rfl⟩
          refine ⟨.det (fun val => l), ⟨fun _ _ hv => rfl, fun _ _ _ _ _ => trivial⟩, fun val h_ W hx he => ⟨⟨30, rfl, rfl⟩, ?_⟩, ?_⟩
          · replace hx := (Upd.drew _ _).trans hx
            replace hl := hl.ext hx
            replace hm := hm.ext hx
            have hE := Upd.refl (fun _ => False) W
            refine id (X_move (v := l) rfl ?_)
            exact ⟨hE, rfl⟩
          refine ⟨.det (fun val => (.int .i64 (((i : Nat) : Int)))), ⟨fun _ _ hv => rfl, fun _ _ _ _ _ => trivial⟩, fun val h_ W hx he => ⟨⟨30, rfl, rfl⟩, ?_⟩, ?_⟩
          · replace hx := (Upd.drew _ _).trans hx
            replace hl := hl.ext hx
            replace hm := hm.ext hx
            have hE := Upd.refl (fun _ => False) W
            refine id (X_move (v := (.int .i64 (((i : Nat) : Int)))) rfl ?_)
            exact ⟨hE, rfl⟩
          refine ⟨.det (fun val => (pof l ((((i : Nat) : Int) : Int).toNat * 6))), ⟨fun _ _ hv => rfl, fun _ _ _ _ _ => trivial⟩, fun val h_ W hx he => ⟨⟨30, rfl, rfl⟩, ?_⟩, ?_⟩
          · replace hx := (Upd.drew _ _).trans hx
            replace hl := hl.ext hx
            replace hm := hm.ext hx
            have hE := Upd.refl (fun _ => False) W
            refine id (X_idx (v := l) (n := es.length) (k := .i64) (i := ((i : Nat) : Int)) S22 rfl hl.sv rfl (by omega) (by omega) ?_)
            exact ⟨hE, rfl⟩
          refine ⟨.det (fun val => (pof l ((((i : Nat) : Int) : Int).toNat * 6 + 1))), ⟨fun _ _ hv => rfl, fun _ _ _ _ _ => trivial⟩, fun val h_ W hx he => ⟨⟨30, rfl, rfl⟩, ?_⟩, ?_⟩
          · replace hx := (Upd.drew _ _).trans hx
            replace hl := hl.ext hx
            replace hm := hm.ext hx
            have hE := Upd.refl (fun _ => False) W
            refine id (X_fldS (v := l) (o := (((i : Nat) : Int) : Int).toNat * 6) Fd39_1 rfl hl.sv (by omega) ?_)
            exact ⟨hE, rfl⟩
          refine ⟨.det (fun val => (.agg (ptC a.2.2).toArray)), ⟨fun _ _ hv => rfl, fun _ _ _ _ _ => trivial⟩, fun val h_ W hx he => ⟨⟨30, rfl, rfl⟩, ?_⟩, ?_⟩
          · replace hx := (Upd.drew _ _).trans hx
            replace hl := hl.ext hx
            replace hm := hm.ext hx
            have hE := Upd.refl (fun _ => False) W
            refine id (X_loadA (xs := ptC a.2.2) A37 rfl (kptr hl (Int.toNat_natCast _) hai) rfl ?_)
            exact ⟨hE, rfl⟩
          refine ⟨.det (fun val => m), ⟨fun _ _ hv => rfl, fun _ _ _ _ _ => trivial⟩, fun val h_ W hx he => ⟨⟨30, rfl, rfl⟩, ?_⟩, ?_⟩
          · replace hx := (Upd.drew _ _).trans hx
            replace hl := hl.ext hx
            replace hm := hm.ext hx
            have hE := Upd.refl (fun _ => False) W
            refine id (X_move (v := m) rfl ?_)
            exact ⟨hE, rfl⟩
          refine ⟨.det (fun val => (.int .i64 (((i : Nat) : Int)))), ⟨fun _ _ hv => rfl, fun _ _ _ _ _ => trivial⟩, fun val h_ W hx he => ⟨⟨30, rfl, rfl⟩, ?_⟩, ?_⟩
          · replace hx := (Upd.drew _ _).trans hx
            replace hl := hl.ext hx
            replace hm := hm.ext hx
            have hE := Upd.refl (fun _ => False) W
            refine id (X_move (v := (.int .i64 (((i : Nat) : Int)))) rfl ?_)
            exact ⟨hE, rfl⟩
          refine ⟨.det (fun val => (pof m ((((i : Nat) : Int) : Int).toNat * 6))), ⟨fun _ _ hv => rfl, fun _ _ _ _ _ => trivial⟩, fun val h_ W hx he => ⟨⟨30, rfl, rfl⟩, ?_⟩, ?_⟩
          · replace hx := (Upd.drew _ _).trans hx
            replace hl := hl.ext hx
            replace hm := hm.ext hx
            have hE := Upd.refl (fun _ => False) W
            refine id (X_idx (v := m) (n := fs.length) (k := .i64) (i := ((i : Nat) : Int)) S22 rfl hm.sv rfl (by omega) (by omega) ?_)
            exact ⟨hE, rfl⟩
          refine ⟨.det (fun val => (pof m ((((i : Nat) : Int) : Int).toNat * 6 + 1))), ⟨fun _ _ hv => rfl, fun _ _ _ _ _ => trivial⟩, fun val h_ W hx he => ⟨⟨30, rfl, rfl⟩, ?_⟩, ?_⟩
          · replace hx := (Upd.drew _ _).trans hx
            replace hl := hl.ext hx
            replace hm := hm.ext hx
            have hE := Upd.refl (fun _ => False) W
            refine id (X_fldS (v := m) (o := (((i : Nat) : Int) : Int).toNat * 6) Fd39_1 rfl hm.sv (by omega) ?_)
            exact ⟨hE, rfl⟩
          refine ⟨.det (fun val => (.agg (ptC b.2.2).toArray)), ⟨fun _ _ hv => rfl, fun _ _ _ _ _ => trivial⟩, fun val h_ W hx he => ⟨⟨30, rfl, rfl⟩, ?_⟩, ?_⟩
          · replace hx := (Upd.drew _ _).trans hx
            replace hl := hl.ext hx
            replace hm := hm.ext hx
            have hE := Upd.refl (fun _ => False) W
            refine id (X_loadA (xs := ptC b.2.2) A37 rfl (kptr hm (Int.toNat_natCast _) hbi) rfl ?_)
            exact ⟨hE, rfl⟩
          intro val W16 hx16 he16
          replace hx16 := (Upd.drew _ _).trans hx16
          have hz16 := hx16.size
          replace hl := hl.ext hx16
          replace hm := hm.ext hx16
          replace hE := hE.trans (Ext.upd hx16)
          refine L_gy (dj := 30) rfl rfl rfl (X_eqP (p := a.2.2) (q := b.2.2) (r := true) Try.underlying37 u37 (by kernel_rfl) (by decide) ⟨rfl, rfl, rfl, rfl⟩ Try.underlying5 Try.underlying33 (by kernel_rfl) Try.underlying32 (ie := _) rfl (by kernel_rfl) Try.underlying34 Try.underlying35 (by kernel_rfl) rfl rfl (.inr ⟨rfl, by rw [hs12]; rfl⟩) ?_)
          refine L_op rfl (X_pick (t := false) (v := (.bool (true))) rfl rfl ?_)
          refine L_nil ?_
          refine T_n ?_
          refine W_ct rfl ?_
          refine W_seq ?_
          refine W_reg ?_
          refine L_op rfl (X_assign (v := (.bool (false))) rfl ?_)
          refine L_nil ?_
          refine T_n ?_
          refine W_ret ?_
          refine B_r ?_
          refine T_r ?_
          refine T_r ?_
          refine B_r ?_
          refine T_r ?_
          exact BQ_r (End_1 Try.results11 (v := .bool false) rfl ⟨⟨false, rfl, ⟨fun h => (by cases h), fun h => (by have h1 := same_no hai hbi h; rw [Prod.ext_iff] at h1; simp_all [scmp])⟩⟩, Ext.upd hE⟩)
    · refine L_op rfl (X_cmp (k := .i64) (a := ((i : Nat) : Int)) (b := ((es.length : Nat) : Int)) (r := false) rfl rfl rfl (decide_eq_false (p := ((((i : Nat) : Int)) : Int) < ((((es.length : Nat) : Int)) : Int)) (by omega)) ?_)
      refine L_nil ?_
      refine T_n ?_
      refine W_cf rfl ?_
      refine W_exit ?_
      refine T_e ?_
      refine T_e ?_
      refine B_x ?_
      refine T_n ?_
      refine W_seq ?_
      refine W_reg ?_
      refine L_op rfl (X_assign (v := (.bool (true))) rfl ?_)
      refine L_nil ?_
      refine T_n ?_
      refine W_ret ?_
      exact BQ_r (End_1 Try.results11 (v := .bool true) rfl ⟨⟨true, rfl, ⟨fun _ => by have h1 := hz; rwa [List.take_of_length_le (by omega), List.take_of_length_le (by omega)] at h1, fun _ => rfl⟩⟩, Ext.upd hE⟩)
end Go.Proofs.Ytpjhadhniokgjaa
