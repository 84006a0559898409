/-
  More contracts of chapter 03: Compact. (Printed by wip/gen/t03m.py of this repo.)
-/
import Derived.Test.YthongcaijgfojaaDiskH
import Derived.Test.YthongcaijgfojaaBaseU
import Derived.Test.YthongcaijgfojaaLaid
namespace Go.Proofs.Ythongcaijgfojaa
open Go Go.SL Go.Proofs
set_option linter.unusedVariables false

def compK (bs : List Int) : Nat → List Int
  | 0 => []
  | k + 1 => if k ≠ 0 ∧ bs[k]? = bs[k - 1]? then compK bs k else compK bs k ++ (bs[k]?).toList
def compI (bs : List Int) : List Int := compK bs bs.length
theorem compK_hit {bs : List Int} {k : Nat} {a : Int} (h0 : 0 < k) (ha : bs[k]? = some a) (hb : bs[k - 1]? = some a) : compK bs (k + 1) = compK bs k := if_pos ⟨by omega, ha.trans hb.symm⟩
theorem compK_miss {bs : List Int} {k : Nat} {a b : Int} (ha : bs[k]? = some a) (hb : bs[k - 1]? = some b) (h : a ≠ b) : compK bs (k + 1) = compK bs k ++ [a] := by
  refine (if_neg fun h1 => h ?_).trans (by rw [ha]; rfl)
  have h2 := h1.2
  rw [ha, hb] at h2
  cases h2; rfl
theorem compK_one {bs : List Int} (h : 1 ≤ bs.length) : compK bs 1 = bs.take 1 := by
  obtain ⟨a, r, rfl⟩ : ∃ a r, bs = a :: r := by
    cases bs with
    | nil => cases h
    | cons a r => exact ⟨a, r, rfl⟩
  rfl
theorem compK_le (bs : List Int) : ∀ k, (compK bs k).length ≤ k
  | 0 => Nat.le_refl _
  | k + 1 => by
    have := compK_le bs k
    unfold compK
    split
    · omega
    · rw [List.length_append]
      cases bs[k]? <;> simp <;> omega
theorem compI_small {bs : List Int} (h : bs.length < 2) : compI bs = bs := by
  cases bs with
  | nil => rfl
  | cons a r =>
    cases r with
    | nil => rfl
    | cons b r => simp only [List.length_cons] at h; omega
theorem compK_take {bs : List Int} {i : Nat} {a : Int} (ha : bs[i]? = some a) (h : compK bs (i + 1) = compK bs i ++ [a]) (h2 : compK bs i = bs.take i) : compK bs (i + 1) = bs.take (i + 1) := by
  rw [h, h2, List.take_add_one, ha]; rfl
def fstW (cs : List Wr) : List Int := cs.map fun c => c.1
def waitsW (cs : List Wr) : List Int := compI (sortI (fstW cs))
theorem fstW_step {cs : List Wr} {i : Nat} {e : Wr} (h : cs[i]? = some e) : fstW (cs.take (i + 1)) = fstW (cs.take i) ++ [e.1] := by unfold fstW; rw [List.take_add_one, h, List.map_append]; rfl

theorem c_compact (s : Value) (bs : List Int) (w : World) (lo up : Nat) (hN : NOwn LI w 3 5 lo up s bs) : CT Try.prog 34 #[s] w fun v w' => ∃ ds, NOwn LI w' 3 5 lo up v ds ∧ ds = compI bs ∧ (∀ b, obk v = some b → obk s = some b) ∧ Upd (fun b => obk s = some b) w w' := by
  have hmx := hN.1.sv.len
  have hsv := hN.1.sv
  have hbd := hN.2.1
  have hU := Upd.refl (fun b => obk s = some b) w
  refine CT_of Try.func34 rfl rfl rfl ?_
  refine W_seq ?_
  refine W_reg ?_
  refine L_op rfl (X_assign (v := (.slice none 0 0)) rfl ?_)
  refine L_nil ?_
  refine T_n ?_
  refine W_seq ?_
  refine W_seq ?_
  refine W_reg ?_
  refine L_op rfl (X_move (v := s) rfl ?_)
  refine L_op rfl (X_len (v := s) (n := bs.length) Try.underlying24 rfl hsv ?_)
  by_cases hc1 : (((bs.length : Nat) : Int) : Int) < (2)
  · refine L_op rfl (X_cmp (k := .i64) (a := ((bs.length : Nat) : Int)) (b := 2) (r := true) rfl rfl rfl (decide_eq_true (p := ((((bs.length : Nat) : Int)) : Int) < ((2) : Int)) (by omega)) ?_)
    refine L_nil ?_
    refine T_n ?_
    refine W_ct rfl ?_
    refine W_seq ?_
    refine W_reg ?_
    refine L_op rfl (X_move (v := s) rfl ?_)
    refine L_op rfl (X_assign (v := s) rfl ?_)
    refine L_nil ?_
    refine T_n ?_
    refine W_ret ?_
    refine T_r ?_
    exact BQ_r (End_1 Try.results34 (v := s) rfl ⟨bs, hN, (compI_small (by omega)).symm, fun _ h => h, Upd.refl _ _⟩)
  · refine L_op rfl (X_cmp (k := .i64) (a := ((bs.length : Nat) : Int)) (b := 2) (r := false) rfl rfl rfl (decide_eq_false (p := ((((bs.length : Nat) : Int)) : Int) < ((2) : Int)) (by omega)) ?_)
    refine L_nil ?_
    refine T_n ?_
    refine W_cf rfl ?_
    refine W_skip ?_
    refine T_n ?_
    refine W_seq ?_
    refine W_seq ?_
    refine W_reg ?_
    refine L_op rfl (X_assign (v := (.int .i64 (1))) rfl ?_)
    refine L_nil ?_
    refine T_n ?_
    refine W_block ?_
    refine W_loop (α := Nat) [2, 3, 4, 5, 10, 11, 12, 13, 14, 15, 16, 17, 18, 19, 20, 21, 22, 23, 24, 25, 26, 27, 28, 29, 30, 31, 32, 33, 34, 35, 36, 37, 38, 39, 40, 41, 42, 43, 44, 45, 46, 47, 48, 49, 50, 51, 52, 53, 54, 55, 56, 57, 58, 59] (fun i => [(3, (.int .i64 (((i : Nat) : Int))))]) (fun i w_ => NOwn LI w_ 3 5 lo up s bs ∧ Upd (fun b => obk s = some b) w w_ ∧ i ≤ bs.length ∧ 1 ≤ i ∧ compK bs i = bs.take i) (fun i => bs.length - i) ⟨rfl, 1, ⟨hN, hU, by omega, Nat.le_refl _, compK_one (by omega)⟩, Out.refl _ _, ⟨rfl, trivial⟩⟩ ?_
    rintro i w2 _ ⟨hN, hU, hil_, hi1, hci⟩
    refine W_seq ?_
    refine W_seq ?_
    refine W_reg ?_
    refine L_op rfl (X_move (v := (.int .i64 (((i : Nat) : Int)))) rfl ?_)
    refine L_op rfl (X_move (v := s) rfl ?_)
    refine L_op rfl (X_len (v := s) (n := bs.length) Try.underlying24 rfl hsv ?_)
    by_cases hc3 : (((i : Nat) : Int) : Int) < (((bs.length : Nat) : Int))
    · refine L_op rfl (X_cmp (k := .i64) (a := ((i : Nat) : Int)) (b := ((bs.length : Nat) : Int)) (r := true) rfl rfl rfl (decide_eq_true (p := ((((i : Nat) : Int)) : Int) < ((((bs.length : Nat) : Int)) : Int)) (by omega)) ?_)
      have hi : i < bs.length := by omega
      obtain ⟨a, hai⟩ : ∃ a, bs[i]? = some a := ⟨_, List.getElem?_eq_getElem hi⟩
      obtain ⟨a0, ha0⟩ : ∃ a, bs[i - 1]? = some a := ⟨_, List.getElem?_eq_getElem (by omega)⟩
      refine L_nil ?_
      refine T_n ?_
      refine W_ct rfl ?_
      refine W_skip ?_
      refine T_n ?_
      refine W_seq ?_
      refine W_block ?_
      refine W_seq ?_
      rcases Bool.eq_false_or_eq_true (decide (a = a0)) with hs4 | hs4
      · refine W_draw 9 [[], [], [0, 1], [0, 1, 2], [], [], [5], [4, 5, 6], [4, 5, 6, 7], [0, 1, 2, 3, 4, 5, 6, 7, 8]] mixed (by kernel_rfl) ?_
        refine ⟨.det (fun val => s), ⟨fun _ _ hv => rfl, fun _ _ _ _ _ => trivial⟩, fun val h_ W hx he => ⟨trivial, ?_⟩, ?_⟩
        · replace hx := (Upd.drew _ _).trans hx
          replace hN := hN.ext hx
          have hE := Upd.refl (fun _ => False) W
          refine id (X_move (v := s) rfl ?_)
          exact ⟨hE, rfl⟩
        refine ⟨.det (fun val => (.int .i64 (((i : Nat) : Int)))), ⟨fun _ _ hv => rfl, fun _ _ _ _ _ => trivial⟩, fun val h_ W hx he => ⟨trivial, ?_⟩, ?_⟩
        · replace hx := (Upd.drew _ _).trans hx
          replace hN := hN.ext hx
          have hE := Upd.refl (fun _ => False) W
          refine id (X_move (v := (.int .i64 (((i : Nat) : Int)))) rfl ?_)
          exact ⟨hE, rfl⟩
        refine ⟨.det (fun val => (pof s ((((i : Nat) : Int)).toNat * 1))), ⟨fun _ _ hv => rfl, fun _ _ _ _ _ => trivial⟩, fun val h_ W hx he => ⟨trivial, ?_⟩, ?_⟩
        · replace hx := (Upd.drew _ _).trans hx
          replace hN := hN.ext hx
          have hE := Upd.refl (fun _ => False) W
          refine id (X_idx (v := s) (n := bs.length) (k := .i64) (i := ((i : Nat) : Int)) S24 rfl hsv rfl (by omega) (by omega) ?_)
          exact ⟨hE, rfl⟩
        refine ⟨.det (fun val => (.int .i64 (a))), ⟨fun _ _ hv => rfl, fun _ _ _ _ _ => trivial⟩, fun val h_ W hx he => ⟨trivial, ?_⟩, ?_⟩
        · replace hx := (Upd.drew _ _).trans hx
          replace hN := hN.ext hx
          have hE := Upd.refl (fun _ => False) W
          refine id (X_load (v := .int .i64 a) T3 rfl (iat hN.rd (Int.toNat_natCast _) hai) ?_)
          exact ⟨hE, rfl⟩
        refine ⟨.det (fun val => s), ⟨fun _ _ hv => rfl, fun _ _ _ _ _ => trivial⟩, fun val h_ W hx he => ⟨trivial, ?_⟩, ?_⟩
        · replace hx := (Upd.drew _ _).trans hx
          replace hN := hN.ext hx
          have hE := Upd.refl (fun _ => False) W
          refine id (X_move (v := s) rfl ?_)
          exact ⟨hE, rfl⟩
        refine ⟨.det (fun val => (.int .i64 (((i : Nat) : Int)))), ⟨fun _ _ hv => rfl, fun _ _ _ _ _ => trivial⟩, fun val h_ W hx he => ⟨trivial, ?_⟩, ?_⟩
        · replace hx := (Upd.drew _ _).trans hx
          replace hN := hN.ext hx
          have hE := Upd.refl (fun _ => False) W
          refine id (X_move (v := (.int .i64 (((i : Nat) : Int)))) rfl ?_)
          exact ⟨hE, rfl⟩
        refine ⟨.det (fun val => (.int .i64 (((i - 1 : Nat) : Int)))), ⟨fun _ _ hv => rfl, fun _ _ _ _ _ => trivial⟩, fun val h_ W hx he => ⟨trivial, ?_⟩, ?_⟩
        · replace hx := (Upd.drew _ _).trans hx
          replace hN := hN.ext hx
          have hE := Upd.refl (fun _ => False) W
          refine id (X_arith (k := .i64) (a := ((i : Nat) : Int)) (b := 1) (r := ((i - 1 : Nat) : Int)) rfl rfl rfl (isub64 (by omega) (by omega) (by omega)) ?_)
          exact ⟨hE, rfl⟩
        refine ⟨.det (fun val => (pof s ((((i - 1 : Nat) : Int)).toNat * 1))), ⟨fun _ _ hv => rfl, fun _ _ _ _ _ => trivial⟩, fun val h_ W hx he => ⟨trivial, ?_⟩, ?_⟩
        · replace hx := (Upd.drew _ _).trans hx
          replace hN := hN.ext hx
          have hE := Upd.refl (fun _ => False) W
          refine id (X_idx (v := s) (n := bs.length) (k := .i64) (i := ((i - 1 : Nat) : Int)) S24 rfl hsv rfl (by omega) (by omega) ?_)
          exact ⟨hE, rfl⟩
        refine ⟨.det (fun val => (.int .i64 (a0))), ⟨fun _ _ hv => rfl, fun _ _ _ _ _ => trivial⟩, fun val h_ W hx he => ⟨trivial, ?_⟩, ?_⟩
        · replace hx := (Upd.drew _ _).trans hx
          replace hN := hN.ext hx
          have hE := Upd.refl (fun _ => False) W
          refine id (X_load (v := .int .i64 a0) T3 rfl (iat hN.rd (Int.toNat_natCast _) ha0) ?_)
          exact ⟨hE, rfl⟩
        intro val W5 hx5 he5
        replace hx5 := (Upd.drew _ _).trans hx5
        have hz5 := hx5.size
        replace hN := hN.ext hx5
        replace hU := hU.trans (Ext.upd hx5)
        refine L_op rfl (X_cmp (k := .i64) (a := a) (b := a0) (r := true) rfl rfl rfl (decide_eq_true (p := ((a) : Int) = ((a0) : Int)) (by have h_ := of_decide_eq_true hs4; omega)) ?_)
        refine L_nil ?_
        refine T_n ?_
        refine W_ct rfl ?_
        refine W_seq ?_
        refine W_reg ?_
        refine L_op rfl (X_move (v := s) rfl ?_)
        refine L_op rfl (X_move (v := (.int .i64 (((i : Nat) : Int)))) rfl ?_)
        have hlen0 : i < bs.length := hi
        refine L_op rfl (X_slice (n := bs.length) (l := i) (h' := bs.length) (kl := .i64) (kh := .i64) S24 rfl hsv rfl rfl (by omega) (by omega) ?_)
        refine L_op rfl (X_assign (v := (cutv s 1 i bs.length)) rfl ?_)
        refine L_nil ?_
        refine T_n ?_
        refine W_seq ?_
        refine W_seq ?_
        refine W_reg ?_
        have hs_ := hs4
        obtain ⟨i0, rfl⟩ : ∃ n, n = i := ⟨_, rfl⟩
        have hsv2_ : SV (cutv s 1 i0 bs.length) (bs.length - i0) := by have h := (hN.rd.cut (l := i0) (h := bs.length) (by omega) (Nat.le_refl _)).sv; rwa [show ((bs.drop i0).take (bs.length - i0)).length = bs.length - i0 from by rw [List.length_take, List.length_drop]; omega] at h
        refine L_op rfl (X_assign (v := (.int .i64 (1))) rfl ?_)
        refine L_nil ?_
        refine T_n ?_
        refine W_block ?_
        refine W_loop (α := Nat × Nat × List Int) [3, 5, 29, 30, 31, 32, 33, 34, 35, 36, 37, 38, 39, 40, 41, 42, 43, 44, 45, 46, 47, 48, 49, 50, 51, 52, 53] (fun ⟨i, k, xs⟩ => [(3, (.int .i64 (((i : Nat) : Int)))), (5, (.int .i64 (((k : Nat) : Int))))]) (fun ⟨i, k, xs⟩ w_ => i < i0 + k ∧ i0 + k ≤ bs.length ∧ 1 ≤ k ∧ xs.length = bs.length ∧ xs.take i = compK bs (i0 + k) ∧ (compK bs (i0 + k)).length = i ∧ (∀ m, i0 + k - 1 ≤ m → xs[m]? = bs[m]?) ∧ NOwn LI w_ 3 5 lo up s xs ∧ Upd (fun b => obk s = some b) w w_) (fun ⟨i, k, xs⟩ => bs.length - (i0 + k)) ⟨rfl, (i0, 1, bs), ⟨Nat.lt_succ_self _, hi, Nat.le_refl _, rfl, by rw [compK_hit hi1 hai (by rw [ha0, of_decide_eq_true hs_]), hci], by rw [compK_hit hi1 hai (by rw [ha0, of_decide_eq_true hs_]), hci, List.length_take]; omega, fun _ _ => rfl, hN, hU⟩, Out.refl _ _, ⟨rfl, rfl, trivial⟩⟩ ?_
        rintro ⟨i, k, xs⟩ w6 _ ⟨hik, hkl, hk1, hxs, hxi, hil, hrest, hN, hU⟩
        have hsvx := hN.1.sv
        refine W_seq ?_
        refine W_seq ?_
        refine W_reg ?_
        refine L_op rfl (X_move (v := (.int .i64 (((k : Nat) : Int)))) rfl ?_)
        refine L_op rfl (X_move (v := (cutv s 1 i0 bs.length)) rfl ?_)
        refine L_op rfl (X_len (v := (cutv s 1 i0 bs.length)) (n := (bs.length - i0)) Try.underlying24 rfl hsv2_ ?_)
        by_cases hc7 : (((k : Nat) : Int) : Int) < ((((bs.length - i0) : Nat) : Int))
        · refine L_op rfl (X_cmp (k := .i64) (a := ((k : Nat) : Int)) (b := (((bs.length - i0) : Nat) : Int)) (r := true) rfl rfl rfl (decide_eq_true (p := ((((k : Nat) : Int)) : Int) < (((((bs.length - i0) : Nat) : Int)) : Int)) (by omega)) ?_)
          have hj : i0 + k < bs.length := by omega
          obtain ⟨b, hbj⟩ : ∃ a, bs[i0 + k]? = some a := ⟨_, List.getElem?_eq_getElem hj⟩
          obtain ⟨b0, hb0⟩ : ∃ a, bs[i0 + k - 1]? = some a := ⟨_, List.getElem?_eq_getElem (by omega)⟩
          have hR := hN.rd.cut (l := i0) (h := bs.length) (by omega) (by rw [hxs]; exact Nat.le_refl _)
          rw [show LI.sz = 1 from rfl] at hR
          have hcl : ((xs.drop i0).take (bs.length - i0)).length = bs.length - i0 := by rw [List.length_take, List.length_drop]; omega
          have hsv2 := hR.sv
          rw [hcl] at hsv2
          have hat : ∀ m, i0 + k - 1 ≤ m → m < bs.length → ((xs.drop i0).take (bs.length - i0))[m - i0]? = bs[m]? := fun m h1 h2 => by rw [List.getElem?_take, if_pos (by omega), List.getElem?_drop, show i0 + (m - i0) = m by omega]; exact hrest m h1
          have hbj2 : ((xs.drop i0).take (bs.length - i0))[k]? = some b := by rw [← hbj, ← hat (i0 + k) (by omega) hj, show i0 + k - i0 = k by omega]
          have hb02 : ((xs.drop i0).take (bs.length - i0))[k - 1]? = some b0 := by rw [← hb0, ← hat (i0 + k - 1) (by omega) (by omega), show i0 + k - 1 - i0 = k - 1 by omega]
          refine L_nil ?_
          refine T_n ?_
          refine W_ct rfl ?_
          refine W_skip ?_
          refine T_n ?_
          refine W_seq ?_
          refine W_block ?_
          refine W_seq ?_
          rcases Bool.eq_false_or_eq_true (decide (b = b0)) with hs8 | hs8
          · refine W_draw 9 [[], [], [0, 1], [0, 1, 2], [], [], [5], [4, 5, 6], [4, 5, 6, 7], [0, 1, 2, 3, 4, 5, 6, 7, 8]] mixed (by kernel_rfl) ?_
            refine ⟨.det (fun val => (cutv s 1 i0 bs.length)), ⟨fun _ _ hv => rfl, fun _ _ _ _ _ => trivial⟩, fun val h_ W hx he => ⟨trivial, ?_⟩, ?_⟩
            · replace hx := (Upd.drew _ _).trans hx
              replace hN := hN.ext hx
              replace hR := hR.ext hx
              have hE := Upd.refl (fun _ => False) W
              refine id (X_move (v := (cutv s 1 i0 bs.length)) rfl ?_)
              exact ⟨hE, rfl⟩
            refine ⟨.det (fun val => (.int .i64 (((k : Nat) : Int)))), ⟨fun _ _ hv => rfl, fun _ _ _ _ _ => trivial⟩, fun val h_ W hx he => ⟨trivial, ?_⟩, ?_⟩
            · replace hx := (Upd.drew _ _).trans hx
              replace hN := hN.ext hx
              replace hR := hR.ext hx
              have hE := Upd.refl (fun _ => False) W
              refine id (X_move (v := (.int .i64 (((k : Nat) : Int)))) rfl ?_)
              exact ⟨hE, rfl⟩
            refine ⟨.det (fun val => (pof (cutv s 1 i0 bs.length) ((((k : Nat) : Int)).toNat * 1))), ⟨fun _ _ hv => rfl, fun _ _ _ _ _ => trivial⟩, fun val h_ W hx he => ⟨trivial, ?_⟩, ?_⟩
            · replace hx := (Upd.drew _ _).trans hx
              replace hN := hN.ext hx
              replace hR := hR.ext hx
              have hE := Upd.refl (fun _ => False) W
              refine id (X_idx (v := (cutv s 1 i0 bs.length)) (n := (bs.length - i0)) (k := .i64) (i := ((k : Nat) : Int)) S24 rfl hsv2 rfl (by omega) (by omega) ?_)
              exact ⟨hE, rfl⟩
            refine ⟨.det (fun val => (.int .i64 (b))), ⟨fun _ _ hv => rfl, fun _ _ _ _ _ => trivial⟩, fun val h_ W hx he => ⟨trivial, ?_⟩, ?_⟩
            · replace hx := (Upd.drew _ _).trans hx
              replace hN := hN.ext hx
              replace hR := hR.ext hx
              have hE := Upd.refl (fun _ => False) W
              refine id (X_load (v := .int .i64 b) T3 rfl (iat hR (Int.toNat_natCast _) hbj2) ?_)
              exact ⟨hE, rfl⟩
            refine ⟨.det (fun val => (cutv s 1 i0 bs.length)), ⟨fun _ _ hv => rfl, fun _ _ _ _ _ => trivial⟩, fun val h_ W hx he => ⟨trivial, ?_⟩, ?_⟩
            · replace hx := (Upd.drew _ _).trans hx
              replace hN := hN.ext hx
              replace hR := hR.ext hx
              have hE := Upd.refl (fun _ => False) W
              refine id (X_move (v := (cutv s 1 i0 bs.length)) rfl ?_)
              exact ⟨hE, rfl⟩
            refine ⟨.det (fun val => (.int .i64 (((k : Nat) : Int)))), ⟨fun _ _ hv => rfl, fun _ _ _ _ _ => trivial⟩, fun val h_ W hx he => ⟨trivial, ?_⟩, ?_⟩
            · replace hx := (Upd.drew _ _).trans hx
              replace hN := hN.ext hx
              replace hR := hR.ext hx
              have hE := Upd.refl (fun _ => False) W
              refine id (X_move (v := (.int .i64 (((k : Nat) : Int)))) rfl ?_)
              exact ⟨hE, rfl⟩
            refine ⟨.det (fun val => (.int .i64 (((k - 1 : Nat) : Int)))), ⟨fun _ _ hv => rfl, fun _ _ _ _ _ => trivial⟩, fun val h_ W hx he => ⟨trivial, ?_⟩, ?_⟩
            · replace hx := (Upd.drew _ _).trans hx
              replace hN := hN.ext hx
              replace hR := hR.ext hx
              have hE := Upd.refl (fun _ => False) W
              refine id (X_arith (k := .i64) (a := ((k : Nat) : Int)) (b := 1) (r := ((k - 1 : Nat) : Int)) rfl rfl rfl (isub64 (by omega) (by omega) (by omega)) ?_)
              exact ⟨hE, rfl⟩
            refine ⟨.det (fun val => (pof (cutv s 1 i0 bs.length) ((((k - 1 : Nat) : Int)).toNat * 1))), ⟨fun _ _ hv => rfl, fun _ _ _ _ _ => trivial⟩, fun val h_ W hx he => ⟨trivial, ?_⟩, ?_⟩
            · replace hx := (Upd.drew _ _).trans hx
              replace hN := hN.ext hx
              replace hR := hR.ext hx
              have hE := Upd.refl (fun _ => False) W
              refine id (X_idx (v := (cutv s 1 i0 bs.length)) (n := (bs.length - i0)) (k := .i64) (i := ((k - 1 : Nat) : Int)) S24 rfl hsv2 rfl (by omega) (by omega) ?_)
              exact ⟨hE, rfl⟩
            refine ⟨.det (fun val => (.int .i64 (b0))), ⟨fun _ _ hv => rfl, fun _ _ _ _ _ => trivial⟩, fun val h_ W hx he => ⟨trivial, ?_⟩, ?_⟩
            · replace hx := (Upd.drew _ _).trans hx
              replace hN := hN.ext hx
              replace hR := hR.ext hx
              have hE := Upd.refl (fun _ => False) W
              refine id (X_load (v := .int .i64 b0) T3 rfl (iat hR (Int.toNat_natCast _) hb02) ?_)
              exact ⟨hE, rfl⟩
            intro val W9 hx9 he9
            replace hx9 := (Upd.drew _ _).trans hx9
            have hz9 := hx9.size
            replace hN := hN.ext hx9
            replace hU := hU.trans (Ext.upd hx9)
            replace hR := hR.ext hx9
            refine L_op rfl (X_cmp (k := .i64) (a := b) (b := b0) (r := false) rfl rfl rfl (decide_eq_false (p := ((b) : Int) ≠ ((b0) : Int)) (fun h => h (of_decide_eq_true hs8))) ?_)
            refine L_nil ?_
            refine T_n ?_
            refine W_cf rfl ?_
            refine W_skip ?_
            refine B_n ?_
            refine T_n ?_
            refine W_reg ?_
            refine L_op rfl (X_move (v := (.int .i64 (((k : Nat) : Int)))) rfl ?_)
            refine L_op rfl (X_arith (k := .i64) (a := ((k : Nat) : Int)) (b := 1) (r := ((k + 1 : Nat) : Int)) rfl rfl rfl (iadd64 (by omega) (by omega) (by omega)) ?_)
            refine L_op rfl (X_assign (v := (.int .i64 (((k + 1 : Nat) : Int)))) rfl ?_)
            refine L_nil ?_
            refine T_n ?_
            exact ⟨rfl, ⟨i, k + 1, xs⟩, ⟨⟨by omega, by omega, by omega, hxs, by rw [← Nat.add_assoc, compK_hit (by omega) hbj (by rw [hb0, of_decide_eq_true hs8])]; exact hxi, by rw [← Nat.add_assoc, compK_hit (by omega) hbj (by rw [hb0, of_decide_eq_true hs8])]; exact hil, fun m hm => hrest m (by omega), hN, hU⟩, (by show bs.length - (i0 + (k + 1)) < bs.length - (i0 + k); omega)⟩, (Out.mk rfl), ⟨rfl, rfl, trivial⟩⟩
          · refine W_draw 9 [[], [], [0, 1], [0, 1, 2], [], [], [5], [4, 5, 6], [4, 5, 6, 7], [0, 1, 2, 3, 4, 5, 6, 7, 8]] mixed (by kernel_rfl) ?_
            refine ⟨.det (fun val => (cutv s 1 i0 bs.length)), ⟨fun _ _ hv => rfl, fun _ _ _ _ _ => trivial⟩, fun val h_ W hx he => ⟨trivial, ?_⟩, ?_⟩
            · replace hx := (Upd.drew _ _).trans hx
              replace hN := hN.ext hx
              replace hR := hR.ext hx
              have hE := Upd.refl (fun _ => False) W
              refine id (X_move (v := (cutv s 1 i0 bs.length)) rfl ?_)
              exact ⟨hE, rfl⟩
            refine ⟨.det (fun val => (.int .i64 (((k : Nat) : Int)))), ⟨fun _ _ hv => rfl, fun _ _ _ _ _ => trivial⟩, fun val h_ W hx he => ⟨trivial, ?_⟩, ?_⟩
            · replace hx := (Upd.drew _ _).trans hx
              replace hN := hN.ext hx
              replace hR := hR.ext hx
              have hE := Upd.refl (fun _ => False) W
              refine id (X_move (v := (.int .i64 (((k : Nat) : Int)))) rfl ?_)
              exact ⟨hE, rfl⟩
            refine ⟨.det (fun val => (pof (cutv s 1 i0 bs.length) ((((k : Nat) : Int)).toNat * 1))), ⟨fun _ _ hv => rfl, fun _ _ _ _ _ => trivial⟩, fun val h_ W hx he => ⟨trivial, ?_⟩, ?_⟩
            · replace hx := (Upd.drew _ _).trans hx
              replace hN := hN.ext hx
              replace hR := hR.ext hx
              have hE := Upd.refl (fun _ => False) W
              refine id (X_idx (v := (cutv s 1 i0 bs.length)) (n := (bs.length - i0)) (k := .i64) (i := ((k : Nat) : Int)) S24 rfl hsv2 rfl (by omega) (by omega) ?_)
              exact ⟨hE, rfl⟩
            refine ⟨.det (fun val => (.int .i64 (b))), ⟨fun _ _ hv => rfl, fun _ _ _ _ _ => trivial⟩, fun val h_ W hx he => ⟨trivial, ?_⟩, ?_⟩
            · replace hx := (Upd.drew _ _).trans hx
              replace hN := hN.ext hx
              replace hR := hR.ext hx
              have hE := Upd.refl (fun _ => False) W
              refine id (X_load (v := .int .i64 b) T3 rfl (iat hR (Int.toNat_natCast _) hbj2) ?_)
              exact ⟨hE, rfl⟩
            refine ⟨.det (fun val => (cutv s 1 i0 bs.length)), ⟨fun _ _ hv => rfl, fun _ _ _ _ _ => trivial⟩, fun val h_ W hx he => ⟨trivial, ?_⟩, ?_⟩
            · replace hx := (Upd.drew _ _).trans hx
              replace hN := hN.ext hx
              replace hR := hR.ext hx
              have hE := Upd.refl (fun _ => False) W
              refine id (X_move (v := (cutv s 1 i0 bs.length)) rfl ?_)
              exact ⟨hE, rfl⟩
            refine ⟨.det (fun val => (.int .i64 (((k : Nat) : Int)))), ⟨fun _ _ hv => rfl, fun _ _ _ _ _ => trivial⟩, fun val h_ W hx he => ⟨trivial, ?_⟩, ?_⟩
            · replace hx := (Upd.drew _ _).trans hx
              replace hN := hN.ext hx
              replace hR := hR.ext hx
              have hE := Upd.refl (fun _ => False) W
              refine id (X_move (v := (.int .i64 (((k : Nat) : Int)))) rfl ?_)
              exact ⟨hE, rfl⟩
            refine ⟨.det (fun val => (.int .i64 (((k - 1 : Nat) : Int)))), ⟨fun _ _ hv => rfl, fun _ _ _ _ _ => trivial⟩, fun val h_ W hx he => ⟨trivial, ?_⟩, ?_⟩
            · replace hx := (Upd.drew _ _).trans hx
              replace hN := hN.ext hx
              replace hR := hR.ext hx
              have hE := Upd.refl (fun _ => False) W
              refine id (X_arith (k := .i64) (a := ((k : Nat) : Int)) (b := 1) (r := ((k - 1 : Nat) : Int)) rfl rfl rfl (isub64 (by omega) (by omega) (by omega)) ?_)
              exact ⟨hE, rfl⟩
            refine ⟨.det (fun val => (pof (cutv s 1 i0 bs.length) ((((k - 1 : Nat) : Int)).toNat * 1))), ⟨fun _ _ hv => rfl, fun _ _ _ _ _ => trivial⟩, fun val h_ W hx he => ⟨trivial, ?_⟩, ?_⟩
            · replace hx := (Upd.drew _ _).trans hx
              replace hN := hN.ext hx
              replace hR := hR.ext hx
              have hE := Upd.refl (fun _ => False) W
              refine id (X_idx (v := (cutv s 1 i0 bs.length)) (n := (bs.length - i0)) (k := .i64) (i := ((k - 1 : Nat) : Int)) S24 rfl hsv2 rfl (by omega) (by omega) ?_)
              exact ⟨hE, rfl⟩
            refine ⟨.det (fun val => (.int .i64 (b0))), ⟨fun _ _ hv => rfl, fun _ _ _ _ _ => trivial⟩, fun val h_ W hx he => ⟨trivial, ?_⟩, ?_⟩
            · replace hx := (Upd.drew _ _).trans hx
              replace hN := hN.ext hx
              replace hR := hR.ext hx
              have hE := Upd.refl (fun _ => False) W
              refine id (X_load (v := .int .i64 b0) T3 rfl (iat hR (Int.toNat_natCast _) hb02) ?_)
              exact ⟨hE, rfl⟩
            intro val W10 hx10 he10
            replace hx10 := (Upd.drew _ _).trans hx10
            have hz10 := hx10.size
            replace hN := hN.ext hx10
            replace hU := hU.trans (Ext.upd hx10)
            replace hR := hR.ext hx10
            refine L_op rfl (X_cmp (k := .i64) (a := b) (b := b0) (r := true) rfl rfl rfl (decide_eq_true (p := ((b) : Int) ≠ ((b0) : Int)) (of_decide_eq_false hs8)) ?_)
            refine L_nil ?_
            refine T_n ?_
            refine W_ct rfl ?_
            refine W_seq ?_
            refine W_reg ?_
            refine L_op rfl (X_move (v := s) rfl ?_)
            refine L_op rfl (X_move (v := (.int .i64 (((i : Nat) : Int)))) rfl ?_)
            refine L_op rfl (X_move (v := (cutv s 1 i0 bs.length)) rfl ?_)
            refine L_op rfl (X_move (v := (.int .i64 (((k : Nat) : Int)))) rfl ?_)
            refine L_op rfl (X_idx (v := (cutv s 1 i0 bs.length)) (n := (bs.length - i0)) (k := .i64) (i := ((k : Nat) : Int)) S24 rfl hsv2 rfl (by omega) (by omega) ?_)
            refine L_op rfl (X_load (v := .int .i64 b) T3 rfl (iat hR (Int.toNat_natCast _) hbj2) ?_)
            refine L_op rfl (X_idx (v := s) (n := bs.length) (k := .i64) (i := ((i : Nat) : Int)) S24 rfl hsv rfl (by omega) (by omega) ?_)
            refine L_op0 (X_storeOwnC (i := ((i : Nat) : Int).toNat * 1) (v := s) (u := .int .i64 b) T3 hN.1 (by show _ < xs.length * 1; omega) rfl rfl rfl ?_)
            intro w5 hO5 hu5
            have hz5 := hu5.size
            rw [show ((i : Nat) : Int).toNat * 1 = i by omega, liSet] at hO5
            have hN5 : NOwn LI w5 3 5 lo up s (xs.set i b) := NOwn.of (fun _ => rfl) (hO5.eq (by rw [List.length_set]) rfl) hbd
            replace hU := hU.trans hu5
            replace hN := hN5
            refine L_nil ?_
            refine T_n ?_
            refine W_reg ?_
            refine L_op rfl (X_move (v := (.int .i64 (((i : Nat) : Int)))) rfl ?_)
            refine L_op rfl (X_arith (k := .i64) (a := ((i : Nat) : Int)) (b := 1) (r := ((i + 1 : Nat) : Int)) rfl rfl rfl (iadd64 (by omega) (by omega) (by omega)) ?_)
            refine L_op rfl (X_assign (v := (.int .i64 (((i + 1 : Nat) : Int)))) rfl ?_)
            refine L_nil ?_
            refine B_n ?_
            refine T_n ?_
            refine W_reg ?_
            refine L_op rfl (X_move (v := (.int .i64 (((k : Nat) : Int)))) rfl ?_)
            refine L_op rfl (X_arith (k := .i64) (a := ((k : Nat) : Int)) (b := 1) (r := ((k + 1 : Nat) : Int)) rfl rfl rfl (iadd64 (by omega) (by omega) (by omega)) ?_)
            refine L_op rfl (X_assign (v := (.int .i64 (((k + 1 : Nat) : Int)))) rfl ?_)
            refine L_nil ?_
            refine T_n ?_
            exact ⟨rfl, ⟨i + 1, k + 1, xs.set i b⟩, ⟨⟨by omega, by omega, by omega, by rw [List.length_set]; exact hxs, by rw [take_set_succ (by omega), hxi, ← Nat.add_assoc, compK_miss hbj hb0 (of_decide_eq_false hs8)], by (rw [← Nat.add_assoc, compK_miss hbj hb0 (of_decide_eq_false hs8), List.length_append, hil]; rfl), fun m hm => by rw [List.getElem?_set_ne (by omega)]; exact hrest m (by omega), hN, hU⟩, (by show bs.length - (i0 + (k + 1)) < bs.length - (i0 + k); omega)⟩, (Out.mk rfl), ⟨rfl, rfl, trivial⟩⟩
        · refine L_op rfl (X_cmp (k := .i64) (a := ((k : Nat) : Int)) (b := (((bs.length - i0) : Nat) : Int)) (r := false) rfl rfl rfl (decide_eq_false (p := ((((k : Nat) : Int)) : Int) < (((((bs.length - i0) : Nat) : Int)) : Int)) (by omega)) ?_)
          refine L_nil ?_
          refine T_n ?_
          refine W_cf rfl ?_
          refine W_exit ?_
          refine T_e ?_
          refine T_e ?_
          refine B_x ?_
          refine T_n ?_
          refine W_seq ?_
          refine W_reg ?_
          refine L_op rfl (X_move (v := s) rfl ?_)
          refine L_op rfl (X_move (v := (.int .i64 (((i : Nat) : Int)))) rfl ?_)
          refine L_op rfl (X_slice (n := bs.length) (l := i) (h' := bs.length) (kl := .i64) (kh := .i64) S24 rfl hsv rfl rfl (by omega) (by omega) ?_)
          have hO := hN.1
          rw [hxs] at hO
          refine L_op0 (X_clearTail (z := .int .i64 0) (v := s) S24 rfl rfl hO (i := i) (by omega) rfl ?_)
          intro w8 ys hO8 hys hu8
          rw [liTake] at hys
          replace hU := hU.trans hu8
          refine L_nil ?_
          refine T_n ?_
          refine W_seq ?_
          refine W_reg ?_
          refine L_op rfl (X_move (v := s) rfl ?_)
          refine L_op rfl (X_move (v := (.int .i64 (((i : Nat) : Int)))) rfl ?_)
          refine L_op rfl (X_slice (n := bs.length) (l := 0) (h' := i) (kl := .i64) (kh := .i64) S24 rfl hsv rfl rfl (by omega) (by omega) ?_)
          refine L_op rfl (X_assign (v := (cutv s 1 0 i)) rfl ?_)
          refine L_nil ?_
          refine T_n ?_
          refine W_ret ?_
          refine B_r ?_
          refine T_r ?_
          refine T_r ?_
          refine B_r ?_
          refine T_r ?_
          have hjl : i0 + k = bs.length := by omega
          rw [hjl] at hxi hil
          have hO9 := hO8.cut0 (k := i) (by omega)
          rw [Nat.mul_one, hys, hxi] at hO9
          exact BQ_r (End_1 Try.results34 (v := cutv s 1 0 i) rfl ⟨compI bs, NOwn.of (fun _ => rfl) (hO9.eq hil.symm rfl) (fun b hb => hbd b (by rwa [obk_cut0 hsv] at hb)), rfl, fun b hb => by rwa [obk_cut0 hsv] at hb, hU⟩)
      · refine W_draw 9 [[], [], [0, 1], [0, 1, 2], [], [], [5], [4, 5, 6], [4, 5, 6, 7], [0, 1, 2, 3, 4, 5, 6, 7, 8]] mixed (by kernel_rfl) ?_
        refine ⟨.det (fun val => s), ⟨fun _ _ hv => rfl, fun _ _ _ _ _ => trivial⟩, fun val h_ W hx he => ⟨trivial, ?_⟩, ?_⟩
        · replace hx := (Upd.drew _ _).trans hx
          replace hN := hN.ext hx
          have hE := Upd.refl (fun _ => False) W
          refine id (X_move (v := s) rfl ?_)
          exact ⟨hE, rfl⟩
        refine ⟨.det (fun val => (.int .i64 (((i : Nat) : Int)))), ⟨fun _ _ hv => rfl, fun _ _ _ _ _ => trivial⟩, fun val h_ W hx he => ⟨trivial, ?_⟩, ?_⟩
        · replace hx := (Upd.drew _ _).trans hx
          replace hN := hN.ext hx
          have hE := Upd.refl (fun _ => False) W
          refine id (X_move (v := (.int .i64 (((i : Nat) : Int)))) rfl ?_)
          exact ⟨hE, rfl⟩
        refine ⟨.det (fun val => (pof s ((((i : Nat) : Int)).toNat * 1))), ⟨fun _ _ hv => rfl, fun _ _ _ _ _ => trivial⟩, fun val h_ W hx he => ⟨trivial, ?_⟩, ?_⟩
        · replace hx := (Upd.drew _ _).trans hx
          replace hN := hN.ext hx
          have hE := Upd.refl (fun _ => False) W
          refine id (X_idx (v := s) (n := bs.length) (k := .i64) (i := ((i : Nat) : Int)) S24 rfl hsv rfl (by omega) (by omega) ?_)
          exact ⟨hE, rfl⟩
        refine ⟨.det (fun val => (.int .i64 (a))), ⟨fun _ _ hv => rfl, fun _ _ _ _ _ => trivial⟩, fun val h_ W hx he => ⟨trivial, ?_⟩, ?_⟩
        · replace hx := (Upd.drew _ _).trans hx
          replace hN := hN.ext hx
          have hE := Upd.refl (fun _ => False) W
          refine id (X_load (v := .int .i64 a) T3 rfl (iat hN.rd (Int.toNat_natCast _) hai) ?_)
          exact ⟨hE, rfl⟩
        refine ⟨.det (fun val => s), ⟨fun _ _ hv => rfl, fun _ _ _ _ _ => trivial⟩, fun val h_ W hx he => ⟨trivial, ?_⟩, ?_⟩
        · replace hx := (Upd.drew _ _).trans hx
          replace hN := hN.ext hx
          have hE := Upd.refl (fun _ => False) W
          refine id (X_move (v := s) rfl ?_)
          exact ⟨hE, rfl⟩
        refine ⟨.det (fun val => (.int .i64 (((i : Nat) : Int)))), ⟨fun _ _ hv => rfl, fun _ _ _ _ _ => trivial⟩, fun val h_ W hx he => ⟨trivial, ?_⟩, ?_⟩
        · replace hx := (Upd.drew _ _).trans hx
          replace hN := hN.ext hx
          have hE := Upd.refl (fun _ => False) W
          refine id (X_move (v := (.int .i64 (((i : Nat) : Int)))) rfl ?_)
          exact ⟨hE, rfl⟩
        refine ⟨.det (fun val => (.int .i64 (((i - 1 : Nat) : Int)))), ⟨fun _ _ hv => rfl, fun _ _ _ _ _ => trivial⟩, fun val h_ W hx he => ⟨trivial, ?_⟩, ?_⟩
        · replace hx := (Upd.drew _ _).trans hx
          replace hN := hN.ext hx
          have hE := Upd.refl (fun _ => False) W
          refine id (X_arith (k := .i64) (a := ((i : Nat) : Int)) (b := 1) (r := ((i - 1 : Nat) : Int)) rfl rfl rfl (isub64 (by omega) (by omega) (by omega)) ?_)
          exact ⟨hE, rfl⟩
        refine ⟨.det (fun val => (pof s ((((i - 1 : Nat) : Int)).toNat * 1))), ⟨fun _ _ hv => rfl, fun _ _ _ _ _ => trivial⟩, fun val h_ W hx he => ⟨trivial, ?_⟩, ?_⟩
        · replace hx := (Upd.drew _ _).trans hx
          replace hN := hN.ext hx
          have hE := Upd.refl (fun _ => False) W
          refine id (X_idx (v := s) (n := bs.length) (k := .i64) (i := ((i - 1 : Nat) : Int)) S24 rfl hsv rfl (by omega) (by omega) ?_)
          exact ⟨hE, rfl⟩
        refine ⟨.det (fun val => (.int .i64 (a0))), ⟨fun _ _ hv => rfl, fun _ _ _ _ _ => trivial⟩, fun val h_ W hx he => ⟨trivial, ?_⟩, ?_⟩
        · replace hx := (Upd.drew _ _).trans hx
          replace hN := hN.ext hx
          have hE := Upd.refl (fun _ => False) W
          refine id (X_load (v := .int .i64 a0) T3 rfl (iat hN.rd (Int.toNat_natCast _) ha0) ?_)
          exact ⟨hE, rfl⟩
        intro val W11 hx11 he11
        replace hx11 := (Upd.drew _ _).trans hx11
        have hz11 := hx11.size
        replace hN := hN.ext hx11
        replace hU := hU.trans (Ext.upd hx11)
        refine L_op rfl (X_cmp (k := .i64) (a := a) (b := a0) (r := false) rfl rfl rfl (decide_eq_false (p := ((a) : Int) = ((a0) : Int)) (by have h_ := of_decide_eq_false hs4; omega)) ?_)
        refine L_nil ?_
        refine T_n ?_
        refine W_cf rfl ?_
        refine W_skip ?_
        refine B_n ?_
        refine T_n ?_
        refine W_reg ?_
        refine L_op rfl (X_move (v := (.int .i64 (((i : Nat) : Int)))) rfl ?_)
        refine L_op rfl (X_arith (k := .i64) (a := ((i : Nat) : Int)) (b := 1) (r := ((i + 1 : Nat) : Int)) rfl rfl rfl (iadd64 (by omega) (by omega) (by omega)) ?_)
        refine L_op rfl (X_assign (v := (.int .i64 (((i + 1 : Nat) : Int)))) rfl ?_)
        refine L_nil ?_
        refine T_n ?_
        exact ⟨rfl, i + 1, ⟨⟨hN, hU, by omega, by omega, compK_take hai (compK_miss hai ha0 (of_decide_eq_false hs4)) hci⟩, (by show bs.length - (i + 1) < bs.length - i; omega)⟩, (Out.mk rfl), ⟨rfl, trivial⟩⟩
    · refine L_op rfl (X_cmp (k := .i64) (a := ((i : Nat) : Int)) (b := ((bs.length : Nat) : Int)) (r := false) rfl rfl rfl (decide_eq_false (p := ((((i : Nat) : Int)) : Int) < ((((bs.length : Nat) : Int)) : Int)) (by omega)) ?_)
      refine L_nil ?_
      refine T_n ?_
      refine W_cf rfl ?_
      refine W_exit ?_
      refine T_e ?_
      refine T_e ?_
      refine B_x ?_
      refine T_n ?_
      refine W_seq ?_
      refine W_reg ?_
      refine L_op rfl (X_move (v := s) rfl ?_)
      refine L_op rfl (X_assign (v := s) rfl ?_)
      refine L_nil ?_
      refine T_n ?_
      refine W_ret ?_
      exact BQ_r (End_1 Try.results34 (v := s) rfl ⟨bs, hN, by obtain rfl : i = bs.length := by { omega }; exact ((by rw [List.take_length] at hci; exact hci) : compK bs bs.length = bs).symm, fun _ h => h, hU⟩)
end Go.Proofs.Ythongcaijgfojaa
