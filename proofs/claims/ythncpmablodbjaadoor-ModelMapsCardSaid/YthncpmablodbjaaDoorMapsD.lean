/-
  Maps of the model: slices.Insert of byte slices. (Printed by wip/gen/t31d.py of this repo.)
-/
import Derived.Test.YthncpmablodbjaaDoorMapsC
namespace Go.Proofs.YthncpmablodbjaaDoor
open Go Go.SL Go.Proofs
set_option linter.unusedVariables false

theorem extn22 : Extern.findNext Tryd.f22 = none := by kernel_rfl
theorem ext22 : Extern.find Tryd.f22 = some (Extern.SlicesOverlaps.overlaps #[22, 22] #[4]) := by kernel_rfl
theorem size23 (w : World) : (Go.sizeOf 23).run Tryd.prog w = .ok 1 w := run_sizeOf_of T23.size w
/-- the cells as the copies leave them, in a row that has grown -/
theorem ins_1 {A X Z Y : List Value} {k n : Nat} (hA : A.length = n) (hk : k < n) (hX : X.length = 1) (hZ : Z.length = (n + 1 - k) * 1) (hY : Y.length = n - k) :
    (((A.take (k * 1) ++ Z).take (k * 1) ++ X ++ (A.take (k * 1) ++ Z).drop (k * 1 + 1 * 1)).take ((k + 1) * 1) ++ Y ++ ((A.take (k * 1) ++ Z).take (k * 1) ++ X ++ (A.take (k * 1) ++ Z).drop (k * 1 + 1 * 1)).drop ((k + 1) * 1 + (n - k) * 1)) = A.take k ++ X ++ Y := by
  have hl : (A.take (k * 1)).length = k * 1 := by rw [List.length_take, hA]; omega
  have e1 : (A.take (k * 1) ++ Z).take (k * 1) = A.take (k * 1) := List.take_left' hl
  rw [e1]
  have hl2 : (A.take (k * 1) ++ X).length = (k + 1) * 1 := by rw [List.length_append, hl, hX]; omega
  rw [List.take_left' hl2, List.drop_of_length_le (by rw [List.length_append, hl2, List.length_drop, List.length_append, hl, hZ]; omega), List.append_nil, Nat.mul_one]
/-- and in a row that had room -/
theorem ins_2 {A X Z : List Value} {k n : Nat} (hA : A.length = n) (hk : k < n) (hX : X.length = 1) (hZ : Z.length = (n + 1 - n) * 1) :
    (((A ++ Z).take ((k + 1) * 1) ++ A.drop (k * 1) ++ (A ++ Z).drop ((k + 1) * 1 + (n - k) * 1)).take (k * 1) ++ X ++ ((A ++ Z).take ((k + 1) * 1) ++ A.drop (k * 1) ++ (A ++ Z).drop ((k + 1) * 1 + (n - k) * 1)).drop (k * 1 + 1 * 1)) = A.take k ++ X ++ A.drop k := by
  have e0 : (A ++ Z).drop ((k + 1) * 1 + (n - k) * 1) = [] := List.drop_of_length_le (by rw [List.length_append, hA, hZ]; omega)
  have e1 : (A ++ Z).take ((k + 1) * 1) = A.take ((k + 1) * 1) := List.take_append_of_le_length (by rw [hA]; omega)
  rw [e0, List.append_nil, e1]
  have hl : (A.take ((k + 1) * 1)).length = (k + 1) * 1 := by rw [List.length_take, hA]; omega
  rw [List.take_append_of_le_length (by rw [hl]; omega), List.take_take, Nat.min_eq_left (by omega), List.drop_left' (by rw [hl]; omega), Nat.mul_one]
theorem src_2 {A Z : List Value} {k n : Nat} (hA : A.length = n) (hk : k < n) : (((A ++ Z).drop (k * 1)).take ((n + 1 - k) * 1)).take ((n - k) * 1) = A.drop (k * 1) := by
  rw [List.take_take, Nat.min_eq_left (by omega), List.drop_append_of_le_length (by rw [hA]; omega), List.take_append_of_le_length (by rw [List.length_drop, hA]; omega), List.take_of_length_le (by rw [List.length_drop, hA]; omega)]
theorem lit1 {w : World} {bx : Nat} {X : Value} (hx : Blk w bx #[X] 23) : Rd w 1 (.slice (some ⟨bx, 0, none⟩) 1 1) 1 [X] := hx.rd (o := 0) (n := 1) (c := 1) (sz := 1) (by decide) (by decide) rfl (fun j u hj => by rw [Nat.zero_add]; simpa using hj)
theorem one1 {X : Value} (h : X.oneCell' = true) : ∀ u ∈ [X], u.oneCell' = true := List.forall_mem_cons.2 ⟨h, fun _ h => by cases h⟩

theorem c_insertE (u : Value) (A : List Value) (X : Value) (bx : Nat) (w : World) (lo : Nat) (hlo : lo ≤ w.heap.size) (hlen : A.length ≤ 1048576) (hN : Own w lo 23 1 u A.length A) (hX : X.oneCell' = true) (hX0 : Blk w bx #[X] 23) : CT Tryd.prog 15 #[u, (.int .i64 (((A.length : Nat) : Int))), (.slice (some ⟨bx, 0, none⟩) 1 1)] w fun v w' => Own w' lo 23 1 v (A.length + 1) (A ++ [X]) ∧ Upd (fun b => obk u = some b) w w' ∧ ∀ b, obk v = some b → obk u = some b ∨ w.heap.size ≤ b := by
  have hxs := (lit1 hX0).sv
  have hsv := hN.sv
  refine CT_of Tryd.func15 rfl rfl rfl ?_
  refine W_seq ?_
  refine W_reg ?_
  refine L_op rfl (X_assign (v := (.slice none 0 0)) rfl ?_)
  refine L_nil ?_
  refine T_n ?_
  refine W_seq ?_
  refine W_reg ?_
  refine L_op rfl (X_move (v := u) rfl ?_)
  refine L_op rfl (X_move (v := (.int .i64 (((A.length : Nat) : Int)))) rfl ?_)
  refine L_op rfl (X_slice (n := A.length) (l := A.length) (h' := A.length) (kl := .i64) (kh := .i64) S22 rfl hN.sv rfl rfl (Nat.le_refl _) (Nat.le_refl _) ?_)
  refine L_nil ?_
  refine T_n ?_
  refine W_seq ?_
  refine W_reg ?_
  refine L_op rfl (X_move (v := (.slice (some ⟨bx, 0, none⟩) 1 1)) rfl ?_)
  refine L_op rfl (X_len (v := (.slice (some ⟨bx, 0, none⟩) 1 1)) (n := 1) Tryd.underlying22 rfl hxs ?_)
  refine L_op rfl (X_assign (v := (.int .i64 (1))) rfl ?_)
  refine L_nil ?_
  refine T_n ?_
  refine W_seq ?_
  refine W_seq ?_
  refine W_reg ?_
  refine L_op rfl (X_move (v := (.int .i64 (1))) rfl ?_)
  refine L_op rfl (X_cmp (k := .i64) (a := 1) (b := 0) (r := false) rfl rfl rfl rfl ?_)
  refine L_nil ?_
  refine T_n ?_
  refine W_cf rfl ?_
  refine W_skip ?_
  refine T_n ?_
  refine W_seq ?_
  refine W_reg ?_
  refine L_op rfl (X_move (v := u) rfl ?_)
  refine L_op rfl (X_len (v := u) (n := A.length) Tryd.underlying22 rfl hN.sv ?_)
  refine L_op rfl (X_assign (v := (.int .i64 (((A.length : Nat) : Int)))) rfl ?_)
  refine L_nil ?_
  refine T_n ?_
  refine W_seq ?_
  refine W_seq ?_
  refine W_reg ?_
  refine L_op rfl (X_move (v := (.int .i64 (((A.length : Nat) : Int)))) rfl ?_)
  refine L_op rfl (X_move (v := (.int .i64 (((A.length : Nat) : Int)))) rfl ?_)
  refine L_op rfl (X_cmp (k := .i64) (a := ((A.length : Nat) : Int)) (b := ((A.length : Nat) : Int)) (r := true) rfl rfl rfl (decide_eq_true (p := ((((A.length : Nat) : Int)) : Int) = ((((A.length : Nat) : Int)) : Int)) (by omega)) ?_)
  refine L_nil ?_
  refine T_n ?_
  refine W_ct rfl ?_
  refine W_seq ?_
  refine W_reg ?_
  refine L_op rfl (X_move (v := u) rfl ?_)
  refine L_op rfl (X_move (v := (.slice (some ⟨bx, 0, none⟩) 1 1)) rfl ?_)
  refine L_op rfl (X_append (B := lo) (n := A.length) (s := u) (x := .slice (some ⟨bx, 0, none⟩) 1 1) S22 ⟨_, Tryd.underlying22⟩ rfl rfl hN (m := 1) (ys := [X]) (lit1 hX0) (one1 hX) (by unfold maxLen; omega) (by omega) (by omega) ?_)
  intro v5 w5 hO5 hu5 ho5
  have hz5 := hu5.size
  refine L_op rfl (X_assign (v := v5) rfl ?_)
  refine L_nil ?_
  refine T_n ?_
  refine W_ret ?_
  refine T_r ?_
  exact BQ_r (End_1 Tryd.results15 (v := v5) rfl ⟨hO5, hu5, ho5⟩)

theorem c_insertM (g c : Nat) (A : List Value) (X : Value) (k bx : Nat) (w : World) (lo up : Nat) (hlo : lo ≤ w.heap.size) (hup : up ≤ w.heap.size) (hlen : A.length ≤ 1048576) (hkl : k < A.length) (hN : Own w lo 23 1 (.slice (some ⟨g, 0, none⟩) A.length c) A.length A) (hA1 : ∀ u ∈ A, u.oneCell' = true) (hgu : g < up) (hX : X.oneCell' = true) (hX0 : Blk w bx #[X] 23) (hbx : up ≤ bx) : CT Tryd.prog 15 #[(.slice (some ⟨g, 0, none⟩) A.length c), (.int .i64 (((k : Nat) : Int))), (.slice (some ⟨bx, 0, none⟩) 1 1)] w fun v w' => Own w' lo 23 1 v (A.length + 1) (A.take k ++ X :: A.drop k) ∧ Upd (fun b => obk (.slice (some ⟨g, 0, none⟩) A.length c) = some b) w w' ∧ ∀ b, obk v = some b → obk (.slice (some ⟨g, 0, none⟩) A.length c) = some b ∨ w.heap.size ≤ b := by
  have hxs := (lit1 hX0).sv
  have hsv := hN.sv
  obtain ⟨n0, hn0⟩ : ∃ n, n = w.heap.size := ⟨_, rfl⟩
  obtain ⟨_, a_, c_, hv_, hnc, hcm, hcase⟩ := id hN
  cases hv_
  obtain ⟨g_, cur, hg_, hBg, hgb, hfit, htk⟩ := hcase.resolve_left (by omega)
  cases hg_
  clear hcase
  have hbl := hX0.lt
  have hN_b : ∀ b, obk (.slice (some ⟨g, 0, none⟩) A.length c) = some b → b < up := fun b hb => by rw [obk_some (by omega)] at hb; cases hb; exact hgu
  have hfit2 : c * 1 ≤ cur.size := hfit
  have hYl : (A.drop k).length = A.length - k := List.length_drop
  have hV : Upd (fun i => i = g ∨ n0 ≤ i) w w := Upd.refl _ _
  refine CT_of Tryd.func15 rfl rfl rfl ?_
  refine W_seq ?_
  refine W_reg ?_
  refine L_op rfl (X_assign (v := (.slice none 0 0)) rfl ?_)
  refine L_nil ?_
  refine T_n ?_
  refine W_seq ?_
  refine W_reg ?_
  refine L_op rfl (X_move (v := (.slice (some ⟨g, 0, none⟩) A.length c)) rfl ?_)
  refine L_op rfl (X_move (v := (.int .i64 (((k : Nat) : Int)))) rfl ?_)
  refine L_op rfl (X_slice (n := A.length) (l := k) (h' := A.length) (kl := .i64) (kh := .i64) S22 rfl hsv rfl rfl (by omega) (by omega) ?_)
  refine L_nil ?_
  refine T_n ?_
  refine W_seq ?_
  refine W_reg ?_
  refine L_op rfl (X_move (v := (.slice (some ⟨bx, 0, none⟩) 1 1)) rfl ?_)
  refine L_op rfl (X_len (v := (.slice (some ⟨bx, 0, none⟩) 1 1)) (n := 1) Tryd.underlying22 rfl hxs ?_)
  refine L_op rfl (X_assign (v := (.int .i64 (1))) rfl ?_)
  refine L_nil ?_
  refine T_n ?_
  refine W_seq ?_
  refine W_seq ?_
  refine W_reg ?_
  refine L_op rfl (X_move (v := (.int .i64 (1))) rfl ?_)
  refine L_op rfl (X_cmp (k := .i64) (a := 1) (b := 0) (r := false) rfl rfl rfl rfl ?_)
  refine L_nil ?_
  refine T_n ?_
  refine W_cf rfl ?_
  refine W_skip ?_
  refine T_n ?_
  refine W_seq ?_
  refine W_reg ?_
  refine L_op rfl (X_move (v := (.slice (some ⟨g, 0, none⟩) A.length c)) rfl ?_)
  refine L_op rfl (X_len (v := (.slice (some ⟨g, 0, none⟩) A.length c)) (n := A.length) Tryd.underlying22 rfl hsv ?_)
  refine L_op rfl (X_assign (v := (.int .i64 (((A.length : Nat) : Int)))) rfl ?_)
  refine L_nil ?_
  refine T_n ?_
  refine W_seq ?_
  refine W_seq ?_
  refine W_reg ?_
  refine L_op rfl (X_move (v := (.int .i64 (((k : Nat) : Int)))) rfl ?_)
  refine L_op rfl (X_move (v := (.int .i64 (((A.length : Nat) : Int)))) rfl ?_)
  refine L_op rfl (X_cmp (k := .i64) (a := ((k : Nat) : Int)) (b := ((A.length : Nat) : Int)) (r := false) rfl rfl rfl (decide_eq_false (p := ((((k : Nat) : Int)) : Int) = ((((A.length : Nat) : Int)) : Int)) (by omega)) ?_)
  refine L_nil ?_
  refine T_n ?_
  refine W_cf rfl ?_
  refine W_skip ?_
  refine T_n ?_
  refine W_seq ?_
  refine W_seq ?_
  refine W_reg ?_
  refine L_op rfl (X_move (v := (.int .i64 (((A.length : Nat) : Int)))) rfl ?_)
  refine L_op rfl (X_move (v := (.int .i64 (1))) rfl ?_)
  refine L_op rfl (X_arith (k := .i64) (a := ((A.length : Nat) : Int)) (b := 1) (r := ((A.length + 1 : Nat) : Int)) rfl rfl rfl (iadd64 (by omega) (by omega) (by omega)) ?_)
  refine L_op rfl (X_move (v := (.slice (some ⟨g, 0, none⟩) A.length c)) rfl ?_)
  refine L_op rfl (X_cap Tryd.underlying22 rfl ?_)
  by_cases hc1 : (((A.length + 1 : Nat) : Int) : Int) > (((c : Nat) : Int))
  · refine L_op rfl (X_cmp (k := .i64) (a := ((A.length + 1 : Nat) : Int)) (b := ((c : Nat) : Int)) (r := true) rfl rfl rfl (decide_eq_true (p := ((((c : Nat) : Int)) : Int) < ((((A.length + 1 : Nat) : Int)) : Int)) (by omega)) ?_)
    refine L_nil ?_
    refine T_n ?_
    refine W_ct rfl ?_
    refine W_seq ?_
    refine W_reg ?_
    refine L_op rfl (X_move (v := (.slice (some ⟨g, 0, none⟩) A.length c)) rfl ?_)
    refine L_op rfl (X_move (v := (.int .i64 (((k : Nat) : Int)))) rfl ?_)
    refine L_op rfl (X_slice (n := A.length) (l := 0) (h' := k) (kl := .i64) (kh := .i64) S22 rfl hsv rfl rfl (by omega) (by omega) ?_)
    refine L_op rfl (X_move (v := (.int .i64 (((A.length : Nat) : Int)))) rfl ?_)
    refine L_op rfl (X_move (v := (.int .i64 (1))) rfl ?_)
    refine L_op rfl (X_arith (k := .i64) (a := ((A.length : Nat) : Int)) (b := 1) (r := ((A.length + 1 : Nat) : Int)) rfl rfl rfl (iadd64 (by omega) (by omega) (by omega)) ?_)
    refine L_op rfl (X_move (v := (.int .i64 (((k : Nat) : Int)))) rfl ?_)
    refine L_op rfl (X_arith (k := .i64) (a := ((A.length + 1 : Nat) : Int)) (b := ((k : Nat) : Int)) (r := ((A.length + 1 - k : Nat) : Int)) rfl rfl rfl (isub64 (by omega) (by omega) (by omega)) ?_)
    have hO8 : Own w lo 23 1 (.slice (some ⟨g, 0, none⟩) k c) k (A.take (k * 1)) := by have h_ := hN.cut (h := k) (by omega); rwa [cutv_zero'] at h_
    refine L_op rfl (X_appendMakeG (m := A.length + 1 - k) S22 Tryd.underlying3 (cutv_zero' (n := A.length)) rfl (by decide) (by omega) (by unfold maxLen; omega) (by omega) (by omega) hO8 (by omega) ?_)
    intro v9 w9 zs hzl hO9 hu9 hob9
    have hz9 := hu9.size
    replace hV := hV.trans (Ext.upd hu9)
    replace hN := hN.ext hu9
    replace hX0 := hX0.ext hu9
    obtain ⟨N, hNn⟩ : ∃ N, N = k + (A.length + 1 - k) := ⟨_, rfl⟩
    rw [← hNn] at hO9
    obtain ⟨_, a9, c9, hv9, hnc9, hcm9, hcase9⟩ := id hO9
    obtain ⟨g9, cur9, hg9, hB9, hgb9, hfit9, htk9⟩ := hcase9.resolve_left (by omega)
    subst hg9; subst hv9
    clear hcase9
    have hg9l := hob9 g9 (obk_some (by omega))
    have hl9l := hgb9.lt
    have hsv9 := hO9.sv
    refine L_op rfl (X_assign (v := (.slice (some ⟨g9, 0, none⟩) N c9)) rfl ?_)
    refine L_nil ?_
    refine T_n ?_
    refine W_seq ?_
    refine W_reg ?_
    refine L_op rfl (X_move (v := (.slice (some ⟨g9, 0, none⟩) N c9)) rfl ?_)
    refine L_op rfl (X_move (v := (.int .i64 (((k : Nat) : Int)))) rfl ?_)
    refine L_op rfl (X_slice (n := N) (l := k) (h' := N) (kl := .i64) (kh := .i64) S22 rfl hsv9 rfl rfl (by omega) (by omega) ?_)
    refine L_op rfl (X_move (v := (.slice (some ⟨bx, 0, none⟩) 1 1)) rfl ?_)
    refine L_op rfl (X_copyOwn (l := k) (m := 1) (m' := 1) S22 (cutv_some (n := N) (by omega)) rfl hO9 (lit1 hX0) (List.take_of_length_le (Nat.le_refl _)) (one1 hX) (by omega) (by omega) (Nat.min_eq_left (show 1 ≤ N - k by omega)) ?_)
    intro w2 hO10 hu2
    have hz2 := hu2.size
    replace hV := hV.trans (hu2.mono fun i _ h => by have h : i = g9 := h; first | exact .inl h | exact .inr (by omega))
    replace hN := hN.upd hu2 fun i hi h => by have hi := hN_b _ hi; have h : i = g9 := h; omega
    replace hX0 := hX0.upd hu2 fun h => by have h : bx = g9 := h; omega
    refine L_nil ?_
    refine T_n ?_
    refine W_seq ?_
    refine W_draw 8 [[], [], [], [1, 2], [0, 1, 2, 3], [], [], [5, 6], [0, 1, 2, 3, 4, 5, 6, 7]] mixed (by kernel_rfl) ?_
    refine ⟨.det (fun val => (.slice (some ⟨g9, 0, none⟩) N c9)), ⟨fun _ _ hv => rfl, fun _ _ _ _ _ => trivial⟩, fun val h_ W hx he => ⟨trivial, ?_⟩, ?_⟩
    · replace hx := (Upd.drew _ _).trans hx
      replace hN := hN.ext hx
      replace hX0 := hX0.ext hx
      replace hO10 := hO10.ext hx
      have hE := Upd.refl (fun _ => False) W
      refine id (X_move (v := (.slice (some ⟨g9, 0, none⟩) N c9)) rfl ?_)
      exact ⟨hE, rfl⟩
    refine ⟨.det (fun val => (.int .i64 (((k : Nat) : Int)))), ⟨fun _ _ hv => rfl, fun _ _ _ _ _ => trivial⟩, fun val h_ W hx he => ⟨trivial, ?_⟩, ?_⟩
    · replace hx := (Upd.drew _ _).trans hx
      replace hN := hN.ext hx
      replace hX0 := hX0.ext hx
      replace hO10 := hO10.ext hx
      have hE := Upd.refl (fun _ => False) W
      refine id (X_move (v := (.int .i64 (((k : Nat) : Int)))) rfl ?_)
      exact ⟨hE, rfl⟩
    refine ⟨.det (fun val => (.int .i64 (1))), ⟨fun _ _ hv => rfl, fun _ _ _ _ _ => trivial⟩, fun val h_ W hx he => ⟨trivial, ?_⟩, ?_⟩
    · replace hx := (Upd.drew _ _).trans hx
      replace hN := hN.ext hx
      replace hX0 := hX0.ext hx
      replace hO10 := hO10.ext hx
      have hE := Upd.refl (fun _ => False) W
      refine id (X_move (v := (.int .i64 (1))) rfl ?_)
      exact ⟨hE, rfl⟩
    refine ⟨.det (fun val => (.int .i64 (((k + 1 : Nat) : Int)))), ⟨fun _ _ hv => rfl, fun _ _ _ _ _ => trivial⟩, fun val h_ W hx he => ⟨trivial, ?_⟩, ?_⟩
    · replace hx := (Upd.drew _ _).trans hx
      replace hN := hN.ext hx
      replace hX0 := hX0.ext hx
      replace hO10 := hO10.ext hx
      have hE := Upd.refl (fun _ => False) W
      refine id (X_arith (k := .i64) (a := ((k : Nat) : Int)) (b := 1) (r := ((k + 1 : Nat) : Int)) rfl rfl rfl (iadd64 (by omega) (by omega) (by omega)) ?_)
      exact ⟨hE, rfl⟩
    refine ⟨.det (fun val => (cutv (.slice (some ⟨g9, 0, none⟩) N c9) 1 (k + 1) (N))), ⟨fun _ _ hv => rfl, fun _ _ _ _ _ => trivial⟩, fun val h_ W hx he => ⟨trivial, ?_⟩, ?_⟩
    · replace hx := (Upd.drew _ _).trans hx
      replace hN := hN.ext hx
      replace hX0 := hX0.ext hx
      replace hO10 := hO10.ext hx
      have hE := Upd.refl (fun _ => False) W
      refine id (X_slice (n := N) (l := k + 1) (h' := N) (kl := .i64) (kh := .i64) S22 rfl hsv9 rfl rfl (by omega) (by omega) ?_)
      exact ⟨hE, rfl⟩
    refine ⟨.det (fun val => (.slice (some ⟨g, 0, none⟩) A.length c)), ⟨fun _ _ hv => rfl, fun _ _ _ _ _ => trivial⟩, fun val h_ W hx he => ⟨trivial, ?_⟩, ?_⟩
    · replace hx := (Upd.drew _ _).trans hx
      replace hN := hN.ext hx
      replace hX0 := hX0.ext hx
      replace hO10 := hO10.ext hx
      have hE := Upd.refl (fun _ => False) W
      refine id (X_move (v := (.slice (some ⟨g, 0, none⟩) A.length c)) rfl ?_)
      exact ⟨hE, rfl⟩
    refine ⟨.det (fun val => (.int .i64 (((k : Nat) : Int)))), ⟨fun _ _ hv => rfl, fun _ _ _ _ _ => trivial⟩, fun val h_ W hx he => ⟨trivial, ?_⟩, ?_⟩
    · replace hx := (Upd.drew _ _).trans hx
      replace hN := hN.ext hx
      replace hX0 := hX0.ext hx
      replace hO10 := hO10.ext hx
      have hE := Upd.refl (fun _ => False) W
      refine id (X_move (v := (.int .i64 (((k : Nat) : Int)))) rfl ?_)
      exact ⟨hE, rfl⟩
    refine ⟨.det (fun val => (cutv (.slice (some ⟨g, 0, none⟩) A.length c) 1 (k) (A.length))), ⟨fun _ _ hv => rfl, fun _ _ _ _ _ => trivial⟩, fun val h_ W hx he => ⟨trivial, ?_⟩, ?_⟩
    · replace hx := (Upd.drew _ _).trans hx
      replace hN := hN.ext hx
      replace hX0 := hX0.ext hx
      replace hO10 := hO10.ext hx
      have hE := Upd.refl (fun _ => False) W
      refine id (X_slice (n := A.length) (l := k) (h' := A.length) (kl := .i64) (kh := .i64) S22 rfl hsv rfl rfl (by omega) (by omega) ?_)
      exact ⟨hE, rfl⟩
    intro val W3 hx3 he3
    replace hx3 := (Upd.drew _ _).trans hx3
    have hz3 := hx3.size
    replace hV := hV.trans (Ext.upd hx3)
    replace hN := hN.ext hx3
    replace hX0 := hX0.ext hx3
    replace hO10 := hO10.ext hx3
    refine L_op rfl (X_copyOwn (l := (k + 1)) (m := (A.length - k)) (m' := (A.length - k)) S22 (cutv_some (n := N) (by omega)) rfl hO10 (hN.rd.cut (l := k) (h := A.length) (by omega) (Nat.le_refl _)) (show ((A.drop (k * 1)).take ((A.length - k) * 1)).take ((A.length - k) * 1) = A.drop k from by rw [List.take_take, Nat.min_self, Nat.mul_one, Nat.mul_one, List.take_of_length_le (Nat.le_of_eq hYl)]) (fun u_ hu_ => hA1 u_ (List.mem_of_mem_drop hu_)) (by omega) (by omega) (Nat.min_eq_left (show A.length - k ≤ N - (k + 1) by omega)) ?_)
    intro w4 hO11 hu4
    have hz4 := hu4.size
    replace hV := hV.trans (hu4.mono fun i _ h => by have h : i = g9 := h; first | exact .inl h | exact .inr (by omega))
    replace hN := hN.upd hu4 fun i hi h => by have hi := hN_b _ hi; have h : i = g9 := h; omega
    replace hX0 := hX0.upd hu4 fun h => by have h : bx = g9 := h; omega
    refine L_nil ?_
    refine T_n ?_
    refine W_seq ?_
    refine W_reg ?_
    refine L_op rfl (X_move (v := (.slice (some ⟨g9, 0, none⟩) N c9)) rfl ?_)
    refine L_op rfl (X_assign (v := (.slice (some ⟨g9, 0, none⟩) N c9)) rfl ?_)
    refine L_nil ?_
    refine T_n ?_
    refine W_ret ?_
    refine T_r ?_
    exact BQ_r (End_1 Tryd.results15 (v := (.slice (some ⟨g9, 0, none⟩) N c9)) rfl ⟨hO11.eq (by omega) (by rw [ins_1 rfl hkl rfl hzl hYl, List.append_assoc]; rfl), hV.mono fun i hi h => h.elim (fun h => by rw [obk_some (by omega), h]) fun h => absurd hi (by omega), fun b hb => .inr (by rw [obk_some (by omega)] at hb; cases hb; omega)⟩)
  · refine L_op rfl (X_cmp (k := .i64) (a := ((A.length + 1 : Nat) : Int)) (b := ((c : Nat) : Int)) (r := false) rfl rfl rfl (decide_eq_false (p := ((((c : Nat) : Int)) : Int) < ((((A.length + 1 : Nat) : Int)) : Int)) (by omega)) ?_)
    refine L_nil ?_
    refine T_n ?_
    refine W_cf rfl ?_
    refine W_skip ?_
    refine T_n ?_
    refine W_seq ?_
    refine W_reg ?_
    refine L_op rfl (X_move (v := (.slice (some ⟨g, 0, none⟩) A.length c)) rfl ?_)
    refine L_op rfl (X_move (v := (.int .i64 (((A.length : Nat) : Int)))) rfl ?_)
    refine L_op rfl (X_move (v := (.int .i64 (1))) rfl ?_)
    refine L_op rfl (X_arith (k := .i64) (a := ((A.length : Nat) : Int)) (b := 1) (r := ((A.length + 1 : Nat) : Int)) rfl rfl rfl (iadd64 (by omega) (by omega) (by omega)) ?_)
    refine L_op rfl (X_sliceC (h' := A.length + 1) S22 rfl rfl (by omega) ?_)
    obtain ⟨zs, hzl, hG⟩ := Own.grow hN (by omega) (show A.length ≤ A.length + 1 by omega) (by omega)
    have hsvG := hG.sv
    refine L_op rfl (X_assign (v := (.slice (some ⟨g, 0, none⟩) (A.length + 1) c)) rfl ?_)
    refine L_nil ?_
    refine T_n ?_
    refine W_seq ?_
    refine W_seq ?_
    refine W_reg ?_
    refine L_op rfl (X_move (v := (.slice (some ⟨bx, 0, none⟩) 1 1)) rfl ?_)
    refine L_op rfl (X_move (v := (.slice (some ⟨g, 0, none⟩) (A.length + 1) c)) rfl ?_)
    refine L_op rfl (X_move (v := (.int .i64 (((k : Nat) : Int)))) rfl ?_)
    refine L_op rfl (X_move (v := (.int .i64 (1))) rfl ?_)
    refine L_op rfl (X_arith (k := .i64) (a := ((k : Nat) : Int)) (b := 1) (r := ((k + 1 : Nat) : Int)) rfl rfl rfl (iadd64 (by omega) (by omega) (by omega)) ?_)
    refine L_op rfl (X_slice (n := A.length + 1) (l := k + 1) (h' := A.length + 1) (kl := .i64) (kh := .i64) S22 rfl hsvG rfl rfl (by omega) (by omega) ?_)
    refine L_op rfl (X_ext (vs := [.slice (some ⟨bx, 0, none⟩) 1 1, cutv (.slice (some ⟨g, 0, none⟩) (A.length + 1) c) 1 (k + 1) (A.length + 1)]) Tryd.func22 rfl rfl extn22 ext22 rfl (by rw [cutv_some (by omega)]; exact run_apart Tryd.underlying22 size23 (by omega) hX0 hgb (by omega)) ?_)
    refine L_op rfl (X_not (b := false) (r := true) rfl rfl ?_)
    refine L_nil ?_
    refine T_n ?_
    refine W_ct rfl ?_
    refine W_seq ?_
    refine W_draw 8 [[], [], [], [1, 2], [0, 1, 2, 3], [], [], [5, 6], [0, 1, 2, 3, 4, 5, 6, 7]] mixed (by kernel_rfl) ?_
    refine ⟨.det (fun val => (.slice (some ⟨g, 0, none⟩) (A.length + 1) c)), ⟨fun _ _ hv => rfl, fun _ _ _ _ _ => trivial⟩, fun val h_ W hx he => ⟨trivial, ?_⟩, ?_⟩
    · replace hx := (Upd.drew _ _).trans hx
      replace hX0 := hX0.ext hx
      replace hG := hG.ext hx
      have hE := Upd.refl (fun _ => False) W
      refine id (X_move (v := (.slice (some ⟨g, 0, none⟩) (A.length + 1) c)) rfl ?_)
      exact ⟨hE, rfl⟩
    refine ⟨.det (fun val => (.int .i64 (((k : Nat) : Int)))), ⟨fun _ _ hv => rfl, fun _ _ _ _ _ => trivial⟩, fun val h_ W hx he => ⟨trivial, ?_⟩, ?_⟩
    · replace hx := (Upd.drew _ _).trans hx
      replace hX0 := hX0.ext hx
      replace hG := hG.ext hx
      have hE := Upd.refl (fun _ => False) W
      refine id (X_move (v := (.int .i64 (((k : Nat) : Int)))) rfl ?_)
      exact ⟨hE, rfl⟩
    refine ⟨.det (fun val => (.int .i64 (1))), ⟨fun _ _ hv => rfl, fun _ _ _ _ _ => trivial⟩, fun val h_ W hx he => ⟨trivial, ?_⟩, ?_⟩
    · replace hx := (Upd.drew _ _).trans hx
      replace hX0 := hX0.ext hx
      replace hG := hG.ext hx
      have hE := Upd.refl (fun _ => False) W
      refine id (X_move (v := (.int .i64 (1))) rfl ?_)
      exact ⟨hE, rfl⟩
    refine ⟨.det (fun val => (.int .i64 (((k + 1 : Nat) : Int)))), ⟨fun _ _ hv => rfl, fun _ _ _ _ _ => trivial⟩, fun val h_ W hx he => ⟨trivial, ?_⟩, ?_⟩
    · replace hx := (Upd.drew _ _).trans hx
      replace hX0 := hX0.ext hx
      replace hG := hG.ext hx
      have hE := Upd.refl (fun _ => False) W
      refine id (X_arith (k := .i64) (a := ((k : Nat) : Int)) (b := 1) (r := ((k + 1 : Nat) : Int)) rfl rfl rfl (iadd64 (by omega) (by omega) (by omega)) ?_)
      exact ⟨hE, rfl⟩
    refine ⟨.det (fun val => (cutv (.slice (some ⟨g, 0, none⟩) (A.length + 1) c) 1 (k + 1) (A.length + 1))), ⟨fun _ _ hv => rfl, fun _ _ _ _ _ => trivial⟩, fun val h_ W hx he => ⟨trivial, ?_⟩, ?_⟩
    · replace hx := (Upd.drew _ _).trans hx
      replace hX0 := hX0.ext hx
      replace hG := hG.ext hx
      have hE := Upd.refl (fun _ => False) W
      refine id (X_slice (n := A.length + 1) (l := k + 1) (h' := A.length + 1) (kl := .i64) (kh := .i64) S22 rfl hsvG rfl rfl (by omega) (by omega) ?_)
      exact ⟨hE, rfl⟩
    refine ⟨.det (fun val => (.slice (some ⟨g, 0, none⟩) (A.length + 1) c)), ⟨fun _ _ hv => rfl, fun _ _ _ _ _ => trivial⟩, fun val h_ W hx he => ⟨trivial, ?_⟩, ?_⟩
    · replace hx := (Upd.drew _ _).trans hx
      replace hX0 := hX0.ext hx
      replace hG := hG.ext hx
      have hE := Upd.refl (fun _ => False) W
      refine id (X_move (v := (.slice (some ⟨g, 0, none⟩) (A.length + 1) c)) rfl ?_)
      exact ⟨hE, rfl⟩
    refine ⟨.det (fun val => (.int .i64 (((k : Nat) : Int)))), ⟨fun _ _ hv => rfl, fun _ _ _ _ _ => trivial⟩, fun val h_ W hx he => ⟨trivial, ?_⟩, ?_⟩
    · replace hx := (Upd.drew _ _).trans hx
      replace hX0 := hX0.ext hx
      replace hG := hG.ext hx
      have hE := Upd.refl (fun _ => False) W
      refine id (X_move (v := (.int .i64 (((k : Nat) : Int)))) rfl ?_)
      exact ⟨hE, rfl⟩
    refine ⟨.det (fun val => (cutv (.slice (some ⟨g, 0, none⟩) (A.length + 1) c) 1 (k) (A.length + 1))), ⟨fun _ _ hv => rfl, fun _ _ _ _ _ => trivial⟩, fun val h_ W hx he => ⟨trivial, ?_⟩, ?_⟩
    · replace hx := (Upd.drew _ _).trans hx
      replace hX0 := hX0.ext hx
      replace hG := hG.ext hx
      have hE := Upd.refl (fun _ => False) W
      refine id (X_slice (n := A.length + 1) (l := k) (h' := A.length + 1) (kl := .i64) (kh := .i64) S22 rfl hsvG rfl rfl (by omega) (by omega) ?_)
      exact ⟨hE, rfl⟩
    intro val W5 hx5 he5
    replace hx5 := (Upd.drew _ _).trans hx5
    have hz5 := hx5.size
    replace hV := hV.trans (Ext.upd hx5)
    replace hX0 := hX0.ext hx5
    replace hG := hG.ext hx5
    refine L_op rfl (X_copyOwn (l := (k + 1)) (m := (A.length - k)) (m' := (A.length + 1 - k)) S22 (cutv_some (n := (A.length + 1)) (by omega)) rfl hG (hG.rd.cut (l := k) (h := A.length + 1) (by omega) (Nat.le_refl _)) (src_2 rfl hkl) (fun u_ hu_ => hA1 u_ (List.mem_of_mem_drop hu_)) (by omega) (by omega) ((Nat.min_eq_right (show A.length + 1 - (k + 1) ≤ A.length + 1 - k by omega)).trans (by omega)) ?_)
    intro w6 hG1 hu6
    have hz6 := hu6.size
    replace hV := hV.trans (hu6.mono fun i _ h => by have h : i = g := h; first | exact .inl h | exact .inr (by omega))
    replace hX0 := hX0.upd hu6 fun h => by have h : bx = g := h; omega
    refine L_nil ?_
    refine T_n ?_
    refine W_seq ?_
    refine W_reg ?_
    refine L_op rfl (X_move (v := (.slice (some ⟨g, 0, none⟩) (A.length + 1) c)) rfl ?_)
    refine L_op rfl (X_move (v := (.int .i64 (((k : Nat) : Int)))) rfl ?_)
    refine L_op rfl (X_slice (n := A.length + 1) (l := k) (h' := A.length + 1) (kl := .i64) (kh := .i64) S22 rfl hG1.sv rfl rfl (by omega) (by omega) ?_)
    refine L_op rfl (X_move (v := (.slice (some ⟨bx, 0, none⟩) 1 1)) rfl ?_)
    refine L_op rfl (X_copyOwn (l := k) (m := 1) (m' := 1) S22 (cutv_some (n := (A.length + 1)) (by omega)) rfl hG1 (lit1 hX0) (List.take_of_length_le (Nat.le_refl _)) (one1 hX) (by omega) (by omega) (Nat.min_eq_left (show 1 ≤ A.length + 1 - k by omega)) ?_)
    intro w7 hG2 hu7
    have hz7 := hu7.size
    replace hV := hV.trans (hu7.mono fun i _ h => by have h : i = g := h; first | exact .inl h | exact .inr (by omega))
    replace hX0 := hX0.upd hu7 fun h => by have h : bx = g := h; omega
    refine L_nil ?_
    refine T_n ?_
    refine W_seq ?_
    refine W_reg ?_
    refine L_op rfl (X_move (v := (.slice (some ⟨g, 0, none⟩) (A.length + 1) c)) rfl ?_)
    refine L_op rfl (X_assign (v := (.slice (some ⟨g, 0, none⟩) (A.length + 1) c)) rfl ?_)
    refine L_nil ?_
    refine T_n ?_
    refine W_ret ?_
    refine T_r ?_
    exact BQ_r (End_1 Tryd.results15 (v := (.slice (some ⟨g, 0, none⟩) (A.length + 1) c)) rfl ⟨hG2.eq (by omega) (by rw [ins_2 rfl hkl rfl hzl, List.append_assoc]; rfl), hV.mono fun i hi h => h.elim (fun h => by rw [obk_some (by omega), h]) fun h => absurd hi (by omega), fun b hb => .inl (by rw [obk_some (by omega)] at hb ⊢; exact hb)⟩)

theorem c_insert (u : Value) (A : List Value) (X : Value) (k bx : Nat) (w : World) (lo up : Nat) (hlo : lo ≤ w.heap.size) (hup : up ≤ w.heap.size) (hlen : A.length ≤ 1048576) (hk : k ≤ A.length) (hN : Own w lo 23 1 u A.length A) (hA1 : ∀ u ∈ A, u.oneCell' = true) (hub : ∀ b, obk u = some b → b < up) (hX : X.oneCell' = true) (hX0 : Blk w bx #[X] 23) (hbx : up ≤ bx) :
    CT Tryd.prog 15 #[u, .int .i64 ((k : Nat) : Int), .slice (some ⟨bx, 0, none⟩) 1 1] w fun v w' => Own w' lo 23 1 v (A.length + 1) (A.take k ++ X :: A.drop k) ∧ Upd (fun b => obk u = some b) w w' ∧ ∀ b, obk v = some b → obk u = some b ∨ w.heap.size ≤ b := by
  rcases Nat.eq_or_lt_of_le hk with rfl | hlt
  · rw [List.take_length, List.drop_length]
    exact c_insertE u A X bx w lo hlo hlen hN hX hX0
  · obtain ⟨_, a, c, rfl, hnc, hcm, hcase⟩ := id hN
    obtain ⟨g, _, rfl, _⟩ := hcase.resolve_left (by omega)
    exact c_insertM g c A X k bx w lo up hlo hup hlen hlt hN hA1 (hub g (obk_some (by omega))) hX hX0 hbx
end Go.Proofs.YthncpmablodbjaaDoor
