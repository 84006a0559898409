/-
 Spaces: slices.Insert. (Printed by wip/gen/t13m.py of this repo.)
-/
import Derived.Test.YtmaikcnjgkoghaaSpJ
import Derived.Test.YtmaikcnjgkoghaaBaseIN
namespace Go.Proofs.Ytmaikcnjgkoghaa
open Go Go.SL Go.Proofs
set_option linter.unusedVariables false

theorem extn27 : Extern.findNext Try.f27 = none := by kernel_rfl
theorem ext27 : Extern.find Try.f27 = some (Extern.SlicesOverlaps.overlaps #[23, 23] #[4]) := by kernel_rfl
theorem size44 (w : World) : (Go.sizeOf 44).run Try.prog w = .ok 2 w := run_sizeOf_of A44.size w
theorem flL_drop (ls : List La) (i : Nat) : (ls.flatMap LL.cel).drop (i * 2) = (ls.drop i).flatMap LL.cel := by
 induction ls generalizing i with
 | nil => simp
 | cons a r ih =>
  cases i with
  | zero => rfl
  | succ i =>
   rw [List.flatMap_cons, List.drop_succ_cons, ← ih]
   show (Value.int .i64 a.1 :: Value.int .u32 a.2 :: r.flatMap LL.cel).drop ((i + 1) * 2) = _
   rw [show (i + 1) * 2 = i * 2 + 1 + 1 by omega, List.drop_succ_cons, List.drop_succ_cons]
theorem ins_flat (ls : List La) (x : La) (k : Nat) : (ls.take k ++ x :: ls.drop k).flatMap LL.cel = (ls.take k).flatMap LL.cel ++ LL.cel x ++ (ls.drop k).flatMap LL.cel := by
 rw [List.flatMap_append, List.flatMap_cons, List.append_assoc]
/-- the cells as the copies leave them, in a row that has grown -/
theorem ins_1 {A X Z Y : List Value} {k n : Nat} (hA : A.length = n * 2) (hk : k < n) (hX : X.length = 2) (hZ : Z.length = (n + 1 - k) * 2) (hY : Y.length = (n - k) * 2) :
  (((A.take (k * 2) ++ Z).take (k * 2) ++ X ++ (A.take (k * 2) ++ Z).drop (k * 2 + 1 * 2)).take ((k + 1) * 2) ++ Y ++ ((A.take (k * 2) ++ Z).take (k * 2) ++ X ++ (A.take (k * 2) ++ Z).drop (k * 2 + 1 * 2)).drop ((k + 1) * 2 + (n - k) * 2)) = A.take (k * 2) ++ X ++ Y := by
 have hl : (A.take (k * 2)).length = k * 2 := by rw [List.length_take, hA]; omega
 have e1 : (A.take (k * 2) ++ Z).take (k * 2) = A.take (k * 2) := List.take_left' hl
 rw [e1]
 have hl2 : (A.take (k * 2) ++ X).length = (k + 1) * 2 := by rw [List.length_append, hl, hX]; omega
 rw [List.take_left' hl2, List.drop_of_length_le (by rw [List.length_append, hl2, List.length_drop, List.length_append, hl, hZ]; omega), List.append_nil]
/-- and in a row that had room -/
theorem ins_2 {A X Z : List Value} {k n : Nat} (hA : A.length = n * 2) (hk : k < n) (hX : X.length = 2) (hZ : Z.length = (n + 1 - n) * 2) :
  (((A ++ Z).take ((k + 1) * 2) ++ A.drop (k * 2) ++ (A ++ Z).drop ((k + 1) * 2 + (n - k) * 2)).take (k * 2) ++ X ++ ((A ++ Z).take ((k + 1) * 2) ++ A.drop (k * 2) ++ (A ++ Z).drop ((k + 1) * 2 + (n - k) * 2)).drop (k * 2 + 1 * 2)) = A.take (k * 2) ++ X ++ A.drop (k * 2) := by
 have e0 : (A ++ Z).drop ((k + 1) * 2 + (n - k) * 2) = [] := List.drop_of_length_le (by rw [List.length_append, hA, hZ]; omega)
 have e1 : (A ++ Z).take ((k + 1) * 2) = A.take ((k + 1) * 2) := List.take_append_of_le_length (by rw [hA]; omega)
 rw [e0, List.append_nil, e1]
 have hl : (A.take ((k + 1) * 2)).length = (k + 1) * 2 := by rw [List.length_take, hA]; omega
 rw [List.take_append_of_le_length (by rw [hl]; omega), List.take_take, Nat.min_eq_left (by omega), List.drop_left' (by rw [hl]; omega)]
theorem src_2 {A Z : List Value} {k n : Nat} (hA : A.length = n * 2) (hk : k < n) : (((A ++ Z).drop (k * 2)).take ((n + 1 - k) * 2)).take ((n - k) * 2) = A.drop (k * 2) := by
 rw [List.take_take, Nat.min_eq_left (by omega), List.drop_append_of_le_length (by rw [hA]; omega), List.take_append_of_le_length (by rw [List.length_drop, hA]; omega), List.take_of_length_le (by rw [List.length_drop, hA]; omega)]

theorem c_insertM (g c : Nat) (ls : List La) (x : La) (k bx : Nat) (w : World) (lo up : Nat) (hlo : lo ≤ w.heap.size) (hup : up ≤ w.heap.size) (hlen : ls.length ≤ 100000) (hkl : k < ls.length) (hN : NOwn LL w 44 5 lo up (.slice (some ⟨g, 0, none⟩) ls.length c) ls) (hx : Blk w bx #[.int .i64 x.1, .int .u32 x.2] 44) (hbx : up ≤ bx) : CT Try.prog 19 #[(.slice (some ⟨g, 0, none⟩) ls.length c), (.int .i64 (((k : Nat) : Int))), (.slice (some ⟨bx, 0, none⟩) 1 1)] w fun v w' => NOwn LL w' 44 5 lo w'.heap.size v (ls.take k ++ x :: ls.drop k) ∧ Upd (fun b => obk (.slice (some ⟨g, 0, none⟩) ls.length c) = some b) w w' := by
 have hxs := (lit_rd hx).sv
 have hsv := hN.1.sv
 obtain ⟨n0, hn0⟩ : ∃ n, n = w.heap.size := ⟨_, rfl⟩
 obtain ⟨_, a_, c_, hv_, hnc, hcm, hcase⟩ := id hN.1
 cases hv_
 obtain ⟨g_, cur, hg_, hBg, hgb, hfit, htk⟩ := hcase.resolve_left (by omega)
 cases hg_
 clear hcase
 have hgu : g < up := hN.2.1 g (obk_some (by omega))
 have hbl := hx.lt
 have hfit2 : c * 2 ≤ cur.size := hfit
 have hAl : (ls.flatMap LL.cel).length = ls.length * 2 := flat_len _
 have hYl : ((ls.drop k).flatMap LL.cel).length = (ls.length - k) * 2 := by rw [flat_len, List.length_drop]; rfl
 have hV : Upd (fun i => i = g ∨ n0 ≤ i) w w := Upd.refl _ _
 refine CT_of Try.func19 rfl rfl rfl ?_
 refine W_seq ?_
 refine W_reg ?_
 refine L_op rfl (X_assign (v := (.slice none 0 0)) rfl ?_)
 refine L_nil ?_
 refine T_n ?_
 refine W_seq ?_
 refine W_reg ?_
 refine L_op rfl (X_move (v := (.slice (some ⟨g, 0, none⟩) ls.length c)) rfl ?_)
 refine L_op rfl (X_move (v := (.int .i64 (((k : Nat) : Int)))) rfl ?_)
 refine L_op rfl (X_slice (n := ls.length) (l := k) (h' := ls.length) (kl := .i64) (kh := .i64) S23 rfl hsv rfl rfl (by omega) (by omega) ?_)
 refine L_nil ?_
 refine T_n ?_
 refine W_seq ?_
 refine W_reg ?_
 refine L_op rfl (X_move (v := (.slice (some ⟨bx, 0, none⟩) 1 1)) rfl ?_)
 refine L_op rfl (X_len (v := (.slice (some ⟨bx, 0, none⟩) 1 1)) (n := 1) Try.underlying23 rfl hxs ?_)
 refine L_op rfl (X_assign (v := (.int .i64 (1))) rfl ?_)
 refine L_nil ?_
 refine T_n ?_
 refine W_seq ?_
 refine W_seq ?_
 refine W_reg ?_
 refine L_op rfl (X_move (v := (.int .i64 (1))) rfl ?_)
 refine L_op rfl (X_cmp (k := .i64) (a := 1) (b := 0) (r := false) rfl rfl rfl rfl ?_)
 refine L_nil ?_
 refine T_n ?_
 refine W_cf rfl ?_
 refine W_skip ?_
 refine T_n ?_
 refine W_seq ?_
 refine W_reg ?_
 refine L_op rfl (X_move (v := (.slice (some ⟨g, 0, none⟩) ls.length c)) rfl ?_)
 refine L_op rfl (X_len (v := (.slice (some ⟨g, 0, none⟩) ls.length c)) (n := ls.length) Try.underlying23 rfl hsv ?_)
 refine L_op rfl (X_assign (v := (.int .i64 (((ls.length : Nat) : Int)))) rfl ?_)
 refine L_nil ?_
 refine T_n ?_
 refine W_seq ?_
 refine W_seq ?_
 refine W_reg ?_
 refine L_op rfl (X_move (v := (.int .i64 (((k : Nat) : Int)))) rfl ?_)
 refine L_op rfl (X_move (v := (.int .i64 (((ls.length : Nat) : Int)))) rfl ?_)
 refine L_op rfl (X_cmp (k := .i64) (a := ((k : Nat) : Int)) (b := ((ls.length : Nat) : Int)) (r := false) rfl rfl rfl (decide_eq_false (p := ((((k : Nat) : Int)) : Int) = ((((ls.length : Nat) : Int)) : Int)) (by omega)) ?_)
 refine L_nil ?_
 refine T_n ?_
 refine W_cf rfl ?_
 refine W_skip ?_
 refine T_n ?_
 refine W_seq ?_
 refine W_seq ?_
 refine W_reg ?_
 refine L_op rfl (X_move (v := (.int .i64 (((ls.length : Nat) : Int)))) rfl ?_)
 refine L_op rfl (X_move (v := (.int .i64 (1))) rfl ?_)
 refine L_op rfl (X_arith (k := .i64) (a := ((ls.length : Nat) : Int)) (b := 1) (r := ((ls.length + 1 : Nat) : Int)) rfl rfl rfl (iadd64 (by omega) (by omega) (by omega)) ?_)
 refine L_op rfl (X_move (v := (.slice (some ⟨g, 0, none⟩) ls.length c)) rfl ?_)
 refine L_op rfl (X_cap Try.underlying23 rfl ?_)
 by_cases hc1 : (((ls.length + 1 : Nat) : Int) : Int) > (((c : Nat) : Int))
 ·refine L_op rfl (X_cmp (k := .i64) (a := ((ls.length + 1 : Nat) : Int)) (b := ((c : Nat) : Int)) (r := true) rfl rfl rfl (decide_eq_true (p := ((((c : Nat) : Int)) : Int) < ((((ls.length + 1 : Nat) : Int)) : Int)) (by omega)) ?_)
  refine L_nil ?_
  refine T_n ?_
  refine W_ct rfl ?_
  refine W_seq ?_
  refine W_reg ?_
  refine L_op rfl (X_move (v := (.slice (some ⟨g, 0, none⟩) ls.length c)) rfl ?_)
  refine L_op rfl (X_move (v := (.int .i64 (((k : Nat) : Int)))) rfl ?_)
  refine L_op rfl (X_slice (n := ls.length) (l := 0) (h' := k) (kl := .i64) (kh := .i64) S23 rfl hsv rfl rfl (by omega) (by omega) ?_)
  refine L_op rfl (X_move (v := (.int .i64 (((ls.length : Nat) : Int)))) rfl ?_)
  refine L_op rfl (X_move (v := (.int .i64 (1))) rfl ?_)
  refine L_op rfl (X_arith (k := .i64) (a := ((ls.length : Nat) : Int)) (b := 1) (r := ((ls.length + 1 : Nat) : Int)) rfl rfl rfl (iadd64 (by omega) (by omega) (by omega)) ?_)
  refine L_op rfl (X_move (v := (.int .i64 (((k : Nat) : Int)))) rfl ?_)
  refine L_op rfl (X_arith (k := .i64) (a := ((ls.length + 1 : Nat) : Int)) (b := ((k : Nat) : Int)) (r := ((ls.length + 1 - k : Nat) : Int)) rfl rfl rfl (isub64 (by omega) (by omega) (by omega)) ?_)
  have hO8 : Own w lo 44 2 (.slice (some ⟨g, 0, none⟩) k c) k ((ls.flatMap LL.cel).take (k * 2)) := by have h_ := hN.1.cut (h := k) (by omega); rwa [cutv_zero'] at h_
  refine L_op rfl (X_appendMakeG (m := ls.length + 1 - k) S23 Try.underlying3 (cutv_zero' (n := ls.length)) rfl (by decide) (by omega) (by unfold maxLen; omega) (by omega) (by omega) hO8 (by omega) ?_)
  intro v9 w9 zs hzl hO9 hu9 hob9
  have hz9 := hu9.size
  replace hV := hV.trans (Ext.upd hu9)
  replace hN := hN.ext hu9
  replace hx := hx.ext hu9
  obtain ⟨N, hNn⟩ : ∃ N, N = k + (ls.length + 1 - k) := ⟨_, rfl⟩
  rw [← hNn] at hO9
  obtain ⟨_, a9, c9, hv9, hnc9, hcm9, hcase9⟩ := id hO9
  obtain ⟨g9, cur9, hg9, hB9, hgb9, hfit9, htk9⟩ := hcase9.resolve_left (by omega)
  subst hg9; subst hv9
  clear hcase9
  have hg9l := hob9 g9 (obk_some (by omega))
  have hl9l := hgb9.lt
  have hsv9 := hO9.sv
  refine L_op rfl (X_assign (v := (.slice (some ⟨g9, 0, none⟩) N c9)) rfl ?_)
  refine L_nil ?_
  refine T_n ?_
  refine W_seq ?_
  refine W_reg ?_
  refine L_op rfl (X_move (v := (.slice (some ⟨g9, 0, none⟩) N c9)) rfl ?_)
  refine L_op rfl (X_move (v := (.int .i64 (((k : Nat) : Int)))) rfl ?_)
  refine L_op rfl (X_slice (n := N) (l := k) (h' := N) (kl := .i64) (kh := .i64) S23 rfl hsv9 rfl rfl (by omega) (by omega) ?_)
  refine L_op rfl (X_move (v := (.slice (some ⟨bx, 0, none⟩) 1 1)) rfl ?_)
  refine L_op rfl (X_copyOwn (l := k) (m := 1) (m' := 1) S23 (cutv_some (n := N) (by omega)) rfl hO9 (lit_rd hx) (List.take_of_length_le (Nat.le_refl _)) (LL.one x (fun _ h => by cases h)) (by omega) (by omega) (Nat.min_eq_left (show 1 ≤ N - k by omega)) ?_)
  intro w2 hO10 hu2
  have hz2 := hu2.size
  replace hV := hV.trans (hu2.mono fun i _ h => by have h : i = g9 := h; first | exact .inl h | exact .inr (by omega))
  replace hN := hN.upd hu2 fun i h1 h2 h => by have h : i = g9 := h; omega
  replace hx := hx.upd hu2 fun h => by have h : bx = g9 := h; omega
  refine L_nil ?_
  refine T_n ?_
  refine W_seq ?_
  refine W_draw 8 [[], [], [], [1, 2], [0, 1, 2, 3], [], [], [5, 6], [0, 1, 2, 3, 4, 5, 6, 7]] mixed (by kernel_rfl) ?_
  refine ⟨.det (fun val => (.slice (some ⟨g9, 0, none⟩) N c9)), ⟨fun _ _ hv => rfl, fun _ _ _ _ _ => trivial⟩, fun val h_ W hx he => ⟨trivial, ?_⟩, ?_⟩
  ·exact X_move (v := (.slice (some ⟨g9, 0, none⟩) N c9)) rfl ⟨Upd.refl _ _, rfl⟩
  refine ⟨.det (fun val => (.int .i64 (((k : Nat) : Int)))), ⟨fun _ _ hv => rfl, fun _ _ _ _ _ => trivial⟩, fun val h_ W hx he => ⟨trivial, ?_⟩, ?_⟩
  ·exact X_move (v := (.int .i64 (((k : Nat) : Int)))) rfl ⟨Upd.refl _ _, rfl⟩
  refine ⟨.det (fun val => (.int .i64 (1))), ⟨fun _ _ hv => rfl, fun _ _ _ _ _ => trivial⟩, fun val h_ W hx he => ⟨trivial, ?_⟩, ?_⟩
  ·exact X_move (v := (.int .i64 (1))) rfl ⟨Upd.refl _ _, rfl⟩
  refine ⟨.det (fun val => (.int .i64 (((k + 1 : Nat) : Int)))), ⟨fun _ _ hv => rfl, fun _ _ _ _ _ => trivial⟩, fun val h_ W hx he => ⟨trivial, ?_⟩, ?_⟩
  ·exact X_arith (k := .i64) (a := ((k : Nat) : Int)) (b := 1) (r := ((k + 1 : Nat) : Int)) rfl rfl rfl (iadd64 (by omega) (by omega) (by omega)) ⟨Upd.refl _ _, rfl⟩
  refine ⟨.det (fun val => (cutv (.slice (some ⟨g9, 0, none⟩) N c9) 2 (k + 1) (N))), ⟨fun _ _ hv => rfl, fun _ _ _ _ _ => trivial⟩, fun val h_ W hx he => ⟨trivial, ?_⟩, ?_⟩
  ·exact X_slice (n := N) (l := k + 1) (h' := N) (kl := .i64) (kh := .i64) S23 rfl hsv9 rfl rfl (by omega) (by omega) ⟨Upd.refl _ _, rfl⟩
  refine ⟨.det (fun val => (.slice (some ⟨g, 0, none⟩) ls.length c)), ⟨fun _ _ hv => rfl, fun _ _ _ _ _ => trivial⟩, fun val h_ W hx he => ⟨trivial, ?_⟩, ?_⟩
  ·exact X_move (v := (.slice (some ⟨g, 0, none⟩) ls.length c)) rfl ⟨Upd.refl _ _, rfl⟩
  refine ⟨.det (fun val => (.int .i64 (((k : Nat) : Int)))), ⟨fun _ _ hv => rfl, fun _ _ _ _ _ => trivial⟩, fun val h_ W hx he => ⟨trivial, ?_⟩, ?_⟩
  ·exact X_move (v := (.int .i64 (((k : Nat) : Int)))) rfl ⟨Upd.refl _ _, rfl⟩
  refine ⟨.det (fun val => (cutv (.slice (some ⟨g, 0, none⟩) ls.length c) 2 (k) (ls.length))), ⟨fun _ _ hv => rfl, fun _ _ _ _ _ => trivial⟩, fun val h_ W hx he => ⟨trivial, ?_⟩, ?_⟩
  ·exact X_slice (n := ls.length) (l := k) (h' := ls.length) (kl := .i64) (kh := .i64) S23 rfl hsv rfl rfl (by omega) (by omega) ⟨Upd.refl _ _, rfl⟩
  intro val W3 hx3 he3
  replace hx3 := (Upd.drew _ _).trans hx3
  have hz3 := hx3.size
  replace hV := hV.trans (Ext.upd hx3)
  replace hN := hN.ext hx3
  replace hx := hx.ext hx3
  replace hO10 := hO10.ext hx3
  refine L_op rfl (X_copyOwn (l := (k + 1)) (m := (ls.length - k)) (m' := (ls.length - k)) S23 (cutv_some (n := N) (by omega)) rfl hO10 (hN.1.rd.cut (l := k) (h := ls.length) (by omega) (Nat.le_refl _)) (show (((ls.flatMap LL.cel).drop (k * 2)).take ((ls.length - k) * 2)).take ((ls.length - k) * 2) = (ls.drop k).flatMap LL.cel from by rw [List.take_take, Nat.min_self, flL_drop, List.take_of_length_le (Nat.le_of_eq hYl)]) (by intro u_ hu_; obtain ⟨e_, _, he_⟩ := List.mem_flatMap.1 hu_; exact LL.one e_ (fun _ h => by cases h) u_ he_) (by omega) (by omega) (Nat.min_eq_left (show ls.length - k ≤ N - (k + 1) by omega)) ?_)
  intro w4 hO11 hu4
  have hz4 := hu4.size
  replace hV := hV.trans (hu4.mono fun i _ h => by have h : i = g9 := h; first | exact .inl h | exact .inr (by omega))
  replace hN := hN.upd hu4 fun i h1 h2 h => by have h : i = g9 := h; omega
  replace hx := hx.upd hu4 fun h => by have h : bx = g9 := h; omega
  refine L_nil ?_
  refine T_n ?_
  refine W_seq ?_
  refine W_reg ?_
  refine L_op rfl (X_move (v := (.slice (some ⟨g9, 0, none⟩) N c9)) rfl ?_)
  refine L_op rfl (X_assign (v := (.slice (some ⟨g9, 0, none⟩) N c9)) rfl ?_)
  refine L_nil ?_
  refine T_n ?_
  refine W_ret ?_
  refine T_r ?_
  exact BQ_r (End_1 Try.results19 (v := (.slice (some ⟨g9, 0, none⟩) N c9)) rfl ⟨NOwn.of (fun _ => rfl) (hO11.eq (by rw [List.length_append, List.length_cons, List.length_take, List.length_drop]; omega) (by rw [ins_flat, ins_1 hAl hkl rfl hzl hYl]; rw [flL_take])) (fun b hb => (hO11.lt hb).2), hV.mono fun i hi h => h.elim (fun h => by rw [obk_some (by omega), h]) fun h => absurd hi (by omega)⟩)
 ·refine L_op rfl (X_cmp (k := .i64) (a := ((ls.length + 1 : Nat) : Int)) (b := ((c : Nat) : Int)) (r := false) rfl rfl rfl (decide_eq_false (p := ((((c : Nat) : Int)) : Int) < ((((ls.length + 1 : Nat) : Int)) : Int)) (by omega)) ?_)
  refine L_nil ?_
  refine T_n ?_
  refine W_cf rfl ?_
  refine W_skip ?_
  refine T_n ?_
  refine W_seq ?_
  refine W_reg ?_
  refine L_op rfl (X_move (v := (.slice (some ⟨g, 0, none⟩) ls.length c)) rfl ?_)
  refine L_op rfl (X_move (v := (.int .i64 (((ls.length : Nat) : Int)))) rfl ?_)
  refine L_op rfl (X_move (v := (.int .i64 (1))) rfl ?_)
  refine L_op rfl (X_arith (k := .i64) (a := ((ls.length : Nat) : Int)) (b := 1) (r := ((ls.length + 1 : Nat) : Int)) rfl rfl rfl (iadd64 (by omega) (by omega) (by omega)) ?_)
  refine L_op rfl (X_sliceC (h' := ls.length + 1) S23 rfl rfl (by omega) ?_)
  obtain ⟨zs, hzl, hG⟩ := Own.grow hN.1 (by omega) (show ls.length ≤ ls.length + 1 by omega) (by omega)
  have hsvG := hG.sv
  refine L_op rfl (X_assign (v := (.slice (some ⟨g, 0, none⟩) (ls.length + 1) c)) rfl ?_)
  refine L_nil ?_
  refine T_n ?_
  refine W_seq ?_
  refine W_seq ?_
  refine W_reg ?_
  refine L_op rfl (X_move (v := (.slice (some ⟨bx, 0, none⟩) 1 1)) rfl ?_)
  refine L_op rfl (X_move (v := (.slice (some ⟨g, 0, none⟩) (ls.length + 1) c)) rfl ?_)
  refine L_op rfl (X_move (v := (.int .i64 (((k : Nat) : Int)))) rfl ?_)
  refine L_op rfl (X_move (v := (.int .i64 (1))) rfl ?_)
  refine L_op rfl (X_arith (k := .i64) (a := ((k : Nat) : Int)) (b := 1) (r := ((k + 1 : Nat) : Int)) rfl rfl rfl (iadd64 (by omega) (by omega) (by omega)) ?_)
  refine L_op rfl (X_slice (n := ls.length + 1) (l := k + 1) (h' := ls.length + 1) (kl := .i64) (kh := .i64) S23 rfl hsvG rfl rfl (by omega) (by omega) ?_)
  refine L_op rfl (X_ext (vs := [.slice (some ⟨bx, 0, none⟩) 1 1, cutv (.slice (some ⟨g, 0, none⟩) (ls.length + 1) c) 2 (k + 1) (ls.length + 1)]) Try.func27 rfl rfl extn27 ext27 rfl (by rw [cutv_some (by omega)]; exact run_apart Try.underlying23 size44 (by omega) hx hgb (by omega)) ?_)
  refine L_op rfl (X_not (b := false) (r := true) rfl rfl ?_)
  refine L_nil ?_
  refine T_n ?_
  refine W_ct rfl ?_
  refine W_seq ?_
  refine W_draw 8 [[], [], [], [1, 2], [0, 1, 2, 3], [], [], [5, 6], [0, 1, 2, 3, 4, 5, 6, 7]] mixed (by kernel_rfl) ?_
  refine ⟨.det (fun val => (.slice (some ⟨g, 0, none⟩) (ls.length + 1) c)), ⟨fun _ _ hv => rfl, fun _ _ _ _ _ => trivial⟩, fun val h_ W hx he => ⟨trivial, ?_⟩, ?_⟩
  ·exact X_move (v := (.slice (some ⟨g, 0, none⟩) (ls.length + 1) c)) rfl ⟨Upd.refl _ _, rfl⟩
  refine ⟨.det (fun val => (.int .i64 (((k : Nat) : Int)))), ⟨fun _ _ hv => rfl, fun _ _ _ _ _ => trivial⟩, fun val h_ W hx he => ⟨trivial, ?_⟩, ?_⟩
  ·exact X_move (v := (.int .i64 (((k : Nat) : Int)))) rfl ⟨Upd.refl _ _, rfl⟩
  refine ⟨.det (fun val => (.int .i64 (1))), ⟨fun _ _ hv => rfl, fun _ _ _ _ _ => trivial⟩, fun val h_ W hx he => ⟨trivial, ?_⟩, ?_⟩
  ·exact X_move (v := (.int .i64 (1))) rfl ⟨Upd.refl _ _, rfl⟩
  refine ⟨.det (fun val => (.int .i64 (((k + 1 : Nat) : Int)))), ⟨fun _ _ hv => rfl, fun _ _ _ _ _ => trivial⟩, fun val h_ W hx he => ⟨trivial, ?_⟩, ?_⟩
  ·exact X_arith (k := .i64) (a := ((k : Nat) : Int)) (b := 1) (r := ((k + 1 : Nat) : Int)) rfl rfl rfl (iadd64 (by omega) (by omega) (by omega)) ⟨Upd.refl _ _, rfl⟩
  refine ⟨.det (fun val => (cutv (.slice (some ⟨g, 0, none⟩) (ls.length + 1) c) 2 (k + 1) (ls.length + 1))), ⟨fun _ _ hv => rfl, fun _ _ _ _ _ => trivial⟩, fun val h_ W hx he => ⟨trivial, ?_⟩, ?_⟩
  ·exact X_slice (n := ls.length + 1) (l := k + 1) (h' := ls.length + 1) (kl := .i64) (kh := .i64) S23 rfl hsvG rfl rfl (by omega) (by omega) ⟨Upd.refl _ _, rfl⟩
  refine ⟨.det (fun val => (.slice (some ⟨g, 0, none⟩) (ls.length + 1) c)), ⟨fun _ _ hv => rfl, fun _ _ _ _ _ => trivial⟩, fun val h_ W hx he => ⟨trivial, ?_⟩, ?_⟩
  ·exact X_move (v := (.slice (some ⟨g, 0, none⟩) (ls.length + 1) c)) rfl ⟨Upd.refl _ _, rfl⟩
  refine ⟨.det (fun val => (.int .i64 (((k : Nat) : Int)))), ⟨fun _ _ hv => rfl, fun _ _ _ _ _ => trivial⟩, fun val h_ W hx he => ⟨trivial, ?_⟩, ?_⟩
  ·exact X_move (v := (.int .i64 (((k : Nat) : Int)))) rfl ⟨Upd.refl _ _, rfl⟩
  refine ⟨.det (fun val => (cutv (.slice (some ⟨g, 0, none⟩) (ls.length + 1) c) 2 (k) (ls.length + 1))), ⟨fun _ _ hv => rfl, fun _ _ _ _ _ => trivial⟩, fun val h_ W hx he => ⟨trivial, ?_⟩, ?_⟩
  ·exact X_slice (n := ls.length + 1) (l := k) (h' := ls.length + 1) (kl := .i64) (kh := .i64) S23 rfl hsvG rfl rfl (by omega) (by omega) ⟨Upd.refl _ _, rfl⟩
  intro val W5 hx5 he5
  replace hx5 := (Upd.drew _ _).trans hx5
  have hz5 := hx5.size
  replace hV := hV.trans (Ext.upd hx5)
  replace hx := hx.ext hx5
  replace hG := hG.ext hx5
  refine L_op rfl (X_copyOwn (l := (k + 1)) (m := (ls.length - k)) (m' := (ls.length + 1 - k)) S23 (cutv_some (n := (ls.length + 1)) (by omega)) rfl hG (hG.rd.cut (l := k) (h := ls.length + 1) (by omega) (Nat.le_refl _)) (src_2 hAl hkl) (by rw [flL_drop]; intro u_ hu_; obtain ⟨e_, _, he_⟩ := List.mem_flatMap.1 hu_; exact LL.one e_ (fun _ h => by cases h) u_ he_) (by omega) (by omega) ((Nat.min_eq_right (show ls.length + 1 - (k + 1) ≤ ls.length + 1 - k by omega)).trans (by omega)) ?_)
  intro w6 hG1 hu6
  have hz6 := hu6.size
  replace hV := hV.trans (hu6.mono fun i _ h => by have h : i = g := h; first | exact .inl h | exact .inr (by omega))
  replace hx := hx.upd hu6 fun h => by have h : bx = g := h; omega
  refine L_nil ?_
  refine T_n ?_
  refine W_seq ?_
  refine W_reg ?_
  refine L_op rfl (X_move (v := (.slice (some ⟨g, 0, none⟩) (ls.length + 1) c)) rfl ?_)
  refine L_op rfl (X_move (v := (.int .i64 (((k : Nat) : Int)))) rfl ?_)
  refine L_op rfl (X_slice (n := ls.length + 1) (l := k) (h' := ls.length + 1) (kl := .i64) (kh := .i64) S23 rfl hG1.sv rfl rfl (by omega) (by omega) ?_)
  refine L_op rfl (X_move (v := (.slice (some ⟨bx, 0, none⟩) 1 1)) rfl ?_)
  refine L_op rfl (X_copyOwn (l := k) (m := 1) (m' := 1) S23 (cutv_some (n := (ls.length + 1)) (by omega)) rfl hG1 (lit_rd hx) (List.take_of_length_le (Nat.le_refl _)) (LL.one x (fun _ h => by cases h)) (by omega) (by omega) (Nat.min_eq_left (show 1 ≤ ls.length + 1 - k by omega)) ?_)
  intro w7 hG2 hu7
  have hz7 := hu7.size
  replace hV := hV.trans (hu7.mono fun i _ h => by have h : i = g := h; first | exact .inl h | exact .inr (by omega))
  replace hx := hx.upd hu7 fun h => by have h : bx = g := h; omega
  refine L_nil ?_
  refine T_n ?_
  refine W_seq ?_
  refine W_reg ?_
  refine L_op rfl (X_move (v := (.slice (some ⟨g, 0, none⟩) (ls.length + 1) c)) rfl ?_)
  refine L_op rfl (X_assign (v := (.slice (some ⟨g, 0, none⟩) (ls.length + 1) c)) rfl ?_)
  refine L_nil ?_
  refine T_n ?_
  refine W_ret ?_
  refine T_r ?_
  exact BQ_r (End_1 Try.results19 (v := (.slice (some ⟨g, 0, none⟩) (ls.length + 1) c)) rfl ⟨NOwn.of (fun _ => rfl) (hG2.eq (by rw [List.length_append, List.length_cons, List.length_take, List.length_drop]; omega) (by rw [ins_flat, ins_2 hAl hkl rfl hzl, flL_take, flL_drop])) (fun b hb => (hG2.lt hb).2), hV.mono fun i hi h => h.elim (fun h => by rw [obk_some (by omega), h]) fun h => absurd hi (by omega)⟩)
end Go.Proofs.Ytmaikcnjgkoghaa
