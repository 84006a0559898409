/-
  The walk of PinsAll. (Printed by wip/gen/t14f.py of this repo.)
-/
import Derived.Test.YtlelcjppakmnaaaHandles
namespace Go.Proofs.Ytlelcjppakmnaaa
open Go Go.SL Go.Proofs
set_option linter.unusedVariables false

theorem incr_ext : ∀ {a b : List Int}, a.Pairwise (· < ·) → b.Pairwise (· < ·) → (∀ x, x ∈ a ↔ x ∈ b) → a = b
  | [], [], _, _, _ => rfl
  | [], y :: s, _, _, h => absurd ((h y).2 List.mem_cons_self) List.not_mem_nil
  | x :: r, [], _, _, h => absurd ((h x).1 List.mem_cons_self) List.not_mem_nil
  | x :: r, y :: s, ha, hb, h => by
    obtain ⟨a1, a2⟩ := List.pairwise_cons.1 ha
    obtain ⟨b1, b2⟩ := List.pairwise_cons.1 hb
    have e : x = y := by
      rcases List.mem_cons.1 ((h x).1 List.mem_cons_self) with e | hx
      · exact e
      · rcases List.mem_cons.1 ((h y).2 List.mem_cons_self) with e | hy
        · exact e.symm
        · have := a1 y hy
          have := b1 x hx
          omega
    subst e
    rw [incr_ext a2 b2 fun z => ⟨fun hz => (List.mem_cons.1 ((h z).1 (List.mem_cons_of_mem _ hz))).elim (fun e => by have := a1 z hz; omega) id, fun hz => (List.mem_cons.1 ((h z).2 (List.mem_cons_of_mem _ hz))).elim (fun e => by have := b1 z hz; omega) id⟩]
theorem open_step : ∀ {on : List Bool} {tx : List Int} {k : Nat} {o : Bool} {x : Int}, on[k]? = some o → tx[k]? = some x → openL (on.take (k + 1)) (tx.take (k + 1)) = openL (on.take k) (tx.take k) ++ (if o = true then [x] else [])
  | [], _, _, _, _, h, _ => by cases h
  | _ :: _, [], _, _, _, _, h => by cases h
  | o :: r, y :: s, 0, o', x, h, h2 => by
    cases h; cases h2
    cases o <;> rfl
  | true :: r, y :: s, k + 1, o', x, h, h2 => by
    show y :: openL (r.take (k + 1)) (s.take (k + 1)) = (y :: openL (r.take k) (s.take k)) ++ _
    rw [open_step (on := r) (tx := s) h h2]; rfl
  | false :: r, y :: s, k + 1, o', x, h, h2 => by
    show openL (r.take (k + 1)) (s.take (k + 1)) = openL (r.take k) (s.take k) ++ _
    rw [open_step (on := r) (tx := s) h h2]
def pcO (on : List Bool) (tx : List Int) (z : Int) (k : Nat) : Nat := (openL (on.take k) (tx.take k)).count z
theorem pcO_0 (on : List Bool) (tx : List Int) (z : Int) : pcO on tx z 0 = 0 := by
  unfold pcO
  rw [List.take_zero, List.take_zero]; rfl
theorem pcO_hit {on : List Bool} {tx : List Int} {z : Int} {k : Nat} (h : on[k]? = some true) (h2 : tx[k]? = some z) : pcO on tx z (k + 1) = pcO on tx z k + 1 := by
  unfold pcO
  rw [open_step h h2, if_pos rfl, List.count_append]; simp
theorem pcO_off {on : List Bool} {tx : List Int} {z x : Int} {k : Nat} (h : on[k]? = some false) (h2 : tx[k]? = some x) : pcO on tx z (k + 1) = pcO on tx z k := by
  unfold pcO
  rw [open_step h h2, if_neg (by decide), List.append_nil]
theorem pcO_miss {on : List Bool} {tx : List Int} {z x : Int} {k : Nat} (h : on[k]? = some true) (h2 : tx[k]? = some x) (hne : x ≠ z) : pcO on tx z (k + 1) = pcO on tx z k := by
  unfold pcO
  rw [open_step h h2, if_pos rfl, List.count_append, List.count_eq_zero_of_not_mem (a := z) (l := [x]) fun e => hne (List.mem_singleton.1 e).symm]; rfl
theorem pcO_all {on : List Bool} {tx : List Int} (z : Int) (h1 : on.length = 8) (h2 : tx.length = 8) : pcO on tx z 8 = (openL on tx).count z := by
  unfold pcO
  rw [List.take_of_length_le (by omega), List.take_of_length_le (by omega)]
theorem openL_le : ∀ (on : List Bool) (tx : List Int), (openL on tx).length ≤ on.length
  | [], _ => Nat.le_refl _
  | true :: _, [] => Nat.zero_le _
  | false :: _, [] => Nat.zero_le _
  | true :: r, y :: s => Nat.succ_le_succ (openL_le r s)
  | false :: r, y :: s => Nat.le_succ_of_le (openL_le r s)
theorem pcO_le (on : List Bool) (tx : List Int) (z : Int) (k : Nat) : pcO on tx z k ≤ k := by
  unfold pcO
  refine Nat.le_trans List.count_le_length (Nat.le_trans (openL_le _ _) ?_)
  rw [List.length_take]; omega
def seenO (zs L : List Int) (i : Nat) : Nat := ((zs.take i).map fun z => L.count z).sum
theorem seenO_step {zs L : List Int} {i : Nat} {z : Int} (h : zs[i]? = some z) : seenO zs L (i + 1) = seenO zs L i + L.count z := by
  unfold seenO
  rw [List.take_add_one, h, List.map_append, List.sum_append]; simp
theorem seenO_le {zs L : List Int} (hL : L.length ≤ 8) : ∀ i, i ≤ zs.length → seenO zs L i ≤ 8 * i
  | 0, _ => by unfold seenO; rw [List.take_zero]; exact Nat.le_refl _
  | i + 1, hi => by
    rw [seenO_step (List.getElem?_eq_getElem (show i < zs.length by omega))]
    have h1 := seenO_le (zs := zs) hL i (by omega)
    have h2 : L.count zs[i] ≤ L.length := List.count_le_length
    omega
theorem sum_zero : ∀ zs : List Int, (zs.map fun z => ([] : List Int).count z).sum = 0
  | [] => rfl
  | z :: r => by rw [List.map_cons, List.sum_cons, sum_zero r]; rfl
theorem sum_cons_ne {x : Int} (L : List Int) : ∀ {zs : List Int}, x ∉ zs → (zs.map fun z => (x :: L).count z).sum = (zs.map fun z => L.count z).sum
  | [], _ => rfl
  | z :: r, h => by
    rw [List.map_cons, List.map_cons, List.sum_cons, List.sum_cons, sum_cons_ne L fun hm => h (List.mem_cons_of_mem _ hm), List.count_cons_of_ne (a := z) (b := x) fun e => h (by rw [e]; exact List.mem_cons_self)]
theorem sum_cons_mem {x : Int} (L : List Int) : ∀ {zs : List Int}, zs.Pairwise (· < ·) → x ∈ zs → (zs.map fun z => (x :: L).count z).sum = (zs.map fun z => L.count z).sum + 1
  | [], _, h => by cases h
  | z :: r, hp, h => by
    obtain ⟨h1, h2⟩ := List.pairwise_cons.1 hp
    rw [List.map_cons, List.map_cons, List.sum_cons, List.sum_cons]
    by_cases e : x = z
    · subst e
      rw [List.count_cons_self, sum_cons_ne L fun hm => by have := h1 x hm; omega]; omega
    · rw [List.count_cons_of_ne e, sum_cons_mem L h2 ((List.mem_cons.1 h).resolve_left e)]; omega
theorem sum_all {zs : List Int} (hp : zs.Pairwise (· < ·)) : ∀ {L : List Int}, (∀ z, z ∈ L → z ∈ zs) → (zs.map fun z => L.count z).sum = L.length
  | [], _ => sum_zero zs
  | x :: L, h => by rw [sum_cons_mem L hp (h x List.mem_cons_self), sum_all hp fun z hz => h z (List.mem_cons_of_mem _ hz)]; rfl
theorem seenO_all {zs L : List Int} (hp : zs.Pairwise (· < ·)) (h : ∀ z, z ∈ zs ↔ z ∈ L) : seenO zs L zs.length = L.length := by
  unfold seenO
  rw [List.take_length]
  exact sum_all hp fun z hz => (h z).2 hz

theorem c_pinsAll (on : List Bool) (tx : List Int) (w : World) (hon : on.length = 8) (htx : tx.length = 8) : CT Try.prog 3 #[(.agg (pinC on tx).toArray)] w fun v w' => v = .bool true ∧ Ext w w' := by
  obtain ⟨n0, hn0⟩ : ∃ n, n = w.heap.size := ⟨_, rfl⟩
  have hU : Upd (fun i => n0 ≤ i) w w := Upd.refl _ _
  refine CT_of Try.func3 rfl rfl rfl ?_
  refine W_seq ?_
  refine W_reg ?_
  refine L_op rfl (X_box (v := (.agg (pinC on tx).toArray)) (c := ((pinC on tx)).toArray) rfl rfl ?_)
  intro b1 w1 hn1
  have hbn1 := hn1.num; have hbs1 := hn1.size
  replace hU := hU.trans (Ext.upd hn1.ext)
  have hB1 := hn1.blk
  refine L_op rfl (X_assign (v := (.bool (false))) rfl ?_)
  refine L_nil ?_
  refine T_n ?_
  refine W_seq ?_
  refine W_reg ?_
  refine L_op rfl (X_loadA (p := (ptr b1 (0))) (xs := (pinC on tx)) A26 rfl hB1.atAll (pinC_len hon htx) ?_)
  obtain ⟨sA, hsA⟩ : ∃ n, n = w1.heap.size := ⟨_, rfl⟩
  refine L_op rfl (X_fn (vs := [(.agg (pinC on tx).toArray)]) en5 rfl (CT.mono (c_allP on tx _ hon htx) ?_))
  rintro u w2 ⟨zs, hpw, hme, hzl, hO, hu2⟩
  have hz2 := hu2.size
  rw [← hsA] at hO
  replace hU := hU.trans (Ext.upd hu2)
  replace hB1 := hB1.ext hu2
  have husv := hO.sv
  refine L_op rfl (X_assign (v := u) rfl ?_)
  refine L_nil ?_
  refine T_n ?_
  refine W_seq ?_
  refine W_seq ?_
  refine W_reg ?_
  refine L_op rfl (X_assign (v := (.int .i64 (1))) rfl ?_)
  refine L_nil ?_
  refine T_n ?_
  refine W_block ?_
  refine W_loop (α := Nat) [2, 4, 12, 13, 14, 15, 16, 17, 18, 19, 20, 21, 22, 23, 24, 25, 26, 27] (fun i => [(4, (.int .i64 (((i : Nat) : Int))))]) (fun i w_ => 1 ≤ i ∧ Own w_ sA 23 1 u zs.length (zs.map u32V) ∧ Blk w_ b1 (pinC on tx).toArray 26 ∧ Upd (fun i => n0 ≤ i) w w_) (fun i => zs.length - i) ⟨rfl, 1, ⟨Nat.le_refl _, hO, hB1, hU⟩, Out.refl _ _, ⟨rfl, trivial⟩⟩ ?_
  rintro i w3 _ ⟨hi1, hO, hB1, hU⟩
  have hsz_ := hU.size
  have hb1l := hB1.lt
  refine W_seq ?_
  refine W_seq ?_
  refine W_reg ?_
  refine L_op rfl (X_move (v := (.int .i64 (((i : Nat) : Int)))) rfl ?_)
  refine L_op rfl (X_move (v := u) rfl ?_)
  refine L_op rfl (X_len (v := u) (n := zs.length) Try.underlying27 rfl husv ?_)
  by_cases hc4 : (((i : Nat) : Int) : Int) < (((zs.length : Nat) : Int))
  · refine L_op rfl (X_cmp (k := .i64) (a := ((i : Nat) : Int)) (b := ((zs.length : Nat) : Int)) (r := true) rfl rfl rfl (decide_eq_true (p := ((((i : Nat) : Int)) : Int) < ((((zs.length : Nat) : Int)) : Int)) (by omega)) ?_)
    have hi : i < zs.length := by omega
    obtain ⟨a, hai⟩ : ∃ a, zs[i - 1]? = some a := ⟨_, List.getElem?_eq_getElem (by omega)⟩
    obtain ⟨b, hbi⟩ : ∃ b, zs[i]? = some b := ⟨_, List.getElem?_eq_getElem hi⟩
    have hab : a < b := by have h1 := (List.pairwise_iff_getElem.1 hpw) (i - 1) i (by omega) hi (by omega); rwa [(List.getElem?_eq_some_iff.1 hai).2, (List.getElem?_eq_some_iff.1 hbi).2] at h1
    refine L_nil ?_
    refine T_n ?_
    refine W_ct rfl ?_
    refine W_skip ?_
    refine T_n ?_
    refine W_seq ?_
    refine W_block ?_
    refine W_seq ?_
    refine W_draw 9 [[], [], [1], [0, 1, 2], [0, 1, 2, 3], [], [], [5, 6], [5, 6, 7], [0, 1, 2, 3, 4, 5, 6, 7, 8]] mixed (by kernel_rfl) ?_
    refine ⟨.det (fun val => u), ⟨fun _ _ hv => rfl, fun _ _ _ _ _ => trivial⟩, fun val h_ W hx he => ⟨trivial, ?_⟩, ?_⟩
    · replace hx := (Upd.drew _ _).trans hx
      replace hO := hO.ext hx
      replace hB1 := hB1.ext hx
      have hE := Upd.refl (fun _ => False) W
      refine id (X_move (v := u) rfl ?_)
      exact ⟨hE, rfl⟩
    refine ⟨.det (fun val => (.int .i64 (((i : Nat) : Int)))), ⟨fun _ _ hv => rfl, fun _ _ _ _ _ => trivial⟩, fun val h_ W hx he => ⟨trivial, ?_⟩, ?_⟩
    · replace hx := (Upd.drew _ _).trans hx
      replace hO := hO.ext hx
      replace hB1 := hB1.ext hx
      have hE := Upd.refl (fun _ => False) W
      refine id (X_move (v := (.int .i64 (((i : Nat) : Int)))) rfl ?_)
      exact ⟨hE, rfl⟩
    refine ⟨.det (fun val => (.int .i64 (((i - 1 : Nat) : Int)))), ⟨fun _ _ hv => rfl, fun _ _ _ _ _ => trivial⟩, fun val h_ W hx he => ⟨trivial, ?_⟩, ?_⟩
    · replace hx := (Upd.drew _ _).trans hx
      replace hO := hO.ext hx
      replace hB1 := hB1.ext hx
      have hE := Upd.refl (fun _ => False) W
      refine id (X_arith (k := .i64) (a := ((i : Nat) : Int)) (b := 1) (r := ((i - 1 : Nat) : Int)) rfl rfl rfl (isub64 (by omega) (by omega) (by omega)) ?_)
      exact ⟨hE, rfl⟩
    refine ⟨.det (fun val => (pof u ((((i - 1 : Nat) : Int) : Int).toNat * 1))), ⟨fun _ _ hv => rfl, fun _ _ _ _ _ => trivial⟩, fun val h_ W hx he => ⟨trivial, ?_⟩, ?_⟩
    · replace hx := (Upd.drew _ _).trans hx
      replace hO := hO.ext hx
      replace hB1 := hB1.ext hx
      have hE := Upd.refl (fun _ => False) W
      refine id (X_idx (v := u) (n := zs.length) (k := .i64) (i := ((i - 1 : Nat) : Int)) S27 rfl husv rfl (by omega) (by omega) ?_)
      exact ⟨hE, rfl⟩
    refine ⟨.det (fun val => (u32V a)), ⟨fun _ _ hv => rfl, fun _ _ _ _ _ => trivial⟩, fun val h_ W hx he => ⟨trivial, ?_⟩, ?_⟩
    · replace hx := (Upd.drew _ _).trans hx
      replace hO := hO.ext hx
      replace hB1 := hB1.ext hx
      have hE := Upd.refl (fun _ => False) W
      refine id (X_load (v := u32V a) T23 rfl (hO.rd.cell (by rw [show (((i - 1 : Nat) : Int) : Int).toNat * 1 = (i - 1) by omega, List.getElem?_map, hai]; rfl)) ?_)
      exact ⟨hE, rfl⟩
    refine ⟨.det (fun val => u), ⟨fun _ _ hv => rfl, fun _ _ _ _ _ => trivial⟩, fun val h_ W hx he => ⟨trivial, ?_⟩, ?_⟩
    · replace hx := (Upd.drew _ _).trans hx
      replace hO := hO.ext hx
      replace hB1 := hB1.ext hx
      have hE := Upd.refl (fun _ => False) W
      refine id (X_move (v := u) rfl ?_)
      exact ⟨hE, rfl⟩
    refine ⟨.det (fun val => (.int .i64 (((i : Nat) : Int)))), ⟨fun _ _ hv => rfl, fun _ _ _ _ _ => trivial⟩, fun val h_ W hx he => ⟨trivial, ?_⟩, ?_⟩
    · replace hx := (Upd.drew _ _).trans hx
      replace hO := hO.ext hx
      replace hB1 := hB1.ext hx
      have hE := Upd.refl (fun _ => False) W
      refine id (X_move (v := (.int .i64 (((i : Nat) : Int)))) rfl ?_)
      exact ⟨hE, rfl⟩
    refine ⟨.det (fun val => (pof u ((((i : Nat) : Int) : Int).toNat * 1))), ⟨fun _ _ hv => rfl, fun _ _ _ _ _ => trivial⟩, fun val h_ W hx he => ⟨trivial, ?_⟩, ?_⟩
    · replace hx := (Upd.drew _ _).trans hx
      replace hO := hO.ext hx
      replace hB1 := hB1.ext hx
      have hE := Upd.refl (fun _ => False) W
      refine id (X_idx (v := u) (n := zs.length) (k := .i64) (i := ((i : Nat) : Int)) S27 rfl husv rfl (by omega) (by omega) ?_)
      exact ⟨hE, rfl⟩
    refine ⟨.det (fun val => (u32V b)), ⟨fun _ _ hv => rfl, fun _ _ _ _ _ => trivial⟩, fun val h_ W hx he => ⟨trivial, ?_⟩, ?_⟩
    · replace hx := (Upd.drew _ _).trans hx
      replace hO := hO.ext hx
      replace hB1 := hB1.ext hx
      have hE := Upd.refl (fun _ => False) W
      refine id (X_load (v := u32V b) T23 rfl (hO.rd.cell (by rw [show (((i : Nat) : Int) : Int).toNat * 1 = i by omega, List.getElem?_map, hbi]; rfl)) ?_)
      exact ⟨hE, rfl⟩
    intro val W5 hx5 he5
    replace hx5 := (Upd.drew _ _).trans hx5
    have hz5 := hx5.size
    replace hO := hO.ext hx5
    replace hB1 := hB1.ext hx5
    replace hU := hU.trans (Ext.upd hx5)
    refine L_op rfl (X_cmp (k := .u32) (a := a) (b := b) (r := false) rfl rfl rfl (decide_eq_false (p := ((b) : Int) ≤ ((a) : Int)) (by omega)) ?_)
    refine L_nil ?_
    refine T_n ?_
    refine W_cf rfl ?_
    refine W_skip ?_
    refine B_n ?_
    refine T_n ?_
    refine W_reg ?_
    refine L_op rfl (X_move (v := (.int .i64 (((i : Nat) : Int)))) rfl ?_)
    refine L_op rfl (X_arith (k := .i64) (a := ((i : Nat) : Int)) (b := 1) (r := ((i + 1 : Nat) : Int)) rfl rfl rfl (iadd64 (by omega) (by omega) (by omega)) ?_)
    refine L_op rfl (X_assign (v := (.int .i64 (((i + 1 : Nat) : Int)))) rfl ?_)
    refine L_nil ?_
    refine T_n ?_
    exact ⟨rfl, i + 1, ⟨⟨by omega, hO, hB1, hU⟩, (by show zs.length - (i + 1) < zs.length - i; omega)⟩, (Out.mk rfl), ⟨rfl, trivial⟩⟩
  · refine L_op rfl (X_cmp (k := .i64) (a := ((i : Nat) : Int)) (b := ((zs.length : Nat) : Int)) (r := false) rfl rfl rfl (decide_eq_false (p := ((((i : Nat) : Int)) : Int) < ((((zs.length : Nat) : Int)) : Int)) (by omega)) ?_)
    refine L_nil ?_
    refine T_n ?_
    refine W_cf rfl ?_
    refine W_exit ?_
    refine T_e ?_
    refine T_e ?_
    refine B_x ?_
    refine T_n ?_
    refine W_seq ?_
    refine W_reg ?_
    refine L_op rfl (X_assign (v := (.int .i64 (0))) rfl ?_)
    refine L_nil ?_
    refine T_n ?_
    refine W_seq ?_
    refine W_seq ?_
    refine W_reg ?_
    refine L_op rfl (X_assign (v := (.int .i64 (0))) rfl ?_)
    refine L_nil ?_
    refine T_n ?_
    refine W_block ?_
    refine W_loop (α := Nat × Nat) [5, 6, 7, 28, 29, 30, 31, 32, 33, 34, 35, 36, 37, 38, 39, 40, 41, 42, 43, 44, 45, 46, 47, 48, 49, 50, 51, 52, 53, 54, 55, 56] (fun ⟨i, s⟩ => [(6, (.int .i64 (((i : Nat) : Int)))), (5, (.int .i64 (((s : Nat) : Int))))]) (fun ⟨i, s⟩ w_ => i ≤ zs.length ∧ s = seenO zs (openL on tx) i ∧ Own w_ sA 23 1 u zs.length (zs.map u32V) ∧ Blk w_ b1 (pinC on tx).toArray 26 ∧ Upd (fun i => n0 ≤ i) w w_) (fun ⟨i, s⟩ => zs.length - i) ⟨rfl, (0, 0), ⟨Nat.zero_le _, rfl, hO, hB1, hU⟩, Out.refl _ _, ⟨rfl, rfl, trivial⟩⟩ ?_
    rintro ⟨i, s⟩ w6 _ ⟨hil, hs, hO, hB1, hU⟩
    have hsz_ := hU.size
    have hb1l := hB1.lt
    refine W_seq ?_
    refine W_seq ?_
    refine W_reg ?_
    refine L_op rfl (X_move (v := (.int .i64 (((i : Nat) : Int)))) rfl ?_)
    refine L_op rfl (X_move (v := u) rfl ?_)
    refine L_op rfl (X_len (v := u) (n := zs.length) Try.underlying27 rfl husv ?_)
    by_cases hc7 : (((i : Nat) : Int) : Int) < (((zs.length : Nat) : Int))
    · refine L_op rfl (X_cmp (k := .i64) (a := ((i : Nat) : Int)) (b := ((zs.length : Nat) : Int)) (r := true) rfl rfl rfl (decide_eq_true (p := ((((i : Nat) : Int)) : Int) < ((((zs.length : Nat) : Int)) : Int)) (by omega)) ?_)
      have hi : i < zs.length := by omega
      obtain ⟨z, hzi⟩ : ∃ b, zs[i]? = some b := ⟨_, List.getElem?_eq_getElem hi⟩
      refine L_nil ?_
      refine T_n ?_
      refine W_ct rfl ?_
      refine W_skip ?_
      refine T_n ?_
      refine W_seq ?_
      refine W_block ?_
      refine W_seq ?_
      refine W_reg ?_
      refine L_op rfl (X_assign (v := (.int .i64 (1))) rfl ?_)
      refine L_nil ?_
      refine T_n ?_
      refine W_block ?_
      refine W_loop (α := Nat × Nat) [5, 7, 34, 35, 36, 37, 38, 39, 40, 41, 42, 43, 44, 45, 46, 47, 48, 49, 50, 51, 52, 53, 54, 55, 56] (fun ⟨k, s2⟩ => [(7, (.int .i64 (((k : Nat) : Int) + 1))), (5, (.int .i64 (((s2 : Nat) : Int))))]) (fun ⟨k, s2⟩ w_ => k ≤ 8 ∧ s2 = s + pcO on tx z k ∧ Own w_ sA 23 1 u zs.length (zs.map u32V) ∧ Blk w_ b1 (pinC on tx).toArray 26 ∧ Upd (fun i => n0 ≤ i) w w_) (fun ⟨k, s2⟩ => 8 - k) ⟨rfl, (0, s), ⟨Nat.zero_le _, by rw [pcO_0]; rfl, hO, hB1, hU⟩, Out.refl _ _, ⟨rfl, rfl, trivial⟩⟩ ?_
      rintro ⟨k, s2⟩ w8 _ ⟨hkl, hs2, hO, hB1, hU⟩
      have hsz_ := hU.size
      have hb1l := hB1.lt
      refine W_seq ?_
      refine W_seq ?_
      refine W_reg ?_
      refine L_op rfl (X_move (v := (.int .i64 (((k : Nat) : Int) + 1))) rfl ?_)
      by_cases hc9 : (((k : Nat) : Int) + 1 : Int) ≤ (8)
      · refine L_op rfl (X_cmp (k := .i64) (a := ((k : Nat) : Int) + 1) (b := 8) (r := true) rfl rfl rfl (decide_eq_true (p := ((((k : Nat) : Int) + 1) : Int) ≤ ((8) : Int)) (by omega)) ?_)
        refine L_nil ?_
        refine T_n ?_
        refine W_ct rfl ?_
        refine W_skip ?_
        refine T_n ?_
        refine W_seq ?_
        refine W_block ?_
        refine W_seq ?_
        have hk : k < 8 := by omega
        have hsb : s2 ≤ 100 := by have h_ := seenO_le (zs := zs) (L := openL on tx) (by have := openL_le on tx; omega) i (by omega); have h2_ := pcO_le on tx z k; omega
        obtain ⟨o1, ho1⟩ : ∃ o, on[k]? = some o := ⟨_, List.getElem?_eq_getElem (by omega)⟩
        obtain ⟨x, hxk⟩ : ∃ x, tx[k]? = some x := ⟨_, List.getElem?_eq_getElem (by omega)⟩
        rcases Bool.eq_false_or_eq_true (o1) with hs10 | hs10
        · rcases Bool.eq_false_or_eq_true (decide (x = z)) with hs11 | hs11
          · rw [hs10] at ho1
            have hxz := of_decide_eq_true hs11
            refine W_draw 15 [[], [0], [], [0, 1, 2], [0, 1, 2, 3], [0, 1, 2, 3, 4], [0, 1, 2, 3, 4, 5], [0, 1, 2, 3, 4, 5, 6], [0, 1, 2, 3, 4, 5], [0, 1, 2, 3, 4, 5, 6, 7, 8], [0, 1, 2, 3, 4, 5, 6, 7, 8, 9], [0, 1, 2, 3, 4, 5], [0, 1, 2, 3, 4, 5], [0, 1, 2, 3, 4, 5, 11, 12], [0, 1, 2, 3, 4, 5, 11, 12, 13], [0, 1, 2, 3, 4, 5, 6, 7, 8, 9, 10, 11, 12, 13, 14], [0, 1, 2, 3, 4, 5, 6, 7, 8, 9, 10, 11, 12, 13, 14, 15]] mixed (by kernel_rfl) ?_
            refine ⟨.det (fun val => (.int .i64 (((k : Nat) : Int) + 1))), ⟨fun _ _ hv => rfl, fun _ _ _ _ _ => trivial⟩, fun val h_ W hx he => ⟨trivial, ?_⟩, ?_⟩
            · replace hx := (Upd.drew _ _).trans hx
              replace hO := hO.ext hx
              replace hB1 := hB1.ext hx
              have hE := Upd.refl (fun _ => False) W
              refine id (X_move (v := (.int .i64 (((k : Nat) : Int) + 1))) rfl ?_)
              exact ⟨hE, rfl⟩
            refine ⟨.det (fun val => (.int .i64 (((k : Nat) : Int)))), ⟨fun _ _ hv => rfl, fun _ _ _ _ _ => trivial⟩, fun val h_ W hx he => ⟨trivial, ?_⟩, ?_⟩
            · replace hx := (Upd.drew _ _).trans hx
              replace hO := hO.ext hx
              replace hB1 := hB1.ext hx
              have hE := Upd.refl (fun _ => False) W
              refine id (X_arith (k := .i64) (a := ((k : Nat) : Int) + 1) (b := 1) (r := ((k : Nat) : Int)) rfl rfl rfl (isub64 (by omega) (by omega) (by omega)) ?_)
              exact ⟨hE, rfl⟩
            refine ⟨.det (fun val => (ptr b1 (0))), ⟨fun _ _ hv => rfl, fun _ _ _ _ _ => trivial⟩, fun val h_ W hx he => ⟨trivial, ?_⟩, ?_⟩
            · replace hx := (Upd.drew _ _).trans hx
              replace hO := hO.ext hx
              replace hB1 := hB1.ext hx
              have hE := Upd.refl (fun _ => False) W
              refine id (X_fldP (b := b1) (o := 0) (r := 0) Fd26_0 rfl rfl ?_)
              exact ⟨hE, rfl⟩
            refine ⟨.det (fun val => (ptr b1 ((((k : Nat) : Int) : Int).toNat))), ⟨fun _ _ hv => rfl, fun _ _ _ _ _ => trivial⟩, fun val h_ W hx he => ⟨trivial, ?_⟩, ?_⟩
            · replace hx := (Upd.drew _ _).trans hx
              replace hO := hO.ext hx
              replace hB1 := hB1.ext hx
              have hE := Upd.refl (fun _ => False) W
              refine id (X_idxAP (len := 8) (sz := 1) (b := b1) (o := 0) (k := .i64) (i := ((k : Nat) : Int)) (r := (((k : Nat) : Int) : Int).toNat) Try.underlying22 Z4 rfl rfl (by omega) (by omega) (by omega) ?_)
              exact ⟨hE, rfl⟩
            refine ⟨.det (fun val => (.bool (true))), ⟨fun _ _ hv => rfl, fun _ _ _ _ _ => trivial⟩, fun val h_ W hx he => ⟨trivial, ?_⟩, ?_⟩
            · replace hx := (Upd.drew _ _).trans hx
              replace hO := hO.ext hx
              replace hB1 := hB1.ext hx
              have hE := Upd.refl (fun _ => False) W
              refine id (X_load (p := (ptr b1 ((((k : Nat) : Int) : Int).toNat))) (v := .bool true) T4 rfl (hB1.at1 (by rw [List.getElem?_toArray]; unfold pinC; rw [List.getElem?_append_left (by rw [List.length_map]; omega), List.getElem?_map, show ((((k : Nat) : Int) : Int).toNat) = k by omega, ho1]; rfl)) ?_)
              exact ⟨hE, rfl⟩
            refine ⟨.det (fun val => (.bool (true))), ⟨fun _ _ hv => rfl, fun _ _ _ _ _ => trivial⟩, fun val h_ W hx he => ⟨trivial, ?_⟩, ?_⟩
            · replace hx := (Upd.drew _ _).trans hx
              replace hO := hO.ext hx
              replace hB1 := hB1.ext hx
              have hE := Upd.refl (fun _ => False) W
              refine id (X_move (v := (.bool (true))) rfl ?_)
              exact ⟨hE, rfl⟩
            refine ⟨.det (fun val => (.int .i64 (((k : Nat) : Int) + 1))), ⟨fun _ _ hv => rfl, fun _ _ _ _ _ => trivial⟩, fun val h_ W hx he => ⟨⟨43, rfl, rfl⟩, ?_⟩, ?_⟩
            · replace hx := (Upd.drew _ _).trans hx
              replace hO := hO.ext hx
              replace hB1 := hB1.ext hx
              have hE := Upd.refl (fun _ => False) W
              refine id (X_move (v := (.int .i64 (((k : Nat) : Int) + 1))) rfl ?_)
              exact ⟨hE, rfl⟩
            refine ⟨.det (fun val => (.int .i64 (((k : Nat) : Int)))), ⟨fun _ _ hv => rfl, fun _ _ _ _ _ => trivial⟩, fun val h_ W hx he => ⟨⟨43, rfl, rfl⟩, ?_⟩, ?_⟩
            · replace hx := (Upd.drew _ _).trans hx
              replace hO := hO.ext hx
              replace hB1 := hB1.ext hx
              have hE := Upd.refl (fun _ => False) W
              refine id (X_arith (k := .i64) (a := ((k : Nat) : Int) + 1) (b := 1) (r := ((k : Nat) : Int)) rfl rfl rfl (isub64 (by omega) (by omega) (by omega)) ?_)
              exact ⟨hE, rfl⟩
            refine ⟨.det (fun val => (ptr b1 (8))), ⟨fun _ _ hv => rfl, fun _ _ _ _ _ => trivial⟩, fun val h_ W hx he => ⟨⟨43, rfl, rfl⟩, ?_⟩, ?_⟩
            · replace hx := (Upd.drew _ _).trans hx
              replace hO := hO.ext hx
              replace hB1 := hB1.ext hx
              have hE := Upd.refl (fun _ => False) W
              refine id (X_fldP (b := b1) (o := 0) (r := 8) Fd26_1 rfl rfl ?_)
              exact ⟨hE, rfl⟩
            refine ⟨.det (fun val => (ptr b1 (8 + (((k : Nat) : Int) : Int).toNat * 1))), ⟨fun _ _ hv => rfl, fun _ _ _ _ _ => trivial⟩, fun val h_ W hx he => ⟨⟨43, rfl, rfl⟩, ?_⟩, ?_⟩
            · replace hx := (Upd.drew _ _).trans hx
              replace hO := hO.ext hx
              replace hB1 := hB1.ext hx
              have hE := Upd.refl (fun _ => False) W
              refine id (X_idxAP (len := 8) (sz := 1) (b := b1) (o := 8) (k := .i64) (i := ((k : Nat) : Int)) (r := 8 + (((k : Nat) : Int) : Int).toNat * 1) Try.underlying24 Z23 rfl rfl (by omega) (by omega) (by omega) ?_)
              exact ⟨hE, rfl⟩
            refine ⟨.det (fun val => (u32V x)), ⟨fun _ _ hv => rfl, fun _ _ _ _ _ => trivial⟩, fun val h_ W hx he => ⟨⟨43, rfl, rfl⟩, ?_⟩, ?_⟩
            · replace hx := (Upd.drew _ _).trans hx
              replace hO := hO.ext hx
              replace hB1 := hB1.ext hx
              have hE := Upd.refl (fun _ => False) W
              refine id (X_load (p := (ptr b1 (8 + (((k : Nat) : Int) : Int).toNat * 1))) (v := u32V x) T23 rfl (hB1.at1 (by rw [List.getElem?_toArray]; unfold pinC; rw [List.getElem?_append_right (by rw [List.length_map]; omega), List.length_map, show (8 + (((k : Nat) : Int) : Int).toNat * 1) - on.length = k by omega, List.getElem?_map, hxk]; rfl)) ?_)
              exact ⟨hE, rfl⟩
            refine ⟨.det (fun val => u), ⟨fun _ _ hv => rfl, fun _ _ _ _ _ => trivial⟩, fun val h_ W hx he => ⟨⟨43, rfl, rfl⟩, ?_⟩, ?_⟩
            · replace hx := (Upd.drew _ _).trans hx
              replace hO := hO.ext hx
              replace hB1 := hB1.ext hx
              have hE := Upd.refl (fun _ => False) W
              refine id (X_move (v := u) rfl ?_)
              exact ⟨hE, rfl⟩
            refine ⟨.det (fun val => (.int .i64 (((i : Nat) : Int)))), ⟨fun _ _ hv => rfl, fun _ _ _ _ _ => trivial⟩, fun val h_ W hx he => ⟨⟨43, rfl, rfl⟩, ?_⟩, ?_⟩
            · replace hx := (Upd.drew _ _).trans hx
              replace hO := hO.ext hx
              replace hB1 := hB1.ext hx
              have hE := Upd.refl (fun _ => False) W
              refine id (X_move (v := (.int .i64 (((i : Nat) : Int)))) rfl ?_)
              exact ⟨hE, rfl⟩
            refine ⟨.det (fun val => (pof u ((((i : Nat) : Int) : Int).toNat * 1))), ⟨fun _ _ hv => rfl, fun _ _ _ _ _ => trivial⟩, fun val h_ W hx he => ⟨⟨43, rfl, rfl⟩, ?_⟩, ?_⟩
            · replace hx := (Upd.drew _ _).trans hx
              replace hO := hO.ext hx
              replace hB1 := hB1.ext hx
              have hE := Upd.refl (fun _ => False) W
              refine id (X_idx (v := u) (n := zs.length) (k := .i64) (i := ((i : Nat) : Int)) S27 rfl husv rfl (by omega) (by omega) ?_)
              exact ⟨hE, rfl⟩
            refine ⟨.det (fun val => (u32V z)), ⟨fun _ _ hv => rfl, fun _ _ _ _ _ => trivial⟩, fun val h_ W hx he => ⟨⟨43, rfl, rfl⟩, ?_⟩, ?_⟩
            · replace hx := (Upd.drew _ _).trans hx
              replace hO := hO.ext hx
              replace hB1 := hB1.ext hx
              have hE := Upd.refl (fun _ => False) W
              refine id (X_load (v := u32V z) T23 rfl (hO.rd.cell (by rw [show (((i : Nat) : Int) : Int).toNat * 1 = i by omega, List.getElem?_map, hzi]; rfl)) ?_)
              exact ⟨hE, rfl⟩
            intro val W12 hx12 he12
            replace hx12 := (Upd.drew _ _).trans hx12
            have hz12 := hx12.size
            replace hO := hO.ext hx12
            replace hB1 := hB1.ext hx12
            replace hU := hU.trans (Ext.upd hx12)
            refine L_gy (dj := 43) rfl rfl rfl (X_cmp (k := .u32) (a := x) (b := z) (r := true) rfl rfl rfl hs11 ?_)
            refine L_op rfl (X_pick (t := true) (v := (.bool (true))) rfl rfl ?_)
            refine L_nil ?_
            refine T_n ?_
            refine W_ct rfl ?_
            refine W_reg ?_
            refine L_op rfl (X_move (v := (.int .i64 (((s2 : Nat) : Int)))) rfl ?_)
            refine L_op rfl (X_arith (k := .i64) (a := ((s2 : Nat) : Int)) (b := 1) (r := ((s2 + 1 : Nat) : Int)) rfl rfl rfl (iadd64 (by omega) (by omega) (by have h_ := hsb; omega)) ?_)
            refine L_op rfl (X_assign (v := (.int .i64 (((s2 + 1 : Nat) : Int)))) rfl ?_)
            refine L_nil ?_
            refine B_n ?_
            refine T_n ?_
            refine W_reg ?_
            refine L_op rfl (X_move (v := (.int .i64 (((k : Nat) : Int) + 1))) rfl ?_)
            refine L_op rfl (X_arith (k := .i64) (a := ((k : Nat) : Int) + 1) (b := 1) (r := ((k + 1 : Nat) : Int) + 1) rfl rfl rfl (iadd64 (by omega) (by omega) (by omega)) ?_)
            refine L_op rfl (X_assign (v := (.int .i64 (((k + 1 : Nat) : Int) + 1))) rfl ?_)
            refine L_nil ?_
            refine T_n ?_
            exact ⟨rfl, (k + 1, s2 + 1), ⟨⟨by omega, by rw [pcO_hit ho1 (hxz ▸ hxk), hs2]; omega, hO, hB1, hU⟩, (by show 8 - (k + 1) < 8 - k; omega)⟩, (Out.mk rfl), ⟨rfl, rfl, trivial⟩⟩
          · rw [hs10] at ho1
            have hxz := of_decide_eq_false hs11
            refine W_draw 15 [[], [0], [], [0, 1, 2], [0, 1, 2, 3], [0, 1, 2, 3, 4], [0, 1, 2, 3, 4, 5], [0, 1, 2, 3, 4, 5, 6], [0, 1, 2, 3, 4, 5], [0, 1, 2, 3, 4, 5, 6, 7, 8], [0, 1, 2, 3, 4, 5, 6, 7, 8, 9], [0, 1, 2, 3, 4, 5], [0, 1, 2, 3, 4, 5], [0, 1, 2, 3, 4, 5, 11, 12], [0, 1, 2, 3, 4, 5, 11, 12, 13], [0, 1, 2, 3, 4, 5, 6, 7, 8, 9, 10, 11, 12, 13, 14], [0, 1, 2, 3, 4, 5, 6, 7, 8, 9, 10, 11, 12, 13, 14, 15]] mixed (by kernel_rfl) ?_
            refine ⟨.det (fun val => (.int .i64 (((k : Nat) : Int) + 1))), ⟨fun _ _ hv => rfl, fun _ _ _ _ _ => trivial⟩, fun val h_ W hx he => ⟨trivial, ?_⟩, ?_⟩
            · replace hx := (Upd.drew _ _).trans hx
              replace hO := hO.ext hx
              replace hB1 := hB1.ext hx
              have hE := Upd.refl (fun _ => False) W
              refine id (X_move (v := (.int .i64 (((k : Nat) : Int) + 1))) rfl ?_)
              exact ⟨hE, rfl⟩
            refine ⟨.det (fun val => (.int .i64 (((k : Nat) : Int)))), ⟨fun _ _ hv => rfl, fun _ _ _ _ _ => trivial⟩, fun val h_ W hx he => ⟨trivial, ?_⟩, ?_⟩
            · replace hx := (Upd.drew _ _).trans hx
              replace hO := hO.ext hx
              replace hB1 := hB1.ext hx
              have hE := Upd.refl (fun _ => False) W
              refine id (X_arith (k := .i64) (a := ((k : Nat) : Int) + 1) (b := 1) (r := ((k : Nat) : Int)) rfl rfl rfl (isub64 (by omega) (by omega) (by omega)) ?_)
              exact ⟨hE, rfl⟩
            refine ⟨.det (fun val => (ptr b1 (0))), ⟨fun _ _ hv => rfl, fun _ _ _ _ _ => trivial⟩, fun val h_ W hx he => ⟨trivial, ?_⟩, ?_⟩
            · replace hx := (Upd.drew _ _).trans hx
              replace hO := hO.ext hx
              replace hB1 := hB1.ext hx
              have hE := Upd.refl (fun _ => False) W
              refine id (X_fldP (b := b1) (o := 0) (r := 0) Fd26_0 rfl rfl ?_)
              exact ⟨hE, rfl⟩
            refine ⟨.det (fun val => (ptr b1 ((((k : Nat) : Int) : Int).toNat))), ⟨fun _ _ hv => rfl, fun _ _ _ _ _ => trivial⟩, fun val h_ W hx he => ⟨trivial, ?_⟩, ?_⟩
            · replace hx := (Upd.drew _ _).trans hx
              replace hO := hO.ext hx
              replace hB1 := hB1.ext hx
              have hE := Upd.refl (fun _ => False) W
              refine id (X_idxAP (len := 8) (sz := 1) (b := b1) (o := 0) (k := .i64) (i := ((k : Nat) : Int)) (r := (((k : Nat) : Int) : Int).toNat) Try.underlying22 Z4 rfl rfl (by omega) (by omega) (by omega) ?_)
              exact ⟨hE, rfl⟩
            refine ⟨.det (fun val => (.bool (true))), ⟨fun _ _ hv => rfl, fun _ _ _ _ _ => trivial⟩, fun val h_ W hx he => ⟨trivial, ?_⟩, ?_⟩
            · replace hx := (Upd.drew _ _).trans hx
              replace hO := hO.ext hx
              replace hB1 := hB1.ext hx
              have hE := Upd.refl (fun _ => False) W
              refine id (X_load (p := (ptr b1 ((((k : Nat) : Int) : Int).toNat))) (v := .bool true) T4 rfl (hB1.at1 (by rw [List.getElem?_toArray]; unfold pinC; rw [List.getElem?_append_left (by rw [List.length_map]; omega), List.getElem?_map, show ((((k : Nat) : Int) : Int).toNat) = k by omega, ho1]; rfl)) ?_)
              exact ⟨hE, rfl⟩
            refine ⟨.det (fun val => (.bool (true))), ⟨fun _ _ hv => rfl, fun _ _ _ _ _ => trivial⟩, fun val h_ W hx he => ⟨trivial, ?_⟩, ?_⟩
            · replace hx := (Upd.drew _ _).trans hx
              replace hO := hO.ext hx
              replace hB1 := hB1.ext hx
              have hE := Upd.refl (fun _ => False) W
              refine id (X_move (v := (.bool (true))) rfl ?_)
              exact ⟨hE, rfl⟩
            refine ⟨.det (fun val => (.int .i64 (((k : Nat) : Int) + 1))), ⟨fun _ _ hv => rfl, fun _ _ _ _ _ => trivial⟩, fun val h_ W hx he => ⟨⟨43, rfl, rfl⟩, ?_⟩, ?_⟩
            · replace hx := (Upd.drew _ _).trans hx
              replace hO := hO.ext hx
              replace hB1 := hB1.ext hx
              have hE := Upd.refl (fun _ => False) W
              refine id (X_move (v := (.int .i64 (((k : Nat) : Int) + 1))) rfl ?_)
              exact ⟨hE, rfl⟩
            refine ⟨.det (fun val => (.int .i64 (((k : Nat) : Int)))), ⟨fun _ _ hv => rfl, fun _ _ _ _ _ => trivial⟩, fun val h_ W hx he => ⟨⟨43, rfl, rfl⟩, ?_⟩, ?_⟩
            · replace hx := (Upd.drew _ _).trans hx
              replace hO := hO.ext hx
              replace hB1 := hB1.ext hx
              have hE := Upd.refl (fun _ => False) W
              refine id (X_arith (k := .i64) (a := ((k : Nat) : Int) + 1) (b := 1) (r := ((k : Nat) : Int)) rfl rfl rfl (isub64 (by omega) (by omega) (by omega)) ?_)
              exact ⟨hE, rfl⟩
            refine ⟨.det (fun val => (ptr b1 (8))), ⟨fun _ _ hv => rfl, fun _ _ _ _ _ => trivial⟩, fun val h_ W hx he => ⟨⟨43, rfl, rfl⟩, ?_⟩, ?_⟩
            · replace hx := (Upd.drew _ _).trans hx
              replace hO := hO.ext hx
              replace hB1 := hB1.ext hx
              have hE := Upd.refl (fun _ => False) W
              refine id (X_fldP (b := b1) (o := 0) (r := 8) Fd26_1 rfl rfl ?_)
              exact ⟨hE, rfl⟩
            refine ⟨.det (fun val => (ptr b1 (8 + (((k : Nat) : Int) : Int).toNat * 1))), ⟨fun _ _ hv => rfl, fun _ _ _ _ _ => trivial⟩, fun val h_ W hx he => ⟨⟨43, rfl, rfl⟩, ?_⟩, ?_⟩
            · replace hx := (Upd.drew _ _).trans hx
              replace hO := hO.ext hx
              replace hB1 := hB1.ext hx
              have hE := Upd.refl (fun _ => False) W
              refine id (X_idxAP (len := 8) (sz := 1) (b := b1) (o := 8) (k := .i64) (i := ((k : Nat) : Int)) (r := 8 + (((k : Nat) : Int) : Int).toNat * 1) Try.underlying24 Z23 rfl rfl (by omega) (by omega) (by omega) ?_)
              exact ⟨hE, rfl⟩
            refine ⟨.det (fun val => (u32V x)), ⟨fun _ _ hv => rfl, fun _ _ _ _ _ => trivial⟩, fun val h_ W hx he => ⟨⟨43, rfl, rfl⟩, ?_⟩, ?_⟩
            · replace hx := (Upd.drew _ _).trans hx
              replace hO := hO.ext hx
              replace hB1 := hB1.ext hx
              have hE := Upd.refl (fun _ => False) W
              refine id (X_load (p := (ptr b1 (8 + (((k : Nat) : Int) : Int).toNat * 1))) (v := u32V x) T23 rfl (hB1.at1 (by rw [List.getElem?_toArray]; unfold pinC; rw [List.getElem?_append_right (by rw [List.length_map]; omega), List.length_map, show (8 + (((k : Nat) : Int) : Int).toNat * 1) - on.length = k by omega, List.getElem?_map, hxk]; rfl)) ?_)
              exact ⟨hE, rfl⟩
            refine ⟨.det (fun val => u), ⟨fun _ _ hv => rfl, fun _ _ _ _ _ => trivial⟩, fun val h_ W hx he => ⟨⟨43, rfl, rfl⟩, ?_⟩, ?_⟩
            · replace hx := (Upd.drew _ _).trans hx
              replace hO := hO.ext hx
              replace hB1 := hB1.ext hx
              have hE := Upd.refl (fun _ => False) W
              refine id (X_move (v := u) rfl ?_)
              exact ⟨hE, rfl⟩
            refine ⟨.det (fun val => (.int .i64 (((i : Nat) : Int)))), ⟨fun _ _ hv => rfl, fun _ _ _ _ _ => trivial⟩, fun val h_ W hx he => ⟨⟨43, rfl, rfl⟩, ?_⟩, ?_⟩
            · replace hx := (Upd.drew _ _).trans hx
              replace hO := hO.ext hx
              replace hB1 := hB1.ext hx
              have hE := Upd.refl (fun _ => False) W
              refine id (X_move (v := (.int .i64 (((i : Nat) : Int)))) rfl ?_)
              exact ⟨hE, rfl⟩
            refine ⟨.det (fun val => (pof u ((((i : Nat) : Int) : Int).toNat * 1))), ⟨fun _ _ hv => rfl, fun _ _ _ _ _ => trivial⟩, fun val h_ W hx he => ⟨⟨43, rfl, rfl⟩, ?_⟩, ?_⟩
            · replace hx := (Upd.drew _ _).trans hx
              replace hO := hO.ext hx
              replace hB1 := hB1.ext hx
              have hE := Upd.refl (fun _ => False) W
              refine id (X_idx (v := u) (n := zs.length) (k := .i64) (i := ((i : Nat) : Int)) S27 rfl husv rfl (by omega) (by omega) ?_)
              exact ⟨hE, rfl⟩
            refine ⟨.det (fun val => (u32V z)), ⟨fun _ _ hv => rfl, fun _ _ _ _ _ => trivial⟩, fun val h_ W hx he => ⟨⟨43, rfl, rfl⟩, ?_⟩, ?_⟩
            · replace hx := (Upd.drew _ _).trans hx
              replace hO := hO.ext hx
              replace hB1 := hB1.ext hx
              have hE := Upd.refl (fun _ => False) W
              refine id (X_load (v := u32V z) T23 rfl (hO.rd.cell (by rw [show (((i : Nat) : Int) : Int).toNat * 1 = i by omega, List.getElem?_map, hzi]; rfl)) ?_)
              exact ⟨hE, rfl⟩
            intro val W13 hx13 he13
            replace hx13 := (Upd.drew _ _).trans hx13
            have hz13 := hx13.size
            replace hO := hO.ext hx13
            replace hB1 := hB1.ext hx13
            replace hU := hU.trans (Ext.upd hx13)
            refine L_gy (dj := 43) rfl rfl rfl (X_cmp (k := .u32) (a := x) (b := z) (r := false) rfl rfl rfl hs11 ?_)
            refine L_op rfl (X_pick (t := true) (v := (.bool (false))) rfl rfl ?_)
            refine L_nil ?_
            refine T_n ?_
            refine W_cf rfl ?_
            refine W_skip ?_
            refine B_n ?_
            refine T_n ?_
            refine W_reg ?_
            refine L_op rfl (X_move (v := (.int .i64 (((k : Nat) : Int) + 1))) rfl ?_)
            refine L_op rfl (X_arith (k := .i64) (a := ((k : Nat) : Int) + 1) (b := 1) (r := ((k + 1 : Nat) : Int) + 1) rfl rfl rfl (iadd64 (by omega) (by omega) (by omega)) ?_)
            refine L_op rfl (X_assign (v := (.int .i64 (((k + 1 : Nat) : Int) + 1))) rfl ?_)
            refine L_nil ?_
            refine T_n ?_
            exact ⟨rfl, (k + 1, s2), ⟨⟨by omega, by rw [pcO_miss ho1 hxk hxz, hs2], hO, hB1, hU⟩, (by show 8 - (k + 1) < 8 - k; omega)⟩, (Out.mk rfl), ⟨rfl, rfl, trivial⟩⟩
        · rw [hs10] at ho1
          refine W_draw 15 [[], [0], [], [0, 1, 2], [0, 1, 2, 3], [0, 1, 2, 3, 4], [0, 1, 2, 3, 4, 5], [0, 1, 2, 3, 4, 5, 6], [0, 1, 2, 3, 4, 5], [0, 1, 2, 3, 4, 5, 6, 7, 8], [0, 1, 2, 3, 4, 5, 6, 7, 8, 9], [0, 1, 2, 3, 4, 5], [0, 1, 2, 3, 4, 5], [0, 1, 2, 3, 4, 5, 11, 12], [0, 1, 2, 3, 4, 5, 11, 12, 13], [0, 1, 2, 3, 4, 5, 6, 7, 8, 9, 10, 11, 12, 13, 14], [0, 1, 2, 3, 4, 5, 6, 7, 8, 9, 10, 11, 12, 13, 14, 15]] mixed (by kernel_rfl) ?_
          refine ⟨.det (fun val => (.int .i64 (((k : Nat) : Int) + 1))), ⟨fun _ _ hv => rfl, fun _ _ _ _ _ => trivial⟩, fun val h_ W hx he => ⟨trivial, ?_⟩, ?_⟩
          · replace hx := (Upd.drew _ _).trans hx
            replace hO := hO.ext hx
            replace hB1 := hB1.ext hx
            have hE := Upd.refl (fun _ => False) W
            refine id (X_move (v := (.int .i64 (((k : Nat) : Int) + 1))) rfl ?_)
            exact ⟨hE, rfl⟩
          refine ⟨.det (fun val => (.int .i64 (((k : Nat) : Int)))), ⟨fun _ _ hv => rfl, fun _ _ _ _ _ => trivial⟩, fun val h_ W hx he => ⟨trivial, ?_⟩, ?_⟩
          · replace hx := (Upd.drew _ _).trans hx
            replace hO := hO.ext hx
            replace hB1 := hB1.ext hx
            have hE := Upd.refl (fun _ => False) W
            refine id (X_arith (k := .i64) (a := ((k : Nat) : Int) + 1) (b := 1) (r := ((k : Nat) : Int)) rfl rfl rfl (isub64 (by omega) (by omega) (by omega)) ?_)
            exact ⟨hE, rfl⟩
          refine ⟨.det (fun val => (ptr b1 (0))), ⟨fun _ _ hv => rfl, fun _ _ _ _ _ => trivial⟩, fun val h_ W hx he => ⟨trivial, ?_⟩, ?_⟩
          · replace hx := (Upd.drew _ _).trans hx
            replace hO := hO.ext hx
            replace hB1 := hB1.ext hx
            have hE := Upd.refl (fun _ => False) W
            refine id (X_fldP (b := b1) (o := 0) (r := 0) Fd26_0 rfl rfl ?_)
            exact ⟨hE, rfl⟩
          refine ⟨.det (fun val => (ptr b1 ((((k : Nat) : Int) : Int).toNat))), ⟨fun _ _ hv => rfl, fun _ _ _ _ _ => trivial⟩, fun val h_ W hx he => ⟨trivial, ?_⟩, ?_⟩
          · replace hx := (Upd.drew _ _).trans hx
            replace hO := hO.ext hx
            replace hB1 := hB1.ext hx
            have hE := Upd.refl (fun _ => False) W
            refine id (X_idxAP (len := 8) (sz := 1) (b := b1) (o := 0) (k := .i64) (i := ((k : Nat) : Int)) (r := (((k : Nat) : Int) : Int).toNat) Try.underlying22 Z4 rfl rfl (by omega) (by omega) (by omega) ?_)
            exact ⟨hE, rfl⟩
          refine ⟨.det (fun val => (.bool (false))), ⟨fun _ _ hv => rfl, fun _ _ _ _ _ => trivial⟩, fun val h_ W hx he => ⟨trivial, ?_⟩, ?_⟩
          · replace hx := (Upd.drew _ _).trans hx
            replace hO := hO.ext hx
            replace hB1 := hB1.ext hx
            have hE := Upd.refl (fun _ => False) W
            refine id (X_load (p := (ptr b1 ((((k : Nat) : Int) : Int).toNat))) (v := .bool false) T4 rfl (hB1.at1 (by rw [List.getElem?_toArray]; unfold pinC; rw [List.getElem?_append_left (by rw [List.length_map]; omega), List.getElem?_map, show ((((k : Nat) : Int) : Int).toNat) = k by omega, ho1]; rfl)) ?_)
            exact ⟨hE, rfl⟩
          refine ⟨.det (fun val => (.bool (false))), ⟨fun _ _ hv => rfl, fun _ _ _ _ _ => trivial⟩, fun val h_ W hx he => ⟨trivial, ?_⟩, ?_⟩
          · replace hx := (Upd.drew _ _).trans hx
            replace hO := hO.ext hx
            replace hB1 := hB1.ext hx
            have hE := Upd.refl (fun _ => False) W
            refine id (X_move (v := (.bool (false))) rfl ?_)
            exact ⟨hE, rfl⟩
          refine ⟨.no, ⟨fun _ _ _ => trivial, fun _ _ _ _ _ => trivial⟩, fun val h_ W hx he => ⟨43, rfl, .inl rfl⟩, ?_⟩
          refine ⟨.no, ⟨fun _ _ _ => trivial, fun _ _ _ _ _ => trivial⟩, fun val h_ W hx he => ⟨43, rfl, .inl rfl⟩, ?_⟩
          refine ⟨.no, ⟨fun _ _ _ => trivial, fun _ _ _ _ _ => trivial⟩, fun val h_ W hx he => ⟨43, rfl, .inl rfl⟩, ?_⟩
          refine ⟨.no, ⟨fun _ _ _ => trivial, fun _ _ _ _ _ => trivial⟩, fun val h_ W hx he => ⟨43, rfl, .inl rfl⟩, ?_⟩
          refine ⟨.no, ⟨fun _ _ _ => trivial, fun _ _ _ _ _ => trivial⟩, fun val h_ W hx he => ⟨43, rfl, .inl rfl⟩, ?_⟩
          refine ⟨.no, ⟨fun _ _ _ => trivial, fun _ _ _ _ _ => trivial⟩, fun val h_ W hx he => ⟨43, rfl, .inl rfl⟩, ?_⟩
          refine ⟨.no, ⟨fun _ _ _ => trivial, fun _ _ _ _ _ => trivial⟩, fun val h_ W hx he => ⟨43, rfl, .inl rfl⟩, ?_⟩
          refine ⟨.no, ⟨fun _ _ _ => trivial, fun _ _ _ _ _ => trivial⟩, fun val h_ W hx he => ⟨43, rfl, .inl rfl⟩, ?_⟩
          refine ⟨.no, ⟨fun _ _ _ => trivial, fun _ _ _ _ _ => trivial⟩, fun val h_ W hx he => ⟨43, rfl, .inl rfl⟩, ?_⟩
          intro val W14 hx14 he14
          replace hx14 := (Upd.drew _ _).trans hx14
          have hz14 := hx14.size
          replace hO := hO.ext hx14
          replace hB1 := hB1.ext hx14
          replace hU := hU.trans (Ext.upd hx14)
          refine L_gn (dj := 43) (t := false) rfl rfl rfl rfl ?_
          refine L_op rfl (X_pick (t := false) (v := (.bool (false))) rfl rfl ?_)
          refine L_nil ?_
          refine T_n ?_
          refine W_cf rfl ?_
          refine W_skip ?_
          refine B_n ?_
          refine T_n ?_
          refine W_reg ?_
          refine L_op rfl (X_move (v := (.int .i64 (((k : Nat) : Int) + 1))) rfl ?_)
          refine L_op rfl (X_arith (k := .i64) (a := ((k : Nat) : Int) + 1) (b := 1) (r := ((k + 1 : Nat) : Int) + 1) rfl rfl rfl (iadd64 (by omega) (by omega) (by omega)) ?_)
          refine L_op rfl (X_assign (v := (.int .i64 (((k + 1 : Nat) : Int) + 1))) rfl ?_)
          refine L_nil ?_
          refine T_n ?_
          exact ⟨rfl, (k + 1, s2), ⟨⟨by omega, by rw [pcO_off ho1 hxk, hs2], hO, hB1, hU⟩, (by show 8 - (k + 1) < 8 - k; omega)⟩, (Out.mk rfl), ⟨rfl, rfl, trivial⟩⟩
      · refine L_op rfl (X_cmp (k := .i64) (a := ((k : Nat) : Int) + 1) (b := 8) (r := false) rfl rfl rfl (decide_eq_false (p := ((((k : Nat) : Int) + 1) : Int) ≤ ((8) : Int)) (by omega)) ?_)
        refine L_nil ?_
        refine T_n ?_
        refine W_cf rfl ?_
        refine W_exit ?_
        refine T_e ?_
        refine T_e ?_
        refine B_x ?_
        refine B_n ?_
        refine T_n ?_
        refine W_reg ?_
        refine L_op rfl (X_move (v := (.int .i64 (((i : Nat) : Int)))) rfl ?_)
        refine L_op rfl (X_arith (k := .i64) (a := ((i : Nat) : Int)) (b := 1) (r := ((i + 1 : Nat) : Int)) rfl rfl rfl (iadd64 (by omega) (by omega) (by omega)) ?_)
        refine L_op rfl (X_assign (v := (.int .i64 (((i + 1 : Nat) : Int)))) rfl ?_)
        refine L_nil ?_
        refine T_n ?_
        exact ⟨rfl, (i + 1, s2), ⟨⟨hi, by rw [seenO_step hzi, ← pcO_all z hon htx, ← hs]; rw [show k = 8 by omega] at hs2; exact hs2, hO, hB1, hU⟩, (by show zs.length - (i + 1) < zs.length - i; omega)⟩, (Out.in_ rfl rfl (Out.mk rfl)), ⟨rfl, rfl, trivial⟩⟩
    · refine L_op rfl (X_cmp (k := .i64) (a := ((i : Nat) : Int)) (b := ((zs.length : Nat) : Int)) (r := false) rfl rfl rfl (decide_eq_false (p := ((((i : Nat) : Int)) : Int) < ((((zs.length : Nat) : Int)) : Int)) (by omega)) ?_)
      refine L_nil ?_
      refine T_n ?_
      refine W_cf rfl ?_
      refine W_exit ?_
      refine T_e ?_
      refine T_e ?_
      refine B_x ?_
      refine T_n ?_
      refine W_seq ?_
      refine W_reg ?_
      refine L_op rfl (X_loadA (p := (ptr b1 (0))) (xs := (pinC on tx)) A26 rfl hB1.atAll (pinC_len hon htx) ?_)
      refine L_op rfl (X_fn (vs := [(.agg (pinC on tx).toArray)]) en6 rfl (CT.mono (c_oldest on tx _ hon htx) ?_))
      rintro _ w15 ⟨zs2, x_, g_, rfl, hpw2, hme2, hg_, hx_, hu15⟩
      have hz15 := hu15.size
      replace hO := hO.ext hu15
      replace hB1 := hB1.ext hu15
      replace hU := hU.trans (Ext.upd hu15)
      have hzz : zs2 = zs := incr_ext hpw2 hpw fun z => (hme2 z).trans (hme z).symm
      rw [hzz] at hg_ hx_
      have hsa := seenO_all hpw hme
      obtain rfl : i = zs.length := by omega
      rcases Nat.eq_zero_or_pos zs.length with h0 | h0
      · obtain rfl : g_ = false := by rw [hg_]; exact decide_eq_false (by omega)
        obtain rfl : x_ = 0 := hx_.elim (fun h => by rw [List.eq_nil_of_length_eq_zero h0] at h; cases h) (·.2)
        refine L_op rfl (X_move (v := (.tuple #[(u32V 0), (.bool (false))])) rfl ?_)
        refine L_op rfl (X_extract (l := [(u32V 0), (.bool (false))]) (v := (u32V 0)) rfl rfl ?_)
        refine L_op rfl (X_extract (l := [(u32V 0), (.bool (false))]) (v := (.bool (false))) rfl rfl ?_)
        refine L_op rfl (X_assign (v := (u32V 0)) rfl ?_)
        refine L_op rfl (X_assign (v := (.bool (false))) rfl ?_)
        refine L_nil ?_
        refine T_n ?_
        refine W_seq ?_
        refine W_reg ?_
        refine L_op rfl (X_move (v := (.int .i64 (((s : Nat) : Int)))) rfl ?_)
        refine L_op rfl (X_loadA (p := (ptr b1 (0))) (xs := (pinC on tx)) A26 rfl hB1.atAll (pinC_len hon htx) ?_)
        refine L_op rfl (X_fn (vs := [(.agg (pinC on tx).toArray)]) en7 rfl (CT.mono (c_many on tx _ hon htx) ?_))
        rintro _ w16 ⟨rfl, hu16⟩
        have hz16 := hu16.size
        replace hO := hO.ext hu16
        replace hB1 := hB1.ext hu16
        replace hU := hU.trans (Ext.upd hu16)
        refine L_op rfl (X_cmp (k := .i64) (a := ((s : Nat) : Int)) (b := (((openL on tx).length : Nat) : Int)) (r := true) rfl rfl rfl (decide_eq_true (p := ((((s : Nat) : Int)) : Int) = (((((openL on tx).length : Nat) : Int)) : Int)) (by omega)) ?_)
        refine L_op rfl (X_move (v := (.bool (true))) rfl ?_)
        refine L_gy (dj := 66) rfl rfl rfl (X_move (v := (.bool (false))) rfl ?_)
        refine L_gy (dj := 66) rfl rfl rfl (X_move (v := u) rfl ?_)
        refine L_gy (dj := 66) rfl rfl rfl (X_len (v := u) (n := zs.length) Try.underlying27 rfl husv ?_)
        refine L_gy (dj := 66) rfl rfl rfl (X_cmp (k := .i64) (a := ((zs.length : Nat) : Int)) (b := 0) (r := false) rfl rfl rfl (decide_eq_false (p := ((0 : Int) < ((zs.length : Nat) : Int))) (by omega)) ?_)
        refine L_gy (dj := 66) rfl rfl rfl (X_cmpBool (a := false) (b := false) (r := true) Try.underlying4 rfl rfl (.inl ⟨rfl, rfl⟩) ?_)
        refine L_op rfl (X_pick (t := true) (v := (.bool (true))) rfl rfl ?_)
        refine L_op rfl (X_move (v := (.bool (true))) rfl ?_)
        refine L_gy (dj := 73) rfl rfl rfl (X_move (v := (.bool (false))) rfl ?_)
        refine L_gy (dj := 73) rfl rfl rfl (X_not (b := false) (r := true) rfl rfl ?_)
        refine L_gy (dj := 73) rfl rfl rfl (X_move (v := (.bool (true))) rfl ?_)
        refine L_gn (dj := 76) (t := true) rfl rfl rfl rfl ?_
        refine L_gn (dj := 76) (t := true) rfl rfl rfl rfl ?_
        refine L_gn (dj := 76) (t := true) rfl rfl rfl rfl ?_
        refine L_gn (dj := 76) (t := true) rfl rfl rfl rfl ?_
        refine L_gn (dj := 76) (t := true) rfl rfl rfl rfl ?_
        refine L_gy (dj := 73) rfl rfl rfl (X_pick (t := true) (v := (.bool (true))) rfl rfl ?_)
        refine L_op rfl (X_pick (t := true) (v := (.bool (true))) rfl rfl ?_)
        refine L_op rfl (X_move (v := (.bool (true))) rfl ?_)
        refine L_gy (dj := 84) rfl rfl rfl (X_move (v := (.bool (false))) rfl ?_)
        refine L_gy (dj := 84) rfl rfl rfl (X_move (v := (.bool (false))) rfl ?_)
        refine L_gy (dj := 86) rfl rfl rfl (X_move (v := (u32V 0)) rfl ?_)
        refine L_gy (dj := 86) rfl rfl rfl (X_cmp (k := .u32) (a := 0) (b := 0) (r := true) rfl rfl rfl rfl ?_)
        refine L_gy (dj := 84) rfl rfl rfl (X_pick (t := false) (v := (.bool (true))) rfl rfl ?_)
        refine L_op rfl (X_pick (t := true) (v := (.bool (true))) rfl rfl ?_)
        refine L_op rfl (X_move (v := (.bool (true))) rfl ?_)
        refine L_gy (dj := 91) rfl rfl rfl (X_fn (vs := []) en8 rfl (CT.mono (c_wakes14 _) ?_))
        rintro vb17 w17 ⟨hvb17, hu17⟩
        have hz17 := hu17.size
        replace hO := hO.ext hu17
        replace hB1 := hB1.ext hu17
        replace hU := hU.trans (Ext.upd hu17)
        subst hvb17
        refine L_op rfl (X_pick (t := true) (v := (.bool (true))) rfl rfl ?_)
        refine L_op rfl (X_assign (v := (.bool (true))) rfl ?_)
        refine L_nil ?_
        refine T_n ?_
        refine W_ret ?_
        exact BQ_r (End_1 Try.results3 (v := .bool true) rfl ⟨rfl, hU.own hn0⟩)
      · obtain rfl : g_ = true := by rw [hg_]; exact decide_eq_true (by omega)
        have hx0 : zs[0]? = some x_ := hx_.resolve_right fun h => by rw [h.1] at h0; cases h0
        refine L_op rfl (X_move (v := (.tuple #[(u32V x_), (.bool (true))])) rfl ?_)
        refine L_op rfl (X_extract (l := [(u32V x_), (.bool (true))]) (v := (u32V x_)) rfl rfl ?_)
        refine L_op rfl (X_extract (l := [(u32V x_), (.bool (true))]) (v := (.bool (true))) rfl rfl ?_)
        refine L_op rfl (X_assign (v := (u32V x_)) rfl ?_)
        refine L_op rfl (X_assign (v := (.bool (true))) rfl ?_)
        refine L_nil ?_
        refine T_n ?_
        refine W_seq ?_
        refine W_reg ?_
        refine L_op rfl (X_move (v := (.int .i64 (((s : Nat) : Int)))) rfl ?_)
        refine L_op rfl (X_loadA (p := (ptr b1 (0))) (xs := (pinC on tx)) A26 rfl hB1.atAll (pinC_len hon htx) ?_)
        refine L_op rfl (X_fn (vs := [(.agg (pinC on tx).toArray)]) en7 rfl (CT.mono (c_many on tx _ hon htx) ?_))
        rintro _ w18 ⟨rfl, hu18⟩
        have hz18 := hu18.size
        replace hO := hO.ext hu18
        replace hB1 := hB1.ext hu18
        replace hU := hU.trans (Ext.upd hu18)
        refine L_op rfl (X_cmp (k := .i64) (a := ((s : Nat) : Int)) (b := (((openL on tx).length : Nat) : Int)) (r := true) rfl rfl rfl (decide_eq_true (p := ((((s : Nat) : Int)) : Int) = (((((openL on tx).length : Nat) : Int)) : Int)) (by omega)) ?_)
        refine L_op rfl (X_move (v := (.bool (true))) rfl ?_)
        refine L_gy (dj := 66) rfl rfl rfl (X_move (v := (.bool (true))) rfl ?_)
        refine L_gy (dj := 66) rfl rfl rfl (X_move (v := u) rfl ?_)
        refine L_gy (dj := 66) rfl rfl rfl (X_len (v := u) (n := zs.length) Try.underlying27 rfl husv ?_)
        refine L_gy (dj := 66) rfl rfl rfl (X_cmp (k := .i64) (a := ((zs.length : Nat) : Int)) (b := 0) (r := true) rfl rfl rfl (decide_eq_true (p := ((0 : Int) < ((zs.length : Nat) : Int))) (by omega)) ?_)
        refine L_gy (dj := 66) rfl rfl rfl (X_cmpBool (a := true) (b := true) (r := true) Try.underlying4 rfl rfl (.inl ⟨rfl, rfl⟩) ?_)
        refine L_op rfl (X_pick (t := true) (v := (.bool (true))) rfl rfl ?_)
        refine L_op rfl (X_move (v := (.bool (true))) rfl ?_)
        refine L_gy (dj := 73) rfl rfl rfl (X_move (v := (.bool (true))) rfl ?_)
        refine L_gy (dj := 73) rfl rfl rfl (X_not (b := true) (r := false) rfl rfl ?_)
        refine L_gy (dj := 73) rfl rfl rfl (X_move (v := (.bool (false))) rfl ?_)
        refine L_gy (dj := 76) rfl rfl rfl (X_move (v := (u32V x_)) rfl ?_)
        refine L_gy (dj := 76) rfl rfl rfl (X_move (v := u) rfl ?_)
        refine L_gy (dj := 76) rfl rfl rfl (X_idx (v := u) (n := zs.length) (k := .i64) (i := 0) S27 rfl husv rfl (by omega) (by omega) ?_)
        refine L_gy (dj := 76) rfl rfl rfl (X_load (v := u32V x_) T23 rfl (hO.rd.cell (by rw [show (0 : Int).toNat * 1 = 0 by omega, List.getElem?_map, hx0]; rfl)) ?_)
        refine L_gy (dj := 76) rfl rfl rfl (X_cmp (k := .u32) (a := x_) (b := x_) (r := true) rfl rfl rfl (decide_eq_true rfl) ?_)
        refine L_gy (dj := 73) rfl rfl rfl (X_pick (t := false) (v := (.bool (true))) rfl rfl ?_)
        refine L_op rfl (X_pick (t := true) (v := (.bool (true))) rfl rfl ?_)
        refine L_op rfl (X_move (v := (.bool (true))) rfl ?_)
        refine L_gy (dj := 84) rfl rfl rfl (X_move (v := (.bool (true))) rfl ?_)
        refine L_gy (dj := 84) rfl rfl rfl (X_move (v := (.bool (true))) rfl ?_)
        refine L_gn (dj := 86) (t := true) rfl rfl rfl rfl ?_
        refine L_gn (dj := 86) (t := true) rfl rfl rfl rfl ?_
        refine L_gy (dj := 84) rfl rfl rfl (X_pick (t := true) (v := (.bool (true))) rfl rfl ?_)
        refine L_op rfl (X_pick (t := true) (v := (.bool (true))) rfl rfl ?_)
        refine L_op rfl (X_move (v := (.bool (true))) rfl ?_)
        refine L_gy (dj := 91) rfl rfl rfl (X_fn (vs := []) en8 rfl (CT.mono (c_wakes14 _) ?_))
        rintro vb19 w19 ⟨hvb19, hu19⟩
        have hz19 := hu19.size
        replace hO := hO.ext hu19
        replace hB1 := hB1.ext hu19
        replace hU := hU.trans (Ext.upd hu19)
        subst hvb19
        refine L_op rfl (X_pick (t := true) (v := (.bool (true))) rfl rfl ?_)
        refine L_op rfl (X_assign (v := (.bool (true))) rfl ?_)
        refine L_nil ?_
        refine T_n ?_
        refine W_ret ?_
        exact BQ_r (End_1 Try.results3 (v := .bool true) rfl ⟨rfl, hU.own hn0⟩)
end Go.Proofs.Ytlelcjppakmnaaa
