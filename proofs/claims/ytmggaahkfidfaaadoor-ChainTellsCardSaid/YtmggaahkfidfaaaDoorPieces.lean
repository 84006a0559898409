/-
  The walk of ChainPieces. (Printed by wip/gen/t08p.py of this repo.)
-/
import Derived.Test.YtmggaahkfidfaaaDoorCutC
import Derived.Test.YtmggaahkfidfaaaDoorBack
namespace Go.Proofs.YtmggaahkfidfaaaDoor
open Go Go.SL Go.Proofs
set_option linter.unusedVariables false

theorem pcN_many (l : List UInt8) (h : l.length ≤ 1500) : manyN ((l.length : Nat) : Int) = ((pcN l : Nat) : Int) := by
  unfold manyN pcN
  split <;> omega
theorem pc_take (l : List UInt8) (i : Nat) : l.take (200 * i) ++ pcL l i = l.take (200 * (i + 1)) := by
  rw [Nat.mul_add, Nat.mul_one, List.take_add]; rfl
theorem pc_all {l : List UInt8} {n : Nat} (h : n = pcN l) : l.take (200 * n) = l := by
  refine List.take_of_length_le ?_
  have := pcN_lt (l := l) (k := n)
  omega
theorem pc_get {es : List BE} {l : List UInt8} {n i : Nat} {e : BE} (h : es.map (·.2) = (List.range n).map (pcL l)) (he : es[i]? = some e) : e.2 = pcL l i := by
  have h1 := congrArg (·[i]?) h
  simp only [List.getElem?_map, he, Option.map_some] at h1
  have hi : i < n := by
    rcases Nat.lt_or_ge i n with h2 | h2
    · exact h2
    · rw [List.getElem?_eq_none (by rw [List.length_range]; exact h2)] at h1; cases h1
  rw [List.getElem?_range hi] at h1
  simpa using h1
theorem set_map {m : List UInt8} {j : Nat} (x : UInt8) : (m.map byteV).set j (byteV x) = (m.set j x).map byteV := by rw [List.map_set]

set_option maxRecDepth 10000 in
set_option maxHeartbeats 2000000 in
theorem c_chainPieces (b : Value) (l : List UInt8) (w : World) (hb : Rd w 1 b l.length (l.map byteV)) (hT : TabR w) : CT Tryd.prog 6 #[b] w fun v w' => v = .bool true ∧ Ext w w' := by
  obtain ⟨n0, hn0⟩ : ∃ n, n = w.heap.size := ⟨_, rfl⟩
  have hU : Upd (fun i => n0 ≤ i) w w := Upd.refl _ _
  have hb_b : ∀ i, rbk b = some i → i < n0 := by rw [hn0]; exact fun i hi => hb.bound (by decide) hi
  have hb0 := hb
  have hT0 := hT
  have hn1_ := tab_pos hT
  refine CT_of Tryd.func6 rfl rfl rfl ?_
  refine W_seq ?_
  refine W_reg ?_
  refine L_op rfl (X_assign (v := (.bool (false))) rfl ?_)
  refine L_nil ?_
  refine T_n ?_
  refine W_seq ?_
  refine W_seq ?_
  refine W_reg ?_
  refine L_op rfl (X_move (v := b) rfl ?_)
  refine L_op rfl (X_len (v := b) (n := l.length) Tryd.underlying22 rfl hb.sv ?_)
  by_cases hc1 : (((l.length : Nat) : Int) : Int) > (1500)
  · refine L_op rfl (X_cmp (k := .i64) (a := ((l.length : Nat) : Int)) (b := 1500) (r := true) rfl rfl rfl (decide_eq_true (p := ((1500) : Int) < ((((l.length : Nat) : Int)) : Int)) (by omega)) ?_)
    refine L_nil ?_
    refine T_n ?_
    refine W_ct rfl ?_
    refine W_seq ?_
    refine W_reg ?_
    refine L_op rfl (X_fn (vs := []) en7 rfl (CT.mono (c_wakes _ hT) ?_))
    rintro vb2 w2 ⟨hvb2, hu2⟩
    have hz2 := hu2.size
    replace hb := hb.ext hu2
    replace hU := hU.trans (Ext.upd hu2)
    replace hT := hT.ext hu2
    subst hvb2
    refine L_op rfl (X_assign (v := (.bool (true))) rfl ?_)
    refine L_nil ?_
    refine T_n ?_
    refine W_ret ?_
    refine T_r ?_
    exact BQ_r (End_1 Tryd.results6 (v := .bool true) rfl ⟨rfl, hU.own hn0⟩)
  · refine L_op rfl (X_cmp (k := .i64) (a := ((l.length : Nat) : Int)) (b := 1500) (r := false) rfl rfl rfl (decide_eq_false (p := ((1500) : Int) < ((((l.length : Nat) : Int)) : Int)) (by omega)) ?_)
    refine L_nil ?_
    refine T_n ?_
    refine W_cf rfl ?_
    refine W_skip ?_
    refine T_n ?_
    refine W_seq ?_
    refine W_reg ?_
    refine L_op rfl (X_move (v := b) rfl ?_)
    refine L_op rfl (X_str (v := b) (l := l) Tryd.underlying22 Tryd.underlying5 Tryd.underlying9 rfl hb ?_)
    refine L_op rfl (X_assign (v := (strV (l))) rfl ?_)
    refine L_nil ?_
    refine T_n ?_
    refine W_seq ?_
    refine W_reg ?_
    refine L_op rfl (X_move (v := b) rfl ?_)
    obtain ⟨n1, hn1⟩ : ∃ n, n = w.heap.size := ⟨_, rfl⟩
    refine L_op rfl (X_fn (vs := [b]) en15 rfl (CT.mono (c_cut b l _ (by omega) hb) ?_))
    rintro v6 w6 ⟨es, hN, hdi, hes, hu6⟩
    have hz6 := hu6.size
    rw [← hn1] at hN
    obtain ⟨up, hup⟩ : ∃ n, n = w6.heap.size := ⟨_, rfl⟩
    rw [← hup] at hN
    obtain ⟨hRow, hRb, hSub⟩ := hN
    rw [LB_flat] at hRow
    have hel : es.length = pcN l := by have h := congrArg List.length hes; rw [List.length_map, List.length_map, List.length_range] at h; exact h
    have hAll : ∀ j e, 0 ≤ j → es[j]? = some e → BOwn w6 5 n1 up e := fun j e _ he => hSub e (List.mem_of_getElem? he) e (by simp [LB])
    replace hb := hb.ext hu6
    replace hU := hU.trans (Ext.upd hu6)
    replace hT := hT.ext hu6
    have hne := pcN_many l (by omega)
    refine L_op rfl (X_assign (v := v6) rfl ?_)
    refine L_nil ?_
    refine T_n ?_
    refine W_seq ?_
    refine W_reg ?_
    refine L_op rfl (X_assign (v := (.string ⟨#[]⟩)) rfl ?_)
    refine L_nil ?_
    refine T_n ?_
    refine W_seq ?_
    refine W_seq ?_
    refine W_reg ?_
    refine L_op rfl (X_move (v := v6) rfl ?_)
    refine L_op rfl (X_len (v := v6) (n := es.length) Tryd.underlying41 rfl hRow.sv ?_)
    refine L_op rfl (X_move (v := b) rfl ?_)
    refine L_op rfl (X_len (v := b) (n := l.length) Tryd.underlying22 rfl hb.sv ?_)
    refine L_op rfl (X_fn (vs := [(.int .i64 (((l.length : Nat) : Int)))]) en13 rfl (CT.mono (c_many _ _ (by omega)) ?_))
    rintro _ _ ⟨rfl, rfl⟩
    rw [hne]
    refine L_op rfl (X_cmp (k := .i64) (a := ((es.length : Nat) : Int)) (b := ((pcN l : Nat) : Int)) (r := false) rfl rfl rfl (decide_eq_false (p := ((((es.length : Nat) : Int)) : Int) ≠ ((((pcN l : Nat) : Int)) : Int)) (by omega)) ?_)
    refine L_nil ?_
    refine T_n ?_
    refine W_cf rfl ?_
    refine W_skip ?_
    refine T_n ?_
    refine W_seq ?_
    refine W_seq ?_
    refine W_reg ?_
    refine L_op rfl (X_assign (v := (.int .i64 (0))) rfl ?_)
    refine L_nil ?_
    refine T_n ?_
    refine W_block ?_
    refine W_loop (α := Nat) [2, 5, 6, 7, 22, 23, 24, 25, 26, 27, 28, 29, 30, 31, 32, 33, 34, 35, 36, 37, 38, 39, 40, 41, 42, 43, 44, 45, 46, 47, 48, 49, 50, 51, 52, 53, 54, 55, 56, 57, 58, 59, 60, 61, 62, 63, 64, 65, 66, 67, 68, 69, 70, 71, 72, 73, 74, 75, 76, 77, 78, 79, 80, 81, 82, 83, 84, 85, 86] (fun i => [(6, (.int .i64 (((i : Nat) : Int)))), (5, (strV (l.take (200 * i))))]) (fun i w_ => i ≤ es.length ∧ Own w_ n1 22 1 v6 es.length (es.map (·.1)) ∧ (∀ j e, i ≤ j → es[j]? = some e → BOwn w_ 5 n1 up e) ∧ Upd (fun i => n0 ≤ i) w w_) (fun i => es.length - i) ⟨rfl, 0, ⟨Nat.zero_le _, hRow, hAll, hU⟩, Out.refl _ _, ⟨rfl, rfl, trivial⟩⟩ ?_
    rintro i w3 _ ⟨hil, hRow, hAll, hU⟩
    have hb := hb0.old (by decide) (hn0 ▸ hU)
    have hT := hT0.upd hU fun i h1 h2 h => by have h : n0 ≤ i := h; have := tab_pos hT0; omega
    have hsz_ := hU.size
    refine W_seq ?_
    refine W_seq ?_
    refine W_reg ?_
    refine L_op rfl (X_move (v := (.int .i64 (((i : Nat) : Int)))) rfl ?_)
    refine L_op rfl (X_move (v := v6) rfl ?_)
    refine L_op rfl (X_len (v := v6) (n := es.length) Tryd.underlying41 rfl hRow.sv ?_)
    by_cases hc4 : (((i : Nat) : Int) : Int) < (((es.length : Nat) : Int))
    · refine L_op rfl (X_cmp (k := .i64) (a := ((i : Nat) : Int)) (b := ((es.length : Nat) : Int)) (r := true) rfl rfl rfl (decide_eq_true (p := ((((i : Nat) : Int)) : Int) < ((((es.length : Nat) : Int)) : Int)) (by omega)) ?_)
      have hil2 : i < es.length := by omega
      obtain ⟨e, hei⟩ : ∃ e, es[i]? = some e := ⟨_, List.getElem?_eq_getElem hil2⟩
      have he2 := pc_get hes hei
      have hpl := pcL_len l i
      rw [← he2] at hpl
      have hplt := pcN_lt.1 (show i < pcN l by omega)
      have hplast := pcN_lt (l := l) (k := i + 1)
      have hM := hAll i e (Nat.le_refl _) hei
      refine L_nil ?_
      refine T_n ?_
      refine W_ct rfl ?_
      refine W_skip ?_
      refine T_n ?_
      refine W_seq ?_
      refine W_block ?_
      refine W_seq ?_
      refine W_seq ?_
      refine W_reg ?_
      refine L_op rfl (X_move (v := v6) rfl ?_)
      refine L_op rfl (X_move (v := (.int .i64 (((i : Nat) : Int)))) rfl ?_)
      refine L_op rfl (X_idx (v := v6) (n := es.length) (k := .i64) (i := ((i : Nat) : Int)) S41 rfl hRow.sv rfl (by omega) (by omega) ?_)
      refine L_op rfl (X_load (v := e.1) T22 rfl (hRow.rd.cell (by rw [show (((i : Nat) : Int).toNat * 1) = i by omega, List.getElem?_map, hei]; rfl)) ?_)
      refine L_op rfl (X_len (v := e.1) (n := e.2.length) Tryd.underlying22 rfl hM.1.sv ?_)
      refine L_op rfl (X_cmp (k := .i64) (a := ((e.2.length : Nat) : Int)) (b := 0) (r := false) rfl rfl rfl (decide_eq_false (p := ((((e.2.length : Nat) : Int)) : Int) = ((0) : Int)) (by omega)) ?_)
      refine L_op rfl (X_move (v := (.bool (false))) rfl ?_)
      refine L_gy (dj := 34) rfl rfl rfl (X_move (v := (.int .i64 (((i : Nat) : Int)))) rfl ?_)
      refine L_gy (dj := 34) rfl rfl rfl (X_arith (k := .i64) (a := ((i : Nat) : Int)) (b := 1) (r := ((i + 1 : Nat) : Int)) rfl rfl rfl (iadd64 (by omega) (by omega) (by omega)) ?_)
      refine L_gy (dj := 34) rfl rfl rfl (X_move (v := v6) rfl ?_)
      refine L_gy (dj := 34) rfl rfl rfl (X_len (v := v6) (n := es.length) Tryd.underlying41 rfl hRow.sv ?_)
      by_cases hc5 : (((i + 1 : Nat) : Int) : Int) < (((es.length : Nat) : Int))
      · refine L_gy (dj := 34) rfl rfl rfl (X_cmp (k := .i64) (a := ((i + 1 : Nat) : Int)) (b := ((es.length : Nat) : Int)) (r := true) rfl rfl rfl (decide_eq_true (p := ((((i + 1 : Nat) : Int)) : Int) < ((((es.length : Nat) : Int)) : Int)) (by omega)) ?_)
        refine L_gy (dj := 34) rfl rfl rfl (X_move (v := (.bool (true))) rfl ?_)
        refine L_gy (dj := 40) rfl rfl rfl (X_move (v := v6) rfl ?_)
        refine L_gy (dj := 40) rfl rfl rfl (X_move (v := (.int .i64 (((i : Nat) : Int)))) rfl ?_)
        refine L_gy (dj := 40) rfl rfl rfl (X_idx (v := v6) (n := es.length) (k := .i64) (i := ((i : Nat) : Int)) S41 rfl hRow.sv rfl (by omega) (by omega) ?_)
        refine L_gy (dj := 40) rfl rfl rfl (X_load (v := e.1) T22 rfl (hRow.rd.cell (by rw [show (((i : Nat) : Int).toNat * 1) = i by omega, List.getElem?_map, hei]; rfl)) ?_)
        refine L_gy (dj := 40) rfl rfl rfl (X_len (v := e.1) (n := e.2.length) Tryd.underlying22 rfl hM.1.sv ?_)
        refine L_gy (dj := 40) rfl rfl rfl (X_cmp (k := .i64) (a := ((e.2.length : Nat) : Int)) (b := 200) (r := false) rfl rfl rfl (decide_eq_false (p := ((((e.2.length : Nat) : Int)) : Int) ≠ ((200) : Int)) (by omega)) ?_)
        refine L_gy (dj := 34) rfl rfl rfl (X_pick (t := true) (v := (.bool (false))) rfl rfl ?_)
        refine L_op rfl (X_pick (t := false) (v := (.bool (false))) rfl rfl ?_)
        refine L_op rfl (X_move (v := (.bool (false))) rfl ?_)
        refine L_gy (dj := 49) rfl rfl rfl (X_move (v := v6) rfl ?_)
        refine L_gy (dj := 49) rfl rfl rfl (X_move (v := (.int .i64 (((i : Nat) : Int)))) rfl ?_)
        refine L_gy (dj := 49) rfl rfl rfl (X_idx (v := v6) (n := es.length) (k := .i64) (i := ((i : Nat) : Int)) S41 rfl hRow.sv rfl (by omega) (by omega) ?_)
        refine L_gy (dj := 49) rfl rfl rfl (X_load (v := e.1) T22 rfl (hRow.rd.cell (by rw [show (((i : Nat) : Int).toNat * 1) = i by omega, List.getElem?_map, hei]; rfl)) ?_)
        refine L_gy (dj := 49) rfl rfl rfl (X_len (v := e.1) (n := e.2.length) Tryd.underlying22 rfl hM.1.sv ?_)
        refine L_gy (dj := 49) rfl rfl rfl (X_cmp (k := .i64) (a := ((e.2.length : Nat) : Int)) (b := 200) (r := false) rfl rfl rfl (decide_eq_false (p := ((200) : Int) < ((((e.2.length : Nat) : Int)) : Int)) (by omega)) ?_)
        refine L_op rfl (X_pick (t := false) (v := (.bool (false))) rfl rfl ?_)
        refine L_nil ?_
        refine T_n ?_
        refine W_cf rfl ?_
        refine W_skip ?_
        refine T_n ?_
        refine W_seq ?_
        refine W_reg ?_
        refine L_op rfl (X_move (v := (strV (l.take (200 * i)))) rfl ?_)
        refine L_op rfl (X_move (v := v6) rfl ?_)
        refine L_op rfl (X_move (v := (.int .i64 (((i : Nat) : Int)))) rfl ?_)
        refine L_op rfl (X_idx (v := v6) (n := es.length) (k := .i64) (i := ((i : Nat) : Int)) S41 rfl hRow.sv rfl (by omega) (by omega) ?_)
        refine L_op rfl (X_load (v := e.1) T22 rfl (hRow.rd.cell (by rw [show (((i : Nat) : Int).toNat * 1) = i by omega, List.getElem?_map, hei]; rfl)) ?_)
        refine L_op rfl (X_str (v := e.1) (l := e.2) Tryd.underlying22 Tryd.underlying5 Tryd.underlying9 rfl hM.1.rd ?_)
        refine L_op rfl (X_sadd (a := l.take (200 * i)) (b := e.2) rfl rfl (by rw [List.length_take]; omega) ?_)
        rw [he2, pc_take l i]
        refine L_op rfl (X_assign (v := (strV (l.take (200 * (i + 1))))) rfl ?_)
        refine L_nil ?_
        refine T_n ?_
        refine W_seq ?_
        refine W_reg ?_
        refine L_op rfl (X_assign (v := (.int .i64 (0))) rfl ?_)
        refine L_nil ?_
        refine T_n ?_
        refine W_block ?_
        refine W_loop (α := Nat) [7, 64, 65, 66, 67, 68, 69, 70, 71, 72, 73, 74, 75, 76, 77, 78, 79, 80, 81, 82, 83, 84, 85, 86] (fun j => [(7, (.int .i64 (((j : Nat) : Int))))]) (fun j w_ => ∃ m : List UInt8, j ≤ m.length ∧ m.length = e.2.length ∧ BOwn w_ 5 n1 up (e.1, m) ∧ Own w_ n1 22 1 v6 es.length (es.map (·.1)) ∧ (∀ j e, i < j → es[j]? = some e → BOwn w_ 5 n1 up e) ∧ Upd (fun i => n0 ≤ i) w w_) (fun j => e.2.length - j) ⟨rfl, 0, ⟨e.2, Nat.zero_le _, rfl, hM, hRow, fun j e h1 h2 => hAll j e (Nat.le_of_lt h1) h2, hU⟩, Out.refl _ _, ⟨rfl, trivial⟩⟩ ?_
        rintro j w6 _ ⟨m, hjl, hml, hM, hRow, hRest, hU⟩
        have hb := hb0.old (by decide) (hn0 ▸ hU)
        have hT := hT0.upd hU fun i h1 h2 h => by have h : n0 ≤ i := h; have := tab_pos hT0; omega
        have hsz_ := hU.size
        refine W_seq ?_
        refine W_seq ?_
        refine W_reg ?_
        refine L_op rfl (X_move (v := (.int .i64 (((j : Nat) : Int)))) rfl ?_)
        refine L_op rfl (X_move (v := v6) rfl ?_)
        refine L_op rfl (X_move (v := (.int .i64 (((i : Nat) : Int)))) rfl ?_)
        refine L_op rfl (X_idx (v := v6) (n := es.length) (k := .i64) (i := ((i : Nat) : Int)) S41 rfl hRow.sv rfl (by omega) (by omega) ?_)
        refine L_op rfl (X_load (v := e.1) T22 rfl (hRow.rd.cell (by rw [show (((i : Nat) : Int).toNat * 1) = i by omega, List.getElem?_map, hei]; rfl)) ?_)
        refine L_op rfl (X_len (v := e.1) (n := m.length) Tryd.underlying22 rfl hM.1.sv ?_)
        by_cases hc7 : (((j : Nat) : Int) : Int) < (((m.length : Nat) : Int))
        · refine L_op rfl (X_cmp (k := .i64) (a := ((j : Nat) : Int)) (b := ((m.length : Nat) : Int)) (r := true) rfl rfl rfl (decide_eq_true (p := ((((j : Nat) : Int)) : Int) < ((((m.length : Nat) : Int)) : Int)) (by omega)) ?_)
          have hjm : j < m.length := by omega
          obtain ⟨x0, hx0⟩ : ∃ x, m[j]? = some x := ⟨_, List.getElem?_eq_getElem hjm⟩
          refine L_nil ?_
          refine T_n ?_
          refine W_ct rfl ?_
          refine W_skip ?_
          refine T_n ?_
          refine W_seq ?_
          refine W_block ?_
          refine W_draw 13 [[], [], [0, 1], [0, 1, 2], [], [], [], [5, 6], [5, 6, 7], [], [5, 6, 7, 8, 9], [5, 6, 7, 8, 9, 10], [5, 6, 7, 8, 9, 10, 11], [0, 1, 2, 3, 4, 5, 6, 7, 8, 9, 10, 11, 12], [0, 1, 2, 3, 4, 5, 6, 7, 8, 9, 10, 11, 12, 13]] mixed (by kernel_rfl) ?_
          refine ⟨.det (fun val => v6), ⟨fun _ _ hv => rfl, fun _ _ _ _ _ => trivial⟩, fun val h_ W hx he => ⟨trivial, ?_⟩, ?_⟩
          · replace hx := (Upd.drew _ _).trans hx
            replace hb := hb.ext hx
            replace hT := hT.ext hx
            replace hRow := hRow.ext hx
            replace hM := hM.ext hx
            have hE := Upd.refl (fun _ => False) W
            refine id (X_move (v := v6) rfl ?_)
            exact ⟨hE, rfl⟩
          refine ⟨.det (fun val => (.int .i64 (((i : Nat) : Int)))), ⟨fun _ _ hv => rfl, fun _ _ _ _ _ => trivial⟩, fun val h_ W hx he => ⟨trivial, ?_⟩, ?_⟩
          · replace hx := (Upd.drew _ _).trans hx
            replace hb := hb.ext hx
            replace hT := hT.ext hx
            replace hRow := hRow.ext hx
            replace hM := hM.ext hx
            have hE := Upd.refl (fun _ => False) W
            refine id (X_move (v := (.int .i64 (((i : Nat) : Int)))) rfl ?_)
            exact ⟨hE, rfl⟩
          refine ⟨.det (fun val => (pof v6 ((((i : Nat) : Int) : Int).toNat * 1))), ⟨fun _ _ hv => rfl, fun _ _ _ _ _ => trivial⟩, fun val h_ W hx he => ⟨trivial, ?_⟩, ?_⟩
          · replace hx := (Upd.drew _ _).trans hx
            replace hb := hb.ext hx
            replace hT := hT.ext hx
            replace hRow := hRow.ext hx
            replace hM := hM.ext hx
            have hE := Upd.refl (fun _ => False) W
            refine id (X_idx (v := v6) (n := es.length) (k := .i64) (i := ((i : Nat) : Int)) S41 rfl hRow.sv rfl (by omega) (by omega) ?_)
            exact ⟨hE, rfl⟩
          refine ⟨.det (fun val => e.1), ⟨fun _ _ hv => rfl, fun _ _ _ _ _ => trivial⟩, fun val h_ W hx he => ⟨trivial, ?_⟩, ?_⟩
          · replace hx := (Upd.drew _ _).trans hx
            replace hb := hb.ext hx
            replace hT := hT.ext hx
            replace hRow := hRow.ext hx
            replace hM := hM.ext hx
            have hE := Upd.refl (fun _ => False) W
            refine id (X_load (v := e.1) T22 rfl (hRow.rd.cell (by rw [show (((i : Nat) : Int).toNat * 1) = i by omega, List.getElem?_map, hei]; rfl)) ?_)
            exact ⟨hE, rfl⟩
          refine ⟨.det (fun val => (.int .i64 (((j : Nat) : Int)))), ⟨fun _ _ hv => rfl, fun _ _ _ _ _ => trivial⟩, fun val h_ W hx he => ⟨trivial, ?_⟩, ?_⟩
          · replace hx := (Upd.drew _ _).trans hx
            replace hb := hb.ext hx
            replace hT := hT.ext hx
            replace hRow := hRow.ext hx
            replace hM := hM.ext hx
            have hE := Upd.refl (fun _ => False) W
            refine id (X_move (v := (.int .i64 (((j : Nat) : Int)))) rfl ?_)
            exact ⟨hE, rfl⟩
          refine ⟨.det (fun val => v6), ⟨fun _ _ hv => rfl, fun _ _ _ _ _ => trivial⟩, fun val h_ W hx he => ⟨trivial, ?_⟩, ?_⟩
          · replace hx := (Upd.drew _ _).trans hx
            replace hb := hb.ext hx
            replace hT := hT.ext hx
            replace hRow := hRow.ext hx
            replace hM := hM.ext hx
            have hE := Upd.refl (fun _ => False) W
            refine id (X_move (v := v6) rfl ?_)
            exact ⟨hE, rfl⟩
          refine ⟨.det (fun val => (.int .i64 (((i : Nat) : Int)))), ⟨fun _ _ hv => rfl, fun _ _ _ _ _ => trivial⟩, fun val h_ W hx he => ⟨trivial, ?_⟩, ?_⟩
          · replace hx := (Upd.drew _ _).trans hx
            replace hb := hb.ext hx
            replace hT := hT.ext hx
            replace hRow := hRow.ext hx
            replace hM := hM.ext hx
            have hE := Upd.refl (fun _ => False) W
            refine id (X_move (v := (.int .i64 (((i : Nat) : Int)))) rfl ?_)
            exact ⟨hE, rfl⟩
          refine ⟨.det (fun val => (pof v6 ((((i : Nat) : Int) : Int).toNat * 1))), ⟨fun _ _ hv => rfl, fun _ _ _ _ _ => trivial⟩, fun val h_ W hx he => ⟨trivial, ?_⟩, ?_⟩
          · replace hx := (Upd.drew _ _).trans hx
            replace hb := hb.ext hx
            replace hT := hT.ext hx
            replace hRow := hRow.ext hx
            replace hM := hM.ext hx
            have hE := Upd.refl (fun _ => False) W
            refine id (X_idx (v := v6) (n := es.length) (k := .i64) (i := ((i : Nat) : Int)) S41 rfl hRow.sv rfl (by omega) (by omega) ?_)
            exact ⟨hE, rfl⟩
          refine ⟨.det (fun val => e.1), ⟨fun _ _ hv => rfl, fun _ _ _ _ _ => trivial⟩, fun val h_ W hx he => ⟨trivial, ?_⟩, ?_⟩
          · replace hx := (Upd.drew _ _).trans hx
            replace hb := hb.ext hx
            replace hT := hT.ext hx
            replace hRow := hRow.ext hx
            replace hM := hM.ext hx
            have hE := Upd.refl (fun _ => False) W
            refine id (X_load (v := e.1) T22 rfl (hRow.rd.cell (by rw [show (((i : Nat) : Int).toNat * 1) = i by omega, List.getElem?_map, hei]; rfl)) ?_)
            exact ⟨hE, rfl⟩
          refine ⟨.det (fun val => (.int .i64 (((j : Nat) : Int)))), ⟨fun _ _ hv => rfl, fun _ _ _ _ _ => trivial⟩, fun val h_ W hx he => ⟨trivial, ?_⟩, ?_⟩
          · replace hx := (Upd.drew _ _).trans hx
            replace hb := hb.ext hx
            replace hT := hT.ext hx
            replace hRow := hRow.ext hx
            replace hM := hM.ext hx
            have hE := Upd.refl (fun _ => False) W
            refine id (X_move (v := (.int .i64 (((j : Nat) : Int)))) rfl ?_)
            exact ⟨hE, rfl⟩
          refine ⟨.det (fun val => (pof e.1 ((((j : Nat) : Int) : Int).toNat * 1))), ⟨fun _ _ hv => rfl, fun _ _ _ _ _ => trivial⟩, fun val h_ W hx he => ⟨trivial, ?_⟩, ?_⟩
          · replace hx := (Upd.drew _ _).trans hx
            replace hb := hb.ext hx
            replace hT := hT.ext hx
            replace hRow := hRow.ext hx
            replace hM := hM.ext hx
            have hE := Upd.refl (fun _ => False) W
            refine id (X_idx (v := e.1) (n := m.length) (k := .i64) (i := ((j : Nat) : Int)) S22 rfl hM.1.sv rfl (by omega) (by omega) ?_)
            exact ⟨hE, rfl⟩
          refine ⟨.det (fun val => (byteV x0)), ⟨fun _ _ hv => rfl, fun _ _ _ _ _ => trivial⟩, fun val h_ W hx he => ⟨trivial, ?_⟩, ?_⟩
          · replace hx := (Upd.drew _ _).trans hx
            replace hb := hb.ext hx
            replace hT := hT.ext hx
            replace hRow := hRow.ext hx
            replace hM := hM.ext hx
            have hE := Upd.refl (fun _ => False) W
            refine id (X_load (v := byteV x0) T5 rfl (hM.1.rd.cellB (by rw [show (((j : Nat) : Int).toNat * 1) = j by omega]; exact hx0)) ?_)
            exact ⟨hE, rfl⟩
          refine ⟨.det (fun val => (.int .u8 ((((x0 ^^^ 1).toNat : Nat) : Int)))), ⟨fun _ _ hv => rfl, fun _ _ _ _ _ => trivial⟩, fun val h_ W hx he => ⟨trivial, ?_⟩, ?_⟩
          · replace hx := (Upd.drew _ _).trans hx
            replace hb := hb.ext hx
            replace hT := hT.ext hx
            replace hRow := hRow.ext hx
            replace hM := hM.ext hx
            have hE := Upd.refl (fun _ => False) W
            refine id (X_arith (k := .u8) (a := ((x0.toNat : Nat) : Int)) (b := 1) (r := (((x0 ^^^ 1).toNat : Nat) : Int)) rfl rfl rfl (u8_xor x0 1) ?_)
            exact ⟨hE, rfl⟩
          intro val W8 hx8 he8
          replace hx8 := (Upd.drew _ _).trans hx8
          have hz8 := hx8.size
          replace hb := hb.ext hx8
          replace hT := hT.ext hx8
          replace hU := hU.trans (Ext.upd hx8)
          replace hRow := hRow.ext hx8
          replace hM := hM.ext hx8
          replace hRest := fun j e h1 h2 => (hRest j e h1 h2).ext hx8
          refine L_op rfl (X_idx (v := e.1) (n := m.length) (k := .i64) (i := ((j : Nat) : Int)) S22 rfl hM.1.sv rfl (by omega) (by omega) ?_)
          refine L_op0 (X_storeOwnC (i := ((j : Nat) : Int).toNat * 1) (u := byteV (x0 ^^^ 1)) T5 hM.1 (by show ((j : Nat) : Int).toNat * 1 < m.length * 1; omega) rfl rfl rfl ?_)
          intro w7 hO7 hu7
          have hz7 := hu7.size
          rw [show ((j : Nat) : Int).toNat * 1 = j by omega, set_map] at hO7
          replace hRow := hRow.upd hu7 fun b h1 h2 => absurd (hRow.types hM.1 h1 h2) (by decide)
          replace hRest : ∀ j e, i < j → es[j]? = some e → BOwn w7 5 n1 up e := fun j2 e2 h1 h2 => ⟨(hRest j2 e2 h1 h2).1.upd hu7 fun b hb hb2 => hdi.at hei h2 h1 b hb2 hb, (hRest j2 e2 h1 h2).2⟩
          replace hU := hU.trans (hu7.mono fun b _ h => by have := (hM.1.lt h).1; show n0 ≤ b; omega)
          have hM7 : BOwn w7 5 n1 up (e.1, m.set j (x0 ^^^ 1)) := ⟨hO7.eq (by rw [List.length_set]) rfl, hM.2⟩
          refine L_nil ?_
          refine B_n ?_
          refine T_n ?_
          refine W_reg ?_
          refine L_op rfl (X_move (v := (.int .i64 (((j : Nat) : Int)))) rfl ?_)
          refine L_op rfl (X_arith (k := .i64) (a := ((j : Nat) : Int)) (b := 1) (r := ((j + 1 : Nat) : Int)) rfl rfl rfl (iadd64 (by omega) (by omega) (by omega)) ?_)
          refine L_op rfl (X_assign (v := (.int .i64 (((j + 1 : Nat) : Int)))) rfl ?_)
          refine L_nil ?_
          refine T_n ?_
          exact ⟨rfl, j + 1, ⟨⟨m.set j (x0 ^^^ 1), by rw [List.length_set]; exact hjm, by rw [List.length_set]; exact hml, hM7, hRow, hRest, hU⟩, (by show e.2.length - (j + 1) < e.2.length - j; omega)⟩, (Out.mk rfl), ⟨rfl, trivial⟩⟩
        · refine L_op rfl (X_cmp (k := .i64) (a := ((j : Nat) : Int)) (b := ((m.length : Nat) : Int)) (r := false) rfl rfl rfl (decide_eq_false (p := ((((j : Nat) : Int)) : Int) < ((((m.length : Nat) : Int)) : Int)) (by omega)) ?_)
          refine L_nil ?_
          refine T_n ?_
          refine W_cf rfl ?_
          refine W_exit ?_
          refine T_e ?_
          refine T_e ?_
          refine B_x ?_
          refine B_n ?_
          refine T_n ?_
          refine W_reg ?_
          refine L_op rfl (X_move (v := (.int .i64 (((i : Nat) : Int)))) rfl ?_)
          refine L_op rfl (X_arith (k := .i64) (a := ((i : Nat) : Int)) (b := 1) (r := ((i + 1 : Nat) : Int)) rfl rfl rfl (iadd64 (by omega) (by omega) (by omega)) ?_)
          refine L_op rfl (X_assign (v := (.int .i64 (((i + 1 : Nat) : Int)))) rfl ?_)
          refine L_nil ?_
          refine T_n ?_
          exact ⟨rfl, i + 1, ⟨⟨hil2, hRow, fun j e h1 h2 => hRest j e h1 h2, hU⟩, (by show es.length - (i + 1) < es.length - i; omega)⟩, (Out.in_ rfl rfl (Out.mk rfl)), ⟨rfl, rfl, trivial⟩⟩
      · refine L_gy (dj := 34) rfl rfl rfl (X_cmp (k := .i64) (a := ((i + 1 : Nat) : Int)) (b := ((es.length : Nat) : Int)) (r := false) rfl rfl rfl (decide_eq_false (p := ((((i + 1 : Nat) : Int)) : Int) < ((((es.length : Nat) : Int)) : Int)) (by omega)) ?_)
        refine L_gy (dj := 34) rfl rfl rfl (X_move (v := (.bool (false))) rfl ?_)
        refine L_gn (dj := 40) (t := false) rfl rfl rfl rfl ?_
        refine L_gn (dj := 40) (t := false) rfl rfl rfl rfl ?_
        refine L_gn (dj := 40) (t := false) rfl rfl rfl rfl ?_
        refine L_gn (dj := 40) (t := false) rfl rfl rfl rfl ?_
        refine L_gn (dj := 40) (t := false) rfl rfl rfl rfl ?_
        refine L_gn (dj := 40) (t := false) rfl rfl rfl rfl ?_
        refine L_gy (dj := 34) rfl rfl rfl (X_pick (t := false) (v := (.bool (false))) rfl rfl ?_)
        refine L_op rfl (X_pick (t := false) (v := (.bool (false))) rfl rfl ?_)
        refine L_op rfl (X_move (v := (.bool (false))) rfl ?_)
        refine L_gy (dj := 49) rfl rfl rfl (X_move (v := v6) rfl ?_)
        refine L_gy (dj := 49) rfl rfl rfl (X_move (v := (.int .i64 (((i : Nat) : Int)))) rfl ?_)
        refine L_gy (dj := 49) rfl rfl rfl (X_idx (v := v6) (n := es.length) (k := .i64) (i := ((i : Nat) : Int)) S41 rfl hRow.sv rfl (by omega) (by omega) ?_)
        refine L_gy (dj := 49) rfl rfl rfl (X_load (v := e.1) T22 rfl (hRow.rd.cell (by rw [show (((i : Nat) : Int).toNat * 1) = i by omega, List.getElem?_map, hei]; rfl)) ?_)
        refine L_gy (dj := 49) rfl rfl rfl (X_len (v := e.1) (n := e.2.length) Tryd.underlying22 rfl hM.1.sv ?_)
        refine L_gy (dj := 49) rfl rfl rfl (X_cmp (k := .i64) (a := ((e.2.length : Nat) : Int)) (b := 200) (r := false) rfl rfl rfl (decide_eq_false (p := ((200) : Int) < ((((e.2.length : Nat) : Int)) : Int)) (by omega)) ?_)
        refine L_op rfl (X_pick (t := false) (v := (.bool (false))) rfl rfl ?_)
        refine L_nil ?_
        refine T_n ?_
        refine W_cf rfl ?_
        refine W_skip ?_
        refine T_n ?_
        refine W_seq ?_
        refine W_reg ?_
        refine L_op rfl (X_move (v := (strV (l.take (200 * i)))) rfl ?_)
        refine L_op rfl (X_move (v := v6) rfl ?_)
        refine L_op rfl (X_move (v := (.int .i64 (((i : Nat) : Int)))) rfl ?_)
        refine L_op rfl (X_idx (v := v6) (n := es.length) (k := .i64) (i := ((i : Nat) : Int)) S41 rfl hRow.sv rfl (by omega) (by omega) ?_)
        refine L_op rfl (X_load (v := e.1) T22 rfl (hRow.rd.cell (by rw [show (((i : Nat) : Int).toNat * 1) = i by omega, List.getElem?_map, hei]; rfl)) ?_)
        refine L_op rfl (X_str (v := e.1) (l := e.2) Tryd.underlying22 Tryd.underlying5 Tryd.underlying9 rfl hM.1.rd ?_)
        refine L_op rfl (X_sadd (a := l.take (200 * i)) (b := e.2) rfl rfl (by rw [List.length_take]; omega) ?_)
        rw [he2, pc_take l i]
        refine L_op rfl (X_assign (v := (strV (l.take (200 * (i + 1))))) rfl ?_)
        refine L_nil ?_
        refine T_n ?_
        refine W_seq ?_
        refine W_reg ?_
        refine L_op rfl (X_assign (v := (.int .i64 (0))) rfl ?_)
        refine L_nil ?_
        refine T_n ?_
        refine W_block ?_
        refine W_loop (α := Nat) [7, 64, 65, 66, 67, 68, 69, 70, 71, 72, 73, 74, 75, 76, 77, 78, 79, 80, 81, 82, 83, 84, 85, 86] (fun j => [(7, (.int .i64 (((j : Nat) : Int))))]) (fun j w_ => ∃ m : List UInt8, j ≤ m.length ∧ m.length = e.2.length ∧ BOwn w_ 5 n1 up (e.1, m) ∧ Own w_ n1 22 1 v6 es.length (es.map (·.1)) ∧ (∀ j e, i < j → es[j]? = some e → BOwn w_ 5 n1 up e) ∧ Upd (fun i => n0 ≤ i) w w_) (fun j => e.2.length - j) ⟨rfl, 0, ⟨e.2, Nat.zero_le _, rfl, hM, hRow, fun j e h1 h2 => hAll j e (Nat.le_of_lt h1) h2, hU⟩, Out.refl _ _, ⟨rfl, trivial⟩⟩ ?_
        rintro j w9 _ ⟨m, hjl, hml, hM, hRow, hRest, hU⟩
        have hb := hb0.old (by decide) (hn0 ▸ hU)
        have hT := hT0.upd hU fun i h1 h2 h => by have h : n0 ≤ i := h; have := tab_pos hT0; omega
        have hsz_ := hU.size
        refine W_seq ?_
        refine W_seq ?_
        refine W_reg ?_
        refine L_op rfl (X_move (v := (.int .i64 (((j : Nat) : Int)))) rfl ?_)
        refine L_op rfl (X_move (v := v6) rfl ?_)
        refine L_op rfl (X_move (v := (.int .i64 (((i : Nat) : Int)))) rfl ?_)
        refine L_op rfl (X_idx (v := v6) (n := es.length) (k := .i64) (i := ((i : Nat) : Int)) S41 rfl hRow.sv rfl (by omega) (by omega) ?_)
        refine L_op rfl (X_load (v := e.1) T22 rfl (hRow.rd.cell (by rw [show (((i : Nat) : Int).toNat * 1) = i by omega, List.getElem?_map, hei]; rfl)) ?_)
        refine L_op rfl (X_len (v := e.1) (n := m.length) Tryd.underlying22 rfl hM.1.sv ?_)
        by_cases hc10 : (((j : Nat) : Int) : Int) < (((m.length : Nat) : Int))
        · refine L_op rfl (X_cmp (k := .i64) (a := ((j : Nat) : Int)) (b := ((m.length : Nat) : Int)) (r := true) rfl rfl rfl (decide_eq_true (p := ((((j : Nat) : Int)) : Int) < ((((m.length : Nat) : Int)) : Int)) (by omega)) ?_)
          have hjm : j < m.length := by omega
          obtain ⟨x0, hx0⟩ : ∃ x, m[j]? = some x := ⟨_, List.getElem?_eq_getElem hjm⟩
          refine L_nil ?_
          refine T_n ?_
          refine W_ct rfl ?_
          refine W_skip ?_
          refine T_n ?_
          refine W_seq ?_
          refine W_block ?_
          refine W_draw 13 [[], [], [0, 1], [0, 1, 2], [], [], [], [5, 6], [5, 6, 7], [], [5, 6, 7, 8, 9], [5, 6, 7, 8, 9, 10], [5, 6, 7, 8, 9, 10, 11], [0, 1, 2, 3, 4, 5, 6, 7, 8, 9, 10, 11, 12], [0, 1, 2, 3, 4, 5, 6, 7, 8, 9, 10, 11, 12, 13]] mixed (by kernel_rfl) ?_
          refine ⟨.det (fun val => v6), ⟨fun _ _ hv => rfl, fun _ _ _ _ _ => trivial⟩, fun val h_ W hx he => ⟨trivial, ?_⟩, ?_⟩
          · replace hx := (Upd.drew _ _).trans hx
            replace hb := hb.ext hx
            replace hT := hT.ext hx
            replace hRow := hRow.ext hx
            replace hM := hM.ext hx
            have hE := Upd.refl (fun _ => False) W
            refine id (X_move (v := v6) rfl ?_)
            exact ⟨hE, rfl⟩
          refine ⟨.det (fun val => (.int .i64 (((i : Nat) : Int)))), ⟨fun _ _ hv => rfl, fun _ _ _ _ _ => trivial⟩, fun val h_ W hx he => ⟨trivial, ?_⟩, ?_⟩
          · replace hx := (Upd.drew _ _).trans hx
            replace hb := hb.ext hx
            replace hT := hT.ext hx
            replace hRow := hRow.ext hx
            replace hM := hM.ext hx
            have hE := Upd.refl (fun _ => False) W
            refine id (X_move (v := (.int .i64 (((i : Nat) : Int)))) rfl ?_)
            exact ⟨hE, rfl⟩
          refine ⟨.det (fun val => (pof v6 ((((i : Nat) : Int) : Int).toNat * 1))), ⟨fun _ _ hv => rfl, fun _ _ _ _ _ => trivial⟩, fun val h_ W hx he => ⟨trivial, ?_⟩, ?_⟩
          · replace hx := (Upd.drew _ _).trans hx
            replace hb := hb.ext hx
            replace hT := hT.ext hx
            replace hRow := hRow.ext hx
            replace hM := hM.ext hx
            have hE := Upd.refl (fun _ => False) W
            refine id (X_idx (v := v6) (n := es.length) (k := .i64) (i := ((i : Nat) : Int)) S41 rfl hRow.sv rfl (by omega) (by omega) ?_)
            exact ⟨hE, rfl⟩
          refine ⟨.det (fun val => e.1), ⟨fun _ _ hv => rfl, fun _ _ _ _ _ => trivial⟩, fun val h_ W hx he => ⟨trivial, ?_⟩, ?_⟩
          · replace hx := (Upd.drew _ _).trans hx
            replace hb := hb.ext hx
            replace hT := hT.ext hx
            replace hRow := hRow.ext hx
            replace hM := hM.ext hx
            have hE := Upd.refl (fun _ => False) W
            refine id (X_load (v := e.1) T22 rfl (hRow.rd.cell (by rw [show (((i : Nat) : Int).toNat * 1) = i by omega, List.getElem?_map, hei]; rfl)) ?_)
            exact ⟨hE, rfl⟩
          refine ⟨.det (fun val => (.int .i64 (((j : Nat) : Int)))), ⟨fun _ _ hv => rfl, fun _ _ _ _ _ => trivial⟩, fun val h_ W hx he => ⟨trivial, ?_⟩, ?_⟩
          · replace hx := (Upd.drew _ _).trans hx
            replace hb := hb.ext hx
            replace hT := hT.ext hx
            replace hRow := hRow.ext hx
            replace hM := hM.ext hx
            have hE := Upd.refl (fun _ => False) W
            refine id (X_move (v := (.int .i64 (((j : Nat) : Int)))) rfl ?_)
            exact ⟨hE, rfl⟩
          refine ⟨.det (fun val => v6), ⟨fun _ _ hv => rfl, fun _ _ _ _ _ => trivial⟩, fun val h_ W hx he => ⟨trivial, ?_⟩, ?_⟩
          · replace hx := (Upd.drew _ _).trans hx
            replace hb := hb.ext hx
            replace hT := hT.ext hx
            replace hRow := hRow.ext hx
            replace hM := hM.ext hx
            have hE := Upd.refl (fun _ => False) W
            refine id (X_move (v := v6) rfl ?_)
            exact ⟨hE, rfl⟩
          refine ⟨.det (fun val => (.int .i64 (((i : Nat) : Int)))), ⟨fun _ _ hv => rfl, fun _ _ _ _ _ => trivial⟩, fun val h_ W hx he => ⟨trivial, ?_⟩, ?_⟩
          · replace hx := (Upd.drew _ _).trans hx
            replace hb := hb.ext hx
            replace hT := hT.ext hx
            replace hRow := hRow.ext hx
            replace hM := hM.ext hx
            have hE := Upd.refl (fun _ => False) W
            refine id (X_move (v := (.int .i64 (((i : Nat) : Int)))) rfl ?_)
            exact ⟨hE, rfl⟩
          refine ⟨.det (fun val => (pof v6 ((((i : Nat) : Int) : Int).toNat * 1))), ⟨fun _ _ hv => rfl, fun _ _ _ _ _ => trivial⟩, fun val h_ W hx he => ⟨trivial, ?_⟩, ?_⟩
          · replace hx := (Upd.drew _ _).trans hx
            replace hb := hb.ext hx
            replace hT := hT.ext hx
            replace hRow := hRow.ext hx
            replace hM := hM.ext hx
            have hE := Upd.refl (fun _ => False) W
            refine id (X_idx (v := v6) (n := es.length) (k := .i64) (i := ((i : Nat) : Int)) S41 rfl hRow.sv rfl (by omega) (by omega) ?_)
            exact ⟨hE, rfl⟩
          refine ⟨.det (fun val => e.1), ⟨fun _ _ hv => rfl, fun _ _ _ _ _ => trivial⟩, fun val h_ W hx he => ⟨trivial, ?_⟩, ?_⟩
          · replace hx := (Upd.drew _ _).trans hx
            replace hb := hb.ext hx
            replace hT := hT.ext hx
            replace hRow := hRow.ext hx
            replace hM := hM.ext hx
            have hE := Upd.refl (fun _ => False) W
            refine id (X_load (v := e.1) T22 rfl (hRow.rd.cell (by rw [show (((i : Nat) : Int).toNat * 1) = i by omega, List.getElem?_map, hei]; rfl)) ?_)
            exact ⟨hE, rfl⟩
          refine ⟨.det (fun val => (.int .i64 (((j : Nat) : Int)))), ⟨fun _ _ hv => rfl, fun _ _ _ _ _ => trivial⟩, fun val h_ W hx he => ⟨trivial, ?_⟩, ?_⟩
          · replace hx := (Upd.drew _ _).trans hx
            replace hb := hb.ext hx
            replace hT := hT.ext hx
            replace hRow := hRow.ext hx
            replace hM := hM.ext hx
            have hE := Upd.refl (fun _ => False) W
            refine id (X_move (v := (.int .i64 (((j : Nat) : Int)))) rfl ?_)
            exact ⟨hE, rfl⟩
          refine ⟨.det (fun val => (pof e.1 ((((j : Nat) : Int) : Int).toNat * 1))), ⟨fun _ _ hv => rfl, fun _ _ _ _ _ => trivial⟩, fun val h_ W hx he => ⟨trivial, ?_⟩, ?_⟩
          · replace hx := (Upd.drew _ _).trans hx
            replace hb := hb.ext hx
            replace hT := hT.ext hx
            replace hRow := hRow.ext hx
            replace hM := hM.ext hx
            have hE := Upd.refl (fun _ => False) W
            refine id (X_idx (v := e.1) (n := m.length) (k := .i64) (i := ((j : Nat) : Int)) S22 rfl hM.1.sv rfl (by omega) (by omega) ?_)
            exact ⟨hE, rfl⟩
          refine ⟨.det (fun val => (byteV x0)), ⟨fun _ _ hv => rfl, fun _ _ _ _ _ => trivial⟩, fun val h_ W hx he => ⟨trivial, ?_⟩, ?_⟩
          · replace hx := (Upd.drew _ _).trans hx
            replace hb := hb.ext hx
            replace hT := hT.ext hx
            replace hRow := hRow.ext hx
            replace hM := hM.ext hx
            have hE := Upd.refl (fun _ => False) W
            refine id (X_load (v := byteV x0) T5 rfl (hM.1.rd.cellB (by rw [show (((j : Nat) : Int).toNat * 1) = j by omega]; exact hx0)) ?_)
            exact ⟨hE, rfl⟩
          refine ⟨.det (fun val => (.int .u8 ((((x0 ^^^ 1).toNat : Nat) : Int)))), ⟨fun _ _ hv => rfl, fun _ _ _ _ _ => trivial⟩, fun val h_ W hx he => ⟨trivial, ?_⟩, ?_⟩
          · replace hx := (Upd.drew _ _).trans hx
            replace hb := hb.ext hx
            replace hT := hT.ext hx
            replace hRow := hRow.ext hx
            replace hM := hM.ext hx
            have hE := Upd.refl (fun _ => False) W
            refine id (X_arith (k := .u8) (a := ((x0.toNat : Nat) : Int)) (b := 1) (r := (((x0 ^^^ 1).toNat : Nat) : Int)) rfl rfl rfl (u8_xor x0 1) ?_)
            exact ⟨hE, rfl⟩
          intro val W11 hx11 he11
          replace hx11 := (Upd.drew _ _).trans hx11
          have hz11 := hx11.size
          replace hb := hb.ext hx11
          replace hT := hT.ext hx11
          replace hU := hU.trans (Ext.upd hx11)
          replace hRow := hRow.ext hx11
          replace hM := hM.ext hx11
          replace hRest := fun j e h1 h2 => (hRest j e h1 h2).ext hx11
          refine L_op rfl (X_idx (v := e.1) (n := m.length) (k := .i64) (i := ((j : Nat) : Int)) S22 rfl hM.1.sv rfl (by omega) (by omega) ?_)
          refine L_op0 (X_storeOwnC (i := ((j : Nat) : Int).toNat * 1) (u := byteV (x0 ^^^ 1)) T5 hM.1 (by show ((j : Nat) : Int).toNat * 1 < m.length * 1; omega) rfl rfl rfl ?_)
          intro w7 hO7 hu7
          have hz7 := hu7.size
          rw [show ((j : Nat) : Int).toNat * 1 = j by omega, set_map] at hO7
          replace hRow := hRow.upd hu7 fun b h1 h2 => absurd (hRow.types hM.1 h1 h2) (by decide)
          replace hRest : ∀ j e, i < j → es[j]? = some e → BOwn w7 5 n1 up e := fun j2 e2 h1 h2 => ⟨(hRest j2 e2 h1 h2).1.upd hu7 fun b hb hb2 => hdi.at hei h2 h1 b hb2 hb, (hRest j2 e2 h1 h2).2⟩
          replace hU := hU.trans (hu7.mono fun b _ h => by have := (hM.1.lt h).1; show n0 ≤ b; omega)
          have hM7 : BOwn w7 5 n1 up (e.1, m.set j (x0 ^^^ 1)) := ⟨hO7.eq (by rw [List.length_set]) rfl, hM.2⟩
          refine L_nil ?_
          refine B_n ?_
          refine T_n ?_
          refine W_reg ?_
          refine L_op rfl (X_move (v := (.int .i64 (((j : Nat) : Int)))) rfl ?_)
          refine L_op rfl (X_arith (k := .i64) (a := ((j : Nat) : Int)) (b := 1) (r := ((j + 1 : Nat) : Int)) rfl rfl rfl (iadd64 (by omega) (by omega) (by omega)) ?_)
          refine L_op rfl (X_assign (v := (.int .i64 (((j + 1 : Nat) : Int)))) rfl ?_)
          refine L_nil ?_
          refine T_n ?_
          exact ⟨rfl, j + 1, ⟨⟨m.set j (x0 ^^^ 1), by rw [List.length_set]; exact hjm, by rw [List.length_set]; exact hml, hM7, hRow, hRest, hU⟩, (by show e.2.length - (j + 1) < e.2.length - j; omega)⟩, (Out.mk rfl), ⟨rfl, trivial⟩⟩
        · refine L_op rfl (X_cmp (k := .i64) (a := ((j : Nat) : Int)) (b := ((m.length : Nat) : Int)) (r := false) rfl rfl rfl (decide_eq_false (p := ((((j : Nat) : Int)) : Int) < ((((m.length : Nat) : Int)) : Int)) (by omega)) ?_)
          refine L_nil ?_
          refine T_n ?_
          refine W_cf rfl ?_
          refine W_exit ?_
          refine T_e ?_
          refine T_e ?_
          refine B_x ?_
          refine B_n ?_
          refine T_n ?_
          refine W_reg ?_
          refine L_op rfl (X_move (v := (.int .i64 (((i : Nat) : Int)))) rfl ?_)
          refine L_op rfl (X_arith (k := .i64) (a := ((i : Nat) : Int)) (b := 1) (r := ((i + 1 : Nat) : Int)) rfl rfl rfl (iadd64 (by omega) (by omega) (by omega)) ?_)
          refine L_op rfl (X_assign (v := (.int .i64 (((i + 1 : Nat) : Int)))) rfl ?_)
          refine L_nil ?_
          refine T_n ?_
          exact ⟨rfl, i + 1, ⟨⟨hil2, hRow, fun j e h1 h2 => hRest j e h1 h2, hU⟩, (by show es.length - (i + 1) < es.length - i; omega)⟩, (Out.in_ rfl rfl (Out.mk rfl)), ⟨rfl, rfl, trivial⟩⟩
    · refine L_op rfl (X_cmp (k := .i64) (a := ((i : Nat) : Int)) (b := ((es.length : Nat) : Int)) (r := false) rfl rfl rfl (decide_eq_false (p := ((((i : Nat) : Int)) : Int) < ((((es.length : Nat) : Int)) : Int)) (by omega)) ?_)
      have hta := pc_all (l := l) (n := i) (by omega)
      skip
      refine L_nil ?_
      refine T_n ?_
      refine W_cf rfl ?_
      refine W_exit ?_
      refine T_e ?_
      refine T_e ?_
      refine B_x ?_
      refine T_n ?_
      refine W_seq ?_
      refine W_reg ?_
      refine L_op rfl (X_move (v := (strV (l.take (200 * i)))) rfl ?_)
      refine L_op rfl (X_move (v := (strV (l))) rfl ?_)
      refine L_op rfl (X_scmp (a := l.take (200 * i)) (b := l) (r := true) rfl rfl rfl (by rw [hta]; simp [scmp]) ?_)
      refine L_op rfl (X_move (v := (.bool (true))) rfl ?_)
      refine L_gy (dj := 90) rfl rfl rfl (X_move (v := b) rfl ?_)
      refine L_gy (dj := 90) rfl rfl rfl (X_str (v := b) (l := l) Tryd.underlying22 Tryd.underlying5 Tryd.underlying9 rfl hb ?_)
      refine L_gy (dj := 90) rfl rfl rfl (X_move (v := (strV (l))) rfl ?_)
      refine L_gy (dj := 90) rfl rfl rfl (X_scmp (a := l) (b := l) (r := true) rfl rfl rfl (by simp [scmp]) ?_)
      refine L_op rfl (X_pick (t := true) (v := (.bool (true))) rfl rfl ?_)
      refine L_op rfl (X_move (v := (.bool (true))) rfl ?_)
      refine L_gy (dj := 96) rfl rfl rfl (X_fn (vs := [(.int .i64 (0))]) en13 rfl (CT.mono (c_many (0) _ (by decide)) ?_))
      rintro _ _ ⟨rfl, rfl⟩
      rw [show manyN (0) = 0 by decide]
      refine L_gy (dj := 96) rfl rfl rfl (X_cmp (k := .i64) (a := 0) (b := 0) (r := true) rfl rfl rfl rfl ?_)
      refine L_op rfl (X_pick (t := true) (v := (.bool (true))) rfl rfl ?_)
      refine L_op rfl (X_move (v := (.bool (true))) rfl ?_)
      refine L_gy (dj := 100) rfl rfl rfl (X_fn (vs := [(.int .i64 (-5))]) en13 rfl (CT.mono (c_many (-5) _ (by decide)) ?_))
      rintro _ _ ⟨rfl, rfl⟩
      rw [show manyN (-5) = 0 by decide]
      refine L_gy (dj := 100) rfl rfl rfl (X_cmp (k := .i64) (a := 0) (b := 0) (r := true) rfl rfl rfl rfl ?_)
      refine L_op rfl (X_pick (t := true) (v := (.bool (true))) rfl rfl ?_)
      refine L_op rfl (X_move (v := (.bool (true))) rfl ?_)
      refine L_gy (dj := 104) rfl rfl rfl (X_fn (vs := []) en7 rfl (CT.mono (c_wakes _ hT) ?_))
      rintro vb12 w12 ⟨hvb12, hu12⟩
      have hz12 := hu12.size
      replace hb := hb.ext hu12
      replace hT := hT.ext hu12
      replace hU := hU.trans (Ext.upd hu12)
      replace hRow := hRow.ext hu12
      subst hvb12
      refine L_op rfl (X_pick (t := true) (v := (.bool (true))) rfl rfl ?_)
      refine L_op rfl (X_assign (v := (.bool (true))) rfl ?_)
      refine L_nil ?_
      refine T_n ?_
      refine W_ret ?_
      exact BQ_r (End_1 Tryd.results6 (v := .bool true) rfl ⟨rfl, hU.own hn0⟩)
end Go.Proofs.YtmggaahkfidfaaaDoor
