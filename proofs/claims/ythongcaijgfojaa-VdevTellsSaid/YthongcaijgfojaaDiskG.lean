/-
  More contracts of chapter 03: new disks, what waits where nothing does. (Printed by wip/gen/t03g.py of this repo.)
-/
import Derived.Test.YthongcaijgfojaaDiskF
namespace Go.Proofs.Ythongcaijgfojaa
open Go Go.SL Go.Proofs
set_option linter.unusedVariables false

theorem built26p (a : Option Addr) (n c : Nat) : Try.prog.built 26 [(0, .slice a n c)] = some #[.slice a n c, .slice none 0 0, .slice none 0 0, .bool false] := by kernel_rfl
theorem built26z : Try.prog.built 26 [] = some #[.slice none 0 0, .slice none 0 0, .slice none 0 0, .bool false] := by kernel_rfl
theorem zv28_cells : zv28.cells = (LP.cel default).toArray := by
  show zc28.toArray = _
  rw [zc28_eq]; rfl

theorem c_new (n : Int) (w : World) : CT Try.prog 19 #[(.int .i64 (n))] w fun v w' => (n < 32 ∨ 256 < n → v = .tuple #[.agg #[.slice none 0 0, .slice none 0 0, .slice none 0 0, .bool false], .int .i64 2]) ∧ (32 ≤ n ∧ n ≤ 256 → ∃ p2, v = .tuple #[.agg #[p2, .slice none 0 0, .slice none 0 0, .bool false], .int .i64 0] ∧ NOwn LP w' 28 5 w.heap.size w'.heap.size p2 (List.replicate n.toNat (default : Pg))) ∧ Ext w w' := by
  obtain ⟨n0, hn0⟩ : ∃ n, n = w.heap.size := ⟨_, rfl⟩
  have hU : Upd (fun i => n0 ≤ i) w w := Upd.refl _ _
  refine CT_of Try.func19 rfl rfl rfl ?_
  refine W_seq ?_
  refine W_reg ?_
  refine L_op rfl (X_alloc (z := (.agg #[(.slice none 0 0), (.slice none 0 0), (.slice none 0 0), (.bool (false))])) (c := #[(.slice none 0 0), (.slice none 0 0), (.slice none 0 0), (.bool (false))]) Zv26 rfl ?_)
  intro b1 w1 hn1
  have hbn1 := hn1.num; have hbs1 := hn1.size
  replace hU := hU.trans (Ext.upd hn1.ext)
  have hB1 := hn1.blk
  refine L_op rfl (X_assign (v := (.int .i64 (0))) rfl ?_)
  refine L_nil ?_
  refine T_n ?_
  refine W_seq ?_
  refine W_seq ?_
  refine W_reg ?_
  refine L_op rfl (X_move (v := (.int .i64 (n))) rfl ?_)
  by_cases hc2 : (n : Int) < (32)
  · refine L_op rfl (X_cmp (k := .i64) (a := n) (b := 32) (r := true) rfl rfl rfl (decide_eq_true (p := ((n) : Int) < ((32) : Int)) (by omega)) ?_)
    refine L_op rfl (X_move (v := (.bool (true))) rfl ?_)
    refine L_gn (dj := 6) (t := true) rfl rfl rfl rfl ?_
    refine L_gn (dj := 6) (t := true) rfl rfl rfl rfl ?_
    refine L_op rfl (X_pick (t := true) (v := (.bool (true))) rfl rfl ?_)
    refine L_nil ?_
    refine T_n ?_
    refine W_ct rfl ?_
    refine W_seq ?_
    refine W_reg ?_
    refine L_op rfl (X_build built26z ?_)
    refine L_op0 (X_storeW (b := b1) (ys := [(.slice none 0 0), (.slice none 0 0), (.slice none 0 0), (.bool (false))]) A26 rfl rfl (List.forall_mem_cons.2 ⟨rfl, (List.forall_mem_cons.2 ⟨rfl, (List.forall_mem_cons.2 ⟨rfl, (List.forall_mem_cons.2 ⟨rfl, (fun _ h => by cases h)⟩)⟩)⟩)⟩) rfl hB1 rfl ?_)
    intro w3 hu3 hb3
    have hz3 := hu3.size
    replace hU := hU.trans (hu3.mono fun i _ h => by have h : i = b1 := h; show n0 ≤ i; omega)
    replace hB1 : Blk w3 b1 #[(.slice none 0 0), (.slice none 0 0), (.slice none 0 0), (.bool (false))] 26 := hb3
    refine L_op rfl (X_assign (v := (.int .i64 (2))) rfl ?_)
    refine L_nil ?_
    refine T_n ?_
    refine W_ret ?_
    refine T_r ?_
    exact BQ_r (End_2 Try.results19 (RV_A A26 rfl hB1.atAll rfl) (v2 := .int .i64 2) rfl ⟨fun _ => rfl, fun h => by omega, hU.own hn0⟩)
  · refine L_op rfl (X_cmp (k := .i64) (a := n) (b := 32) (r := false) rfl rfl rfl (decide_eq_false (p := ((n) : Int) < ((32) : Int)) (by omega)) ?_)
    refine L_op rfl (X_move (v := (.bool (false))) rfl ?_)
    refine L_gy (dj := 6) rfl rfl rfl (X_move (v := (.int .i64 (n))) rfl ?_)
    by_cases hc4 : (n : Int) > (256)
    · refine L_gy (dj := 6) rfl rfl rfl (X_cmp (k := .i64) (a := n) (b := 256) (r := true) rfl rfl rfl (decide_eq_true (p := ((256) : Int) < ((n) : Int)) (by omega)) ?_)
      refine L_op rfl (X_pick (t := false) (v := (.bool (true))) rfl rfl ?_)
      refine L_nil ?_
      refine T_n ?_
      refine W_ct rfl ?_
      refine W_seq ?_
      refine W_reg ?_
      refine L_op rfl (X_build built26z ?_)
      refine L_op0 (X_storeW (b := b1) (ys := [(.slice none 0 0), (.slice none 0 0), (.slice none 0 0), (.bool (false))]) A26 rfl rfl (List.forall_mem_cons.2 ⟨rfl, (List.forall_mem_cons.2 ⟨rfl, (List.forall_mem_cons.2 ⟨rfl, (List.forall_mem_cons.2 ⟨rfl, (fun _ h => by cases h)⟩)⟩)⟩)⟩) rfl hB1 rfl ?_)
      intro w5 hu5 hb5
      have hz5 := hu5.size
      replace hU := hU.trans (hu5.mono fun i _ h => by have h : i = b1 := h; show n0 ≤ i; omega)
      replace hB1 : Blk w5 b1 #[(.slice none 0 0), (.slice none 0 0), (.slice none 0 0), (.bool (false))] 26 := hb5
      refine L_op rfl (X_assign (v := (.int .i64 (2))) rfl ?_)
      refine L_nil ?_
      refine T_n ?_
      refine W_ret ?_
      refine T_r ?_
      exact BQ_r (End_2 Try.results19 (RV_A A26 rfl hB1.atAll rfl) (v2 := .int .i64 2) rfl ⟨fun _ => rfl, fun h => by omega, hU.own hn0⟩)
    · refine L_gy (dj := 6) rfl rfl rfl (X_cmp (k := .i64) (a := n) (b := 256) (r := false) rfl rfl rfl (decide_eq_false (p := ((256) : Int) < ((n) : Int)) (by omega)) ?_)
      refine L_op rfl (X_pick (t := false) (v := (.bool (false))) rfl rfl ?_)
      refine L_nil ?_
      refine T_n ?_
      refine W_cf rfl ?_
      refine W_skip ?_
      refine T_n ?_
      refine W_seq ?_
      refine W_reg ?_
      refine L_op rfl (X_move (v := (.int .i64 (n))) rfl ?_)
      obtain ⟨m, rfl⟩ : ∃ m : Nat, n = ((m : Nat) : Int) := ⟨n.toNat, by omega⟩
      refine L_op rfl (X_makeSliceL (n := m) LP default S22 zv28_cells rfl rfl (by omega) (by omega) (by decide) ?_)
      intro bm wm hnm
      have hbnm := hnm.num; have hbsm := hnm.size
      replace hU := hU.trans (Ext.upd hnm.ext)
      replace hB1 := hB1.ext hnm.ext
      have hBm := hnm.blk
      skip
      have hmM : ((List.replicate m (default : Pg)).flatMap LP.cel).length = m * 256 := by rw [flat_len, List.length_replicate]; rfl
      have hM : Own wm bm 28 256 (.slice (some ⟨bm, 0, none⟩) m m) m ((List.replicate m (default : Pg)).flatMap LP.cel) := ⟨hmM, _, _, rfl, Nat.le_refl _, by unfold maxLen; omega, .inr ⟨bm, _, rfl, Nat.le_refl _, hBm, by rw [List.size_toArray, hmM]; exact Nat.le_refl _, by rw [List.take_of_length_le (Nat.le_of_eq hmM)]⟩⟩
      have hN : NOwn LP wm 28 5 bm wm.heap.size (.slice (some ⟨bm, 0, none⟩) m m) (List.replicate m (default : Pg)) := NOwn.of (fun _ => rfl) (hM.eq (by rw [List.length_replicate]) rfl) (fun b hb => (hM.lt hb).2)
      obtain ⟨um, hum⟩ : ∃ n, n = wm.heap.size := ⟨_, rfl⟩
      rw [← hum] at hN
      refine L_op rfl (X_build (built26p _ _ _) ?_)
      refine L_op0 (X_storeW (b := b1) (ys := [(.slice (some ⟨bm, 0, none⟩) m m), (.slice none 0 0), (.slice none 0 0), (.bool (false))]) A26 rfl rfl (List.forall_mem_cons.2 ⟨rfl, (List.forall_mem_cons.2 ⟨rfl, (List.forall_mem_cons.2 ⟨rfl, (List.forall_mem_cons.2 ⟨rfl, (fun _ h => by cases h)⟩)⟩)⟩)⟩) rfl hB1 rfl ?_)
      intro w6 hu6 hb6
      have hz6 := hu6.size
      replace hU := hU.trans (hu6.mono fun i _ h => by have h : i = b1 := h; show n0 ≤ i; omega)
      replace hN := hN.upd hu6 fun i h1 h2 h => by have h : i = b1 := h; omega
      replace hB1 : Blk w6 b1 #[(.slice (some ⟨bm, 0, none⟩) m m), (.slice none 0 0), (.slice none 0 0), (.bool (false))] 26 := hb6
      refine L_op rfl (X_assign (v := (.int .i64 (0))) rfl ?_)
      refine L_nil ?_
      refine T_n ?_
      refine W_ret ?_
      exact BQ_r (End_2 Try.results19 (RV_A A26 rfl hB1.atAll rfl) (v2 := .int .i64 0) rfl ⟨fun h => by omega, fun _ => ⟨_, rfl, hN.mono (by omega) (by omega)⟩, hU.own hn0⟩)

set_option maxRecDepth 20000 in
theorem c_len0 (w : World) : CT Try.prog 59 #[(.int .u64 (0))] w fun v w' => v = .int .i64 0 ∧ w = w' := by
  refine CT_of Try.func59 rfl rfl rfl ?_
  refine W_seq ?_
  refine W_reg ?_
  refine L_op rfl (X_assign (v := (.int .i64 (0))) rfl ?_)
  refine L_nil ?_
  refine T_n ?_
  refine W_seq ?_
  refine W_seq ?_
  refine W_reg ?_
  refine L_op rfl (X_move (v := (.int .u64 (0))) rfl ?_)
  refine L_op rfl (X_cmp (k := .u64) (a := 0) (b := 4294967296) (r := false) rfl rfl rfl rfl ?_)
  refine L_nil ?_
  refine T_n ?_
  refine W_cf rfl ?_
  refine W_skip ?_
  refine T_n ?_
  refine W_seq ?_
  refine W_seq ?_
  refine W_reg ?_
  refine L_op rfl (X_move (v := (.int .u64 (0))) rfl ?_)
  refine L_op rfl (X_cmp (k := .u64) (a := 0) (b := 65536) (r := false) rfl rfl rfl rfl ?_)
  refine L_nil ?_
  refine T_n ?_
  refine W_cf rfl ?_
  refine W_skip ?_
  refine T_n ?_
  refine W_seq ?_
  refine W_seq ?_
  refine W_reg ?_
  refine L_op rfl (X_move (v := (.int .u64 (0))) rfl ?_)
  refine L_op rfl (X_cmp (k := .u64) (a := 0) (b := 256) (r := false) rfl rfl rfl rfl ?_)
  refine L_nil ?_
  refine T_n ?_
  refine W_cf rfl ?_
  refine W_skip ?_
  refine T_n ?_
  refine W_seq ?_
  refine W_reg ?_
  refine L_op rfl (X_move (v := (.int .i64 (0))) rfl ?_)
  refine L_op rfl (X_move (v := (.int .u64 (0))) rfl ?_)
  refine L_op rfl (X_convInt (k := .u64) (a := 0) (r := 0) (by rw [Try.underlying86]; rfl) Try.underlying5 rfl rfl ?_)
  refine L_op rfl (X_strAt (i := 0) (b := 0) rfl rfl rfl ?_ Try.underlying9)
  refine L_op rfl (X_convInt (k := .u8) (a := 0) (r := 0) (by rw [Try.underlying5]; rfl) Try.underlying3 rfl rfl ?_)
  refine L_op rfl (X_arith (k := .i64) (a := 0) (b := 0) (r := 0) rfl rfl rfl rfl ?_)
  refine L_op rfl (X_assign (v := (.int .i64 (0))) rfl ?_)
  refine L_nil ?_
  refine T_n ?_
  refine W_ret ?_
  exact BQ_r (End_1 Try.results59 (v := .int .i64 0) rfl ⟨rfl, rfl⟩)

theorem c_blen0 (w : World) : CT Try.prog 47 #[(.int .u64 (0))] w fun v w' => v = .int .i64 0 ∧ w = w' := by
  refine CT_of Try.func47 rfl rfl rfl ?_
  refine W_seq ?_
  refine W_reg ?_
  refine L_op rfl (X_assign (v := (.int .i64 (0))) rfl ?_)
  refine L_nil ?_
  refine T_n ?_
  refine W_seq ?_
  refine W_cf rfl ?_
  refine W_skip ?_
  refine T_n ?_
  refine W_seq ?_
  refine W_reg ?_
  refine L_op rfl (X_move (v := (.int .u64 (0))) rfl ?_)
  refine L_op rfl (X_fn (vs := [(.int .u64 (0))]) en59 rfl (CT.mono (c_len0 _) ?_))
  rintro _ _ ⟨rfl, rfl⟩
  refine L_op rfl (X_assign (v := (.int .i64 (0))) rfl ?_)
  refine L_nil ?_
  refine T_n ?_
  refine W_ret ?_
  exact BQ_r (End_1 Try.results47 (v := .int .i64 0) rfl ⟨rfl, rfl⟩)

theorem c_ins0 (s : Value) (w : World) : CT Try.prog 49 #[s, (.int .i64 (0)), (.int .i64 (0))] w fun v w' => v = .tuple #[] ∧ w = w' := by
  refine CT_of Try.func49 rfl rfl rfl ?_
  refine W_seq ?_
  refine W_reg ?_
  refine L_op rfl (X_move (v := (.int .i64 (0))) rfl ?_)
  refine L_op rfl (X_arith (k := .i64) (a := 0) (b := 1) (r := 1) rfl rfl rfl rfl ?_)
  refine L_op rfl (X_assign (v := (.int .i64 (1))) rfl ?_)
  refine L_nil ?_
  refine T_n ?_
  refine W_block ?_
  refine W_loop (α := Unit) [6, 7, 10, 11, 12, 13, 14, 15, 16, 17, 18, 19, 20, 21, 22, 23, 24, 25, 26, 27, 28, 29, 30, 31, 32, 33, 34, 35, 36, 37, 38, 39, 40, 41, 42, 43, 44, 45, 46, 47, 48] (fun _u => [(6, (.int .i64 (1)))]) (fun _u w_ => w = w_) (fun _u => 0) ⟨rfl, (), rfl, Out.refl _ _, ⟨rfl, trivial⟩⟩ ?_
  rintro _u w1 _ rfl
  refine W_seq ?_
  refine W_seq ?_
  refine W_reg ?_
  refine L_op rfl (X_move (v := (.int .i64 (1))) rfl ?_)
  refine L_op rfl (X_move (v := (.int .i64 (0))) rfl ?_)
  refine L_op rfl (X_cmp (k := .i64) (a := 1) (b := 0) (r := false) rfl rfl rfl rfl ?_)
  refine L_nil ?_
  refine T_n ?_
  refine W_cf rfl ?_
  refine W_exit ?_
  refine T_e ?_
  refine T_e ?_
  refine B_x ?_
  exact BQ_n (End_0 Try.results49 ⟨rfl, rfl⟩)

theorem c_pdq0 (s : Value) (w : World) : CT Try.prog 46 #[s, (.int .i64 (0)), (.int .i64 (0)), (.int .i64 (0))] w fun v w' => v = .tuple #[] ∧ w = w' := by
  refine CT_of Try.func46 rfl rfl rfl ?_
  refine W_seq ?_
  refine W_reg ?_
  refine L_op rfl (X_assign (v := (.bool (true))) rfl ?_)
  refine L_nil ?_
  refine T_n ?_
  refine W_seq ?_
  refine W_reg ?_
  refine L_op rfl (X_assign (v := (.bool (true))) rfl ?_)
  refine L_nil ?_
  refine T_n ?_
  refine W_block ?_
  refine W_loop (α := Unit) [1, 2, 3, 8, 9, 10, 11, 12, 13, 14, 15, 16, 17, 18, 19, 20, 21, 22, 23, 24, 25, 26, 27, 28, 29, 30, 31, 32, 33, 34, 35, 36, 37, 38, 39, 40, 41, 42, 43, 44, 45, 46, 47, 48, 49, 50, 51, 52, 53, 54, 55, 56, 57, 58, 59, 60, 61, 62, 63, 64, 65, 66, 67, 68, 69, 70, 71, 72, 73, 74, 75, 76, 77, 78, 79, 80, 81, 82, 83, 84, 85, 86, 87, 88, 89, 90, 91, 92, 93, 94, 95, 96, 97, 98, 99, 100, 101, 102, 103, 104, 105, 106, 107, 108, 109, 110, 111, 112, 113, 114, 115, 116, 117, 118, 119, 120, 121, 122, 123, 124, 125, 126, 127, 128, 129, 130, 131, 132, 133] (fun _u => [(1, (.int .i64 (0))), (2, (.int .i64 (0))), (3, (.int .i64 (0)))]) (fun _u w_ => w = w_) (fun _u => 0) ⟨rfl, (), rfl, Out.refl _ _, ⟨rfl, rfl, rfl, trivial⟩⟩ ?_
  rintro _u w1 _ rfl
  refine W_block ?_
  refine W_seq ?_
  refine W_reg ?_
  refine L_op rfl (X_move (v := (.int .i64 (0))) rfl ?_)
  refine L_op rfl (X_move (v := (.int .i64 (0))) rfl ?_)
  refine L_op rfl (X_arith (k := .i64) (a := 0) (b := 0) (r := 0) rfl rfl rfl rfl ?_)
  refine L_op rfl (X_assign (v := (.int .i64 (0))) rfl ?_)
  refine L_nil ?_
  refine T_n ?_
  refine W_seq ?_
  refine W_seq ?_
  refine W_reg ?_
  refine L_op rfl (X_move (v := (.int .i64 (0))) rfl ?_)
  refine L_op rfl (X_cmp (k := .i64) (a := 0) (b := 12) (r := true) rfl rfl rfl rfl ?_)
  refine L_nil ?_
  refine T_n ?_
  refine W_ct rfl ?_
  refine W_seq ?_
  refine W_reg ?_
  refine L_op rfl (X_move (v := s) rfl ?_)
  refine L_op rfl (X_move (v := (.int .i64 (0))) rfl ?_)
  refine L_op rfl (X_move (v := (.int .i64 (0))) rfl ?_)
  refine L_op rfl (X_fn (vs := [s, (.int .i64 (0)), (.int .i64 (0))]) en49 rfl (CT.mono (c_ins0 s _) ?_))
  rintro _ _ ⟨rfl, rfl⟩
  refine L_nil ?_
  refine T_n ?_
  refine W_ret ?_
  refine T_r ?_
  refine B_r ?_
  refine T_r ?_
  refine B_r ?_
  exact BQ_r (End_0 Try.results46 ⟨rfl, rfl⟩)

theorem c_sort0 (s : Value) (w : World) (hs : SV s 0) : CT Try.prog 33 #[s] w fun v w' => v = .tuple #[] ∧ w = w' := by
  refine CT_of Try.func33 rfl rfl rfl ?_
  refine W_seq ?_
  refine W_reg ?_
  refine L_op rfl (X_move (v := s) rfl ?_)
  refine L_op rfl (X_len (v := s) (n := 0) Try.underlying24 rfl hs ?_)
  refine L_op rfl (X_assign (v := (.int .i64 (0))) rfl ?_)
  refine L_nil ?_
  refine T_n ?_
  refine W_reg ?_
  refine L_op rfl (X_move (v := s) rfl ?_)
  refine L_op rfl (X_move (v := (.int .i64 (0))) rfl ?_)
  refine L_op rfl (X_move (v := (.int .i64 (0))) rfl ?_)
  refine L_op rfl (X_convInt (k := .i64) (a := 0) (r := 0) (by rw [Try.underlying3]; rfl) Try.underlying72 rfl rfl ?_)
  refine L_op rfl (X_fn (vs := [(.int .u64 (0))]) en47 rfl (CT.mono (c_blen0 _) ?_))
  rintro _ _ ⟨rfl, rfl⟩
  refine L_op rfl (X_fn (vs := [s, (.int .i64 (0)), (.int .i64 (0)), (.int .i64 (0))]) en46 rfl (CT.mono (c_pdq0 s _) ?_))
  rintro _ _ ⟨rfl, rfl⟩
  refine L_nil ?_
  exact BQ_n (End_0 Try.results33 ⟨rfl, rfl⟩)

theorem c_compact0 (s : Value) (w : World) (hs : SV s 0) : CT Try.prog 34 #[s] w fun v w' => v = s ∧ w = w' := by
  refine CT_of Try.func34 rfl rfl rfl ?_
  refine W_seq ?_
  refine W_reg ?_
  refine L_op rfl (X_assign (v := (.slice none 0 0)) rfl ?_)
  refine L_nil ?_
  refine T_n ?_
  refine W_seq ?_
  refine W_seq ?_
  refine W_reg ?_
  refine L_op rfl (X_move (v := s) rfl ?_)
  refine L_op rfl (X_len (v := s) (n := 0) Try.underlying24 rfl hs ?_)
  refine L_op rfl (X_cmp (k := .i64) (a := 0) (b := 2) (r := true) rfl rfl rfl rfl ?_)
  refine L_nil ?_
  refine T_n ?_
  refine W_ct rfl ?_
  refine W_seq ?_
  refine W_reg ?_
  refine L_op rfl (X_move (v := s) rfl ?_)
  refine L_op rfl (X_assign (v := s) rfl ?_)
  refine L_nil ?_
  refine T_n ?_
  refine W_ret ?_
  refine T_r ?_
  exact BQ_r (End_1 Try.results34 (v := s) rfl ⟨rfl, rfl⟩)

theorem c_waits0 (pv cv bv : Value) (off : Bool) (w : World) (hc : SV cv 0) : CT Try.prog 14 #[(.agg #[pv, cv, bv, (.bool (off))])] w fun v w' => v = .slice none 0 0 ∧ Ext w w' := by
  obtain ⟨n0, hn0⟩ : ∃ n, n = w.heap.size := ⟨_, rfl⟩
  have hU : Upd (fun i => n0 ≤ i) w w := Upd.refl _ _
  refine CT_of Try.func14 rfl rfl rfl ?_
  refine W_seq ?_
  refine W_reg ?_
  refine L_op rfl (X_box (v := (.agg #[pv, cv, bv, (.bool (off))])) (c := ([pv, cv, bv, (.bool (off))]).toArray) rfl rfl ?_)
  intro b1 w1 hn1
  have hbn1 := hn1.num; have hbs1 := hn1.size
  replace hU := hU.trans (Ext.upd hn1.ext)
  have hB1 := hn1.blk
  refine L_op rfl (X_assign (v := (.slice none 0 0)) rfl ?_)
  refine L_nil ?_
  refine T_n ?_
  refine W_seq ?_
  refine W_seq ?_
  refine W_reg ?_
  refine L_op rfl (X_fldP (b := b1) (o := 0) (r := 1) Fd26_1 rfl rfl ?_)
  refine L_op rfl (X_load (p := (ptr b1 (1))) (v := cv) T23 rfl (hB1.at1 rfl) ?_)
  refine L_op rfl (X_len (v := cv) (n := 0) Try.underlying23 rfl hc ?_)
  refine L_op rfl (X_move (v := (.int .i64 (0))) rfl ?_)
  refine L_nil ?_
  refine T_n ?_
  refine W_block ?_
  refine W_loop (α := Unit) [2, 4, 8, 9, 10, 11, 12, 13, 14, 15, 16, 17] (fun _u => [(8, (.int .i64 (0))), (2, (.slice none 0 0))]) (fun _u w_ => Upd (fun i => n0 ≤ i) w w_) (fun _u => 0) ⟨rfl, (), hU, Out.refl _ _, ⟨rfl, rfl, trivial⟩⟩ ?_
  rintro _u w2 _ hU
  refine W_seq ?_
  refine W_reg ?_
  refine L_op rfl (X_cmp (k := .i64) (a := 0) (b := 0) (r := false) rfl rfl rfl rfl ?_)
  refine L_nil ?_
  refine T_n ?_
  refine W_seq ?_
  refine W_cf rfl ?_
  refine W_exit ?_
  refine T_e ?_
  refine T_e ?_
  refine B_x ?_
  refine T_n ?_
  refine W_seq ?_
  refine W_reg ?_
  refine L_op rfl (X_move (v := (.slice none 0 0)) rfl ?_)
  refine L_op rfl (X_fn (vs := [(.slice none 0 0)]) en33 rfl (CT.mono (c_sort0 _ _ (Own.nil w 0 5 1).sv) ?_))
  rintro _ _ ⟨rfl, rfl⟩
  refine L_nil ?_
  refine T_n ?_
  refine W_seq ?_
  refine W_reg ?_
  refine L_op rfl (X_move (v := (.slice none 0 0)) rfl ?_)
  refine L_op rfl (X_fn (vs := [(.slice none 0 0)]) en34 rfl (CT.mono (c_compact0 _ _ (Own.nil w 0 5 1).sv) ?_))
  rintro _ _ ⟨rfl, rfl⟩
  refine L_op rfl (X_assign (v := (.slice none 0 0)) rfl ?_)
  refine L_nil ?_
  refine T_n ?_
  refine W_ret ?_
  exact BQ_r (End_1 Try.results14 (v := .slice none 0 0) rfl ⟨rfl, hU.own hn0⟩)
end Go.Proofs.Ythongcaijgfojaa
