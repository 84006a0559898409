/-
  The references of chapter 05, in chapter 06: pointers put and taken. (Printed by wip/gen/t06r.py of this repo.)
-/
import Derived.Test.YtmddmghgkkjbiaaDoorRefs
namespace Go.Proofs.YtmddmghgkkjbiaaDoor
open Go Go.SL Go.Proofs
set_option linter.unusedVariables false

theorem c_ptrPutR (b : Value) (l : List UInt8) (q : Pt) (w : World) (hq : PtOk q) (hl : l.length ≤ 140737488355000) (hb : Rd w 1 b l.length (l.map byteV)) : CT Tryd.prog 34 #[b, (.agg (ptC q).toArray)] w fun v w' => Own w' w.heap.size 5 1 v (l ++ ptrB q).length ((l ++ ptrB q).map byteV) ∧ Ext w w' := by
  obtain ⟨n0, hn0⟩ : ∃ n, n = w.heap.size := ⟨_, rfl⟩
  have hU : Upd (fun i => n0 ≤ i) w w := Upd.refl _ _
  have hb_b : ∀ i, rbk b = some i → i < n0 := by rw [hn0]; exact fun i hi => hb.bound (by decide) hi
  obtain ⟨hq1, hq2, hq3, hq4, hq5⟩ := id hq
  refine CT_of Tryd.func34 rfl rfl rfl ?_
  refine W_seq ?_
  refine W_reg ?_
  refine L_op rfl (X_box (v := .agg (ptC q).toArray) (c := (ptC q).toArray) rfl rfl ?_)
  intro bq wq hnq
  have hbnq := hnq.num; have hbsq := hnq.size
  replace hb := hb.ext hnq.ext
  replace hU := hU.trans (Ext.upd hnq.ext)
  have hBq := hnq.blk
  refine L_op rfl (X_assign (v := (.slice none 0 0)) rfl ?_)
  refine L_nil ?_
  refine T_n ?_
  refine W_seq ?_
  refine W_reg ?_
  refine L_op rfl (X_move (v := b) rfl ?_)
  refine L_op rfl (X_fldP (b := bq) (o := 0) (r := 0) Fd41_0 rfl rfl ?_)
  refine L_op rfl (X_load (p := (ptr bq (0))) (v := (.int .u8 (q.1))) T5 rfl (hBq.at1 rfl) ?_)
  refine L_op rfl (X_convInt (k := .u8) (a := q.1) (r := ((q.1.toNat : Nat) : Int)) (by rw [Tryd.underlying5]; rfl) Tryd.underlying39 rfl (by rw [Int.toNat_of_nonneg hq1.1]; exact Go.SL.u64_wrap hq1.1 (by omega)) ?_)
  obtain ⟨sp1, hsp1⟩ : ∃ n, n = wq.heap.size := ⟨_, rfl⟩
  have hb0 : Rd wq 1 b (l ++ ptrP q 0).length ((l ++ ptrP q 0).map byteV) := hb.eq (by rw [show ptrP q 0 = [] from rfl, List.append_nil]) (by rw [show ptrP q 0 = [] from rfl, List.append_nil])
  have hpl0 := ptrP_le q 0 (by decide)
  refine L_op rfl (X_fn (vs := [b, (.int .u64 (((q.1.toNat : Nat) : Int))), (.int .i64 (1))]) en33 rfl (CT.mono (c_putR b (l ++ ptrP q 0) q.1.toNat 1 _ (by rw [List.length_append]; omega) hb0) ?_))
  rintro v1 wp1 ⟨hP1, hup1⟩
  have hzp1 := hup1.size
  rw [List.append_assoc, ← ptrP_step (q := q) (i := 0) (by rw [Int.toNat_of_nonneg hq1.1]; rfl) rfl, ← hsp1] at hP1
  replace hb := hb.ext hup1
  replace hU := hU.trans (Ext.upd hup1)
  replace hBq := hBq.ext hup1
  refine L_op rfl (X_assign (v := v1) rfl ?_)
  refine L_nil ?_
  refine T_n ?_
  refine W_seq ?_
  refine W_reg ?_
  refine L_op rfl (X_move (v := v1) rfl ?_)
  refine L_op rfl (X_fldP (b := bq) (o := 0) (r := 1) Fd41_1 rfl rfl ?_)
  refine L_op rfl (X_idxAP (len := 2) (sz := 1) (b := bq) (o := 1) (k := .i64) (i := 0) (r := 1) Tryd.underlying37 Z36 rfl rfl (by omega) (by omega) rfl ?_)
  refine L_op rfl (X_load (p := (ptr bq (1))) (v := (.int .u16 (q.2.1))) T36 rfl (hBq.at1 rfl) ?_)
  refine L_op rfl (X_convInt (k := .u16) (a := q.2.1) (r := ((q.2.1.toNat : Nat) : Int)) (by rw [Tryd.underlying36]; rfl) Tryd.underlying39 rfl (by rw [Int.toNat_of_nonneg hq2.1]; exact Go.SL.u64_wrap hq2.1 (by omega)) ?_)
  obtain ⟨sp2, hsp2⟩ : ∃ n, n = wp1.heap.size := ⟨_, rfl⟩
  have hpl1 := ptrP_le q 1 (by decide)
  refine L_op rfl (X_fn (vs := [v1, (.int .u64 (((q.2.1.toNat : Nat) : Int))), (.int .i64 (2))]) en33 rfl (CT.mono (c_putR v1 (l ++ ptrP q 1) q.2.1.toNat 2 _ (by rw [List.length_append]; omega) hP1.rd) ?_))
  rintro v2 wp2 ⟨hP2, hup2⟩
  have hzp2 := hup2.size
  rw [List.append_assoc, ← ptrP_step (q := q) (i := 1) (by rw [Int.toNat_of_nonneg hq2.1]; rfl) rfl, ← hsp2] at hP2
  replace hb := hb.ext hup2
  replace hU := hU.trans (Ext.upd hup2)
  replace hBq := hBq.ext hup2
  replace hP1 := hP1.ext hup2
  refine L_op rfl (X_assign (v := v2) rfl ?_)
  refine L_nil ?_
  refine T_n ?_
  refine W_seq ?_
  refine W_reg ?_
  refine L_op rfl (X_move (v := v2) rfl ?_)
  refine L_op rfl (X_fldP (b := bq) (o := 0) (r := 1) Fd41_1 rfl rfl ?_)
  refine L_op rfl (X_idxAP (len := 2) (sz := 1) (b := bq) (o := 1) (k := .i64) (i := 1) (r := 2) Tryd.underlying37 Z36 rfl rfl (by omega) (by omega) rfl ?_)
  refine L_op rfl (X_load (p := (ptr bq (2))) (v := (.int .u16 (q.2.2.1))) T36 rfl (hBq.at1 rfl) ?_)
  refine L_op rfl (X_convInt (k := .u16) (a := q.2.2.1) (r := ((q.2.2.1.toNat : Nat) : Int)) (by rw [Tryd.underlying36]; rfl) Tryd.underlying39 rfl (by rw [Int.toNat_of_nonneg hq3.1]; exact Go.SL.u64_wrap hq3.1 (by omega)) ?_)
  obtain ⟨sp3, hsp3⟩ : ∃ n, n = wp2.heap.size := ⟨_, rfl⟩
  have hpl2 := ptrP_le q 2 (by decide)
  refine L_op rfl (X_fn (vs := [v2, (.int .u64 (((q.2.2.1.toNat : Nat) : Int))), (.int .i64 (2))]) en33 rfl (CT.mono (c_putR v2 (l ++ ptrP q 2) q.2.2.1.toNat 2 _ (by rw [List.length_append]; omega) hP2.rd) ?_))
  rintro v3 wp3 ⟨hP3, hup3⟩
  have hzp3 := hup3.size
  rw [List.append_assoc, ← ptrP_step (q := q) (i := 2) (by rw [Int.toNat_of_nonneg hq3.1]; rfl) rfl, ← hsp3] at hP3
  replace hb := hb.ext hup3
  replace hU := hU.trans (Ext.upd hup3)
  replace hBq := hBq.ext hup3
  replace hP2 := hP2.ext hup3
  refine L_op rfl (X_assign (v := v3) rfl ?_)
  refine L_nil ?_
  refine T_n ?_
  refine W_seq ?_
  refine W_reg ?_
  refine L_op rfl (X_move (v := v3) rfl ?_)
  refine L_op rfl (X_fldP (b := bq) (o := 0) (r := 3) Fd41_2 rfl rfl ?_)
  refine L_op rfl (X_load (p := (ptr bq (3))) (v := (.int .u32 (q.2.2.2.1))) T38 rfl (hBq.at1 rfl) ?_)
  refine L_op rfl (X_convInt (k := .u32) (a := q.2.2.2.1) (r := ((q.2.2.2.1.toNat : Nat) : Int)) (by rw [Tryd.underlying38]; rfl) Tryd.underlying39 rfl (by rw [Int.toNat_of_nonneg hq4.1]; exact Go.SL.u64_wrap hq4.1 (by omega)) ?_)
  obtain ⟨sp4, hsp4⟩ : ∃ n, n = wp3.heap.size := ⟨_, rfl⟩
  have hpl3 := ptrP_le q 3 (by decide)
  refine L_op rfl (X_fn (vs := [v3, (.int .u64 (((q.2.2.2.1.toNat : Nat) : Int))), (.int .i64 (4))]) en33 rfl (CT.mono (c_putR v3 (l ++ ptrP q 3) q.2.2.2.1.toNat 4 _ (by rw [List.length_append]; omega) hP3.rd) ?_))
  rintro v4 wp4 ⟨hP4, hup4⟩
  have hzp4 := hup4.size
  rw [List.append_assoc, ← ptrP_step (q := q) (i := 3) (by rw [Int.toNat_of_nonneg hq4.1]; rfl) rfl, ← hsp4] at hP4
  replace hb := hb.ext hup4
  replace hU := hU.trans (Ext.upd hup4)
  replace hBq := hBq.ext hup4
  replace hP3 := hP3.ext hup4
  refine L_op rfl (X_assign (v := v4) rfl ?_)
  refine L_nil ?_
  refine T_n ?_
  refine W_seq ?_
  refine W_reg ?_
  refine L_op rfl (X_move (v := v4) rfl ?_)
  refine L_op rfl (X_fldP (b := bq) (o := 0) (r := 4) Fd41_3 rfl rfl ?_)
  refine L_op rfl (X_load (p := (ptr bq (4))) (v := .int .u64 ((q.2.2.2.2.toNat : Nat) : Int)) T39 rfl (hBq.at1 (by rw [Int.toNat_of_nonneg hq5.1]; rfl)) ?_)
  obtain ⟨sp5, hsp5⟩ : ∃ n, n = wp4.heap.size := ⟨_, rfl⟩
  have hpl4 := ptrP_le q 4 (by decide)
  refine L_op rfl (X_fn (vs := [v4, (.int .u64 (((q.2.2.2.2.toNat : Nat) : Int))), (.int .i64 (8))]) en33 rfl (CT.mono (c_putR v4 (l ++ ptrP q 4) q.2.2.2.2.toNat 8 _ (by rw [List.length_append]; omega) hP4.rd) ?_))
  rintro v5 wp5 ⟨hP5, hup5⟩
  have hzp5 := hup5.size
  rw [List.append_assoc, ← ptrP_step (q := q) (i := 4) (by rw [Int.toNat_of_nonneg hq5.1]; rfl) rfl, ← hsp5] at hP5
  replace hb := hb.ext hup5
  replace hU := hU.trans (Ext.upd hup5)
  replace hBq := hBq.ext hup5
  replace hP4 := hP4.ext hup5
  refine L_op rfl (X_assign (v := v5) rfl ?_)
  refine L_nil ?_
  refine T_n ?_
  refine W_ret ?_
  exact BQ_r (End_1 Tryd.results34 (v := v5) rfl ⟨hP5.more (by omega), hU.own hn0⟩)

theorem built70 : Tryd.prog.built 70 [(0, .int .i64 1), (1, .int .i64 2), (2, .int .i64 2), (3, .int .i64 4), (4, .int .i64 8)] = some (wid.map fun n => Value.int .i64 n).toArray := by kernel_rfl
theorem wid_one : ∀ u ∈ (wid.map fun n => Value.int .i64 n), u.oneCell' = true := by
  intro u hu
  obtain ⟨x, _, rfl⟩ := List.mem_map.1 hu
  rfl

theorem c_ptrTakeR (b : Value) (l : List UInt8) (w : World) (hb : Rd w 1 b l.length (l.map byteV)) : CT Tryd.prog 54 #[b] w fun v w' => ∃ r, v = .tuple #[.agg (ptC (takeQ l)).toArray, r, .int .i64 (takeQE l)] ∧ Rd w' 1 r (takeQR l).length ((takeQR l).map byteV) ∧ (∀ b', rbk r = some b' → rbk b = some b') ∧ Ext w w' := by
  obtain ⟨n0, hn0⟩ : ∃ n, n = w.heap.size := ⟨_, rfl⟩
  have hU : Upd (fun i => n0 ≤ i) w w := Upd.refl _ _
  have hb_b : ∀ i, rbk b = some i → i < n0 := by rw [hn0]; exact fun i hi => hb.bound (by decide) hi
  refine CT_of Tryd.func54 rfl rfl rfl ?_
  refine W_seq ?_
  refine W_reg ?_
  refine L_op rfl (X_alloc (z := (.agg #[(.int .u8 (0)), (.int .u16 (0)), (.int .u16 (0)), (.int .u32 (0)), (.int .u64 (0))])) (c := #[(.int .u8 (0)), (.int .u16 (0)), (.int .u16 (0)), (.int .u32 (0)), (.int .u64 (0))]) Zv41 rfl ?_)
  intro b1 w1 hn1
  have hbn1 := hn1.num; have hbs1 := hn1.size
  replace hb := hb.ext hn1.ext
  replace hU := hU.trans (Ext.upd hn1.ext)
  have hB1 := hn1.blk
  refine L_op rfl (X_assign (v := (.slice none 0 0)) rfl ?_)
  refine L_op rfl (X_assign (v := (.int .i64 (0))) rfl ?_)
  refine L_nil ?_
  refine T_n ?_
  refine W_seq ?_
  refine W_seq ?_
  refine W_reg ?_
  refine L_op rfl (X_move (v := b) rfl ?_)
  refine L_op rfl (X_len (v := b) (n := l.length) Tryd.underlying35 rfl hb.sv ?_)
  by_cases hc2 : (((l.length : Nat) : Int) : Int) < (17)
  · refine L_op rfl (X_cmp (k := .i64) (a := ((l.length : Nat) : Int)) (b := 17) (r := true) rfl rfl rfl (decide_eq_true (p := ((((l.length : Nat) : Int)) : Int) < ((17) : Int)) (by omega)) ?_)
    refine L_nil ?_
    refine T_n ?_
    refine W_ct rfl ?_
    refine W_seq ?_
    refine W_reg ?_
    refine L_op rfl (X_build built41z ?_)
    refine L_op rfl (X_move (v := b) rfl ?_)
    refine L_op0 (X_storeSameW A41 rfl rfl (ptC_one ptZ) rfl hB1 ?_)
    refine L_op rfl (X_assign (v := b) rfl ?_)
    refine L_op rfl (X_assign (v := (.int .i64 (20))) rfl ?_)
    refine L_nil ?_
    refine T_n ?_
    refine W_ret ?_
    refine T_r ?_
    exact BQ_r (End_3 Tryd.results54 (RV_A A41 rfl hB1.atAll rfl) (v2 := b) rfl (v3 := .int .i64 20) rfl ⟨b, by rw [show takeQ l = ptZ from if_pos (by omega), show takeQE l = 20 from if_pos (by omega)]; rfl, by rw [show takeQR l = l from if_pos (by omega)]; exact hb, fun _ h => h, hU.own hn0⟩)
  · refine L_op rfl (X_cmp (k := .i64) (a := ((l.length : Nat) : Int)) (b := 17) (r := false) rfl rfl rfl (decide_eq_false (p := ((((l.length : Nat) : Int)) : Int) < ((17) : Int)) (by omega)) ?_)
    refine L_nil ?_
    refine T_n ?_
    refine W_cf rfl ?_
    refine W_skip ?_
    refine T_n ?_
    refine W_seq ?_
    refine W_reg ?_
    refine L_op rfl (X_alloc (z := (.agg #[(.int .u64 (0)), (.int .u64 (0)), (.int .u64 (0)), (.int .u64 (0)), (.int .u64 (0))])) (c := #[(.int .u64 (0)), (.int .u64 (0)), (.int .u64 (0)), (.int .u64 (0)), (.int .u64 (0))]) Zv69 rfl ?_)
    intro b3 w3 hn3
    have hbn3 := hn3.num; have hbs3 := hn3.size
    replace hb := hb.ext hn3.ext
    replace hU := hU.trans (Ext.upd hn3.ext)
    replace hB1 := hB1.ext hn3.ext
    have hB3 := hn3.blk
    refine L_nil ?_
    refine T_n ?_
    refine W_seq ?_
    refine W_reg ?_
    refine L_op rfl (X_move (v := b) rfl ?_)
    refine L_op rfl (X_assign (v := b) rfl ?_)
    refine L_nil ?_
    refine T_n ?_
    refine W_seq ?_
    refine W_reg ?_
    refine L_op rfl (X_build built70 ?_)
    refine L_op rfl (X_alloc (z := (.agg #[(.int .i64 (0)), (.int .i64 (0)), (.int .i64 (0)), (.int .i64 (0)), (.int .i64 (0))])) (c := #[(.int .i64 (0)), (.int .i64 (0)), (.int .i64 (0)), (.int .i64 (0)), (.int .i64 (0))]) Zv70 rfl ?_)
    intro b4 w4 hn4
    have hbn4 := hn4.num; have hbs4 := hn4.size
    replace hb := hb.ext hn4.ext
    replace hU := hU.trans (Ext.upd hn4.ext)
    replace hB1 := hB1.ext hn4.ext
    replace hB3 := hB3.ext hn4.ext
    have hB4 := hn4.blk
    refine L_op0 (X_storeW (b := b4) (ys := wid.map fun n => Value.int .i64 n) A70 rfl rfl wid_one rfl hB4 rfl ?_)
    intro w5 hu5 hb5
    have hz5 := hu5.size
    replace hb := hb.upd hu5 fun i hi h => by have hi := hb_b _ hi; have h : i = b4 := h; omega
    replace hU := hU.trans (hu5.mono fun i _ h => by have h : i = b4 := h; show n0 ≤ i; omega)
    replace hB1 := hB1.upd hu5 fun h => by have h : b1 = b4 := h; omega
    replace hB3 := hB3.upd hu5 fun h => by have h : b3 = b4 := h; omega
    have hW := hb5
    refine L_nil ?_
    refine T_n ?_
    refine W_seq ?_
    refine W_seq ?_
    refine W_reg ?_
    refine L_op rfl (X_assign (v := (.int .i64 (0))) rfl ?_)
    refine L_nil ?_
    refine T_n ?_
    refine W_block ?_
    refine W_loop (α := Nat × Value) [6, 8, 9, 10, 11, 19, 20, 21, 22, 23, 24, 25, 26, 27, 28, 29, 30, 31, 32, 33, 34, 35] (fun ⟨i, u⟩ => [(8, (.int .i64 (((i : Nat) : Int)))), (6, u)]) (fun ⟨i, u⟩ w_ => i ≤ 5 ∧ Rd w_ 1 u (tkR l i).length ((tkR l i).map byteV) ∧ (∀ b', rbk u = some b' → rbk b = some b') ∧ Blk w_ b3 (tkC l i).toArray 69 ∧ Blk w_ b1 #[.int .u8 0, .int .u16 0, .int .u16 0, .int .u32 0, .int .u64 0] 41 ∧ Blk w_ b4 (wid.map fun n => Value.int .i64 n).toArray 70 ∧ Upd (fun i => n0 ≤ i) w w_) (fun ⟨i, u⟩ => 5 - i) ⟨rfl, (0, b), ⟨Nat.zero_le _, hb, fun _ h => h, hB3, hB1, hW, hU⟩, Out.refl _ _, ⟨rfl, rfl, trivial⟩⟩ ?_
    rintro ⟨i, u⟩ w6 _ ⟨hil, hR, hrb, hB3, hB1, hW, hU⟩
    have hsz_ := hU.size
    have hRb : ∀ b_, rbk u = some b_ → b_ < n0 := fun b_ h => hb_b _ (hrb _ h)
    refine W_seq ?_
    refine W_seq ?_
    refine W_reg ?_
    refine L_op rfl (X_move (v := (.int .i64 (((i : Nat) : Int)))) rfl ?_)
    by_cases hc7 : (((i : Nat) : Int) : Int) < (5)
    · refine L_op rfl (X_cmp (k := .i64) (a := ((i : Nat) : Int)) (b := 5) (r := true) rfl rfl rfl (decide_eq_true (p := ((((i : Nat) : Int)) : Int) < ((5) : Int)) (by omega)) ?_)
      have hi : i < 5 := by omega
      obtain ⟨m, hmi, hm1, hm8⟩ := wid_at hi
      refine L_nil ?_
      refine T_n ?_
      refine W_ct rfl ?_
      refine W_skip ?_
      refine T_n ?_
      refine W_seq ?_
      refine W_block ?_
      refine W_seq ?_
      refine W_reg ?_
      refine L_op rfl (X_move (v := u) rfl ?_)
      refine L_op rfl (X_move (v := (.int .i64 (((i : Nat) : Int)))) rfl ?_)
      refine L_op rfl (X_idxAP (len := 5) (sz := 1) (b := b4) (o := 0) (k := .i64) (i := ((i : Nat) : Int)) (r := (((i : Nat) : Int) : Int).toNat) Tryd.underlying70 Z3 rfl rfl (by omega) (by omega) (by omega) ?_)
      refine L_op rfl (X_load (v := .int .i64 m) T3 rfl (hW.at1 (by rw [List.getElem?_toArray, List.getElem?_map, show (((i : Nat) : Int).toNat) = i from Int.toNat_natCast _, hmi]; rfl)) ?_)
      refine L_op rfl (X_fn (vs := [u, (.int .i64 (m))]) en53 rfl (CT.mono (c_takeR u (tkR l i) m _ hR) ?_))
      rintro _ w8 ⟨r8, rfl, hR8, hrb8, hu8⟩
      have hz8 := hu8.size
      rw [← widN_of hmi] at hR8 ⊢
      replace hR8 : Rd w8 1 r8 (tkR l (i + 1)).length ((tkR l (i + 1)).map byteV) := hR8
      replace hB3 := hB3.ext hu8
      replace hB1 := hB1.ext hu8
      replace hW := hW.ext hu8
      replace hU := hU.trans (Ext.upd hu8)
      have hR8_b : ∀ b_, rbk r8 = some b_ → b_ < n0 := fun b_ h => hRb _ (hrb8 _ h)
      refine L_op rfl (X_move (v := (.tuple #[(.int .u64 (((takeV (tkR l i) (widN i) : Nat) : Int))), r8, (.int .i64 ((if (tkR l i).length < widN i then 20 else 0)))])) rfl ?_)
      refine L_op rfl (X_extract (l := [(.int .u64 (((takeV (tkR l i) (widN i) : Nat) : Int))), r8, (.int .i64 ((if (tkR l i).length < widN i then 20 else 0)))]) (v := (.int .u64 (((takeV (tkR l i) (widN i) : Nat) : Int)))) rfl rfl ?_)
      refine L_op rfl (X_extract (l := [(.int .u64 (((takeV (tkR l i) (widN i) : Nat) : Int))), r8, (.int .i64 ((if (tkR l i).length < widN i then 20 else 0)))]) (v := r8) rfl rfl ?_)
      refine L_op rfl (X_extract (l := [(.int .u64 (((takeV (tkR l i) (widN i) : Nat) : Int))), r8, (.int .i64 ((if (tkR l i).length < widN i then 20 else 0)))]) (v := (.int .i64 ((if (tkR l i).length < widN i then 20 else 0)))) rfl rfl ?_)
      refine L_op rfl (X_assign (v := (.int .u64 (((takeV (tkR l i) (widN i) : Nat) : Int)))) rfl ?_)
      refine L_op rfl (X_assign (v := r8) rfl ?_)
      refine L_op rfl (X_assign (v := (.int .i64 ((if (tkR l i).length < widN i then 20 else 0)))) rfl ?_)
      refine L_nil ?_
      refine T_n ?_
      refine W_seq ?_
      refine W_reg ?_
      refine L_op rfl (X_move (v := (.int .i64 (((i : Nat) : Int)))) rfl ?_)
      refine L_op rfl (X_move (v := (.int .u64 (((takeV (tkR l i) (widN i) : Nat) : Int)))) rfl ?_)
      refine L_op rfl (X_idxAP (len := 5) (sz := 1) (b := b3) (o := 0) (k := .i64) (i := ((i : Nat) : Int)) (r := (((i : Nat) : Int) : Int).toNat) Tryd.underlying69 Z39 rfl rfl (by omega) (by omega) (by omega) ?_)
      refine L_op0 (X_store (b := b3) (o := i) T39 (by show ptr _ _ = ptr _ _; rw [Int.toNat_natCast]) rfl rfl hB3 (by rw [tkC_size]; exact hi) ?_)
      intro w5 hu5 hb5
      have hz5 := hu5.size
      replace hb5 : Blk w5 b3 ((tkC l i).toArray.setIfInBounds i (.int .u64 ((tkV l i : Nat) : Int))) 69 := hb5
      rw [tkC_step hi] at hb5
      replace hB1 := hB1.upd hu5 fun h => by have h : b1 = b3 := h; omega
      replace hW := hW.upd hu5 fun h => by have h : b4 = b3 := h; omega
      replace hU := hU.trans (hu5.mono fun i _ h => by have h : i = b3 := h; show n0 ≤ i; omega)
      replace hR8 := hR8.upd hu5 fun i hi h => by have hi := hR8_b _ hi; have h : i = b3 := h; omega
      replace hB3 := hb5
      refine L_nil ?_
      refine T_n ?_
      refine W_reg ?_
      refine L_op rfl (X_move (v := r8) rfl ?_)
      refine L_op rfl (X_assign (v := r8) rfl ?_)
      refine L_nil ?_
      refine B_n ?_
      refine T_n ?_
      refine W_reg ?_
      refine L_op rfl (X_move (v := (.int .i64 (((i : Nat) : Int)))) rfl ?_)
      refine L_op rfl (X_arith (k := .i64) (a := ((i : Nat) : Int)) (b := 1) (r := ((i + 1 : Nat) : Int)) rfl rfl rfl (iadd64 (by omega) (by omega) (by omega)) ?_)
      refine L_op rfl (X_assign (v := (.int .i64 (((i + 1 : Nat) : Int)))) rfl ?_)
      refine L_nil ?_
      refine T_n ?_
      exact ⟨rfl, (i + 1, r8), ⟨⟨hi, hR8, fun b_ hb_ => hrb _ (hrb8 _ hb_), hB3, hB1, hW, hU⟩, (by show 5 - (i + 1) < 5 - i; omega)⟩, (Out.mk rfl), ⟨rfl, rfl, trivial⟩⟩
    · refine L_op rfl (X_cmp (k := .i64) (a := ((i : Nat) : Int)) (b := 5) (r := false) rfl rfl rfl (decide_eq_false (p := ((((i : Nat) : Int)) : Int) < ((5) : Int)) (by omega)) ?_)
      obtain rfl : i = 5 := by omega
      rw [tkC_all] at hB3
      have ht0 := tkV_0 l
      have ht1 := tkV_1 l
      have ht2 := tkV_2 l
      have ht3 := tkV_3 l
      have ht4 := tkV_4 l
      refine L_nil ?_
      refine T_n ?_
      refine W_cf rfl ?_
      refine W_exit ?_
      refine T_e ?_
      refine T_e ?_
      refine B_x ?_
      refine T_n ?_
      refine W_seq ?_
      refine W_reg ?_
      refine L_op rfl (X_idxAP (len := 5) (sz := 1) (b := b3) (o := 0) (k := .i64) (i := 0) (r := 0) Tryd.underlying69 Z39 rfl rfl (by omega) (by omega) rfl ?_)
      refine L_op rfl (X_load (p := (ptr b3 (0))) (v := (.int .u64 (((tkV l 0 : Nat) : Int)))) T39 rfl (hB3.at1 rfl) ?_)
      refine L_op rfl (X_convInt (k := .u64) (a := ((tkV l 0 : Nat) : Int)) (r := ((tkV l 0 : Nat) : Int)) (by rw [Tryd.underlying39]; rfl) Tryd.underlying5 rfl (u8_wrap_nat ht0) ?_)
      refine L_op rfl (X_idxAP (len := 5) (sz := 1) (b := b3) (o := 0) (k := .i64) (i := 1) (r := 1) Tryd.underlying69 Z39 rfl rfl (by omega) (by omega) rfl ?_)
      refine L_op rfl (X_load (p := (ptr b3 (1))) (v := (.int .u64 (((tkV l 1 : Nat) : Int)))) T39 rfl (hB3.at1 rfl) ?_)
      refine L_op rfl (X_convInt (k := .u64) (a := ((tkV l 1 : Nat) : Int)) (r := ((tkV l 1 : Nat) : Int)) (by rw [Tryd.underlying39]; rfl) Tryd.underlying36 rfl (u16_wrap_nat ht1) ?_)
      refine L_op rfl (X_idxAP (len := 5) (sz := 1) (b := b3) (o := 0) (k := .i64) (i := 2) (r := 2) Tryd.underlying69 Z39 rfl rfl (by omega) (by omega) rfl ?_)
      refine L_op rfl (X_load (p := (ptr b3 (2))) (v := (.int .u64 (((tkV l 2 : Nat) : Int)))) T39 rfl (hB3.at1 rfl) ?_)
      refine L_op rfl (X_convInt (k := .u64) (a := ((tkV l 2 : Nat) : Int)) (r := ((tkV l 2 : Nat) : Int)) (by rw [Tryd.underlying39]; rfl) Tryd.underlying36 rfl (u16_wrap_nat ht2) ?_)
      refine L_op rfl (X_build (built37 _ _) ?_)
      refine L_op rfl (X_idxAP (len := 5) (sz := 1) (b := b3) (o := 0) (k := .i64) (i := 3) (r := 3) Tryd.underlying69 Z39 rfl rfl (by omega) (by omega) rfl ?_)
      refine L_op rfl (X_load (p := (ptr b3 (3))) (v := (.int .u64 (((tkV l 3 : Nat) : Int)))) T39 rfl (hB3.at1 rfl) ?_)
      refine L_op rfl (X_convInt (k := .u64) (a := ((tkV l 3 : Nat) : Int)) (r := ((tkV l 3 : Nat) : Int)) (by rw [Tryd.underlying39]; rfl) Tryd.underlying38 rfl (u32_wrap_nat ht3) ?_)
      refine L_op rfl (X_idxAP (len := 5) (sz := 1) (b := b3) (o := 0) (k := .i64) (i := 4) (r := 4) Tryd.underlying69 Z39 rfl rfl (by omega) (by omega) rfl ?_)
      refine L_op rfl (X_load (p := (ptr b3 (4))) (v := (.int .u64 (((tkV l 4 : Nat) : Int)))) T39 rfl (hB3.at1 rfl) ?_)
      refine L_op rfl (X_build (built41 (tkQ l)) ?_)
      refine L_op rfl (X_move (v := u) rfl ?_)
      refine L_op0 (X_storeW (b := b1) (ys := ptC (tkQ l)) A41 rfl rfl (ptC_one _) rfl hB1 rfl ?_)
      intro w7 hu7 hb7
      replace hR := hR.upd hu7 fun i hi h => by have hi := hRb _ hi; have h : i = b1 := h; omega
      replace hB3 := hB3.upd hu7 fun h => by have h : b3 = b1 := h; omega
      replace hW := hW.upd hu7 fun h => by have h : b4 = b1 := h; omega
      replace hU := hU.trans (hu7.mono fun i _ h => by have h : i = b1 := h; show n0 ≤ i; omega)
      refine L_op rfl (X_assign (v := u) rfl ?_)
      refine L_op rfl (X_assign (v := (.int .i64 (0))) rfl ?_)
      refine L_nil ?_
      refine T_n ?_
      refine W_ret ?_
      exact BQ_r (End_3 Tryd.results54 (RV_A A41 rfl hb7.atAll rfl) (v2 := u) rfl (v3 := .int .i64 0) rfl ⟨u, by rw [show takeQ l = tkQ l from if_neg (by omega), show takeQE l = 0 from if_neg (by omega)], by rw [show takeQR l = tkR l 5 from if_neg (by omega)]; exact hR, hrb, hU.own hn0⟩)
end Go.Proofs.YtmddmghgkkjbiaaDoor
