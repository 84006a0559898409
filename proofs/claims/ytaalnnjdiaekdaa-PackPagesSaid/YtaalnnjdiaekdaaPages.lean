/-
  The walk of PackPages. (Printed by wip/gen/t02pages.py of this repo.)
-/
import Derived.Test.YtaalnnjdiaekdaaPack
namespace Go.Proofs.Ytaalnnjdiaekdaa
open Go Go.SL Go.Proofs

theorem built24 : Try.prog.built 24 [] = some zc24.toArray := by kernel_rfl
theorem zc24_eq' : zc24.toArray = ((List.replicate 256 (0 : UInt8)).map byteV).toArray := by rw [zc24_eq]

theorem c_pages (b : Value) (l o n : List UInt8) (w : World) (hb : Rd w 1 b l.length (l.map byteV)) (ho : o.length = 256) (hn : n.length = 256) : CT Try.prog 3 #[b, (.agg (((o).map byteV)).toArray), (.agg (((n).map byteV)).toArray)] w fun v w' => v = .bool true ∧ Ext w w' := by
  obtain ⟨n0, hn0⟩ : ∃ n, n = w.heap.size := ⟨_, rfl⟩
  have hU : Upd (fun i => n0 ≤ i) w w := Upd.refl _ _
  have hb_b : ∀ i, rbk b = some i → i < n0 := by rw [hn0]; exact fun i hi => hb.bound (by decide) hi
  refine CT_of Try.func3 rfl rfl rfl ?_
  refine W_seq ?_
  refine W_reg ?_
  refine L_op rfl (X_box (v := (.agg (((o).map byteV)).toArray)) (c := ((o).map byteV).toArray) rfl rfl ?_)
  intro b1 w1 hn1
  have hbn1 := hn1.num; have hbs1 := hn1.size
  replace hb := hb.ext hn1.ext
  replace hU := hU.trans (Ext.upd hn1.ext)
  have hB1 := hn1.blk
  refine L_op rfl (X_box (v := (.agg (((n).map byteV)).toArray)) (c := ((n).map byteV).toArray) rfl rfl ?_)
  intro b2 w2 hn2
  have hbn2 := hn2.num; have hbs2 := hn2.size
  replace hb := hb.ext hn2.ext
  replace hU := hU.trans (Ext.upd hn2.ext)
  replace hB1 := hB1.ext hn2.ext
  have hB2 := hn2.blk
  refine L_op rfl (X_assign (v := (.bool (false))) rfl ?_)
  refine L_nil ?_
  refine T_n ?_
  refine W_seq ?_
  refine W_seq ?_
  refine W_reg ?_
  refine L_op rfl (X_move (v := b) rfl ?_)
  refine L_op rfl (X_len (v := b) (n := l.length) Try.underlying22 rfl hb.sv ?_)
  by_cases hc3 : (((l.length : Nat) : Int) : Int) > (300)
  · refine L_op rfl (X_cmp (k := .i64) (a := ((l.length : Nat) : Int)) (b := 300) (r := true) rfl rfl rfl (decide_eq_true (by omega)) ?_)
    refine L_nil ?_
    refine T_n ?_
    refine W_ct rfl ?_
    refine W_seq ?_
    refine W_reg ?_
    refine L_op rfl (X_fn (vs := []) en8 rfl (CT.mono (c_wakes _) ?_))
    rintro vb4 w4 ⟨hvb4, hu4⟩
    have hz4 := hu4.size
    replace hb := hb.ext hu4
    replace hU := hU.trans (Ext.upd hu4)
    replace hB1 := hB1.ext hu4
    replace hB2 := hB2.ext hu4
    subst hvb4
    refine L_op rfl (X_assign (v := (.bool (true))) rfl ?_)
    refine L_nil ?_
    refine T_n ?_
    refine W_ret ?_
    refine T_r ?_
    exact BQ_r (End_1 Try.results3 (v := .bool true) rfl ⟨rfl, hU.own hn0⟩)
  · refine L_op rfl (X_cmp (k := .i64) (a := ((l.length : Nat) : Int)) (b := 300) (r := false) rfl rfl rfl (decide_eq_false (by omega)) ?_)
    refine L_nil ?_
    refine T_n ?_
    refine W_cf rfl ?_
    refine W_skip ?_
    refine T_n ?_
    refine W_seq ?_
    refine W_reg ?_
    refine L_op rfl (X_move (v := b) rfl ?_)
    refine L_op rfl (X_fn (vs := [b]) en9 rfl (CT.mono (c_fill _ l _ hb) ?_))
    rintro _ w3 ⟨e3, rfl, he1, he0, hu3⟩
    have hz3 := hu3.size
    replace hb := hb.ext hu3
    replace hU := hU.trans (Ext.upd hu3)
    replace hB1 := hB1.ext hu3
    replace hB2 := hB2.ext hu3
    refine L_op rfl (X_move (v := (.tuple #[(.agg (((fillL l).map byteV)).toArray), (.int .i64 (e3))])) rfl ?_)
    refine L_op rfl (X_extract (l := [(.agg (((fillL l).map byteV)).toArray), (.int .i64 (e3))]) (v := (.agg (((fillL l).map byteV)).toArray)) rfl rfl ?_)
    refine L_op rfl (X_extract (l := [(.agg (((fillL l).map byteV)).toArray), (.int .i64 (e3))]) (v := (.int .i64 (e3))) rfl rfl ?_)
    refine L_op rfl (X_alloc (z := zv24) (c := zc24.toArray) Zv24 rfl ?_)
    intro b5 w5 hn5
    have hbn5 := hn5.num; have hbs5 := hn5.size
    replace hb := hb.ext hn5.ext
    replace hU := hU.trans (Ext.upd hn5.ext)
    replace hB1 := hB1.ext hn5.ext
    replace hB2 := hB2.ext hn5.ext
    have hB5 := hn5.blk
    rw [zc24_eq] at hB5
    refine L_op0 (X_storeW (b := b5) (ys := ((fillL l).map byteV)) A24 rfl rfl (byteV_one _) (by rw [List.length_map]; exact fillL_length l) hB5 (by rw [List.size_toArray]; exact (by rw [List.length_map]; exact List.length_replicate)) ?_)
    intro w6 hu6 hb6
    have hz6 := hu6.size
    replace hb := hb.upd hu6 fun i hi h => by have hi := hb_b _ hi; have h : i = b5 := h; omega
    replace hU := hU.trans (hu6.mono fun i _ h => by have h : i = b5 := h; show n0 ≤ i; omega)
    replace hB1 := hB1.upd hu6 fun h => by have h : b1 = b5 := h; omega
    replace hB2 := hB2.upd hu6 fun h => by have h : b2 = b5 := h; omega
    replace hB5 := hb6
    refine L_op rfl (X_assign (v := (.int .i64 (e3))) rfl ?_)
    refine L_nil ?_
    refine T_n ?_
    refine W_seq ?_
    refine W_seq ?_
    refine W_reg ?_
    refine L_op rfl (X_move (v := b) rfl ?_)
    refine L_op rfl (X_len (v := b) (n := l.length) Try.underlying22 rfl hb.sv ?_)
    by_cases hc7 : (((l.length : Nat) : Int) : Int) > (256)
    · refine L_op rfl (X_cmp (k := .i64) (a := ((l.length : Nat) : Int)) (b := 256) (r := true) rfl rfl rfl (decide_eq_true (by omega)) ?_)
      refine L_nil ?_
      refine T_n ?_
      refine W_ct rfl ?_
      refine W_seq ?_
      refine W_reg ?_
      refine L_op rfl (X_move (v := (.int .i64 (e3))) rfl ?_)
      refine L_op rfl (X_cmp (k := .i64) (a := e3) (b := 21) (r := true) rfl rfl rfl (decide_eq_true (by omega)) ?_)
      refine L_op rfl (X_move (v := (.bool (true))) rfl ?_)
      refine L_gy (dj := 25) rfl rfl rfl (X_loadA (p := (ptr b5 (0))) (xs := ((fillL l).map byteV)) A24 rfl hB5.atAll (by rw [List.length_map]; exact fillL_length l) ?_)
      refine L_gy (dj := 25) rfl rfl rfl (X_build (c := ((List.replicate 256 (0 : UInt8)).map byteV).toArray) (zc24_eq' ▸ built24) ?_)
      refine L_gy (dj := 25) rfl rfl rfl (X_eqA (n := 256) (l := fillL l) (m := List.replicate 256 0) (r := true) Try.underlying24 Try.underlying5 (by kernel_rfl) (by kernel_rfl) (by kernel_rfl) rfl rfl (fillL_length l) (List.length_replicate) (.inl ⟨rfl, (by rw [fill_more (by omega)]; exact beq_self_eq_true _)⟩) ?_)
      refine L_op rfl (X_pick (t := true) (v := (.bool (true))) rfl rfl ?_)
      refine L_op rfl (X_move (v := (.bool (true))) rfl ?_)
      refine L_gy (dj := 30) rfl rfl rfl (X_fn (vs := []) en8 rfl (CT.mono (c_wakes _) ?_))
      rintro vb8 w8 ⟨hvb8, hu8⟩
      have hz8 := hu8.size
      replace hb := hb.ext hu8
      replace hU := hU.trans (Ext.upd hu8)
      replace hB1 := hB1.ext hu8
      replace hB2 := hB2.ext hu8
      replace hB5 := hB5.ext hu8
      subst hvb8
      refine L_op rfl (X_pick (t := true) (v := (.bool (true))) rfl rfl ?_)
      refine L_op rfl (X_assign (v := (.bool (true))) rfl ?_)
      refine L_nil ?_
      refine T_n ?_
      refine W_ret ?_
      refine T_r ?_
      exact BQ_r (End_1 Try.results3 (v := .bool true) rfl ⟨rfl, hU.own hn0⟩)
    · refine L_op rfl (X_cmp (k := .i64) (a := ((l.length : Nat) : Int)) (b := 256) (r := false) rfl rfl rfl (decide_eq_false (by omega)) ?_)
      refine L_nil ?_
      refine T_n ?_
      refine W_cf rfl ?_
      refine W_skip ?_
      refine T_n ?_
      refine W_seq ?_
      refine W_reg ?_
      refine L_op rfl (X_loadA (p := (ptr b1 (0))) (xs := ((o).map byteV)) A24 rfl hB1.atAll (by rw [List.length_map]; exact ho) ?_)
      refine L_op rfl (X_loadA (p := (ptr b2 (0))) (xs := ((n).map byteV)) A24 rfl hB2.atAll (by rw [List.length_map]; exact hn) ?_)
      refine L_op rfl (X_fn (vs := [(.agg (((o).map byteV)).toArray), (.agg (((n).map byteV)).toArray)]) en10 rfl (CT.mono (c_halves (o) (n) _ ho hn) ?_))
      rintro _ w9 ⟨rfl, hu9⟩
      have hz9 := hu9.size
      replace hb := hb.ext hu9
      replace hU := hU.trans (Ext.upd hu9)
      replace hB1 := hB1.ext hu9
      replace hB2 := hB2.ext hu9
      replace hB5 := hB5.ext hu9
      refine L_op rfl (X_alloc (z := zv24) (c := zc24.toArray) Zv24 rfl ?_)
      intro b10 w10 hn10
      have hbn10 := hn10.num; have hbs10 := hn10.size
      replace hb := hb.ext hn10.ext
      replace hU := hU.trans (Ext.upd hn10.ext)
      replace hB1 := hB1.ext hn10.ext
      replace hB2 := hB2.ext hn10.ext
      replace hB5 := hB5.ext hn10.ext
      have hB10 := hn10.blk
      rw [zc24_eq] at hB10
      refine L_op0 (X_storeW (b := b10) (ys := ((halvesL (o) (n)).map byteV)) A24 rfl rfl (byteV_one _) (by rw [List.length_map]; exact halvesL_length ho hn) hB10 (by rw [List.size_toArray]; exact (by rw [List.length_map]; exact List.length_replicate)) ?_)
      intro w11 hu11 hb11
      have hz11 := hu11.size
      replace hb := hb.upd hu11 fun i hi h => by have hi := hb_b _ hi; have h : i = b10 := h; omega
      replace hU := hU.trans (hu11.mono fun i _ h => by have h : i = b10 := h; show n0 ≤ i; omega)
      replace hB1 := hB1.upd hu11 fun h => by have h : b1 = b10 := h; omega
      replace hB2 := hB2.upd hu11 fun h => by have h : b2 = b10 := h; omega
      replace hB5 := hB5.upd hu11 fun h => by have h : b5 = b10 := h; omega
      replace hB10 := hb11
      refine L_nil ?_
      refine T_n ?_
      refine W_seq ?_
      refine W_reg ?_
      refine L_op rfl (X_assign (v := (.int .i64 (128))) rfl ?_)
      refine L_nil ?_
      refine T_n ?_
      refine W_seq ?_
      refine W_draw 41 [[], [0], [0, 1], [0, 1, 2], [0, 1, 2, 3], [0, 1, 2, 3, 4], [0, 1, 2], [0, 1, 2, 3, 4, 5, 6], [0, 1, 2, 3, 4, 5, 6, 7], [0, 1, 2, 3, 4, 5, 6, 7, 8], [0, 1, 2, 3, 4, 5, 6, 7, 8, 9], [0, 1, 2, 3, 4, 5, 6, 7, 8, 9, 10], [0, 1, 2, 3, 4, 5, 6, 7, 8, 9, 10, 11], [0, 1, 2, 3, 4, 5, 6, 7, 8, 9, 10, 11, 12], [0, 1, 2, 3, 4, 5, 6, 7, 8, 9, 10, 11, 12, 13], [0, 1, 2, 3, 4, 5, 6, 7, 8, 9, 10, 11, 12, 13, 14], [0, 1, 2, 3, 4, 5, 6, 7, 8, 9, 10, 11, 12, 13, 14, 15], [0, 1, 2, 3, 4, 5, 6, 7, 8, 9, 10, 11, 12, 13, 14, 15, 16], [0, 1, 2, 3, 4, 5, 6, 7, 8, 9, 10, 11, 12, 13, 14, 15], [0, 1, 2, 3, 4, 5, 6, 7, 8, 9, 10, 11, 12, 13, 14, 15, 18], [0, 1, 2, 3, 4, 5, 6, 7, 8, 9, 10, 11, 12, 13, 14, 15, 16, 17, 18, 19], [0, 1, 2, 3, 4, 5, 6, 7, 8, 9, 10, 11, 12, 13, 14, 15, 16, 17, 18, 19, 20], [0, 1, 2, 3, 4, 5, 6, 7, 8, 9, 10, 11, 12, 13, 14, 15, 16, 17, 18, 19, 20, 21], [0, 1, 2, 3, 4, 5, 6, 7, 8, 9, 10, 11, 12, 13, 14, 15, 16, 17, 18, 19, 20, 21, 22], [0, 1, 2, 3, 4, 5, 6, 7, 8, 9, 10, 11, 12, 13, 14, 15, 16, 17, 18, 19, 20, 21, 22, 23], [0, 1, 2, 3, 4, 5, 6, 7, 8, 9, 10, 11, 12, 13, 14, 15, 16, 17, 18, 19, 20, 21, 22], [0, 1, 2, 3, 4, 5, 6, 7, 8, 9, 10, 11, 12, 13, 14, 15, 16, 17, 18, 19, 20, 21, 22, 25], [0, 1, 2, 3, 4, 5, 6, 7, 8, 9, 10, 11, 12, 13, 14, 15, 16, 17, 18, 19, 20, 21, 22, 23, 24, 25, 26], [0, 1, 2, 3, 4, 5, 6, 7, 8, 9, 10, 11, 12, 13, 14, 15, 16, 17, 18, 19, 20, 21, 22, 23, 24, 25, 26, 27], [0, 1, 2, 3, 4, 5, 6, 7, 8, 9, 10, 11, 12, 13, 14, 15, 16, 17, 18, 19, 20, 21, 22, 23, 24, 25, 26, 27, 28], [0, 1, 2, 3, 4, 5, 6, 7, 8, 9, 10, 11, 12, 13, 14, 15, 16, 17, 18, 19, 20, 21, 22, 23, 24, 25, 26, 27, 28, 29], [0, 1, 2, 3, 4, 5, 6, 7, 8, 9, 10, 11, 12, 13, 14, 15, 16, 17, 18, 19, 20, 21, 22, 23, 24, 25, 26, 27, 28, 29], [0, 1, 2, 3, 4, 5, 6, 7, 8, 9, 10, 11, 12, 13, 14, 15, 16, 17, 18, 19, 20, 21, 22, 23, 24, 25, 26, 27, 28, 29, 30, 31], [0, 1, 2, 3, 4, 5, 6, 7, 8, 9, 10, 11, 12, 13, 14, 15, 16, 17, 18, 19, 20, 21, 22, 23, 24, 25, 26, 27, 28, 29], [0, 1, 2, 3, 4, 5, 6, 7, 8, 9, 10, 11, 12, 13, 14, 15, 16, 17, 18, 19, 20, 21, 22, 23, 24, 25, 26, 27, 28, 29, 30, 31, 32, 33], [0, 1, 2, 3, 4, 5, 6, 7, 8, 9, 10, 11, 12, 13, 14, 15, 16, 17, 18, 19, 20, 21, 22, 23, 24, 25, 26, 27, 28, 29, 30, 31, 32, 33, 34], [0, 1, 2, 3, 4, 5, 6, 7, 8, 9, 10, 11, 12, 13, 14, 15, 16, 17, 18, 19, 20, 21, 22, 23, 24, 25, 26, 27, 28, 29, 30, 31, 32, 33, 34, 35], [0, 1, 2, 3, 4, 5, 6, 7, 8, 9, 10, 11, 12, 13, 14, 15, 16, 17, 18, 19, 20, 21, 22, 23, 24, 25, 26, 27, 28, 29, 30, 31, 32, 33, 34, 35, 36], [0, 1, 2, 3, 4, 5, 6, 7, 8, 9, 10, 11, 12, 13, 14, 15, 16, 17, 18, 19, 20, 21, 22, 23, 24, 25, 26, 27, 28, 29, 30, 31, 32, 33, 34, 35, 36], [0, 1, 2, 3, 4, 5, 6, 7, 8, 9, 10, 11, 12, 13, 14, 15, 16, 17, 18, 19, 20, 21, 22, 23, 24, 25, 26, 27, 28, 29, 30, 31, 32, 33, 34, 35, 36, 37, 38], [0, 1, 2, 3, 4, 5, 6, 7, 8, 9, 10, 11, 12, 13, 14, 15, 16, 17, 18, 19, 20, 21, 22, 23, 24, 25, 26, 27, 28, 29, 30, 31, 32, 33, 34, 35, 36], [0, 1, 2, 3, 4, 5, 6, 7, 8, 9, 10, 11, 12, 13, 14, 15, 16, 17, 18, 19, 20, 21, 22, 23, 24, 25, 26, 27, 28, 29, 30, 31, 32, 33, 34, 35, 36, 37, 38, 39, 40], [0, 1, 2, 3, 4, 5, 6, 7, 8, 9, 10, 11, 12, 13, 14, 15, 16, 17, 18, 19, 20, 21, 22, 23, 24, 25, 26, 27, 28, 29, 30, 31, 32, 33, 34, 35, 36, 37, 38, 39, 40, 41], [0, 1, 2, 3, 4, 5, 6, 7, 8, 9, 10, 11, 12, 13, 14, 15, 16, 17, 18, 19, 20, 21, 22, 23, 24, 25, 26, 27, 28, 29, 30, 31, 32, 33, 34, 35, 36, 37, 38, 39, 40, 41, 42], [0, 1, 2, 3, 4, 5, 6, 7, 8, 9, 10, 11, 12, 13, 14, 15, 16, 17, 18, 19, 20, 21, 22, 23, 24, 25, 26, 27, 28, 29, 30, 31, 32, 33, 34, 35, 36, 37, 38, 39, 40, 41, 42, 43], [0, 1, 2, 3, 4, 5, 6, 7, 8, 9, 10, 11, 12, 13, 14, 15, 16, 17, 18, 19, 20, 21, 22, 23, 24, 25, 26, 27, 28, 29, 30, 31, 32, 33, 34, 35, 36, 37, 38, 39, 40, 41, 42, 43, 44], [0, 1, 2, 3, 4, 5, 6, 7, 8, 9, 10, 11, 12, 13, 14, 15, 16, 17, 18, 19, 20, 21, 22, 23, 24, 25, 26, 27, 28, 29, 30, 31, 32, 33, 34, 35, 36, 37, 38, 39, 40, 41, 42, 43, 44, 45]] mixed (by kernel_rfl) ?_
      refine ⟨.det (fun val => (.int .i64 (e3))), ⟨fun _ _ hv => rfl, fun _ _ _ _ _ => trivial⟩, fun val h_ W hx he => ⟨trivial, ?_⟩, ?_⟩
      · replace hx := (Upd.drew _ _).trans hx
        replace hb := hb.ext hx
        replace hB1 := hB1.ext hx
        replace hB2 := hB2.ext hx
        replace hB5 := hB5.ext hx
        replace hB10 := hB10.ext hx
        have hE := Upd.refl (fun _ => False) W
        refine id (X_move (v := (.int .i64 (e3))) rfl ?_)
        exact ⟨hE, rfl⟩
      refine ⟨.det (fun val => (.bool (true))), ⟨fun _ _ hv => rfl, fun _ _ _ _ _ => trivial⟩, fun val h_ W hx he => ⟨trivial, ?_⟩, ?_⟩
      · replace hx := (Upd.drew _ _).trans hx
        replace hb := hb.ext hx
        replace hB1 := hB1.ext hx
        replace hB2 := hB2.ext hx
        replace hB5 := hB5.ext hx
        replace hB10 := hB10.ext hx
        have hE := Upd.refl (fun _ => False) W
        refine id (X_cmp (k := .i64) (a := e3) (b := 0) (r := true) rfl rfl rfl (decide_eq_true (by omega)) ?_)
        exact ⟨hE, rfl⟩
      refine ⟨.det (fun val => (.bool (true))), ⟨fun _ _ hv => rfl, fun _ _ _ _ _ => trivial⟩, fun val h_ W hx he => ⟨trivial, ?_⟩, ?_⟩
      · replace hx := (Upd.drew _ _).trans hx
        replace hb := hb.ext hx
        replace hB1 := hB1.ext hx
        replace hB2 := hB2.ext hx
        replace hB5 := hB5.ext hx
        replace hB10 := hB10.ext hx
        have hE := Upd.refl (fun _ => False) W
        refine id (X_move (v := (.bool (true))) rfl ?_)
        exact ⟨hE, rfl⟩
      refine ⟨.det (fun val => b), ⟨fun _ _ hv => rfl, fun _ _ _ _ _ => trivial⟩, fun val h_ W hx he => ⟨⟨38, rfl, rfl⟩, ?_⟩, ?_⟩
      · replace hx := (Upd.drew _ _).trans hx
        replace hb := hb.ext hx
        replace hB1 := hB1.ext hx
        replace hB2 := hB2.ext hx
        replace hB5 := hB5.ext hx
        replace hB10 := hB10.ext hx
        have hE := Upd.refl (fun _ => False) W
        refine id (X_move (v := b) rfl ?_)
        exact ⟨hE, rfl⟩
      refine ⟨.det (fun val => (.int .i64 (((l.length : Nat) : Int)))), ⟨fun _ _ hv => rfl, fun _ _ _ _ _ => trivial⟩, fun val h_ W hx he => ⟨⟨38, rfl, rfl⟩, ?_⟩, ?_⟩
      · replace hx := (Upd.drew _ _).trans hx
        replace hb := hb.ext hx
        replace hB1 := hB1.ext hx
        replace hB2 := hB2.ext hx
        replace hB5 := hB5.ext hx
        replace hB10 := hB10.ext hx
        have hE := Upd.refl (fun _ => False) W
        refine id (X_len (v := b) (n := l.length) Try.underlying22 rfl hb.sv ?_)
        exact ⟨hE, rfl⟩
      refine ⟨.det (fun val => (cutv (.slice (some ⟨b5, 0, none⟩) 256 256) 1 (0) (l.length))), ⟨fun _ _ hv => rfl, fun _ _ _ _ _ => trivial⟩, fun val h_ W hx he => ⟨⟨38, rfl, rfl⟩, ?_⟩, ?_⟩
      · replace hx := (Upd.drew _ _).trans hx
        replace hb := hb.ext hx
        replace hB1 := hB1.ext hx
        replace hB2 := hB2.ext hx
        replace hB5 := hB5.ext hx
        replace hB10 := hB10.ext hx
        have hE := Upd.refl (fun _ => False) W
        refine id (X_sliceAL (len := 256) (sz := 1) (b := b5) (l := 0) (h' := l.length) (kl := .i64) (kh := .i64) Try.underlying24 Z5 rfl rfl rfl (by omega) (by omega) ?_)
        exact ⟨hE, rfl⟩
      refine ⟨.det (fun val => b), ⟨fun _ _ hv => rfl, fun _ _ _ _ _ => trivial⟩, fun val h_ W hx he => ⟨⟨38, rfl, rfl⟩, ?_⟩, ?_⟩
      · replace hx := (Upd.drew _ _).trans hx
        replace hb := hb.ext hx
        replace hB1 := hB1.ext hx
        replace hB2 := hB2.ext hx
        replace hB5 := hB5.ext hx
        replace hB10 := hB10.ext hx
        have hE := Upd.refl (fun _ => False) W
        refine id (X_move (v := b) rfl ?_)
        exact ⟨hE, rfl⟩
      refine ⟨.det (fun val => (.bool (true))), ⟨fun _ _ hv => rfl, fun _ _ _ _ _ => trivial⟩, fun val h_ W hx he => ⟨⟨38, rfl, rfl⟩, ?_⟩, ?_⟩
      · replace hx := (Upd.drew _ _).trans hx
        replace hb := hb.ext hx
        replace hB1 := hB1.ext hx
        replace hB2 := hB2.ext hx
        replace hB5 := hB5.ext hx
        replace hB10 := hB10.ext hx
        have hE := Upd.refl (fun _ => False) W
        refine id (X_fn (vs := [(cutv (.slice (some ⟨b5, 0, none⟩) 256 256) 1 (0) (l.length)), b]) en11 rfl (CT.mono (c_same _ _ (l) (l) _ (hB5.rdL (n := 256) (fillL_length l) (by decide) (lo := 0) (hi := l.length) (by omega) (by omega) (m := l) (fill_head l (by omega))) hb) ?_))
        rintro vb14 _ ⟨hvb14, rfl⟩
        rw [show ((l : List UInt8) == l) = true from beq_self_eq_true l] at hvb14
        subst hvb14
        exact ⟨hE, rfl⟩
      refine ⟨.det (fun val => (.bool (true))), ⟨fun _ _ hv => rfl, fun _ _ _ _ _ => trivial⟩, fun val h_ W hx he => ⟨trivial, ?_⟩, ?_⟩
      · replace hx := (Upd.drew _ _).trans hx
        replace hb := hb.ext hx
        replace hB1 := hB1.ext hx
        replace hB2 := hB2.ext hx
        replace hB5 := hB5.ext hx
        replace hB10 := hB10.ext hx
        have hE := Upd.refl (fun _ => False) W
        refine id (X_pick (t := true) (v := (.bool (true))) rfl rfl ?_)
        exact ⟨hE, rfl⟩
      refine ⟨.det (fun val => (.bool (true))), ⟨fun _ _ hv => rfl, fun _ _ _ _ _ => trivial⟩, fun val h_ W hx he => ⟨trivial, ?_⟩, ?_⟩
      · replace hx := (Upd.drew _ _).trans hx
        replace hb := hb.ext hx
        replace hB1 := hB1.ext hx
        replace hB2 := hB2.ext hx
        replace hB5 := hB5.ext hx
        replace hB10 := hB10.ext hx
        have hE := Upd.refl (fun _ => False) W
        refine id (X_move (v := (.bool (true))) rfl ?_)
        exact ⟨hE, rfl⟩
      refine ⟨.det (fun val => b), ⟨fun _ _ hv => rfl, fun _ _ _ _ _ => trivial⟩, fun val h_ W hx he => ⟨⟨45, rfl, rfl⟩, ?_⟩, ?_⟩
      · replace hx := (Upd.drew _ _).trans hx
        replace hb := hb.ext hx
        replace hB1 := hB1.ext hx
        replace hB2 := hB2.ext hx
        replace hB5 := hB5.ext hx
        replace hB10 := hB10.ext hx
        have hE := Upd.refl (fun _ => False) W
        refine id (X_move (v := b) rfl ?_)
        exact ⟨hE, rfl⟩
      refine ⟨.det (fun val => (.int .i64 (((l.length : Nat) : Int)))), ⟨fun _ _ hv => rfl, fun _ _ _ _ _ => trivial⟩, fun val h_ W hx he => ⟨⟨45, rfl, rfl⟩, ?_⟩, ?_⟩
      · replace hx := (Upd.drew _ _).trans hx
        replace hb := hb.ext hx
        replace hB1 := hB1.ext hx
        replace hB2 := hB2.ext hx
        replace hB5 := hB5.ext hx
        replace hB10 := hB10.ext hx
        have hE := Upd.refl (fun _ => False) W
        refine id (X_len (v := b) (n := l.length) Try.underlying22 rfl hb.sv ?_)
        exact ⟨hE, rfl⟩
      refine ⟨.det (fun val => (cutv (.slice (some ⟨b5, 0, none⟩) 256 256) 1 (l.length) (256))), ⟨fun _ _ hv => rfl, fun _ _ _ _ _ => trivial⟩, fun val h_ W hx he => ⟨⟨45, rfl, rfl⟩, ?_⟩, ?_⟩
      · replace hx := (Upd.drew _ _).trans hx
        replace hb := hb.ext hx
        replace hB1 := hB1.ext hx
        replace hB2 := hB2.ext hx
        replace hB5 := hB5.ext hx
        replace hB10 := hB10.ext hx
        have hE := Upd.refl (fun _ => False) W
        refine id (X_sliceAL (len := 256) (sz := 1) (b := b5) (l := l.length) (h' := 256) (kl := .i64) (kh := .i64) Try.underlying24 Z5 rfl rfl rfl (by omega) (by omega) ?_)
        exact ⟨hE, rfl⟩
      refine ⟨.det (fun val => (.bool (true))), ⟨fun _ _ hv => rfl, fun _ _ _ _ _ => trivial⟩, fun val h_ W hx he => ⟨⟨45, rfl, rfl⟩, ?_⟩, ?_⟩
      · replace hx := (Upd.drew _ _).trans hx
        replace hb := hb.ext hx
        replace hB1 := hB1.ext hx
        replace hB2 := hB2.ext hx
        replace hB5 := hB5.ext hx
        replace hB10 := hB10.ext hx
        have hE := Upd.refl (fun _ => False) W
        refine id (X_fn (vs := [(cutv (.slice (some ⟨b5, 0, none⟩) 256 256) 1 (l.length) (256))]) en12 rfl (CT.mono (c_clean _ (List.replicate (256 - l.length) 0) _ (hB5.rdL (n := 256) (fillL_length l) (by decide) (lo := l.length) (hi := 256) (by omega) (by omega) (m := List.replicate (256 - l.length) (0 : UInt8)) (fill_tail l (by omega)))) ?_))
        rintro vb16 _ ⟨hvb16, rfl⟩
        rw [show ((List.replicate (256 - l.length) (0 : UInt8)).all (· == 0)) = true from clean_zeros _] at hvb16
        subst hvb16
        exact ⟨hE, rfl⟩
      refine ⟨.det (fun val => (.bool (true))), ⟨fun _ _ hv => rfl, fun _ _ _ _ _ => trivial⟩, fun val h_ W hx he => ⟨trivial, ?_⟩, ?_⟩
      · replace hx := (Upd.drew _ _).trans hx
        replace hb := hb.ext hx
        replace hB1 := hB1.ext hx
        replace hB2 := hB2.ext hx
        replace hB5 := hB5.ext hx
        replace hB10 := hB10.ext hx
        have hE := Upd.refl (fun _ => False) W
        refine id (X_pick (t := true) (v := (.bool (true))) rfl rfl ?_)
        exact ⟨hE, rfl⟩
      refine ⟨.det (fun val => (.bool (true))), ⟨fun _ _ hv => rfl, fun _ _ _ _ _ => trivial⟩, fun val h_ W hx he => ⟨trivial, ?_⟩, ?_⟩
      · replace hx := (Upd.drew _ _).trans hx
        replace hb := hb.ext hx
        replace hB1 := hB1.ext hx
        replace hB2 := hB2.ext hx
        replace hB5 := hB5.ext hx
        replace hB10 := hB10.ext hx
        have hE := Upd.refl (fun _ => False) W
        refine id (X_move (v := (.bool (true))) rfl ?_)
        exact ⟨hE, rfl⟩
      refine ⟨.det (fun val => (.int .i64 (128))), ⟨fun _ _ hv => rfl, fun _ _ _ _ _ => trivial⟩, fun val h_ W hx he => ⟨⟨51, rfl, rfl⟩, ?_⟩, ?_⟩
      · replace hx := (Upd.drew _ _).trans hx
        replace hb := hb.ext hx
        replace hB1 := hB1.ext hx
        replace hB2 := hB2.ext hx
        replace hB5 := hB5.ext hx
        replace hB10 := hB10.ext hx
        have hE := Upd.refl (fun _ => False) W
        refine id (X_move (v := (.int .i64 (128))) rfl ?_)
        exact ⟨hE, rfl⟩
      refine ⟨.det (fun val => (cutv (.slice (some ⟨b10, 0, none⟩) 256 256) 1 (0) (128))), ⟨fun _ _ hv => rfl, fun _ _ _ _ _ => trivial⟩, fun val h_ W hx he => ⟨⟨51, rfl, rfl⟩, ?_⟩, ?_⟩
      · replace hx := (Upd.drew _ _).trans hx
        replace hb := hb.ext hx
        replace hB1 := hB1.ext hx
        replace hB2 := hB2.ext hx
        replace hB5 := hB5.ext hx
        replace hB10 := hB10.ext hx
        have hE := Upd.refl (fun _ => False) W
        refine id (X_sliceAL (len := 256) (sz := 1) (b := b10) (l := 0) (h' := 128) (kl := .i64) (kh := .i64) Try.underlying24 Z5 rfl rfl rfl (by omega) (by omega) ?_)
        exact ⟨hE, rfl⟩
      refine ⟨.det (fun val => (.int .i64 (128))), ⟨fun _ _ hv => rfl, fun _ _ _ _ _ => trivial⟩, fun val h_ W hx he => ⟨⟨51, rfl, rfl⟩, ?_⟩, ?_⟩
      · replace hx := (Upd.drew _ _).trans hx
        replace hb := hb.ext hx
        replace hB1 := hB1.ext hx
        replace hB2 := hB2.ext hx
        replace hB5 := hB5.ext hx
        replace hB10 := hB10.ext hx
        have hE := Upd.refl (fun _ => False) W
        refine id (X_move (v := (.int .i64 (128))) rfl ?_)
        exact ⟨hE, rfl⟩
      refine ⟨.det (fun val => (cutv (.slice (some ⟨b2, 0, none⟩) 256 256) 1 (0) (128))), ⟨fun _ _ hv => rfl, fun _ _ _ _ _ => trivial⟩, fun val h_ W hx he => ⟨⟨51, rfl, rfl⟩, ?_⟩, ?_⟩
      · replace hx := (Upd.drew _ _).trans hx
        replace hb := hb.ext hx
        replace hB1 := hB1.ext hx
        replace hB2 := hB2.ext hx
        replace hB5 := hB5.ext hx
        replace hB10 := hB10.ext hx
        have hE := Upd.refl (fun _ => False) W
        refine id (X_sliceAL (len := 256) (sz := 1) (b := b2) (l := 0) (h' := 128) (kl := .i64) (kh := .i64) Try.underlying24 Z5 rfl rfl rfl (by omega) (by omega) ?_)
        exact ⟨hE, rfl⟩
      refine ⟨.det (fun val => (.bool (true))), ⟨fun _ _ hv => rfl, fun _ _ _ _ _ => trivial⟩, fun val h_ W hx he => ⟨⟨51, rfl, rfl⟩, ?_⟩, ?_⟩
      · replace hx := (Upd.drew _ _).trans hx
        replace hb := hb.ext hx
        replace hB1 := hB1.ext hx
        replace hB2 := hB2.ext hx
        replace hB5 := hB5.ext hx
        replace hB10 := hB10.ext hx
        have hE := Upd.refl (fun _ => False) W
        refine id (X_fn (vs := [(cutv (.slice (some ⟨b10, 0, none⟩) 256 256) 1 (0) (128)), (cutv (.slice (some ⟨b2, 0, none⟩) 256 256) 1 (0) (128))]) en11 rfl (CT.mono (c_same _ _ (n.take 128) (n.take 128) _ (hB10.rdL (n := 256) (halvesL_length ho hn) (by decide) (lo := 0) (hi := 128) (by omega) (by omega) (m := n.take 128) (halves_l hn)) (hB2.rdL (n := 256) (hn) (by decide) (lo := 0) (hi := 128) (by omega) (by omega) (m := n.take 128) page_l)) ?_))
        rintro vb19 _ ⟨hvb19, rfl⟩
        rw [show ((n.take 128 : List UInt8) == n.take 128) = true from beq_self_eq_true _] at hvb19
        subst hvb19
        exact ⟨hE, rfl⟩
      refine ⟨.det (fun val => (.bool (true))), ⟨fun _ _ hv => rfl, fun _ _ _ _ _ => trivial⟩, fun val h_ W hx he => ⟨trivial, ?_⟩, ?_⟩
      · replace hx := (Upd.drew _ _).trans hx
        replace hb := hb.ext hx
        replace hB1 := hB1.ext hx
        replace hB2 := hB2.ext hx
        replace hB5 := hB5.ext hx
        replace hB10 := hB10.ext hx
        have hE := Upd.refl (fun _ => False) W
        refine id (X_pick (t := true) (v := (.bool (true))) rfl rfl ?_)
        exact ⟨hE, rfl⟩
      refine ⟨.det (fun val => (.bool (true))), ⟨fun _ _ hv => rfl, fun _ _ _ _ _ => trivial⟩, fun val h_ W hx he => ⟨trivial, ?_⟩, ?_⟩
      · replace hx := (Upd.drew _ _).trans hx
        replace hb := hb.ext hx
        replace hB1 := hB1.ext hx
        replace hB2 := hB2.ext hx
        replace hB5 := hB5.ext hx
        replace hB10 := hB10.ext hx
        have hE := Upd.refl (fun _ => False) W
        refine id (X_move (v := (.bool (true))) rfl ?_)
        exact ⟨hE, rfl⟩
      refine ⟨.det (fun val => (.int .i64 (128))), ⟨fun _ _ hv => rfl, fun _ _ _ _ _ => trivial⟩, fun val h_ W hx he => ⟨⟨58, rfl, rfl⟩, ?_⟩, ?_⟩
      · replace hx := (Upd.drew _ _).trans hx
        replace hb := hb.ext hx
        replace hB1 := hB1.ext hx
        replace hB2 := hB2.ext hx
        replace hB5 := hB5.ext hx
        replace hB10 := hB10.ext hx
        have hE := Upd.refl (fun _ => False) W
        refine id (X_move (v := (.int .i64 (128))) rfl ?_)
        exact ⟨hE, rfl⟩
      refine ⟨.det (fun val => (cutv (.slice (some ⟨b10, 0, none⟩) 256 256) 1 (128) (256))), ⟨fun _ _ hv => rfl, fun _ _ _ _ _ => trivial⟩, fun val h_ W hx he => ⟨⟨58, rfl, rfl⟩, ?_⟩, ?_⟩
      · replace hx := (Upd.drew _ _).trans hx
        replace hb := hb.ext hx
        replace hB1 := hB1.ext hx
        replace hB2 := hB2.ext hx
        replace hB5 := hB5.ext hx
        replace hB10 := hB10.ext hx
        have hE := Upd.refl (fun _ => False) W
        refine id (X_sliceAL (len := 256) (sz := 1) (b := b10) (l := 128) (h' := 256) (kl := .i64) (kh := .i64) Try.underlying24 Z5 rfl rfl rfl (by omega) (by omega) ?_)
        exact ⟨hE, rfl⟩
      refine ⟨.det (fun val => (.int .i64 (128))), ⟨fun _ _ hv => rfl, fun _ _ _ _ _ => trivial⟩, fun val h_ W hx he => ⟨⟨58, rfl, rfl⟩, ?_⟩, ?_⟩
      · replace hx := (Upd.drew _ _).trans hx
        replace hb := hb.ext hx
        replace hB1 := hB1.ext hx
        replace hB2 := hB2.ext hx
        replace hB5 := hB5.ext hx
        replace hB10 := hB10.ext hx
        have hE := Upd.refl (fun _ => False) W
        refine id (X_move (v := (.int .i64 (128))) rfl ?_)
        exact ⟨hE, rfl⟩
      refine ⟨.det (fun val => (cutv (.slice (some ⟨b1, 0, none⟩) 256 256) 1 (128) (256))), ⟨fun _ _ hv => rfl, fun _ _ _ _ _ => trivial⟩, fun val h_ W hx he => ⟨⟨58, rfl, rfl⟩, ?_⟩, ?_⟩
      · replace hx := (Upd.drew _ _).trans hx
        replace hb := hb.ext hx
        replace hB1 := hB1.ext hx
        replace hB2 := hB2.ext hx
        replace hB5 := hB5.ext hx
        replace hB10 := hB10.ext hx
        have hE := Upd.refl (fun _ => False) W
        refine id (X_sliceAL (len := 256) (sz := 1) (b := b1) (l := 128) (h' := 256) (kl := .i64) (kh := .i64) Try.underlying24 Z5 rfl rfl rfl (by omega) (by omega) ?_)
        exact ⟨hE, rfl⟩
      refine ⟨.det (fun val => (.bool (true))), ⟨fun _ _ hv => rfl, fun _ _ _ _ _ => trivial⟩, fun val h_ W hx he => ⟨⟨58, rfl, rfl⟩, ?_⟩, ?_⟩
      · replace hx := (Upd.drew _ _).trans hx
        replace hb := hb.ext hx
        replace hB1 := hB1.ext hx
        replace hB2 := hB2.ext hx
        replace hB5 := hB5.ext hx
        replace hB10 := hB10.ext hx
        have hE := Upd.refl (fun _ => False) W
        refine id (X_fn (vs := [(cutv (.slice (some ⟨b10, 0, none⟩) 256 256) 1 (128) (256)), (cutv (.slice (some ⟨b1, 0, none⟩) 256 256) 1 (128) (256))]) en11 rfl (CT.mono (c_same _ _ (o.drop 128) (o.drop 128) _ (hB10.rdL (n := 256) (halvesL_length ho hn) (by decide) (lo := 128) (hi := 256) (by omega) (by omega) (m := o.drop 128) (halves_r ho hn)) (hB1.rdL (n := 256) (ho) (by decide) (lo := 128) (hi := 256) (by omega) (by omega) (m := o.drop 128) (page_r ho))) ?_))
        rintro vb22 _ ⟨hvb22, rfl⟩
        rw [show ((o.drop 128 : List UInt8) == o.drop 128) = true from beq_self_eq_true _] at hvb22
        subst hvb22
        exact ⟨hE, rfl⟩
      refine ⟨.det (fun val => (.bool (true))), ⟨fun _ _ hv => rfl, fun _ _ _ _ _ => trivial⟩, fun val h_ W hx he => ⟨trivial, ?_⟩, ?_⟩
      · replace hx := (Upd.drew _ _).trans hx
        replace hb := hb.ext hx
        replace hB1 := hB1.ext hx
        replace hB2 := hB2.ext hx
        replace hB5 := hB5.ext hx
        replace hB10 := hB10.ext hx
        have hE := Upd.refl (fun _ => False) W
        refine id (X_pick (t := true) (v := (.bool (true))) rfl rfl ?_)
        exact ⟨hE, rfl⟩
      refine ⟨.det (fun val => (.bool (true))), ⟨fun _ _ hv => rfl, fun _ _ _ _ _ => trivial⟩, fun val h_ W hx he => ⟨trivial, ?_⟩, ?_⟩
      · replace hx := (Upd.drew _ _).trans hx
        replace hb := hb.ext hx
        replace hB1 := hB1.ext hx
        replace hB2 := hB2.ext hx
        replace hB5 := hB5.ext hx
        replace hB10 := hB10.ext hx
        have hE := Upd.refl (fun _ => False) W
        refine id (X_move (v := (.bool (true))) rfl ?_)
        exact ⟨hE, rfl⟩
      refine ⟨.det (fun val => (.agg (((o).map byteV)).toArray)), ⟨fun _ _ hv => rfl, fun _ _ _ _ _ => trivial⟩, fun val h_ W hx he => ⟨⟨65, rfl, rfl⟩, ?_⟩, ?_⟩
      · replace hx := (Upd.drew _ _).trans hx
        replace hb := hb.ext hx
        replace hB1 := hB1.ext hx
        replace hB2 := hB2.ext hx
        replace hB5 := hB5.ext hx
        replace hB10 := hB10.ext hx
        have hE := Upd.refl (fun _ => False) W
        refine id (X_loadA (p := (ptr b1 (0))) (xs := ((o).map byteV)) A24 rfl hB1.atAll (by rw [List.length_map]; exact ho) ?_)
        exact ⟨hE, rfl⟩
      refine ⟨.det (fun val => (.agg (((o).map byteV)).toArray)), ⟨fun _ _ hv => rfl, fun _ _ _ _ _ => trivial⟩, fun val h_ W hx he => ⟨⟨65, rfl, rfl⟩, ?_⟩, ?_⟩
      · replace hx := (Upd.drew _ _).trans hx
        replace hb := hb.ext hx
        replace hB1 := hB1.ext hx
        replace hB2 := hB2.ext hx
        replace hB5 := hB5.ext hx
        replace hB10 := hB10.ext hx
        have hE := Upd.refl (fun _ => False) W
        refine id (X_loadA (p := (ptr b1 (0))) (xs := ((o).map byteV)) A24 rfl hB1.atAll (by rw [List.length_map]; exact ho) ?_)
        exact ⟨hE, rfl⟩
      refine ⟨.det (fun val => (.agg (((halvesL (o) (o)).map byteV)).toArray)), ⟨fun _ _ hv => rfl, fun _ _ _ _ _ => trivial⟩, fun val h_ W hx he => ⟨⟨65, rfl, rfl⟩, ?_⟩, ?_⟩
      · replace hx := (Upd.drew _ _).trans hx
        replace hb := hb.ext hx
        replace hB1 := hB1.ext hx
        replace hB2 := hB2.ext hx
        replace hB5 := hB5.ext hx
        replace hB10 := hB10.ext hx
        have hE := Upd.refl (fun _ => False) W
        refine id (X_fn (vs := [(.agg (((o).map byteV)).toArray), (.agg (((o).map byteV)).toArray)]) en10 rfl (CT.mono (c_halves (o) (o) _ ho ho) ?_))
        rintro _ w23 ⟨rfl, hu23⟩
        have hz23 := hu23.size
        replace hb := hb.ext hu23
        replace hB1 := hB1.ext hu23
        replace hB2 := hB2.ext hu23
        replace hB5 := hB5.ext hu23
        replace hB10 := hB10.ext hu23
        replace hE := hE.trans (Ext.upd hu23)
        exact ⟨hE, rfl⟩
      refine ⟨.det (fun val => (.agg (((o).map byteV)).toArray)), ⟨fun _ _ hv => rfl, fun _ _ _ _ _ => trivial⟩, fun val h_ W hx he => ⟨⟨65, rfl, rfl⟩, ?_⟩, ?_⟩
      · replace hx := (Upd.drew _ _).trans hx
        replace hb := hb.ext hx
        replace hB1 := hB1.ext hx
        replace hB2 := hB2.ext hx
        replace hB5 := hB5.ext hx
        replace hB10 := hB10.ext hx
        have hE := Upd.refl (fun _ => False) W
        refine id (X_loadA (p := (ptr b1 (0))) (xs := ((o).map byteV)) A24 rfl hB1.atAll (by rw [List.length_map]; exact ho) ?_)
        exact ⟨hE, rfl⟩
      refine ⟨.det (fun val => (.bool (true))), ⟨fun _ _ hv => rfl, fun _ _ _ _ _ => trivial⟩, fun val h_ W hx he => ⟨⟨65, rfl, rfl⟩, ?_⟩, ?_⟩
      · replace hx := (Upd.drew _ _).trans hx
        replace hb := hb.ext hx
        replace hB1 := hB1.ext hx
        replace hB2 := hB2.ext hx
        replace hB5 := hB5.ext hx
        replace hB10 := hB10.ext hx
        have hE := Upd.refl (fun _ => False) W
        refine id (X_eqA (n := 256) (l := halvesL o o) (m := o) (r := true) Try.underlying24 Try.underlying5 (by kernel_rfl) (by kernel_rfl) (by kernel_rfl) rfl rfl (halvesL_length ho ho) (ho) (.inl ⟨rfl, (by rw [halves_self]; exact beq_self_eq_true _)⟩) ?_)
        exact ⟨hE, rfl⟩
      refine ⟨.det (fun val => (.bool (true))), ⟨fun _ _ hv => rfl, fun _ _ _ _ _ => trivial⟩, fun val h_ W hx he => ⟨trivial, ?_⟩, ?_⟩
      · replace hx := (Upd.drew _ _).trans hx
        replace hb := hb.ext hx
        replace hB1 := hB1.ext hx
        replace hB2 := hB2.ext hx
        replace hB5 := hB5.ext hx
        replace hB10 := hB10.ext hx
        have hE := Upd.refl (fun _ => False) W
        refine id (X_pick (t := true) (v := (.bool (true))) rfl rfl ?_)
        exact ⟨hE, rfl⟩
      refine ⟨.det (fun val => (.bool (true))), ⟨fun _ _ hv => rfl, fun _ _ _ _ _ => trivial⟩, fun val h_ W hx he => ⟨trivial, ?_⟩, ?_⟩
      · replace hx := (Upd.drew _ _).trans hx
        replace hb := hb.ext hx
        replace hB1 := hB1.ext hx
        replace hB2 := hB2.ext hx
        replace hB5 := hB5.ext hx
        replace hB10 := hB10.ext hx
        have hE := Upd.refl (fun _ => False) W
        refine id (X_move (v := (.bool (true))) rfl ?_)
        exact ⟨hE, rfl⟩
      refine ⟨.det (fun val => (.agg (((halvesL (o) (n)).map byteV)).toArray)), ⟨fun _ _ hv => rfl, fun _ _ _ _ _ => trivial⟩, fun val h_ W hx he => ⟨⟨72, rfl, rfl⟩, ?_⟩, ?_⟩
      · replace hx := (Upd.drew _ _).trans hx
        replace hb := hb.ext hx
        replace hB1 := hB1.ext hx
        replace hB2 := hB2.ext hx
        replace hB5 := hB5.ext hx
        replace hB10 := hB10.ext hx
        have hE := Upd.refl (fun _ => False) W
        refine id (X_loadA (p := (ptr b10 (0))) (xs := ((halvesL (o) (n)).map byteV)) A24 rfl hB10.atAll (by rw [List.length_map]; exact halvesL_length ho hn) ?_)
        exact ⟨hE, rfl⟩
      refine ⟨.det (fun val => (.agg (((n).map byteV)).toArray)), ⟨fun _ _ hv => rfl, fun _ _ _ _ _ => trivial⟩, fun val h_ W hx he => ⟨⟨72, rfl, rfl⟩, ?_⟩, ?_⟩
      · replace hx := (Upd.drew _ _).trans hx
        replace hb := hb.ext hx
        replace hB1 := hB1.ext hx
        replace hB2 := hB2.ext hx
        replace hB5 := hB5.ext hx
        replace hB10 := hB10.ext hx
        have hE := Upd.refl (fun _ => False) W
        refine id (X_loadA (p := (ptr b2 (0))) (xs := ((n).map byteV)) A24 rfl hB2.atAll (by rw [List.length_map]; exact hn) ?_)
        exact ⟨hE, rfl⟩
      refine ⟨.det (fun val => (.agg (((halvesL (halvesL o n) (n)).map byteV)).toArray)), ⟨fun _ _ hv => rfl, fun _ _ _ _ _ => trivial⟩, fun val h_ W hx he => ⟨⟨72, rfl, rfl⟩, ?_⟩, ?_⟩
      · replace hx := (Upd.drew _ _).trans hx
        replace hb := hb.ext hx
        replace hB1 := hB1.ext hx
        replace hB2 := hB2.ext hx
        replace hB5 := hB5.ext hx
        replace hB10 := hB10.ext hx
        have hE := Upd.refl (fun _ => False) W
        refine id (X_fn (vs := [(.agg (((halvesL (o) (n)).map byteV)).toArray), (.agg (((n).map byteV)).toArray)]) en10 rfl (CT.mono (c_halves (halvesL o n) (n) _ (halvesL_length ho hn) hn) ?_))
        rintro _ w24 ⟨rfl, hu24⟩
        have hz24 := hu24.size
        replace hb := hb.ext hu24
        replace hB1 := hB1.ext hu24
        replace hB2 := hB2.ext hu24
        replace hB5 := hB5.ext hu24
        replace hB10 := hB10.ext hu24
        replace hE := hE.trans (Ext.upd hu24)
        exact ⟨hE, rfl⟩
      refine ⟨.det (fun val => (.agg (((halvesL (o) (n)).map byteV)).toArray)), ⟨fun _ _ hv => rfl, fun _ _ _ _ _ => trivial⟩, fun val h_ W hx he => ⟨⟨72, rfl, rfl⟩, ?_⟩, ?_⟩
      · replace hx := (Upd.drew _ _).trans hx
        replace hb := hb.ext hx
        replace hB1 := hB1.ext hx
        replace hB2 := hB2.ext hx
        replace hB5 := hB5.ext hx
        replace hB10 := hB10.ext hx
        have hE := Upd.refl (fun _ => False) W
        refine id (X_loadA (p := (ptr b10 (0))) (xs := ((halvesL (o) (n)).map byteV)) A24 rfl hB10.atAll (by rw [List.length_map]; exact halvesL_length ho hn) ?_)
        exact ⟨hE, rfl⟩
      intro val W12 hx12 he12
      replace hx12 := (Upd.drew _ _).trans hx12
      have hz12 := hx12.size
      replace hb := hb.ext hx12
      replace hU := hU.trans (Ext.upd hx12)
      replace hB1 := hB1.ext hx12
      replace hB2 := hB2.ext hx12
      replace hB5 := hB5.ext hx12
      replace hB10 := hB10.ext hx12
      refine L_gy (dj := 72) rfl rfl rfl (X_eqA (n := 256) (l := halvesL (halvesL o n) n) (m := halvesL o n) (r := true) Try.underlying24 Try.underlying5 (by kernel_rfl) (by kernel_rfl) (by kernel_rfl) rfl rfl (halvesL_length (halvesL_length ho hn) hn) (halvesL_length ho hn) (.inl ⟨rfl, (by rw [halves_twice hn]; exact beq_self_eq_true _)⟩) ?_)
      refine L_op rfl (X_pick (t := true) (v := (.bool (true))) rfl rfl ?_)
      refine L_op rfl (X_move (v := (.bool (true))) rfl ?_)
      refine L_gy (dj := 79) rfl rfl rfl (X_fn (vs := []) en8 rfl (CT.mono (c_wakes _) ?_))
      rintro vb25 w25 ⟨hvb25, hu25⟩
      have hz25 := hu25.size
      replace hb := hb.ext hu25
      replace hU := hU.trans (Ext.upd hu25)
      replace hB1 := hB1.ext hu25
      replace hB2 := hB2.ext hu25
      replace hB5 := hB5.ext hu25
      replace hB10 := hB10.ext hu25
      subst hvb25
      refine L_op rfl (X_pick (t := true) (v := (.bool (true))) rfl rfl ?_)
      refine L_op rfl (X_assign (v := (.bool (true))) rfl ?_)
      refine L_nil ?_
      refine T_n ?_
      refine W_ret ?_
      exact BQ_r (End_1 Try.results3 (v := .bool true) rfl ⟨rfl, hU.own hn0⟩)
end Go.Proofs.Ytaalnnjdiaekdaa
