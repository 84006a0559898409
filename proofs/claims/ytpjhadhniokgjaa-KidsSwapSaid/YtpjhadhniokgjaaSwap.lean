/-
  The walk of KidsSwap. (Printed by wip/gen/t16swap.py of this repo.)
-/
import Derived.Test.YtpjhadhniokgjaaSwapLaw
namespace Go.Proofs.Ytpjhadhniokgjaa
open Go Go.SL Go.Proofs

set_option maxRecDepth 10000 in
set_option maxHeartbeats 2000000 in
theorem c_kidsSwap (l r : Value) (a : Int) (es ms : List KE) (w : World) (hl : NRd LK w 0 w.heap.size l es) (hr : NRd LK w 0 w.heap.size r ms) : CT Try.prog 5 #[l, r, (.int .i64 (a))] w fun v w' => v = .bool true ∧ Ext w w' := by
  obtain ⟨n0, hn0⟩ : ∃ n, n = w.heap.size := ⟨_, rfl⟩
  have hU : Upd (fun i => n0 ≤ i) w w := Upd.refl _ _
  rw [← hn0] at hl hr
  have hmx := hl.sv.len
  have hmx2 := hr.sv.len
  refine CT_of Try.func5 rfl rfl rfl ?_
  refine W_seq ?_
  refine W_reg ?_
  refine L_op rfl (X_assign (v := (.bool (false))) rfl ?_)
  refine L_nil ?_
  refine T_n ?_
  refine W_seq ?_
  refine W_seq ?_
  refine W_reg ?_
  refine L_op rfl (X_move (v := l) rfl ?_)
  refine L_op rfl (X_fn (vs := [l]) en7 rfl (CT.mono (c_great _ es _ _ _ hl) ?_))
  rintro _ _ ⟨⟨gG, rfl, hgG⟩, rfl⟩
  rcases Bool.eq_false_or_eq_true (gG) with hc1 | hc1
  · rw [hc1]
    refine L_op rfl (X_move (v := (.bool (true))) rfl ?_)
    refine L_gn (dj := 15) (t := true) rfl rfl rfl rfl ?_
    refine L_gn (dj := 15) (t := true) rfl rfl rfl rfl ?_
    refine L_op rfl (X_pick (t := true) (v := (.bool (true))) rfl rfl ?_)
    refine L_op rfl (X_move (v := (.bool (true))) rfl ?_)
    refine L_gn (dj := 19) (t := true) rfl rfl rfl rfl ?_
    refine L_gn (dj := 19) (t := true) rfl rfl rfl rfl ?_
    refine L_gn (dj := 19) (t := true) rfl rfl rfl rfl ?_
    refine L_op rfl (X_pick (t := true) (v := (.bool (true))) rfl rfl ?_)
    refine L_nil ?_
    refine T_n ?_
    refine W_ct rfl ?_
    refine W_seq ?_
    refine W_reg ?_
    refine L_op rfl (X_fn (vs := []) en9 rfl (CT.mono (c_wakes _) ?_))
    rintro vb2 w2 ⟨hvb2, hu2⟩
    have hz2 := hu2.size
    replace hl := hl.ext hu2
    replace hr := hr.ext hu2
    replace hU := hU.trans (Ext.upd hu2)
    subst hvb2
    refine L_op rfl (X_assign (v := (.bool (true))) rfl ?_)
    refine L_nil ?_
    refine T_n ?_
    refine W_ret ?_
    refine T_r ?_
    exact BQ_r (End_1 Try.results5 (v := .bool true) rfl ⟨rfl, hU.own hn0⟩)
  · rw [hc1]
    refine L_op rfl (X_move (v := (.bool (false))) rfl ?_)
    refine L_gy (dj := 15) rfl rfl rfl (X_move (v := r) rfl ?_)
    refine L_gy (dj := 15) rfl rfl rfl (X_fn (vs := [r]) en7 rfl (CT.mono (c_great _ ms _ _ _ hr) ?_))
    rintro _ _ ⟨⟨gH, rfl, hgH⟩, rfl⟩
    rcases Bool.eq_false_or_eq_true (gH) with hc3 | hc3
    · rw [hc3]
      refine L_op rfl (X_pick (t := false) (v := (.bool (true))) rfl rfl ?_)
      refine L_op rfl (X_move (v := (.bool (true))) rfl ?_)
      refine L_gn (dj := 19) (t := true) rfl rfl rfl rfl ?_
      refine L_gn (dj := 19) (t := true) rfl rfl rfl rfl ?_
      refine L_gn (dj := 19) (t := true) rfl rfl rfl rfl ?_
      refine L_op rfl (X_pick (t := true) (v := (.bool (true))) rfl rfl ?_)
      refine L_nil ?_
      refine T_n ?_
      refine W_ct rfl ?_
      refine W_seq ?_
      refine W_reg ?_
      refine L_op rfl (X_fn (vs := []) en9 rfl (CT.mono (c_wakes _) ?_))
      rintro vb4 w4 ⟨hvb4, hu4⟩
      have hz4 := hu4.size
      replace hl := hl.ext hu4
      replace hr := hr.ext hu4
      replace hU := hU.trans (Ext.upd hu4)
      subst hvb4
      refine L_op rfl (X_assign (v := (.bool (true))) rfl ?_)
      refine L_nil ?_
      refine T_n ?_
      refine W_ret ?_
      refine T_r ?_
      exact BQ_r (End_1 Try.results5 (v := .bool true) rfl ⟨rfl, hU.own hn0⟩)
    · rw [hc3]
      refine L_op rfl (X_pick (t := false) (v := (.bool (false))) rfl rfl ?_)
      refine L_op rfl (X_move (v := (.bool (false))) rfl ?_)
      refine L_gy (dj := 19) rfl rfl rfl (X_move (v := l) rfl ?_)
      refine L_gy (dj := 19) rfl rfl rfl (X_len (v := l) (n := es.length) Try.underlying22 rfl hl.sv ?_)
      by_cases hc5 : (((es.length : Nat) : Int) : Int) = (0)
      · refine L_gy (dj := 19) rfl rfl rfl (X_cmp (k := .i64) (a := ((es.length : Nat) : Int)) (b := 0) (r := true) rfl rfl rfl (decide_eq_true (p := ((((es.length : Nat) : Int)) : Int) = ((0) : Int)) (by omega)) ?_)
        refine L_op rfl (X_pick (t := false) (v := (.bool (true))) rfl rfl ?_)
        refine L_nil ?_
        refine T_n ?_
        refine W_ct rfl ?_
        refine W_seq ?_
        refine W_reg ?_
        refine L_op rfl (X_fn (vs := []) en9 rfl (CT.mono (c_wakes _) ?_))
        rintro vb6 w6 ⟨hvb6, hu6⟩
        have hz6 := hu6.size
        replace hl := hl.ext hu6
        replace hr := hr.ext hu6
        replace hU := hU.trans (Ext.upd hu6)
        subst hvb6
        refine L_op rfl (X_assign (v := (.bool (true))) rfl ?_)
        refine L_nil ?_
        refine T_n ?_
        refine W_ret ?_
        refine T_r ?_
        exact BQ_r (End_1 Try.results5 (v := .bool true) rfl ⟨rfl, hU.own hn0⟩)
      · refine L_gy (dj := 19) rfl rfl rfl (X_cmp (k := .i64) (a := ((es.length : Nat) : Int)) (b := 0) (r := false) rfl rfl rfl (decide_eq_false (p := ((((es.length : Nat) : Int)) : Int) = ((0) : Int)) (by omega)) ?_)
        refine L_op rfl (X_pick (t := false) (v := (.bool (false))) rfl rfl ?_)
        refine L_nil ?_
        refine T_n ?_
        refine W_cf rfl ?_
        refine W_skip ?_
        refine T_n ?_
        refine W_seq ?_
        refine W_reg ?_
        refine L_op rfl (X_move (v := (.int .i64 (a))) rfl ?_)
        refine L_op rfl (X_move (v := l) rfl ?_)
        refine L_op rfl (X_len (v := l) (n := es.length) Try.underlying22 rfl hl.sv ?_)
        have hgd := hgG hc1
        have hge := hgH hc3
        have hkl : KeyOK es := fun j e he => by have := hgd.2 j e he; omega
        have hkr : KeyOK ms := fun j e he => by have := hge.2 j e he; omega
        obtain ⟨q, hq⟩ : ∃ q, q = a.tmod ((es.length : Nat) : Int) := ⟨_, rfl⟩
        have hql := tmod_lo (a := a) (n := es.length) (by omega)
        rw [← hq] at hql
        refine L_op rfl (X_arith (k := .i64) (a := a) (b := ((es.length : Nat) : Int)) (r := q) (decide_eq_true (by omega)) rfl rfl hq.symm ?_)
        refine L_op rfl (X_move (v := l) rfl ?_)
        refine L_op rfl (X_len (v := l) (n := es.length) Try.underlying22 rfl hl.sv ?_)
        refine L_op rfl (X_arith (k := .i64) (a := q) (b := ((es.length : Nat) : Int)) (r := q + ((es.length : Nat) : Int)) rfl rfl rfl (iadd64 rfl (by omega) (by omega)) ?_)
        refine L_op rfl (X_move (v := l) rfl ?_)
        refine L_op rfl (X_len (v := l) (n := es.length) Try.underlying22 rfl hl.sv ?_)
        obtain ⟨A, hA0⟩ : ∃ A : Nat, ((A : Nat) : Int) = (q + ((es.length : Nat) : Int)) % ((es.length : Nat) : Int) := ⟨((q + ((es.length : Nat) : Int)) % ((es.length : Nat) : Int)).toNat, Int.toNat_of_nonneg (Int.emod_nonneg _ (by omega))⟩
        have hAl : A < es.length := by have h := Int.emod_lt_of_pos (q + ((es.length : Nat) : Int)) (show (0 : Int) < ((es.length : Nat) : Int) by omega); rw [← hA0] at h; omega
        refine L_op rfl (X_arith (k := .i64) (a := q + ((es.length : Nat) : Int)) (b := ((es.length : Nat) : Int)) (r := ((A : Nat) : Int)) (decide_eq_true (by omega)) rfl rfl (irem64 (by omega) hA0) ?_)
        refine L_op rfl (X_assign (v := (.int .i64 (((A : Nat) : Int)))) rfl ?_)
        refine L_nil ?_
        refine T_n ?_
        refine W_seq ?_
        refine W_reg ?_
        refine L_op rfl (X_move (v := l) rfl ?_)
        refine L_op rfl (X_fn (vs := [l]) en13 rfl (CT.mono (c_ownR l es _ 0 n0 (by omega) hl hkl (by omega)) ?_))
        rintro va w7 ⟨fs, hA, _, hfs, hu7⟩
        have hz7 := hu7.size
        replace hl := hl.ext hu7
        replace hr := hr.ext hu7
        replace hU := hU.trans (Ext.upd hu7)
        replace hA := hA.rd
        obtain ⟨loA, hloA⟩ : ∃ n, n = w.heap.size := ⟨_, rfl⟩
        obtain ⟨upA, hupA⟩ : ∃ n, n = w7.heap.size := ⟨_, rfl⟩
        rw [← hloA, ← hupA] at hA
        have hfs_ : fs.length = es.length := by have h := congrArg List.length hfs; rwa [List.length_map, List.length_map] at h
        have hsvva := hA.sv
        refine L_op rfl (X_move (v := r) rfl ?_)
        refine L_op rfl (X_fn (vs := [r]) en13 rfl (CT.mono (c_ownR r ms _ 0 n0 (by omega) hr hkr (by omega)) ?_))
        rintro vb w8 ⟨os, hB, _, hos, hu8⟩
        have hz8 := hu8.size
        replace hl := hl.ext hu8
        replace hr := hr.ext hu8
        replace hU := hU.trans (Ext.upd hu8)
        replace hA := hA.ext hu8
        replace hB := hB.rd
        obtain ⟨loB, hloB⟩ : ∃ n, n = w7.heap.size := ⟨_, rfl⟩
        obtain ⟨upB, hupB⟩ : ∃ n, n = w8.heap.size := ⟨_, rfl⟩
        rw [← hloB, ← hupB] at hB
        have hos_ : os.length = ms.length := by have h := congrArg List.length hos; rwa [List.length_map, List.length_map] at h
        have hsvvb := hB.sv
        refine L_op rfl (X_assign (v := va) rfl ?_)
        refine L_op rfl (X_assign (v := vb) rfl ?_)
        refine L_nil ?_
        refine T_n ?_
        refine W_seq ?_
        refine W_reg ?_
        refine L_op rfl (X_move (v := l) rfl ?_)
        refine L_op rfl (X_move (v := (.int .i64 (((A : Nat) : Int)))) rfl ?_)
        refine L_op rfl (X_move (v := r) rfl ?_)
        refine L_op rfl (X_fn (vs := [l, (.int .i64 (((A : Nat) : Int))), r]) en15 rfl (CT.mono (c_swap l ((A : Nat) : Int) r es ms _ 0 n0 0 n0 (by omega) (by omega) hl hr hkl hkr (by omega) (by omega)) ?_))
        rintro vg w9 ⟨gs, hG, hdi, hgs, hu9⟩
        have hz9 := hu9.size
        replace hl := hl.ext hu9
        replace hr := hr.ext hu9
        replace hU := hU.trans (Ext.upd hu9)
        replace hA := hA.ext hu9
        replace hB := hB.ext hu9
        rw [swapI_nat hAl] at hgs
        replace hgs : gs.map (·.2) = bareK (swD (es.map (·.2)) (ms.map (·.2)) A) := hgs
        have hgl : gs.length = es.length - 1 + ms.length := by have h := congrArg List.length hgs; rwa [List.length_map, bareK_length, swD_length (by rw [List.length_map]; exact hAl), List.length_map, List.length_map] at h
        obtain ⟨lo, hlo⟩ : ∃ n, n = w8.heap.size := ⟨_, rfl⟩
        obtain ⟨up, hup⟩ : ∃ n, n = w9.heap.size := ⟨_, rfl⟩
        rw [← hlo, ← hup] at hG
        have hRow := hG.1
        have hrow_b := hG.2.1
        have hsvg := hRow.sv
        have hKB : ∀ (j : Nat) (e : KE), 0 ≤ j → gs[j]? = some e → BOwn w9 5 lo up (e.1, e.2.1) := fun j e _ he => hG.2.2 e (List.mem_of_getElem? he) (e.1, e.2.1) (by simp [LK])
        have hupw : up ≤ w9.heap.size := by omega
        refine L_op rfl (X_assign (v := vg) rfl ?_)
        refine L_nil ?_
        refine T_n ?_
        refine W_seq ?_
        refine W_seq ?_
        refine W_reg ?_
        refine L_op rfl (X_move (v := vg) rfl ?_)
        refine L_op rfl (X_len (v := vg) (n := gs.length) Try.underlying22 rfl hsvg ?_)
        refine L_op rfl (X_move (v := l) rfl ?_)
        refine L_op rfl (X_len (v := l) (n := es.length) Try.underlying22 rfl hl.sv ?_)
        refine L_op rfl (X_arith (k := .i64) (a := ((es.length : Nat) : Int)) (b := 1) (r := ((es.length - 1 : Nat) : Int)) rfl rfl rfl (isub64 (by omega) (by omega) (by omega)) ?_)
        refine L_op rfl (X_move (v := r) rfl ?_)
        refine L_op rfl (X_len (v := r) (n := ms.length) Try.underlying22 rfl hr.sv ?_)
        refine L_op rfl (X_arith (k := .i64) (a := ((es.length - 1 : Nat) : Int)) (b := ((ms.length : Nat) : Int)) (r := ((es.length - 1 + ms.length : Nat) : Int)) rfl rfl rfl (iadd64 (by omega) (by omega) (by omega)) ?_)
        refine L_op rfl (X_cmp (k := .i64) (a := ((gs.length : Nat) : Int)) (b := ((es.length - 1 + ms.length : Nat) : Int)) (r := false) rfl rfl rfl (decide_eq_false (p := ((((gs.length : Nat) : Int)) : Int) ≠ ((((es.length - 1 + ms.length : Nat) : Int)) : Int)) (by omega)) ?_)
        refine L_nil ?_
        refine T_n ?_
        refine W_cf rfl ?_
        refine W_skip ?_
        refine T_n ?_
        refine W_seq ?_
        refine W_seq ?_
        refine W_reg ?_
        refine L_op rfl (X_assign (v := (.int .i64 (0))) rfl ?_)
        refine L_nil ?_
        refine T_n ?_
        refine W_block ?_
        refine W_loop (α := Nat) [6, 10, 11, 12, 52, 53, 54, 55, 56, 57, 58, 59, 60, 61, 62, 63, 64, 65, 66, 67, 68, 69, 70, 71, 72, 73, 74, 75, 76, 77, 78, 79, 80, 81, 82, 83, 84, 85, 86, 87, 88, 89, 90, 91, 92, 93, 94, 95, 96, 97, 98, 99, 100, 101, 102, 103, 104, 105, 106, 107, 108, 109, 110, 111, 112, 113, 114, 115, 116, 117, 118, 119, 120, 121, 122, 123, 124, 125, 126, 127, 128, 129, 130, 131, 132, 133, 134, 135, 136, 137, 138, 139, 140, 141, 142, 143, 144, 145, 146, 147, 148, 149, 150] (fun i => [(10, (.int .i64 (((i : Nat) : Int))))]) (fun i w_ => i ≤ gs.length ∧ NRd LK w_ 0 n0 l es ∧ NRd LK w_ 0 n0 r ms ∧ NRd LK w_ loA upA va fs ∧ NRd LK w_ loB upB vb os ∧ Own w_ lo 39 6 vg gs.length (gs.flatMap LK.cel) ∧ (∀ (j : Nat) (e : KE), i ≤ j → gs[j]? = some e → BOwn w_ 5 lo up (e.1, e.2.1)) ∧ Upd (fun i => n0 ≤ i) w w_ ∧ up ≤ w_.heap.size) (fun i => gs.length - i) ⟨rfl, 0, ⟨Nat.zero_le _, hl, hr, hA, hB, hRow, hKB, hU, hupw⟩, Out.refl _ _, ⟨rfl, trivial⟩⟩ ?_
        rintro i w10 _ ⟨hil, hl, hr, hA, hB, hRow, hKB, hU, hupw⟩
        have hsz_ := hU.size
        refine W_seq ?_
        refine W_seq ?_
        refine W_reg ?_
        refine L_op rfl (X_move (v := (.int .i64 (((i : Nat) : Int)))) rfl ?_)
        refine L_op rfl (X_move (v := vg) rfl ?_)
        refine L_op rfl (X_len (v := vg) (n := gs.length) Try.underlying22 rfl hsvg ?_)
        by_cases hc11 : (((i : Nat) : Int) : Int) < (((gs.length : Nat) : Int))
        · refine L_op rfl (X_cmp (k := .i64) (a := ((i : Nat) : Int)) (b := ((gs.length : Nat) : Int)) (r := true) rfl rfl rfl (decide_eq_true (p := ((((i : Nat) : Int)) : Int) < ((((gs.length : Nat) : Int)) : Int)) (by omega)) ?_)
          have hi : i < gs.length := by omega
          obtain ⟨y_, hy_⟩ : ∃ y, gs[i]? = some y := ⟨_, List.getElem?_eq_getElem hi⟩
          obtain ⟨d, hd⟩ : ∃ d, (swD (es.map (·.2)) (ms.map (·.2)) A)[i]? = some d := ⟨_, List.getElem?_eq_getElem (by rw [swD_length (by rw [List.length_map]; exact hAl), List.length_map, List.length_map]; omega)⟩
          have hxd : y_.2 = if i = 0 then ([], d.2) else d := by have h := bare_at hd; rw [← hgs, List.getElem?_map, hy_] at h; exact Option.some.inj h
          rw [swD_at (by rw [List.length_map]; exact hAl), List.length_map] at hd
          have hxl : y_.2.1.length ≤ 9223372036854775807 := (hKB i y_ (Nat.le_refl _) hy_).1.sv.len
          have hkey_b := (hKB i y_ (Nat.le_refl _) hy_).2
          refine L_nil ?_
          refine T_n ?_
          refine W_ct rfl ?_
          refine W_skip ?_
          refine T_n ?_
          refine W_seq ?_
          refine W_block ?_
          refine W_seq ?_
          refine W_reg ?_
          refine L_op rfl (X_build built39e ?_)
          refine L_op rfl (X_alloc (z := (.agg #[(.slice none 0 0), (.int .u8 (0)), (.int .u16 (0)), (.int .u16 (0)), (.int .u32 (0)), (.int .u64 (0))])) (c := #[(.slice none 0 0), (.int .u8 (0)), (.int .u16 (0)), (.int .u16 (0)), (.int .u32 (0)), (.int .u64 (0))]) Zv39 rfl ?_)
          intro b12 w12 hn12
          have hbn12 := hn12.num; have hbs12 := hn12.size
          replace hl := hl.ext hn12.ext
          replace hr := hr.ext hn12.ext
          replace hA := hA.ext hn12.ext
          replace hB := hB.ext hn12.ext
          replace hRow := hRow.ext hn12.ext
          replace hKB := fun (j : Nat) (e : KE) hj he => (hKB j e hj he).ext hn12.ext
          replace hU := hU.trans (Ext.upd hn12.ext)
          have hB12 := hn12.blk
          refine L_op0 (X_storeW (b := b12) (ys := (Value.slice none 0 0 :: ptC (0, 0, 0, 0, 0))) A39 rfl rfl (SV.kone (Own.nil w 0 5 1).sv _) rfl hB12 rfl ?_)
          intro w13 hu13 hb13
          have hz13 := hu13.size
          replace hl := hl.upd hu13 fun i h1 h2 h => by have h : i = b12 := h; omega
          replace hr := hr.upd hu13 fun i h1 h2 h => by have h : i = b12 := h; omega
          replace hA := hA.upd hu13 fun i h1 h2 h => by have h : i = b12 := h; omega
          replace hB := hB.upd hu13 fun i h1 h2 h => by have h : i = b12 := h; omega
          replace hRow := hRow.upd hu13 fun i hi h => by have hi := hrow_b _ hi; have h : i = b12 := h; omega
          replace hKB := fun (j : Nat) (e : KE) hj he => (hKB j e hj he).upd hu13 fun i h1 h2 h => by have h : i = b12 := h; omega
          replace hU := hU.trans (hu13.mono fun i _ h => by have h : i = b12 := h; show n0 ≤ i; omega)
          replace hB12 := hb13
          refine L_nil ?_
          refine T_n ?_
          refine W_seq ?_
          refine W_block ?_
          refine W_seq ?_
          refine W_reg ?_
          refine L_op rfl (X_move (v := (.int .i64 (((i : Nat) : Int)))) rfl ?_)
          refine L_op rfl (X_move (v := (.int .i64 (((A : Nat) : Int)))) rfl ?_)
          by_cases hc14 : (((i : Nat) : Int) : Int) < (((A : Nat) : Int))
          · refine L_op rfl (X_cmp (k := .i64) (a := ((i : Nat) : Int)) (b := ((A : Nat) : Int)) (r := true) rfl rfl rfl (decide_eq_true (p := ((((i : Nat) : Int)) : Int) < ((((A : Nat) : Int)) : Int)) (by omega)) ?_)
            refine L_op rfl (X_assign (v := (.bool (true))) rfl ?_)
            refine L_nil ?_
            refine T_n ?_
            refine W_ct rfl ?_
            refine W_reg ?_
            refine L_op rfl (X_move (v := va) rfl ?_)
            refine L_op rfl (X_move (v := (.int .i64 (((i : Nat) : Int)))) rfl ?_)
            refine L_op rfl (X_idx (v := va) (n := fs.length) (k := .i64) (i := ((i : Nat) : Int)) S22 rfl hsvva rfl (by omega) (by omega) ?_)
            obtain ⟨e, hee⟩ : ∃ e, fs[i]? = some e := ⟨_, List.getElem?_eq_getElem (by omega)⟩
            have hde : d = e.2 := by rw [if_pos (by omega), ← hfs, List.getElem?_map, hee] at hd; exact (Option.some.inj hd).symm
            refine L_op rfl (X_loadA (xs := e.1 :: ptC e.2.2) A39 rfl (kall hA (Int.toNat_natCast _) hee) rfl ?_)
            refine L_op0 (X_storeW (b := b12) (ys := (e.1 :: ptC e.2.2)) A39 rfl rfl (kone hA hee) rfl hB12 rfl ?_)
            intro w15 hu15 hb15
            have hz15 := hu15.size
            replace hl := hl.upd hu15 fun i h1 h2 h => by have h : i = b12 := h; omega
            replace hr := hr.upd hu15 fun i h1 h2 h => by have h : i = b12 := h; omega
            replace hA := hA.upd hu15 fun i h1 h2 h => by have h : i = b12 := h; omega
            replace hB := hB.upd hu15 fun i h1 h2 h => by have h : i = b12 := h; omega
            replace hRow := hRow.upd hu15 fun i hi h => by have hi := hrow_b _ hi; have h : i = b12 := h; omega
            replace hKB := fun (j : Nat) (e : KE) hj he => (hKB j e hj he).upd hu15 fun i h1 h2 h => by have h : i = b12 := h; omega
            replace hU := hU.trans (hu15.mono fun i _ h => by have h : i = b12 := h; show n0 ≤ i; omega)
            replace hB12 := hb15
            refine L_nil ?_
            refine B_n ?_
            refine T_n ?_
            refine W_seq ?_
            refine W_seq ?_
            rcases Bool.eq_false_or_eq_true (decide (0 < i)) with hs16 | hs16
            · have hi0 := of_decide_eq_true hs16
              rw [if_neg (by omega), hde] at hxd
              have hxp : y_.2.2 = e.2.2 := by rw [hxd]
              have hxk : y_.2.1 = e.2.1 := by rw [hxd]
              refine W_draw 30 [[], [], [0, 1], [0, 1, 2], [0, 1, 2, 3], [], [5], [0, 1, 2, 3, 4, 5, 6], [0, 1, 2, 3, 4, 5, 6, 7], [0, 1, 2, 3, 4, 5, 6, 7, 8], [0, 1, 2, 3, 4, 5, 6, 7, 8, 9], [0, 1, 2, 3, 4, 5, 6, 7, 8, 9, 10], [0, 1, 2, 3, 4, 5, 6, 7, 8, 9, 10, 11], [0, 1, 2, 3, 4, 5, 6, 7, 8, 9, 10, 11], [0, 1, 2, 3, 4, 5, 6, 7, 8, 9, 10, 11, 12, 13], [0, 1, 2, 3, 4, 5, 6, 7, 8, 9, 10, 11, 12, 13, 14], [0, 1, 2, 3, 4, 5, 6, 7, 8, 9, 10, 11, 12, 13, 14, 15], [0, 1, 2, 3, 4, 5, 6, 7, 8, 9, 10, 11, 12, 13, 14, 15, 16], [0, 1, 2, 3, 4, 5, 6, 7, 8, 9, 10, 11], [0, 1, 2, 3, 4, 5, 6, 7, 8, 9, 10, 11, 18], [0, 1, 2, 3, 4, 5, 6, 7, 8, 9, 10, 11, 18, 19], [0, 1, 2, 3, 4, 5, 6, 7, 8, 9, 10, 11, 12, 13, 14, 15, 16, 17, 18, 19, 20], [0, 1, 2, 3, 4, 5, 6, 7, 8, 9, 10, 11, 12, 13, 14, 15, 16, 17, 18, 19, 20, 21], [0, 1, 2, 3, 4, 5, 6, 7, 8, 9, 10, 11, 12, 13, 14, 15, 16, 17, 18, 19, 20, 21, 22], [0, 1, 2, 3, 4, 5, 6, 7, 8, 9, 10, 11, 12, 13, 14, 15, 16, 17, 18, 19, 20, 21, 22, 23], [0, 1, 2, 3, 4, 5, 6, 7, 8, 9, 10, 11, 12, 13, 14, 15, 16, 17, 18, 19, 20, 21, 22, 23, 24], [0, 1, 2, 3, 4, 5, 6, 7, 8, 9, 10, 11, 12, 13, 14, 15, 16, 17, 18, 19, 20, 21, 22, 23, 24, 25], [0, 1, 2, 3, 4, 5, 6, 7, 8, 9, 10, 11, 12, 13, 14, 15, 16, 17, 18, 19, 20, 21, 22, 23, 24, 25, 26], [0, 1, 2, 3, 4, 5, 6, 7, 8, 9, 10, 11, 12, 13, 14, 15, 16, 17, 18, 19, 20, 21, 22, 23, 24, 25, 26, 27], [0, 1, 2, 3, 4, 5, 6, 7, 8, 9, 10, 11, 12, 13, 14, 15, 16, 17, 18, 19, 20, 21, 22, 23, 24, 25, 26, 27], [0, 1, 2, 3, 4, 5, 6, 7, 8, 9, 10, 11, 12, 13, 14, 15, 16, 17, 18, 19, 20, 21, 22, 23, 24, 25, 26, 27, 28, 29], [0, 1, 2, 3, 4, 5, 6, 7, 8, 9, 10, 11, 12, 13, 14, 15, 16, 17, 18, 19, 20, 21, 22, 23, 24, 25, 26, 27, 28, 29, 30], [0, 1, 2, 3, 4, 5, 6, 7, 8, 9, 10, 11, 12, 13, 14, 15, 16, 17, 18, 19, 20, 21, 22, 23, 24, 25, 26, 27, 28, 29, 30, 31], [0, 1, 2, 3, 4, 5, 6, 7, 8, 9, 10, 11, 12, 13, 14, 15, 16, 17, 18, 19, 20, 21, 22, 23, 24, 25, 26, 27, 28, 29, 30, 31, 32], [0, 1, 2, 3, 4, 5, 6, 7, 8, 9, 10, 11, 12, 13, 14, 15, 16, 17, 18, 19, 20, 21, 22, 23, 24, 25, 26, 27, 28, 29, 30, 31, 32, 33], [0, 1, 2, 3, 4, 5, 6, 7, 8, 9, 10, 11, 12, 13, 14, 15, 16, 17, 18, 19, 20, 21, 22, 23, 24, 25, 26, 27, 28, 29, 30, 31, 32, 33, 34], [0, 1, 2, 3, 4, 5, 6, 7, 8, 9, 10, 11, 12, 13, 14, 15, 16, 17, 18, 19, 20, 21, 22, 23, 24, 25, 26, 27, 28, 29, 30, 31, 32, 33, 34, 35]] mixed (by kernel_rfl) ?_
              refine ⟨.det (fun val => vg), ⟨fun _ _ hv => rfl, fun _ _ _ _ _ => trivial⟩, fun val h_ W hx he => ⟨trivial, ?_⟩, ?_⟩
              · replace hx := (Upd.drew _ _).trans hx
                replace hl := hl.ext hx
                replace hr := hr.ext hx
                replace hA := hA.ext hx
                replace hB := hB.ext hx
                replace hRow := hRow.ext hx
                replace hKB := fun (j : Nat) (e : KE) hj he => (hKB j e hj he).ext hx
                replace hB12 := hB12.ext hx
                have hE := Upd.refl (fun _ => False) W
                refine id (X_move (v := vg) rfl ?_)
                exact ⟨hE, rfl⟩
              refine ⟨.det (fun val => (.int .i64 (((i : Nat) : Int)))), ⟨fun _ _ hv => rfl, fun _ _ _ _ _ => trivial⟩, fun val h_ W hx he => ⟨trivial, ?_⟩, ?_⟩
              · replace hx := (Upd.drew _ _).trans hx
                replace hl := hl.ext hx
                replace hr := hr.ext hx
                replace hA := hA.ext hx
                replace hB := hB.ext hx
                replace hRow := hRow.ext hx
                replace hKB := fun (j : Nat) (e : KE) hj he => (hKB j e hj he).ext hx
                replace hB12 := hB12.ext hx
                have hE := Upd.refl (fun _ => False) W
                refine id (X_move (v := (.int .i64 (((i : Nat) : Int)))) rfl ?_)
                exact ⟨hE, rfl⟩
              refine ⟨.det (fun val => (pof vg ((((i : Nat) : Int) : Int).toNat * 6))), ⟨fun _ _ hv => rfl, fun _ _ _ _ _ => trivial⟩, fun val h_ W hx he => ⟨trivial, ?_⟩, ?_⟩
              · replace hx := (Upd.drew _ _).trans hx
                replace hl := hl.ext hx
                replace hr := hr.ext hx
                replace hA := hA.ext hx
                replace hB := hB.ext hx
                replace hRow := hRow.ext hx
                replace hKB := fun (j : Nat) (e : KE) hj he => (hKB j e hj he).ext hx
                replace hB12 := hB12.ext hx
                have hE := Upd.refl (fun _ => False) W
                refine id (X_idx (v := vg) (n := gs.length) (k := .i64) (i := ((i : Nat) : Int)) S22 rfl hsvg rfl (by omega) (by omega) ?_)
                exact ⟨hE, rfl⟩
              refine ⟨.det (fun val => (pof vg ((((i : Nat) : Int) : Int).toNat * 6 + 1))), ⟨fun _ _ hv => rfl, fun _ _ _ _ _ => trivial⟩, fun val h_ W hx he => ⟨trivial, ?_⟩, ?_⟩
              · replace hx := (Upd.drew _ _).trans hx
                replace hl := hl.ext hx
                replace hr := hr.ext hx
                replace hA := hA.ext hx
                replace hB := hB.ext hx
                replace hRow := hRow.ext hx
                replace hKB := fun (j : Nat) (e : KE) hj he => (hKB j e hj he).ext hx
                replace hB12 := hB12.ext hx
                have hE := Upd.refl (fun _ => False) W
                refine id (X_fldS (v := vg) (o := (((i : Nat) : Int) : Int).toNat * 6) Fd39_1 rfl hsvg (by omega) ?_)
                exact ⟨hE, rfl⟩
              refine ⟨.det (fun val => (.agg (ptC y_.2.2).toArray)), ⟨fun _ _ hv => rfl, fun _ _ _ _ _ => trivial⟩, fun val h_ W hx he => ⟨trivial, ?_⟩, ?_⟩
              · replace hx := (Upd.drew _ _).trans hx
                replace hl := hl.ext hx
                replace hr := hr.ext hx
                replace hA := hA.ext hx
                replace hB := hB.ext hx
                replace hRow := hRow.ext hx
                replace hKB := fun (j : Nat) (e : KE) hj he => (hKB j e hj he).ext hx
                replace hB12 := hB12.ext hx
                have hE := Upd.refl (fun _ => False) W
                refine id (X_loadA (xs := ptC y_.2.2) A37 rfl (kptrR hRow.rd (Int.toNat_natCast _) hy_) rfl ?_)
                exact ⟨hE, rfl⟩
              refine ⟨.det (fun val => (ptr b12 (1))), ⟨fun _ _ hv => rfl, fun _ _ _ _ _ => trivial⟩, fun val h_ W hx he => ⟨trivial, ?_⟩, ?_⟩
              · replace hx := (Upd.drew _ _).trans hx
                replace hl := hl.ext hx
                replace hr := hr.ext hx
                replace hA := hA.ext hx
                replace hB := hB.ext hx
                replace hRow := hRow.ext hx
                replace hKB := fun (j : Nat) (e : KE) hj he => (hKB j e hj he).ext hx
                replace hB12 := hB12.ext hx
                have hE := Upd.refl (fun _ => False) W
                refine id (X_fldP (b := b12) (o := 0) (r := 1) Fd39_1 rfl rfl ?_)
                exact ⟨hE, rfl⟩
              refine ⟨.det (fun val => (.agg (ptC e.2.2).toArray)), ⟨fun _ _ hv => rfl, fun _ _ _ _ _ => trivial⟩, fun val h_ W hx he => ⟨trivial, ?_⟩, ?_⟩
              · replace hx := (Upd.drew _ _).trans hx
                replace hl := hl.ext hx
                replace hr := hr.ext hx
                replace hA := hA.ext hx
                replace hB := hB.ext hx
                replace hRow := hRow.ext hx
                replace hKB := fun (j : Nat) (e : KE) hj he => (hKB j e hj he).ext hx
                replace hB12 := hB12.ext hx
                have hE := Upd.refl (fun _ => False) W
                refine id (X_loadA (xs := ptC e.2.2) A37 rfl (hB12.at_ 1 (ptC e.2.2) (fun j u hj => by rw [Nat.add_comm]; simpa using hj)) rfl ?_)
                exact ⟨hE, rfl⟩
              refine ⟨.det (fun val => (.bool (false))), ⟨fun _ _ hv => rfl, fun _ _ _ _ _ => trivial⟩, fun val h_ W hx he => ⟨trivial, ?_⟩, ?_⟩
              · replace hx := (Upd.drew _ _).trans hx
                replace hl := hl.ext hx
                replace hr := hr.ext hx
                replace hA := hA.ext hx
                replace hB := hB.ext hx
                replace hRow := hRow.ext hx
                replace hKB := fun (j : Nat) (e : KE) hj he => (hKB j e hj he).ext hx
                replace hB12 := hB12.ext hx
                have hE := Upd.refl (fun _ => False) W
                refine id (X_eqP (p := y_.2.2) (q := e.2.2) (r := false) Try.underlying37 u37 (by kernel_rfl) (by decide) ⟨rfl, rfl, rfl, rfl⟩ Try.underlying5 Try.underlying33 (by kernel_rfl) Try.underlying32 (ie := _) rfl (by kernel_rfl) Try.underlying34 Try.underlying35 (by kernel_rfl) rfl rfl (.inr ⟨rfl, by rw [hxp, beq_self_eq_true]; rfl⟩) ?_)
                exact ⟨hE, rfl⟩
              refine ⟨.det (fun val => (.bool (false))), ⟨fun _ _ hv => rfl, fun _ _ _ _ _ => trivial⟩, fun val h_ W hx he => ⟨trivial, ?_⟩, ?_⟩
              · replace hx := (Upd.drew _ _).trans hx
                replace hl := hl.ext hx
                replace hr := hr.ext hx
                replace hA := hA.ext hx
                replace hB := hB.ext hx
                replace hRow := hRow.ext hx
                replace hKB := fun (j : Nat) (e : KE) hj he => (hKB j e hj he).ext hx
                replace hB12 := hB12.ext hx
                have hE := Upd.refl (fun _ => False) W
                refine id (X_move (v := (.bool (false))) rfl ?_)
                exact ⟨hE, rfl⟩
              refine ⟨.det (fun val => (.int .i64 (((i : Nat) : Int)))), ⟨fun _ _ hv => rfl, fun _ _ _ _ _ => trivial⟩, fun val h_ W hx he => ⟨⟨96, rfl, rfl⟩, ?_⟩, ?_⟩
              · replace hx := (Upd.drew _ _).trans hx
                replace hl := hl.ext hx
                replace hr := hr.ext hx
                replace hA := hA.ext hx
                replace hB := hB.ext hx
                replace hRow := hRow.ext hx
                replace hKB := fun (j : Nat) (e : KE) hj he => (hKB j e hj he).ext hx
                replace hB12 := hB12.ext hx
                have hE := Upd.refl (fun _ => False) W
                refine id (X_move (v := (.int .i64 (((i : Nat) : Int)))) rfl ?_)
                exact ⟨hE, rfl⟩
              refine ⟨.det (fun val => (.bool (true))), ⟨fun _ _ hv => rfl, fun _ _ _ _ _ => trivial⟩, fun val h_ W hx he => ⟨⟨96, rfl, rfl⟩, ?_⟩, ?_⟩
              · replace hx := (Upd.drew _ _).trans hx
                replace hl := hl.ext hx
                replace hr := hr.ext hx
                replace hA := hA.ext hx
                replace hB := hB.ext hx
                replace hRow := hRow.ext hx
                replace hKB := fun (j : Nat) (e : KE) hj he => (hKB j e hj he).ext hx
                replace hB12 := hB12.ext hx
                have hE := Upd.refl (fun _ => False) W
                refine id (X_cmp (k := .i64) (a := ((i : Nat) : Int)) (b := 0) (r := true) rfl rfl rfl (decide_eq_true (p := ((0 : Int) < ((i : Nat) : Int))) (by omega)) ?_)
                exact ⟨hE, rfl⟩
              refine ⟨.det (fun val => (.bool (true))), ⟨fun _ _ hv => rfl, fun _ _ _ _ _ => trivial⟩, fun val h_ W hx he => ⟨⟨96, rfl, rfl⟩, ?_⟩, ?_⟩
              · replace hx := (Upd.drew _ _).trans hx
                replace hl := hl.ext hx
                replace hr := hr.ext hx
                replace hA := hA.ext hx
                replace hB := hB.ext hx
                replace hRow := hRow.ext hx
                replace hKB := fun (j : Nat) (e : KE) hj he => (hKB j e hj he).ext hx
                replace hB12 := hB12.ext hx
                have hE := Upd.refl (fun _ => False) W
                refine id (X_move (v := (.bool (true))) rfl ?_)
                exact ⟨hE, rfl⟩
              refine ⟨.det (fun val => vg), ⟨fun _ _ hv => rfl, fun _ _ _ _ _ => trivial⟩, fun val h_ W hx he => ⟨⟨99, rfl, rfl⟩, ?_⟩, ?_⟩
              · replace hx := (Upd.drew _ _).trans hx
                replace hl := hl.ext hx
                replace hr := hr.ext hx
                replace hA := hA.ext hx
                replace hB := hB.ext hx
                replace hRow := hRow.ext hx
                replace hKB := fun (j : Nat) (e : KE) hj he => (hKB j e hj he).ext hx
                replace hB12 := hB12.ext hx
                have hE := Upd.refl (fun _ => False) W
                refine id (X_move (v := vg) rfl ?_)
                exact ⟨hE, rfl⟩
              refine ⟨.det (fun val => (.int .i64 (((i : Nat) : Int)))), ⟨fun _ _ hv => rfl, fun _ _ _ _ _ => trivial⟩, fun val h_ W hx he => ⟨⟨99, rfl, rfl⟩, ?_⟩, ?_⟩
              · replace hx := (Upd.drew _ _).trans hx
                replace hl := hl.ext hx
                replace hr := hr.ext hx
                replace hA := hA.ext hx
                replace hB := hB.ext hx
                replace hRow := hRow.ext hx
                replace hKB := fun (j : Nat) (e : KE) hj he => (hKB j e hj he).ext hx
                replace hB12 := hB12.ext hx
                have hE := Upd.refl (fun _ => False) W
                refine id (X_move (v := (.int .i64 (((i : Nat) : Int)))) rfl ?_)
                exact ⟨hE, rfl⟩
              refine ⟨.det (fun val => (pof vg ((((i : Nat) : Int) : Int).toNat * 6))), ⟨fun _ _ hv => rfl, fun _ _ _ _ _ => trivial⟩, fun val h_ W hx he => ⟨⟨99, rfl, rfl⟩, ?_⟩, ?_⟩
              · replace hx := (Upd.drew _ _).trans hx
                replace hl := hl.ext hx
                replace hr := hr.ext hx
                replace hA := hA.ext hx
                replace hB := hB.ext hx
                replace hRow := hRow.ext hx
                replace hKB := fun (j : Nat) (e : KE) hj he => (hKB j e hj he).ext hx
                replace hB12 := hB12.ext hx
                have hE := Upd.refl (fun _ => False) W
                refine id (X_idx (v := vg) (n := gs.length) (k := .i64) (i := ((i : Nat) : Int)) S22 rfl hsvg rfl (by omega) (by omega) ?_)
                exact ⟨hE, rfl⟩
              refine ⟨.det (fun val => (pof vg ((((i : Nat) : Int) : Int).toNat * 6 + 0))), ⟨fun _ _ hv => rfl, fun _ _ _ _ _ => trivial⟩, fun val h_ W hx he => ⟨⟨99, rfl, rfl⟩, ?_⟩, ?_⟩
              · replace hx := (Upd.drew _ _).trans hx
                replace hl := hl.ext hx
                replace hr := hr.ext hx
                replace hA := hA.ext hx
                replace hB := hB.ext hx
                replace hRow := hRow.ext hx
                replace hKB := fun (j : Nat) (e : KE) hj he => (hKB j e hj he).ext hx
                replace hB12 := hB12.ext hx
                have hE := Upd.refl (fun _ => False) W
                refine id (X_fldS (v := vg) (o := (((i : Nat) : Int) : Int).toNat * 6) Fd39_0 rfl hsvg (by omega) ?_)
                exact ⟨hE, rfl⟩
              refine ⟨.det (fun val => y_.1), ⟨fun _ _ hv => rfl, fun _ _ _ _ _ => trivial⟩, fun val h_ W hx he => ⟨⟨99, rfl, rfl⟩, ?_⟩, ?_⟩
              · replace hx := (Upd.drew _ _).trans hx
                replace hl := hl.ext hx
                replace hr := hr.ext hx
                replace hA := hA.ext hx
                replace hB := hB.ext hx
                replace hRow := hRow.ext hx
                replace hKB := fun (j : Nat) (e : KE) hj he => (hKB j e hj he).ext hx
                replace hB12 := hB12.ext hx
                have hE := Upd.refl (fun _ => False) W
                refine id (X_load (v := y_.1) T23 rfl (kkeyR hRow.rd (Int.toNat_natCast _) hy_) ?_)
                exact ⟨hE, rfl⟩
              refine ⟨.det (fun val => (strV (y_.2.1))), ⟨fun _ _ hv => rfl, fun _ _ _ _ _ => trivial⟩, fun val h_ W hx he => ⟨⟨99, rfl, rfl⟩, ?_⟩, ?_⟩
              · replace hx := (Upd.drew _ _).trans hx
                replace hl := hl.ext hx
                replace hr := hr.ext hx
                replace hA := hA.ext hx
                replace hB := hB.ext hx
                replace hRow := hRow.ext hx
                replace hKB := fun (j : Nat) (e : KE) hj he => (hKB j e hj he).ext hx
                replace hB12 := hB12.ext hx
                have hE := Upd.refl (fun _ => False) W
                refine id (X_str (v := y_.1) (l := y_.2.1) Try.underlying23 Try.underlying5 Try.underlying9 rfl (hKB i y_ (Nat.le_refl _) hy_).1.rd ?_)
                exact ⟨hE, rfl⟩
              refine ⟨.det (fun val => (ptr b12 (0))), ⟨fun _ _ hv => rfl, fun _ _ _ _ _ => trivial⟩, fun val h_ W hx he => ⟨⟨99, rfl, rfl⟩, ?_⟩, ?_⟩
              · replace hx := (Upd.drew _ _).trans hx
                replace hl := hl.ext hx
                replace hr := hr.ext hx
                replace hA := hA.ext hx
                replace hB := hB.ext hx
                replace hRow := hRow.ext hx
                replace hKB := fun (j : Nat) (e : KE) hj he => (hKB j e hj he).ext hx
                replace hB12 := hB12.ext hx
                have hE := Upd.refl (fun _ => False) W
                refine id (X_fldP (b := b12) (o := 0) (r := 0) Fd39_0 rfl rfl ?_)
                exact ⟨hE, rfl⟩
              refine ⟨.det (fun val => e.1), ⟨fun _ _ hv => rfl, fun _ _ _ _ _ => trivial⟩, fun val h_ W hx he => ⟨⟨99, rfl, rfl⟩, ?_⟩, ?_⟩
              · replace hx := (Upd.drew _ _).trans hx
                replace hl := hl.ext hx
                replace hr := hr.ext hx
                replace hA := hA.ext hx
                replace hB := hB.ext hx
                replace hRow := hRow.ext hx
                replace hKB := fun (j : Nat) (e : KE) hj he => (hKB j e hj he).ext hx
                replace hB12 := hB12.ext hx
                have hE := Upd.refl (fun _ => False) W
                refine id (X_load (p := (ptr b12 (0))) (v := e.1) T23 rfl (hB12.at1 rfl) ?_)
                exact ⟨hE, rfl⟩
              refine ⟨.det (fun val => (strV (e.2.1))), ⟨fun _ _ hv => rfl, fun _ _ _ _ _ => trivial⟩, fun val h_ W hx he => ⟨⟨99, rfl, rfl⟩, ?_⟩, ?_⟩
              · replace hx := (Upd.drew _ _).trans hx
                replace hl := hl.ext hx
                replace hr := hr.ext hx
                replace hA := hA.ext hx
                replace hB := hB.ext hx
                replace hRow := hRow.ext hx
                replace hKB := fun (j : Nat) (e : KE) hj he => (hKB j e hj he).ext hx
                replace hB12 := hB12.ext hx
                have hE := Upd.refl (fun _ => False) W
                refine id (X_str (v := e.1) (l := e.2.1) Try.underlying23 Try.underlying5 Try.underlying9 rfl (krd hA hee) ?_)
                exact ⟨hE, rfl⟩
              refine ⟨.det (fun val => (.bool (false))), ⟨fun _ _ hv => rfl, fun _ _ _ _ _ => trivial⟩, fun val h_ W hx he => ⟨⟨99, rfl, rfl⟩, ?_⟩, ?_⟩
              · replace hx := (Upd.drew _ _).trans hx
                replace hl := hl.ext hx
                replace hr := hr.ext hx
                replace hA := hA.ext hx
                replace hB := hB.ext hx
                replace hRow := hRow.ext hx
                replace hKB := fun (j : Nat) (e : KE) hj he => (hKB j e hj he).ext hx
                replace hB12 := hB12.ext hx
                have hE := Upd.refl (fun _ => False) W
                refine id (X_scmp (a := y_.2.1) (b := e.2.1) (r := false) rfl rfl rfl (by show (!(y_.2.1 == e.2.1)) = false; rw [hxk, beq_self_eq_true]; rfl) ?_)
                exact ⟨hE, rfl⟩
              refine ⟨.det (fun val => (.bool (false))), ⟨fun _ _ hv => rfl, fun _ _ _ _ _ => trivial⟩, fun val h_ W hx he => ⟨⟨96, rfl, rfl⟩, ?_⟩, ?_⟩
              · replace hx := (Upd.drew _ _).trans hx
                replace hl := hl.ext hx
                replace hr := hr.ext hx
                replace hA := hA.ext hx
                replace hB := hB.ext hx
                replace hRow := hRow.ext hx
                replace hKB := fun (j : Nat) (e : KE) hj he => (hKB j e hj he).ext hx
                replace hB12 := hB12.ext hx
                have hE := Upd.refl (fun _ => False) W
                refine id (X_pick (t := true) (v := (.bool (false))) rfl rfl ?_)
                exact ⟨hE, rfl⟩
              refine ⟨.det (fun val => (.bool (false))), ⟨fun _ _ hv => rfl, fun _ _ _ _ _ => trivial⟩, fun val h_ W hx he => ⟨trivial, ?_⟩, ?_⟩
              · replace hx := (Upd.drew _ _).trans hx
                replace hl := hl.ext hx
                replace hr := hr.ext hx
                replace hA := hA.ext hx
                replace hB := hB.ext hx
                replace hRow := hRow.ext hx
                replace hKB := fun (j : Nat) (e : KE) hj he => (hKB j e hj he).ext hx
                replace hB12 := hB12.ext hx
                have hE := Upd.refl (fun _ => False) W
                refine id (X_pick (t := false) (v := (.bool (false))) rfl rfl ?_)
                exact ⟨hE, rfl⟩
              refine ⟨.det (fun val => (.bool (false))), ⟨fun _ _ hv => rfl, fun _ _ _ _ _ => trivial⟩, fun val h_ W hx he => ⟨trivial, ?_⟩, ?_⟩
              · replace hx := (Upd.drew _ _).trans hx
                replace hl := hl.ext hx
                replace hr := hr.ext hx
                replace hA := hA.ext hx
                replace hB := hB.ext hx
                replace hRow := hRow.ext hx
                replace hKB := fun (j : Nat) (e : KE) hj he => (hKB j e hj he).ext hx
                replace hB12 := hB12.ext hx
                have hE := Upd.refl (fun _ => False) W
                refine id (X_move (v := (.bool (false))) rfl ?_)
                exact ⟨hE, rfl⟩
              refine ⟨.det (fun val => (.int .i64 (((i : Nat) : Int)))), ⟨fun _ _ hv => rfl, fun _ _ _ _ _ => trivial⟩, fun val h_ W hx he => ⟨⟨112, rfl, rfl⟩, ?_⟩, ?_⟩
              · replace hx := (Upd.drew _ _).trans hx
                replace hl := hl.ext hx
                replace hr := hr.ext hx
                replace hA := hA.ext hx
                replace hB := hB.ext hx
                replace hRow := hRow.ext hx
                replace hKB := fun (j : Nat) (e : KE) hj he => (hKB j e hj he).ext hx
                replace hB12 := hB12.ext hx
                have hE := Upd.refl (fun _ => False) W
                refine id (X_move (v := (.int .i64 (((i : Nat) : Int)))) rfl ?_)
                exact ⟨hE, rfl⟩
              refine ⟨.det (fun val => (.bool (false))), ⟨fun _ _ hv => rfl, fun _ _ _ _ _ => trivial⟩, fun val h_ W hx he => ⟨⟨112, rfl, rfl⟩, ?_⟩, ?_⟩
              · replace hx := (Upd.drew _ _).trans hx
                replace hl := hl.ext hx
                replace hr := hr.ext hx
                replace hA := hA.ext hx
                replace hB := hB.ext hx
                replace hRow := hRow.ext hx
                replace hKB := fun (j : Nat) (e : KE) hj he => (hKB j e hj he).ext hx
                replace hB12 := hB12.ext hx
                have hE := Upd.refl (fun _ => False) W
                refine id (X_cmp (k := .i64) (a := ((i : Nat) : Int)) (b := 0) (r := false) rfl rfl rfl (decide_eq_false (p := (((i : Nat) : Int) = (0 : Int))) (by omega)) ?_)
                exact ⟨hE, rfl⟩
              refine ⟨.det (fun val => (.bool (false))), ⟨fun _ _ hv => rfl, fun _ _ _ _ _ => trivial⟩, fun val h_ W hx he => ⟨⟨112, rfl, rfl⟩, ?_⟩, ?_⟩
              · replace hx := (Upd.drew _ _).trans hx
                replace hl := hl.ext hx
                replace hr := hr.ext hx
                replace hA := hA.ext hx
                replace hB := hB.ext hx
                replace hRow := hRow.ext hx
                replace hKB := fun (j : Nat) (e : KE) hj he => (hKB j e hj he).ext hx
                replace hB12 := hB12.ext hx
                have hE := Upd.refl (fun _ => False) W
                refine id (X_move (v := (.bool (false))) rfl ?_)
                exact ⟨hE, rfl⟩
              refine ⟨.no, ⟨fun _ _ _ => trivial, fun _ _ _ _ _ => trivial⟩, fun val h_ W hx he => ⟨115, rfl, .inl rfl⟩, ?_⟩
              refine ⟨.no, ⟨fun _ _ _ => trivial, fun _ _ _ _ _ => trivial⟩, fun val h_ W hx he => ⟨115, rfl, .inl rfl⟩, ?_⟩
              intro val W17 hx17 he17
              replace hx17 := (Upd.drew _ _).trans hx17
              have hz17 := hx17.size
              replace hl := hl.ext hx17
              replace hr := hr.ext hx17
              replace hA := hA.ext hx17
              replace hB := hB.ext hx17
              replace hRow := hRow.ext hx17
              replace hKB := fun (j : Nat) (e : KE) hj he => (hKB j e hj he).ext hx17
              replace hU := hU.trans (Ext.upd hx17)
              replace hB12 := hB12.ext hx17
              refine L_gn (dj := 115) (t := false) rfl rfl rfl rfl ?_
              refine L_gn (dj := 115) (t := false) rfl rfl rfl rfl ?_
              refine L_gn (dj := 115) (t := false) rfl rfl rfl rfl ?_
              refine L_gn (dj := 115) (t := false) rfl rfl rfl rfl ?_
              refine L_gn (dj := 115) (t := false) rfl rfl rfl rfl ?_
              refine L_gy (dj := 112) rfl rfl rfl (X_pick (t := false) (v := (.bool (false))) rfl rfl ?_)
              refine L_op rfl (X_pick (t := false) (v := (.bool (false))) rfl rfl ?_)
              refine L_nil ?_
              refine T_n ?_
              refine W_cf rfl ?_
              refine W_skip ?_
              refine T_n ?_
              refine W_seq ?_
              refine W_reg ?_
              refine L_op rfl (X_assign (v := (.int .i64 (0))) rfl ?_)
              refine L_nil ?_
              refine T_n ?_
              refine W_block ?_
              refine W_loop (α := Nat × List UInt8) [12, 125, 126, 127, 128, 129, 130, 131, 132, 133, 134, 135, 136, 137, 138, 139, 140, 141, 142, 143, 144, 145, 146, 147, 148, 149, 150] (fun ⟨j, kk⟩ => [(12, (.int .i64 (((j : Nat) : Int))))]) (fun ⟨j, kk⟩ w_ => j ≤ y_.2.1.length ∧ NRd LK w_ 0 n0 l es ∧ NRd LK w_ 0 n0 r ms ∧ NRd LK w_ loA upA va fs ∧ NRd LK w_ loB upB vb os ∧ Own w_ lo 39 6 vg gs.length (gs.flatMap LK.cel) ∧ Own w_ lo 5 1 y_.1 y_.2.1.length (kk.map byteV) ∧ (∀ (j : Nat) (e : KE), i + 1 ≤ j → gs[j]? = some e → BOwn w_ 5 lo up (e.1, e.2.1)) ∧ Upd (fun i => n0 ≤ i) w w_ ∧ up ≤ w_.heap.size) (fun ⟨j, kk⟩ => y_.2.1.length - j) ⟨rfl, (0, y_.2.1), ⟨Nat.zero_le _, hl, hr, hA, hB, hRow, (hKB i y_ (Nat.le_refl _) hy_).1, fun j e hj he => hKB j e (by omega) he, hU, by omega⟩, Out.refl _ _, ⟨rfl, trivial⟩⟩ ?_
              rintro ⟨j, kk⟩ w20 _ ⟨hjl, hl, hr, hA, hB, hRow, hKey, hKB, hU, hupw⟩
              have hsz_ := hU.size
              have hkkl : kk.length = y_.2.1.length := by have h := hKey.1; rw [List.length_map] at h; omega
              refine W_seq ?_
              refine W_seq ?_
              refine W_reg ?_
              refine L_op rfl (X_move (v := (.int .i64 (((j : Nat) : Int)))) rfl ?_)
              refine L_op rfl (X_move (v := vg) rfl ?_)
              refine L_op rfl (X_move (v := (.int .i64 (((i : Nat) : Int)))) rfl ?_)
              refine L_op rfl (X_idx (v := vg) (n := gs.length) (k := .i64) (i := ((i : Nat) : Int)) S22 rfl hsvg rfl (by omega) (by omega) ?_)
              refine L_op rfl (X_fldS (v := vg) (o := (((i : Nat) : Int) : Int).toNat * 6) Fd39_0 rfl hsvg (by omega) ?_)
              refine L_op rfl (X_load (v := y_.1) T23 rfl (kkeyR hRow.rd (Int.toNat_natCast _) hy_) ?_)
              refine L_op rfl (X_len (v := y_.1) (n := y_.2.1.length) Try.underlying23 rfl hKey.rd.sv ?_)
              by_cases hc22 : (((j : Nat) : Int) : Int) < (((y_.2.1.length : Nat) : Int))
              · refine L_op rfl (X_cmp (k := .i64) (a := ((j : Nat) : Int)) (b := ((y_.2.1.length : Nat) : Int)) (r := true) rfl rfl rfl (decide_eq_true (p := ((((j : Nat) : Int)) : Int) < ((((y_.2.1.length : Nat) : Int)) : Int)) (by omega)) ?_)
                have hj : j < y_.2.1.length := by omega
                obtain ⟨bx, hbx⟩ : ∃ u, kk[j]? = some u := ⟨_, List.getElem?_eq_getElem (by omega)⟩
                obtain ⟨bz, hbz⟩ : ∃ u : UInt8, iop .xor .u8 ((bx.toNat : Nat) : Int) 1 = ((u.toNat : Nat) : Int) := u8_any _
                refine L_nil ?_
                refine T_n ?_
                refine W_ct rfl ?_
                refine W_skip ?_
                refine T_n ?_
                refine W_seq ?_
                refine W_block ?_
                refine W_draw 15 [[], [], [0, 1], [0, 1, 2], [0, 1, 2, 3], [], [], [], [6, 7], [6, 7, 8], [6, 7, 8, 9], [], [6, 7, 8, 9, 10, 11], [6, 7, 8, 9, 10, 11, 12], [6, 7, 8, 9, 10, 11, 12, 13], [0, 1, 2, 3, 4, 5, 6, 7, 8, 9, 10, 11, 12, 13, 14], [0, 1, 2, 3, 4, 5, 6, 7, 8, 9, 10, 11, 12, 13, 14, 15]] mixed (by kernel_rfl) ?_
                refine ⟨.det (fun val => vg), ⟨fun _ _ hv => rfl, fun _ _ _ _ _ => trivial⟩, fun val h_ W hx he => ⟨trivial, ?_⟩, ?_⟩
                · replace hx := (Upd.drew _ _).trans hx
                  replace hl := hl.ext hx
                  replace hr := hr.ext hx
                  replace hA := hA.ext hx
                  replace hB := hB.ext hx
                  replace hRow := hRow.ext hx
                  replace hKB := fun (j : Nat) (e : KE) hj he => (hKB j e hj he).ext hx
                  replace hKey := hKey.ext hx
                  have hE := Upd.refl (fun _ => False) W
                  refine id (X_move (v := vg) rfl ?_)
                  exact ⟨hE, rfl⟩
                refine ⟨.det (fun val => (.int .i64 (((i : Nat) : Int)))), ⟨fun _ _ hv => rfl, fun _ _ _ _ _ => trivial⟩, fun val h_ W hx he => ⟨trivial, ?_⟩, ?_⟩
                · replace hx := (Upd.drew _ _).trans hx
                  replace hl := hl.ext hx
                  replace hr := hr.ext hx
                  replace hA := hA.ext hx
                  replace hB := hB.ext hx
                  replace hRow := hRow.ext hx
                  replace hKB := fun (j : Nat) (e : KE) hj he => (hKB j e hj he).ext hx
                  replace hKey := hKey.ext hx
                  have hE := Upd.refl (fun _ => False) W
                  refine id (X_move (v := (.int .i64 (((i : Nat) : Int)))) rfl ?_)
                  exact ⟨hE, rfl⟩
                refine ⟨.det (fun val => (pof vg ((((i : Nat) : Int) : Int).toNat * 6))), ⟨fun _ _ hv => rfl, fun _ _ _ _ _ => trivial⟩, fun val h_ W hx he => ⟨trivial, ?_⟩, ?_⟩
                · replace hx := (Upd.drew _ _).trans hx
                  replace hl := hl.ext hx
                  replace hr := hr.ext hx
                  replace hA := hA.ext hx
                  replace hB := hB.ext hx
                  replace hRow := hRow.ext hx
                  replace hKB := fun (j : Nat) (e : KE) hj he => (hKB j e hj he).ext hx
                  replace hKey := hKey.ext hx
                  have hE := Upd.refl (fun _ => False) W
                  refine id (X_idx (v := vg) (n := gs.length) (k := .i64) (i := ((i : Nat) : Int)) S22 rfl hsvg rfl (by omega) (by omega) ?_)
                  exact ⟨hE, rfl⟩
                refine ⟨.det (fun val => (pof vg ((((i : Nat) : Int) : Int).toNat * 6 + 0))), ⟨fun _ _ hv => rfl, fun _ _ _ _ _ => trivial⟩, fun val h_ W hx he => ⟨trivial, ?_⟩, ?_⟩
                · replace hx := (Upd.drew _ _).trans hx
                  replace hl := hl.ext hx
                  replace hr := hr.ext hx
                  replace hA := hA.ext hx
                  replace hB := hB.ext hx
                  replace hRow := hRow.ext hx
                  replace hKB := fun (j : Nat) (e : KE) hj he => (hKB j e hj he).ext hx
                  replace hKey := hKey.ext hx
                  have hE := Upd.refl (fun _ => False) W
                  refine id (X_fldS (v := vg) (o := (((i : Nat) : Int) : Int).toNat * 6) Fd39_0 rfl hsvg (by omega) ?_)
                  exact ⟨hE, rfl⟩
                refine ⟨.det (fun val => y_.1), ⟨fun _ _ hv => rfl, fun _ _ _ _ _ => trivial⟩, fun val h_ W hx he => ⟨trivial, ?_⟩, ?_⟩
                · replace hx := (Upd.drew _ _).trans hx
                  replace hl := hl.ext hx
                  replace hr := hr.ext hx
                  replace hA := hA.ext hx
                  replace hB := hB.ext hx
                  replace hRow := hRow.ext hx
                  replace hKB := fun (j : Nat) (e : KE) hj he => (hKB j e hj he).ext hx
                  replace hKey := hKey.ext hx
                  have hE := Upd.refl (fun _ => False) W
                  refine id (X_load (v := y_.1) T23 rfl (kkeyR hRow.rd (Int.toNat_natCast _) hy_) ?_)
                  exact ⟨hE, rfl⟩
                refine ⟨.det (fun val => (.int .i64 (((j : Nat) : Int)))), ⟨fun _ _ hv => rfl, fun _ _ _ _ _ => trivial⟩, fun val h_ W hx he => ⟨trivial, ?_⟩, ?_⟩
                · replace hx := (Upd.drew _ _).trans hx
                  replace hl := hl.ext hx
                  replace hr := hr.ext hx
                  replace hA := hA.ext hx
                  replace hB := hB.ext hx
                  replace hRow := hRow.ext hx
                  replace hKB := fun (j : Nat) (e : KE) hj he => (hKB j e hj he).ext hx
                  replace hKey := hKey.ext hx
                  have hE := Upd.refl (fun _ => False) W
                  refine id (X_move (v := (.int .i64 (((j : Nat) : Int)))) rfl ?_)
                  exact ⟨hE, rfl⟩
                refine ⟨.det (fun val => vg), ⟨fun _ _ hv => rfl, fun _ _ _ _ _ => trivial⟩, fun val h_ W hx he => ⟨trivial, ?_⟩, ?_⟩
                · replace hx := (Upd.drew _ _).trans hx
                  replace hl := hl.ext hx
                  replace hr := hr.ext hx
                  replace hA := hA.ext hx
                  replace hB := hB.ext hx
                  replace hRow := hRow.ext hx
                  replace hKB := fun (j : Nat) (e : KE) hj he => (hKB j e hj he).ext hx
                  replace hKey := hKey.ext hx
                  have hE := Upd.refl (fun _ => False) W
                  refine id (X_move (v := vg) rfl ?_)
                  exact ⟨hE, rfl⟩
                refine ⟨.det (fun val => (.int .i64 (((i : Nat) : Int)))), ⟨fun _ _ hv => rfl, fun _ _ _ _ _ => trivial⟩, fun val h_ W hx he => ⟨trivial, ?_⟩, ?_⟩
                · replace hx := (Upd.drew _ _).trans hx
                  replace hl := hl.ext hx
                  replace hr := hr.ext hx
                  replace hA := hA.ext hx
                  replace hB := hB.ext hx
                  replace hRow := hRow.ext hx
                  replace hKB := fun (j : Nat) (e : KE) hj he => (hKB j e hj he).ext hx
                  replace hKey := hKey.ext hx
                  have hE := Upd.refl (fun _ => False) W
                  refine id (X_move (v := (.int .i64 (((i : Nat) : Int)))) rfl ?_)
                  exact ⟨hE, rfl⟩
                refine ⟨.det (fun val => (pof vg ((((i : Nat) : Int) : Int).toNat * 6))), ⟨fun _ _ hv => rfl, fun _ _ _ _ _ => trivial⟩, fun val h_ W hx he => ⟨trivial, ?_⟩, ?_⟩
                · replace hx := (Upd.drew _ _).trans hx
                  replace hl := hl.ext hx
                  replace hr := hr.ext hx
                  replace hA := hA.ext hx
                  replace hB := hB.ext hx
                  replace hRow := hRow.ext hx
                  replace hKB := fun (j : Nat) (e : KE) hj he => (hKB j e hj he).ext hx
                  replace hKey := hKey.ext hx
                  have hE := Upd.refl (fun _ => False) W
                  refine id (X_idx (v := vg) (n := gs.length) (k := .i64) (i := ((i : Nat) : Int)) S22 rfl hsvg rfl (by omega) (by omega) ?_)
                  exact ⟨hE, rfl⟩
                refine ⟨.det (fun val => (pof vg ((((i : Nat) : Int) : Int).toNat * 6 + 0))), ⟨fun _ _ hv => rfl, fun _ _ _ _ _ => trivial⟩, fun val h_ W hx he => ⟨trivial, ?_⟩, ?_⟩
                · replace hx := (Upd.drew _ _).trans hx
                  replace hl := hl.ext hx
                  replace hr := hr.ext hx
                  replace hA := hA.ext hx
                  replace hB := hB.ext hx
                  replace hRow := hRow.ext hx
                  replace hKB := fun (j : Nat) (e : KE) hj he => (hKB j e hj he).ext hx
                  replace hKey := hKey.ext hx
                  have hE := Upd.refl (fun _ => False) W
                  refine id (X_fldS (v := vg) (o := (((i : Nat) : Int) : Int).toNat * 6) Fd39_0 rfl hsvg (by omega) ?_)
                  exact ⟨hE, rfl⟩
                refine ⟨.det (fun val => y_.1), ⟨fun _ _ hv => rfl, fun _ _ _ _ _ => trivial⟩, fun val h_ W hx he => ⟨trivial, ?_⟩, ?_⟩
                · replace hx := (Upd.drew _ _).trans hx
                  replace hl := hl.ext hx
                  replace hr := hr.ext hx
                  replace hA := hA.ext hx
                  replace hB := hB.ext hx
                  replace hRow := hRow.ext hx
                  replace hKB := fun (j : Nat) (e : KE) hj he => (hKB j e hj he).ext hx
                  replace hKey := hKey.ext hx
                  have hE := Upd.refl (fun _ => False) W
                  refine id (X_load (v := y_.1) T23 rfl (kkeyR hRow.rd (Int.toNat_natCast _) hy_) ?_)
                  exact ⟨hE, rfl⟩
                refine ⟨.det (fun val => (.int .i64 (((j : Nat) : Int)))), ⟨fun _ _ hv => rfl, fun _ _ _ _ _ => trivial⟩, fun val h_ W hx he => ⟨trivial, ?_⟩, ?_⟩
                · replace hx := (Upd.drew _ _).trans hx
                  replace hl := hl.ext hx
                  replace hr := hr.ext hx
                  replace hA := hA.ext hx
                  replace hB := hB.ext hx
                  replace hRow := hRow.ext hx
                  replace hKB := fun (j : Nat) (e : KE) hj he => (hKB j e hj he).ext hx
                  replace hKey := hKey.ext hx
                  have hE := Upd.refl (fun _ => False) W
                  refine id (X_move (v := (.int .i64 (((j : Nat) : Int)))) rfl ?_)
                  exact ⟨hE, rfl⟩
                refine ⟨.det (fun val => (pof y_.1 ((((j : Nat) : Int) : Int).toNat * 1))), ⟨fun _ _ hv => rfl, fun _ _ _ _ _ => trivial⟩, fun val h_ W hx he => ⟨trivial, ?_⟩, ?_⟩
                · replace hx := (Upd.drew _ _).trans hx
                  replace hl := hl.ext hx
                  replace hr := hr.ext hx
                  replace hA := hA.ext hx
                  replace hB := hB.ext hx
                  replace hRow := hRow.ext hx
                  replace hKB := fun (j : Nat) (e : KE) hj he => (hKB j e hj he).ext hx
                  replace hKey := hKey.ext hx
                  have hE := Upd.refl (fun _ => False) W
                  refine id (X_idx (v := y_.1) (n := y_.2.1.length) (k := .i64) (i := ((j : Nat) : Int)) S23 rfl hKey.rd.sv rfl (by omega) (by omega) ?_)
                  exact ⟨hE, rfl⟩
                refine ⟨.det (fun val => (.int .u8 (((bx.toNat : Nat) : Int)))), ⟨fun _ _ hv => rfl, fun _ _ _ _ _ => trivial⟩, fun val h_ W hx he => ⟨trivial, ?_⟩, ?_⟩
                · replace hx := (Upd.drew _ _).trans hx
                  replace hl := hl.ext hx
                  replace hr := hr.ext hx
                  replace hA := hA.ext hx
                  replace hB := hB.ext hx
                  replace hRow := hRow.ext hx
                  replace hKB := fun (j : Nat) (e : KE) hj he => (hKB j e hj he).ext hx
                  replace hKey := hKey.ext hx
                  have hE := Upd.refl (fun _ => False) W
                  refine id (X_load (v := .int .u8 ((bx.toNat : Nat) : Int)) T5 rfl (hKey.rd.cell (by rw [show (((j : Nat) : Int).toNat * 1) = j by omega, List.getElem?_map, hbx]; rfl)) ?_)
                  exact ⟨hE, rfl⟩
                refine ⟨.det (fun val => (.int .u8 (((bz.toNat : Nat) : Int)))), ⟨fun _ _ hv => rfl, fun _ _ _ _ _ => trivial⟩, fun val h_ W hx he => ⟨trivial, ?_⟩, ?_⟩
                · replace hx := (Upd.drew _ _).trans hx
                  replace hl := hl.ext hx
                  replace hr := hr.ext hx
                  replace hA := hA.ext hx
                  replace hB := hB.ext hx
                  replace hRow := hRow.ext hx
                  replace hKB := fun (j : Nat) (e : KE) hj he => (hKB j e hj he).ext hx
                  replace hKey := hKey.ext hx
                  have hE := Upd.refl (fun _ => False) W
                  refine id (X_arith (k := .u8) (a := ((bx.toNat : Nat) : Int)) (b := 1) (r := ((bz.toNat : Nat) : Int)) rfl rfl rfl hbz ?_)
                  exact ⟨hE, rfl⟩
                intro val W23 hx23 he23
                replace hx23 := (Upd.drew _ _).trans hx23
                have hz23 := hx23.size
                replace hl := hl.ext hx23
                replace hr := hr.ext hx23
                replace hA := hA.ext hx23
                replace hB := hB.ext hx23
                replace hRow := hRow.ext hx23
                replace hKB := fun (j : Nat) (e : KE) hj he => (hKB j e hj he).ext hx23
                replace hU := hU.trans (Ext.upd hx23)
                replace hKey := hKey.ext hx23
                refine L_op rfl (X_idx (v := y_.1) (n := y_.2.1.length) (k := .i64) (i := ((j : Nat) : Int)) S23 rfl hKey.rd.sv rfl (by omega) (by omega) ?_)
                refine L_op0 (X_storeOwn (i := ((j : Nat) : Int).toNat * 1) (v := y_.1) (u := .int .u8 ((bz.toNat : Nat) : Int)) T5 hKey (by omega) rfl rfl rfl ?_)
                intro w26 hO26 hu26
                have hz26 := hu26.size
                rw [show ((j : Nat) : Int).toNat * 1 = j by omega] at hO26
                replace hRow := hRow.upd hu26 fun i h1 h => absurd (hRow.types hKey h1 h) (by decide)
                replace hKB := fun (q : Nat) (e : KE) hq he => (⟨(hKB q e hq he).1.upd hu26 fun b hb h => dist_at hdi (show i < q by omega) hy_ he b h hb, (hKB q e hq he).2⟩ : BOwn w26 5 lo up (e.1, e.2.1))
                replace hl := hl.upd hu26 fun i h1 h2 h => by have h := hKey.lt h; omega
                replace hr := hr.upd hu26 fun i h1 h2 h => by have h := hKey.lt h; omega
                replace hA := hA.upd hu26 fun i h1 h2 h => by have h := hKey.lt h; omega
                replace hB := hB.upd hu26 fun i h1 h2 h => by have h := hKey.lt h; omega
                replace hU := hU.trans (hu26.mono fun i _ h => by have h := hKey.lt h; show n0 ≤ i; omega)
                replace hKey : Own w26 lo 5 1 y_.1 y_.2.1.length ((kk.set j bz).map byteV) := by rw [List.map_set]; exact hO26
                refine L_nil ?_
                refine B_n ?_
                refine T_n ?_
                refine W_reg ?_
                refine L_op rfl (X_move (v := (.int .i64 (((j : Nat) : Int)))) rfl ?_)
                refine L_op rfl (X_arith (k := .i64) (a := ((j : Nat) : Int)) (b := 1) (r := ((j + 1 : Nat) : Int)) rfl rfl rfl (iadd64 (by omega) (by omega) (by omega)) ?_)
                refine L_op rfl (X_assign (v := (.int .i64 (((j + 1 : Nat) : Int)))) rfl ?_)
                refine L_nil ?_
                refine T_n ?_
                exact ⟨rfl, (j + 1, kk.set j bz), ⟨⟨hj, hl, hr, hA, hB, hRow, hKey, hKB, hU, by omega⟩, (by show y_.2.1.length - (j + 1) < y_.2.1.length - j; omega)⟩, (Out.mk rfl), ⟨rfl, trivial⟩⟩
              · refine L_op rfl (X_cmp (k := .i64) (a := ((j : Nat) : Int)) (b := ((y_.2.1.length : Nat) : Int)) (r := false) rfl rfl rfl (decide_eq_false (p := ((((j : Nat) : Int)) : Int) < ((((y_.2.1.length : Nat) : Int)) : Int)) (by omega)) ?_)
                refine L_nil ?_
                refine T_n ?_
                refine W_cf rfl ?_
                refine W_exit ?_
                refine T_e ?_
                refine T_e ?_
                refine B_x ?_
                refine B_n ?_
                refine T_n ?_
                refine W_reg ?_
                refine L_op rfl (X_move (v := (.int .i64 (((i : Nat) : Int)))) rfl ?_)
                refine L_op rfl (X_arith (k := .i64) (a := ((i : Nat) : Int)) (b := 1) (r := ((i + 1 : Nat) : Int)) rfl rfl rfl (iadd64 (by omega) (by omega) (by omega)) ?_)
                refine L_op rfl (X_assign (v := (.int .i64 (((i + 1 : Nat) : Int)))) rfl ?_)
                refine L_nil ?_
                refine T_n ?_
                exact ⟨rfl, i + 1, ⟨⟨hi, hl, hr, hA, hB, hRow, hKB, hU, by omega⟩, (by show gs.length - (i + 1) < gs.length - i; omega)⟩, (Out.in_ rfl rfl (Out.mk rfl)), ⟨rfl, trivial⟩⟩
            · have hi0 := of_decide_eq_false hs16
              rw [if_pos (by omega), hde] at hxd
              have hxp : y_.2.2 = e.2.2 := by rw [hxd]
              have hx0 : y_.2.1.length = 0 := by rw [hxd]; rfl
              refine W_draw 30 [[], [], [0, 1], [0, 1, 2], [0, 1, 2, 3], [], [5], [0, 1, 2, 3, 4, 5, 6], [0, 1, 2, 3, 4, 5, 6, 7], [0, 1, 2, 3, 4, 5, 6, 7, 8], [0, 1, 2, 3, 4, 5, 6, 7, 8, 9], [0, 1, 2, 3, 4, 5, 6, 7, 8, 9, 10], [0, 1, 2, 3, 4, 5, 6, 7, 8, 9, 10, 11], [0, 1, 2, 3, 4, 5, 6, 7, 8, 9, 10, 11], [0, 1, 2, 3, 4, 5, 6, 7, 8, 9, 10, 11, 12, 13], [0, 1, 2, 3, 4, 5, 6, 7, 8, 9, 10, 11, 12, 13, 14], [0, 1, 2, 3, 4, 5, 6, 7, 8, 9, 10, 11, 12, 13, 14, 15], [0, 1, 2, 3, 4, 5, 6, 7, 8, 9, 10, 11, 12, 13, 14, 15, 16], [0, 1, 2, 3, 4, 5, 6, 7, 8, 9, 10, 11], [0, 1, 2, 3, 4, 5, 6, 7, 8, 9, 10, 11, 18], [0, 1, 2, 3, 4, 5, 6, 7, 8, 9, 10, 11, 18, 19], [0, 1, 2, 3, 4, 5, 6, 7, 8, 9, 10, 11, 12, 13, 14, 15, 16, 17, 18, 19, 20], [0, 1, 2, 3, 4, 5, 6, 7, 8, 9, 10, 11, 12, 13, 14, 15, 16, 17, 18, 19, 20, 21], [0, 1, 2, 3, 4, 5, 6, 7, 8, 9, 10, 11, 12, 13, 14, 15, 16, 17, 18, 19, 20, 21, 22], [0, 1, 2, 3, 4, 5, 6, 7, 8, 9, 10, 11, 12, 13, 14, 15, 16, 17, 18, 19, 20, 21, 22, 23], [0, 1, 2, 3, 4, 5, 6, 7, 8, 9, 10, 11, 12, 13, 14, 15, 16, 17, 18, 19, 20, 21, 22, 23, 24], [0, 1, 2, 3, 4, 5, 6, 7, 8, 9, 10, 11, 12, 13, 14, 15, 16, 17, 18, 19, 20, 21, 22, 23, 24, 25], [0, 1, 2, 3, 4, 5, 6, 7, 8, 9, 10, 11, 12, 13, 14, 15, 16, 17, 18, 19, 20, 21, 22, 23, 24, 25, 26], [0, 1, 2, 3, 4, 5, 6, 7, 8, 9, 10, 11, 12, 13, 14, 15, 16, 17, 18, 19, 20, 21, 22, 23, 24, 25, 26, 27], [0, 1, 2, 3, 4, 5, 6, 7, 8, 9, 10, 11, 12, 13, 14, 15, 16, 17, 18, 19, 20, 21, 22, 23, 24, 25, 26, 27], [0, 1, 2, 3, 4, 5, 6, 7, 8, 9, 10, 11, 12, 13, 14, 15, 16, 17, 18, 19, 20, 21, 22, 23, 24, 25, 26, 27, 28, 29], [0, 1, 2, 3, 4, 5, 6, 7, 8, 9, 10, 11, 12, 13, 14, 15, 16, 17, 18, 19, 20, 21, 22, 23, 24, 25, 26, 27, 28, 29, 30], [0, 1, 2, 3, 4, 5, 6, 7, 8, 9, 10, 11, 12, 13, 14, 15, 16, 17, 18, 19, 20, 21, 22, 23, 24, 25, 26, 27, 28, 29, 30, 31], [0, 1, 2, 3, 4, 5, 6, 7, 8, 9, 10, 11, 12, 13, 14, 15, 16, 17, 18, 19, 20, 21, 22, 23, 24, 25, 26, 27, 28, 29, 30, 31, 32], [0, 1, 2, 3, 4, 5, 6, 7, 8, 9, 10, 11, 12, 13, 14, 15, 16, 17, 18, 19, 20, 21, 22, 23, 24, 25, 26, 27, 28, 29, 30, 31, 32, 33], [0, 1, 2, 3, 4, 5, 6, 7, 8, 9, 10, 11, 12, 13, 14, 15, 16, 17, 18, 19, 20, 21, 22, 23, 24, 25, 26, 27, 28, 29, 30, 31, 32, 33, 34], [0, 1, 2, 3, 4, 5, 6, 7, 8, 9, 10, 11, 12, 13, 14, 15, 16, 17, 18, 19, 20, 21, 22, 23, 24, 25, 26, 27, 28, 29, 30, 31, 32, 33, 34, 35]] mixed (by kernel_rfl) ?_
              refine ⟨.det (fun val => vg), ⟨fun _ _ hv => rfl, fun _ _ _ _ _ => trivial⟩, fun val h_ W hx he => ⟨trivial, ?_⟩, ?_⟩
              · replace hx := (Upd.drew _ _).trans hx
                replace hl := hl.ext hx
                replace hr := hr.ext hx
                replace hA := hA.ext hx
                replace hB := hB.ext hx
                replace hRow := hRow.ext hx
                replace hKB := fun (j : Nat) (e : KE) hj he => (hKB j e hj he).ext hx
                replace hB12 := hB12.ext hx
                have hE := Upd.refl (fun _ => False) W
                refine id (X_move (v := vg) rfl ?_)
                exact ⟨hE, rfl⟩
              refine ⟨.det (fun val => (.int .i64 (((i : Nat) : Int)))), ⟨fun _ _ hv => rfl, fun _ _ _ _ _ => trivial⟩, fun val h_ W hx he => ⟨trivial, ?_⟩, ?_⟩
              · replace hx := (Upd.drew _ _).trans hx
                replace hl := hl.ext hx
                replace hr := hr.ext hx
                replace hA := hA.ext hx
                replace hB := hB.ext hx
                replace hRow := hRow.ext hx
                replace hKB := fun (j : Nat) (e : KE) hj he => (hKB j e hj he).ext hx
                replace hB12 := hB12.ext hx
                have hE := Upd.refl (fun _ => False) W
                refine id (X_move (v := (.int .i64 (((i : Nat) : Int)))) rfl ?_)
                exact ⟨hE, rfl⟩
              refine ⟨.det (fun val => (pof vg ((((i : Nat) : Int) : Int).toNat * 6))), ⟨fun _ _ hv => rfl, fun _ _ _ _ _ => trivial⟩, fun val h_ W hx he => ⟨trivial, ?_⟩, ?_⟩
              · replace hx := (Upd.drew _ _).trans hx
                replace hl := hl.ext hx
                replace hr := hr.ext hx
                replace hA := hA.ext hx
                replace hB := hB.ext hx
                replace hRow := hRow.ext hx
                replace hKB := fun (j : Nat) (e : KE) hj he => (hKB j e hj he).ext hx
                replace hB12 := hB12.ext hx
                have hE := Upd.refl (fun _ => False) W
                refine id (X_idx (v := vg) (n := gs.length) (k := .i64) (i := ((i : Nat) : Int)) S22 rfl hsvg rfl (by omega) (by omega) ?_)
                exact ⟨hE, rfl⟩
              refine ⟨.det (fun val => (pof vg ((((i : Nat) : Int) : Int).toNat * 6 + 1))), ⟨fun _ _ hv => rfl, fun _ _ _ _ _ => trivial⟩, fun val h_ W hx he => ⟨trivial, ?_⟩, ?_⟩
              · replace hx := (Upd.drew _ _).trans hx
                replace hl := hl.ext hx
                replace hr := hr.ext hx
                replace hA := hA.ext hx
                replace hB := hB.ext hx
                replace hRow := hRow.ext hx
                replace hKB := fun (j : Nat) (e : KE) hj he => (hKB j e hj he).ext hx
                replace hB12 := hB12.ext hx
                have hE := Upd.refl (fun _ => False) W
                refine id (X_fldS (v := vg) (o := (((i : Nat) : Int) : Int).toNat * 6) Fd39_1 rfl hsvg (by omega) ?_)
                exact ⟨hE, rfl⟩
              refine ⟨.det (fun val => (.agg (ptC y_.2.2).toArray)), ⟨fun _ _ hv => rfl, fun _ _ _ _ _ => trivial⟩, fun val h_ W hx he => ⟨trivial, ?_⟩, ?_⟩
              · replace hx := (Upd.drew _ _).trans hx
                replace hl := hl.ext hx
                replace hr := hr.ext hx
                replace hA := hA.ext hx
                replace hB := hB.ext hx
                replace hRow := hRow.ext hx
                replace hKB := fun (j : Nat) (e : KE) hj he => (hKB j e hj he).ext hx
                replace hB12 := hB12.ext hx
                have hE := Upd.refl (fun _ => False) W
                refine id (X_loadA (xs := ptC y_.2.2) A37 rfl (kptrR hRow.rd (Int.toNat_natCast _) hy_) rfl ?_)
                exact ⟨hE, rfl⟩
              refine ⟨.det (fun val => (ptr b12 (1))), ⟨fun _ _ hv => rfl, fun _ _ _ _ _ => trivial⟩, fun val h_ W hx he => ⟨trivial, ?_⟩, ?_⟩
              · replace hx := (Upd.drew _ _).trans hx
                replace hl := hl.ext hx
                replace hr := hr.ext hx
                replace hA := hA.ext hx
                replace hB := hB.ext hx
                replace hRow := hRow.ext hx
                replace hKB := fun (j : Nat) (e : KE) hj he => (hKB j e hj he).ext hx
                replace hB12 := hB12.ext hx
                have hE := Upd.refl (fun _ => False) W
                refine id (X_fldP (b := b12) (o := 0) (r := 1) Fd39_1 rfl rfl ?_)
                exact ⟨hE, rfl⟩
              refine ⟨.det (fun val => (.agg (ptC e.2.2).toArray)), ⟨fun _ _ hv => rfl, fun _ _ _ _ _ => trivial⟩, fun val h_ W hx he => ⟨trivial, ?_⟩, ?_⟩
              · replace hx := (Upd.drew _ _).trans hx
                replace hl := hl.ext hx
                replace hr := hr.ext hx
                replace hA := hA.ext hx
                replace hB := hB.ext hx
                replace hRow := hRow.ext hx
                replace hKB := fun (j : Nat) (e : KE) hj he => (hKB j e hj he).ext hx
                replace hB12 := hB12.ext hx
                have hE := Upd.refl (fun _ => False) W
                refine id (X_loadA (xs := ptC e.2.2) A37 rfl (hB12.at_ 1 (ptC e.2.2) (fun j u hj => by rw [Nat.add_comm]; simpa using hj)) rfl ?_)
                exact ⟨hE, rfl⟩
              refine ⟨.det (fun val => (.bool (false))), ⟨fun _ _ hv => rfl, fun _ _ _ _ _ => trivial⟩, fun val h_ W hx he => ⟨trivial, ?_⟩, ?_⟩
              · replace hx := (Upd.drew _ _).trans hx
                replace hl := hl.ext hx
                replace hr := hr.ext hx
                replace hA := hA.ext hx
                replace hB := hB.ext hx
                replace hRow := hRow.ext hx
                replace hKB := fun (j : Nat) (e : KE) hj he => (hKB j e hj he).ext hx
                replace hB12 := hB12.ext hx
                have hE := Upd.refl (fun _ => False) W
                refine id (X_eqP (p := y_.2.2) (q := e.2.2) (r := false) Try.underlying37 u37 (by kernel_rfl) (by decide) ⟨rfl, rfl, rfl, rfl⟩ Try.underlying5 Try.underlying33 (by kernel_rfl) Try.underlying32 (ie := _) rfl (by kernel_rfl) Try.underlying34 Try.underlying35 (by kernel_rfl) rfl rfl (.inr ⟨rfl, by rw [hxp, beq_self_eq_true]; rfl⟩) ?_)
                exact ⟨hE, rfl⟩
              refine ⟨.det (fun val => (.bool (false))), ⟨fun _ _ hv => rfl, fun _ _ _ _ _ => trivial⟩, fun val h_ W hx he => ⟨trivial, ?_⟩, ?_⟩
              · replace hx := (Upd.drew _ _).trans hx
                replace hl := hl.ext hx
                replace hr := hr.ext hx
                replace hA := hA.ext hx
                replace hB := hB.ext hx
                replace hRow := hRow.ext hx
                replace hKB := fun (j : Nat) (e : KE) hj he => (hKB j e hj he).ext hx
                replace hB12 := hB12.ext hx
                have hE := Upd.refl (fun _ => False) W
                refine id (X_move (v := (.bool (false))) rfl ?_)
                exact ⟨hE, rfl⟩
              refine ⟨.det (fun val => (.int .i64 (((i : Nat) : Int)))), ⟨fun _ _ hv => rfl, fun _ _ _ _ _ => trivial⟩, fun val h_ W hx he => ⟨⟨96, rfl, rfl⟩, ?_⟩, ?_⟩
              · replace hx := (Upd.drew _ _).trans hx
                replace hl := hl.ext hx
                replace hr := hr.ext hx
                replace hA := hA.ext hx
                replace hB := hB.ext hx
                replace hRow := hRow.ext hx
                replace hKB := fun (j : Nat) (e : KE) hj he => (hKB j e hj he).ext hx
                replace hB12 := hB12.ext hx
                have hE := Upd.refl (fun _ => False) W
                refine id (X_move (v := (.int .i64 (((i : Nat) : Int)))) rfl ?_)
                exact ⟨hE, rfl⟩
              refine ⟨.det (fun val => (.bool (false))), ⟨fun _ _ hv => rfl, fun _ _ _ _ _ => trivial⟩, fun val h_ W hx he => ⟨⟨96, rfl, rfl⟩, ?_⟩, ?_⟩
              · replace hx := (Upd.drew _ _).trans hx
                replace hl := hl.ext hx
                replace hr := hr.ext hx
                replace hA := hA.ext hx
                replace hB := hB.ext hx
                replace hRow := hRow.ext hx
                replace hKB := fun (j : Nat) (e : KE) hj he => (hKB j e hj he).ext hx
                replace hB12 := hB12.ext hx
                have hE := Upd.refl (fun _ => False) W
                refine id (X_cmp (k := .i64) (a := ((i : Nat) : Int)) (b := 0) (r := false) rfl rfl rfl (decide_eq_false (p := ((0 : Int) < ((i : Nat) : Int))) (by omega)) ?_)
                exact ⟨hE, rfl⟩
              refine ⟨.det (fun val => (.bool (false))), ⟨fun _ _ hv => rfl, fun _ _ _ _ _ => trivial⟩, fun val h_ W hx he => ⟨⟨96, rfl, rfl⟩, ?_⟩, ?_⟩
              · replace hx := (Upd.drew _ _).trans hx
                replace hl := hl.ext hx
                replace hr := hr.ext hx
                replace hA := hA.ext hx
                replace hB := hB.ext hx
                replace hRow := hRow.ext hx
                replace hKB := fun (j : Nat) (e : KE) hj he => (hKB j e hj he).ext hx
                replace hB12 := hB12.ext hx
                have hE := Upd.refl (fun _ => False) W
                refine id (X_move (v := (.bool (false))) rfl ?_)
                exact ⟨hE, rfl⟩
              refine ⟨.no, ⟨fun _ _ _ => trivial, fun _ _ _ _ _ => trivial⟩, fun val h_ W hx he => ⟨99, rfl, .inl rfl⟩, ?_⟩
              refine ⟨.no, ⟨fun _ _ _ => trivial, fun _ _ _ _ _ => trivial⟩, fun val h_ W hx he => ⟨99, rfl, .inl rfl⟩, ?_⟩
              refine ⟨.no, ⟨fun _ _ _ => trivial, fun _ _ _ _ _ => trivial⟩, fun val h_ W hx he => ⟨99, rfl, .inl rfl⟩, ?_⟩
              refine ⟨.no, ⟨fun _ _ _ => trivial, fun _ _ _ _ _ => trivial⟩, fun val h_ W hx he => ⟨99, rfl, .inl rfl⟩, ?_⟩
              refine ⟨.no, ⟨fun _ _ _ => trivial, fun _ _ _ _ _ => trivial⟩, fun val h_ W hx he => ⟨99, rfl, .inl rfl⟩, ?_⟩
              refine ⟨.no, ⟨fun _ _ _ => trivial, fun _ _ _ _ _ => trivial⟩, fun val h_ W hx he => ⟨99, rfl, .inl rfl⟩, ?_⟩
              refine ⟨.no, ⟨fun _ _ _ => trivial, fun _ _ _ _ _ => trivial⟩, fun val h_ W hx he => ⟨99, rfl, .inl rfl⟩, ?_⟩
              refine ⟨.no, ⟨fun _ _ _ => trivial, fun _ _ _ _ _ => trivial⟩, fun val h_ W hx he => ⟨99, rfl, .inl rfl⟩, ?_⟩
              refine ⟨.no, ⟨fun _ _ _ => trivial, fun _ _ _ _ _ => trivial⟩, fun val h_ W hx he => ⟨99, rfl, .inl rfl⟩, ?_⟩
              refine ⟨.no, ⟨fun _ _ _ => trivial, fun _ _ _ _ _ => trivial⟩, fun val h_ W hx he => ⟨99, rfl, .inl rfl⟩, ?_⟩
              refine ⟨.det (fun val => (.bool (false))), ⟨fun _ _ hv => rfl, fun _ _ _ _ _ => trivial⟩, fun val h_ W hx he => ⟨⟨96, rfl, rfl⟩, ?_⟩, ?_⟩
              · replace hx := (Upd.drew _ _).trans hx
                replace hl := hl.ext hx
                replace hr := hr.ext hx
                replace hA := hA.ext hx
                replace hB := hB.ext hx
                replace hRow := hRow.ext hx
                replace hKB := fun (j : Nat) (e : KE) hj he => (hKB j e hj he).ext hx
                replace hB12 := hB12.ext hx
                have hE := Upd.refl (fun _ => False) W
                refine id (X_pick (t := false) (v := (.bool (false))) rfl rfl ?_)
                exact ⟨hE, rfl⟩
              refine ⟨.det (fun val => (.bool (false))), ⟨fun _ _ hv => rfl, fun _ _ _ _ _ => trivial⟩, fun val h_ W hx he => ⟨trivial, ?_⟩, ?_⟩
              · replace hx := (Upd.drew _ _).trans hx
                replace hl := hl.ext hx
                replace hr := hr.ext hx
                replace hA := hA.ext hx
                replace hB := hB.ext hx
                replace hRow := hRow.ext hx
                replace hKB := fun (j : Nat) (e : KE) hj he => (hKB j e hj he).ext hx
                replace hB12 := hB12.ext hx
                have hE := Upd.refl (fun _ => False) W
                refine id (X_pick (t := false) (v := (.bool (false))) rfl rfl ?_)
                exact ⟨hE, rfl⟩
              refine ⟨.det (fun val => (.bool (false))), ⟨fun _ _ hv => rfl, fun _ _ _ _ _ => trivial⟩, fun val h_ W hx he => ⟨trivial, ?_⟩, ?_⟩
              · replace hx := (Upd.drew _ _).trans hx
                replace hl := hl.ext hx
                replace hr := hr.ext hx
                replace hA := hA.ext hx
                replace hB := hB.ext hx
                replace hRow := hRow.ext hx
                replace hKB := fun (j : Nat) (e : KE) hj he => (hKB j e hj he).ext hx
                replace hB12 := hB12.ext hx
                have hE := Upd.refl (fun _ => False) W
                refine id (X_move (v := (.bool (false))) rfl ?_)
                exact ⟨hE, rfl⟩
              refine ⟨.det (fun val => (.int .i64 (((i : Nat) : Int)))), ⟨fun _ _ hv => rfl, fun _ _ _ _ _ => trivial⟩, fun val h_ W hx he => ⟨⟨112, rfl, rfl⟩, ?_⟩, ?_⟩
              · replace hx := (Upd.drew _ _).trans hx
                replace hl := hl.ext hx
                replace hr := hr.ext hx
                replace hA := hA.ext hx
                replace hB := hB.ext hx
                replace hRow := hRow.ext hx
                replace hKB := fun (j : Nat) (e : KE) hj he => (hKB j e hj he).ext hx
                replace hB12 := hB12.ext hx
                have hE := Upd.refl (fun _ => False) W
                refine id (X_move (v := (.int .i64 (((i : Nat) : Int)))) rfl ?_)
                exact ⟨hE, rfl⟩
              refine ⟨.det (fun val => (.bool (true))), ⟨fun _ _ hv => rfl, fun _ _ _ _ _ => trivial⟩, fun val h_ W hx he => ⟨⟨112, rfl, rfl⟩, ?_⟩, ?_⟩
              · replace hx := (Upd.drew _ _).trans hx
                replace hl := hl.ext hx
                replace hr := hr.ext hx
                replace hA := hA.ext hx
                replace hB := hB.ext hx
                replace hRow := hRow.ext hx
                replace hKB := fun (j : Nat) (e : KE) hj he => (hKB j e hj he).ext hx
                replace hB12 := hB12.ext hx
                have hE := Upd.refl (fun _ => False) W
                refine id (X_cmp (k := .i64) (a := ((i : Nat) : Int)) (b := 0) (r := true) rfl rfl rfl (decide_eq_true (p := (((i : Nat) : Int) = (0 : Int))) (by omega)) ?_)
                exact ⟨hE, rfl⟩
              refine ⟨.det (fun val => (.bool (true))), ⟨fun _ _ hv => rfl, fun _ _ _ _ _ => trivial⟩, fun val h_ W hx he => ⟨⟨112, rfl, rfl⟩, ?_⟩, ?_⟩
              · replace hx := (Upd.drew _ _).trans hx
                replace hl := hl.ext hx
                replace hr := hr.ext hx
                replace hA := hA.ext hx
                replace hB := hB.ext hx
                replace hRow := hRow.ext hx
                replace hKB := fun (j : Nat) (e : KE) hj he => (hKB j e hj he).ext hx
                replace hB12 := hB12.ext hx
                have hE := Upd.refl (fun _ => False) W
                refine id (X_move (v := (.bool (true))) rfl ?_)
                exact ⟨hE, rfl⟩
              refine ⟨.det (fun val => vg), ⟨fun _ _ hv => rfl, fun _ _ _ _ _ => trivial⟩, fun val h_ W hx he => ⟨⟨115, rfl, rfl⟩, ?_⟩, ?_⟩
              · replace hx := (Upd.drew _ _).trans hx
                replace hl := hl.ext hx
                replace hr := hr.ext hx
                replace hA := hA.ext hx
                replace hB := hB.ext hx
                replace hRow := hRow.ext hx
                replace hKB := fun (j : Nat) (e : KE) hj he => (hKB j e hj he).ext hx
                replace hB12 := hB12.ext hx
                have hE := Upd.refl (fun _ => False) W
                refine id (X_move (v := vg) rfl ?_)
                exact ⟨hE, rfl⟩
              refine ⟨.det (fun val => (.int .i64 (((i : Nat) : Int)))), ⟨fun _ _ hv => rfl, fun _ _ _ _ _ => trivial⟩, fun val h_ W hx he => ⟨⟨115, rfl, rfl⟩, ?_⟩, ?_⟩
              · replace hx := (Upd.drew _ _).trans hx
                replace hl := hl.ext hx
                replace hr := hr.ext hx
                replace hA := hA.ext hx
                replace hB := hB.ext hx
                replace hRow := hRow.ext hx
                replace hKB := fun (j : Nat) (e : KE) hj he => (hKB j e hj he).ext hx
                replace hB12 := hB12.ext hx
                have hE := Upd.refl (fun _ => False) W
                refine id (X_move (v := (.int .i64 (((i : Nat) : Int)))) rfl ?_)
                exact ⟨hE, rfl⟩
              intro val W27 hx27 he27
              replace hx27 := (Upd.drew _ _).trans hx27
              have hz27 := hx27.size
              replace hl := hl.ext hx27
              replace hr := hr.ext hx27
              replace hA := hA.ext hx27
              replace hB := hB.ext hx27
              replace hRow := hRow.ext hx27
              replace hKB := fun (j : Nat) (e : KE) hj he => (hKB j e hj he).ext hx27
              replace hU := hU.trans (Ext.upd hx27)
              replace hB12 := hB12.ext hx27
              refine L_gy (dj := 115) rfl rfl rfl (X_idx (v := vg) (n := gs.length) (k := .i64) (i := ((i : Nat) : Int)) S22 rfl hsvg rfl (by omega) (by omega) ?_)
              refine L_gy (dj := 115) rfl rfl rfl (X_fldS (v := vg) (o := (((i : Nat) : Int) : Int).toNat * 6) Fd39_0 rfl hsvg (by omega) ?_)
              refine L_gy (dj := 115) rfl rfl rfl (X_load (v := y_.1) T23 rfl (kkeyR hRow.rd (Int.toNat_natCast _) hy_) ?_)
              refine L_gy (dj := 115) rfl rfl rfl (X_len (v := y_.1) (n := y_.2.1.length) Try.underlying23 rfl (hKB i y_ (Nat.le_refl _) hy_).1.rd.sv ?_)
              refine L_gy (dj := 115) rfl rfl rfl (X_cmp (k := .i64) (a := ((y_.2.1.length : Nat) : Int)) (b := 0) (r := false) rfl rfl rfl (decide_eq_false (p := ((((y_.2.1.length : Nat) : Int)) : Int) ≠ ((0) : Int)) (by omega)) ?_)
              refine L_gy (dj := 112) rfl rfl rfl (X_pick (t := true) (v := (.bool (false))) rfl rfl ?_)
              refine L_op rfl (X_pick (t := false) (v := (.bool (false))) rfl rfl ?_)
              refine L_nil ?_
              refine T_n ?_
              refine W_cf rfl ?_
              refine W_skip ?_
              refine T_n ?_
              refine W_seq ?_
              refine W_reg ?_
              refine L_op rfl (X_assign (v := (.int .i64 (0))) rfl ?_)
              refine L_nil ?_
              refine T_n ?_
              refine W_block ?_
              refine W_loop (α := Nat × List UInt8) [12, 125, 126, 127, 128, 129, 130, 131, 132, 133, 134, 135, 136, 137, 138, 139, 140, 141, 142, 143, 144, 145, 146, 147, 148, 149, 150] (fun ⟨j, kk⟩ => [(12, (.int .i64 (((j : Nat) : Int))))]) (fun ⟨j, kk⟩ w_ => j ≤ y_.2.1.length ∧ NRd LK w_ 0 n0 l es ∧ NRd LK w_ 0 n0 r ms ∧ NRd LK w_ loA upA va fs ∧ NRd LK w_ loB upB vb os ∧ Own w_ lo 39 6 vg gs.length (gs.flatMap LK.cel) ∧ Own w_ lo 5 1 y_.1 y_.2.1.length (kk.map byteV) ∧ (∀ (j : Nat) (e : KE), i + 1 ≤ j → gs[j]? = some e → BOwn w_ 5 lo up (e.1, e.2.1)) ∧ Upd (fun i => n0 ≤ i) w w_ ∧ up ≤ w_.heap.size) (fun ⟨j, kk⟩ => y_.2.1.length - j) ⟨rfl, (0, y_.2.1), ⟨Nat.zero_le _, hl, hr, hA, hB, hRow, (hKB i y_ (Nat.le_refl _) hy_).1, fun j e hj he => hKB j e (by omega) he, hU, by omega⟩, Out.refl _ _, ⟨rfl, trivial⟩⟩ ?_
              rintro ⟨j, kk⟩ w29 _ ⟨hjl, hl, hr, hA, hB, hRow, hKey, hKB, hU, hupw⟩
              have hsz_ := hU.size
              have hkkl : kk.length = y_.2.1.length := by have h := hKey.1; rw [List.length_map] at h; omega
              refine W_seq ?_
              refine W_seq ?_
              refine W_reg ?_
              refine L_op rfl (X_move (v := (.int .i64 (((j : Nat) : Int)))) rfl ?_)
              refine L_op rfl (X_move (v := vg) rfl ?_)
              refine L_op rfl (X_move (v := (.int .i64 (((i : Nat) : Int)))) rfl ?_)
              refine L_op rfl (X_idx (v := vg) (n := gs.length) (k := .i64) (i := ((i : Nat) : Int)) S22 rfl hsvg rfl (by omega) (by omega) ?_)
              refine L_op rfl (X_fldS (v := vg) (o := (((i : Nat) : Int) : Int).toNat * 6) Fd39_0 rfl hsvg (by omega) ?_)
              refine L_op rfl (X_load (v := y_.1) T23 rfl (kkeyR hRow.rd (Int.toNat_natCast _) hy_) ?_)
              refine L_op rfl (X_len (v := y_.1) (n := y_.2.1.length) Try.underlying23 rfl hKey.rd.sv ?_)
              by_cases hc31 : (((j : Nat) : Int) : Int) < (((y_.2.1.length : Nat) : Int))
              · refine L_op rfl (X_cmp (k := .i64) (a := ((j : Nat) : Int)) (b := ((y_.2.1.length : Nat) : Int)) (r := true) rfl rfl rfl (decide_eq_true (p := ((((j : Nat) : Int)) : Int) < ((((y_.2.1.length : Nat) : Int)) : Int)) (by omega)) ?_)
                have hj : j < y_.2.1.length := by omega
                obtain ⟨bx, hbx⟩ : ∃ u, kk[j]? = some u := ⟨_, List.getElem?_eq_getElem (by omega)⟩
                obtain ⟨bz, hbz⟩ : ∃ u : UInt8, iop .xor .u8 ((bx.toNat : Nat) : Int) 1 = ((u.toNat : Nat) : Int) := u8_any _
                refine L_nil ?_
                refine T_n ?_
                refine W_ct rfl ?_
                refine W_skip ?_
                refine T_n ?_
                refine W_seq ?_
                refine W_block ?_
                refine W_draw 15 [[], [], [0, 1], [0, 1, 2], [0, 1, 2, 3], [], [], [], [6, 7], [6, 7, 8], [6, 7, 8, 9], [], [6, 7, 8, 9, 10, 11], [6, 7, 8, 9, 10, 11, 12], [6, 7, 8, 9, 10, 11, 12, 13], [0, 1, 2, 3, 4, 5, 6, 7, 8, 9, 10, 11, 12, 13, 14], [0, 1, 2, 3, 4, 5, 6, 7, 8, 9, 10, 11, 12, 13, 14, 15]] mixed (by kernel_rfl) ?_
                refine ⟨.det (fun val => vg), ⟨fun _ _ hv => rfl, fun _ _ _ _ _ => trivial⟩, fun val h_ W hx he => ⟨trivial, ?_⟩, ?_⟩
                · replace hx := (Upd.drew _ _).trans hx
                  replace hl := hl.ext hx
                  replace hr := hr.ext hx
                  replace hA := hA.ext hx
                  replace hB := hB.ext hx
                  replace hRow := hRow.ext hx
                  replace hKB := fun (j : Nat) (e : KE) hj he => (hKB j e hj he).ext hx
                  replace hKey := hKey.ext hx
                  have hE := Upd.refl (fun _ => False) W
                  refine id (X_move (v := vg) rfl ?_)
                  exact ⟨hE, rfl⟩
                refine ⟨.det (fun val => (.int .i64 (((i : Nat) : Int)))), ⟨fun _ _ hv => rfl, fun _ _ _ _ _ => trivial⟩, fun val h_ W hx he => ⟨trivial, ?_⟩, ?_⟩
                · replace hx := (Upd.drew _ _).trans hx
                  replace hl := hl.ext hx
                  replace hr := hr.ext hx
                  replace hA := hA.ext hx
                  replace hB := hB.ext hx
                  replace hRow := hRow.ext hx
                  replace hKB := fun (j : Nat) (e : KE) hj he => (hKB j e hj he).ext hx
                  replace hKey := hKey.ext hx
                  have hE := Upd.refl (fun _ => False) W
                  refine id (X_move (v := (.int .i64 (((i : Nat) : Int)))) rfl ?_)
                  exact ⟨hE, rfl⟩
                refine ⟨.det (fun val => (pof vg ((((i : Nat) : Int) : Int).toNat * 6))), ⟨fun _ _ hv => rfl, fun _ _ _ _ _ => trivial⟩, fun val h_ W hx he => ⟨trivial, ?_⟩, ?_⟩
                · replace hx := (Upd.drew _ _).trans hx
                  replace hl := hl.ext hx
                  replace hr := hr.ext hx
                  replace hA := hA.ext hx
                  replace hB := hB.ext hx
                  replace hRow := hRow.ext hx
                  replace hKB := fun (j : Nat) (e : KE) hj he => (hKB j e hj he).ext hx
                  replace hKey := hKey.ext hx
                  have hE := Upd.refl (fun _ => False) W
                  refine id (X_idx (v := vg) (n := gs.length) (k := .i64) (i := ((i : Nat) : Int)) S22 rfl hsvg rfl (by omega) (by omega) ?_)
                  exact ⟨hE, rfl⟩
                refine ⟨.det (fun val => (pof vg ((((i : Nat) : Int) : Int).toNat * 6 + 0))), ⟨fun _ _ hv => rfl, fun _ _ _ _ _ => trivial⟩, fun val h_ W hx he => ⟨trivial, ?_⟩, ?_⟩
                · replace hx := (Upd.drew _ _).trans hx
                  replace hl := hl.ext hx
                  replace hr := hr.ext hx
                  replace hA := hA.ext hx
                  replace hB := hB.ext hx
                  replace hRow := hRow.ext hx
                  replace hKB := fun (j : Nat) (e : KE) hj he => (hKB j e hj he).ext hx
                  replace hKey := hKey.ext hx
                  have hE := Upd.refl (fun _ => False) W
                  refine id (X_fldS (v := vg) (o := (((i : Nat) : Int) : Int).toNat * 6) Fd39_0 rfl hsvg (by omega) ?_)
                  exact ⟨hE, rfl⟩
                refine ⟨.det (fun val => y_.1), ⟨fun _ _ hv => rfl, fun _ _ _ _ _ => trivial⟩, fun val h_ W hx he => ⟨trivial, ?_⟩, ?_⟩
                · replace hx := (Upd.drew _ _).trans hx
                  replace hl := hl.ext hx
                  replace hr := hr.ext hx
                  replace hA := hA.ext hx
                  replace hB := hB.ext hx
                  replace hRow := hRow.ext hx
                  replace hKB := fun (j : Nat) (e : KE) hj he => (hKB j e hj he).ext hx
                  replace hKey := hKey.ext hx
                  have hE := Upd.refl (fun _ => False) W
                  refine id (X_load (v := y_.1) T23 rfl (kkeyR hRow.rd (Int.toNat_natCast _) hy_) ?_)
                  exact ⟨hE, rfl⟩
                refine ⟨.det (fun val => (.int .i64 (((j : Nat) : Int)))), ⟨fun _ _ hv => rfl, fun _ _ _ _ _ => trivial⟩, fun val h_ W hx he => ⟨trivial, ?_⟩, ?_⟩
                · replace hx := (Upd.drew _ _).trans hx
                  replace hl := hl.ext hx
                  replace hr := hr.ext hx
                  replace hA := hA.ext hx
                  replace hB := hB.ext hx
                  replace hRow := hRow.ext hx
                  replace hKB := fun (j : Nat) (e : KE) hj he => (hKB j e hj he).ext hx
                  replace hKey := hKey.ext hx
                  have hE := Upd.refl (fun _ => False) W
                  refine id (X_move (v := (.int .i64 (((j : Nat) : Int)))) rfl ?_)
                  exact ⟨hE, rfl⟩
                refine ⟨.det (fun val => vg), ⟨fun _ _ hv => rfl, fun _ _ _ _ _ => trivial⟩, fun val h_ W hx he => ⟨trivial, ?_⟩, ?_⟩
                · replace hx := (Upd.drew _ _).trans hx
                  replace hl := hl.ext hx
                  replace hr := hr.ext hx
                  replace hA := hA.ext hx
                  replace hB := hB.ext hx
                  replace hRow := hRow.ext hx
                  replace hKB := fun (j : Nat) (e : KE) hj he => (hKB j e hj he).ext hx
                  replace hKey := hKey.ext hx
                  have hE := Upd.refl (fun _ => False) W
                  refine id (X_move (v := vg) rfl ?_)
                  exact ⟨hE, rfl⟩
                refine ⟨.det (fun val => (.int .i64 (((i : Nat) : Int)))), ⟨fun _ _ hv => rfl, fun _ _ _ _ _ => trivial⟩, fun val h_ W hx he => ⟨trivial, ?_⟩, ?_⟩
                · replace hx := (Upd.drew _ _).trans hx
                  replace hl := hl.ext hx
                  replace hr := hr.ext hx
                  replace hA := hA.ext hx
                  replace hB := hB.ext hx
                  replace hRow := hRow.ext hx
                  replace hKB := fun (j : Nat) (e : KE) hj he => (hKB j e hj he).ext hx
                  replace hKey := hKey.ext hx
                  have hE := Upd.refl (fun _ => False) W
                  refine id (X_move (v := (.int .i64 (((i : Nat) : Int)))) rfl ?_)
                  exact ⟨hE, rfl⟩
                refine ⟨.det (fun val => (pof vg ((((i : Nat) : Int) : Int).toNat * 6))), ⟨fun _ _ hv => rfl, fun _ _ _ _ _ => trivial⟩, fun val h_ W hx he => ⟨trivial, ?_⟩, ?_⟩
                · replace hx := (Upd.drew _ _).trans hx
                  replace hl := hl.ext hx
                  replace hr := hr.ext hx
                  replace hA := hA.ext hx
                  replace hB := hB.ext hx
                  replace hRow := hRow.ext hx
                  replace hKB := fun (j : Nat) (e : KE) hj he => (hKB j e hj he).ext hx
                  replace hKey := hKey.ext hx
                  have hE := Upd.refl (fun _ => False) W
                  refine id (X_idx (v := vg) (n := gs.length) (k := .i64) (i := ((i : Nat) : Int)) S22 rfl hsvg rfl (by omega) (by omega) ?_)
                  exact ⟨hE, rfl⟩
                refine ⟨.det (fun val => (pof vg ((((i : Nat) : Int) : Int).toNat * 6 + 0))), ⟨fun _ _ hv => rfl, fun _ _ _ _ _ => trivial⟩, fun val h_ W hx he => ⟨trivial, ?_⟩, ?_⟩
                · replace hx := (Upd.drew _ _).trans hx
                  replace hl := hl.ext hx
                  replace hr := hr.ext hx
                  replace hA := hA.ext hx
                  replace hB := hB.ext hx
                  replace hRow := hRow.ext hx
                  replace hKB := fun (j : Nat) (e : KE) hj he => (hKB j e hj he).ext hx
                  replace hKey := hKey.ext hx
                  have hE := Upd.refl (fun _ => False) W
                  refine id (X_fldS (v := vg) (o := (((i : Nat) : Int) : Int).toNat * 6) Fd39_0 rfl hsvg (by omega) ?_)
                  exact ⟨hE, rfl⟩
                refine ⟨.det (fun val => y_.1), ⟨fun _ _ hv => rfl, fun _ _ _ _ _ => trivial⟩, fun val h_ W hx he => ⟨trivial, ?_⟩, ?_⟩
                · replace hx := (Upd.drew _ _).trans hx
                  replace hl := hl.ext hx
                  replace hr := hr.ext hx
                  replace hA := hA.ext hx
                  replace hB := hB.ext hx
                  replace hRow := hRow.ext hx
                  replace hKB := fun (j : Nat) (e : KE) hj he => (hKB j e hj he).ext hx
                  replace hKey := hKey.ext hx
                  have hE := Upd.refl (fun _ => False) W
                  refine id (X_load (v := y_.1) T23 rfl (kkeyR hRow.rd (Int.toNat_natCast _) hy_) ?_)
                  exact ⟨hE, rfl⟩
                refine ⟨.det (fun val => (.int .i64 (((j : Nat) : Int)))), ⟨fun _ _ hv => rfl, fun _ _ _ _ _ => trivial⟩, fun val h_ W hx he => ⟨trivial, ?_⟩, ?_⟩
                · replace hx := (Upd.drew _ _).trans hx
                  replace hl := hl.ext hx
                  replace hr := hr.ext hx
                  replace hA := hA.ext hx
                  replace hB := hB.ext hx
                  replace hRow := hRow.ext hx
                  replace hKB := fun (j : Nat) (e : KE) hj he => (hKB j e hj he).ext hx
                  replace hKey := hKey.ext hx
                  have hE := Upd.refl (fun _ => False) W
                  refine id (X_move (v := (.int .i64 (((j : Nat) : Int)))) rfl ?_)
                  exact ⟨hE, rfl⟩
                refine ⟨.det (fun val => (pof y_.1 ((((j : Nat) : Int) : Int).toNat * 1))), ⟨fun _ _ hv => rfl, fun _ _ _ _ _ => trivial⟩, fun val h_ W hx he => ⟨trivial, ?_⟩, ?_⟩
                · replace hx := (Upd.drew _ _).trans hx
                  replace hl := hl.ext hx
                  replace hr := hr.ext hx
                  replace hA := hA.ext hx
                  replace hB := hB.ext hx
                  replace hRow := hRow.ext hx
                  replace hKB := fun (j : Nat) (e : KE) hj he => (hKB j e hj he).ext hx
                  replace hKey := hKey.ext hx
                  have hE := Upd.refl (fun _ => False) W
                  refine id (X_idx (v := y_.1) (n := y_.2.1.length) (k := .i64) (i := ((j : Nat) : Int)) S23 rfl hKey.rd.sv rfl (by omega) (by omega) ?_)
                  exact ⟨hE, rfl⟩
                refine ⟨.det (fun val => (.int .u8 (((bx.toNat : Nat) : Int)))), ⟨fun _ _ hv => rfl, fun _ _ _ _ _ => trivial⟩, fun val h_ W hx he => ⟨trivial, ?_⟩, ?_⟩
                · replace hx := (Upd.drew _ _).trans hx
                  replace hl := hl.ext hx
                  replace hr := hr.ext hx
                  replace hA := hA.ext hx
                  replace hB := hB.ext hx
                  replace hRow := hRow.ext hx
                  replace hKB := fun (j : Nat) (e : KE) hj he => (hKB j e hj he).ext hx
                  replace hKey := hKey.ext hx
                  have hE := Upd.refl (fun _ => False) W
                  refine id (X_load (v := .int .u8 ((bx.toNat : Nat) : Int)) T5 rfl (hKey.rd.cell (by rw [show (((j : Nat) : Int).toNat * 1) = j by omega, List.getElem?_map, hbx]; rfl)) ?_)
                  exact ⟨hE, rfl⟩
                refine ⟨.det (fun val => (.int .u8 (((bz.toNat : Nat) : Int)))), ⟨fun _ _ hv => rfl, fun _ _ _ _ _ => trivial⟩, fun val h_ W hx he => ⟨trivial, ?_⟩, ?_⟩
                · replace hx := (Upd.drew _ _).trans hx
                  replace hl := hl.ext hx
                  replace hr := hr.ext hx
                  replace hA := hA.ext hx
                  replace hB := hB.ext hx
                  replace hRow := hRow.ext hx
                  replace hKB := fun (j : Nat) (e : KE) hj he => (hKB j e hj he).ext hx
                  replace hKey := hKey.ext hx
                  have hE := Upd.refl (fun _ => False) W
                  refine id (X_arith (k := .u8) (a := ((bx.toNat : Nat) : Int)) (b := 1) (r := ((bz.toNat : Nat) : Int)) rfl rfl rfl hbz ?_)
                  exact ⟨hE, rfl⟩
                intro val W32 hx32 he32
                replace hx32 := (Upd.drew _ _).trans hx32
                have hz32 := hx32.size
                replace hl := hl.ext hx32
                replace hr := hr.ext hx32
                replace hA := hA.ext hx32
                replace hB := hB.ext hx32
                replace hRow := hRow.ext hx32
                replace hKB := fun (j : Nat) (e : KE) hj he => (hKB j e hj he).ext hx32
                replace hU := hU.trans (Ext.upd hx32)
                replace hKey := hKey.ext hx32
                refine L_op rfl (X_idx (v := y_.1) (n := y_.2.1.length) (k := .i64) (i := ((j : Nat) : Int)) S23 rfl hKey.rd.sv rfl (by omega) (by omega) ?_)
                refine L_op0 (X_storeOwn (i := ((j : Nat) : Int).toNat * 1) (v := y_.1) (u := .int .u8 ((bz.toNat : Nat) : Int)) T5 hKey (by omega) rfl rfl rfl ?_)
                intro w35 hO35 hu35
                have hz35 := hu35.size
                rw [show ((j : Nat) : Int).toNat * 1 = j by omega] at hO35
                replace hRow := hRow.upd hu35 fun i h1 h => absurd (hRow.types hKey h1 h) (by decide)
                replace hKB := fun (q : Nat) (e : KE) hq he => (⟨(hKB q e hq he).1.upd hu35 fun b hb h => dist_at hdi (show i < q by omega) hy_ he b h hb, (hKB q e hq he).2⟩ : BOwn w35 5 lo up (e.1, e.2.1))
                replace hl := hl.upd hu35 fun i h1 h2 h => by have h := hKey.lt h; omega
                replace hr := hr.upd hu35 fun i h1 h2 h => by have h := hKey.lt h; omega
                replace hA := hA.upd hu35 fun i h1 h2 h => by have h := hKey.lt h; omega
                replace hB := hB.upd hu35 fun i h1 h2 h => by have h := hKey.lt h; omega
                replace hU := hU.trans (hu35.mono fun i _ h => by have h := hKey.lt h; show n0 ≤ i; omega)
                replace hKey : Own w35 lo 5 1 y_.1 y_.2.1.length ((kk.set j bz).map byteV) := by rw [List.map_set]; exact hO35
                refine L_nil ?_
                refine B_n ?_
                refine T_n ?_
                refine W_reg ?_
                refine L_op rfl (X_move (v := (.int .i64 (((j : Nat) : Int)))) rfl ?_)
                refine L_op rfl (X_arith (k := .i64) (a := ((j : Nat) : Int)) (b := 1) (r := ((j + 1 : Nat) : Int)) rfl rfl rfl (iadd64 (by omega) (by omega) (by omega)) ?_)
                refine L_op rfl (X_assign (v := (.int .i64 (((j + 1 : Nat) : Int)))) rfl ?_)
                refine L_nil ?_
                refine T_n ?_
                exact ⟨rfl, (j + 1, kk.set j bz), ⟨⟨hj, hl, hr, hA, hB, hRow, hKey, hKB, hU, by omega⟩, (by show y_.2.1.length - (j + 1) < y_.2.1.length - j; omega)⟩, (Out.mk rfl), ⟨rfl, trivial⟩⟩
              · refine L_op rfl (X_cmp (k := .i64) (a := ((j : Nat) : Int)) (b := ((y_.2.1.length : Nat) : Int)) (r := false) rfl rfl rfl (decide_eq_false (p := ((((j : Nat) : Int)) : Int) < ((((y_.2.1.length : Nat) : Int)) : Int)) (by omega)) ?_)
                refine L_nil ?_
                refine T_n ?_
                refine W_cf rfl ?_
                refine W_exit ?_
                refine T_e ?_
                refine T_e ?_
                refine B_x ?_
                refine B_n ?_
                refine T_n ?_
                refine W_reg ?_
                refine L_op rfl (X_move (v := (.int .i64 (((i : Nat) : Int)))) rfl ?_)
                refine L_op rfl (X_arith (k := .i64) (a := ((i : Nat) : Int)) (b := 1) (r := ((i + 1 : Nat) : Int)) rfl rfl rfl (iadd64 (by omega) (by omega) (by omega)) ?_)
                refine L_op rfl (X_assign (v := (.int .i64 (((i + 1 : Nat) : Int)))) rfl ?_)
                refine L_nil ?_
                refine T_n ?_
                exact ⟨rfl, i + 1, ⟨⟨hi, hl, hr, hA, hB, hRow, hKB, hU, by omega⟩, (by show gs.length - (i + 1) < gs.length - i; omega)⟩, (Out.in_ rfl rfl (Out.mk rfl)), ⟨rfl, trivial⟩⟩
          · refine L_op rfl (X_cmp (k := .i64) (a := ((i : Nat) : Int)) (b := ((A : Nat) : Int)) (r := false) rfl rfl rfl (decide_eq_false (p := ((((i : Nat) : Int)) : Int) < ((((A : Nat) : Int)) : Int)) (by omega)) ?_)
            refine L_op rfl (X_assign (v := (.bool (false))) rfl ?_)
            refine L_nil ?_
            refine T_n ?_
            refine W_cf rfl ?_
            refine W_seq ?_
            refine W_reg ?_
            refine L_op rfl (X_move (v := (.int .i64 (((i : Nat) : Int)))) rfl ?_)
            refine L_op rfl (X_move (v := (.int .i64 (((A : Nat) : Int)))) rfl ?_)
            refine L_op rfl (X_move (v := r) rfl ?_)
            refine L_op rfl (X_len (v := r) (n := ms.length) Try.underlying22 rfl hr.sv ?_)
            refine L_op rfl (X_arith (k := .i64) (a := ((A : Nat) : Int)) (b := ((ms.length : Nat) : Int)) (r := ((A + ms.length : Nat) : Int)) rfl rfl rfl (iadd64 (by omega) (by omega) (by omega)) ?_)
            by_cases hc36 : (((i : Nat) : Int) : Int) < (((A + ms.length : Nat) : Int))
            · refine L_op rfl (X_cmp (k := .i64) (a := ((i : Nat) : Int)) (b := ((A + ms.length : Nat) : Int)) (r := true) rfl rfl rfl (decide_eq_true (p := ((((i : Nat) : Int)) : Int) < ((((A + ms.length : Nat) : Int)) : Int)) (by omega)) ?_)
              refine L_op rfl (X_assign (v := (.bool (true))) rfl ?_)
              refine L_nil ?_
              refine T_n ?_
              refine W_ct rfl ?_
              refine W_reg ?_
              refine L_op rfl (X_move (v := vb) rfl ?_)
              refine L_op rfl (X_move (v := (.int .i64 (((i : Nat) : Int)))) rfl ?_)
              refine L_op rfl (X_move (v := (.int .i64 (((A : Nat) : Int)))) rfl ?_)
              refine L_op rfl (X_arith (k := .i64) (a := ((i : Nat) : Int)) (b := ((A : Nat) : Int)) (r := ((i - A : Nat) : Int)) rfl rfl rfl (isub64 (by omega) (by omega) (by omega)) ?_)
              refine L_op rfl (X_idx (v := vb) (n := os.length) (k := .i64) (i := ((i - A : Nat) : Int)) S22 rfl hsvvb rfl (by omega) (by omega) ?_)
              obtain ⟨e, hee⟩ : ∃ e, os[i - A]? = some e := ⟨_, List.getElem?_eq_getElem (by omega)⟩
              have hde : d = e.2 := by rw [if_neg (by omega), if_pos (by omega), ← hos, List.getElem?_map, hee] at hd; exact (Option.some.inj hd).symm
              refine L_op rfl (X_loadA (xs := e.1 :: ptC e.2.2) A39 rfl (kall hB (Int.toNat_natCast _) hee) rfl ?_)
              refine L_op0 (X_storeW (b := b12) (ys := (e.1 :: ptC e.2.2)) A39 rfl rfl (kone hB hee) rfl hB12 rfl ?_)
              intro w37 hu37 hb37
              have hz37 := hu37.size
              replace hl := hl.upd hu37 fun i h1 h2 h => by have h : i = b12 := h; omega
              replace hr := hr.upd hu37 fun i h1 h2 h => by have h : i = b12 := h; omega
              replace hA := hA.upd hu37 fun i h1 h2 h => by have h : i = b12 := h; omega
              replace hB := hB.upd hu37 fun i h1 h2 h => by have h : i = b12 := h; omega
              replace hRow := hRow.upd hu37 fun i hi h => by have hi := hrow_b _ hi; have h : i = b12 := h; omega
              replace hKB := fun (j : Nat) (e : KE) hj he => (hKB j e hj he).upd hu37 fun i h1 h2 h => by have h : i = b12 := h; omega
              replace hU := hU.trans (hu37.mono fun i _ h => by have h : i = b12 := h; show n0 ≤ i; omega)
              replace hB12 := hb37
              refine L_nil ?_
              refine B_n ?_
              refine T_n ?_
              refine W_seq ?_
              refine W_seq ?_
              rcases Bool.eq_false_or_eq_true (decide (0 < i)) with hs38 | hs38
              · have hi0 := of_decide_eq_true hs38
                rw [if_neg (by omega), hde] at hxd
                have hxp : y_.2.2 = e.2.2 := by rw [hxd]
                have hxk : y_.2.1 = e.2.1 := by rw [hxd]
                refine W_draw 30 [[], [], [0, 1], [0, 1, 2], [0, 1, 2, 3], [], [5], [0, 1, 2, 3, 4, 5, 6], [0, 1, 2, 3, 4, 5, 6, 7], [0, 1, 2, 3, 4, 5, 6, 7, 8], [0, 1, 2, 3, 4, 5, 6, 7, 8, 9], [0, 1, 2, 3, 4, 5, 6, 7, 8, 9, 10], [0, 1, 2, 3, 4, 5, 6, 7, 8, 9, 10, 11], [0, 1, 2, 3, 4, 5, 6, 7, 8, 9, 10, 11], [0, 1, 2, 3, 4, 5, 6, 7, 8, 9, 10, 11, 12, 13], [0, 1, 2, 3, 4, 5, 6, 7, 8, 9, 10, 11, 12, 13, 14], [0, 1, 2, 3, 4, 5, 6, 7, 8, 9, 10, 11, 12, 13, 14, 15], [0, 1, 2, 3, 4, 5, 6, 7, 8, 9, 10, 11, 12, 13, 14, 15, 16], [0, 1, 2, 3, 4, 5, 6, 7, 8, 9, 10, 11], [0, 1, 2, 3, 4, 5, 6, 7, 8, 9, 10, 11, 18], [0, 1, 2, 3, 4, 5, 6, 7, 8, 9, 10, 11, 18, 19], [0, 1, 2, 3, 4, 5, 6, 7, 8, 9, 10, 11, 12, 13, 14, 15, 16, 17, 18, 19, 20], [0, 1, 2, 3, 4, 5, 6, 7, 8, 9, 10, 11, 12, 13, 14, 15, 16, 17, 18, 19, 20, 21], [0, 1, 2, 3, 4, 5, 6, 7, 8, 9, 10, 11, 12, 13, 14, 15, 16, 17, 18, 19, 20, 21, 22], [0, 1, 2, 3, 4, 5, 6, 7, 8, 9, 10, 11, 12, 13, 14, 15, 16, 17, 18, 19, 20, 21, 22, 23], [0, 1, 2, 3, 4, 5, 6, 7, 8, 9, 10, 11, 12, 13, 14, 15, 16, 17, 18, 19, 20, 21, 22, 23, 24], [0, 1, 2, 3, 4, 5, 6, 7, 8, 9, 10, 11, 12, 13, 14, 15, 16, 17, 18, 19, 20, 21, 22, 23, 24, 25], [0, 1, 2, 3, 4, 5, 6, 7, 8, 9, 10, 11, 12, 13, 14, 15, 16, 17, 18, 19, 20, 21, 22, 23, 24, 25, 26], [0, 1, 2, 3, 4, 5, 6, 7, 8, 9, 10, 11, 12, 13, 14, 15, 16, 17, 18, 19, 20, 21, 22, 23, 24, 25, 26, 27], [0, 1, 2, 3, 4, 5, 6, 7, 8, 9, 10, 11, 12, 13, 14, 15, 16, 17, 18, 19, 20, 21, 22, 23, 24, 25, 26, 27], [0, 1, 2, 3, 4, 5, 6, 7, 8, 9, 10, 11, 12, 13, 14, 15, 16, 17, 18, 19, 20, 21, 22, 23, 24, 25, 26, 27, 28, 29], [0, 1, 2, 3, 4, 5, 6, 7, 8, 9, 10, 11, 12, 13, 14, 15, 16, 17, 18, 19, 20, 21, 22, 23, 24, 25, 26, 27, 28, 29, 30], [0, 1, 2, 3, 4, 5, 6, 7, 8, 9, 10, 11, 12, 13, 14, 15, 16, 17, 18, 19, 20, 21, 22, 23, 24, 25, 26, 27, 28, 29, 30, 31], [0, 1, 2, 3, 4, 5, 6, 7, 8, 9, 10, 11, 12, 13, 14, 15, 16, 17, 18, 19, 20, 21, 22, 23, 24, 25, 26, 27, 28, 29, 30, 31, 32], [0, 1, 2, 3, 4, 5, 6, 7, 8, 9, 10, 11, 12, 13, 14, 15, 16, 17, 18, 19, 20, 21, 22, 23, 24, 25, 26, 27, 28, 29, 30, 31, 32, 33], [0, 1, 2, 3, 4, 5, 6, 7, 8, 9, 10, 11, 12, 13, 14, 15, 16, 17, 18, 19, 20, 21, 22, 23, 24, 25, 26, 27, 28, 29, 30, 31, 32, 33, 34], [0, 1, 2, 3, 4, 5, 6, 7, 8, 9, 10, 11, 12, 13, 14, 15, 16, 17, 18, 19, 20, 21, 22, 23, 24, 25, 26, 27, 28, 29, 30, 31, 32, 33, 34, 35]] mixed (by kernel_rfl) ?_
                refine ⟨.det (fun val => vg), ⟨fun _ _ hv => rfl, fun _ _ _ _ _ => trivial⟩, fun val h_ W hx he => ⟨trivial, ?_⟩, ?_⟩
                · replace hx := (Upd.drew _ _).trans hx
                  replace hl := hl.ext hx
                  replace hr := hr.ext hx
                  replace hA := hA.ext hx
                  replace hB := hB.ext hx
                  replace hRow := hRow.ext hx
                  replace hKB := fun (j : Nat) (e : KE) hj he => (hKB j e hj he).ext hx
                  replace hB12 := hB12.ext hx
                  have hE := Upd.refl (fun _ => False) W
                  refine id (X_move (v := vg) rfl ?_)
                  exact ⟨hE, rfl⟩
                refine ⟨.det (fun val => (.int .i64 (((i : Nat) : Int)))), ⟨fun _ _ hv => rfl, fun _ _ _ _ _ => trivial⟩, fun val h_ W hx he => ⟨trivial, ?_⟩, ?_⟩
                · replace hx := (Upd.drew _ _).trans hx
                  replace hl := hl.ext hx
                  replace hr := hr.ext hx
                  replace hA := hA.ext hx
                  replace hB := hB.ext hx
                  replace hRow := hRow.ext hx
                  replace hKB := fun (j : Nat) (e : KE) hj he => (hKB j e hj he).ext hx
                  replace hB12 := hB12.ext hx
                  have hE := Upd.refl (fun _ => False) W
                  refine id (X_move (v := (.int .i64 (((i : Nat) : Int)))) rfl ?_)
                  exact ⟨hE, rfl⟩
                refine ⟨.det (fun val => (pof vg ((((i : Nat) : Int) : Int).toNat * 6))), ⟨fun _ _ hv => rfl, fun _ _ _ _ _ => trivial⟩, fun val h_ W hx he => ⟨trivial, ?_⟩, ?_⟩
                · replace hx := (Upd.drew _ _).trans hx
                  replace hl := hl.ext hx
                  replace hr := hr.ext hx
                  replace hA := hA.ext hx
                  replace hB := hB.ext hx
                  replace hRow := hRow.ext hx
                  replace hKB := fun (j : Nat) (e : KE) hj he => (hKB j e hj he).ext hx
                  replace hB12 := hB12.ext hx
                  have hE := Upd.refl (fun _ => False) W
                  refine id (X_idx (v := vg) (n := gs.length) (k := .i64) (i := ((i : Nat) : Int)) S22 rfl hsvg rfl (by omega) (by omega) ?_)
                  exact ⟨hE, rfl⟩
                refine ⟨.det (fun val => (pof vg ((((i : Nat) : Int) : Int).toNat * 6 + 1))), ⟨fun _ _ hv => rfl, fun _ _ _ _ _ => trivial⟩, fun val h_ W hx he => ⟨trivial, ?_⟩, ?_⟩
                · replace hx := (Upd.drew _ _).trans hx
                  replace hl := hl.ext hx
                  replace hr := hr.ext hx
                  replace hA := hA.ext hx
                  replace hB := hB.ext hx
                  replace hRow := hRow.ext hx
                  replace hKB := fun (j : Nat) (e : KE) hj he => (hKB j e hj he).ext hx
                  replace hB12 := hB12.ext hx
                  have hE := Upd.refl (fun _ => False) W
                  refine id (X_fldS (v := vg) (o := (((i : Nat) : Int) : Int).toNat * 6) Fd39_1 rfl hsvg (by omega) ?_)
                  exact ⟨hE, rfl⟩
                refine ⟨.det (fun val => (.agg (ptC y_.2.2).toArray)), ⟨fun _ _ hv => rfl, fun _ _ _ _ _ => trivial⟩, fun val h_ W hx he => ⟨trivial, ?_⟩, ?_⟩
                · replace hx := (Upd.drew _ _).trans hx
                  replace hl := hl.ext hx
                  replace hr := hr.ext hx
                  replace hA := hA.ext hx
                  replace hB := hB.ext hx
                  replace hRow := hRow.ext hx
                  replace hKB := fun (j : Nat) (e : KE) hj he => (hKB j e hj he).ext hx
                  replace hB12 := hB12.ext hx
                  have hE := Upd.refl (fun _ => False) W
                  refine id (X_loadA (xs := ptC y_.2.2) A37 rfl (kptrR hRow.rd (Int.toNat_natCast _) hy_) rfl ?_)
                  exact ⟨hE, rfl⟩
                refine ⟨.det (fun val => (ptr b12 (1))), ⟨fun _ _ hv => rfl, fun _ _ _ _ _ => trivial⟩, fun val h_ W hx he => ⟨trivial, ?_⟩, ?_⟩
                · replace hx := (Upd.drew _ _).trans hx
                  replace hl := hl.ext hx
                  replace hr := hr.ext hx
                  replace hA := hA.ext hx
                  replace hB := hB.ext hx
                  replace hRow := hRow.ext hx
                  replace hKB := fun (j : Nat) (e : KE) hj he => (hKB j e hj he).ext hx
                  replace hB12 := hB12.ext hx
                  have hE := Upd.refl (fun _ => False) W
                  refine id (X_fldP (b := b12) (o := 0) (r := 1) Fd39_1 rfl rfl ?_)
                  exact ⟨hE, rfl⟩
                refine ⟨.det (fun val => (.agg (ptC e.2.2).toArray)), ⟨fun _ _ hv => rfl, fun _ _ _ _ _ => trivial⟩, fun val h_ W hx he => ⟨trivial, ?_⟩, ?_⟩
                · replace hx := (Upd.drew _ _).trans hx
                  replace hl := hl.ext hx
                  replace hr := hr.ext hx
                  replace hA := hA.ext hx
                  replace hB := hB.ext hx
                  replace hRow := hRow.ext hx
                  replace hKB := fun (j : Nat) (e : KE) hj he => (hKB j e hj he).ext hx
                  replace hB12 := hB12.ext hx
                  have hE := Upd.refl (fun _ => False) W
                  refine id (X_loadA (xs := ptC e.2.2) A37 rfl (hB12.at_ 1 (ptC e.2.2) (fun j u hj => by rw [Nat.add_comm]; simpa using hj)) rfl ?_)
                  exact ⟨hE, rfl⟩
                refine ⟨.det (fun val => (.bool (false))), ⟨fun _ _ hv => rfl, fun _ _ _ _ _ => trivial⟩, fun val h_ W hx he => ⟨trivial, ?_⟩, ?_⟩
                · replace hx := (Upd.drew _ _).trans hx
                  replace hl := hl.ext hx
                  replace hr := hr.ext hx
                  replace hA := hA.ext hx
                  replace hB := hB.ext hx
                  replace hRow := hRow.ext hx
                  replace hKB := fun (j : Nat) (e : KE) hj he => (hKB j e hj he).ext hx
                  replace hB12 := hB12.ext hx
                  have hE := Upd.refl (fun _ => False) W
                  refine id (X_eqP (p := y_.2.2) (q := e.2.2) (r := false) Try.underlying37 u37 (by kernel_rfl) (by decide) ⟨rfl, rfl, rfl, rfl⟩ Try.underlying5 Try.underlying33 (by kernel_rfl) Try.underlying32 (ie := _) rfl (by kernel_rfl) Try.underlying34 Try.underlying35 (by kernel_rfl) rfl rfl (.inr ⟨rfl, by rw [hxp, beq_self_eq_true]; rfl⟩) ?_)
                  exact ⟨hE, rfl⟩
                refine ⟨.det (fun val => (.bool (false))), ⟨fun _ _ hv => rfl, fun _ _ _ _ _ => trivial⟩, fun val h_ W hx he => ⟨trivial, ?_⟩, ?_⟩
                · replace hx := (Upd.drew _ _).trans hx
                  replace hl := hl.ext hx
                  replace hr := hr.ext hx
                  replace hA := hA.ext hx
                  replace hB := hB.ext hx
                  replace hRow := hRow.ext hx
                  replace hKB := fun (j : Nat) (e : KE) hj he => (hKB j e hj he).ext hx
                  replace hB12 := hB12.ext hx
                  have hE := Upd.refl (fun _ => False) W
                  refine id (X_move (v := (.bool (false))) rfl ?_)
                  exact ⟨hE, rfl⟩
                refine ⟨.det (fun val => (.int .i64 (((i : Nat) : Int)))), ⟨fun _ _ hv => rfl, fun _ _ _ _ _ => trivial⟩, fun val h_ W hx he => ⟨⟨96, rfl, rfl⟩, ?_⟩, ?_⟩
                · replace hx := (Upd.drew _ _).trans hx
                  replace hl := hl.ext hx
                  replace hr := hr.ext hx
                  replace hA := hA.ext hx
                  replace hB := hB.ext hx
                  replace hRow := hRow.ext hx
                  replace hKB := fun (j : Nat) (e : KE) hj he => (hKB j e hj he).ext hx
                  replace hB12 := hB12.ext hx
                  have hE := Upd.refl (fun _ => False) W
                  refine id (X_move (v := (.int .i64 (((i : Nat) : Int)))) rfl ?_)
                  exact ⟨hE, rfl⟩
                refine ⟨.det (fun val => (.bool (true))), ⟨fun _ _ hv => rfl, fun _ _ _ _ _ => trivial⟩, fun val h_ W hx he => ⟨⟨96, rfl, rfl⟩, ?_⟩, ?_⟩
                · replace hx := (Upd.drew _ _).trans hx
                  replace hl := hl.ext hx
                  replace hr := hr.ext hx
                  replace hA := hA.ext hx
                  replace hB := hB.ext hx
                  replace hRow := hRow.ext hx
                  replace hKB := fun (j : Nat) (e : KE) hj he => (hKB j e hj he).ext hx
                  replace hB12 := hB12.ext hx
                  have hE := Upd.refl (fun _ => False) W
                  refine id (X_cmp (k := .i64) (a := ((i : Nat) : Int)) (b := 0) (r := true) rfl rfl rfl (decide_eq_true (p := ((0 : Int) < ((i : Nat) : Int))) (by omega)) ?_)
                  exact ⟨hE, rfl⟩
                refine ⟨.det (fun val => (.bool (true))), ⟨fun _ _ hv => rfl, fun _ _ _ _ _ => trivial⟩, fun val h_ W hx he => ⟨⟨96, rfl, rfl⟩, ?_⟩, ?_⟩
                · replace hx := (Upd.drew _ _).trans hx
                  replace hl := hl.ext hx
                  replace hr := hr.ext hx
                  replace hA := hA.ext hx
                  replace hB := hB.ext hx
                  replace hRow := hRow.ext hx
                  replace hKB := fun (j : Nat) (e : KE) hj he => (hKB j e hj he).ext hx
                  replace hB12 := hB12.ext hx
                  have hE := Upd.refl (fun _ => False) W
                  refine id (X_move (v := (.bool (true))) rfl ?_)
                  exact ⟨hE, rfl⟩
                refine ⟨.det (fun val => vg), ⟨fun _ _ hv => rfl, fun _ _ _ _ _ => trivial⟩, fun val h_ W hx he => ⟨⟨99, rfl, rfl⟩, ?_⟩, ?_⟩
                · replace hx := (Upd.drew _ _).trans hx
                  replace hl := hl.ext hx
                  replace hr := hr.ext hx
                  replace hA := hA.ext hx
                  replace hB := hB.ext hx
                  replace hRow := hRow.ext hx
                  replace hKB := fun (j : Nat) (e : KE) hj he => (hKB j e hj he).ext hx
                  replace hB12 := hB12.ext hx
                  have hE := Upd.refl (fun _ => False) W
                  refine id (X_move (v := vg) rfl ?_)
                  exact ⟨hE, rfl⟩
                refine ⟨.det (fun val => (.int .i64 (((i : Nat) : Int)))), ⟨fun _ _ hv => rfl, fun _ _ _ _ _ => trivial⟩, fun val h_ W hx he => ⟨⟨99, rfl, rfl⟩, ?_⟩, ?_⟩
                · replace hx := (Upd.drew _ _).trans hx
                  replace hl := hl.ext hx
                  replace hr := hr.ext hx
                  replace hA := hA.ext hx
                  replace hB := hB.ext hx
                  replace hRow := hRow.ext hx
                  replace hKB := fun (j : Nat) (e : KE) hj he => (hKB j e hj he).ext hx
                  replace hB12 := hB12.ext hx
                  have hE := Upd.refl (fun _ => False) W
                  refine id (X_move (v := (.int .i64 (((i : Nat) : Int)))) rfl ?_)
                  exact ⟨hE, rfl⟩
                refine ⟨.det (fun val => (pof vg ((((i : Nat) : Int) : Int).toNat * 6))), ⟨fun _ _ hv => rfl, fun _ _ _ _ _ => trivial⟩, fun val h_ W hx he => ⟨⟨99, rfl, rfl⟩, ?_⟩, ?_⟩
                · replace hx := (Upd.drew _ _).trans hx
                  replace hl := hl.ext hx
                  replace hr := hr.ext hx
                  replace hA := hA.ext hx
                  replace hB := hB.ext hx
                  replace hRow := hRow.ext hx
                  replace hKB := fun (j : Nat) (e : KE) hj he => (hKB j e hj he).ext hx
                  replace hB12 := hB12.ext hx
                  have hE := Upd.refl (fun _ => False) W
                  refine id (X_idx (v := vg) (n := gs.length) (k := .i64) (i := ((i : Nat) : Int)) S22 rfl hsvg rfl (by omega) (by omega) ?_)
                  exact ⟨hE, rfl⟩
                refine ⟨.det (fun val => (pof vg ((((i : Nat) : Int) : Int).toNat * 6 + 0))), ⟨fun _ _ hv => rfl, fun _ _ _ _ _ => trivial⟩, fun val h_ W hx he => ⟨⟨99, rfl, rfl⟩, ?_⟩, ?_⟩
                · replace hx := (Upd.drew _ _).trans hx
                  replace hl := hl.ext hx
                  replace hr := hr.ext hx
                  replace hA := hA.ext hx
                  replace hB := hB.ext hx
                  replace hRow := hRow.ext hx
                  replace hKB := fun (j : Nat) (e : KE) hj he => (hKB j e hj he).ext hx
                  replace hB12 := hB12.ext hx
                  have hE := Upd.refl (fun _ => False) W
                  refine id (X_fldS (v := vg) (o := (((i : Nat) : Int) : Int).toNat * 6) Fd39_0 rfl hsvg (by omega) ?_)
                  exact ⟨hE, rfl⟩
                refine ⟨.det (fun val => y_.1), ⟨fun _ _ hv => rfl, fun _ _ _ _ _ => trivial⟩, fun val h_ W hx he => ⟨⟨99, rfl, rfl⟩, ?_⟩, ?_⟩
                · replace hx := (Upd.drew _ _).trans hx
                  replace hl := hl.ext hx
                  replace hr := hr.ext hx
                  replace hA := hA.ext hx
                  replace hB := hB.ext hx
                  replace hRow := hRow.ext hx
                  replace hKB := fun (j : Nat) (e : KE) hj he => (hKB j e hj he).ext hx
                  replace hB12 := hB12.ext hx
                  have hE := Upd.refl (fun _ => False) W
                  refine id (X_load (v := y_.1) T23 rfl (kkeyR hRow.rd (Int.toNat_natCast _) hy_) ?_)
                  exact ⟨hE, rfl⟩
                refine ⟨.det (fun val => (strV (y_.2.1))), ⟨fun _ _ hv => rfl, fun _ _ _ _ _ => trivial⟩, fun val h_ W hx he => ⟨⟨99, rfl, rfl⟩, ?_⟩, ?_⟩
                · replace hx := (Upd.drew _ _).trans hx
                  replace hl := hl.ext hx
                  replace hr := hr.ext hx
                  replace hA := hA.ext hx
                  replace hB := hB.ext hx
                  replace hRow := hRow.ext hx
                  replace hKB := fun (j : Nat) (e : KE) hj he => (hKB j e hj he).ext hx
                  replace hB12 := hB12.ext hx
                  have hE := Upd.refl (fun _ => False) W
                  refine id (X_str (v := y_.1) (l := y_.2.1) Try.underlying23 Try.underlying5 Try.underlying9 rfl (hKB i y_ (Nat.le_refl _) hy_).1.rd ?_)
                  exact ⟨hE, rfl⟩
                refine ⟨.det (fun val => (ptr b12 (0))), ⟨fun _ _ hv => rfl, fun _ _ _ _ _ => trivial⟩, fun val h_ W hx he => ⟨⟨99, rfl, rfl⟩, ?_⟩, ?_⟩
                · replace hx := (Upd.drew _ _).trans hx
                  replace hl := hl.ext hx
                  replace hr := hr.ext hx
                  replace hA := hA.ext hx
                  replace hB := hB.ext hx
                  replace hRow := hRow.ext hx
                  replace hKB := fun (j : Nat) (e : KE) hj he => (hKB j e hj he).ext hx
                  replace hB12 := hB12.ext hx
                  have hE := Upd.refl (fun _ => False) W
                  refine id (X_fldP (b := b12) (o := 0) (r := 0) Fd39_0 rfl rfl ?_)
                  exact ⟨hE, rfl⟩
                refine ⟨.det (fun val => e.1), ⟨fun _ _ hv => rfl, fun _ _ _ _ _ => trivial⟩, fun val h_ W hx he => ⟨⟨99, rfl, rfl⟩, ?_⟩, ?_⟩
                · replace hx := (Upd.drew _ _).trans hx
                  replace hl := hl.ext hx
                  replace hr := hr.ext hx
                  replace hA := hA.ext hx
                  replace hB := hB.ext hx
                  replace hRow := hRow.ext hx
                  replace hKB := fun (j : Nat) (e : KE) hj he => (hKB j e hj he).ext hx
                  replace hB12 := hB12.ext hx
                  have hE := Upd.refl (fun _ => False) W
                  refine id (X_load (p := (ptr b12 (0))) (v := e.1) T23 rfl (hB12.at1 rfl) ?_)
                  exact ⟨hE, rfl⟩
                refine ⟨.det (fun val => (strV (e.2.1))), ⟨fun _ _ hv => rfl, fun _ _ _ _ _ => trivial⟩, fun val h_ W hx he => ⟨⟨99, rfl, rfl⟩, ?_⟩, ?_⟩
                · replace hx := (Upd.drew _ _).trans hx
                  replace hl := hl.ext hx
                  replace hr := hr.ext hx
                  replace hA := hA.ext hx
                  replace hB := hB.ext hx
                  replace hRow := hRow.ext hx
                  replace hKB := fun (j : Nat) (e : KE) hj he => (hKB j e hj he).ext hx
                  replace hB12 := hB12.ext hx
                  have hE := Upd.refl (fun _ => False) W
                  refine id (X_str (v := e.1) (l := e.2.1) Try.underlying23 Try.underlying5 Try.underlying9 rfl (krd hB hee) ?_)
                  exact ⟨hE, rfl⟩
                refine ⟨.det (fun val => (.bool (false))), ⟨fun _ _ hv => rfl, fun _ _ _ _ _ => trivial⟩, fun val h_ W hx he => ⟨⟨99, rfl, rfl⟩, ?_⟩, ?_⟩
                · replace hx := (Upd.drew _ _).trans hx
                  replace hl := hl.ext hx
                  replace hr := hr.ext hx
                  replace hA := hA.ext hx
                  replace hB := hB.ext hx
                  replace hRow := hRow.ext hx
                  replace hKB := fun (j : Nat) (e : KE) hj he => (hKB j e hj he).ext hx
                  replace hB12 := hB12.ext hx
                  have hE := Upd.refl (fun _ => False) W
                  refine id (X_scmp (a := y_.2.1) (b := e.2.1) (r := false) rfl rfl rfl (by show (!(y_.2.1 == e.2.1)) = false; rw [hxk, beq_self_eq_true]; rfl) ?_)
                  exact ⟨hE, rfl⟩
                refine ⟨.det (fun val => (.bool (false))), ⟨fun _ _ hv => rfl, fun _ _ _ _ _ => trivial⟩, fun val h_ W hx he => ⟨⟨96, rfl, rfl⟩, ?_⟩, ?_⟩
                · replace hx := (Upd.drew _ _).trans hx
                  replace hl := hl.ext hx
                  replace hr := hr.ext hx
                  replace hA := hA.ext hx
                  replace hB := hB.ext hx
                  replace hRow := hRow.ext hx
                  replace hKB := fun (j : Nat) (e : KE) hj he => (hKB j e hj he).ext hx
                  replace hB12 := hB12.ext hx
                  have hE := Upd.refl (fun _ => False) W
                  refine id (X_pick (t := true) (v := (.bool (false))) rfl rfl ?_)
                  exact ⟨hE, rfl⟩
                refine ⟨.det (fun val => (.bool (false))), ⟨fun _ _ hv => rfl, fun _ _ _ _ _ => trivial⟩, fun val h_ W hx he => ⟨trivial, ?_⟩, ?_⟩
                · replace hx := (Upd.drew _ _).trans hx
                  replace hl := hl.ext hx
                  replace hr := hr.ext hx
                  replace hA := hA.ext hx
                  replace hB := hB.ext hx
                  replace hRow := hRow.ext hx
                  replace hKB := fun (j : Nat) (e : KE) hj he => (hKB j e hj he).ext hx
                  replace hB12 := hB12.ext hx
                  have hE := Upd.refl (fun _ => False) W
                  refine id (X_pick (t := false) (v := (.bool (false))) rfl rfl ?_)
                  exact ⟨hE, rfl⟩
                refine ⟨.det (fun val => (.bool (false))), ⟨fun _ _ hv => rfl, fun _ _ _ _ _ => trivial⟩, fun val h_ W hx he => ⟨trivial, ?_⟩, ?_⟩
                · replace hx := (Upd.drew _ _).trans hx
                  replace hl := hl.ext hx
                  replace hr := hr.ext hx
                  replace hA := hA.ext hx
                  replace hB := hB.ext hx
                  replace hRow := hRow.ext hx
                  replace hKB := fun (j : Nat) (e : KE) hj he => (hKB j e hj he).ext hx
                  replace hB12 := hB12.ext hx
                  have hE := Upd.refl (fun _ => False) W
                  refine id (X_move (v := (.bool (false))) rfl ?_)
                  exact ⟨hE, rfl⟩
                refine ⟨.det (fun val => (.int .i64 (((i : Nat) : Int)))), ⟨fun _ _ hv => rfl, fun _ _ _ _ _ => trivial⟩, fun val h_ W hx he => ⟨⟨112, rfl, rfl⟩, ?_⟩, ?_⟩
                · replace hx := (Upd.drew _ _).trans hx
                  replace hl := hl.ext hx
                  replace hr := hr.ext hx
                  replace hA := hA.ext hx
                  replace hB := hB.ext hx
                  replace hRow := hRow.ext hx
                  replace hKB := fun (j : Nat) (e : KE) hj he => (hKB j e hj he).ext hx
                  replace hB12 := hB12.ext hx
                  have hE := Upd.refl (fun _ => False) W
                  refine id (X_move (v := (.int .i64 (((i : Nat) : Int)))) rfl ?_)
                  exact ⟨hE, rfl⟩
                refine ⟨.det (fun val => (.bool (false))), ⟨fun _ _ hv => rfl, fun _ _ _ _ _ => trivial⟩, fun val h_ W hx he => ⟨⟨112, rfl, rfl⟩, ?_⟩, ?_⟩
                · replace hx := (Upd.drew _ _).trans hx
                  replace hl := hl.ext hx
                  replace hr := hr.ext hx
                  replace hA := hA.ext hx
                  replace hB := hB.ext hx
                  replace hRow := hRow.ext hx
                  replace hKB := fun (j : Nat) (e : KE) hj he => (hKB j e hj he).ext hx
                  replace hB12 := hB12.ext hx
                  have hE := Upd.refl (fun _ => False) W
                  refine id (X_cmp (k := .i64) (a := ((i : Nat) : Int)) (b := 0) (r := false) rfl rfl rfl (decide_eq_false (p := (((i : Nat) : Int) = (0 : Int))) (by omega)) ?_)
                  exact ⟨hE, rfl⟩
                refine ⟨.det (fun val => (.bool (false))), ⟨fun _ _ hv => rfl, fun _ _ _ _ _ => trivial⟩, fun val h_ W hx he => ⟨⟨112, rfl, rfl⟩, ?_⟩, ?_⟩
                · replace hx := (Upd.drew _ _).trans hx
                  replace hl := hl.ext hx
                  replace hr := hr.ext hx
                  replace hA := hA.ext hx
                  replace hB := hB.ext hx
                  replace hRow := hRow.ext hx
                  replace hKB := fun (j : Nat) (e : KE) hj he => (hKB j e hj he).ext hx
                  replace hB12 := hB12.ext hx
                  have hE := Upd.refl (fun _ => False) W
                  refine id (X_move (v := (.bool (false))) rfl ?_)
                  exact ⟨hE, rfl⟩
                refine ⟨.no, ⟨fun _ _ _ => trivial, fun _ _ _ _ _ => trivial⟩, fun val h_ W hx he => ⟨115, rfl, .inl rfl⟩, ?_⟩
                refine ⟨.no, ⟨fun _ _ _ => trivial, fun _ _ _ _ _ => trivial⟩, fun val h_ W hx he => ⟨115, rfl, .inl rfl⟩, ?_⟩
                intro val W39 hx39 he39
                replace hx39 := (Upd.drew _ _).trans hx39
                have hz39 := hx39.size
                replace hl := hl.ext hx39
                replace hr := hr.ext hx39
                replace hA := hA.ext hx39
                replace hB := hB.ext hx39
                replace hRow := hRow.ext hx39
                replace hKB := fun (j : Nat) (e : KE) hj he => (hKB j e hj he).ext hx39
                replace hU := hU.trans (Ext.upd hx39)
                replace hB12 := hB12.ext hx39
                refine L_gn (dj := 115) (t := false) rfl rfl rfl rfl ?_
                refine L_gn (dj := 115) (t := false) rfl rfl rfl rfl ?_
                refine L_gn (dj := 115) (t := false) rfl rfl rfl rfl ?_
                refine L_gn (dj := 115) (t := false) rfl rfl rfl rfl ?_
                refine L_gn (dj := 115) (t := false) rfl rfl rfl rfl ?_
                refine L_gy (dj := 112) rfl rfl rfl (X_pick (t := false) (v := (.bool (false))) rfl rfl ?_)
                refine L_op rfl (X_pick (t := false) (v := (.bool (false))) rfl rfl ?_)
                refine L_nil ?_
                refine T_n ?_
                refine W_cf rfl ?_
                refine W_skip ?_
                refine T_n ?_
                refine W_seq ?_
                refine W_reg ?_
                refine L_op rfl (X_assign (v := (.int .i64 (0))) rfl ?_)
                refine L_nil ?_
                refine T_n ?_
                refine W_block ?_
                refine W_loop (α := Nat × List UInt8) [12, 125, 126, 127, 128, 129, 130, 131, 132, 133, 134, 135, 136, 137, 138, 139, 140, 141, 142, 143, 144, 145, 146, 147, 148, 149, 150] (fun ⟨j, kk⟩ => [(12, (.int .i64 (((j : Nat) : Int))))]) (fun ⟨j, kk⟩ w_ => j ≤ y_.2.1.length ∧ NRd LK w_ 0 n0 l es ∧ NRd LK w_ 0 n0 r ms ∧ NRd LK w_ loA upA va fs ∧ NRd LK w_ loB upB vb os ∧ Own w_ lo 39 6 vg gs.length (gs.flatMap LK.cel) ∧ Own w_ lo 5 1 y_.1 y_.2.1.length (kk.map byteV) ∧ (∀ (j : Nat) (e : KE), i + 1 ≤ j → gs[j]? = some e → BOwn w_ 5 lo up (e.1, e.2.1)) ∧ Upd (fun i => n0 ≤ i) w w_ ∧ up ≤ w_.heap.size) (fun ⟨j, kk⟩ => y_.2.1.length - j) ⟨rfl, (0, y_.2.1), ⟨Nat.zero_le _, hl, hr, hA, hB, hRow, (hKB i y_ (Nat.le_refl _) hy_).1, fun j e hj he => hKB j e (by omega) he, hU, by omega⟩, Out.refl _ _, ⟨rfl, trivial⟩⟩ ?_
                rintro ⟨j, kk⟩ w42 _ ⟨hjl, hl, hr, hA, hB, hRow, hKey, hKB, hU, hupw⟩
                have hsz_ := hU.size
                have hkkl : kk.length = y_.2.1.length := by have h := hKey.1; rw [List.length_map] at h; omega
                refine W_seq ?_
                refine W_seq ?_
                refine W_reg ?_
                refine L_op rfl (X_move (v := (.int .i64 (((j : Nat) : Int)))) rfl ?_)
                refine L_op rfl (X_move (v := vg) rfl ?_)
                refine L_op rfl (X_move (v := (.int .i64 (((i : Nat) : Int)))) rfl ?_)
                refine L_op rfl (X_idx (v := vg) (n := gs.length) (k := .i64) (i := ((i : Nat) : Int)) S22 rfl hsvg rfl (by omega) (by omega) ?_)
                refine L_op rfl (X_fldS (v := vg) (o := (((i : Nat) : Int) : Int).toNat * 6) Fd39_0 rfl hsvg (by omega) ?_)
                refine L_op rfl (X_load (v := y_.1) T23 rfl (kkeyR hRow.rd (Int.toNat_natCast _) hy_) ?_)
                refine L_op rfl (X_len (v := y_.1) (n := y_.2.1.length) Try.underlying23 rfl hKey.rd.sv ?_)
                by_cases hc44 : (((j : Nat) : Int) : Int) < (((y_.2.1.length : Nat) : Int))
                · refine L_op rfl (X_cmp (k := .i64) (a := ((j : Nat) : Int)) (b := ((y_.2.1.length : Nat) : Int)) (r := true) rfl rfl rfl (decide_eq_true (p := ((((j : Nat) : Int)) : Int) < ((((y_.2.1.length : Nat) : Int)) : Int)) (by omega)) ?_)
                  have hj : j < y_.2.1.length := by omega
                  obtain ⟨bx, hbx⟩ : ∃ u, kk[j]? = some u := ⟨_, List.getElem?_eq_getElem (by omega)⟩
                  obtain ⟨bz, hbz⟩ : ∃ u : UInt8, iop .xor .u8 ((bx.toNat : Nat) : Int) 1 = ((u.toNat : Nat) : Int) := u8_any _
                  refine L_nil ?_
                  refine T_n ?_
                  refine W_ct rfl ?_
                  refine W_skip ?_
                  refine T_n ?_
                  refine W_seq ?_
                  refine W_block ?_
                  refine W_draw 15 [[], [], [0, 1], [0, 1, 2], [0, 1, 2, 3], [], [], [], [6, 7], [6, 7, 8], [6, 7, 8, 9], [], [6, 7, 8, 9, 10, 11], [6, 7, 8, 9, 10, 11, 12], [6, 7, 8, 9, 10, 11, 12, 13], [0, 1, 2, 3, 4, 5, 6, 7, 8, 9, 10, 11, 12, 13, 14], [0, 1, 2, 3, 4, 5, 6, 7, 8, 9, 10, 11, 12, 13, 14, 15]] mixed (by kernel_rfl) ?_
                  refine ⟨.det (fun val => vg), ⟨fun _ _ hv => rfl, fun _ _ _ _ _ => trivial⟩, fun val h_ W hx he => ⟨trivial, ?_⟩, ?_⟩
                  · replace hx := (Upd.drew _ _).trans hx
                    replace hl := hl.ext hx
                    replace hr := hr.ext hx
                    replace hA := hA.ext hx
                    replace hB := hB.ext hx
                    replace hRow := hRow.ext hx
                    replace hKB := fun (j : Nat) (e : KE) hj he => (hKB j e hj he).ext hx
                    replace hKey := hKey.ext hx
                    have hE := Upd.refl (fun _ => False) W
                    refine id (X_move (v := vg) rfl ?_)
                    exact ⟨hE, rfl⟩
                  refine ⟨.det (fun val => (.int .i64 (((i : Nat) : Int)))), ⟨fun _ _ hv => rfl, fun _ _ _ _ _ => trivial⟩, fun val h_ W hx he => ⟨trivial, ?_⟩, ?_⟩
                  · replace hx := (Upd.drew _ _).trans hx
                    replace hl := hl.ext hx
                    replace hr := hr.ext hx
                    replace hA := hA.ext hx
                    replace hB := hB.ext hx
                    replace hRow := hRow.ext hx
                    replace hKB := fun (j : Nat) (e : KE) hj he => (hKB j e hj he).ext hx
                    replace hKey := hKey.ext hx
                    have hE := Upd.refl (fun _ => False) W
                    refine id (X_move (v := (.int .i64 (((i : Nat) : Int)))) rfl ?_)
                    exact ⟨hE, rfl⟩
                  refine ⟨.det (fun val => (pof vg ((((i : Nat) : Int) : Int).toNat * 6))), ⟨fun _ _ hv => rfl, fun _ _ _ _ _ => trivial⟩, fun val h_ W hx he => ⟨trivial, ?_⟩, ?_⟩
                  · replace hx := (Upd.drew _ _).trans hx
                    replace hl := hl.ext hx
                    replace hr := hr.ext hx
                    replace hA := hA.ext hx
                    replace hB := hB.ext hx
                    replace hRow := hRow.ext hx
                    replace hKB := fun (j : Nat) (e : KE) hj he => (hKB j e hj he).ext hx
                    replace hKey := hKey.ext hx
                    have hE := Upd.refl (fun _ => False) W
                    refine id (X_idx (v := vg) (n := gs.length) (k := .i64) (i := ((i : Nat) : Int)) S22 rfl hsvg rfl (by omega) (by omega) ?_)
                    exact ⟨hE, rfl⟩
                  refine ⟨.det (fun val => (pof vg ((((i : Nat) : Int) : Int).toNat * 6 + 0))), ⟨fun _ _ hv => rfl, fun _ _ _ _ _ => trivial⟩, fun val h_ W hx he => ⟨trivial, ?_⟩, ?_⟩
                  · replace hx := (Upd.drew _ _).trans hx
                    replace hl := hl.ext hx
                    replace hr := hr.ext hx
                    replace hA := hA.ext hx
                    replace hB := hB.ext hx
                    replace hRow := hRow.ext hx
                    replace hKB := fun (j : Nat) (e : KE) hj he => (hKB j e hj he).ext hx
                    replace hKey := hKey.ext hx
                    have hE := Upd.refl (fun _ => False) W
                    refine id (X_fldS (v := vg) (o := (((i : Nat) : Int) : Int).toNat * 6) Fd39_0 rfl hsvg (by omega) ?_)
                    exact ⟨hE, rfl⟩
                  refine ⟨.det (fun val => y_.1), ⟨fun _ _ hv => rfl, fun _ _ _ _ _ => trivial⟩, fun val h_ W hx he => ⟨trivial, ?_⟩, ?_⟩
                  · replace hx := (Upd.drew _ _).trans hx
                    replace hl := hl.ext hx
                    replace hr := hr.ext hx
                    replace hA := hA.ext hx
                    replace hB := hB.ext hx
                    replace hRow := hRow.ext hx
                    replace hKB := fun (j : Nat) (e : KE) hj he => (hKB j e hj he).ext hx
                    replace hKey := hKey.ext hx
                    have hE := Upd.refl (fun _ => False) W
                    refine id (X_load (v := y_.1) T23 rfl (kkeyR hRow.rd (Int.toNat_natCast _) hy_) ?_)
                    exact ⟨hE, rfl⟩
                  refine ⟨.det (fun val => (.int .i64 (((j : Nat) : Int)))), ⟨fun _ _ hv => rfl, fun _ _ _ _ _ => trivial⟩, fun val h_ W hx he => ⟨trivial, ?_⟩, ?_⟩
                  · replace hx := (Upd.drew _ _).trans hx
                    replace hl := hl.ext hx
                    replace hr := hr.ext hx
                    replace hA := hA.ext hx
                    replace hB := hB.ext hx
                    replace hRow := hRow.ext hx
                    replace hKB := fun (j : Nat) (e : KE) hj he => (hKB j e hj he).ext hx
                    replace hKey := hKey.ext hx
                    have hE := Upd.refl (fun _ => False) W
                    refine id (X_move (v := (.int .i64 (((j : Nat) : Int)))) rfl ?_)
                    exact ⟨hE, rfl⟩
                  refine ⟨.det (fun val => vg), ⟨fun _ _ hv => rfl, fun _ _ _ _ _ => trivial⟩, fun val h_ W hx he => ⟨trivial, ?_⟩, ?_⟩
                  · replace hx := (Upd.drew _ _).trans hx
                    replace hl := hl.ext hx
                    replace hr := hr.ext hx
                    replace hA := hA.ext hx
                    replace hB := hB.ext hx
                    replace hRow := hRow.ext hx
                    replace hKB := fun (j : Nat) (e : KE) hj he => (hKB j e hj he).ext hx
                    replace hKey := hKey.ext hx
                    have hE := Upd.refl (fun _ => False) W
                    refine id (X_move (v := vg) rfl ?_)
                    exact ⟨hE, rfl⟩
                  refine ⟨.det (fun val => (.int .i64 (((i : Nat) : Int)))), ⟨fun _ _ hv => rfl, fun _ _ _ _ _ => trivial⟩, fun val h_ W hx he => ⟨trivial, ?_⟩, ?_⟩
                  · replace hx := (Upd.drew _ _).trans hx
                    replace hl := hl.ext hx
                    replace hr := hr.ext hx
                    replace hA := hA.ext hx
                    replace hB := hB.ext hx
                    replace hRow := hRow.ext hx
                    replace hKB := fun (j : Nat) (e : KE) hj he => (hKB j e hj he).ext hx
                    replace hKey := hKey.ext hx
                    have hE := Upd.refl (fun _ => False) W
                    refine id (X_move (v := (.int .i64 (((i : Nat) : Int)))) rfl ?_)
                    exact ⟨hE, rfl⟩
                  refine ⟨.det (fun val => (pof vg ((((i : Nat) : Int) : Int).toNat * 6))), ⟨fun _ _ hv => rfl, fun _ _ _ _ _ => trivial⟩, fun val h_ W hx he => ⟨trivial, ?_⟩, ?_⟩
                  · replace hx := (Upd.drew _ _).trans hx
                    replace hl := hl.ext hx
                    replace hr := hr.ext hx
                    replace hA := hA.ext hx
                    replace hB := hB.ext hx
                    replace hRow := hRow.ext hx
                    replace hKB := fun (j : Nat) (e : KE) hj he => (hKB j e hj he).ext hx
                    replace hKey := hKey.ext hx
                    have hE := Upd.refl (fun _ => False) W
                    refine id (X_idx (v := vg) (n := gs.length) (k := .i64) (i := ((i : Nat) : Int)) S22 rfl hsvg rfl (by omega) (by omega) ?_)
                    exact ⟨hE, rfl⟩
                  refine ⟨.det (fun val => (pof vg ((((i : Nat) : Int) : Int).toNat * 6 + 0))), ⟨fun _ _ hv => rfl, fun _ _ _ _ _ => trivial⟩, fun val h_ W hx he => ⟨trivial, ?_⟩, ?_⟩
                  · replace hx := (Upd.drew _ _).trans hx
                    replace hl := hl.ext hx
                    replace hr := hr.ext hx
                    replace hA := hA.ext hx
                    replace hB := hB.ext hx
                    replace hRow := hRow.ext hx
                    replace hKB := fun (j : Nat) (e : KE) hj he => (hKB j e hj he).ext hx
                    replace hKey := hKey.ext hx
                    have hE := Upd.refl (fun _ => False) W
                    refine id (X_fldS (v := vg) (o := (((i : Nat) : Int) : Int).toNat * 6) Fd39_0 rfl hsvg (by omega) ?_)
                    exact ⟨hE, rfl⟩
                  refine ⟨.det (fun val => y_.1), ⟨fun _ _ hv => rfl, fun _ _ _ _ _ => trivial⟩, fun val h_ W hx he => ⟨trivial, ?_⟩, ?_⟩
                  · replace hx := (Upd.drew _ _).trans hx
                    replace hl := hl.ext hx
                    replace hr := hr.ext hx
                    replace hA := hA.ext hx
                    replace hB := hB.ext hx
                    replace hRow := hRow.ext hx
                    replace hKB := fun (j : Nat) (e : KE) hj he => (hKB j e hj he).ext hx
                    replace hKey := hKey.ext hx
                    have hE := Upd.refl (fun _ => False) W
                    refine id (X_load (v := y_.1) T23 rfl (kkeyR hRow.rd (Int.toNat_natCast _) hy_) ?_)
                    exact ⟨hE, rfl⟩
                  refine ⟨.det (fun val => (.int .i64 (((j : Nat) : Int)))), ⟨fun _ _ hv => rfl, fun _ _ _ _ _ => trivial⟩, fun val h_ W hx he => ⟨trivial, ?_⟩, ?_⟩
                  · replace hx := (Upd.drew _ _).trans hx
                    replace hl := hl.ext hx
                    replace hr := hr.ext hx
                    replace hA := hA.ext hx
                    replace hB := hB.ext hx
                    replace hRow := hRow.ext hx
                    replace hKB := fun (j : Nat) (e : KE) hj he => (hKB j e hj he).ext hx
                    replace hKey := hKey.ext hx
                    have hE := Upd.refl (fun _ => False) W
                    refine id (X_move (v := (.int .i64 (((j : Nat) : Int)))) rfl ?_)
                    exact ⟨hE, rfl⟩
                  refine ⟨.det (fun val => (pof y_.1 ((((j : Nat) : Int) : Int).toNat * 1))), ⟨fun _ _ hv => rfl, fun _ _ _ _ _ => trivial⟩, fun val h_ W hx he => ⟨trivial, ?_⟩, ?_⟩
                  · replace hx := (Upd.drew _ _).trans hx
                    replace hl := hl.ext hx
                    replace hr := hr.ext hx
                    replace hA := hA.ext hx
                    replace hB := hB.ext hx
                    replace hRow := hRow.ext hx
                    replace hKB := fun (j : Nat) (e : KE) hj he => (hKB j e hj he).ext hx
                    replace hKey := hKey.ext hx
                    have hE := Upd.refl (fun _ => False) W
                    refine id (X_idx (v := y_.1) (n := y_.2.1.length) (k := .i64) (i := ((j : Nat) : Int)) S23 rfl hKey.rd.sv rfl (by omega) (by omega) ?_)
                    exact ⟨hE, rfl⟩
                  refine ⟨.det (fun val => (.int .u8 (((bx.toNat : Nat) : Int)))), ⟨fun _ _ hv => rfl, fun _ _ _ _ _ => trivial⟩, fun val h_ W hx he => ⟨trivial, ?_⟩, ?_⟩
                  · replace hx := (Upd.drew _ _).trans hx
                    replace hl := hl.ext hx
                    replace hr := hr.ext hx
                    replace hA := hA.ext hx
                    replace hB := hB.ext hx
                    replace hRow := hRow.ext hx
                    replace hKB := fun (j : Nat) (e : KE) hj he => (hKB j e hj he).ext hx
                    replace hKey := hKey.ext hx
                    have hE := Upd.refl (fun _ => False) W
                    refine id (X_load (v := .int .u8 ((bx.toNat : Nat) : Int)) T5 rfl (hKey.rd.cell (by rw [show (((j : Nat) : Int).toNat * 1) = j by omega, List.getElem?_map, hbx]; rfl)) ?_)
                    exact ⟨hE, rfl⟩
                  refine ⟨.det (fun val => (.int .u8 (((bz.toNat : Nat) : Int)))), ⟨fun _ _ hv => rfl, fun _ _ _ _ _ => trivial⟩, fun val h_ W hx he => ⟨trivial, ?_⟩, ?_⟩
                  · replace hx := (Upd.drew _ _).trans hx
                    replace hl := hl.ext hx
                    replace hr := hr.ext hx
                    replace hA := hA.ext hx
                    replace hB := hB.ext hx
                    replace hRow := hRow.ext hx
                    replace hKB := fun (j : Nat) (e : KE) hj he => (hKB j e hj he).ext hx
                    replace hKey := hKey.ext hx
                    have hE := Upd.refl (fun _ => False) W
                    refine id (X_arith (k := .u8) (a := ((bx.toNat : Nat) : Int)) (b := 1) (r := ((bz.toNat : Nat) : Int)) rfl rfl rfl hbz ?_)
                    exact ⟨hE, rfl⟩
                  intro val W45 hx45 he45
                  replace hx45 := (Upd.drew _ _).trans hx45
                  have hz45 := hx45.size
                  replace hl := hl.ext hx45
                  replace hr := hr.ext hx45
                  replace hA := hA.ext hx45
                  replace hB := hB.ext hx45
                  replace hRow := hRow.ext hx45
                  replace hKB := fun (j : Nat) (e : KE) hj he => (hKB j e hj he).ext hx45
                  replace hU := hU.trans (Ext.upd hx45)
                  replace hKey := hKey.ext hx45
                  refine L_op rfl (X_idx (v := y_.1) (n := y_.2.1.length) (k := .i64) (i := ((j : Nat) : Int)) S23 rfl hKey.rd.sv rfl (by omega) (by omega) ?_)
                  refine L_op0 (X_storeOwn (i := ((j : Nat) : Int).toNat * 1) (v := y_.1) (u := .int .u8 ((bz.toNat : Nat) : Int)) T5 hKey (by omega) rfl rfl rfl ?_)
                  intro w48 hO48 hu48
                  have hz48 := hu48.size
                  rw [show ((j : Nat) : Int).toNat * 1 = j by omega] at hO48
                  replace hRow := hRow.upd hu48 fun i h1 h => absurd (hRow.types hKey h1 h) (by decide)
                  replace hKB := fun (q : Nat) (e : KE) hq he => (⟨(hKB q e hq he).1.upd hu48 fun b hb h => dist_at hdi (show i < q by omega) hy_ he b h hb, (hKB q e hq he).2⟩ : BOwn w48 5 lo up (e.1, e.2.1))
                  replace hl := hl.upd hu48 fun i h1 h2 h => by have h := hKey.lt h; omega
                  replace hr := hr.upd hu48 fun i h1 h2 h => by have h := hKey.lt h; omega
                  replace hA := hA.upd hu48 fun i h1 h2 h => by have h := hKey.lt h; omega
                  replace hB := hB.upd hu48 fun i h1 h2 h => by have h := hKey.lt h; omega
                  replace hU := hU.trans (hu48.mono fun i _ h => by have h := hKey.lt h; show n0 ≤ i; omega)
                  replace hKey : Own w48 lo 5 1 y_.1 y_.2.1.length ((kk.set j bz).map byteV) := by rw [List.map_set]; exact hO48
                  refine L_nil ?_
                  refine B_n ?_
                  refine T_n ?_
                  refine W_reg ?_
                  refine L_op rfl (X_move (v := (.int .i64 (((j : Nat) : Int)))) rfl ?_)
                  refine L_op rfl (X_arith (k := .i64) (a := ((j : Nat) : Int)) (b := 1) (r := ((j + 1 : Nat) : Int)) rfl rfl rfl (iadd64 (by omega) (by omega) (by omega)) ?_)
                  refine L_op rfl (X_assign (v := (.int .i64 (((j + 1 : Nat) : Int)))) rfl ?_)
                  refine L_nil ?_
                  refine T_n ?_
                  exact ⟨rfl, (j + 1, kk.set j bz), ⟨⟨hj, hl, hr, hA, hB, hRow, hKey, hKB, hU, by omega⟩, (by show y_.2.1.length - (j + 1) < y_.2.1.length - j; omega)⟩, (Out.mk rfl), ⟨rfl, trivial⟩⟩
                · refine L_op rfl (X_cmp (k := .i64) (a := ((j : Nat) : Int)) (b := ((y_.2.1.length : Nat) : Int)) (r := false) rfl rfl rfl (decide_eq_false (p := ((((j : Nat) : Int)) : Int) < ((((y_.2.1.length : Nat) : Int)) : Int)) (by omega)) ?_)
                  refine L_nil ?_
                  refine T_n ?_
                  refine W_cf rfl ?_
                  refine W_exit ?_
                  refine T_e ?_
                  refine T_e ?_
                  refine B_x ?_
                  refine B_n ?_
                  refine T_n ?_
                  refine W_reg ?_
                  refine L_op rfl (X_move (v := (.int .i64 (((i : Nat) : Int)))) rfl ?_)
                  refine L_op rfl (X_arith (k := .i64) (a := ((i : Nat) : Int)) (b := 1) (r := ((i + 1 : Nat) : Int)) rfl rfl rfl (iadd64 (by omega) (by omega) (by omega)) ?_)
                  refine L_op rfl (X_assign (v := (.int .i64 (((i + 1 : Nat) : Int)))) rfl ?_)
                  refine L_nil ?_
                  refine T_n ?_
                  exact ⟨rfl, i + 1, ⟨⟨hi, hl, hr, hA, hB, hRow, hKB, hU, by omega⟩, (by show gs.length - (i + 1) < gs.length - i; omega)⟩, (Out.in_ rfl rfl (Out.mk rfl)), ⟨rfl, trivial⟩⟩
              · have hi0 := of_decide_eq_false hs38
                rw [if_pos (by omega), hde] at hxd
                have hxp : y_.2.2 = e.2.2 := by rw [hxd]
                have hx0 : y_.2.1.length = 0 := by rw [hxd]; rfl
                refine W_draw 30 [[], [], [0, 1], [0, 1, 2], [0, 1, 2, 3], [], [5], [0, 1, 2, 3, 4, 5, 6], [0, 1, 2, 3, 4, 5, 6, 7], [0, 1, 2, 3, 4, 5, 6, 7, 8], [0, 1, 2, 3, 4, 5, 6, 7, 8, 9], [0, 1, 2, 3, 4, 5, 6, 7, 8, 9, 10], [0, 1, 2, 3, 4, 5, 6, 7, 8, 9, 10, 11], [0, 1, 2, 3, 4, 5, 6, 7, 8, 9, 10, 11], [0, 1, 2, 3, 4, 5, 6, 7, 8, 9, 10, 11, 12, 13], [0, 1, 2, 3, 4, 5, 6, 7, 8, 9, 10, 11, 12, 13, 14], [0, 1, 2, 3, 4, 5, 6, 7, 8, 9, 10, 11, 12, 13, 14, 15], [0, 1, 2, 3, 4, 5, 6, 7, 8, 9, 10, 11, 12, 13, 14, 15, 16], [0, 1, 2, 3, 4, 5, 6, 7, 8, 9, 10, 11], [0, 1, 2, 3, 4, 5, 6, 7, 8, 9, 10, 11, 18], [0, 1, 2, 3, 4, 5, 6, 7, 8, 9, 10, 11, 18, 19], [0, 1, 2, 3, 4, 5, 6, 7, 8, 9, 10, 11, 12, 13, 14, 15, 16, 17, 18, 19, 20], [0, 1, 2, 3, 4, 5, 6, 7, 8, 9, 10, 11, 12, 13, 14, 15, 16, 17, 18, 19, 20, 21], [0, 1, 2, 3, 4, 5, 6, 7, 8, 9, 10, 11, 12, 13, 14, 15, 16, 17, 18, 19, 20, 21, 22], [0, 1, 2, 3, 4, 5, 6, 7, 8, 9, 10, 11, 12, 13, 14, 15, 16, 17, 18, 19, 20, 21, 22, 23], [0, 1, 2, 3, 4, 5, 6, 7, 8, 9, 10, 11, 12, 13, 14, 15, 16, 17, 18, 19, 20, 21, 22, 23, 24], [0, 1, 2, 3, 4, 5, 6, 7, 8, 9, 10, 11, 12, 13, 14, 15, 16, 17, 18, 19, 20, 21, 22, 23, 24, 25], [0, 1, 2, 3, 4, 5, 6, 7, 8, 9, 10, 11, 12, 13, 14, 15, 16, 17, 18, 19, 20, 21, 22, 23, 24, 25, 26], [0, 1, 2, 3, 4, 5, 6, 7, 8, 9, 10, 11, 12, 13, 14, 15, 16, 17, 18, 19, 20, 21, 22, 23, 24, 25, 26, 27], [0, 1, 2, 3, 4, 5, 6, 7, 8, 9, 10, 11, 12, 13, 14, 15, 16, 17, 18, 19, 20, 21, 22, 23, 24, 25, 26, 27], [0, 1, 2, 3, 4, 5, 6, 7, 8, 9, 10, 11, 12, 13, 14, 15, 16, 17, 18, 19, 20, 21, 22, 23, 24, 25, 26, 27, 28, 29], [0, 1, 2, 3, 4, 5, 6, 7, 8, 9, 10, 11, 12, 13, 14, 15, 16, 17, 18, 19, 20, 21, 22, 23, 24, 25, 26, 27, 28, 29, 30], [0, 1, 2, 3, 4, 5, 6, 7, 8, 9, 10, 11, 12, 13, 14, 15, 16, 17, 18, 19, 20, 21, 22, 23, 24, 25, 26, 27, 28, 29, 30, 31], [0, 1, 2, 3, 4, 5, 6, 7, 8, 9, 10, 11, 12, 13, 14, 15, 16, 17, 18, 19, 20, 21, 22, 23, 24, 25, 26, 27, 28, 29, 30, 31, 32], [0, 1, 2, 3, 4, 5, 6, 7, 8, 9, 10, 11, 12, 13, 14, 15, 16, 17, 18, 19, 20, 21, 22, 23, 24, 25, 26, 27, 28, 29, 30, 31, 32, 33], [0, 1, 2, 3, 4, 5, 6, 7, 8, 9, 10, 11, 12, 13, 14, 15, 16, 17, 18, 19, 20, 21, 22, 23, 24, 25, 26, 27, 28, 29, 30, 31, 32, 33, 34], [0, 1, 2, 3, 4, 5, 6, 7, 8, 9, 10, 11, 12, 13, 14, 15, 16, 17, 18, 19, 20, 21, 22, 23, 24, 25, 26, 27, 28, 29, 30, 31, 32, 33, 34, 35]] mixed (by kernel_rfl) ?_
                refine ⟨.det (fun val => vg), ⟨fun _ _ hv => rfl, fun _ _ _ _ _ => trivial⟩, fun val h_ W hx he => ⟨trivial, ?_⟩, ?_⟩
                · replace hx := (Upd.drew _ _).trans hx
                  replace hl := hl.ext hx
                  replace hr := hr.ext hx
                  replace hA := hA.ext hx
                  replace hB := hB.ext hx
                  replace hRow := hRow.ext hx
                  replace hKB := fun (j : Nat) (e : KE) hj he => (hKB j e hj he).ext hx
                  replace hB12 := hB12.ext hx
                  have hE := Upd.refl (fun _ => False) W
                  refine id (X_move (v := vg) rfl ?_)
                  exact ⟨hE, rfl⟩
                refine ⟨.det (fun val => (.int .i64 (((i : Nat) : Int)))), ⟨fun _ _ hv => rfl, fun _ _ _ _ _ => trivial⟩, fun val h_ W hx he => ⟨trivial, ?_⟩, ?_⟩
                · replace hx := (Upd.drew _ _).trans hx
                  replace hl := hl.ext hx
                  replace hr := hr.ext hx
                  replace hA := hA.ext hx
                  replace hB := hB.ext hx
                  replace hRow := hRow.ext hx
                  replace hKB := fun (j : Nat) (e : KE) hj he => (hKB j e hj he).ext hx
                  replace hB12 := hB12.ext hx
                  have hE := Upd.refl (fun _ => False) W
                  refine id (X_move (v := (.int .i64 (((i : Nat) : Int)))) rfl ?_)
                  exact ⟨hE, rfl⟩
                refine ⟨.det (fun val => (pof vg ((((i : Nat) : Int) : Int).toNat * 6))), ⟨fun _ _ hv => rfl, fun _ _ _ _ _ => trivial⟩, fun val h_ W hx he => ⟨trivial, ?_⟩, ?_⟩
                · replace hx := (Upd.drew _ _).trans hx
                  replace hl := hl.ext hx
                  replace hr := hr.ext hx
                  replace hA := hA.ext hx
                  replace hB := hB.ext hx
                  replace hRow := hRow.ext hx
                  replace hKB := fun (j : Nat) (e : KE) hj he => (hKB j e hj he).ext hx
                  replace hB12 := hB12.ext hx
                  have hE := Upd.refl (fun _ => False) W
                  refine id (X_idx (v := vg) (n := gs.length) (k := .i64) (i := ((i : Nat) : Int)) S22 rfl hsvg rfl (by omega) (by omega) ?_)
                  exact ⟨hE, rfl⟩
                refine ⟨.det (fun val => (pof vg ((((i : Nat) : Int) : Int).toNat * 6 + 1))), ⟨fun _ _ hv => rfl, fun _ _ _ _ _ => trivial⟩, fun val h_ W hx he => ⟨trivial, ?_⟩, ?_⟩
                · replace hx := (Upd.drew _ _).trans hx
                  replace hl := hl.ext hx
                  replace hr := hr.ext hx
                  replace hA := hA.ext hx
                  replace hB := hB.ext hx
                  replace hRow := hRow.ext hx
                  replace hKB := fun (j : Nat) (e : KE) hj he => (hKB j e hj he).ext hx
                  replace hB12 := hB12.ext hx
                  have hE := Upd.refl (fun _ => False) W
                  refine id (X_fldS (v := vg) (o := (((i : Nat) : Int) : Int).toNat * 6) Fd39_1 rfl hsvg (by omega) ?_)
                  exact ⟨hE, rfl⟩
                refine ⟨.det (fun val => (.agg (ptC y_.2.2).toArray)), ⟨fun _ _ hv => rfl, fun _ _ _ _ _ => trivial⟩, fun val h_ W hx he => ⟨trivial, ?_⟩, ?_⟩
                · replace hx := (Upd.drew _ _).trans hx
                  replace hl := hl.ext hx
                  replace hr := hr.ext hx
                  replace hA := hA.ext hx
                  replace hB := hB.ext hx
                  replace hRow := hRow.ext hx
                  replace hKB := fun (j : Nat) (e : KE) hj he => (hKB j e hj he).ext hx
                  replace hB12 := hB12.ext hx
                  have hE := Upd.refl (fun _ => False) W
                  refine id (X_loadA (xs := ptC y_.2.2) A37 rfl (kptrR hRow.rd (Int.toNat_natCast _) hy_) rfl ?_)
                  exact ⟨hE, rfl⟩
                refine ⟨.det (fun val => (ptr b12 (1))), ⟨fun _ _ hv => rfl, fun _ _ _ _ _ => trivial⟩, fun val h_ W hx he => ⟨trivial, ?_⟩, ?_⟩
                · replace hx := (Upd.drew _ _).trans hx
                  replace hl := hl.ext hx
                  replace hr := hr.ext hx
                  replace hA := hA.ext hx
                  replace hB := hB.ext hx
                  replace hRow := hRow.ext hx
                  replace hKB := fun (j : Nat) (e : KE) hj he => (hKB j e hj he).ext hx
                  replace hB12 := hB12.ext hx
                  have hE := Upd.refl (fun _ => False) W
                  refine id (X_fldP (b := b12) (o := 0) (r := 1) Fd39_1 rfl rfl ?_)
                  exact ⟨hE, rfl⟩
                refine ⟨.det (fun val => (.agg (ptC e.2.2).toArray)), ⟨fun _ _ hv => rfl, fun _ _ _ _ _ => trivial⟩, fun val h_ W hx he => ⟨trivial, ?_⟩, ?_⟩
                · replace hx := (Upd.drew _ _).trans hx
                  replace hl := hl.ext hx
                  replace hr := hr.ext hx
                  replace hA := hA.ext hx
                  replace hB := hB.ext hx
                  replace hRow := hRow.ext hx
                  replace hKB := fun (j : Nat) (e : KE) hj he => (hKB j e hj he).ext hx
                  replace hB12 := hB12.ext hx
                  have hE := Upd.refl (fun _ => False) W
                  refine id (X_loadA (xs := ptC e.2.2) A37 rfl (hB12.at_ 1 (ptC e.2.2) (fun j u hj => by rw [Nat.add_comm]; simpa using hj)) rfl ?_)
                  exact ⟨hE, rfl⟩
                refine ⟨.det (fun val => (.bool (false))), ⟨fun _ _ hv => rfl, fun _ _ _ _ _ => trivial⟩, fun val h_ W hx he => ⟨trivial, ?_⟩, ?_⟩
                · replace hx := (Upd.drew _ _).trans hx
                  replace hl := hl.ext hx
                  replace hr := hr.ext hx
                  replace hA := hA.ext hx
                  replace hB := hB.ext hx
                  replace hRow := hRow.ext hx
                  replace hKB := fun (j : Nat) (e : KE) hj he => (hKB j e hj he).ext hx
                  replace hB12 := hB12.ext hx
                  have hE := Upd.refl (fun _ => False) W
                  refine id (X_eqP (p := y_.2.2) (q := e.2.2) (r := false) Try.underlying37 u37 (by kernel_rfl) (by decide) ⟨rfl, rfl, rfl, rfl⟩ Try.underlying5 Try.underlying33 (by kernel_rfl) Try.underlying32 (ie := _) rfl (by kernel_rfl) Try.underlying34 Try.underlying35 (by kernel_rfl) rfl rfl (.inr ⟨rfl, by rw [hxp, beq_self_eq_true]; rfl⟩) ?_)
                  exact ⟨hE, rfl⟩
                refine ⟨.det (fun val => (.bool (false))), ⟨fun _ _ hv => rfl, fun _ _ _ _ _ => trivial⟩, fun val h_ W hx he => ⟨trivial, ?_⟩, ?_⟩
                · replace hx := (Upd.drew _ _).trans hx
                  replace hl := hl.ext hx
                  replace hr := hr.ext hx
                  replace hA := hA.ext hx
                  replace hB := hB.ext hx
                  replace hRow := hRow.ext hx
                  replace hKB := fun (j : Nat) (e : KE) hj he => (hKB j e hj he).ext hx
                  replace hB12 := hB12.ext hx
                  have hE := Upd.refl (fun _ => False) W
                  refine id (X_move (v := (.bool (false))) rfl ?_)
                  exact ⟨hE, rfl⟩
                refine ⟨.det (fun val => (.int .i64 (((i : Nat) : Int)))), ⟨fun _ _ hv => rfl, fun _ _ _ _ _ => trivial⟩, fun val h_ W hx he => ⟨⟨96, rfl, rfl⟩, ?_⟩, ?_⟩
                · replace hx := (Upd.drew _ _).trans hx
                  replace hl := hl.ext hx
                  replace hr := hr.ext hx
                  replace hA := hA.ext hx
                  replace hB := hB.ext hx
                  replace hRow := hRow.ext hx
                  replace hKB := fun (j : Nat) (e : KE) hj he => (hKB j e hj he).ext hx
                  replace hB12 := hB12.ext hx
                  have hE := Upd.refl (fun _ => False) W
                  refine id (X_move (v := (.int .i64 (((i : Nat) : Int)))) rfl ?_)
                  exact ⟨hE, rfl⟩
                refine ⟨.det (fun val => (.bool (false))), ⟨fun _ _ hv => rfl, fun _ _ _ _ _ => trivial⟩, fun val h_ W hx he => ⟨⟨96, rfl, rfl⟩, ?_⟩, ?_⟩
                · replace hx := (Upd.drew _ _).trans hx
                  replace hl := hl.ext hx
                  replace hr := hr.ext hx
                  replace hA := hA.ext hx
                  replace hB := hB.ext hx
                  replace hRow := hRow.ext hx
                  replace hKB := fun (j : Nat) (e : KE) hj he => (hKB j e hj he).ext hx
                  replace hB12 := hB12.ext hx
                  have hE := Upd.refl (fun _ => False) W
                  refine id (X_cmp (k := .i64) (a := ((i : Nat) : Int)) (b := 0) (r := false) rfl rfl rfl (decide_eq_false (p := ((0 : Int) < ((i : Nat) : Int))) (by omega)) ?_)
                  exact ⟨hE, rfl⟩
                refine ⟨.det (fun val => (.bool (false))), ⟨fun _ _ hv => rfl, fun _ _ _ _ _ => trivial⟩, fun val h_ W hx he => ⟨⟨96, rfl, rfl⟩, ?_⟩, ?_⟩
                · replace hx := (Upd.drew _ _).trans hx
                  replace hl := hl.ext hx
                  replace hr := hr.ext hx
                  replace hA := hA.ext hx
                  replace hB := hB.ext hx
                  replace hRow := hRow.ext hx
                  replace hKB := fun (j : Nat) (e : KE) hj he => (hKB j e hj he).ext hx
                  replace hB12 := hB12.ext hx
                  have hE := Upd.refl (fun _ => False) W
                  refine id (X_move (v := (.bool (false))) rfl ?_)
                  exact ⟨hE, rfl⟩
                refine ⟨.no, ⟨fun _ _ _ => trivial, fun _ _ _ _ _ => trivial⟩, fun val h_ W hx he => ⟨99, rfl, .inl rfl⟩, ?_⟩
                refine ⟨.no, ⟨fun _ _ _ => trivial, fun _ _ _ _ _ => trivial⟩, fun val h_ W hx he => ⟨99, rfl, .inl rfl⟩, ?_⟩
                refine ⟨.no, ⟨fun _ _ _ => trivial, fun _ _ _ _ _ => trivial⟩, fun val h_ W hx he => ⟨99, rfl, .inl rfl⟩, ?_⟩
                refine ⟨.no, ⟨fun _ _ _ => trivial, fun _ _ _ _ _ => trivial⟩, fun val h_ W hx he => ⟨99, rfl, .inl rfl⟩, ?_⟩
                refine ⟨.no, ⟨fun _ _ _ => trivial, fun _ _ _ _ _ => trivial⟩, fun val h_ W hx he => ⟨99, rfl, .inl rfl⟩, ?_⟩
                refine ⟨.no, ⟨fun _ _ _ => trivial, fun _ _ _ _ _ => trivial⟩, fun val h_ W hx he => ⟨99, rfl, .inl rfl⟩, ?_⟩
                refine ⟨.no, ⟨fun _ _ _ => trivial, fun _ _ _ _ _ => trivial⟩, fun val h_ W hx he => ⟨99, rfl, .inl rfl⟩, ?_⟩
                refine ⟨.no, ⟨fun _ _ _ => trivial, fun _ _ _ _ _ => trivial⟩, fun val h_ W hx he => ⟨99, rfl, .inl rfl⟩, ?_⟩
                refine ⟨.no, ⟨fun _ _ _ => trivial, fun _ _ _ _ _ => trivial⟩, fun val h_ W hx he => ⟨99, rfl, .inl rfl⟩, ?_⟩
                refine ⟨.no, ⟨fun _ _ _ => trivial, fun _ _ _ _ _ => trivial⟩, fun val h_ W hx he => ⟨99, rfl, .inl rfl⟩, ?_⟩
                refine ⟨.det (fun val => (.bool (false))), ⟨fun _ _ hv => rfl, fun _ _ _ _ _ => trivial⟩, fun val h_ W hx he => ⟨⟨96, rfl, rfl⟩, ?_⟩, ?_⟩
                · replace hx := (Upd.drew _ _).trans hx
                  replace hl := hl.ext hx
                  replace hr := hr.ext hx
                  replace hA := hA.ext hx
                  replace hB := hB.ext hx
                  replace hRow := hRow.ext hx
                  replace hKB := fun (j : Nat) (e : KE) hj he => (hKB j e hj he).ext hx
                  replace hB12 := hB12.ext hx
                  have hE := Upd.refl (fun _ => False) W
                  refine id (X_pick (t := false) (v := (.bool (false))) rfl rfl ?_)
                  exact ⟨hE, rfl⟩
                refine ⟨.det (fun val => (.bool (false))), ⟨fun _ _ hv => rfl, fun _ _ _ _ _ => trivial⟩, fun val h_ W hx he => ⟨trivial, ?_⟩, ?_⟩
                · replace hx := (Upd.drew _ _).trans hx
                  replace hl := hl.ext hx
                  replace hr := hr.ext hx
                  replace hA := hA.ext hx
                  replace hB := hB.ext hx
                  replace hRow := hRow.ext hx
                  replace hKB := fun (j : Nat) (e : KE) hj he => (hKB j e hj he).ext hx
                  replace hB12 := hB12.ext hx
                  have hE := Upd.refl (fun _ => False) W
                  refine id (X_pick (t := false) (v := (.bool (false))) rfl rfl ?_)
                  exact ⟨hE, rfl⟩
                refine ⟨.det (fun val => (.bool (false))), ⟨fun _ _ hv => rfl, fun _ _ _ _ _ => trivial⟩, fun val h_ W hx he => ⟨trivial, ?_⟩, ?_⟩
                · replace hx := (Upd.drew _ _).trans hx
                  replace hl := hl.ext hx
                  replace hr := hr.ext hx
                  replace hA := hA.ext hx
                  replace hB := hB.ext hx
                  replace hRow := hRow.ext hx
                  replace hKB := fun (j : Nat) (e : KE) hj he => (hKB j e hj he).ext hx
                  replace hB12 := hB12.ext hx
                  have hE := Upd.refl (fun _ => False) W
                  refine id (X_move (v := (.bool (false))) rfl ?_)
                  exact ⟨hE, rfl⟩
                refine ⟨.det (fun val => (.int .i64 (((i : Nat) : Int)))), ⟨fun _ _ hv => rfl, fun _ _ _ _ _ => trivial⟩, fun val h_ W hx he => ⟨⟨112, rfl, rfl⟩, ?_⟩, ?_⟩
                · replace hx := (Upd.drew _ _).trans hx
                  replace hl := hl.ext hx
                  replace hr := hr.ext hx
                  replace hA := hA.ext hx
                  replace hB := hB.ext hx
                  replace hRow := hRow.ext hx
                  replace hKB := fun (j : Nat) (e : KE) hj he => (hKB j e hj he).ext hx
                  replace hB12 := hB12.ext hx
                  have hE := Upd.refl (fun _ => False) W
                  refine id (X_move (v := (.int .i64 (((i : Nat) : Int)))) rfl ?_)
                  exact ⟨hE, rfl⟩
                refine ⟨.det (fun val => (.bool (true))), ⟨fun _ _ hv => rfl, fun _ _ _ _ _ => trivial⟩, fun val h_ W hx he => ⟨⟨112, rfl, rfl⟩, ?_⟩, ?_⟩
                · replace hx := (Upd.drew _ _).trans hx
                  replace hl := hl.ext hx
                  replace hr := hr.ext hx
                  replace hA := hA.ext hx
                  replace hB := hB.ext hx
                  replace hRow := hRow.ext hx
                  replace hKB := fun (j : Nat) (e : KE) hj he => (hKB j e hj he).ext hx
                  replace hB12 := hB12.ext hx
                  have hE := Upd.refl (fun _ => False) W
                  refine id (X_cmp (k := .i64) (a := ((i : Nat) : Int)) (b := 0) (r := true) rfl rfl rfl (decide_eq_true (p := (((i : Nat) : Int) = (0 : Int))) (by omega)) ?_)
                  exact ⟨hE, rfl⟩
                refine ⟨.det (fun val => (.bool (true))), ⟨fun _ _ hv => rfl, fun _ _ _ _ _ => trivial⟩, fun val h_ W hx he => ⟨⟨112, rfl, rfl⟩, ?_⟩, ?_⟩
                · replace hx := (Upd.drew _ _).trans hx
                  replace hl := hl.ext hx
                  replace hr := hr.ext hx
                  replace hA := hA.ext hx
                  replace hB := hB.ext hx
                  replace hRow := hRow.ext hx
                  replace hKB := fun (j : Nat) (e : KE) hj he => (hKB j e hj he).ext hx
                  replace hB12 := hB12.ext hx
                  have hE := Upd.refl (fun _ => False) W
                  refine id (X_move (v := (.bool (true))) rfl ?_)
                  exact ⟨hE, rfl⟩
                refine ⟨.det (fun val => vg), ⟨fun _ _ hv => rfl, fun _ _ _ _ _ => trivial⟩, fun val h_ W hx he => ⟨⟨115, rfl, rfl⟩, ?_⟩, ?_⟩
                · replace hx := (Upd.drew _ _).trans hx
                  replace hl := hl.ext hx
                  replace hr := hr.ext hx
                  replace hA := hA.ext hx
                  replace hB := hB.ext hx
                  replace hRow := hRow.ext hx
                  replace hKB := fun (j : Nat) (e : KE) hj he => (hKB j e hj he).ext hx
                  replace hB12 := hB12.ext hx
                  have hE := Upd.refl (fun _ => False) W
                  refine id (X_move (v := vg) rfl ?_)
                  exact ⟨hE, rfl⟩
                refine ⟨.det (fun val => (.int .i64 (((i : Nat) : Int)))), ⟨fun _ _ hv => rfl, fun _ _ _ _ _ => trivial⟩, fun val h_ W hx he => ⟨⟨115, rfl, rfl⟩, ?_⟩, ?_⟩
                · replace hx := (Upd.drew _ _).trans hx
                  replace hl := hl.ext hx
                  replace hr := hr.ext hx
                  replace hA := hA.ext hx
                  replace hB := hB.ext hx
                  replace hRow := hRow.ext hx
                  replace hKB := fun (j : Nat) (e : KE) hj he => (hKB j e hj he).ext hx
                  replace hB12 := hB12.ext hx
                  have hE := Upd.refl (fun _ => False) W
                  refine id (X_move (v := (.int .i64 (((i : Nat) : Int)))) rfl ?_)
                  exact ⟨hE, rfl⟩
                intro val W49 hx49 he49
                replace hx49 := (Upd.drew _ _).trans hx49
                have hz49 := hx49.size
                replace hl := hl.ext hx49
                replace hr := hr.ext hx49
                replace hA := hA.ext hx49
                replace hB := hB.ext hx49
                replace hRow := hRow.ext hx49
                replace hKB := fun (j : Nat) (e : KE) hj he => (hKB j e hj he).ext hx49
                replace hU := hU.trans (Ext.upd hx49)
                replace hB12 := hB12.ext hx49
                refine L_gy (dj := 115) rfl rfl rfl (X_idx (v := vg) (n := gs.length) (k := .i64) (i := ((i : Nat) : Int)) S22 rfl hsvg rfl (by omega) (by omega) ?_)
                refine L_gy (dj := 115) rfl rfl rfl (X_fldS (v := vg) (o := (((i : Nat) : Int) : Int).toNat * 6) Fd39_0 rfl hsvg (by omega) ?_)
                refine L_gy (dj := 115) rfl rfl rfl (X_load (v := y_.1) T23 rfl (kkeyR hRow.rd (Int.toNat_natCast _) hy_) ?_)
                refine L_gy (dj := 115) rfl rfl rfl (X_len (v := y_.1) (n := y_.2.1.length) Try.underlying23 rfl (hKB i y_ (Nat.le_refl _) hy_).1.rd.sv ?_)
                refine L_gy (dj := 115) rfl rfl rfl (X_cmp (k := .i64) (a := ((y_.2.1.length : Nat) : Int)) (b := 0) (r := false) rfl rfl rfl (decide_eq_false (p := ((((y_.2.1.length : Nat) : Int)) : Int) ≠ ((0) : Int)) (by omega)) ?_)
                refine L_gy (dj := 112) rfl rfl rfl (X_pick (t := true) (v := (.bool (false))) rfl rfl ?_)
                refine L_op rfl (X_pick (t := false) (v := (.bool (false))) rfl rfl ?_)
                refine L_nil ?_
                refine T_n ?_
                refine W_cf rfl ?_
                refine W_skip ?_
                refine T_n ?_
                refine W_seq ?_
                refine W_reg ?_
                refine L_op rfl (X_assign (v := (.int .i64 (0))) rfl ?_)
                refine L_nil ?_
                refine T_n ?_
                refine W_block ?_
                refine W_loop (α := Nat × List UInt8) [12, 125, 126, 127, 128, 129, 130, 131, 132, 133, 134, 135, 136, 137, 138, 139, 140, 141, 142, 143, 144, 145, 146, 147, 148, 149, 150] (fun ⟨j, kk⟩ => [(12, (.int .i64 (((j : Nat) : Int))))]) (fun ⟨j, kk⟩ w_ => j ≤ y_.2.1.length ∧ NRd LK w_ 0 n0 l es ∧ NRd LK w_ 0 n0 r ms ∧ NRd LK w_ loA upA va fs ∧ NRd LK w_ loB upB vb os ∧ Own w_ lo 39 6 vg gs.length (gs.flatMap LK.cel) ∧ Own w_ lo 5 1 y_.1 y_.2.1.length (kk.map byteV) ∧ (∀ (j : Nat) (e : KE), i + 1 ≤ j → gs[j]? = some e → BOwn w_ 5 lo up (e.1, e.2.1)) ∧ Upd (fun i => n0 ≤ i) w w_ ∧ up ≤ w_.heap.size) (fun ⟨j, kk⟩ => y_.2.1.length - j) ⟨rfl, (0, y_.2.1), ⟨Nat.zero_le _, hl, hr, hA, hB, hRow, (hKB i y_ (Nat.le_refl _) hy_).1, fun j e hj he => hKB j e (by omega) he, hU, by omega⟩, Out.refl _ _, ⟨rfl, trivial⟩⟩ ?_
                rintro ⟨j, kk⟩ w51 _ ⟨hjl, hl, hr, hA, hB, hRow, hKey, hKB, hU, hupw⟩
                have hsz_ := hU.size
                have hkkl : kk.length = y_.2.1.length := by have h := hKey.1; rw [List.length_map] at h; omega
                refine W_seq ?_
                refine W_seq ?_
                refine W_reg ?_
                refine L_op rfl (X_move (v := (.int .i64 (((j : Nat) : Int)))) rfl ?_)
                refine L_op rfl (X_move (v := vg) rfl ?_)
                refine L_op rfl (X_move (v := (.int .i64 (((i : Nat) : Int)))) rfl ?_)
                refine L_op rfl (X_idx (v := vg) (n := gs.length) (k := .i64) (i := ((i : Nat) : Int)) S22 rfl hsvg rfl (by omega) (by omega) ?_)
                refine L_op rfl (X_fldS (v := vg) (o := (((i : Nat) : Int) : Int).toNat * 6) Fd39_0 rfl hsvg (by omega) ?_)
                refine L_op rfl (X_load (v := y_.1) T23 rfl (kkeyR hRow.rd (Int.toNat_natCast _) hy_) ?_)
                refine L_op rfl (X_len (v := y_.1) (n := y_.2.1.length) Try.underlying23 rfl hKey.rd.sv ?_)
                by_cases hc53 : (((j : Nat) : Int) : Int) < (((y_.2.1.length : Nat) : Int))
                · refine L_op rfl (X_cmp (k := .i64) (a := ((j : Nat) : Int)) (b := ((y_.2.1.length : Nat) : Int)) (r := true) rfl rfl rfl (decide_eq_true (p := ((((j : Nat) : Int)) : Int) < ((((y_.2.1.length : Nat) : Int)) : Int)) (by omega)) ?_)
                  have hj : j < y_.2.1.length := by omega
                  obtain ⟨bx, hbx⟩ : ∃ u, kk[j]? = some u := ⟨_, List.getElem?_eq_getElem (by omega)⟩
                  obtain ⟨bz, hbz⟩ : ∃ u : UInt8, iop .xor .u8 ((bx.toNat : Nat) : Int) 1 = ((u.toNat : Nat) : Int) := u8_any _
                  refine L_nil ?_
                  refine T_n ?_
                  refine W_ct rfl ?_
                  refine W_skip ?_
                  refine T_n ?_
                  refine W_seq ?_
                  refine W_block ?_
                  refine W_draw 15 [[], [], [0, 1], [0, 1, 2], [0, 1, 2, 3], [], [], [], [6, 7], [6, 7, 8], [6, 7, 8, 9], [], [6, 7, 8, 9, 10, 11], [6, 7, 8, 9, 10, 11, 12], [6, 7, 8, 9, 10, 11, 12, 13], [0, 1, 2, 3, 4, 5, 6, 7, 8, 9, 10, 11, 12, 13, 14], [0, 1, 2, 3, 4, 5, 6, 7, 8, 9, 10, 11, 12, 13, 14, 15]] mixed (by kernel_rfl) ?_
                  refine ⟨.det (fun val => vg), ⟨fun _ _ hv => rfl, fun _ _ _ _ _ => trivial⟩, fun val h_ W hx he => ⟨trivial, ?_⟩, ?_⟩
                  · replace hx := (Upd.drew _ _).trans hx
                    replace hl := hl.ext hx
                    replace hr := hr.ext hx
                    replace hA := hA.ext hx
                    replace hB := hB.ext hx
                    replace hRow := hRow.ext hx
                    replace hKB := fun (j : Nat) (e : KE) hj he => (hKB j e hj he).ext hx
                    replace hKey := hKey.ext hx
                    have hE := Upd.refl (fun _ => False) W
                    refine id (X_move (v := vg) rfl ?_)
                    exact ⟨hE, rfl⟩
                  refine ⟨.det (fun val => (.int .i64 (((i : Nat) : Int)))), ⟨fun _ _ hv => rfl, fun _ _ _ _ _ => trivial⟩, fun val h_ W hx he => ⟨trivial, ?_⟩, ?_⟩
                  · replace hx := (Upd.drew _ _).trans hx
                    replace hl := hl.ext hx
                    replace hr := hr.ext hx
                    replace hA := hA.ext hx
                    replace hB := hB.ext hx
                    replace hRow := hRow.ext hx
                    replace hKB := fun (j : Nat) (e : KE) hj he => (hKB j e hj he).ext hx
                    replace hKey := hKey.ext hx
                    have hE := Upd.refl (fun _ => False) W
                    refine id (X_move (v := (.int .i64 (((i : Nat) : Int)))) rfl ?_)
                    exact ⟨hE, rfl⟩
                  refine ⟨.det (fun val => (pof vg ((((i : Nat) : Int) : Int).toNat * 6))), ⟨fun _ _ hv => rfl, fun _ _ _ _ _ => trivial⟩, fun val h_ W hx he => ⟨trivial, ?_⟩, ?_⟩
                  · replace hx := (Upd.drew _ _).trans hx
                    replace hl := hl.ext hx
                    replace hr := hr.ext hx
                    replace hA := hA.ext hx
                    replace hB := hB.ext hx
                    replace hRow := hRow.ext hx
                    replace hKB := fun (j : Nat) (e : KE) hj he => (hKB j e hj he).ext hx
                    replace hKey := hKey.ext hx
                    have hE := Upd.refl (fun _ => False) W
                    refine id (X_idx (v := vg) (n := gs.length) (k := .i64) (i := ((i : Nat) : Int)) S22 rfl hsvg rfl (by omega) (by omega) ?_)
                    exact ⟨hE, rfl⟩
                  refine ⟨.det (fun val => (pof vg ((((i : Nat) : Int) : Int).toNat * 6 + 0))), ⟨fun _ _ hv => rfl, fun _ _ _ _ _ => trivial⟩, fun val h_ W hx he => ⟨trivial, ?_⟩, ?_⟩
                  · replace hx := (Upd.drew _ _).trans hx
                    replace hl := hl.ext hx
                    replace hr := hr.ext hx
                    replace hA := hA.ext hx
                    replace hB := hB.ext hx
                    replace hRow := hRow.ext hx
                    replace hKB := fun (j : Nat) (e : KE) hj he => (hKB j e hj he).ext hx
                    replace hKey := hKey.ext hx
                    have hE := Upd.refl (fun _ => False) W
                    refine id (X_fldS (v := vg) (o := (((i : Nat) : Int) : Int).toNat * 6) Fd39_0 rfl hsvg (by omega) ?_)
                    exact ⟨hE, rfl⟩
                  refine ⟨.det (fun val => y_.1), ⟨fun _ _ hv => rfl, fun _ _ _ _ _ => trivial⟩, fun val h_ W hx he => ⟨trivial, ?_⟩, ?_⟩
                  · replace hx := (Upd.drew _ _).trans hx
                    replace hl := hl.ext hx
                    replace hr := hr.ext hx
                    replace hA := hA.ext hx
                    replace hB := hB.ext hx
                    replace hRow := hRow.ext hx
                    replace hKB := fun (j : Nat) (e : KE) hj he => (hKB j e hj he).ext hx
                    replace hKey := hKey.ext hx
                    have hE := Upd.refl (fun _ => False) W
                    refine id (X_load (v := y_.1) T23 rfl (kkeyR hRow.rd (Int.toNat_natCast _) hy_) ?_)
                    exact ⟨hE, rfl⟩
                  refine ⟨.det (fun val => (.int .i64 (((j : Nat) : Int)))), ⟨fun _ _ hv => rfl, fun _ _ _ _ _ => trivial⟩, fun val h_ W hx he => ⟨trivial, ?_⟩, ?_⟩
                  · replace hx := (Upd.drew _ _).trans hx
                    replace hl := hl.ext hx
                    replace hr := hr.ext hx
                    replace hA := hA.ext hx
                    replace hB := hB.ext hx
                    replace hRow := hRow.ext hx
                    replace hKB := fun (j : Nat) (e : KE) hj he => (hKB j e hj he).ext hx
                    replace hKey := hKey.ext hx
                    have hE := Upd.refl (fun _ => False) W
                    refine id (X_move (v := (.int .i64 (((j : Nat) : Int)))) rfl ?_)
                    exact ⟨hE, rfl⟩
                  refine ⟨.det (fun val => vg), ⟨fun _ _ hv => rfl, fun _ _ _ _ _ => trivial⟩, fun val h_ W hx he => ⟨trivial, ?_⟩, ?_⟩
                  · replace hx := (Upd.drew _ _).trans hx
                    replace hl := hl.ext hx
                    replace hr := hr.ext hx
                    replace hA := hA.ext hx
                    replace hB := hB.ext hx
                    replace hRow := hRow.ext hx
                    replace hKB := fun (j : Nat) (e : KE) hj he => (hKB j e hj he).ext hx
                    replace hKey := hKey.ext hx
                    have hE := Upd.refl (fun _ => False) W
                    refine id (X_move (v := vg) rfl ?_)
                    exact ⟨hE, rfl⟩
                  refine ⟨.det (fun val => (.int .i64 (((i : Nat) : Int)))), ⟨fun _ _ hv => rfl, fun _ _ _ _ _ => trivial⟩, fun val h_ W hx he => ⟨trivial, ?_⟩, ?_⟩
                  · replace hx := (Upd.drew _ _).trans hx
                    replace hl := hl.ext hx
                    replace hr := hr.ext hx
                    replace hA := hA.ext hx
                    replace hB := hB.ext hx
                    replace hRow := hRow.ext hx
                    replace hKB := fun (j : Nat) (e : KE) hj he => (hKB j e hj he).ext hx
                    replace hKey := hKey.ext hx
                    have hE := Upd.refl (fun _ => False) W
                    refine id (X_move (v := (.int .i64 (((i : Nat) : Int)))) rfl ?_)
                    exact ⟨hE, rfl⟩
                  refine ⟨.det (fun val => (pof vg ((((i : Nat) : Int) : Int).toNat * 6))), ⟨fun _ _ hv => rfl, fun _ _ _ _ _ => trivial⟩, fun val h_ W hx he => ⟨trivial, ?_⟩, ?_⟩
                  · replace hx := (Upd.drew _ _).trans hx
                    replace hl := hl.ext hx
                    replace hr := hr.ext hx
                    replace hA := hA.ext hx
                    replace hB := hB.ext hx
                    replace hRow := hRow.ext hx
                    replace hKB := fun (j : Nat) (e : KE) hj he => (hKB j e hj he).ext hx
                    replace hKey := hKey.ext hx
                    have hE := Upd.refl (fun _ => False) W
                    refine id (X_idx (v := vg) (n := gs.length) (k := .i64) (i := ((i : Nat) : Int)) S22 rfl hsvg rfl (by omega) (by omega) ?_)
                    exact ⟨hE, rfl⟩
                  refine ⟨.det (fun val => (pof vg ((((i : Nat) : Int) : Int).toNat * 6 + 0))), ⟨fun _ _ hv => rfl, fun _ _ _ _ _ => trivial⟩, fun val h_ W hx he => ⟨trivial, ?_⟩, ?_⟩
                  · replace hx := (Upd.drew _ _).trans hx
                    replace hl := hl.ext hx
                    replace hr := hr.ext hx
                    replace hA := hA.ext hx
                    replace hB := hB.ext hx
                    replace hRow := hRow.ext hx
                    replace hKB := fun (j : Nat) (e : KE) hj he => (hKB j e hj he).ext hx
                    replace hKey := hKey.ext hx
                    have hE := Upd.refl (fun _ => False) W
                    refine id (X_fldS (v := vg) (o := (((i : Nat) : Int) : Int).toNat * 6) Fd39_0 rfl hsvg (by omega) ?_)
                    exact ⟨hE, rfl⟩
                  refine ⟨.det (fun val => y_.1), ⟨fun _ _ hv => rfl, fun _ _ _ _ _ => trivial⟩, fun val h_ W hx he => ⟨trivial, ?_⟩, ?_⟩
                  · replace hx := (Upd.drew _ _).trans hx
                    replace hl := hl.ext hx
                    replace hr := hr.ext hx
                    replace hA := hA.ext hx
                    replace hB := hB.ext hx
                    replace hRow := hRow.ext hx
                    replace hKB := fun (j : Nat) (e : KE) hj he => (hKB j e hj he).ext hx
                    replace hKey := hKey.ext hx
                    have hE := Upd.refl (fun _ => False) W
                    refine id (X_load (v := y_.1) T23 rfl (kkeyR hRow.rd (Int.toNat_natCast _) hy_) ?_)
                    exact ⟨hE, rfl⟩
                  refine ⟨.det (fun val => (.int .i64 (((j : Nat) : Int)))), ⟨fun _ _ hv => rfl, fun _ _ _ _ _ => trivial⟩, fun val h_ W hx he => ⟨trivial, ?_⟩, ?_⟩
                  · replace hx := (Upd.drew _ _).trans hx
                    replace hl := hl.ext hx
                    replace hr := hr.ext hx
                    replace hA := hA.ext hx
                    replace hB := hB.ext hx
                    replace hRow := hRow.ext hx
                    replace hKB := fun (j : Nat) (e : KE) hj he => (hKB j e hj he).ext hx
                    replace hKey := hKey.ext hx
                    have hE := Upd.refl (fun _ => False) W
                    refine id (X_move (v := (.int .i64 (((j : Nat) : Int)))) rfl ?_)
                    exact ⟨hE, rfl⟩
                  refine ⟨.det (fun val => (pof y_.1 ((((j : Nat) : Int) : Int).toNat * 1))), ⟨fun _ _ hv => rfl, fun _ _ _ _ _ => trivial⟩, fun val h_ W hx he => ⟨trivial, ?_⟩, ?_⟩
                  · replace hx := (Upd.drew _ _).trans hx
                    replace hl := hl.ext hx
                    replace hr := hr.ext hx
                    replace hA := hA.ext hx
                    replace hB := hB.ext hx
                    replace hRow := hRow.ext hx
                    replace hKB := fun (j : Nat) (e : KE) hj he => (hKB j e hj he).ext hx
                    replace hKey := hKey.ext hx
                    have hE := Upd.refl (fun _ => False) W
                    refine id (X_idx (v := y_.1) (n := y_.2.1.length) (k := .i64) (i := ((j : Nat) : Int)) S23 rfl hKey.rd.sv rfl (by omega) (by omega) ?_)
                    exact ⟨hE, rfl⟩
                  refine ⟨.det (fun val => (.int .u8 (((bx.toNat : Nat) : Int)))), ⟨fun _ _ hv => rfl, fun _ _ _ _ _ => trivial⟩, fun val h_ W hx he => ⟨trivial, ?_⟩, ?_⟩
                  · replace hx := (Upd.drew _ _).trans hx
                    replace hl := hl.ext hx
                    replace hr := hr.ext hx
                    replace hA := hA.ext hx
                    replace hB := hB.ext hx
                    replace hRow := hRow.ext hx
                    replace hKB := fun (j : Nat) (e : KE) hj he => (hKB j e hj he).ext hx
                    replace hKey := hKey.ext hx
                    have hE := Upd.refl (fun _ => False) W
                    refine id (X_load (v := .int .u8 ((bx.toNat : Nat) : Int)) T5 rfl (hKey.rd.cell (by rw [show (((j : Nat) : Int).toNat * 1) = j by omega, List.getElem?_map, hbx]; rfl)) ?_)
                    exact ⟨hE, rfl⟩
                  refine ⟨.det (fun val => (.int .u8 (((bz.toNat : Nat) : Int)))), ⟨fun _ _ hv => rfl, fun _ _ _ _ _ => trivial⟩, fun val h_ W hx he => ⟨trivial, ?_⟩, ?_⟩
                  · replace hx := (Upd.drew _ _).trans hx
                    replace hl := hl.ext hx
                    replace hr := hr.ext hx
                    replace hA := hA.ext hx
                    replace hB := hB.ext hx
                    replace hRow := hRow.ext hx
                    replace hKB := fun (j : Nat) (e : KE) hj he => (hKB j e hj he).ext hx
                    replace hKey := hKey.ext hx
                    have hE := Upd.refl (fun _ => False) W
                    refine id (X_arith (k := .u8) (a := ((bx.toNat : Nat) : Int)) (b := 1) (r := ((bz.toNat : Nat) : Int)) rfl rfl rfl hbz ?_)
                    exact ⟨hE, rfl⟩
                  intro val W54 hx54 he54
                  replace hx54 := (Upd.drew _ _).trans hx54
                  have hz54 := hx54.size
                  replace hl := hl.ext hx54
                  replace hr := hr.ext hx54
                  replace hA := hA.ext hx54
                  replace hB := hB.ext hx54
                  replace hRow := hRow.ext hx54
                  replace hKB := fun (j : Nat) (e : KE) hj he => (hKB j e hj he).ext hx54
                  replace hU := hU.trans (Ext.upd hx54)
                  replace hKey := hKey.ext hx54
                  refine L_op rfl (X_idx (v := y_.1) (n := y_.2.1.length) (k := .i64) (i := ((j : Nat) : Int)) S23 rfl hKey.rd.sv rfl (by omega) (by omega) ?_)
                  refine L_op0 (X_storeOwn (i := ((j : Nat) : Int).toNat * 1) (v := y_.1) (u := .int .u8 ((bz.toNat : Nat) : Int)) T5 hKey (by omega) rfl rfl rfl ?_)
                  intro w57 hO57 hu57
                  have hz57 := hu57.size
                  rw [show ((j : Nat) : Int).toNat * 1 = j by omega] at hO57
                  replace hRow := hRow.upd hu57 fun i h1 h => absurd (hRow.types hKey h1 h) (by decide)
                  replace hKB := fun (q : Nat) (e : KE) hq he => (⟨(hKB q e hq he).1.upd hu57 fun b hb h => dist_at hdi (show i < q by omega) hy_ he b h hb, (hKB q e hq he).2⟩ : BOwn w57 5 lo up (e.1, e.2.1))
                  replace hl := hl.upd hu57 fun i h1 h2 h => by have h := hKey.lt h; omega
                  replace hr := hr.upd hu57 fun i h1 h2 h => by have h := hKey.lt h; omega
                  replace hA := hA.upd hu57 fun i h1 h2 h => by have h := hKey.lt h; omega
                  replace hB := hB.upd hu57 fun i h1 h2 h => by have h := hKey.lt h; omega
                  replace hU := hU.trans (hu57.mono fun i _ h => by have h := hKey.lt h; show n0 ≤ i; omega)
                  replace hKey : Own w57 lo 5 1 y_.1 y_.2.1.length ((kk.set j bz).map byteV) := by rw [List.map_set]; exact hO57
                  refine L_nil ?_
                  refine B_n ?_
                  refine T_n ?_
                  refine W_reg ?_
                  refine L_op rfl (X_move (v := (.int .i64 (((j : Nat) : Int)))) rfl ?_)
                  refine L_op rfl (X_arith (k := .i64) (a := ((j : Nat) : Int)) (b := 1) (r := ((j + 1 : Nat) : Int)) rfl rfl rfl (iadd64 (by omega) (by omega) (by omega)) ?_)
                  refine L_op rfl (X_assign (v := (.int .i64 (((j + 1 : Nat) : Int)))) rfl ?_)
                  refine L_nil ?_
                  refine T_n ?_
                  exact ⟨rfl, (j + 1, kk.set j bz), ⟨⟨hj, hl, hr, hA, hB, hRow, hKey, hKB, hU, by omega⟩, (by show y_.2.1.length - (j + 1) < y_.2.1.length - j; omega)⟩, (Out.mk rfl), ⟨rfl, trivial⟩⟩
                · refine L_op rfl (X_cmp (k := .i64) (a := ((j : Nat) : Int)) (b := ((y_.2.1.length : Nat) : Int)) (r := false) rfl rfl rfl (decide_eq_false (p := ((((j : Nat) : Int)) : Int) < ((((y_.2.1.length : Nat) : Int)) : Int)) (by omega)) ?_)
                  refine L_nil ?_
                  refine T_n ?_
                  refine W_cf rfl ?_
                  refine W_exit ?_
                  refine T_e ?_
                  refine T_e ?_
                  refine B_x ?_
                  refine B_n ?_
                  refine T_n ?_
                  refine W_reg ?_
                  refine L_op rfl (X_move (v := (.int .i64 (((i : Nat) : Int)))) rfl ?_)
                  refine L_op rfl (X_arith (k := .i64) (a := ((i : Nat) : Int)) (b := 1) (r := ((i + 1 : Nat) : Int)) rfl rfl rfl (iadd64 (by omega) (by omega) (by omega)) ?_)
                  refine L_op rfl (X_assign (v := (.int .i64 (((i + 1 : Nat) : Int)))) rfl ?_)
                  refine L_nil ?_
                  refine T_n ?_
                  exact ⟨rfl, i + 1, ⟨⟨hi, hl, hr, hA, hB, hRow, hKB, hU, by omega⟩, (by show gs.length - (i + 1) < gs.length - i; omega)⟩, (Out.in_ rfl rfl (Out.mk rfl)), ⟨rfl, trivial⟩⟩
            · refine L_op rfl (X_cmp (k := .i64) (a := ((i : Nat) : Int)) (b := ((A + ms.length : Nat) : Int)) (r := false) rfl rfl rfl (decide_eq_false (p := ((((i : Nat) : Int)) : Int) < ((((A + ms.length : Nat) : Int)) : Int)) (by omega)) ?_)
              refine L_op rfl (X_assign (v := (.bool (false))) rfl ?_)
              refine L_nil ?_
              refine T_n ?_
              refine W_cf rfl ?_
              refine W_reg ?_
              refine L_op rfl (X_move (v := va) rfl ?_)
              refine L_op rfl (X_move (v := (.int .i64 (((i : Nat) : Int)))) rfl ?_)
              refine L_op rfl (X_move (v := r) rfl ?_)
              refine L_op rfl (X_len (v := r) (n := ms.length) Try.underlying22 rfl hr.sv ?_)
              refine L_op rfl (X_arith (k := .i64) (a := ((i : Nat) : Int)) (b := ((ms.length : Nat) : Int)) (r := ((i - ms.length : Nat) : Int)) rfl rfl rfl (isub64 (by omega) (by omega) (by omega)) ?_)
              refine L_op rfl (X_arith (k := .i64) (a := ((i - ms.length : Nat) : Int)) (b := 1) (r := ((i - ms.length + 1 : Nat) : Int)) rfl rfl rfl (iadd64 (by omega) (by omega) (by omega)) ?_)
              refine L_op rfl (X_idx (v := va) (n := fs.length) (k := .i64) (i := ((i - ms.length + 1 : Nat) : Int)) S22 rfl hsvva rfl (by omega) (by omega) ?_)
              obtain ⟨e, hee⟩ : ∃ e, fs[i - ms.length + 1]? = some e := ⟨_, List.getElem?_eq_getElem (by omega)⟩
              have hde : d = e.2 := by rw [if_neg (by omega), if_neg (by omega), ← hfs, List.getElem?_map, hee] at hd; exact (Option.some.inj hd).symm
              refine L_op rfl (X_loadA (xs := e.1 :: ptC e.2.2) A39 rfl (kall hA (Int.toNat_natCast _) hee) rfl ?_)
              refine L_op0 (X_storeW (b := b12) (ys := (e.1 :: ptC e.2.2)) A39 rfl rfl (kone hA hee) rfl hB12 rfl ?_)
              intro w58 hu58 hb58
              have hz58 := hu58.size
              replace hl := hl.upd hu58 fun i h1 h2 h => by have h : i = b12 := h; omega
              replace hr := hr.upd hu58 fun i h1 h2 h => by have h : i = b12 := h; omega
              replace hA := hA.upd hu58 fun i h1 h2 h => by have h : i = b12 := h; omega
              replace hB := hB.upd hu58 fun i h1 h2 h => by have h : i = b12 := h; omega
              replace hRow := hRow.upd hu58 fun i hi h => by have hi := hrow_b _ hi; have h : i = b12 := h; omega
              replace hKB := fun (j : Nat) (e : KE) hj he => (hKB j e hj he).upd hu58 fun i h1 h2 h => by have h : i = b12 := h; omega
              replace hU := hU.trans (hu58.mono fun i _ h => by have h : i = b12 := h; show n0 ≤ i; omega)
              replace hB12 := hb58
              refine L_nil ?_
              refine B_n ?_
              refine T_n ?_
              refine W_seq ?_
              refine W_seq ?_
              rcases Bool.eq_false_or_eq_true (decide (0 < i)) with hs59 | hs59
              · have hi0 := of_decide_eq_true hs59
                rw [if_neg (by omega), hde] at hxd
                have hxp : y_.2.2 = e.2.2 := by rw [hxd]
                have hxk : y_.2.1 = e.2.1 := by rw [hxd]
                refine W_draw 30 [[], [], [0, 1], [0, 1, 2], [0, 1, 2, 3], [], [5], [0, 1, 2, 3, 4, 5, 6], [0, 1, 2, 3, 4, 5, 6, 7], [0, 1, 2, 3, 4, 5, 6, 7, 8], [0, 1, 2, 3, 4, 5, 6, 7, 8, 9], [0, 1, 2, 3, 4, 5, 6, 7, 8, 9, 10], [0, 1, 2, 3, 4, 5, 6, 7, 8, 9, 10, 11], [0, 1, 2, 3, 4, 5, 6, 7, 8, 9, 10, 11], [0, 1, 2, 3, 4, 5, 6, 7, 8, 9, 10, 11, 12, 13], [0, 1, 2, 3, 4, 5, 6, 7, 8, 9, 10, 11, 12, 13, 14], [0, 1, 2, 3, 4, 5, 6, 7, 8, 9, 10, 11, 12, 13, 14, 15], [0, 1, 2, 3, 4, 5, 6, 7, 8, 9, 10, 11, 12, 13, 14, 15, 16], [0, 1, 2, 3, 4, 5, 6, 7, 8, 9, 10, 11], [0, 1, 2, 3, 4, 5, 6, 7, 8, 9, 10, 11, 18], [0, 1, 2, 3, 4, 5, 6, 7, 8, 9, 10, 11, 18, 19], [0, 1, 2, 3, 4, 5, 6, 7, 8, 9, 10, 11, 12, 13, 14, 15, 16, 17, 18, 19, 20], [0, 1, 2, 3, 4, 5, 6, 7, 8, 9, 10, 11, 12, 13, 14, 15, 16, 17, 18, 19, 20, 21], [0, 1, 2, 3, 4, 5, 6, 7, 8, 9, 10, 11, 12, 13, 14, 15, 16, 17, 18, 19, 20, 21, 22], [0, 1, 2, 3, 4, 5, 6, 7, 8, 9, 10, 11, 12, 13, 14, 15, 16, 17, 18, 19, 20, 21, 22, 23], [0, 1, 2, 3, 4, 5, 6, 7, 8, 9, 10, 11, 12, 13, 14, 15, 16, 17, 18, 19, 20, 21, 22, 23, 24], [0, 1, 2, 3, 4, 5, 6, 7, 8, 9, 10, 11, 12, 13, 14, 15, 16, 17, 18, 19, 20, 21, 22, 23, 24, 25], [0, 1, 2, 3, 4, 5, 6, 7, 8, 9, 10, 11, 12, 13, 14, 15, 16, 17, 18, 19, 20, 21, 22, 23, 24, 25, 26], [0, 1, 2, 3, 4, 5, 6, 7, 8, 9, 10, 11, 12, 13, 14, 15, 16, 17, 18, 19, 20, 21, 22, 23, 24, 25, 26, 27], [0, 1, 2, 3, 4, 5, 6, 7, 8, 9, 10, 11, 12, 13, 14, 15, 16, 17, 18, 19, 20, 21, 22, 23, 24, 25, 26, 27], [0, 1, 2, 3, 4, 5, 6, 7, 8, 9, 10, 11, 12, 13, 14, 15, 16, 17, 18, 19, 20, 21, 22, 23, 24, 25, 26, 27, 28, 29], [0, 1, 2, 3, 4, 5, 6, 7, 8, 9, 10, 11, 12, 13, 14, 15, 16, 17, 18, 19, 20, 21, 22, 23, 24, 25, 26, 27, 28, 29, 30], [0, 1, 2, 3, 4, 5, 6, 7, 8, 9, 10, 11, 12, 13, 14, 15, 16, 17, 18, 19, 20, 21, 22, 23, 24, 25, 26, 27, 28, 29, 30, 31], [0, 1, 2, 3, 4, 5, 6, 7, 8, 9, 10, 11, 12, 13, 14, 15, 16, 17, 18, 19, 20, 21, 22, 23, 24, 25, 26, 27, 28, 29, 30, 31, 32], [0, 1, 2, 3, 4, 5, 6, 7, 8, 9, 10, 11, 12, 13, 14, 15, 16, 17, 18, 19, 20, 21, 22, 23, 24, 25, 26, 27, 28, 29, 30, 31, 32, 33], [0, 1, 2, 3, 4, 5, 6, 7, 8, 9, 10, 11, 12, 13, 14, 15, 16, 17, 18, 19, 20, 21, 22, 23, 24, 25, 26, 27, 28, 29, 30, 31, 32, 33, 34], [0, 1, 2, 3, 4, 5, 6, 7, 8, 9, 10, 11, 12, 13, 14, 15, 16, 17, 18, 19, 20, 21, 22, 23, 24, 25, 26, 27, 28, 29, 30, 31, 32, 33, 34, 35]] mixed (by kernel_rfl) ?_
                refine ⟨.det (fun val => vg), ⟨fun _ _ hv => rfl, fun _ _ _ _ _ => trivial⟩, fun val h_ W hx he => ⟨trivial, ?_⟩, ?_⟩
                · replace hx := (Upd.drew _ _).trans hx
                  replace hl := hl.ext hx
                  replace hr := hr.ext hx
                  replace hA := hA.ext hx
                  replace hB := hB.ext hx
                  replace hRow := hRow.ext hx
                  replace hKB := fun (j : Nat) (e : KE) hj he => (hKB j e hj he).ext hx
                  replace hB12 := hB12.ext hx
                  have hE := Upd.refl (fun _ => False) W
                  refine id (X_move (v := vg) rfl ?_)
                  exact ⟨hE, rfl⟩
                refine ⟨.det (fun val => (.int .i64 (((i : Nat) : Int)))), ⟨fun _ _ hv => rfl, fun _ _ _ _ _ => trivial⟩, fun val h_ W hx he => ⟨trivial, ?_⟩, ?_⟩
                · replace hx := (Upd.drew _ _).trans hx
                  replace hl := hl.ext hx
                  replace hr := hr.ext hx
                  replace hA := hA.ext hx
                  replace hB := hB.ext hx
                  replace hRow := hRow.ext hx
                  replace hKB := fun (j : Nat) (e : KE) hj he => (hKB j e hj he).ext hx
                  replace hB12 := hB12.ext hx
                  have hE := Upd.refl (fun _ => False) W
                  refine id (X_move (v := (.int .i64 (((i : Nat) : Int)))) rfl ?_)
                  exact ⟨hE, rfl⟩
                refine ⟨.det (fun val => (pof vg ((((i : Nat) : Int) : Int).toNat * 6))), ⟨fun _ _ hv => rfl, fun _ _ _ _ _ => trivial⟩, fun val h_ W hx he => ⟨trivial, ?_⟩, ?_⟩
                · replace hx := (Upd.drew _ _).trans hx
                  replace hl := hl.ext hx
                  replace hr := hr.ext hx
                  replace hA := hA.ext hx
                  replace hB := hB.ext hx
                  replace hRow := hRow.ext hx
                  replace hKB := fun (j : Nat) (e : KE) hj he => (hKB j e hj he).ext hx
                  replace hB12 := hB12.ext hx
                  have hE := Upd.refl (fun _ => False) W
                  refine id (X_idx (v := vg) (n := gs.length) (k := .i64) (i := ((i : Nat) : Int)) S22 rfl hsvg rfl (by omega) (by omega) ?_)
                  exact ⟨hE, rfl⟩
                refine ⟨.det (fun val => (pof vg ((((i : Nat) : Int) : Int).toNat * 6 + 1))), ⟨fun _ _ hv => rfl, fun _ _ _ _ _ => trivial⟩, fun val h_ W hx he => ⟨trivial, ?_⟩, ?_⟩
                · replace hx := (Upd.drew _ _).trans hx
                  replace hl := hl.ext hx
                  replace hr := hr.ext hx
                  replace hA := hA.ext hx
                  replace hB := hB.ext hx
                  replace hRow := hRow.ext hx
                  replace hKB := fun (j : Nat) (e : KE) hj he => (hKB j e hj he).ext hx
                  replace hB12 := hB12.ext hx
                  have hE := Upd.refl (fun _ => False) W
                  refine id (X_fldS (v := vg) (o := (((i : Nat) : Int) : Int).toNat * 6) Fd39_1 rfl hsvg (by omega) ?_)
                  exact ⟨hE, rfl⟩
                refine ⟨.det (fun val => (.agg (ptC y_.2.2).toArray)), ⟨fun _ _ hv => rfl, fun _ _ _ _ _ => trivial⟩, fun val h_ W hx he => ⟨trivial, ?_⟩, ?_⟩
                · replace hx := (Upd.drew _ _).trans hx
                  replace hl := hl.ext hx
                  replace hr := hr.ext hx
                  replace hA := hA.ext hx
                  replace hB := hB.ext hx
                  replace hRow := hRow.ext hx
                  replace hKB := fun (j : Nat) (e : KE) hj he => (hKB j e hj he).ext hx
                  replace hB12 := hB12.ext hx
                  have hE := Upd.refl (fun _ => False) W
                  refine id (X_loadA (xs := ptC y_.2.2) A37 rfl (kptrR hRow.rd (Int.toNat_natCast _) hy_) rfl ?_)
                  exact ⟨hE, rfl⟩
                refine ⟨.det (fun val => (ptr b12 (1))), ⟨fun _ _ hv => rfl, fun _ _ _ _ _ => trivial⟩, fun val h_ W hx he => ⟨trivial, ?_⟩, ?_⟩
                · replace hx := (Upd.drew _ _).trans hx
                  replace hl := hl.ext hx
                  replace hr := hr.ext hx
                  replace hA := hA.ext hx
                  replace hB := hB.ext hx
                  replace hRow := hRow.ext hx
                  replace hKB := fun (j : Nat) (e : KE) hj he => (hKB j e hj he).ext hx
                  replace hB12 := hB12.ext hx
                  have hE := Upd.refl (fun _ => False) W
                  refine id (X_fldP (b := b12) (o := 0) (r := 1) Fd39_1 rfl rfl ?_)
                  exact ⟨hE, rfl⟩
                refine ⟨.det (fun val => (.agg (ptC e.2.2).toArray)), ⟨fun _ _ hv => rfl, fun _ _ _ _ _ => trivial⟩, fun val h_ W hx he => ⟨trivial, ?_⟩, ?_⟩
                · replace hx := (Upd.drew _ _).trans hx
                  replace hl := hl.ext hx
                  replace hr := hr.ext hx
                  replace hA := hA.ext hx
                  replace hB := hB.ext hx
                  replace hRow := hRow.ext hx
                  replace hKB := fun (j : Nat) (e : KE) hj he => (hKB j e hj he).ext hx
                  replace hB12 := hB12.ext hx
                  have hE := Upd.refl (fun _ => False) W
                  refine id (X_loadA (xs := ptC e.2.2) A37 rfl (hB12.at_ 1 (ptC e.2.2) (fun j u hj => by rw [Nat.add_comm]; simpa using hj)) rfl ?_)
                  exact ⟨hE, rfl⟩
                refine ⟨.det (fun val => (.bool (false))), ⟨fun _ _ hv => rfl, fun _ _ _ _ _ => trivial⟩, fun val h_ W hx he => ⟨trivial, ?_⟩, ?_⟩
                · replace hx := (Upd.drew _ _).trans hx
                  replace hl := hl.ext hx
                  replace hr := hr.ext hx
                  replace hA := hA.ext hx
                  replace hB := hB.ext hx
                  replace hRow := hRow.ext hx
                  replace hKB := fun (j : Nat) (e : KE) hj he => (hKB j e hj he).ext hx
                  replace hB12 := hB12.ext hx
                  have hE := Upd.refl (fun _ => False) W
                  refine id (X_eqP (p := y_.2.2) (q := e.2.2) (r := false) Try.underlying37 u37 (by kernel_rfl) (by decide) ⟨rfl, rfl, rfl, rfl⟩ Try.underlying5 Try.underlying33 (by kernel_rfl) Try.underlying32 (ie := _) rfl (by kernel_rfl) Try.underlying34 Try.underlying35 (by kernel_rfl) rfl rfl (.inr ⟨rfl, by rw [hxp, beq_self_eq_true]; rfl⟩) ?_)
                  exact ⟨hE, rfl⟩
                refine ⟨.det (fun val => (.bool (false))), ⟨fun _ _ hv => rfl, fun _ _ _ _ _ => trivial⟩, fun val h_ W hx he => ⟨trivial, ?_⟩, ?_⟩
                · replace hx := (Upd.drew _ _).trans hx
                  replace hl := hl.ext hx
                  replace hr := hr.ext hx
                  replace hA := hA.ext hx
                  replace hB := hB.ext hx
                  replace hRow := hRow.ext hx
                  replace hKB := fun (j : Nat) (e : KE) hj he => (hKB j e hj he).ext hx
                  replace hB12 := hB12.ext hx
                  have hE := Upd.refl (fun _ => False) W
                  refine id (X_move (v := (.bool (false))) rfl ?_)
                  exact ⟨hE, rfl⟩
                refine ⟨.det (fun val => (.int .i64 (((i : Nat) : Int)))), ⟨fun _ _ hv => rfl, fun _ _ _ _ _ => trivial⟩, fun val h_ W hx he => ⟨⟨96, rfl, rfl⟩, ?_⟩, ?_⟩
                · replace hx := (Upd.drew _ _).trans hx
                  replace hl := hl.ext hx
                  replace hr := hr.ext hx
                  replace hA := hA.ext hx
                  replace hB := hB.ext hx
                  replace hRow := hRow.ext hx
                  replace hKB := fun (j : Nat) (e : KE) hj he => (hKB j e hj he).ext hx
                  replace hB12 := hB12.ext hx
                  have hE := Upd.refl (fun _ => False) W
                  refine id (X_move (v := (.int .i64 (((i : Nat) : Int)))) rfl ?_)
                  exact ⟨hE, rfl⟩
                refine ⟨.det (fun val => (.bool (true))), ⟨fun _ _ hv => rfl, fun _ _ _ _ _ => trivial⟩, fun val h_ W hx he => ⟨⟨96, rfl, rfl⟩, ?_⟩, ?_⟩
                · replace hx := (Upd.drew _ _).trans hx
                  replace hl := hl.ext hx
                  replace hr := hr.ext hx
                  replace hA := hA.ext hx
                  replace hB := hB.ext hx
                  replace hRow := hRow.ext hx
                  replace hKB := fun (j : Nat) (e : KE) hj he => (hKB j e hj he).ext hx
                  replace hB12 := hB12.ext hx
                  have hE := Upd.refl (fun _ => False) W
                  refine id (X_cmp (k := .i64) (a := ((i : Nat) : Int)) (b := 0) (r := true) rfl rfl rfl (decide_eq_true (p := ((0 : Int) < ((i : Nat) : Int))) (by omega)) ?_)
                  exact ⟨hE, rfl⟩
                refine ⟨.det (fun val => (.bool (true))), ⟨fun _ _ hv => rfl, fun _ _ _ _ _ => trivial⟩, fun val h_ W hx he => ⟨⟨96, rfl, rfl⟩, ?_⟩, ?_⟩
                · replace hx := (Upd.drew _ _).trans hx
                  replace hl := hl.ext hx
                  replace hr := hr.ext hx
                  replace hA := hA.ext hx
                  replace hB := hB.ext hx
                  replace hRow := hRow.ext hx
                  replace hKB := fun (j : Nat) (e : KE) hj he => (hKB j e hj he).ext hx
                  replace hB12 := hB12.ext hx
                  have hE := Upd.refl (fun _ => False) W
                  refine id (X_move (v := (.bool (true))) rfl ?_)
                  exact ⟨hE, rfl⟩
                refine ⟨.det (fun val => vg), ⟨fun _ _ hv => rfl, fun _ _ _ _ _ => trivial⟩, fun val h_ W hx he => ⟨⟨99, rfl, rfl⟩, ?_⟩, ?_⟩
                · replace hx := (Upd.drew _ _).trans hx
                  replace hl := hl.ext hx
                  replace hr := hr.ext hx
                  replace hA := hA.ext hx
                  replace hB := hB.ext hx
                  replace hRow := hRow.ext hx
                  replace hKB := fun (j : Nat) (e : KE) hj he => (hKB j e hj he).ext hx
                  replace hB12 := hB12.ext hx
                  have hE := Upd.refl (fun _ => False) W
                  refine id (X_move (v := vg) rfl ?_)
                  exact ⟨hE, rfl⟩
                refine ⟨.det (fun val => (.int .i64 (((i : Nat) : Int)))), ⟨fun _ _ hv => rfl, fun _ _ _ _ _ => trivial⟩, fun val h_ W hx he => ⟨⟨99, rfl, rfl⟩, ?_⟩, ?_⟩
                · replace hx := (Upd.drew _ _).trans hx
                  replace hl := hl.ext hx
                  replace hr := hr.ext hx
                  replace hA := hA.ext hx
                  replace hB := hB.ext hx
                  replace hRow := hRow.ext hx
                  replace hKB := fun (j : Nat) (e : KE) hj he => (hKB j e hj he).ext hx
                  replace hB12 := hB12.ext hx
                  have hE := Upd.refl (fun _ => False) W
                  refine id (X_move (v := (.int .i64 (((i : Nat) : Int)))) rfl ?_)
                  exact ⟨hE, rfl⟩
                refine ⟨.det (fun val => (pof vg ((((i : Nat) : Int) : Int).toNat * 6))), ⟨fun _ _ hv => rfl, fun _ _ _ _ _ => trivial⟩, fun val h_ W hx he => ⟨⟨99, rfl, rfl⟩, ?_⟩, ?_⟩
                · replace hx := (Upd.drew _ _).trans hx
                  replace hl := hl.ext hx
                  replace hr := hr.ext hx
                  replace hA := hA.ext hx
                  replace hB := hB.ext hx
                  replace hRow := hRow.ext hx
                  replace hKB := fun (j : Nat) (e : KE) hj he => (hKB j e hj he).ext hx
                  replace hB12 := hB12.ext hx
                  have hE := Upd.refl (fun _ => False) W
                  refine id (X_idx (v := vg) (n := gs.length) (k := .i64) (i := ((i : Nat) : Int)) S22 rfl hsvg rfl (by omega) (by omega) ?_)
                  exact ⟨hE, rfl⟩
                refine ⟨.det (fun val => (pof vg ((((i : Nat) : Int) : Int).toNat * 6 + 0))), ⟨fun _ _ hv => rfl, fun _ _ _ _ _ => trivial⟩, fun val h_ W hx he => ⟨⟨99, rfl, rfl⟩, ?_⟩, ?_⟩
                · replace hx := (Upd.drew _ _).trans hx
                  replace hl := hl.ext hx
                  replace hr := hr.ext hx
                  replace hA := hA.ext hx
                  replace hB := hB.ext hx
                  replace hRow := hRow.ext hx
                  replace hKB := fun (j : Nat) (e : KE) hj he => (hKB j e hj he).ext hx
                  replace hB12 := hB12.ext hx
                  have hE := Upd.refl (fun _ => False) W
                  refine id (X_fldS (v := vg) (o := (((i : Nat) : Int) : Int).toNat * 6) Fd39_0 rfl hsvg (by omega) ?_)
                  exact ⟨hE, rfl⟩
                refine ⟨.det (fun val => y_.1), ⟨fun _ _ hv => rfl, fun _ _ _ _ _ => trivial⟩, fun val h_ W hx he => ⟨⟨99, rfl, rfl⟩, ?_⟩, ?_⟩
                · replace hx := (Upd.drew _ _).trans hx
                  replace hl := hl.ext hx
                  replace hr := hr.ext hx
                  replace hA := hA.ext hx
                  replace hB := hB.ext hx
                  replace hRow := hRow.ext hx
                  replace hKB := fun (j : Nat) (e : KE) hj he => (hKB j e hj he).ext hx
                  replace hB12 := hB12.ext hx
                  have hE := Upd.refl (fun _ => False) W
                  refine id (X_load (v := y_.1) T23 rfl (kkeyR hRow.rd (Int.toNat_natCast _) hy_) ?_)
                  exact ⟨hE, rfl⟩
                refine ⟨.det (fun val => (strV (y_.2.1))), ⟨fun _ _ hv => rfl, fun _ _ _ _ _ => trivial⟩, fun val h_ W hx he => ⟨⟨99, rfl, rfl⟩, ?_⟩, ?_⟩
                · replace hx := (Upd.drew _ _).trans hx
                  replace hl := hl.ext hx
                  replace hr := hr.ext hx
                  replace hA := hA.ext hx
                  replace hB := hB.ext hx
                  replace hRow := hRow.ext hx
                  replace hKB := fun (j : Nat) (e : KE) hj he => (hKB j e hj he).ext hx
                  replace hB12 := hB12.ext hx
                  have hE := Upd.refl (fun _ => False) W
                  refine id (X_str (v := y_.1) (l := y_.2.1) Try.underlying23 Try.underlying5 Try.underlying9 rfl (hKB i y_ (Nat.le_refl _) hy_).1.rd ?_)
                  exact ⟨hE, rfl⟩
                refine ⟨.det (fun val => (ptr b12 (0))), ⟨fun _ _ hv => rfl, fun _ _ _ _ _ => trivial⟩, fun val h_ W hx he => ⟨⟨99, rfl, rfl⟩, ?_⟩, ?_⟩
                · replace hx := (Upd.drew _ _).trans hx
                  replace hl := hl.ext hx
                  replace hr := hr.ext hx
                  replace hA := hA.ext hx
                  replace hB := hB.ext hx
                  replace hRow := hRow.ext hx
                  replace hKB := fun (j : Nat) (e : KE) hj he => (hKB j e hj he).ext hx
                  replace hB12 := hB12.ext hx
                  have hE := Upd.refl (fun _ => False) W
                  refine id (X_fldP (b := b12) (o := 0) (r := 0) Fd39_0 rfl rfl ?_)
                  exact ⟨hE, rfl⟩
                refine ⟨.det (fun val => e.1), ⟨fun _ _ hv => rfl, fun _ _ _ _ _ => trivial⟩, fun val h_ W hx he => ⟨⟨99, rfl, rfl⟩, ?_⟩, ?_⟩
                · replace hx := (Upd.drew _ _).trans hx
                  replace hl := hl.ext hx
                  replace hr := hr.ext hx
                  replace hA := hA.ext hx
                  replace hB := hB.ext hx
                  replace hRow := hRow.ext hx
                  replace hKB := fun (j : Nat) (e : KE) hj he => (hKB j e hj he).ext hx
                  replace hB12 := hB12.ext hx
                  have hE := Upd.refl (fun _ => False) W
                  refine id (X_load (p := (ptr b12 (0))) (v := e.1) T23 rfl (hB12.at1 rfl) ?_)
                  exact ⟨hE, rfl⟩
                refine ⟨.det (fun val => (strV (e.2.1))), ⟨fun _ _ hv => rfl, fun _ _ _ _ _ => trivial⟩, fun val h_ W hx he => ⟨⟨99, rfl, rfl⟩, ?_⟩, ?_⟩
                · replace hx := (Upd.drew _ _).trans hx
                  replace hl := hl.ext hx
                  replace hr := hr.ext hx
                  replace hA := hA.ext hx
                  replace hB := hB.ext hx
                  replace hRow := hRow.ext hx
                  replace hKB := fun (j : Nat) (e : KE) hj he => (hKB j e hj he).ext hx
                  replace hB12 := hB12.ext hx
                  have hE := Upd.refl (fun _ => False) W
                  refine id (X_str (v := e.1) (l := e.2.1) Try.underlying23 Try.underlying5 Try.underlying9 rfl (krd hA hee) ?_)
                  exact ⟨hE, rfl⟩
                refine ⟨.det (fun val => (.bool (false))), ⟨fun _ _ hv => rfl, fun _ _ _ _ _ => trivial⟩, fun val h_ W hx he => ⟨⟨99, rfl, rfl⟩, ?_⟩, ?_⟩
                · replace hx := (Upd.drew _ _).trans hx
                  replace hl := hl.ext hx
                  replace hr := hr.ext hx
                  replace hA := hA.ext hx
                  replace hB := hB.ext hx
                  replace hRow := hRow.ext hx
                  replace hKB := fun (j : Nat) (e : KE) hj he => (hKB j e hj he).ext hx
                  replace hB12 := hB12.ext hx
                  have hE := Upd.refl (fun _ => False) W
                  refine id (X_scmp (a := y_.2.1) (b := e.2.1) (r := false) rfl rfl rfl (by show (!(y_.2.1 == e.2.1)) = false; rw [hxk, beq_self_eq_true]; rfl) ?_)
                  exact ⟨hE, rfl⟩
                refine ⟨.det (fun val => (.bool (false))), ⟨fun _ _ hv => rfl, fun _ _ _ _ _ => trivial⟩, fun val h_ W hx he => ⟨⟨96, rfl, rfl⟩, ?_⟩, ?_⟩
                · replace hx := (Upd.drew _ _).trans hx
                  replace hl := hl.ext hx
                  replace hr := hr.ext hx
                  replace hA := hA.ext hx
                  replace hB := hB.ext hx
                  replace hRow := hRow.ext hx
                  replace hKB := fun (j : Nat) (e : KE) hj he => (hKB j e hj he).ext hx
                  replace hB12 := hB12.ext hx
                  have hE := Upd.refl (fun _ => False) W
                  refine id (X_pick (t := true) (v := (.bool (false))) rfl rfl ?_)
                  exact ⟨hE, rfl⟩
                refine ⟨.det (fun val => (.bool (false))), ⟨fun _ _ hv => rfl, fun _ _ _ _ _ => trivial⟩, fun val h_ W hx he => ⟨trivial, ?_⟩, ?_⟩
                · replace hx := (Upd.drew _ _).trans hx
                  replace hl := hl.ext hx
                  replace hr := hr.ext hx
                  replace hA := hA.ext hx
                  replace hB := hB.ext hx
                  replace hRow := hRow.ext hx
                  replace hKB := fun (j : Nat) (e : KE) hj he => (hKB j e hj he).ext hx
                  replace hB12 := hB12.ext hx
                  have hE := Upd.refl (fun _ => False) W
                  refine id (X_pick (t := false) (v := (.bool (false))) rfl rfl ?_)
                  exact ⟨hE, rfl⟩
                refine ⟨.det (fun val => (.bool (false))), ⟨fun _ _ hv => rfl, fun _ _ _ _ _ => trivial⟩, fun val h_ W hx he => ⟨trivial, ?_⟩, ?_⟩
                · replace hx := (Upd.drew _ _).trans hx
                  replace hl := hl.ext hx
                  replace hr := hr.ext hx
                  replace hA := hA.ext hx
                  replace hB := hB.ext hx
                  replace hRow := hRow.ext hx
                  replace hKB := fun (j : Nat) (e : KE) hj he => (hKB j e hj he).ext hx
                  replace hB12 := hB12.ext hx
                  have hE := Upd.refl (fun _ => False) W
                  refine id (X_move (v := (.bool (false))) rfl ?_)
                  exact ⟨hE, rfl⟩
                refine ⟨.det (fun val => (.int .i64 (((i : Nat) : Int)))), ⟨fun _ _ hv => rfl, fun _ _ _ _ _ => trivial⟩, fun val h_ W hx he => ⟨⟨112, rfl, rfl⟩, ?_⟩, ?_⟩
                · replace hx := (Upd.drew _ _).trans hx
                  replace hl := hl.ext hx
                  replace hr := hr.ext hx
                  replace hA := hA.ext hx
                  replace hB := hB.ext hx
                  replace hRow := hRow.ext hx
                  replace hKB := fun (j : Nat) (e : KE) hj he => (hKB j e hj he).ext hx
                  replace hB12 := hB12.ext hx
                  have hE := Upd.refl (fun _ => False) W
                  refine id (X_move (v := (.int .i64 (((i : Nat) : Int)))) rfl ?_)
                  exact ⟨hE, rfl⟩
                refine ⟨.det (fun val => (.bool (false))), ⟨fun _ _ hv => rfl, fun _ _ _ _ _ => trivial⟩, fun val h_ W hx he => ⟨⟨112, rfl, rfl⟩, ?_⟩, ?_⟩
                · replace hx := (Upd.drew _ _).trans hx
                  replace hl := hl.ext hx
                  replace hr := hr.ext hx
                  replace hA := hA.ext hx
                  replace hB := hB.ext hx
                  replace hRow := hRow.ext hx
                  replace hKB := fun (j : Nat) (e : KE) hj he => (hKB j e hj he).ext hx
                  replace hB12 := hB12.ext hx
                  have hE := Upd.refl (fun _ => False) W
                  refine id (X_cmp (k := .i64) (a := ((i : Nat) : Int)) (b := 0) (r := false) rfl rfl rfl (decide_eq_false (p := (((i : Nat) : Int) = (0 : Int))) (by omega)) ?_)
                  exact ⟨hE, rfl⟩
                refine ⟨.det (fun val => (.bool (false))), ⟨fun _ _ hv => rfl, fun _ _ _ _ _ => trivial⟩, fun val h_ W hx he => ⟨⟨112, rfl, rfl⟩, ?_⟩, ?_⟩
                · replace hx := (Upd.drew _ _).trans hx
                  replace hl := hl.ext hx
                  replace hr := hr.ext hx
                  replace hA := hA.ext hx
                  replace hB := hB.ext hx
                  replace hRow := hRow.ext hx
                  replace hKB := fun (j : Nat) (e : KE) hj he => (hKB j e hj he).ext hx
                  replace hB12 := hB12.ext hx
                  have hE := Upd.refl (fun _ => False) W
                  refine id (X_move (v := (.bool (false))) rfl ?_)
                  exact ⟨hE, rfl⟩
                refine ⟨.no, ⟨fun _ _ _ => trivial, fun _ _ _ _ _ => trivial⟩, fun val h_ W hx he => ⟨115, rfl, .inl rfl⟩, ?_⟩
                refine ⟨.no, ⟨fun _ _ _ => trivial, fun _ _ _ _ _ => trivial⟩, fun val h_ W hx he => ⟨115, rfl, .inl rfl⟩, ?_⟩
                intro val W60 hx60 he60
                replace hx60 := (Upd.drew _ _).trans hx60
                have hz60 := hx60.size
                replace hl := hl.ext hx60
                replace hr := hr.ext hx60
                replace hA := hA.ext hx60
                replace hB := hB.ext hx60
                replace hRow := hRow.ext hx60
                replace hKB := fun (j : Nat) (e : KE) hj he => (hKB j e hj he).ext hx60
                replace hU := hU.trans (Ext.upd hx60)
                replace hB12 := hB12.ext hx60
                refine L_gn (dj := 115) (t := false) rfl rfl rfl rfl ?_
                refine L_gn (dj := 115) (t := false) rfl rfl rfl rfl ?_
                refine L_gn (dj := 115) (t := false) rfl rfl rfl rfl ?_
                refine L_gn (dj := 115) (t := false) rfl rfl rfl rfl ?_
                refine L_gn (dj := 115) (t := false) rfl rfl rfl rfl ?_
                refine L_gy (dj := 112) rfl rfl rfl (X_pick (t := false) (v := (.bool (false))) rfl rfl ?_)
                refine L_op rfl (X_pick (t := false) (v := (.bool (false))) rfl rfl ?_)
                refine L_nil ?_
                refine T_n ?_
                refine W_cf rfl ?_
                refine W_skip ?_
                refine T_n ?_
                refine W_seq ?_
                refine W_reg ?_
                refine L_op rfl (X_assign (v := (.int .i64 (0))) rfl ?_)
                refine L_nil ?_
                refine T_n ?_
                refine W_block ?_
                refine W_loop (α := Nat × List UInt8) [12, 125, 126, 127, 128, 129, 130, 131, 132, 133, 134, 135, 136, 137, 138, 139, 140, 141, 142, 143, 144, 145, 146, 147, 148, 149, 150] (fun ⟨j, kk⟩ => [(12, (.int .i64 (((j : Nat) : Int))))]) (fun ⟨j, kk⟩ w_ => j ≤ y_.2.1.length ∧ NRd LK w_ 0 n0 l es ∧ NRd LK w_ 0 n0 r ms ∧ NRd LK w_ loA upA va fs ∧ NRd LK w_ loB upB vb os ∧ Own w_ lo 39 6 vg gs.length (gs.flatMap LK.cel) ∧ Own w_ lo 5 1 y_.1 y_.2.1.length (kk.map byteV) ∧ (∀ (j : Nat) (e : KE), i + 1 ≤ j → gs[j]? = some e → BOwn w_ 5 lo up (e.1, e.2.1)) ∧ Upd (fun i => n0 ≤ i) w w_ ∧ up ≤ w_.heap.size) (fun ⟨j, kk⟩ => y_.2.1.length - j) ⟨rfl, (0, y_.2.1), ⟨Nat.zero_le _, hl, hr, hA, hB, hRow, (hKB i y_ (Nat.le_refl _) hy_).1, fun j e hj he => hKB j e (by omega) he, hU, by omega⟩, Out.refl _ _, ⟨rfl, trivial⟩⟩ ?_
                rintro ⟨j, kk⟩ w63 _ ⟨hjl, hl, hr, hA, hB, hRow, hKey, hKB, hU, hupw⟩
                have hsz_ := hU.size
                have hkkl : kk.length = y_.2.1.length := by have h := hKey.1; rw [List.length_map] at h; omega
                refine W_seq ?_
                refine W_seq ?_
                refine W_reg ?_
                refine L_op rfl (X_move (v := (.int .i64 (((j : Nat) : Int)))) rfl ?_)
                refine L_op rfl (X_move (v := vg) rfl ?_)
                refine L_op rfl (X_move (v := (.int .i64 (((i : Nat) : Int)))) rfl ?_)
                refine L_op rfl (X_idx (v := vg) (n := gs.length) (k := .i64) (i := ((i : Nat) : Int)) S22 rfl hsvg rfl (by omega) (by omega) ?_)
                refine L_op rfl (X_fldS (v := vg) (o := (((i : Nat) : Int) : Int).toNat * 6) Fd39_0 rfl hsvg (by omega) ?_)
                refine L_op rfl (X_load (v := y_.1) T23 rfl (kkeyR hRow.rd (Int.toNat_natCast _) hy_) ?_)
                refine L_op rfl (X_len (v := y_.1) (n := y_.2.1.length) Try.underlying23 rfl hKey.rd.sv ?_)
                by_cases hc65 : (((j : Nat) : Int) : Int) < (((y_.2.1.length : Nat) : Int))
                · refine L_op rfl (X_cmp (k := .i64) (a := ((j : Nat) : Int)) (b := ((y_.2.1.length : Nat) : Int)) (r := true) rfl rfl rfl (decide_eq_true (p := ((((j : Nat) : Int)) : Int) < ((((y_.2.1.length : Nat) : Int)) : Int)) (by omega)) ?_)
                  have hj : j < y_.2.1.length := by omega
                  obtain ⟨bx, hbx⟩ : ∃ u, kk[j]? = some u := ⟨_, List.getElem?_eq_getElem (by omega)⟩
                  obtain ⟨bz, hbz⟩ : ∃ u : UInt8, iop .xor .u8 ((bx.toNat : Nat) : Int) 1 = ((u.toNat : Nat) : Int) := u8_any _
                  refine L_nil ?_
                  refine T_n ?_
                  refine W_ct rfl ?_
                  refine W_skip ?_
                  refine T_n ?_
                  refine W_seq ?_
                  refine W_block ?_
                  refine W_draw 15 [[], [], [0, 1], [0, 1, 2], [0, 1, 2, 3], [], [], [], [6, 7], [6, 7, 8], [6, 7, 8, 9], [], [6, 7, 8, 9, 10, 11], [6, 7, 8, 9, 10, 11, 12], [6, 7, 8, 9, 10, 11, 12, 13], [0, 1, 2, 3, 4, 5, 6, 7, 8, 9, 10, 11, 12, 13, 14], [0, 1, 2, 3, 4, 5, 6, 7, 8, 9, 10, 11, 12, 13, 14, 15]] mixed (by kernel_rfl) ?_
                  refine ⟨.det (fun val => vg), ⟨fun _ _ hv => rfl, fun _ _ _ _ _ => trivial⟩, fun val h_ W hx he => ⟨trivial, ?_⟩, ?_⟩
                  · replace hx := (Upd.drew _ _).trans hx
                    replace hl := hl.ext hx
                    replace hr := hr.ext hx
                    replace hA := hA.ext hx
                    replace hB := hB.ext hx
                    replace hRow := hRow.ext hx
                    replace hKB := fun (j : Nat) (e : KE) hj he => (hKB j e hj he).ext hx
                    replace hKey := hKey.ext hx
                    have hE := Upd.refl (fun _ => False) W
                    refine id (X_move (v := vg) rfl ?_)
                    exact ⟨hE, rfl⟩
                  refine ⟨.det (fun val => (.int .i64 (((i : Nat) : Int)))), ⟨fun _ _ hv => rfl, fun _ _ _ _ _ => trivial⟩, fun val h_ W hx he => ⟨trivial, ?_⟩, ?_⟩
                  · replace hx := (Upd.drew _ _).trans hx
                    replace hl := hl.ext hx
                    replace hr := hr.ext hx
                    replace hA := hA.ext hx
                    replace hB := hB.ext hx
                    replace hRow := hRow.ext hx
                    replace hKB := fun (j : Nat) (e : KE) hj he => (hKB j e hj he).ext hx
                    replace hKey := hKey.ext hx
                    have hE := Upd.refl (fun _ => False) W
                    refine id (X_move (v := (.int .i64 (((i : Nat) : Int)))) rfl ?_)
                    exact ⟨hE, rfl⟩
                  refine ⟨.det (fun val => (pof vg ((((i : Nat) : Int) : Int).toNat * 6))), ⟨fun _ _ hv => rfl, fun _ _ _ _ _ => trivial⟩, fun val h_ W hx he => ⟨trivial, ?_⟩, ?_⟩
                  · replace hx := (Upd.drew _ _).trans hx
                    replace hl := hl.ext hx
                    replace hr := hr.ext hx
                    replace hA := hA.ext hx
                    replace hB := hB.ext hx
                    replace hRow := hRow.ext hx
                    replace hKB := fun (j : Nat) (e : KE) hj he => (hKB j e hj he).ext hx
                    replace hKey := hKey.ext hx
                    have hE := Upd.refl (fun _ => False) W
                    refine id (X_idx (v := vg) (n := gs.length) (k := .i64) (i := ((i : Nat) : Int)) S22 rfl hsvg rfl (by omega) (by omega) ?_)
                    exact ⟨hE, rfl⟩
                  refine ⟨.det (fun val => (pof vg ((((i : Nat) : Int) : Int).toNat * 6 + 0))), ⟨fun _ _ hv => rfl, fun _ _ _ _ _ => trivial⟩, fun val h_ W hx he => ⟨trivial, ?_⟩, ?_⟩
                  · replace hx := (Upd.drew _ _).trans hx
                    replace hl := hl.ext hx
                    replace hr := hr.ext hx
                    replace hA := hA.ext hx
                    replace hB := hB.ext hx
                    replace hRow := hRow.ext hx
                    replace hKB := fun (j : Nat) (e : KE) hj he => (hKB j e hj he).ext hx
                    replace hKey := hKey.ext hx
                    have hE := Upd.refl (fun _ => False) W
                    refine id (X_fldS (v := vg) (o := (((i : Nat) : Int) : Int).toNat * 6) Fd39_0 rfl hsvg (by omega) ?_)
                    exact ⟨hE, rfl⟩
                  refine ⟨.det (fun val => y_.1), ⟨fun _ _ hv => rfl, fun _ _ _ _ _ => trivial⟩, fun val h_ W hx he => ⟨trivial, ?_⟩, ?_⟩
                  · replace hx := (Upd.drew _ _).trans hx
                    replace hl := hl.ext hx
                    replace hr := hr.ext hx
                    replace hA := hA.ext hx
                    replace hB := hB.ext hx
                    replace hRow := hRow.ext hx
                    replace hKB := fun (j : Nat) (e : KE) hj he => (hKB j e hj he).ext hx
                    replace hKey := hKey.ext hx
                    have hE := Upd.refl (fun _ => False) W
                    refine id (X_load (v := y_.1) T23 rfl (kkeyR hRow.rd (Int.toNat_natCast _) hy_) ?_)
                    exact ⟨hE, rfl⟩
                  refine ⟨.det (fun val => (.int .i64 (((j : Nat) : Int)))), ⟨fun _ _ hv => rfl, fun _ _ _ _ _ => trivial⟩, fun val h_ W hx he => ⟨trivial, ?_⟩, ?_⟩
                  · replace hx := (Upd.drew _ _).trans hx
                    replace hl := hl.ext hx
                    replace hr := hr.ext hx
                    replace hA := hA.ext hx
                    replace hB := hB.ext hx
                    replace hRow := hRow.ext hx
                    replace hKB := fun (j : Nat) (e : KE) hj he => (hKB j e hj he).ext hx
                    replace hKey := hKey.ext hx
                    have hE := Upd.refl (fun _ => False) W
                    refine id (X_move (v := (.int .i64 (((j : Nat) : Int)))) rfl ?_)
                    exact ⟨hE, rfl⟩
                  refine ⟨.det (fun val => vg), ⟨fun _ _ hv => rfl, fun _ _ _ _ _ => trivial⟩, fun val h_ W hx he => ⟨trivial, ?_⟩, ?_⟩
                  · replace hx := (Upd.drew _ _).trans hx
                    replace hl := hl.ext hx
                    replace hr := hr.ext hx
                    replace hA := hA.ext hx
                    replace hB := hB.ext hx
                    replace hRow := hRow.ext hx
                    replace hKB := fun (j : Nat) (e : KE) hj he => (hKB j e hj he).ext hx
                    replace hKey := hKey.ext hx
                    have hE := Upd.refl (fun _ => False) W
                    refine id (X_move (v := vg) rfl ?_)
                    exact ⟨hE, rfl⟩
                  refine ⟨.det (fun val => (.int .i64 (((i : Nat) : Int)))), ⟨fun _ _ hv => rfl, fun _ _ _ _ _ => trivial⟩, fun val h_ W hx he => ⟨trivial, ?_⟩, ?_⟩
                  · replace hx := (Upd.drew _ _).trans hx
                    replace hl := hl.ext hx
                    replace hr := hr.ext hx
                    replace hA := hA.ext hx
                    replace hB := hB.ext hx
                    replace hRow := hRow.ext hx
                    replace hKB := fun (j : Nat) (e : KE) hj he => (hKB j e hj he).ext hx
                    replace hKey := hKey.ext hx
                    have hE := Upd.refl (fun _ => False) W
                    refine id (X_move (v := (.int .i64 (((i : Nat) : Int)))) rfl ?_)
                    exact ⟨hE, rfl⟩
                  refine ⟨.det (fun val => (pof vg ((((i : Nat) : Int) : Int).toNat * 6))), ⟨fun _ _ hv => rfl, fun _ _ _ _ _ => trivial⟩, fun val h_ W hx he => ⟨trivial, ?_⟩, ?_⟩
                  · replace hx := (Upd.drew _ _).trans hx
                    replace hl := hl.ext hx
                    replace hr := hr.ext hx
                    replace hA := hA.ext hx
                    replace hB := hB.ext hx
                    replace hRow := hRow.ext hx
                    replace hKB := fun (j : Nat) (e : KE) hj he => (hKB j e hj he).ext hx
                    replace hKey := hKey.ext hx
                    have hE := Upd.refl (fun _ => False) W
                    refine id (X_idx (v := vg) (n := gs.length) (k := .i64) (i := ((i : Nat) : Int)) S22 rfl hsvg rfl (by omega) (by omega) ?_)
                    exact ⟨hE, rfl⟩
                  refine ⟨.det (fun val => (pof vg ((((i : Nat) : Int) : Int).toNat * 6 + 0))), ⟨fun _ _ hv => rfl, fun _ _ _ _ _ => trivial⟩, fun val h_ W hx he => ⟨trivial, ?_⟩, ?_⟩
                  · replace hx := (Upd.drew _ _).trans hx
                    replace hl := hl.ext hx
                    replace hr := hr.ext hx
                    replace hA := hA.ext hx
                    replace hB := hB.ext hx
                    replace hRow := hRow.ext hx
                    replace hKB := fun (j : Nat) (e : KE) hj he => (hKB j e hj he).ext hx
                    replace hKey := hKey.ext hx
                    have hE := Upd.refl (fun _ => False) W
                    refine id (X_fldS (v := vg) (o := (((i : Nat) : Int) : Int).toNat * 6) Fd39_0 rfl hsvg (by omega) ?_)
                    exact ⟨hE, rfl⟩
                  refine ⟨.det (fun val => y_.1), ⟨fun _ _ hv => rfl, fun _ _ _ _ _ => trivial⟩, fun val h_ W hx he => ⟨trivial, ?_⟩, ?_⟩
                  · replace hx := (Upd.drew _ _).trans hx
                    replace hl := hl.ext hx
                    replace hr := hr.ext hx
                    replace hA := hA.ext hx
                    replace hB := hB.ext hx
                    replace hRow := hRow.ext hx
                    replace hKB := fun (j : Nat) (e : KE) hj he => (hKB j e hj he).ext hx
                    replace hKey := hKey.ext hx
                    have hE := Upd.refl (fun _ => False) W
                    refine id (X_load (v := y_.1) T23 rfl (kkeyR hRow.rd (Int.toNat_natCast _) hy_) ?_)
                    exact ⟨hE, rfl⟩
                  refine ⟨.det (fun val => (.int .i64 (((j : Nat) : Int)))), ⟨fun _ _ hv => rfl, fun _ _ _ _ _ => trivial⟩, fun val h_ W hx he => ⟨trivial, ?_⟩, ?_⟩
                  · replace hx := (Upd.drew _ _).trans hx
                    replace hl := hl.ext hx
                    replace hr := hr.ext hx
                    replace hA := hA.ext hx
                    replace hB := hB.ext hx
                    replace hRow := hRow.ext hx
                    replace hKB := fun (j : Nat) (e : KE) hj he => (hKB j e hj he).ext hx
                    replace hKey := hKey.ext hx
                    have hE := Upd.refl (fun _ => False) W
                    refine id (X_move (v := (.int .i64 (((j : Nat) : Int)))) rfl ?_)
                    exact ⟨hE, rfl⟩
                  refine ⟨.det (fun val => (pof y_.1 ((((j : Nat) : Int) : Int).toNat * 1))), ⟨fun _ _ hv => rfl, fun _ _ _ _ _ => trivial⟩, fun val h_ W hx he => ⟨trivial, ?_⟩, ?_⟩
                  · replace hx := (Upd.drew _ _).trans hx
                    replace hl := hl.ext hx
                    replace hr := hr.ext hx
                    replace hA := hA.ext hx
                    replace hB := hB.ext hx
                    replace hRow := hRow.ext hx
                    replace hKB := fun (j : Nat) (e : KE) hj he => (hKB j e hj he).ext hx
                    replace hKey := hKey.ext hx
                    have hE := Upd.refl (fun _ => False) W
                    refine id (X_idx (v := y_.1) (n := y_.2.1.length) (k := .i64) (i := ((j : Nat) : Int)) S23 rfl hKey.rd.sv rfl (by omega) (by omega) ?_)
                    exact ⟨hE, rfl⟩
                  refine ⟨.det (fun val => (.int .u8 (((bx.toNat : Nat) : Int)))), ⟨fun _ _ hv => rfl, fun _ _ _ _ _ => trivial⟩, fun val h_ W hx he => ⟨trivial, ?_⟩, ?_⟩
                  · replace hx := (Upd.drew _ _).trans hx
                    replace hl := hl.ext hx
                    replace hr := hr.ext hx
                    replace hA := hA.ext hx
                    replace hB := hB.ext hx
                    replace hRow := hRow.ext hx
                    replace hKB := fun (j : Nat) (e : KE) hj he => (hKB j e hj he).ext hx
                    replace hKey := hKey.ext hx
                    have hE := Upd.refl (fun _ => False) W
                    refine id (X_load (v := .int .u8 ((bx.toNat : Nat) : Int)) T5 rfl (hKey.rd.cell (by rw [show (((j : Nat) : Int).toNat * 1) = j by omega, List.getElem?_map, hbx]; rfl)) ?_)
                    exact ⟨hE, rfl⟩
                  refine ⟨.det (fun val => (.int .u8 (((bz.toNat : Nat) : Int)))), ⟨fun _ _ hv => rfl, fun _ _ _ _ _ => trivial⟩, fun val h_ W hx he => ⟨trivial, ?_⟩, ?_⟩
                  · replace hx := (Upd.drew _ _).trans hx
                    replace hl := hl.ext hx
                    replace hr := hr.ext hx
                    replace hA := hA.ext hx
                    replace hB := hB.ext hx
                    replace hRow := hRow.ext hx
                    replace hKB := fun (j : Nat) (e : KE) hj he => (hKB j e hj he).ext hx
                    replace hKey := hKey.ext hx
                    have hE := Upd.refl (fun _ => False) W
                    refine id (X_arith (k := .u8) (a := ((bx.toNat : Nat) : Int)) (b := 1) (r := ((bz.toNat : Nat) : Int)) rfl rfl rfl hbz ?_)
                    exact ⟨hE, rfl⟩
                  intro val W66 hx66 he66
                  replace hx66 := (Upd.drew _ _).trans hx66
                  have hz66 := hx66.size
                  replace hl := hl.ext hx66
                  replace hr := hr.ext hx66
                  replace hA := hA.ext hx66
                  replace hB := hB.ext hx66
                  replace hRow := hRow.ext hx66
                  replace hKB := fun (j : Nat) (e : KE) hj he => (hKB j e hj he).ext hx66
                  replace hU := hU.trans (Ext.upd hx66)
                  replace hKey := hKey.ext hx66
                  refine L_op rfl (X_idx (v := y_.1) (n := y_.2.1.length) (k := .i64) (i := ((j : Nat) : Int)) S23 rfl hKey.rd.sv rfl (by omega) (by omega) ?_)
                  refine L_op0 (X_storeOwn (i := ((j : Nat) : Int).toNat * 1) (v := y_.1) (u := .int .u8 ((bz.toNat : Nat) : Int)) T5 hKey (by omega) rfl rfl rfl ?_)
                  intro w69 hO69 hu69
                  have hz69 := hu69.size
                  rw [show ((j : Nat) : Int).toNat * 1 = j by omega] at hO69
                  replace hRow := hRow.upd hu69 fun i h1 h => absurd (hRow.types hKey h1 h) (by decide)
                  replace hKB := fun (q : Nat) (e : KE) hq he => (⟨(hKB q e hq he).1.upd hu69 fun b hb h => dist_at hdi (show i < q by omega) hy_ he b h hb, (hKB q e hq he).2⟩ : BOwn w69 5 lo up (e.1, e.2.1))
                  replace hl := hl.upd hu69 fun i h1 h2 h => by have h := hKey.lt h; omega
                  replace hr := hr.upd hu69 fun i h1 h2 h => by have h := hKey.lt h; omega
                  replace hA := hA.upd hu69 fun i h1 h2 h => by have h := hKey.lt h; omega
                  replace hB := hB.upd hu69 fun i h1 h2 h => by have h := hKey.lt h; omega
                  replace hU := hU.trans (hu69.mono fun i _ h => by have h := hKey.lt h; show n0 ≤ i; omega)
                  replace hKey : Own w69 lo 5 1 y_.1 y_.2.1.length ((kk.set j bz).map byteV) := by rw [List.map_set]; exact hO69
                  refine L_nil ?_
                  refine B_n ?_
                  refine T_n ?_
                  refine W_reg ?_
                  refine L_op rfl (X_move (v := (.int .i64 (((j : Nat) : Int)))) rfl ?_)
                  refine L_op rfl (X_arith (k := .i64) (a := ((j : Nat) : Int)) (b := 1) (r := ((j + 1 : Nat) : Int)) rfl rfl rfl (iadd64 (by omega) (by omega) (by omega)) ?_)
                  refine L_op rfl (X_assign (v := (.int .i64 (((j + 1 : Nat) : Int)))) rfl ?_)
                  refine L_nil ?_
                  refine T_n ?_
                  exact ⟨rfl, (j + 1, kk.set j bz), ⟨⟨hj, hl, hr, hA, hB, hRow, hKey, hKB, hU, by omega⟩, (by show y_.2.1.length - (j + 1) < y_.2.1.length - j; omega)⟩, (Out.mk rfl), ⟨rfl, trivial⟩⟩
                · refine L_op rfl (X_cmp (k := .i64) (a := ((j : Nat) : Int)) (b := ((y_.2.1.length : Nat) : Int)) (r := false) rfl rfl rfl (decide_eq_false (p := ((((j : Nat) : Int)) : Int) < ((((y_.2.1.length : Nat) : Int)) : Int)) (by omega)) ?_)
                  refine L_nil ?_
                  refine T_n ?_
                  refine W_cf rfl ?_
                  refine W_exit ?_
                  refine T_e ?_
                  refine T_e ?_
                  refine B_x ?_
                  refine B_n ?_
                  refine T_n ?_
                  refine W_reg ?_
                  refine L_op rfl (X_move (v := (.int .i64 (((i : Nat) : Int)))) rfl ?_)
                  refine L_op rfl (X_arith (k := .i64) (a := ((i : Nat) : Int)) (b := 1) (r := ((i + 1 : Nat) : Int)) rfl rfl rfl (iadd64 (by omega) (by omega) (by omega)) ?_)
                  refine L_op rfl (X_assign (v := (.int .i64 (((i + 1 : Nat) : Int)))) rfl ?_)
                  refine L_nil ?_
                  refine T_n ?_
                  exact ⟨rfl, i + 1, ⟨⟨hi, hl, hr, hA, hB, hRow, hKB, hU, by omega⟩, (by show gs.length - (i + 1) < gs.length - i; omega)⟩, (Out.in_ rfl rfl (Out.mk rfl)), ⟨rfl, trivial⟩⟩
              · have hi0 := of_decide_eq_false hs59
                rw [if_pos (by omega), hde] at hxd
                have hxp : y_.2.2 = e.2.2 := by rw [hxd]
                have hx0 : y_.2.1.length = 0 := by rw [hxd]; rfl
                refine W_draw 30 [[], [], [0, 1], [0, 1, 2], [0, 1, 2, 3], [], [5], [0, 1, 2, 3, 4, 5, 6], [0, 1, 2, 3, 4, 5, 6, 7], [0, 1, 2, 3, 4, 5, 6, 7, 8], [0, 1, 2, 3, 4, 5, 6, 7, 8, 9], [0, 1, 2, 3, 4, 5, 6, 7, 8, 9, 10], [0, 1, 2, 3, 4, 5, 6, 7, 8, 9, 10, 11], [0, 1, 2, 3, 4, 5, 6, 7, 8, 9, 10, 11], [0, 1, 2, 3, 4, 5, 6, 7, 8, 9, 10, 11, 12, 13], [0, 1, 2, 3, 4, 5, 6, 7, 8, 9, 10, 11, 12, 13, 14], [0, 1, 2, 3, 4, 5, 6, 7, 8, 9, 10, 11, 12, 13, 14, 15], [0, 1, 2, 3, 4, 5, 6, 7, 8, 9, 10, 11, 12, 13, 14, 15, 16], [0, 1, 2, 3, 4, 5, 6, 7, 8, 9, 10, 11], [0, 1, 2, 3, 4, 5, 6, 7, 8, 9, 10, 11, 18], [0, 1, 2, 3, 4, 5, 6, 7, 8, 9, 10, 11, 18, 19], [0, 1, 2, 3, 4, 5, 6, 7, 8, 9, 10, 11, 12, 13, 14, 15, 16, 17, 18, 19, 20], [0, 1, 2, 3, 4, 5, 6, 7, 8, 9, 10, 11, 12, 13, 14, 15, 16, 17, 18, 19, 20, 21], [0, 1, 2, 3, 4, 5, 6, 7, 8, 9, 10, 11, 12, 13, 14, 15, 16, 17, 18, 19, 20, 21, 22], [0, 1, 2, 3, 4, 5, 6, 7, 8, 9, 10, 11, 12, 13, 14, 15, 16, 17, 18, 19, 20, 21, 22, 23], [0, 1, 2, 3, 4, 5, 6, 7, 8, 9, 10, 11, 12, 13, 14, 15, 16, 17, 18, 19, 20, 21, 22, 23, 24], [0, 1, 2, 3, 4, 5, 6, 7, 8, 9, 10, 11, 12, 13, 14, 15, 16, 17, 18, 19, 20, 21, 22, 23, 24, 25], [0, 1, 2, 3, 4, 5, 6, 7, 8, 9, 10, 11, 12, 13, 14, 15, 16, 17, 18, 19, 20, 21, 22, 23, 24, 25, 26], [0, 1, 2, 3, 4, 5, 6, 7, 8, 9, 10, 11, 12, 13, 14, 15, 16, 17, 18, 19, 20, 21, 22, 23, 24, 25, 26, 27], [0, 1, 2, 3, 4, 5, 6, 7, 8, 9, 10, 11, 12, 13, 14, 15, 16, 17, 18, 19, 20, 21, 22, 23, 24, 25, 26, 27], [0, 1, 2, 3, 4, 5, 6, 7, 8, 9, 10, 11, 12, 13, 14, 15, 16, 17, 18, 19, 20, 21, 22, 23, 24, 25, 26, 27, 28, 29], [0, 1, 2, 3, 4, 5, 6, 7, 8, 9, 10, 11, 12, 13, 14, 15, 16, 17, 18, 19, 20, 21, 22, 23, 24, 25, 26, 27, 28, 29, 30], [0, 1, 2, 3, 4, 5, 6, 7, 8, 9, 10, 11, 12, 13, 14, 15, 16, 17, 18, 19, 20, 21, 22, 23, 24, 25, 26, 27, 28, 29, 30, 31], [0, 1, 2, 3, 4, 5, 6, 7, 8, 9, 10, 11, 12, 13, 14, 15, 16, 17, 18, 19, 20, 21, 22, 23, 24, 25, 26, 27, 28, 29, 30, 31, 32], [0, 1, 2, 3, 4, 5, 6, 7, 8, 9, 10, 11, 12, 13, 14, 15, 16, 17, 18, 19, 20, 21, 22, 23, 24, 25, 26, 27, 28, 29, 30, 31, 32, 33], [0, 1, 2, 3, 4, 5, 6, 7, 8, 9, 10, 11, 12, 13, 14, 15, 16, 17, 18, 19, 20, 21, 22, 23, 24, 25, 26, 27, 28, 29, 30, 31, 32, 33, 34], [0, 1, 2, 3, 4, 5, 6, 7, 8, 9, 10, 11, 12, 13, 14, 15, 16, 17, 18, 19, 20, 21, 22, 23, 24, 25, 26, 27, 28, 29, 30, 31, 32, 33, 34, 35]] mixed (by kernel_rfl) ?_
                refine ⟨.det (fun val => vg), ⟨fun _ _ hv => rfl, fun _ _ _ _ _ => trivial⟩, fun val h_ W hx he => ⟨trivial, ?_⟩, ?_⟩
                · replace hx := (Upd.drew _ _).trans hx
                  replace hl := hl.ext hx
                  replace hr := hr.ext hx
                  replace hA := hA.ext hx
                  replace hB := hB.ext hx
                  replace hRow := hRow.ext hx
                  replace hKB := fun (j : Nat) (e : KE) hj he => (hKB j e hj he).ext hx
                  replace hB12 := hB12.ext hx
                  have hE := Upd.refl (fun _ => False) W
                  refine id (X_move (v := vg) rfl ?_)
                  exact ⟨hE, rfl⟩
                refine ⟨.det (fun val => (.int .i64 (((i : Nat) : Int)))), ⟨fun _ _ hv => rfl, fun _ _ _ _ _ => trivial⟩, fun val h_ W hx he => ⟨trivial, ?_⟩, ?_⟩
                · replace hx := (Upd.drew _ _).trans hx
                  replace hl := hl.ext hx
                  replace hr := hr.ext hx
                  replace hA := hA.ext hx
                  replace hB := hB.ext hx
                  replace hRow := hRow.ext hx
                  replace hKB := fun (j : Nat) (e : KE) hj he => (hKB j e hj he).ext hx
                  replace hB12 := hB12.ext hx
                  have hE := Upd.refl (fun _ => False) W
                  refine id (X_move (v := (.int .i64 (((i : Nat) : Int)))) rfl ?_)
                  exact ⟨hE, rfl⟩
                refine ⟨.det (fun val => (pof vg ((((i : Nat) : Int) : Int).toNat * 6))), ⟨fun _ _ hv => rfl, fun _ _ _ _ _ => trivial⟩, fun val h_ W hx he => ⟨trivial, ?_⟩, ?_⟩
                · replace hx := (Upd.drew _ _).trans hx
                  replace hl := hl.ext hx
                  replace hr := hr.ext hx
                  replace hA := hA.ext hx
                  replace hB := hB.ext hx
                  replace hRow := hRow.ext hx
                  replace hKB := fun (j : Nat) (e : KE) hj he => (hKB j e hj he).ext hx
                  replace hB12 := hB12.ext hx
                  have hE := Upd.refl (fun _ => False) W
                  refine id (X_idx (v := vg) (n := gs.length) (k := .i64) (i := ((i : Nat) : Int)) S22 rfl hsvg rfl (by omega) (by omega) ?_)
                  exact ⟨hE, rfl⟩
                refine ⟨.det (fun val => (pof vg ((((i : Nat) : Int) : Int).toNat * 6 + 1))), ⟨fun _ _ hv => rfl, fun _ _ _ _ _ => trivial⟩, fun val h_ W hx he => ⟨trivial, ?_⟩, ?_⟩
                · replace hx := (Upd.drew _ _).trans hx
                  replace hl := hl.ext hx
                  replace hr := hr.ext hx
                  replace hA := hA.ext hx
                  replace hB := hB.ext hx
                  replace hRow := hRow.ext hx
                  replace hKB := fun (j : Nat) (e : KE) hj he => (hKB j e hj he).ext hx
                  replace hB12 := hB12.ext hx
                  have hE := Upd.refl (fun _ => False) W
                  refine id (X_fldS (v := vg) (o := (((i : Nat) : Int) : Int).toNat * 6) Fd39_1 rfl hsvg (by omega) ?_)
                  exact ⟨hE, rfl⟩
                refine ⟨.det (fun val => (.agg (ptC y_.2.2).toArray)), ⟨fun _ _ hv => rfl, fun _ _ _ _ _ => trivial⟩, fun val h_ W hx he => ⟨trivial, ?_⟩, ?_⟩
                · replace hx := (Upd.drew _ _).trans hx
                  replace hl := hl.ext hx
                  replace hr := hr.ext hx
                  replace hA := hA.ext hx
                  replace hB := hB.ext hx
                  replace hRow := hRow.ext hx
                  replace hKB := fun (j : Nat) (e : KE) hj he => (hKB j e hj he).ext hx
                  replace hB12 := hB12.ext hx
                  have hE := Upd.refl (fun _ => False) W
                  refine id (X_loadA (xs := ptC y_.2.2) A37 rfl (kptrR hRow.rd (Int.toNat_natCast _) hy_) rfl ?_)
                  exact ⟨hE, rfl⟩
                refine ⟨.det (fun val => (ptr b12 (1))), ⟨fun _ _ hv => rfl, fun _ _ _ _ _ => trivial⟩, fun val h_ W hx he => ⟨trivial, ?_⟩, ?_⟩
                · replace hx := (Upd.drew _ _).trans hx
                  replace hl := hl.ext hx
                  replace hr := hr.ext hx
                  replace hA := hA.ext hx
                  replace hB := hB.ext hx
                  replace hRow := hRow.ext hx
                  replace hKB := fun (j : Nat) (e : KE) hj he => (hKB j e hj he).ext hx
                  replace hB12 := hB12.ext hx
                  have hE := Upd.refl (fun _ => False) W
                  refine id (X_fldP (b := b12) (o := 0) (r := 1) Fd39_1 rfl rfl ?_)
                  exact ⟨hE, rfl⟩
                refine ⟨.det (fun val => (.agg (ptC e.2.2).toArray)), ⟨fun _ _ hv => rfl, fun _ _ _ _ _ => trivial⟩, fun val h_ W hx he => ⟨trivial, ?_⟩, ?_⟩
                · replace hx := (Upd.drew _ _).trans hx
                  replace hl := hl.ext hx
                  replace hr := hr.ext hx
                  replace hA := hA.ext hx
                  replace hB := hB.ext hx
                  replace hRow := hRow.ext hx
                  replace hKB := fun (j : Nat) (e : KE) hj he => (hKB j e hj he).ext hx
                  replace hB12 := hB12.ext hx
                  have hE := Upd.refl (fun _ => False) W
                  refine id (X_loadA (xs := ptC e.2.2) A37 rfl (hB12.at_ 1 (ptC e.2.2) (fun j u hj => by rw [Nat.add_comm]; simpa using hj)) rfl ?_)
                  exact ⟨hE, rfl⟩
                refine ⟨.det (fun val => (.bool (false))), ⟨fun _ _ hv => rfl, fun _ _ _ _ _ => trivial⟩, fun val h_ W hx he => ⟨trivial, ?_⟩, ?_⟩
                · replace hx := (Upd.drew _ _).trans hx
                  replace hl := hl.ext hx
                  replace hr := hr.ext hx
                  replace hA := hA.ext hx
                  replace hB := hB.ext hx
                  replace hRow := hRow.ext hx
                  replace hKB := fun (j : Nat) (e : KE) hj he => (hKB j e hj he).ext hx
                  replace hB12 := hB12.ext hx
                  have hE := Upd.refl (fun _ => False) W
                  refine id (X_eqP (p := y_.2.2) (q := e.2.2) (r := false) Try.underlying37 u37 (by kernel_rfl) (by decide) ⟨rfl, rfl, rfl, rfl⟩ Try.underlying5 Try.underlying33 (by kernel_rfl) Try.underlying32 (ie := _) rfl (by kernel_rfl) Try.underlying34 Try.underlying35 (by kernel_rfl) rfl rfl (.inr ⟨rfl, by rw [hxp, beq_self_eq_true]; rfl⟩) ?_)
                  exact ⟨hE, rfl⟩
                refine ⟨.det (fun val => (.bool (false))), ⟨fun _ _ hv => rfl, fun _ _ _ _ _ => trivial⟩, fun val h_ W hx he => ⟨trivial, ?_⟩, ?_⟩
                · replace hx := (Upd.drew _ _).trans hx
                  replace hl := hl.ext hx
                  replace hr := hr.ext hx
                  replace hA := hA.ext hx
                  replace hB := hB.ext hx
                  replace hRow := hRow.ext hx
                  replace hKB := fun (j : Nat) (e : KE) hj he => (hKB j e hj he).ext hx
                  replace hB12 := hB12.ext hx
                  have hE := Upd.refl (fun _ => False) W
                  refine id (X_move (v := (.bool (false))) rfl ?_)
                  exact ⟨hE, rfl⟩
                refine ⟨.det (fun val => (.int .i64 (((i : Nat) : Int)))), ⟨fun _ _ hv => rfl, fun _ _ _ _ _ => trivial⟩, fun val h_ W hx he => ⟨⟨96, rfl, rfl⟩, ?_⟩, ?_⟩
                · replace hx := (Upd.drew _ _).trans hx
                  replace hl := hl.ext hx
                  replace hr := hr.ext hx
                  replace hA := hA.ext hx
                  replace hB := hB.ext hx
                  replace hRow := hRow.ext hx
                  replace hKB := fun (j : Nat) (e : KE) hj he => (hKB j e hj he).ext hx
                  replace hB12 := hB12.ext hx
                  have hE := Upd.refl (fun _ => False) W
                  refine id (X_move (v := (.int .i64 (((i : Nat) : Int)))) rfl ?_)
                  exact ⟨hE, rfl⟩
                refine ⟨.det (fun val => (.bool (false))), ⟨fun _ _ hv => rfl, fun _ _ _ _ _ => trivial⟩, fun val h_ W hx he => ⟨⟨96, rfl, rfl⟩, ?_⟩, ?_⟩
                · replace hx := (Upd.drew _ _).trans hx
                  replace hl := hl.ext hx
                  replace hr := hr.ext hx
                  replace hA := hA.ext hx
                  replace hB := hB.ext hx
                  replace hRow := hRow.ext hx
                  replace hKB := fun (j : Nat) (e : KE) hj he => (hKB j e hj he).ext hx
                  replace hB12 := hB12.ext hx
                  have hE := Upd.refl (fun _ => False) W
                  refine id (X_cmp (k := .i64) (a := ((i : Nat) : Int)) (b := 0) (r := false) rfl rfl rfl (decide_eq_false (p := ((0 : Int) < ((i : Nat) : Int))) (by omega)) ?_)
                  exact ⟨hE, rfl⟩
                refine ⟨.det (fun val => (.bool (false))), ⟨fun _ _ hv => rfl, fun _ _ _ _ _ => trivial⟩, fun val h_ W hx he => ⟨⟨96, rfl, rfl⟩, ?_⟩, ?_⟩
                · replace hx := (Upd.drew _ _).trans hx
                  replace hl := hl.ext hx
                  replace hr := hr.ext hx
                  replace hA := hA.ext hx
                  replace hB := hB.ext hx
                  replace hRow := hRow.ext hx
                  replace hKB := fun (j : Nat) (e : KE) hj he => (hKB j e hj he).ext hx
                  replace hB12 := hB12.ext hx
                  have hE := Upd.refl (fun _ => False) W
                  refine id (X_move (v := (.bool (false))) rfl ?_)
                  exact ⟨hE, rfl⟩
                refine ⟨.no, ⟨fun _ _ _ => trivial, fun _ _ _ _ _ => trivial⟩, fun val h_ W hx he => ⟨99, rfl, .inl rfl⟩, ?_⟩
                refine ⟨.no, ⟨fun _ _ _ => trivial, fun _ _ _ _ _ => trivial⟩, fun val h_ W hx he => ⟨99, rfl, .inl rfl⟩, ?_⟩
                refine ⟨.no, ⟨fun _ _ _ => trivial, fun _ _ _ _ _ => trivial⟩, fun val h_ W hx he => ⟨99, rfl, .inl rfl⟩, ?_⟩
                refine ⟨.no, ⟨fun _ _ _ => trivial, fun _ _ _ _ _ => trivial⟩, fun val h_ W hx he => ⟨99, rfl, .inl rfl⟩, ?_⟩
                refine ⟨.no, ⟨fun _ _ _ => trivial, fun _ _ _ _ _ => trivial⟩, fun val h_ W hx he => ⟨99, rfl, .inl rfl⟩, ?_⟩
                refine ⟨.no, ⟨fun _ _ _ => trivial, fun _ _ _ _ _ => trivial⟩, fun val h_ W hx he => ⟨99, rfl, .inl rfl⟩, ?_⟩
                refine ⟨.no, ⟨fun _ _ _ => trivial, fun _ _ _ _ _ => trivial⟩, fun val h_ W hx he => ⟨99, rfl, .inl rfl⟩, ?_⟩
                refine ⟨.no, ⟨fun _ _ _ => trivial, fun _ _ _ _ _ => trivial⟩, fun val h_ W hx he => ⟨99, rfl, .inl rfl⟩, ?_⟩
                refine ⟨.no, ⟨fun _ _ _ => trivial, fun _ _ _ _ _ => trivial⟩, fun val h_ W hx he => ⟨99, rfl, .inl rfl⟩, ?_⟩
                refine ⟨.no, ⟨fun _ _ _ => trivial, fun _ _ _ _ _ => trivial⟩, fun val h_ W hx he => ⟨99, rfl, .inl rfl⟩, ?_⟩
                refine ⟨.det (fun val => (.bool (false))), ⟨fun _ _ hv => rfl, fun _ _ _ _ _ => trivial⟩, fun val h_ W hx he => ⟨⟨96, rfl, rfl⟩, ?_⟩, ?_⟩
                · replace hx := (Upd.drew _ _).trans hx
                  replace hl := hl.ext hx
                  replace hr := hr.ext hx
                  replace hA := hA.ext hx
                  replace hB := hB.ext hx
                  replace hRow := hRow.ext hx
                  replace hKB := fun (j : Nat) (e : KE) hj he => (hKB j e hj he).ext hx
                  replace hB12 := hB12.ext hx
                  have hE := Upd.refl (fun _ => False) W
                  refine id (X_pick (t := false) (v := (.bool (false))) rfl rfl ?_)
                  exact ⟨hE, rfl⟩
                refine ⟨.det (fun val => (.bool (false))), ⟨fun _ _ hv => rfl, fun _ _ _ _ _ => trivial⟩, fun val h_ W hx he => ⟨trivial, ?_⟩, ?_⟩
                · replace hx := (Upd.drew _ _).trans hx
                  replace hl := hl.ext hx
                  replace hr := hr.ext hx
                  replace hA := hA.ext hx
                  replace hB := hB.ext hx
                  replace hRow := hRow.ext hx
                  replace hKB := fun (j : Nat) (e : KE) hj he => (hKB j e hj he).ext hx
                  replace hB12 := hB12.ext hx
                  have hE := Upd.refl (fun _ => False) W
                  refine id (X_pick (t := false) (v := (.bool (false))) rfl rfl ?_)
                  exact ⟨hE, rfl⟩
                refine ⟨.det (fun val => (.bool (false))), ⟨fun _ _ hv => rfl, fun _ _ _ _ _ => trivial⟩, fun val h_ W hx he => ⟨trivial, ?_⟩, ?_⟩
                · replace hx := (Upd.drew _ _).trans hx
                  replace hl := hl.ext hx
                  replace hr := hr.ext hx
                  replace hA := hA.ext hx
                  replace hB := hB.ext hx
                  replace hRow := hRow.ext hx
                  replace hKB := fun (j : Nat) (e : KE) hj he => (hKB j e hj he).ext hx
                  replace hB12 := hB12.ext hx
                  have hE := Upd.refl (fun _ => False) W
                  refine id (X_move (v := (.bool (false))) rfl ?_)
                  exact ⟨hE, rfl⟩
                refine ⟨.det (fun val => (.int .i64 (((i : Nat) : Int)))), ⟨fun _ _ hv => rfl, fun _ _ _ _ _ => trivial⟩, fun val h_ W hx he => ⟨⟨112, rfl, rfl⟩, ?_⟩, ?_⟩
                · replace hx := (Upd.drew _ _).trans hx
                  replace hl := hl.ext hx
                  replace hr := hr.ext hx
                  replace hA := hA.ext hx
                  replace hB := hB.ext hx
                  replace hRow := hRow.ext hx
                  replace hKB := fun (j : Nat) (e : KE) hj he => (hKB j e hj he).ext hx
                  replace hB12 := hB12.ext hx
                  have hE := Upd.refl (fun _ => False) W
                  refine id (X_move (v := (.int .i64 (((i : Nat) : Int)))) rfl ?_)
                  exact ⟨hE, rfl⟩
                refine ⟨.det (fun val => (.bool (true))), ⟨fun _ _ hv => rfl, fun _ _ _ _ _ => trivial⟩, fun val h_ W hx he => ⟨⟨112, rfl, rfl⟩, ?_⟩, ?_⟩
                · replace hx := (Upd.drew _ _).trans hx
                  replace hl := hl.ext hx
                  replace hr := hr.ext hx
                  replace hA := hA.ext hx
                  replace hB := hB.ext hx
                  replace hRow := hRow.ext hx
                  replace hKB := fun (j : Nat) (e : KE) hj he => (hKB j e hj he).ext hx
                  replace hB12 := hB12.ext hx
                  have hE := Upd.refl (fun _ => False) W
                  refine id (X_cmp (k := .i64) (a := ((i : Nat) : Int)) (b := 0) (r := true) rfl rfl rfl (decide_eq_true (p := (((i : Nat) : Int) = (0 : Int))) (by omega)) ?_)
                  exact ⟨hE, rfl⟩
                refine ⟨.det (fun val => (.bool (true))), ⟨fun _ _ hv => rfl, fun _ _ _ _ _ => trivial⟩, fun val h_ W hx he => ⟨⟨112, rfl, rfl⟩, ?_⟩, ?_⟩
                · replace hx := (Upd.drew _ _).trans hx
                  replace hl := hl.ext hx
                  replace hr := hr.ext hx
                  replace hA := hA.ext hx
                  replace hB := hB.ext hx
                  replace hRow := hRow.ext hx
                  replace hKB := fun (j : Nat) (e : KE) hj he => (hKB j e hj he).ext hx
                  replace hB12 := hB12.ext hx
                  have hE := Upd.refl (fun _ => False) W
                  refine id (X_move (v := (.bool (true))) rfl ?_)
                  exact ⟨hE, rfl⟩
                refine ⟨.det (fun val => vg), ⟨fun _ _ hv => rfl, fun _ _ _ _ _ => trivial⟩, fun val h_ W hx he => ⟨⟨115, rfl, rfl⟩, ?_⟩, ?_⟩
                · replace hx := (Upd.drew _ _).trans hx
                  replace hl := hl.ext hx
                  replace hr := hr.ext hx
                  replace hA := hA.ext hx
                  replace hB := hB.ext hx
                  replace hRow := hRow.ext hx
                  replace hKB := fun (j : Nat) (e : KE) hj he => (hKB j e hj he).ext hx
                  replace hB12 := hB12.ext hx
                  have hE := Upd.refl (fun _ => False) W
                  refine id (X_move (v := vg) rfl ?_)
                  exact ⟨hE, rfl⟩
                refine ⟨.det (fun val => (.int .i64 (((i : Nat) : Int)))), ⟨fun _ _ hv => rfl, fun _ _ _ _ _ => trivial⟩, fun val h_ W hx he => ⟨⟨115, rfl, rfl⟩, ?_⟩, ?_⟩
                · replace hx := (Upd.drew _ _).trans hx
                  replace hl := hl.ext hx
                  replace hr := hr.ext hx
                  replace hA := hA.ext hx
                  replace hB := hB.ext hx
                  replace hRow := hRow.ext hx
                  replace hKB := fun (j : Nat) (e : KE) hj he => (hKB j e hj he).ext hx
                  replace hB12 := hB12.ext hx
                  have hE := Upd.refl (fun _ => False) W
                  refine id (X_move (v := (.int .i64 (((i : Nat) : Int)))) rfl ?_)
                  exact ⟨hE, rfl⟩
                intro val W70 hx70 he70
                replace hx70 := (Upd.drew _ _).trans hx70
                have hz70 := hx70.size
                replace hl := hl.ext hx70
                replace hr := hr.ext hx70
                replace hA := hA.ext hx70
                replace hB := hB.ext hx70
                replace hRow := hRow.ext hx70
                replace hKB := fun (j : Nat) (e : KE) hj he => (hKB j e hj he).ext hx70
                replace hU := hU.trans (Ext.upd hx70)
                replace hB12 := hB12.ext hx70
                refine L_gy (dj := 115) rfl rfl rfl (X_idx (v := vg) (n := gs.length) (k := .i64) (i := ((i : Nat) : Int)) S22 rfl hsvg rfl (by omega) (by omega) ?_)
                refine L_gy (dj := 115) rfl rfl rfl (X_fldS (v := vg) (o := (((i : Nat) : Int) : Int).toNat * 6) Fd39_0 rfl hsvg (by omega) ?_)
                refine L_gy (dj := 115) rfl rfl rfl (X_load (v := y_.1) T23 rfl (kkeyR hRow.rd (Int.toNat_natCast _) hy_) ?_)
                refine L_gy (dj := 115) rfl rfl rfl (X_len (v := y_.1) (n := y_.2.1.length) Try.underlying23 rfl (hKB i y_ (Nat.le_refl _) hy_).1.rd.sv ?_)
                refine L_gy (dj := 115) rfl rfl rfl (X_cmp (k := .i64) (a := ((y_.2.1.length : Nat) : Int)) (b := 0) (r := false) rfl rfl rfl (decide_eq_false (p := ((((y_.2.1.length : Nat) : Int)) : Int) ≠ ((0) : Int)) (by omega)) ?_)
                refine L_gy (dj := 112) rfl rfl rfl (X_pick (t := true) (v := (.bool (false))) rfl rfl ?_)
                refine L_op rfl (X_pick (t := false) (v := (.bool (false))) rfl rfl ?_)
                refine L_nil ?_
                refine T_n ?_
                refine W_cf rfl ?_
                refine W_skip ?_
                refine T_n ?_
                refine W_seq ?_
                refine W_reg ?_
                refine L_op rfl (X_assign (v := (.int .i64 (0))) rfl ?_)
                refine L_nil ?_
                refine T_n ?_
                refine W_block ?_
                refine W_loop (α := Nat × List UInt8) [12, 125, 126, 127, 128, 129, 130, 131, 132, 133, 134, 135, 136, 137, 138, 139, 140, 141, 142, 143, 144, 145, 146, 147, 148, 149, 150] (fun ⟨j, kk⟩ => [(12, (.int .i64 (((j : Nat) : Int))))]) (fun ⟨j, kk⟩ w_ => j ≤ y_.2.1.length ∧ NRd LK w_ 0 n0 l es ∧ NRd LK w_ 0 n0 r ms ∧ NRd LK w_ loA upA va fs ∧ NRd LK w_ loB upB vb os ∧ Own w_ lo 39 6 vg gs.length (gs.flatMap LK.cel) ∧ Own w_ lo 5 1 y_.1 y_.2.1.length (kk.map byteV) ∧ (∀ (j : Nat) (e : KE), i + 1 ≤ j → gs[j]? = some e → BOwn w_ 5 lo up (e.1, e.2.1)) ∧ Upd (fun i => n0 ≤ i) w w_ ∧ up ≤ w_.heap.size) (fun ⟨j, kk⟩ => y_.2.1.length - j) ⟨rfl, (0, y_.2.1), ⟨Nat.zero_le _, hl, hr, hA, hB, hRow, (hKB i y_ (Nat.le_refl _) hy_).1, fun j e hj he => hKB j e (by omega) he, hU, by omega⟩, Out.refl _ _, ⟨rfl, trivial⟩⟩ ?_
                rintro ⟨j, kk⟩ w72 _ ⟨hjl, hl, hr, hA, hB, hRow, hKey, hKB, hU, hupw⟩
                have hsz_ := hU.size
                have hkkl : kk.length = y_.2.1.length := by have h := hKey.1; rw [List.length_map] at h; omega
                refine W_seq ?_
                refine W_seq ?_
                refine W_reg ?_
                refine L_op rfl (X_move (v := (.int .i64 (((j : Nat) : Int)))) rfl ?_)
                refine L_op rfl (X_move (v := vg) rfl ?_)
                refine L_op rfl (X_move (v := (.int .i64 (((i : Nat) : Int)))) rfl ?_)
                refine L_op rfl (X_idx (v := vg) (n := gs.length) (k := .i64) (i := ((i : Nat) : Int)) S22 rfl hsvg rfl (by omega) (by omega) ?_)
                refine L_op rfl (X_fldS (v := vg) (o := (((i : Nat) : Int) : Int).toNat * 6) Fd39_0 rfl hsvg (by omega) ?_)
                refine L_op rfl (X_load (v := y_.1) T23 rfl (kkeyR hRow.rd (Int.toNat_natCast _) hy_) ?_)
                refine L_op rfl (X_len (v := y_.1) (n := y_.2.1.length) Try.underlying23 rfl hKey.rd.sv ?_)
                by_cases hc74 : (((j : Nat) : Int) : Int) < (((y_.2.1.length : Nat) : Int))
                · refine L_op rfl (X_cmp (k := .i64) (a := ((j : Nat) : Int)) (b := ((y_.2.1.length : Nat) : Int)) (r := true) rfl rfl rfl (decide_eq_true (p := ((((j : Nat) : Int)) : Int) < ((((y_.2.1.length : Nat) : Int)) : Int)) (by omega)) ?_)
                  have hj : j < y_.2.1.length := by omega
                  obtain ⟨bx, hbx⟩ : ∃ u, kk[j]? = some u := ⟨_, List.getElem?_eq_getElem (by omega)⟩
                  obtain ⟨bz, hbz⟩ : ∃ u : UInt8, iop .xor .u8 ((bx.toNat : Nat) : Int) 1 = ((u.toNat : Nat) : Int) := u8_any _
                  refine L_nil ?_
                  refine T_n ?_
                  refine W_ct rfl ?_
                  refine W_skip ?_
                  refine T_n ?_
                  refine W_seq ?_
                  refine W_block ?_
                  refine W_draw 15 [[], [], [0, 1], [0, 1, 2], [0, 1, 2, 3], [], [], [], [6, 7], [6, 7, 8], [6, 7, 8, 9], [], [6, 7, 8, 9, 10, 11], [6, 7, 8, 9, 10, 11, 12], [6, 7, 8, 9, 10, 11, 12, 13], [0, 1, 2, 3, 4, 5, 6, 7, 8, 9, 10, 11, 12, 13, 14], [0, 1, 2, 3, 4, 5, 6, 7, 8, 9, 10, 11, 12, 13, 14, 15]] mixed (by kernel_rfl) ?_
                  refine ⟨.det (fun val => vg), ⟨fun _ _ hv => rfl, fun _ _ _ _ _ => trivial⟩, fun val h_ W hx he => ⟨trivial, ?_⟩, ?_⟩
                  · replace hx := (Upd.drew _ _).trans hx
                    replace hl := hl.ext hx
                    replace hr := hr.ext hx
                    replace hA := hA.ext hx
                    replace hB := hB.ext hx
                    replace hRow := hRow.ext hx
                    replace hKB := fun (j : Nat) (e : KE) hj he => (hKB j e hj he).ext hx
                    replace hKey := hKey.ext hx
                    have hE := Upd.refl (fun _ => False) W
                    refine id (X_move (v := vg) rfl ?_)
                    exact ⟨hE, rfl⟩
                  refine ⟨.det (fun val => (.int .i64 (((i : Nat) : Int)))), ⟨fun _ _ hv => rfl, fun _ _ _ _ _ => trivial⟩, fun val h_ W hx he => ⟨trivial, ?_⟩, ?_⟩
                  · replace hx := (Upd.drew _ _).trans hx
                    replace hl := hl.ext hx
                    replace hr := hr.ext hx
                    replace hA := hA.ext hx
                    replace hB := hB.ext hx
                    replace hRow := hRow.ext hx
                    replace hKB := fun (j : Nat) (e : KE) hj he => (hKB j e hj he).ext hx
                    replace hKey := hKey.ext hx
                    have hE := Upd.refl (fun _ => False) W
                    refine id (X_move (v := (.int .i64 (((i : Nat) : Int)))) rfl ?_)
                    exact ⟨hE, rfl⟩
                  refine ⟨.det (fun val => (pof vg ((((i : Nat) : Int) : Int).toNat * 6))), ⟨fun _ _ hv => rfl, fun _ _ _ _ _ => trivial⟩, fun val h_ W hx he => ⟨trivial, ?_⟩, ?_⟩
                  · replace hx := (Upd.drew _ _).trans hx
                    replace hl := hl.ext hx
                    replace hr := hr.ext hx
                    replace hA := hA.ext hx
                    replace hB := hB.ext hx
                    replace hRow := hRow.ext hx
                    replace hKB := fun (j : Nat) (e : KE) hj he => (hKB j e hj he).ext hx
                    replace hKey := hKey.ext hx
                    have hE := Upd.refl (fun _ => False) W
                    refine id (X_idx (v := vg) (n := gs.length) (k := .i64) (i := ((i : Nat) : Int)) S22 rfl hsvg rfl (by omega) (by omega) ?_)
                    exact ⟨hE, rfl⟩
                  refine ⟨.det (fun val => (pof vg ((((i : Nat) : Int) : Int).toNat * 6 + 0))), ⟨fun _ _ hv => rfl, fun _ _ _ _ _ => trivial⟩, fun val h_ W hx he => ⟨trivial, ?_⟩, ?_⟩
                  · replace hx := (Upd.drew _ _).trans hx
                    replace hl := hl.ext hx
                    replace hr := hr.ext hx
                    replace hA := hA.ext hx
                    replace hB := hB.ext hx
                    replace hRow := hRow.ext hx
                    replace hKB := fun (j : Nat) (e : KE) hj he => (hKB j e hj he).ext hx
                    replace hKey := hKey.ext hx
                    have hE := Upd.refl (fun _ => False) W
                    refine id (X_fldS (v := vg) (o := (((i : Nat) : Int) : Int).toNat * 6) Fd39_0 rfl hsvg (by omega) ?_)
                    exact ⟨hE, rfl⟩
                  refine ⟨.det (fun val => y_.1), ⟨fun _ _ hv => rfl, fun _ _ _ _ _ => trivial⟩, fun val h_ W hx he => ⟨trivial, ?_⟩, ?_⟩
                  · replace hx := (Upd.drew _ _).trans hx
                    replace hl := hl.ext hx
                    replace hr := hr.ext hx
                    replace hA := hA.ext hx
                    replace hB := hB.ext hx
                    replace hRow := hRow.ext hx
                    replace hKB := fun (j : Nat) (e : KE) hj he => (hKB j e hj he).ext hx
                    replace hKey := hKey.ext hx
                    have hE := Upd.refl (fun _ => False) W
                    refine id (X_load (v := y_.1) T23 rfl (kkeyR hRow.rd (Int.toNat_natCast _) hy_) ?_)
                    exact ⟨hE, rfl⟩
                  refine ⟨.det (fun val => (.int .i64 (((j : Nat) : Int)))), ⟨fun _ _ hv => rfl, fun _ _ _ _ _ => trivial⟩, fun val h_ W hx he => ⟨trivial, ?_⟩, ?_⟩
                  · replace hx := (Upd.drew _ _).trans hx
                    replace hl := hl.ext hx
                    replace hr := hr.ext hx
                    replace hA := hA.ext hx
                    replace hB := hB.ext hx
                    replace hRow := hRow.ext hx
                    replace hKB := fun (j : Nat) (e : KE) hj he => (hKB j e hj he).ext hx
                    replace hKey := hKey.ext hx
                    have hE := Upd.refl (fun _ => False) W
                    refine id (X_move (v := (.int .i64 (((j : Nat) : Int)))) rfl ?_)
                    exact ⟨hE, rfl⟩
                  refine ⟨.det (fun val => vg), ⟨fun _ _ hv => rfl, fun _ _ _ _ _ => trivial⟩, fun val h_ W hx he => ⟨trivial, ?_⟩, ?_⟩
                  · replace hx := (Upd.drew _ _).trans hx
                    replace hl := hl.ext hx
                    replace hr := hr.ext hx
                    replace hA := hA.ext hx
                    replace hB := hB.ext hx
                    replace hRow := hRow.ext hx
                    replace hKB := fun (j : Nat) (e : KE) hj he => (hKB j e hj he).ext hx
                    replace hKey := hKey.ext hx
                    have hE := Upd.refl (fun _ => False) W
                    refine id (X_move (v := vg) rfl ?_)
                    exact ⟨hE, rfl⟩
                  refine ⟨.det (fun val => (.int .i64 (((i : Nat) : Int)))), ⟨fun _ _ hv => rfl, fun _ _ _ _ _ => trivial⟩, fun val h_ W hx he => ⟨trivial, ?_⟩, ?_⟩
                  · replace hx := (Upd.drew _ _).trans hx
                    replace hl := hl.ext hx
                    replace hr := hr.ext hx
                    replace hA := hA.ext hx
                    replace hB := hB.ext hx
                    replace hRow := hRow.ext hx
                    replace hKB := fun (j : Nat) (e : KE) hj he => (hKB j e hj he).ext hx
                    replace hKey := hKey.ext hx
                    have hE := Upd.refl (fun _ => False) W
                    refine id (X_move (v := (.int .i64 (((i : Nat) : Int)))) rfl ?_)
                    exact ⟨hE, rfl⟩
                  refine ⟨.det (fun val => (pof vg ((((i : Nat) : Int) : Int).toNat * 6))), ⟨fun _ _ hv => rfl, fun _ _ _ _ _ => trivial⟩, fun val h_ W hx he => ⟨trivial, ?_⟩, ?_⟩
                  · replace hx := (Upd.drew _ _).trans hx
                    replace hl := hl.ext hx
                    replace hr := hr.ext hx
                    replace hA := hA.ext hx
                    replace hB := hB.ext hx
                    replace hRow := hRow.ext hx
                    replace hKB := fun (j : Nat) (e : KE) hj he => (hKB j e hj he).ext hx
                    replace hKey := hKey.ext hx
                    have hE := Upd.refl (fun _ => False) W
                    refine id (X_idx (v := vg) (n := gs.length) (k := .i64) (i := ((i : Nat) : Int)) S22 rfl hsvg rfl (by omega) (by omega) ?_)
                    exact ⟨hE, rfl⟩
                  refine ⟨.det (fun val => (pof vg ((((i : Nat) : Int) : Int).toNat * 6 + 0))), ⟨fun _ _ hv => rfl, fun _ _ _ _ _ => trivial⟩, fun val h_ W hx he => ⟨trivial, ?_⟩, ?_⟩
                  · replace hx := (Upd.drew _ _).trans hx
                    replace hl := hl.ext hx
                    replace hr := hr.ext hx
                    replace hA := hA.ext hx
                    replace hB := hB.ext hx
                    replace hRow := hRow.ext hx
                    replace hKB := fun (j : Nat) (e : KE) hj he => (hKB j e hj he).ext hx
                    replace hKey := hKey.ext hx
                    have hE := Upd.refl (fun _ => False) W
                    refine id (X_fldS (v := vg) (o := (((i : Nat) : Int) : Int).toNat * 6) Fd39_0 rfl hsvg (by omega) ?_)
                    exact ⟨hE, rfl⟩
                  refine ⟨.det (fun val => y_.1), ⟨fun _ _ hv => rfl, fun _ _ _ _ _ => trivial⟩, fun val h_ W hx he => ⟨trivial, ?_⟩, ?_⟩
                  · replace hx := (Upd.drew _ _).trans hx
                    replace hl := hl.ext hx
                    replace hr := hr.ext hx
                    replace hA := hA.ext hx
                    replace hB := hB.ext hx
                    replace hRow := hRow.ext hx
                    replace hKB := fun (j : Nat) (e : KE) hj he => (hKB j e hj he).ext hx
                    replace hKey := hKey.ext hx
                    have hE := Upd.refl (fun _ => False) W
                    refine id (X_load (v := y_.1) T23 rfl (kkeyR hRow.rd (Int.toNat_natCast _) hy_) ?_)
                    exact ⟨hE, rfl⟩
                  refine ⟨.det (fun val => (.int .i64 (((j : Nat) : Int)))), ⟨fun _ _ hv => rfl, fun _ _ _ _ _ => trivial⟩, fun val h_ W hx he => ⟨trivial, ?_⟩, ?_⟩
                  · replace hx := (Upd.drew _ _).trans hx
                    replace hl := hl.ext hx
                    replace hr := hr.ext hx
                    replace hA := hA.ext hx
                    replace hB := hB.ext hx
                    replace hRow := hRow.ext hx
                    replace hKB := fun (j : Nat) (e : KE) hj he => (hKB j e hj he).ext hx
                    replace hKey := hKey.ext hx
                    have hE := Upd.refl (fun _ => False) W
                    refine id (X_move (v := (.int .i64 (((j : Nat) : Int)))) rfl ?_)
                    exact ⟨hE, rfl⟩
                  refine ⟨.det (fun val => (pof y_.1 ((((j : Nat) : Int) : Int).toNat * 1))), ⟨fun _ _ hv => rfl, fun _ _ _ _ _ => trivial⟩, fun val h_ W hx he => ⟨trivial, ?_⟩, ?_⟩
                  · replace hx := (Upd.drew _ _).trans hx
                    replace hl := hl.ext hx
                    replace hr := hr.ext hx
                    replace hA := hA.ext hx
                    replace hB := hB.ext hx
                    replace hRow := hRow.ext hx
                    replace hKB := fun (j : Nat) (e : KE) hj he => (hKB j e hj he).ext hx
                    replace hKey := hKey.ext hx
                    have hE := Upd.refl (fun _ => False) W
                    refine id (X_idx (v := y_.1) (n := y_.2.1.length) (k := .i64) (i := ((j : Nat) : Int)) S23 rfl hKey.rd.sv rfl (by omega) (by omega) ?_)
                    exact ⟨hE, rfl⟩
                  refine ⟨.det (fun val => (.int .u8 (((bx.toNat : Nat) : Int)))), ⟨fun _ _ hv => rfl, fun _ _ _ _ _ => trivial⟩, fun val h_ W hx he => ⟨trivial, ?_⟩, ?_⟩
                  · replace hx := (Upd.drew _ _).trans hx
                    replace hl := hl.ext hx
                    replace hr := hr.ext hx
                    replace hA := hA.ext hx
                    replace hB := hB.ext hx
                    replace hRow := hRow.ext hx
                    replace hKB := fun (j : Nat) (e : KE) hj he => (hKB j e hj he).ext hx
                    replace hKey := hKey.ext hx
                    have hE := Upd.refl (fun _ => False) W
                    refine id (X_load (v := .int .u8 ((bx.toNat : Nat) : Int)) T5 rfl (hKey.rd.cell (by rw [show (((j : Nat) : Int).toNat * 1) = j by omega, List.getElem?_map, hbx]; rfl)) ?_)
                    exact ⟨hE, rfl⟩
                  refine ⟨.det (fun val => (.int .u8 (((bz.toNat : Nat) : Int)))), ⟨fun _ _ hv => rfl, fun _ _ _ _ _ => trivial⟩, fun val h_ W hx he => ⟨trivial, ?_⟩, ?_⟩
                  · replace hx := (Upd.drew _ _).trans hx
                    replace hl := hl.ext hx
                    replace hr := hr.ext hx
                    replace hA := hA.ext hx
                    replace hB := hB.ext hx
                    replace hRow := hRow.ext hx
                    replace hKB := fun (j : Nat) (e : KE) hj he => (hKB j e hj he).ext hx
                    replace hKey := hKey.ext hx
                    have hE := Upd.refl (fun _ => False) W
                    refine id (X_arith (k := .u8) (a := ((bx.toNat : Nat) : Int)) (b := 1) (r := ((bz.toNat : Nat) : Int)) rfl rfl rfl hbz ?_)
                    exact ⟨hE, rfl⟩
                  intro val W75 hx75 he75
                  replace hx75 := (Upd.drew _ _).trans hx75
                  have hz75 := hx75.size
                  replace hl := hl.ext hx75
                  replace hr := hr.ext hx75
                  replace hA := hA.ext hx75
                  replace hB := hB.ext hx75
                  replace hRow := hRow.ext hx75
                  replace hKB := fun (j : Nat) (e : KE) hj he => (hKB j e hj he).ext hx75
                  replace hU := hU.trans (Ext.upd hx75)
                  replace hKey := hKey.ext hx75
                  refine L_op rfl (X_idx (v := y_.1) (n := y_.2.1.length) (k := .i64) (i := ((j : Nat) : Int)) S23 rfl hKey.rd.sv rfl (by omega) (by omega) ?_)
                  refine L_op0 (X_storeOwn (i := ((j : Nat) : Int).toNat * 1) (v := y_.1) (u := .int .u8 ((bz.toNat : Nat) : Int)) T5 hKey (by omega) rfl rfl rfl ?_)
                  intro w78 hO78 hu78
                  have hz78 := hu78.size
                  rw [show ((j : Nat) : Int).toNat * 1 = j by omega] at hO78
                  replace hRow := hRow.upd hu78 fun i h1 h => absurd (hRow.types hKey h1 h) (by decide)
                  replace hKB := fun (q : Nat) (e : KE) hq he => (⟨(hKB q e hq he).1.upd hu78 fun b hb h => dist_at hdi (show i < q by omega) hy_ he b h hb, (hKB q e hq he).2⟩ : BOwn w78 5 lo up (e.1, e.2.1))
                  replace hl := hl.upd hu78 fun i h1 h2 h => by have h := hKey.lt h; omega
                  replace hr := hr.upd hu78 fun i h1 h2 h => by have h := hKey.lt h; omega
                  replace hA := hA.upd hu78 fun i h1 h2 h => by have h := hKey.lt h; omega
                  replace hB := hB.upd hu78 fun i h1 h2 h => by have h := hKey.lt h; omega
                  replace hU := hU.trans (hu78.mono fun i _ h => by have h := hKey.lt h; show n0 ≤ i; omega)
                  replace hKey : Own w78 lo 5 1 y_.1 y_.2.1.length ((kk.set j bz).map byteV) := by rw [List.map_set]; exact hO78
                  refine L_nil ?_
                  refine B_n ?_
                  refine T_n ?_
                  refine W_reg ?_
                  refine L_op rfl (X_move (v := (.int .i64 (((j : Nat) : Int)))) rfl ?_)
                  refine L_op rfl (X_arith (k := .i64) (a := ((j : Nat) : Int)) (b := 1) (r := ((j + 1 : Nat) : Int)) rfl rfl rfl (iadd64 (by omega) (by omega) (by omega)) ?_)
                  refine L_op rfl (X_assign (v := (.int .i64 (((j + 1 : Nat) : Int)))) rfl ?_)
                  refine L_nil ?_
                  refine T_n ?_
                  exact ⟨rfl, (j + 1, kk.set j bz), ⟨⟨hj, hl, hr, hA, hB, hRow, hKey, hKB, hU, by omega⟩, (by show y_.2.1.length - (j + 1) < y_.2.1.length - j; omega)⟩, (Out.mk rfl), ⟨rfl, trivial⟩⟩
                · refine L_op rfl (X_cmp (k := .i64) (a := ((j : Nat) : Int)) (b := ((y_.2.1.length : Nat) : Int)) (r := false) rfl rfl rfl (decide_eq_false (p := ((((j : Nat) : Int)) : Int) < ((((y_.2.1.length : Nat) : Int)) : Int)) (by omega)) ?_)
                  refine L_nil ?_
                  refine T_n ?_
                  refine W_cf rfl ?_
                  refine W_exit ?_
                  refine T_e ?_
                  refine T_e ?_
                  refine B_x ?_
                  refine B_n ?_
                  refine T_n ?_
                  refine W_reg ?_
                  refine L_op rfl (X_move (v := (.int .i64 (((i : Nat) : Int)))) rfl ?_)
                  refine L_op rfl (X_arith (k := .i64) (a := ((i : Nat) : Int)) (b := 1) (r := ((i + 1 : Nat) : Int)) rfl rfl rfl (iadd64 (by omega) (by omega) (by omega)) ?_)
                  refine L_op rfl (X_assign (v := (.int .i64 (((i + 1 : Nat) : Int)))) rfl ?_)
                  refine L_nil ?_
                  refine T_n ?_
                  exact ⟨rfl, i + 1, ⟨⟨hi, hl, hr, hA, hB, hRow, hKB, hU, by omega⟩, (by show gs.length - (i + 1) < gs.length - i; omega)⟩, (Out.in_ rfl rfl (Out.mk rfl)), ⟨rfl, trivial⟩⟩
        · refine L_op rfl (X_cmp (k := .i64) (a := ((i : Nat) : Int)) (b := ((gs.length : Nat) : Int)) (r := false) rfl rfl rfl (decide_eq_false (p := ((((i : Nat) : Int)) : Int) < ((((gs.length : Nat) : Int)) : Int)) (by omega)) ?_)
          refine L_nil ?_
          refine T_n ?_
          refine W_cf rfl ?_
          refine W_exit ?_
          refine T_e ?_
          refine T_e ?_
          refine B_x ?_
          refine T_n ?_
          refine W_seq ?_
          refine W_reg ?_
          refine L_op rfl (X_move (v := l) rfl ?_)
          refine L_op rfl (X_move (v := va) rfl ?_)
          refine L_op rfl (X_fn (vs := [l, va]) en11 rfl (CT.mono (c_same _ _ es fs _ _ _ _ _ hl hA) ?_))
          rintro _ w79 ⟨⟨g79, rfl, hg79⟩, hu79⟩
          have hz79 := hu79.size
          replace hl := hl.ext hu79
          replace hr := hr.ext hu79
          replace hA := hA.ext hu79
          replace hB := hB.ext hu79
          replace hRow := hRow.ext hu79
          replace hKB := fun (j : Nat) (e : KE) hj he => (hKB j e hj he).ext hu79
          replace hU := hU.trans (Ext.upd hu79)
          obtain rfl : g79 = true := hg79.2 hfs.symm
          refine L_op rfl (X_move (v := (.bool (true))) rfl ?_)
          refine L_gy (dj := 154) rfl rfl rfl (X_move (v := r) rfl ?_)
          refine L_gy (dj := 154) rfl rfl rfl (X_move (v := vb) rfl ?_)
          refine L_gy (dj := 154) rfl rfl rfl (X_fn (vs := [r, vb]) en11 rfl (CT.mono (c_same _ _ ms os _ _ _ _ _ hr hB) ?_))
          rintro _ w80 ⟨⟨g80, rfl, hg80⟩, hu80⟩
          have hz80 := hu80.size
          replace hl := hl.ext hu80
          replace hr := hr.ext hu80
          replace hA := hA.ext hu80
          replace hB := hB.ext hu80
          replace hRow := hRow.ext hu80
          replace hKB := fun (j : Nat) (e : KE) hj he => (hKB j e hj he).ext hu80
          replace hU := hU.trans (Ext.upd hu80)
          obtain rfl : g80 = true := hg80.2 hos.symm
          refine L_op rfl (X_pick (t := true) (v := (.bool (true))) rfl rfl ?_)
          refine L_op rfl (X_move (v := (.bool (true))) rfl ?_)
          refine L_gy (dj := 159) rfl rfl rfl (X_fn (vs := []) en9 rfl (CT.mono (c_wakes _) ?_))
          rintro vb81 w81 ⟨hvb81, hu81⟩
          have hz81 := hu81.size
          replace hl := hl.ext hu81
          replace hr := hr.ext hu81
          replace hA := hA.ext hu81
          replace hB := hB.ext hu81
          replace hRow := hRow.ext hu81
          replace hKB := fun (j : Nat) (e : KE) hj he => (hKB j e hj he).ext hu81
          replace hU := hU.trans (Ext.upd hu81)
          subst hvb81
          refine L_op rfl (X_pick (t := true) (v := (.bool (true))) rfl rfl ?_)
          refine L_op rfl (X_assign (v := (.bool (true))) rfl ?_)
          refine L_nil ?_
          refine T_n ?_
          refine W_ret ?_
          exact BQ_r (End_1 Try.results5 (v := .bool true) rfl ⟨rfl, hU.own hn0⟩)
end Go.Proofs.Ytpjhadhniokgjaa
