/-
  The walks of LeafBack, LeafBytes. (Printed by wip/gen/t06m.py of this repo.)
-/
import Derived.Test.YtmddmghgkkjbiaaDoorWakes
import Derived.Test.YtmddmghgkkjbiaaDoorBaseS
namespace Go.Proofs.YtmddmghgkkjbiaaDoor
open Go Go.SL Go.Proofs
set_option linter.unusedVariables false

theorem tmod_lo {a : Int} {n : Nat} (h : 0 < n) : -(n : Int) < a.tmod n ∧ a.tmod n < n := by
  refine ⟨?_, Int.tmod_lt_of_pos a (by omega)⟩
  rcases Int.le_total 0 a with h1 | h1
  · have := Int.tmod_nonneg (n : Int) h1; omega
  · have h2 := Int.tmod_lt_of_pos (-a) (show (0 : Int) < n by omega)
    rw [Int.neg_tmod] at h2
    omega

theorem xor_ne {l : List UInt8} {K : Nat} {x y : UInt8} (hx : l[K]? = some x) (hy : y ≠ 0) : l.set K (x ^^^ y) ≠ l := by
  intro h
  have h1 := congrArg (·[K]?) h
  have hK := (List.getElem?_eq_some_iff.1 hx).1
  simp only [List.getElem?_set_self hK, hx, Option.some.injEq] at h1
  have h2 : x ^^^ (x ^^^ y) = x ^^^ x := by rw [h1]
  rw [← UInt8.xor_assoc, UInt8.xor_self, UInt8.zero_xor] at h2
  exact hy h2
theorem set_cells {l : List UInt8} {K : Nat} (z : UInt8) : (l.map byteV).toArray.setIfInBounds K (byteV z) = ((l.set K z).map byteV).toArray := by
  rw [List.setIfInBounds_toArray, List.map_set]

theorem c_leafBack (l : Value) (es : List IE) (p : List UInt8) (w : World) (lo up : Nat) (hup : up ≤ w.heap.size) (hl : NRd LT w lo up l es) (hpt : ∀ e ∈ es, ItOk e.2.2) (hp : p.length = 256) (hT : TabR w) : CT Tryd.prog 3 #[l, (.agg ((p).map byteV).toArray)] w fun v w' => v = .bool true ∧ Ext w w' := by
  obtain ⟨n0, hn0⟩ : ∃ n, n = w.heap.size := ⟨_, rfl⟩
  have hU : Upd (fun i => n0 ≤ i) w w := Upd.refl _ _
  have hn1 := tab_pos hT
  have hmx := hl.sv.len
  rw [← hn0] at hup
  have hpk : ∀ d ∈ dsI es, ItOk d := fun d hd => by obtain ⟨e, he, rfl⟩ := List.mem_map.1 hd; exact hpt e he
  refine CT_of Tryd.func3 rfl rfl rfl ?_
  refine W_seq ?_
  refine W_reg ?_
  refine L_op rfl (X_box (v := (.agg ((p).map byteV).toArray)) (c := ((p).map byteV).toArray) rfl rfl ?_)
  intro b1 w1 hn1
  have hbn1 := hn1.num; have hbs1 := hn1.size
  replace hU := hU.trans (Ext.upd hn1.ext)
  replace hT := hT.ext hn1.ext
  replace hl := hl.ext hn1.ext
  have hB1 := hn1.blk
  refine L_op rfl (X_assign (v := (.bool (false))) rfl ?_)
  refine L_nil ?_
  refine T_n ?_
  refine W_seq ?_
  refine W_seq ?_
  refine W_reg ?_
  refine L_op rfl (X_move (v := l) rfl ?_)
  refine L_op rfl (X_fn (vs := [l]) en8 rfl (CT.mono (c_great l es _ lo up hl) ?_))
  rintro _ _ ⟨⟨gg, rfl, hgg⟩, rfl⟩
  rcases Bool.eq_false_or_eq_true (gg) with hc2 | hc2
  · rw [hc2]
    refine L_nil ?_
    refine T_n ?_
    refine W_ct rfl ?_
    refine W_seq ?_
    refine W_reg ?_
    refine L_op rfl (X_fn (vs := []) en9 rfl (CT.mono (c_wakes _ hT) ?_))
    rintro vb3 w3 ⟨hvb3, hu3⟩
    have hz3 := hu3.size
    replace hU := hU.trans (Ext.upd hu3)
    replace hT := hT.ext hu3
    replace hl := hl.ext hu3
    replace hB1 := hB1.ext hu3
    subst hvb3
    refine L_op rfl (X_assign (v := (.bool (true))) rfl ?_)
    refine L_nil ?_
    refine T_n ?_
    refine W_ret ?_
    refine T_r ?_
    exact BQ_r (End_1 Tryd.results3 (v := .bool true) rfl ⟨rfl, hU.own hn0⟩)
  · rw [hc2]
    refine L_nil ?_
    refine T_n ?_
    refine W_cf rfl ?_
    refine W_skip ?_
    refine T_n ?_
    refine W_seq ?_
    refine W_reg ?_
    refine L_op rfl (X_move (v := l) rfl ?_)
    rcases Bool.eq_false_or_eq_true (decide (RightI (dsI es))) with hc4 | hc4
    · have hR_ := of_decide_eq_true hc4
      refine L_op rfl (X_fn (vs := [l]) en10 rfl (CT.mono (c_encodeI l es _ lo up (by omega) hl hpt hT) ?_))
      rintro _ w5 ⟨rfl, hu5⟩
      have hz5 := hu5.size
      replace hU := hU.trans (Ext.upd hu5)
      replace hT := hT.ext hu5
      replace hl := hl.ext hu5
      replace hB1 := hB1.ext hu5
      rw [encE_ok hR_]
      refine L_op rfl (X_move (v := (.tuple #[(.agg (((encP (dsI es))).map byteV).toArray), (.int .i64 (0))])) rfl ?_)
      refine L_op rfl (X_extract (l := [(.agg (((encP (dsI es))).map byteV).toArray), (.int .i64 (0))]) (v := (.agg (((encP (dsI es))).map byteV).toArray)) rfl rfl ?_)
      refine L_op rfl (X_extract (l := [(.agg (((encP (dsI es))).map byteV).toArray), (.int .i64 (0))]) (v := (.int .i64 (0))) rfl rfl ?_)
      refine L_op rfl (X_alloc (z := zv24) (c := zc24.toArray) Zv24 rfl ?_)
      intro b6 w6 hn6
      have hbn6 := hn6.num; have hbs6 := hn6.size
      replace hU := hU.trans (Ext.upd hn6.ext)
      replace hT := hT.ext hn6.ext
      replace hl := hl.ext hn6.ext
      replace hB1 := hB1.ext hn6.ext
      have hB6 := hn6.blk
      rw [zc24_eq] at hB6
      refine L_op0 (X_storeW (b := b6) (ys := (((encP (dsI es))).map byteV)) A24 rfl rfl (byteV_one _) (by rw [List.length_map]; exact (encP_len _)) hB6 (by rw [List.size_toArray]; exact (by rw [List.length_map]; exact List.length_replicate)) ?_)
      intro w7 hu7 hb7
      have hz7 := hu7.size
      replace hU := hU.trans (hu7.mono fun i _ h => by have h : i = b6 := h; show n0 ≤ i; omega)
      replace hT := hT.upd hu7 fun i h1 h2 h => by have h : i = b6 := h; omega
      replace hl := hl.upd hu7 fun i h1 h2 h => by have h : i = b6 := h; omega
      replace hB1 := hB1.upd hu7 fun h => by have h : b1 = b6 := h; omega
      replace hB6 := hb7
      refine L_op rfl (X_assign (v := (.int .i64 (0))) rfl ?_)
      refine L_nil ?_
      refine T_n ?_
      refine W_seq ?_
      refine W_seq ?_
      refine W_reg ?_
      refine L_op rfl (X_move (v := (.int .i64 (0))) rfl ?_)
      refine L_op rfl (X_cmp (k := .i64) (a := 0) (b := 0) (r := true) rfl rfl rfl rfl ?_)
      refine L_op rfl (X_move (v := l) rfl ?_)
      refine L_op rfl (X_fn (vs := [l]) en11 rfl (CT.mono (c_rightIR l es _ lo up (by omega) hl hpt) ?_))
      rintro _ w8 ⟨rfl, hu8⟩
      have hz8 := hu8.size
      replace hU := hU.trans (Ext.upd hu8)
      replace hT := hT.ext hu8
      replace hl := hl.ext hu8
      replace hB1 := hB1.ext hu8
      replace hB6 := hB6.ext hu8
      rw [show (decide (RightI (dsI es))) = true from hc4]
      refine L_op rfl (X_cmpBool (a := true) (b := true) (r := false) Tryd.underlying4 rfl rfl (.inr ⟨rfl, rfl⟩) ?_)
      refine L_op rfl (X_move (v := (.bool (false))) rfl ?_)
      refine L_gy (dj := 26) rfl rfl rfl (X_move (v := (.int .i64 (0))) rfl ?_)
      refine L_gy (dj := 26) rfl rfl rfl (X_cmp (k := .i64) (a := 0) (b := 0) (r := false) rfl rfl rfl rfl ?_)
      refine L_gy (dj := 26) rfl rfl rfl (X_move (v := (.bool (false))) rfl ?_)
      refine L_gn (dj := 29) (t := false) rfl rfl rfl rfl ?_
      refine L_gn (dj := 29) (t := false) rfl rfl rfl rfl ?_
      refine L_gn (dj := 29) (t := false) rfl rfl rfl rfl ?_
      refine L_gu (dj := 32) rfl rfl rfl ?_
      refine L_gu (dj := 32) rfl rfl rfl ?_
      refine L_gu (dj := 32) rfl rfl rfl ?_
      refine L_gn (dj := 29) (t := false) rfl rfl rfl rfl ?_
      refine L_gy (dj := 26) rfl rfl rfl (X_pick (t := false) (v := (.bool (false))) rfl rfl ?_)
      refine L_op rfl (X_pick (t := false) (v := (.bool (false))) rfl rfl ?_)
      refine L_nil ?_
      refine T_n ?_
      refine W_cf rfl ?_
      refine W_skip ?_
      refine T_n ?_
      refine W_seq ?_
      refine W_seq ?_
      refine W_reg ?_
      refine L_op rfl (X_move (v := (.int .i64 (0))) rfl ?_)
      refine L_op rfl (X_cmp (k := .i64) (a := 0) (b := 0) (r := true) rfl rfl rfl rfl ?_)
      refine L_nil ?_
      refine T_n ?_
      refine W_ct rfl ?_
      refine W_seq ?_
      refine W_reg ?_
      refine L_op rfl (X_loadA (p := (ptr b6 (0))) (xs := (((encP (dsI es))).map byteV)) A24 rfl hB6.atAll (by rw [List.length_map]; exact (encP_len _)) ?_)
      obtain ⟨sd, hsd⟩ : ∃ n, n = w8.heap.size := ⟨_, rfl⟩
      refine L_op rfl (X_fn (vs := [(.agg ((((encP (dsI es))).map byteV)).toArray)]) en12 rfl (CT.mono (c_decodeI (encP (dsI es)) _ (encP_len _) hT) ?_))
      rintro _ w9 ⟨vd, rfl, esd, hNd, hksd, hu9⟩
      have hz9 := hu9.size
      obtain ⟨ud, hupd⟩ : ∃ n, n = w9.heap.size := ⟨_, rfl⟩
      rw [← hsd, ← hupd] at hNd
      replace hU := hU.trans (Ext.upd hu9)
      replace hT := hT.ext hu9
      replace hl := hl.ext hu9
      replace hB1 := hB1.ext hu9
      replace hB6 := hB6.ext hu9
      rw [(dec_encP hR_ hpk).1]
      rw [(dec_encP hR_ hpk).2] at hksd
      refine L_op rfl (X_move (v := (.tuple #[vd, (.int .i64 (0))])) rfl ?_)
      refine L_op rfl (X_extract (l := [vd, (.int .i64 (0))]) (v := vd) rfl rfl ?_)
      refine L_op rfl (X_extract (l := [vd, (.int .i64 (0))]) (v := (.int .i64 (0))) rfl rfl ?_)
      refine L_op rfl (X_assign (v := vd) rfl ?_)
      refine L_op rfl (X_assign (v := (.int .i64 (0))) rfl ?_)
      refine L_nil ?_
      refine T_n ?_
      refine W_seq ?_
      refine W_reg ?_
      refine L_op rfl (X_move (v := (.int .i64 (0))) rfl ?_)
      refine L_op rfl (X_cmp (k := .i64) (a := 0) (b := 0) (r := false) rfl rfl rfl rfl ?_)
      refine L_op rfl (X_move (v := (.bool (false))) rfl ?_)
      refine L_gy (dj := 48) rfl rfl rfl (X_move (v := vd) rfl ?_)
      refine L_gy (dj := 48) rfl rfl rfl (X_move (v := l) rfl ?_)
      refine L_gy (dj := 48) rfl rfl rfl (X_fn (vs := [vd, l]) en13 rfl (CT.mono (c_sameR vd l esd es _ sd ud lo up hNd.rd hl) ?_))
      rintro _ w10 ⟨⟨g10, rfl, hg10⟩, hu10⟩
      have hz10 := hu10.size
      replace hU := hU.trans (Ext.upd hu10)
      replace hT := hT.ext hu10
      replace hl := hl.ext hu10
      replace hB1 := hB1.ext hu10
      replace hB6 := hB6.ext hu10
      replace hNd := hNd.ext hu10
      obtain rfl : g10 = true := hg10.2 (hksd)
      refine L_gy (dj := 48) rfl rfl rfl (X_not (b := true) (r := false) rfl rfl ?_)
      refine L_op rfl (X_pick (t := false) (v := (.bool (false))) rfl rfl ?_)
      refine L_nil ?_
      refine T_n ?_
      refine W_cf rfl ?_
      refine W_skip ?_
      refine T_n ?_
      refine W_seq ?_
      refine W_reg ?_
      refine L_op rfl (X_loadA (p := (ptr b1 (0))) (xs := ((p).map byteV)) A24 rfl hB1.atAll (by rw [List.length_map]; exact hp) ?_)
      obtain ⟨sp, hsp⟩ : ∃ n, n = w10.heap.size := ⟨_, rfl⟩
      refine L_op rfl (X_fn (vs := [(.agg (((p).map byteV)).toArray)]) en12 rfl (CT.mono (c_decodeI p _ hp hT) ?_))
      rintro _ w11 ⟨vp, rfl, esp, hNp, hksp, hu11⟩
      have hz11 := hu11.size
      obtain ⟨up, hupp⟩ : ∃ n, n = w11.heap.size := ⟨_, rfl⟩
      rw [← hsp, ← hupp] at hNp
      replace hU := hU.trans (Ext.upd hu11)
      replace hT := hT.ext hu11
      replace hl := hl.ext hu11
      replace hB1 := hB1.ext hu11
      replace hB6 := hB6.ext hu11
      replace hNd := hNd.ext hu11
      refine L_op rfl (X_move (v := (.tuple #[vp, (.int .i64 ((decE p)))])) rfl ?_)
      refine L_op rfl (X_extract (l := [vp, (.int .i64 ((decE p)))]) (v := vp) rfl rfl ?_)
      refine L_op rfl (X_extract (l := [vp, (.int .i64 ((decE p)))]) (v := (.int .i64 ((decE p)))) rfl rfl ?_)
      refine L_op rfl (X_assign (v := vp) rfl ?_)
      refine L_op rfl (X_assign (v := (.int .i64 ((decE p)))) rfl ?_)
      refine L_nil ?_
      refine T_n ?_
      refine W_seq ?_
      refine W_seq ?_
      refine W_reg ?_
      refine L_op rfl (X_move (v := (.int .i64 ((decE p)))) rfl ?_)
      by_cases hc12 : ((decE p) : Int) ≠ (0)
      · refine L_op rfl (X_cmp (k := .i64) (a := (decE p)) (b := 0) (r := true) rfl rfl rfl (decide_eq_true (p := (((decE p)) : Int) ≠ ((0) : Int)) (by omega)) ?_)
        obtain ⟨he50, hL0⟩ := decL_no (p := p) (by omega)
        have hl0 : esp.length = 0 := by have h := congrArg List.length hksp; rw [hL0, dsI_len] at h; exact h
        refine L_nil ?_
        refine T_n ?_
        refine W_ct rfl ?_
        refine W_seq ?_
        refine W_reg ?_
        refine L_op rfl (X_move (v := (.int .i64 ((decE p)))) rfl ?_)
        refine L_op rfl (X_cmp (k := .i64) (a := (decE p)) (b := 50) (r := true) rfl rfl rfl (decide_eq_true (p := (((decE p)) : Int) = ((50) : Int)) (by omega)) ?_)
        refine L_op rfl (X_move (v := (.bool (true))) rfl ?_)
        refine L_gy (dj := 63) rfl rfl rfl (X_move (v := vp) rfl ?_)
        refine L_gy (dj := 63) rfl rfl rfl (X_len (v := vp) (n := esp.length) Tryd.underlying22 rfl hNp.1.sv ?_)
        refine L_gy (dj := 63) rfl rfl rfl (X_cmp (k := .i64) (a := ((esp.length : Nat) : Int)) (b := 0) (r := true) rfl rfl rfl (decide_eq_true (p := ((((esp.length : Nat) : Int)) : Int) = ((0) : Int)) (by omega)) ?_)
        refine L_op rfl (X_pick (t := true) (v := (.bool (true))) rfl rfl ?_)
        refine L_op rfl (X_move (v := (.bool (true))) rfl ?_)
        refine L_gy (dj := 68) rfl rfl rfl (X_fn (vs := []) en9 rfl (CT.mono (c_wakes _ hT) ?_))
        rintro vb13 w13 ⟨hvb13, hu13⟩
        have hz13 := hu13.size
        replace hU := hU.trans (Ext.upd hu13)
        replace hT := hT.ext hu13
        replace hl := hl.ext hu13
        replace hB1 := hB1.ext hu13
        replace hB6 := hB6.ext hu13
        replace hNd := hNd.ext hu13
        replace hNp := hNp.ext hu13
        subst hvb13
        refine L_op rfl (X_pick (t := true) (v := (.bool (true))) rfl rfl ?_)
        refine L_op rfl (X_assign (v := (.bool (true))) rfl ?_)
        refine L_nil ?_
        refine T_n ?_
        refine W_ret ?_
        refine T_r ?_
        exact BQ_r (End_1 Tryd.results3 (v := .bool true) rfl ⟨rfl, hU.own hn0⟩)
      · refine L_op rfl (X_cmp (k := .i64) (a := (decE p)) (b := 0) (r := false) rfl rfl rfl (decide_eq_false (p := (((decE p)) : Int) ≠ ((0) : Int)) (by omega)) ?_)
        obtain ⟨hj1, hj2⟩ := dec_just (p := p) (by omega)
        have hptp := pts_of hksp (decL_pts p)
        refine L_nil ?_
        refine T_n ?_
        refine W_cf rfl ?_
        refine W_skip ?_
        refine T_n ?_
        refine W_seq ?_
        refine W_reg ?_
        refine L_op rfl (X_move (v := vp) rfl ?_)
        refine L_op rfl (X_fn (vs := [vp]) en10 rfl (CT.mono (c_encodeI vp esp _ sp up (by omega) hNp.rd hptp hT) ?_))
        rintro _ w14 ⟨rfl, hu14⟩
        have hz14 := hu14.size
        replace hU := hU.trans (Ext.upd hu14)
        replace hT := hT.ext hu14
        replace hl := hl.ext hu14
        replace hB1 := hB1.ext hu14
        replace hB6 := hB6.ext hu14
        replace hNd := hNd.ext hu14
        replace hNp := hNp.ext hu14
        rw [hksp, hj1, hj2]
        refine L_op rfl (X_move (v := (.tuple #[(.agg ((p).map byteV).toArray), (.int .i64 (0))])) rfl ?_)
        refine L_op rfl (X_extract (l := [(.agg ((p).map byteV).toArray), (.int .i64 (0))]) (v := (.agg ((p).map byteV).toArray)) rfl rfl ?_)
        refine L_op rfl (X_extract (l := [(.agg ((p).map byteV).toArray), (.int .i64 (0))]) (v := (.int .i64 (0))) rfl rfl ?_)
        refine L_op rfl (X_alloc (z := zv24) (c := zc24.toArray) Zv24 rfl ?_)
        intro b15 w15 hn15
        have hbn15 := hn15.num; have hbs15 := hn15.size
        replace hU := hU.trans (Ext.upd hn15.ext)
        replace hT := hT.ext hn15.ext
        replace hl := hl.ext hn15.ext
        replace hB1 := hB1.ext hn15.ext
        replace hB6 := hB6.ext hn15.ext
        replace hNd := hNd.ext hn15.ext
        replace hNp := hNp.ext hn15.ext
        have hB15 := hn15.blk
        rw [zc24_eq] at hB15
        refine L_op0 (X_storeW (b := b15) (ys := ((p).map byteV)) A24 rfl rfl (byteV_one _) (by rw [List.length_map]; exact hp) hB15 (by rw [List.size_toArray]; exact (by rw [List.length_map]; exact List.length_replicate)) ?_)
        intro w16 hu16 hb16
        have hz16 := hu16.size
        replace hU := hU.trans (hu16.mono fun i _ h => by have h : i = b15 := h; show n0 ≤ i; omega)
        replace hT := hT.upd hu16 fun i h1 h2 h => by have h : i = b15 := h; omega
        replace hl := hl.upd hu16 fun i h1 h2 h => by have h : i = b15 := h; omega
        replace hB1 := hB1.upd hu16 fun h => by have h : b1 = b15 := h; omega
        replace hB6 := hB6.upd hu16 fun h => by have h : b6 = b15 := h; omega
        replace hNd := hNd.upd hu16 fun i h1 h2 h => by have h : i = b15 := h; omega
        replace hNp := hNp.upd hu16 fun i h1 h2 h => by have h : i = b15 := h; omega
        replace hB15 := hb16
        refine L_op rfl (X_assign (v := (.int .i64 (0))) rfl ?_)
        refine L_nil ?_
        refine T_n ?_
        refine W_seq ?_
        refine W_reg ?_
        refine L_op rfl (X_move (v := (.int .i64 (0))) rfl ?_)
        refine L_op rfl (X_cmp (k := .i64) (a := 0) (b := 0) (r := true) rfl rfl rfl rfl ?_)
        refine L_op rfl (X_move (v := (.bool (true))) rfl ?_)
        refine L_gy (dj := 78) rfl rfl rfl (X_loadA (p := (ptr b15 (0))) (xs := ((p).map byteV)) A24 rfl hB15.atAll (by rw [List.length_map]; exact hp) ?_)
        refine L_gy (dj := 78) rfl rfl rfl (X_loadA (p := (ptr b1 (0))) (xs := ((p).map byteV)) A24 rfl hB1.atAll (by rw [List.length_map]; exact hp) ?_)
        refine L_gy (dj := 78) rfl rfl rfl (X_eqA (n := 256) (l := p) (m := p) (r := true) Tryd.underlying24 Tryd.underlying5 (by kernel_rfl) (by kernel_rfl) (by kernel_rfl) rfl rfl (hp) (hp) (.inl ⟨rfl, (beq_self_eq_true _)⟩) ?_)
        refine L_op rfl (X_pick (t := true) (v := (.bool (true))) rfl rfl ?_)
        refine L_op rfl (X_move (v := (.bool (true))) rfl ?_)
        refine L_gy (dj := 83) rfl rfl rfl (X_fn (vs := []) en9 rfl (CT.mono (c_wakes _ hT) ?_))
        rintro vb17 w17 ⟨hvb17, hu17⟩
        have hz17 := hu17.size
        replace hU := hU.trans (Ext.upd hu17)
        replace hT := hT.ext hu17
        replace hl := hl.ext hu17
        replace hB1 := hB1.ext hu17
        replace hB6 := hB6.ext hu17
        replace hNd := hNd.ext hu17
        replace hNp := hNp.ext hu17
        replace hB15 := hB15.ext hu17
        subst hvb17
        refine L_op rfl (X_pick (t := true) (v := (.bool (true))) rfl rfl ?_)
        refine L_op rfl (X_assign (v := (.bool (true))) rfl ?_)
        refine L_nil ?_
        refine T_n ?_
        refine W_ret ?_
        exact BQ_r (End_1 Tryd.results3 (v := .bool true) rfl ⟨rfl, hU.own hn0⟩)
    · have hR_ := of_decide_eq_false hc4
      refine L_op rfl (X_fn (vs := [l]) en10 rfl (CT.mono (c_encodeI l es _ lo up (by omega) hl hpt hT) ?_))
      rintro _ w18 ⟨rfl, hu18⟩
      have hz18 := hu18.size
      replace hU := hU.trans (Ext.upd hu18)
      replace hT := hT.ext hu18
      replace hl := hl.ext hu18
      replace hB1 := hB1.ext hu18
      rw [encP_no hR_, encE_no hR_]
      refine L_op rfl (X_move (v := (.tuple #[(.agg (((List.replicate 256 (0 : UInt8))).map byteV).toArray), (.int .i64 (2))])) rfl ?_)
      refine L_op rfl (X_extract (l := [(.agg (((List.replicate 256 (0 : UInt8))).map byteV).toArray), (.int .i64 (2))]) (v := (.agg (((List.replicate 256 (0 : UInt8))).map byteV).toArray)) rfl rfl ?_)
      refine L_op rfl (X_extract (l := [(.agg (((List.replicate 256 (0 : UInt8))).map byteV).toArray), (.int .i64 (2))]) (v := (.int .i64 (2))) rfl rfl ?_)
      refine L_op rfl (X_alloc (z := zv24) (c := zc24.toArray) Zv24 rfl ?_)
      intro b19 w19 hn19
      have hbn19 := hn19.num; have hbs19 := hn19.size
      replace hU := hU.trans (Ext.upd hn19.ext)
      replace hT := hT.ext hn19.ext
      replace hl := hl.ext hn19.ext
      replace hB1 := hB1.ext hn19.ext
      have hB19 := hn19.blk
      rw [zc24_eq] at hB19
      refine L_op0 (X_storeW (b := b19) (ys := (((List.replicate 256 (0 : UInt8))).map byteV)) A24 rfl rfl (byteV_one _) (by rw [List.length_map]; exact List.length_replicate) hB19 (by rw [List.size_toArray]; exact (by rw [List.length_map]; exact List.length_replicate)) ?_)
      intro w20 hu20 hb20
      have hz20 := hu20.size
      replace hU := hU.trans (hu20.mono fun i _ h => by have h : i = b19 := h; show n0 ≤ i; omega)
      replace hT := hT.upd hu20 fun i h1 h2 h => by have h : i = b19 := h; omega
      replace hl := hl.upd hu20 fun i h1 h2 h => by have h : i = b19 := h; omega
      replace hB1 := hB1.upd hu20 fun h => by have h : b1 = b19 := h; omega
      replace hB19 := hb20
      refine L_op rfl (X_assign (v := (.int .i64 (2))) rfl ?_)
      refine L_nil ?_
      refine T_n ?_
      refine W_seq ?_
      refine W_seq ?_
      refine W_reg ?_
      refine L_op rfl (X_move (v := (.int .i64 (2))) rfl ?_)
      refine L_op rfl (X_cmp (k := .i64) (a := 2) (b := 0) (r := false) rfl rfl rfl rfl ?_)
      refine L_op rfl (X_move (v := l) rfl ?_)
      refine L_op rfl (X_fn (vs := [l]) en11 rfl (CT.mono (c_rightIR l es _ lo up (by omega) hl hpt) ?_))
      rintro _ w21 ⟨rfl, hu21⟩
      have hz21 := hu21.size
      replace hU := hU.trans (Ext.upd hu21)
      replace hT := hT.ext hu21
      replace hl := hl.ext hu21
      replace hB1 := hB1.ext hu21
      replace hB19 := hB19.ext hu21
      rw [show (decide (RightI (dsI es))) = false from hc4]
      refine L_op rfl (X_cmpBool (a := false) (b := false) (r := false) Tryd.underlying4 rfl rfl (.inr ⟨rfl, rfl⟩) ?_)
      refine L_op rfl (X_move (v := (.bool (false))) rfl ?_)
      refine L_gy (dj := 26) rfl rfl rfl (X_move (v := (.int .i64 (2))) rfl ?_)
      refine L_gy (dj := 26) rfl rfl rfl (X_cmp (k := .i64) (a := 2) (b := 0) (r := true) rfl rfl rfl rfl ?_)
      refine L_gy (dj := 26) rfl rfl rfl (X_move (v := (.bool (true))) rfl ?_)
      refine L_gy (dj := 29) rfl rfl rfl (X_move (v := (.int .i64 (2))) rfl ?_)
      refine L_gy (dj := 29) rfl rfl rfl (X_cmp (k := .i64) (a := 2) (b := 2) (r := false) rfl rfl rfl rfl ?_)
      refine L_gy (dj := 29) rfl rfl rfl (X_move (v := (.bool (false))) rfl ?_)
      refine L_gy (dj := 32) rfl rfl rfl (X_loadA (p := (ptr b19 (0))) (xs := (((List.replicate 256 (0 : UInt8))).map byteV)) A24 rfl hB19.atAll (by rw [List.length_map]; exact List.length_replicate) ?_)
      refine L_gy (dj := 32) rfl rfl rfl (X_build built24z ?_)
      refine L_gy (dj := 32) rfl rfl rfl (X_eqA (n := 256) (l := (List.replicate 256 (0 : UInt8))) (m := (List.replicate 256 (0 : UInt8))) (r := false) Tryd.underlying24 Tryd.underlying5 (by kernel_rfl) (by kernel_rfl) (by kernel_rfl) rfl rfl (List.length_replicate) (List.length_replicate) (.inr ⟨rfl, by rw [(beq_self_eq_true _)]; rfl⟩) ?_)
      refine L_gy (dj := 29) rfl rfl rfl (X_pick (t := false) (v := (.bool (false))) rfl rfl ?_)
      refine L_gy (dj := 26) rfl rfl rfl (X_pick (t := true) (v := (.bool (false))) rfl rfl ?_)
      refine L_op rfl (X_pick (t := false) (v := (.bool (false))) rfl rfl ?_)
      refine L_nil ?_
      refine T_n ?_
      refine W_cf rfl ?_
      refine W_skip ?_
      refine T_n ?_
      refine W_seq ?_
      refine W_seq ?_
      refine W_reg ?_
      refine L_op rfl (X_move (v := (.int .i64 (2))) rfl ?_)
      refine L_op rfl (X_cmp (k := .i64) (a := 2) (b := 0) (r := false) rfl rfl rfl rfl ?_)
      refine L_nil ?_
      refine T_n ?_
      refine W_cf rfl ?_
      refine W_skip ?_
      refine T_n ?_
      refine W_seq ?_
      refine W_reg ?_
      refine L_op rfl (X_loadA (p := (ptr b1 (0))) (xs := ((p).map byteV)) A24 rfl hB1.atAll (by rw [List.length_map]; exact hp) ?_)
      obtain ⟨sp, hsp⟩ : ∃ n, n = w21.heap.size := ⟨_, rfl⟩
      refine L_op rfl (X_fn (vs := [(.agg (((p).map byteV)).toArray)]) en12 rfl (CT.mono (c_decodeI p _ hp hT) ?_))
      rintro _ w22 ⟨vp, rfl, esp, hNp, hksp, hu22⟩
      have hz22 := hu22.size
      obtain ⟨up, hupp⟩ : ∃ n, n = w22.heap.size := ⟨_, rfl⟩
      rw [← hsp, ← hupp] at hNp
      replace hU := hU.trans (Ext.upd hu22)
      replace hT := hT.ext hu22
      replace hl := hl.ext hu22
      replace hB1 := hB1.ext hu22
      replace hB19 := hB19.ext hu22
      refine L_op rfl (X_move (v := (.tuple #[vp, (.int .i64 ((decE p)))])) rfl ?_)
      refine L_op rfl (X_extract (l := [vp, (.int .i64 ((decE p)))]) (v := vp) rfl rfl ?_)
      refine L_op rfl (X_extract (l := [vp, (.int .i64 ((decE p)))]) (v := (.int .i64 ((decE p)))) rfl rfl ?_)
      refine L_op rfl (X_assign (v := vp) rfl ?_)
      refine L_op rfl (X_assign (v := (.int .i64 ((decE p)))) rfl ?_)
      refine L_nil ?_
      refine T_n ?_
      refine W_seq ?_
      refine W_seq ?_
      refine W_reg ?_
      refine L_op rfl (X_move (v := (.int .i64 ((decE p)))) rfl ?_)
      by_cases hc23 : ((decE p) : Int) ≠ (0)
      · refine L_op rfl (X_cmp (k := .i64) (a := (decE p)) (b := 0) (r := true) rfl rfl rfl (decide_eq_true (p := (((decE p)) : Int) ≠ ((0) : Int)) (by omega)) ?_)
        obtain ⟨he50, hL0⟩ := decL_no (p := p) (by omega)
        have hl0 : esp.length = 0 := by have h := congrArg List.length hksp; rw [hL0, dsI_len] at h; exact h
        refine L_nil ?_
        refine T_n ?_
        refine W_ct rfl ?_
        refine W_seq ?_
        refine W_reg ?_
        refine L_op rfl (X_move (v := (.int .i64 ((decE p)))) rfl ?_)
        refine L_op rfl (X_cmp (k := .i64) (a := (decE p)) (b := 50) (r := true) rfl rfl rfl (decide_eq_true (p := (((decE p)) : Int) = ((50) : Int)) (by omega)) ?_)
        refine L_op rfl (X_move (v := (.bool (true))) rfl ?_)
        refine L_gy (dj := 63) rfl rfl rfl (X_move (v := vp) rfl ?_)
        refine L_gy (dj := 63) rfl rfl rfl (X_len (v := vp) (n := esp.length) Tryd.underlying22 rfl hNp.1.sv ?_)
        refine L_gy (dj := 63) rfl rfl rfl (X_cmp (k := .i64) (a := ((esp.length : Nat) : Int)) (b := 0) (r := true) rfl rfl rfl (decide_eq_true (p := ((((esp.length : Nat) : Int)) : Int) = ((0) : Int)) (by omega)) ?_)
        refine L_op rfl (X_pick (t := true) (v := (.bool (true))) rfl rfl ?_)
        refine L_op rfl (X_move (v := (.bool (true))) rfl ?_)
        refine L_gy (dj := 68) rfl rfl rfl (X_fn (vs := []) en9 rfl (CT.mono (c_wakes _ hT) ?_))
        rintro vb24 w24 ⟨hvb24, hu24⟩
        have hz24 := hu24.size
        replace hU := hU.trans (Ext.upd hu24)
        replace hT := hT.ext hu24
        replace hl := hl.ext hu24
        replace hB1 := hB1.ext hu24
        replace hB19 := hB19.ext hu24
        replace hNp := hNp.ext hu24
        subst hvb24
        refine L_op rfl (X_pick (t := true) (v := (.bool (true))) rfl rfl ?_)
        refine L_op rfl (X_assign (v := (.bool (true))) rfl ?_)
        refine L_nil ?_
        refine T_n ?_
        refine W_ret ?_
        refine T_r ?_
        exact BQ_r (End_1 Tryd.results3 (v := .bool true) rfl ⟨rfl, hU.own hn0⟩)
      · refine L_op rfl (X_cmp (k := .i64) (a := (decE p)) (b := 0) (r := false) rfl rfl rfl (decide_eq_false (p := (((decE p)) : Int) ≠ ((0) : Int)) (by omega)) ?_)
        obtain ⟨hj1, hj2⟩ := dec_just (p := p) (by omega)
        have hptp := pts_of hksp (decL_pts p)
        refine L_nil ?_
        refine T_n ?_
        refine W_cf rfl ?_
        refine W_skip ?_
        refine T_n ?_
        refine W_seq ?_
        refine W_reg ?_
        refine L_op rfl (X_move (v := vp) rfl ?_)
        refine L_op rfl (X_fn (vs := [vp]) en10 rfl (CT.mono (c_encodeI vp esp _ sp up (by omega) hNp.rd hptp hT) ?_))
        rintro _ w25 ⟨rfl, hu25⟩
        have hz25 := hu25.size
        replace hU := hU.trans (Ext.upd hu25)
        replace hT := hT.ext hu25
        replace hl := hl.ext hu25
        replace hB1 := hB1.ext hu25
        replace hB19 := hB19.ext hu25
        replace hNp := hNp.ext hu25
        rw [hksp, hj1, hj2]
        refine L_op rfl (X_move (v := (.tuple #[(.agg ((p).map byteV).toArray), (.int .i64 (0))])) rfl ?_)
        refine L_op rfl (X_extract (l := [(.agg ((p).map byteV).toArray), (.int .i64 (0))]) (v := (.agg ((p).map byteV).toArray)) rfl rfl ?_)
        refine L_op rfl (X_extract (l := [(.agg ((p).map byteV).toArray), (.int .i64 (0))]) (v := (.int .i64 (0))) rfl rfl ?_)
        refine L_op rfl (X_alloc (z := zv24) (c := zc24.toArray) Zv24 rfl ?_)
        intro b26 w26 hn26
        have hbn26 := hn26.num; have hbs26 := hn26.size
        replace hU := hU.trans (Ext.upd hn26.ext)
        replace hT := hT.ext hn26.ext
        replace hl := hl.ext hn26.ext
        replace hB1 := hB1.ext hn26.ext
        replace hB19 := hB19.ext hn26.ext
        replace hNp := hNp.ext hn26.ext
        have hB26 := hn26.blk
        rw [zc24_eq] at hB26
        refine L_op0 (X_storeW (b := b26) (ys := ((p).map byteV)) A24 rfl rfl (byteV_one _) (by rw [List.length_map]; exact hp) hB26 (by rw [List.size_toArray]; exact (by rw [List.length_map]; exact List.length_replicate)) ?_)
        intro w27 hu27 hb27
        have hz27 := hu27.size
        replace hU := hU.trans (hu27.mono fun i _ h => by have h : i = b26 := h; show n0 ≤ i; omega)
        replace hT := hT.upd hu27 fun i h1 h2 h => by have h : i = b26 := h; omega
        replace hl := hl.upd hu27 fun i h1 h2 h => by have h : i = b26 := h; omega
        replace hB1 := hB1.upd hu27 fun h => by have h : b1 = b26 := h; omega
        replace hB19 := hB19.upd hu27 fun h => by have h : b19 = b26 := h; omega
        replace hNp := hNp.upd hu27 fun i h1 h2 h => by have h : i = b26 := h; omega
        replace hB26 := hb27
        refine L_op rfl (X_assign (v := (.int .i64 (0))) rfl ?_)
        refine L_nil ?_
        refine T_n ?_
        refine W_seq ?_
        refine W_reg ?_
        refine L_op rfl (X_move (v := (.int .i64 (0))) rfl ?_)
        refine L_op rfl (X_cmp (k := .i64) (a := 0) (b := 0) (r := true) rfl rfl rfl rfl ?_)
        refine L_op rfl (X_move (v := (.bool (true))) rfl ?_)
        refine L_gy (dj := 78) rfl rfl rfl (X_loadA (p := (ptr b26 (0))) (xs := ((p).map byteV)) A24 rfl hB26.atAll (by rw [List.length_map]; exact hp) ?_)
        refine L_gy (dj := 78) rfl rfl rfl (X_loadA (p := (ptr b1 (0))) (xs := ((p).map byteV)) A24 rfl hB1.atAll (by rw [List.length_map]; exact hp) ?_)
        refine L_gy (dj := 78) rfl rfl rfl (X_eqA (n := 256) (l := p) (m := p) (r := true) Tryd.underlying24 Tryd.underlying5 (by kernel_rfl) (by kernel_rfl) (by kernel_rfl) rfl rfl (hp) (hp) (.inl ⟨rfl, (beq_self_eq_true _)⟩) ?_)
        refine L_op rfl (X_pick (t := true) (v := (.bool (true))) rfl rfl ?_)
        refine L_op rfl (X_move (v := (.bool (true))) rfl ?_)
        refine L_gy (dj := 83) rfl rfl rfl (X_fn (vs := []) en9 rfl (CT.mono (c_wakes _ hT) ?_))
        rintro vb28 w28 ⟨hvb28, hu28⟩
        have hz28 := hu28.size
        replace hU := hU.trans (Ext.upd hu28)
        replace hT := hT.ext hu28
        replace hl := hl.ext hu28
        replace hB1 := hB1.ext hu28
        replace hB19 := hB19.ext hu28
        replace hNp := hNp.ext hu28
        replace hB26 := hB26.ext hu28
        subst hvb28
        refine L_op rfl (X_pick (t := true) (v := (.bool (true))) rfl rfl ?_)
        refine L_op rfl (X_assign (v := (.bool (true))) rfl ?_)
        refine L_nil ?_
        refine T_n ?_
        refine W_ret ?_
        exact BQ_r (End_1 Tryd.results3 (v := .bool true) rfl ⟨rfl, hU.own hn0⟩)

theorem c_leafBytes (l : Value) (es : List IE) (m : Int) (y : UInt8) (w : World) (lo up : Nat) (hup : up ≤ w.heap.size) (hl : NRd LT w lo up l es) (hpt : ∀ e ∈ es, ItOk e.2.2) (hT : TabR w) : CT Tryd.prog 4 #[l, (.int .i64 (m)), (byteV y)] w fun v w' => v = .bool true ∧ Ext w w' := by
  obtain ⟨n0, hn0⟩ : ∃ n, n = w.heap.size := ⟨_, rfl⟩
  have hU : Upd (fun i => n0 ≤ i) w w := Upd.refl _ _
  have hn1 := tab_pos hT
  have hmx := hl.sv.len
  rw [← hn0] at hup
  have hpk : ∀ d ∈ dsI es, ItOk d := fun d hd => by obtain ⟨e, he, rfl⟩ := List.mem_map.1 hd; exact hpt e he
  refine CT_of Tryd.func4 rfl rfl rfl ?_
  refine W_seq ?_
  refine W_reg ?_
  refine L_op rfl (X_assign (v := (.bool (false))) rfl ?_)
  refine L_nil ?_
  refine T_n ?_
  refine W_seq ?_
  refine W_seq ?_
  refine W_reg ?_
  refine L_op rfl (X_move (v := l) rfl ?_)
  refine L_op rfl (X_fn (vs := [l]) en8 rfl (CT.mono (c_great l es _ lo up hl) ?_))
  rintro _ _ ⟨⟨gg, rfl, hgg⟩, rfl⟩
  rcases Bool.eq_false_or_eq_true (gg) with hc1 | hc1
  · rw [hc1]
    refine L_op rfl (X_move (v := (.bool (true))) rfl ?_)
    refine L_gn (dj := 13) (t := true) rfl rfl rfl rfl ?_
    refine L_gn (dj := 13) (t := true) rfl rfl rfl rfl ?_
    refine L_gn (dj := 13) (t := true) rfl rfl rfl rfl ?_
    refine L_op rfl (X_pick (t := true) (v := (.bool (true))) rfl rfl ?_)
    refine L_op rfl (X_move (v := (.bool (true))) rfl ?_)
    refine L_gn (dj := 18) (t := true) rfl rfl rfl rfl ?_
    refine L_gn (dj := 18) (t := true) rfl rfl rfl rfl ?_
    refine L_op rfl (X_pick (t := true) (v := (.bool (true))) rfl rfl ?_)
    refine L_nil ?_
    refine T_n ?_
    refine W_ct rfl ?_
    refine W_seq ?_
    refine W_reg ?_
    refine L_op rfl (X_fn (vs := []) en9 rfl (CT.mono (c_wakes _ hT) ?_))
    rintro vb2 w2 ⟨hvb2, hu2⟩
    have hz2 := hu2.size
    replace hU := hU.trans (Ext.upd hu2)
    replace hT := hT.ext hu2
    replace hl := hl.ext hu2
    subst hvb2
    refine L_op rfl (X_assign (v := (.bool (true))) rfl ?_)
    refine L_nil ?_
    refine T_n ?_
    refine W_ret ?_
    refine T_r ?_
    exact BQ_r (End_1 Tryd.results4 (v := .bool true) rfl ⟨rfl, hU.own hn0⟩)
  · rw [hc1]
    refine L_op rfl (X_move (v := (.bool (false))) rfl ?_)
    refine L_gy (dj := 13) rfl rfl rfl (X_move (v := l) rfl ?_)
    refine L_gy (dj := 13) rfl rfl rfl (X_fn (vs := [l]) en11 rfl (CT.mono (c_rightIR l es _ lo up (by omega) hl hpt) ?_))
    rintro _ w3 ⟨rfl, hu3⟩
    have hz3 := hu3.size
    replace hU := hU.trans (Ext.upd hu3)
    replace hT := hT.ext hu3
    replace hl := hl.ext hu3
    rcases Bool.eq_false_or_eq_true (decide (RightI (dsI es))) with hc4 | hc4
    · rw [hc4]
      refine L_gy (dj := 13) rfl rfl rfl (X_not (b := true) (r := false) rfl rfl ?_)
      refine L_op rfl (X_pick (t := false) (v := (.bool (false))) rfl rfl ?_)
      refine L_op rfl (X_move (v := (.bool (false))) rfl ?_)
      refine L_gy (dj := 18) rfl rfl rfl (X_move (v := (byteV y)) rfl ?_)
      by_cases hc5 : (((y.toNat : Nat) : Int) : Int) = (0)
      · refine L_gy (dj := 18) rfl rfl rfl (X_cmp (k := .u8) (a := ((y.toNat : Nat) : Int)) (b := 0) (r := true) rfl rfl rfl (decide_eq_true (p := ((((y.toNat : Nat) : Int)) : Int) = ((0) : Int)) (by omega)) ?_)
        refine L_op rfl (X_pick (t := false) (v := (.bool (true))) rfl rfl ?_)
        refine L_nil ?_
        refine T_n ?_
        refine W_ct rfl ?_
        refine W_seq ?_
        refine W_reg ?_
        refine L_op rfl (X_fn (vs := []) en9 rfl (CT.mono (c_wakes _ hT) ?_))
        rintro vb6 w6 ⟨hvb6, hu6⟩
        have hz6 := hu6.size
        replace hU := hU.trans (Ext.upd hu6)
        replace hT := hT.ext hu6
        replace hl := hl.ext hu6
        subst hvb6
        refine L_op rfl (X_assign (v := (.bool (true))) rfl ?_)
        refine L_nil ?_
        refine T_n ?_
        refine W_ret ?_
        refine T_r ?_
        exact BQ_r (End_1 Tryd.results4 (v := .bool true) rfl ⟨rfl, hU.own hn0⟩)
      · refine L_gy (dj := 18) rfl rfl rfl (X_cmp (k := .u8) (a := ((y.toNat : Nat) : Int)) (b := 0) (r := false) rfl rfl rfl (decide_eq_false (p := ((((y.toNat : Nat) : Int)) : Int) = ((0) : Int)) (by omega)) ?_)
        refine L_op rfl (X_pick (t := false) (v := (.bool (false))) rfl rfl ?_)
        refine L_nil ?_
        refine T_n ?_
        refine W_cf rfl ?_
        refine W_skip ?_
        refine T_n ?_
        refine W_seq ?_
        refine W_reg ?_
        refine L_op rfl (X_move (v := l) rfl ?_)
        have hR_ := of_decide_eq_true hc4
        refine L_op rfl (X_fn (vs := [l]) en10 rfl (CT.mono (c_encodeI l es _ lo up (by omega) hl hpt hT) ?_))
        rintro _ w7 ⟨rfl, hu7⟩
        have hz7 := hu7.size
        replace hU := hU.trans (Ext.upd hu7)
        replace hT := hT.ext hu7
        replace hl := hl.ext hu7
        rw [encE_ok hR_]
        refine L_op rfl (X_move (v := (.tuple #[(.agg (((encP (dsI es))).map byteV).toArray), (.int .i64 (0))])) rfl ?_)
        refine L_op rfl (X_extract (l := [(.agg (((encP (dsI es))).map byteV).toArray), (.int .i64 (0))]) (v := (.agg (((encP (dsI es))).map byteV).toArray)) rfl rfl ?_)
        refine L_op rfl (X_extract (l := [(.agg (((encP (dsI es))).map byteV).toArray), (.int .i64 (0))]) (v := (.int .i64 (0))) rfl rfl ?_)
        refine L_op rfl (X_alloc (z := zv24) (c := zc24.toArray) Zv24 rfl ?_)
        intro b8 w8 hn8
        have hbn8 := hn8.num; have hbs8 := hn8.size
        replace hU := hU.trans (Ext.upd hn8.ext)
        replace hT := hT.ext hn8.ext
        replace hl := hl.ext hn8.ext
        have hB8 := hn8.blk
        rw [zc24_eq] at hB8
        refine L_op0 (X_storeW (b := b8) (ys := (((encP (dsI es))).map byteV)) A24 rfl rfl (byteV_one _) (by rw [List.length_map]; exact (encP_len _)) hB8 (by rw [List.size_toArray]; exact (by rw [List.length_map]; exact List.length_replicate)) ?_)
        intro w9 hu9 hb9
        have hz9 := hu9.size
        replace hU := hU.trans (hu9.mono fun i _ h => by have h : i = b8 := h; show n0 ≤ i; omega)
        replace hT := hT.upd hu9 fun i h1 h2 h => by have h : i = b8 := h; omega
        replace hl := hl.upd hu9 fun i h1 h2 h => by have h : i = b8 := h; omega
        replace hB8 := hb9
        refine L_op rfl (X_assign (v := (.int .i64 (0))) rfl ?_)
        refine L_nil ?_
        refine T_n ?_
        refine W_seq ?_
        obtain ⟨q2, hq2⟩ : ∃ q, q = m.tmod 256 := ⟨_, rfl⟩
        have hql2 : -256 < q2 ∧ q2 < 256 := by rw [hq2]; exact tmod_lo (a := m) (n := 256) (by decide)
        obtain ⟨K, hK0⟩ : ∃ A : Nat, ((A : Nat) : Int) = (q2 + 256) % 256 := ⟨((q2 + 256) % 256).toNat, Int.toNat_of_nonneg (by omega)⟩
        have hKl : K < 256 := by omega
        obtain ⟨x0, hx0⟩ : ∃ x, (encP (dsI es))[K]? = some x := ⟨_, List.getElem?_eq_getElem (by rw [encP_len]; exact hKl)⟩
        have hy0 : y ≠ 0 := fun h => by have h0 : ((y.toNat : Nat) : Int) = 0 := by { rw [h]; rfl }; omega
        refine W_reg ?_
        refine L_op rfl (X_move (v := (.int .i64 (m))) rfl ?_)
        refine L_op rfl (X_arith (k := .i64) (a := m) (b := 256) (r := q2) rfl rfl rfl hq2.symm ?_)
        refine L_op rfl (X_arith (k := .i64) (a := q2) (b := 256) (r := q2 + 256) rfl rfl rfl (iadd64 rfl (by omega) (by omega)) ?_)
        refine L_op rfl (X_arith (k := .i64) (a := q2 + 256) (b := 256) (r := ((K : Nat) : Int)) rfl rfl rfl (irem64 (by omega) hK0) ?_)
        refine L_op rfl (X_assign (v := (.int .i64 (((K : Nat) : Int)))) rfl ?_)
        refine L_nil ?_
        refine T_n ?_
        refine W_seq ?_
        refine W_reg ?_
        refine L_op rfl (X_move (v := (.int .i64 (((K : Nat) : Int)))) rfl ?_)
        refine L_op rfl (X_move (v := (.int .i64 (((K : Nat) : Int)))) rfl ?_)
        refine L_op rfl (X_idxAP (len := 256) (sz := 1) (b := b8) (o := 0) (k := .i64) (i := ((K : Nat) : Int)) (r := (((K : Nat) : Int) : Int).toNat) Tryd.underlying24 Z5 rfl rfl (by omega) (by omega) (by omega) ?_)
        refine L_op rfl (X_load (p := (ptr b8 ((((K : Nat) : Int) : Int).toNat))) (v := .int .u8 ((x0.toNat : Nat) : Int)) T5 rfl (hB8.at1 (by rw [show ((K : Nat) : Int).toNat = K from rfl]; rw [List.getElem?_toArray, List.getElem?_map, hx0]; rfl)) ?_)
        refine L_op rfl (X_move (v := (byteV y)) rfl ?_)
        refine L_op rfl (X_arith (k := .u8) (a := ((x0.toNat : Nat) : Int)) (b := ((y.toNat : Nat) : Int)) (r := (((x0 ^^^ y).toNat : Nat) : Int)) rfl rfl rfl (u8_xor x0 y) ?_)
        refine L_op rfl (X_idxAP (len := 256) (sz := 1) (b := b8) (o := 0) (k := .i64) (i := ((K : Nat) : Int)) (r := (((K : Nat) : Int) : Int).toNat) Tryd.underlying24 Z5 rfl rfl (by omega) (by omega) (by omega) ?_)
        refine L_op0 (X_store (b := b8) (o := K) (v := byteV (x0 ^^^ y)) T5 rfl rfl rfl hB8 (by rw [List.size_toArray, List.length_map, encP_len]; exact hKl) ?_)
        intro w7 hu7 hb7
        have hz7 := hu7.size
        replace hU := hU.trans (hu7.mono fun i _ h => by have h : i = b8 := h; show n0 ≤ i; omega)
        replace hT := hT.upd hu7 fun i h1 h2 h => by have h : i = b8 := h; omega
        replace hl := hl.upd hu7 fun i h1 h2 h => by have h : i = b8 := h; omega
        rw [set_cells] at hb7
        obtain ⟨pn, hpn⟩ : ∃ p_, p_ = (encP (dsI es)).set K (x0 ^^^ y) := ⟨_, rfl⟩
        rw [← hpn] at hb7
        have hpnl : pn.length = 256 := by rw [hpn, List.length_set]; exact encP_len _
        have hpe : pn ≠ (encP (dsI es)) := by rw [hpn]; exact xor_ne hx0 hy0
        replace hB8 := hb7
        refine L_nil ?_
        refine T_n ?_
        refine W_seq ?_
        refine W_reg ?_
        refine L_op rfl (X_loadA (p := (ptr b8 (0))) (xs := ((pn).map byteV)) A24 rfl hB8.atAll (by rw [List.length_map]; exact hpnl) ?_)
        obtain ⟨sn, hsn⟩ : ∃ n, n = w7.heap.size := ⟨_, rfl⟩
        refine L_op rfl (X_fn (vs := [(.agg (((pn).map byteV)).toArray)]) en12 rfl (CT.mono (c_decodeI pn _ hpnl hT) ?_))
        rintro _ w10 ⟨vn, rfl, esn, hNn, hksn, hu10⟩
        have hz10 := hu10.size
        obtain ⟨un, hupn⟩ : ∃ n, n = w10.heap.size := ⟨_, rfl⟩
        rw [← hsn, ← hupn] at hNn
        replace hU := hU.trans (Ext.upd hu10)
        replace hT := hT.ext hu10
        replace hl := hl.ext hu10
        replace hB8 := hB8.ext hu10
        refine L_op rfl (X_move (v := (.tuple #[vn, (.int .i64 ((decE pn)))])) rfl ?_)
        refine L_op rfl (X_extract (l := [vn, (.int .i64 ((decE pn)))]) (v := vn) rfl rfl ?_)
        refine L_op rfl (X_extract (l := [vn, (.int .i64 ((decE pn)))]) (v := (.int .i64 ((decE pn)))) rfl rfl ?_)
        refine L_op rfl (X_assign (v := vn) rfl ?_)
        refine L_op rfl (X_assign (v := (.int .i64 ((decE pn)))) rfl ?_)
        refine L_nil ?_
        refine T_n ?_
        refine W_seq ?_
        refine W_reg ?_
        refine L_op rfl (X_move (v := (.int .i64 (0))) rfl ?_)
        refine L_op rfl (X_cmp (k := .i64) (a := 0) (b := 0) (r := true) rfl rfl rfl rfl ?_)
        refine L_op rfl (X_move (v := (.bool (true))) rfl ?_)
        refine L_gy (dj := 46) rfl rfl rfl (X_move (v := (.int .i64 ((decE pn)))) rfl ?_)
        by_cases hc11 : ((decE pn) : Int) = (0)
        · refine L_gy (dj := 46) rfl rfl rfl (X_cmp (k := .i64) (a := (decE pn)) (b := 0) (r := true) rfl rfl rfl (decide_eq_true (p := (((decE pn)) : Int) = ((0) : Int)) (by omega)) ?_)
          refine L_gy (dj := 46) rfl rfl rfl (X_move (v := (.bool (true))) rfl ?_)
          refine L_gn (dj := 49) (t := true) rfl rfl rfl rfl ?_
          refine L_gn (dj := 49) (t := true) rfl rfl rfl rfl ?_
          refine L_gy (dj := 46) rfl rfl rfl (X_pick (t := true) (v := (.bool (true))) rfl rfl ?_)
          refine L_op rfl (X_pick (t := true) (v := (.bool (true))) rfl rfl ?_)
          refine L_op rfl (X_move (v := (.bool (true))) rfl ?_)
          refine L_gy (dj := 54) rfl rfl rfl (X_move (v := (.int .i64 ((decE pn)))) rfl ?_)
          refine L_gy (dj := 54) rfl rfl rfl (X_cmp (k := .i64) (a := (decE pn)) (b := 0) (r := false) rfl rfl rfl (decide_eq_false (p := (((decE pn)) : Int) ≠ ((0) : Int)) (by omega)) ?_)
          refine L_gy (dj := 54) rfl rfl rfl (X_move (v := (.bool (false))) rfl ?_)
          refine L_gy (dj := 57) rfl rfl rfl (X_move (v := vn) rfl ?_)
          refine L_gy (dj := 57) rfl rfl rfl (X_move (v := l) rfl ?_)
          refine L_gy (dj := 57) rfl rfl rfl (X_fn (vs := [vn, l]) en13 rfl (CT.mono (c_sameR vn l esn es _ sn un lo up hNn.rd hl) ?_))
          rintro _ w12 ⟨⟨g12, rfl, hg12⟩, hu12⟩
          have hz12 := hu12.size
          replace hU := hU.trans (Ext.upd hu12)
          replace hT := hT.ext hu12
          replace hl := hl.ext hu12
          replace hB8 := hB8.ext hu12
          replace hNn := hNn.ext hu12
          obtain rfl : g12 = false := Bool.eq_false_iff.2 fun h => (fun h => hpe (by rw [← h, hksn]; exact (dec_just (p := pn) (by omega)).2.symm)) (hg12.1 h)
          refine L_gy (dj := 57) rfl rfl rfl (X_not (b := false) (r := true) rfl rfl ?_)
          refine L_gy (dj := 54) rfl rfl rfl (X_pick (t := false) (v := (.bool (true))) rfl rfl ?_)
          refine L_op rfl (X_pick (t := true) (v := (.bool (true))) rfl rfl ?_)
          refine L_op rfl (X_move (v := (.bool (true))) rfl ?_)
          refine L_gy (dj := 64) rfl rfl rfl (X_fn (vs := []) en9 rfl (CT.mono (c_wakes _ hT) ?_))
          rintro vb13 w13 ⟨hvb13, hu13⟩
          have hz13 := hu13.size
          replace hU := hU.trans (Ext.upd hu13)
          replace hT := hT.ext hu13
          replace hl := hl.ext hu13
          replace hB8 := hB8.ext hu13
          replace hNn := hNn.ext hu13
          subst hvb13
          refine L_op rfl (X_pick (t := true) (v := (.bool (true))) rfl rfl ?_)
          refine L_op rfl (X_assign (v := (.bool (true))) rfl ?_)
          refine L_nil ?_
          refine T_n ?_
          refine W_ret ?_
          exact BQ_r (End_1 Tryd.results4 (v := .bool true) rfl ⟨rfl, hU.own hn0⟩)
        · refine L_gy (dj := 46) rfl rfl rfl (X_cmp (k := .i64) (a := (decE pn)) (b := 0) (r := false) rfl rfl rfl (decide_eq_false (p := (((decE pn)) : Int) = ((0) : Int)) (by omega)) ?_)
          obtain ⟨he50, hL0⟩ := decL_no (p := pn) (by omega)
          refine L_gy (dj := 46) rfl rfl rfl (X_move (v := (.bool (false))) rfl ?_)
          refine L_gy (dj := 49) rfl rfl rfl (X_move (v := (.int .i64 ((decE pn)))) rfl ?_)
          refine L_gy (dj := 49) rfl rfl rfl (X_cmp (k := .i64) (a := (decE pn)) (b := 50) (r := true) rfl rfl rfl (decide_eq_true (p := (((decE pn)) : Int) = ((50) : Int)) (by omega)) ?_)
          refine L_gy (dj := 46) rfl rfl rfl (X_pick (t := false) (v := (.bool (true))) rfl rfl ?_)
          refine L_op rfl (X_pick (t := true) (v := (.bool (true))) rfl rfl ?_)
          refine L_op rfl (X_move (v := (.bool (true))) rfl ?_)
          refine L_gy (dj := 54) rfl rfl rfl (X_move (v := (.int .i64 ((decE pn)))) rfl ?_)
          refine L_gy (dj := 54) rfl rfl rfl (X_cmp (k := .i64) (a := (decE pn)) (b := 0) (r := true) rfl rfl rfl (decide_eq_true (p := (((decE pn)) : Int) ≠ ((0) : Int)) (by omega)) ?_)
          refine L_gy (dj := 54) rfl rfl rfl (X_move (v := (.bool (true))) rfl ?_)
          refine L_gn (dj := 57) (t := true) rfl rfl rfl rfl ?_
          refine L_gn (dj := 57) (t := true) rfl rfl rfl rfl ?_
          refine L_gn (dj := 57) (t := true) rfl rfl rfl rfl ?_
          refine L_gn (dj := 57) (t := true) rfl rfl rfl rfl ?_
          refine L_gy (dj := 54) rfl rfl rfl (X_pick (t := true) (v := (.bool (true))) rfl rfl ?_)
          refine L_op rfl (X_pick (t := true) (v := (.bool (true))) rfl rfl ?_)
          refine L_op rfl (X_move (v := (.bool (true))) rfl ?_)
          refine L_gy (dj := 64) rfl rfl rfl (X_fn (vs := []) en9 rfl (CT.mono (c_wakes _ hT) ?_))
          rintro vb14 w14 ⟨hvb14, hu14⟩
          have hz14 := hu14.size
          replace hU := hU.trans (Ext.upd hu14)
          replace hT := hT.ext hu14
          replace hl := hl.ext hu14
          replace hB8 := hB8.ext hu14
          replace hNn := hNn.ext hu14
          subst hvb14
          refine L_op rfl (X_pick (t := true) (v := (.bool (true))) rfl rfl ?_)
          refine L_op rfl (X_assign (v := (.bool (true))) rfl ?_)
          refine L_nil ?_
          refine T_n ?_
          refine W_ret ?_
          exact BQ_r (End_1 Tryd.results4 (v := .bool true) rfl ⟨rfl, hU.own hn0⟩)
    · rw [hc4]
      refine L_gy (dj := 13) rfl rfl rfl (X_not (b := false) (r := true) rfl rfl ?_)
      refine L_op rfl (X_pick (t := false) (v := (.bool (true))) rfl rfl ?_)
      refine L_op rfl (X_move (v := (.bool (true))) rfl ?_)
      refine L_gn (dj := 18) (t := true) rfl rfl rfl rfl ?_
      refine L_gn (dj := 18) (t := true) rfl rfl rfl rfl ?_
      refine L_op rfl (X_pick (t := true) (v := (.bool (true))) rfl rfl ?_)
      refine L_nil ?_
      refine T_n ?_
      refine W_ct rfl ?_
      refine W_seq ?_
      refine W_reg ?_
      refine L_op rfl (X_fn (vs := []) en9 rfl (CT.mono (c_wakes _ hT) ?_))
      rintro vb15 w15 ⟨hvb15, hu15⟩
      have hz15 := hu15.size
      replace hU := hU.trans (Ext.upd hu15)
      replace hT := hT.ext hu15
      replace hl := hl.ext hu15
      subst hvb15
      refine L_op rfl (X_assign (v := (.bool (true))) rfl ?_)
      refine L_nil ?_
      refine T_n ?_
      refine W_ret ?_
      refine T_r ?_
      exact BQ_r (End_1 Tryd.results4 (v := .bool true) rfl ⟨rfl, hU.own hn0⟩)
end Go.Proofs.YtmddmghgkkjbiaaDoor
