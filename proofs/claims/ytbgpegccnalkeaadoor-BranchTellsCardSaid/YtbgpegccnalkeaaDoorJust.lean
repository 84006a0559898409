/-
  The walks of BranchJust, BranchBirth. (Printed by wip/gen/t07l.py of this repo.)
-/
import Derived.Test.YtbgpegccnalkeaaDoorWakes
namespace Go.Proofs.YtbgpegccnalkeaaDoor
open Go Go.SL Go.Proofs
set_option linter.unusedVariables false

theorem c_branchJust (p : List UInt8) (w : World) (hp : p.length = 256) (hT : TabR w) : CT Tryd.prog 4 #[(.agg ((p).map byteV).toArray)] w fun v w' => v = .bool true ∧ Ext w w' := by
  obtain ⟨n0, hn0⟩ : ∃ n, n = w.heap.size := ⟨_, rfl⟩
  have hU : Upd (fun i => n0 ≤ i) w w := Upd.refl _ _
  have hn1 := tab_pos hT
  refine CT_of Tryd.func4 rfl rfl rfl ?_
  refine W_seq ?_
  refine W_reg ?_
  refine L_op rfl (X_box (v := (.agg ((p).map byteV).toArray)) (c := ((p).map byteV).toArray) rfl rfl ?_)
  intro b1 w1 hn1
  have hbn1 := hn1.num; have hbs1 := hn1.size
  replace hU := hU.trans (Ext.upd hn1.ext)
  replace hT := hT.ext hn1.ext
  have hB1 := hn1.blk
  refine L_op rfl (X_assign (v := (.bool (false))) rfl ?_)
  refine L_nil ?_
  refine T_n ?_
  refine W_seq ?_
  refine W_reg ?_
  refine L_op rfl (X_loadA (p := (ptr b1 (0))) (xs := ((p).map byteV)) A26 rfl hB1.atAll (by rw [List.length_map]; exact hp) ?_)
  obtain ⟨sd, hsd⟩ : ∃ n, n = w1.heap.size := ⟨_, rfl⟩
  refine L_op rfl (X_fn (vs := [(.agg (((p).map byteV)).toArray)]) en12 rfl (CT.mono (c_decodeK p _ hp hT) ?_))
  rintro _ w2 ⟨vd, rfl, esd, hNd, hdid, hksd, hu2⟩
  have hz2 := hu2.size
  obtain ⟨ud, hupd⟩ : ∃ n, n = w2.heap.size := ⟨_, rfl⟩
  rw [← hsd, ← hupd] at hNd
  replace hU := hU.trans (Ext.upd hu2)
  replace hT := hT.ext hu2
  replace hB1 := hB1.ext hu2
  refine L_op rfl (X_move (v := (.tuple #[vd, (.int .i64 ((decE p)))])) rfl ?_)
  refine L_op rfl (X_extract (l := [vd, (.int .i64 ((decE p)))]) (v := vd) rfl rfl ?_)
  refine L_op rfl (X_extract (l := [vd, (.int .i64 ((decE p)))]) (v := (.int .i64 ((decE p)))) rfl rfl ?_)
  refine L_op rfl (X_assign (v := vd) rfl ?_)
  refine L_op rfl (X_assign (v := (.int .i64 ((decE p)))) rfl ?_)
  refine L_nil ?_
  refine T_n ?_
  refine W_seq ?_
  refine W_seq ?_
  refine W_reg ?_
  refine L_op rfl (X_move (v := (.int .i64 ((decE p)))) rfl ?_)
  by_cases hc3 : ((decE p) : Int) ≠ (0)
  · refine L_op rfl (X_cmp (k := .i64) (a := (decE p)) (b := 0) (r := true) rfl rfl rfl (decide_eq_true (p := (((decE p)) : Int) ≠ ((0) : Int)) (by omega)) ?_)
    obtain ⟨he50, hL0⟩ := decL_no (p := p) (by omega)
    have hl0 : esd.length = 0 := by have h := congrArg List.length hksd; rw [hL0, List.length_map] at h; exact h
    refine L_nil ?_
    refine T_n ?_
    refine W_ct rfl ?_
    refine W_seq ?_
    refine W_reg ?_
    refine L_op rfl (X_move (v := (.int .i64 ((decE p)))) rfl ?_)
    refine L_op rfl (X_cmp (k := .i64) (a := (decE p)) (b := 50) (r := true) rfl rfl rfl (decide_eq_true (p := (((decE p)) : Int) = ((50) : Int)) (by omega)) ?_)
    refine L_op rfl (X_move (v := (.bool (true))) rfl ?_)
    refine L_gy (dj := 16) rfl rfl rfl (X_move (v := vd) rfl ?_)
    refine L_gy (dj := 16) rfl rfl rfl (X_len (v := vd) (n := esd.length) Tryd.underlying22 rfl hNd.1.sv ?_)
    refine L_gy (dj := 16) rfl rfl rfl (X_cmp (k := .i64) (a := ((esd.length : Nat) : Int)) (b := 0) (r := true) rfl rfl rfl (decide_eq_true (p := ((((esd.length : Nat) : Int)) : Int) = ((0) : Int)) (by omega)) ?_)
    refine L_op rfl (X_pick (t := true) (v := (.bool (true))) rfl rfl ?_)
    refine L_op rfl (X_move (v := (.bool (true))) rfl ?_)
    refine L_gy (dj := 21) rfl rfl rfl (X_fn (vs := []) en9 rfl (CT.mono (c_wakes _ hT) ?_))
    rintro vb4 w4 ⟨hvb4, hu4⟩
    have hz4 := hu4.size
    replace hU := hU.trans (Ext.upd hu4)
    replace hT := hT.ext hu4
    replace hB1 := hB1.ext hu4
    replace hNd := hNd.ext hu4
    subst hvb4
    refine L_op rfl (X_pick (t := true) (v := (.bool (true))) rfl rfl ?_)
    refine L_op rfl (X_assign (v := (.bool (true))) rfl ?_)
    refine L_nil ?_
    refine T_n ?_
    refine W_ret ?_
    refine T_r ?_
    exact BQ_r (End_1 Tryd.results4 (v := .bool true) rfl ⟨rfl, hU.own hn0⟩)
  · refine L_op rfl (X_cmp (k := .i64) (a := (decE p)) (b := 0) (r := false) rfl rfl rfl (decide_eq_false (p := (((decE p)) : Int) ≠ ((0) : Int)) (by omega)) ?_)
    obtain ⟨hj1, hj2, hj3, hj4⟩ := dec_just hp (by omega)
    have hptd : ∀ e ∈ esd, PtOk e.2.2 := fun e he => decL_pts p e.2 (hksd ▸ List.mem_map_of_mem he)
    have hl0 : esd.length = (p.getD 1 0).toNat := by have h := congrArg List.length hksd; rw [List.length_map] at h; omega
    refine L_nil ?_
    refine T_n ?_
    refine W_cf rfl ?_
    refine W_skip ?_
    refine T_n ?_
    refine W_seq ?_
    refine W_reg ?_
    refine L_op rfl (X_move (v := vd) rfl ?_)
    refine L_op rfl (X_fn (vs := [vd]) en10 rfl (CT.mono (c_encodeK vd esd _ sd ud (by omega) hNd.rd hptd hT) ?_))
    rintro _ w5 ⟨rfl, hu5⟩
    have hz5 := hu5.size
    replace hU := hU.trans (Ext.upd hu5)
    replace hT := hT.ext hu5
    replace hB1 := hB1.ext hu5
    replace hNd := hNd.ext hu5
    rw [hksd, hj1, hj2]
    refine L_op rfl (X_move (v := (.tuple #[(.agg ((p).map byteV).toArray), (.int .i64 (0))])) rfl ?_)
    refine L_op rfl (X_extract (l := [(.agg ((p).map byteV).toArray), (.int .i64 (0))]) (v := (.agg ((p).map byteV).toArray)) rfl rfl ?_)
    refine L_op rfl (X_extract (l := [(.agg ((p).map byteV).toArray), (.int .i64 (0))]) (v := (.int .i64 (0))) rfl rfl ?_)
    refine L_op rfl (X_alloc (z := zv26) (c := zc26.toArray) Zv26 rfl ?_)
    intro b6 w6 hn6
    have hbn6 := hn6.num; have hbs6 := hn6.size
    replace hU := hU.trans (Ext.upd hn6.ext)
    replace hT := hT.ext hn6.ext
    replace hB1 := hB1.ext hn6.ext
    replace hNd := hNd.ext hn6.ext
    have hB6 := hn6.blk
    rw [zc26_eq] at hB6
    refine L_op0 (X_storeW (b := b6) (ys := ((p).map byteV)) A26 rfl rfl (byteV_one _) (by rw [List.length_map]; exact hp) hB6 (by rw [List.size_toArray]; exact (by rw [List.length_map]; exact List.length_replicate)) ?_)
    intro w7 hu7 hb7
    have hz7 := hu7.size
    replace hU := hU.trans (hu7.mono fun i _ h => by have h : i = b6 := h; show n0 ≤ i; omega)
    replace hT := hT.upd hu7 fun i h1 h2 h => by have h : i = b6 := h; omega
    replace hB1 := hB1.upd hu7 fun h => by have h : b1 = b6 := h; omega
    replace hNd := hNd.upd hu7 fun i h1 h2 h => by have h : i = b6 := h; omega
    replace hB6 := hb7
    refine L_op rfl (X_assign (v := (.int .i64 (0))) rfl ?_)
    refine L_nil ?_
    refine T_n ?_
    refine W_seq ?_
    refine W_reg ?_
    refine L_op rfl (X_move (v := (.int .i64 (0))) rfl ?_)
    refine L_op rfl (X_cmp (k := .i64) (a := 0) (b := 0) (r := true) rfl rfl rfl rfl ?_)
    refine L_op rfl (X_move (v := (.bool (true))) rfl ?_)
    refine L_gy (dj := 31) rfl rfl rfl (X_loadA (p := (ptr b6 (0))) (xs := ((p).map byteV)) A26 rfl hB6.atAll (by rw [List.length_map]; exact hp) ?_)
    refine L_gy (dj := 31) rfl rfl rfl (X_loadA (p := (ptr b1 (0))) (xs := ((p).map byteV)) A26 rfl hB1.atAll (by rw [List.length_map]; exact hp) ?_)
    refine L_gy (dj := 31) rfl rfl rfl (X_eqA (n := 256) (l := p) (m := p) (r := true) Tryd.underlying26 Tryd.underlying5 (by kernel_rfl) (by kernel_rfl) (by kernel_rfl) rfl rfl (hp) (hp) (.inl ⟨rfl, (beq_self_eq_true _)⟩) ?_)
    refine L_op rfl (X_pick (t := true) (v := (.bool (true))) rfl rfl ?_)
    refine L_op rfl (X_move (v := (.bool (true))) rfl ?_)
    refine L_gy (dj := 36) rfl rfl rfl (X_move (v := vd) rfl ?_)
    refine L_gy (dj := 36) rfl rfl rfl (X_fn (vs := [vd]) en11 rfl (CT.mono (c_rightK vd esd _ sd ud (by omega) hNd.rd hptd) ?_))
    rintro _ w8 ⟨rfl, hu8⟩
    have hz8 := hu8.size
    replace hU := hU.trans (Ext.upd hu8)
    replace hT := hT.ext hu8
    replace hB1 := hB1.ext hu8
    replace hNd := hNd.ext hu8
    replace hB6 := hB6.ext hu8
    rw [hksd, decide_eq_true hj3]
    refine L_op rfl (X_pick (t := true) (v := (.bool (true))) rfl rfl ?_)
    refine L_op rfl (X_move (v := (.bool (true))) rfl ?_)
    refine L_gy (dj := 40) rfl rfl rfl (X_move (v := vd) rfl ?_)
    refine L_gy (dj := 40) rfl rfl rfl (X_len (v := vd) (n := esd.length) Tryd.underlying22 rfl hNd.1.sv ?_)
    refine L_gy (dj := 40) rfl rfl rfl (X_idxAP (len := 256) (sz := 1) (b := b1) (o := 0) (k := .i64) (i := 1) (r := 1) Tryd.underlying26 Z5 rfl rfl (by omega) (by omega) rfl ?_)
    refine L_gy (dj := 40) rfl rfl rfl (X_load (p := (ptr b1 (1))) (v := byteV (p.getD 1 0)) T5 rfl (hB1.at1 (page_at hp (by decide))) ?_)
    refine L_gy (dj := 40) rfl rfl rfl (X_convInt (k := .u8) (a := (((p.getD 1 0).toNat : Nat) : Int)) (r := (((p.getD 1 0).toNat : Nat) : Int)) (by rw [Tryd.underlying5]; rfl) Tryd.underlying3 rfl (i64_wrap (by omega) (by have := (p.getD 1 0).toNat_lt; omega)) ?_)
    refine L_gy (dj := 40) rfl rfl rfl (X_cmp (k := .i64) (a := ((esd.length : Nat) : Int)) (b := (((p.getD 1 0).toNat : Nat) : Int)) (r := true) rfl rfl rfl (decide_eq_true (p := ((((esd.length : Nat) : Int)) : Int) = (((((p.getD 1 0).toNat : Nat) : Int)) : Int)) (by omega)) ?_)
    refine L_op rfl (X_pick (t := true) (v := (.bool (true))) rfl rfl ?_)
    refine L_op rfl (X_move (v := (.bool (true))) rfl ?_)
    refine L_gy (dj := 48) rfl rfl rfl (X_fn (vs := []) en9 rfl (CT.mono (c_wakes _ hT) ?_))
    rintro vb9 w9 ⟨hvb9, hu9⟩
    have hz9 := hu9.size
    replace hU := hU.trans (Ext.upd hu9)
    replace hT := hT.ext hu9
    replace hB1 := hB1.ext hu9
    replace hNd := hNd.ext hu9
    replace hB6 := hB6.ext hu9
    subst hvb9
    refine L_op rfl (X_pick (t := true) (v := (.bool (true))) rfl rfl ?_)
    refine L_op rfl (X_assign (v := (.bool (true))) rfl ?_)
    refine L_nil ?_
    refine T_n ?_
    refine W_ret ?_
    exact BQ_r (End_1 Tryd.results4 (v := .bool true) rfl ⟨rfl, hU.own hn0⟩)

theorem foldmax_ge : ∀ (ks : List KD) (a : Int), a ≤ ks.foldl (fun a d => max a d.2.2.2.2.1) a
  | [], a => Int.le_refl a
  | d :: ks, a => Int.le_trans (Int.le_max_left a d.2.2.2.2.1) (foldmax_ge ks _)
theorem foldmax_le : ∀ (ks : List KD) (a : Int), ∀ d ∈ ks, d.2.2.2.2.1 ≤ ks.foldl (fun a d => max a d.2.2.2.2.1) a
  | [], _, d, h => by cases h
  | e :: ks, a, d, h => by
    rcases List.mem_cons.1 h with rfl | h
    · exact Int.le_trans (Int.le_max_right a _) (foldmax_ge ks _)
    · exact foldmax_le ks _ d h
theorem foldmax_mem : ∀ (ks : List KD) (a : Int), ks.foldl (fun a d => max a d.2.2.2.2.1) a = a ∨ ∃ d ∈ ks, d.2.2.2.2.1 = ks.foldl (fun a d => max a d.2.2.2.2.1) a
  | [], a => .inl rfl
  | e :: ks, a => by
    rcases foldmax_mem ks (max a e.2.2.2.2.1) with h | ⟨d, hd, h⟩
    · rcases Int.le_total e.2.2.2.2.1 a with h1 | h1
      · left; show ks.foldl _ (max a e.2.2.2.2.1) = a; rw [h]; omega
      · right; refine ⟨e, List.mem_cons_self .., ?_⟩; show _ = ks.foldl _ (max a e.2.2.2.2.1); rw [h]; omega
    · exact .inr ⟨d, List.mem_cons_of_mem _ hd, h⟩
theorem birth_pos (ks : List KD) : 0 ≤ birthK ks := foldmax_ge ks 0
theorem birth_le {ks : List KD} {d : KD} (h : d ∈ ks) : d.2.2.2.2.1 ≤ birthK ks := foldmax_le ks 0 d h
theorem birth_sub {ks ls : List KD} (h : ∀ d ∈ ks, d ∈ ls) : birthK ks ≤ birthK ls := by
  rcases foldmax_mem ks 0 with h1 | ⟨d, hd, h1⟩
  · have h2 : birthK ks = 0 := h1
    rw [h2]; exact birth_pos ls
  · have h2 : d.2.2.2.2.1 = birthK ks := h1
    rw [← h2]; exact birth_le (h d hd)
theorem birth_rev (es : List KE) : birthK (es.reverse.map (fun (x : KE) => x.2)) = birthK (es.map (fun (x : KE) => x.2)) := by
  refine Int.le_antisymm (birth_sub fun d hd => ?_) (birth_sub fun d hd => ?_)
  · obtain ⟨e, he, rfl⟩ := List.mem_map.1 hd
    exact List.mem_map_of_mem (List.mem_reverse.1 he)
  · obtain ⟨e, he, rfl⟩ := List.mem_map.1 hd
    exact List.mem_map_of_mem (List.mem_reverse.2 he)
/-- the greatest birth is one of the kids' -/
theorem birth_at {es : List KE} (hp : ∀ e ∈ es, PtOk e.2.2) (h : 0 < es.length) : ∃ (j : Nat) (e : KE), j < es.length ∧ es[j]? = some e ∧ e.2.2.2.2.2.1 = birthK (es.map (fun (x : KE) => x.2)) := by
  rcases foldmax_mem (es.map (fun (x : KE) => x.2)) 0 with h1 | ⟨d, hd, h1⟩
  · have h2 : birthK (es.map (fun (x : KE) => x.2)) = 0 := h1
    have h3 := birth_le (ks := es.map (fun (x : KE) => x.2)) (List.mem_map_of_mem (List.getElem_mem h))
    have h4 := (hp _ (List.getElem_mem h)).2.2.2.1.1
    refine ⟨0, es[0], h, List.getElem?_eq_getElem h, ?_⟩
    rw [h2] at h3 ⊢
    exact Int.le_antisymm h3 h4
  · obtain ⟨e, he, rfl⟩ := List.mem_map.1 hd
    obtain ⟨j, hj, rfl⟩ := List.getElem_of_mem he
    exact ⟨j, es[j], hj, List.getElem?_eq_getElem hj, h1⟩
theorem rev_step {es : List KE} {i : Nat} {e : KE} (h : es[es.length - 1 - i]? = some e) (hi : i < es.length) : es.reverse.take (i + 1) = es.reverse.take i ++ [e] := by
  rw [List.take_add_one, List.getElem?_reverse hi, h]; rfl

theorem c_branchBirth (l : Value) (es : List KE) (w : World) (lo up : Nat) (hup : up ≤ w.heap.size) (hl : NRd LK w lo up l es) (hpt : ∀ e ∈ es, PtOk e.2.2) (hT : TabR w) : CT Tryd.prog 5 #[l] w fun v w' => v = .bool true ∧ Ext w w' := by
  obtain ⟨n0, hn0⟩ : ∃ n, n = w.heap.size := ⟨_, rfl⟩
  have hU : Upd (fun i => n0 ≤ i) w w := Upd.refl _ _
  have hn1 := tab_pos hT
  have hmx := hl.sv.len
  rw [← hn0] at hup
  refine CT_of Tryd.func5 rfl rfl rfl ?_
  refine W_seq ?_
  refine W_reg ?_
  refine L_op rfl (X_assign (v := (.bool (false))) rfl ?_)
  refine L_nil ?_
  refine T_n ?_
  refine W_seq ?_
  refine W_seq ?_
  refine W_reg ?_
  refine L_op rfl (X_move (v := l) rfl ?_)
  refine L_op rfl (X_fn (vs := [l]) en8 rfl (CT.mono (c_great l es _ lo up hl) ?_))
  rintro _ _ ⟨⟨gg, rfl, hgg⟩, rfl⟩
  rcases Bool.eq_false_or_eq_true (gg) with hc1 | hc1
  · rw [hc1]
    refine L_nil ?_
    refine T_n ?_
    refine W_ct rfl ?_
    refine W_seq ?_
    refine W_reg ?_
    refine L_op rfl (X_fn (vs := []) en9 rfl (CT.mono (c_wakes _ hT) ?_))
    rintro vb2 w2 ⟨hvb2, hu2⟩
    have hz2 := hu2.size
    replace hU := hU.trans (Ext.upd hu2)
    replace hT := hT.ext hu2
    replace hl := hl.ext hu2
    subst hvb2
    refine L_op rfl (X_assign (v := (.bool (true))) rfl ?_)
    refine L_nil ?_
    refine T_n ?_
    refine W_ret ?_
    refine T_r ?_
    exact BQ_r (End_1 Tryd.results5 (v := .bool true) rfl ⟨rfl, hU.own hn0⟩)
  · rw [hc1]
    refine L_nil ?_
    refine T_n ?_
    refine W_cf rfl ?_
    refine W_skip ?_
    refine T_n ?_
    refine W_seq ?_
    obtain ⟨hn20, hk40⟩ := hgg hc1
    refine W_reg ?_
    refine L_op rfl (X_move (v := l) rfl ?_)
    refine L_op rfl (X_fn (vs := [l]) en14 rfl (CT.mono (c_birth l es _ lo up (by omega) hl) ?_))
    rintro _ w3 ⟨rfl, hu3⟩
    have hz3 := hu3.size
    replace hU := hU.trans (Ext.upd hu3)
    replace hT := hT.ext hu3
    replace hl := hl.ext hu3
    obtain ⟨bn, hbn⟩ : ∃ n, n = birthK (es.map (fun (x : KE) => x.2)) := ⟨_, rfl⟩
    rw [← hbn]
    have hb0 : es.length = 0 → bn = 0 := fun h => by rw [hbn, List.eq_nil_of_length_eq_zero h]; rfl
    refine L_op rfl (X_assign (v := (.int .u32 (bn))) rfl ?_)
    refine L_nil ?_
    refine T_n ?_
    refine W_seq ?_
    refine W_reg ?_
    refine L_op rfl (X_move (v := l) rfl ?_)
    refine L_op rfl (X_len (v := l) (n := es.length) Tryd.underlying22 rfl hl.sv ?_)
    by_cases hc4 : (((es.length : Nat) : Int) : Int) = (0)
    · refine L_op rfl (X_cmp (k := .i64) (a := ((es.length : Nat) : Int)) (b := 0) (r := true) rfl rfl rfl (decide_eq_true (p := ((((es.length : Nat) : Int)) : Int) = ((0) : Int)) (by omega)) ?_)
      refine L_op rfl (X_move (v := (.bool (true))) rfl ?_)
      refine L_gy (dj := 15) rfl rfl rfl (X_move (v := (.int .u32 (bn))) rfl ?_)
      refine L_gy (dj := 15) rfl rfl rfl (X_cmp (k := .u32) (a := bn) (b := 0) (r := true) rfl rfl rfl (decide_eq_true (p := ((bn) : Int) = ((0) : Int)) (by omega)) ?_)
      refine L_op rfl (X_pick (t := true) (v := (.bool (true))) rfl rfl ?_)
      refine L_op rfl (X_assign (v := (.bool (true))) rfl ?_)
      refine L_nil ?_
      refine T_n ?_
      refine W_seq ?_
      refine W_reg ?_
      refine L_op rfl (X_assign (v := (.slice none 0 0)) rfl ?_)
      refine L_nil ?_
      refine T_n ?_
      refine W_seq ?_
      refine W_seq ?_
      refine W_reg ?_
      refine L_op rfl (X_assign (v := (.int .i64 (0))) rfl ?_)
      refine L_nil ?_
      refine T_n ?_
      refine W_block ?_
      refine W_loop (α := Nat × Bool × Value) [2, 4, 5, 6, 19, 20, 21, 22, 23, 24, 25, 26, 27, 28, 29, 30, 31, 32, 33, 34, 35, 36, 37, 38, 39, 40, 41, 42, 43, 44, 45, 46, 47, 48, 49, 50, 51, 52, 53, 54] (fun ⟨i, g, u⟩ => [(6, (.int .i64 ((i : Nat) : Int))), (4, (.bool g)), (5, u)]) (fun ⟨i, g, u⟩ w_ => (g = true ↔ ((es.length = 0 ∧ bn = 0) ∨ ∃ (j : Nat) (e : KE), j < i ∧ es[j]? = some e ∧ e.2.2.2.2.2.1 = bn)) ∧ i ≤ es.length ∧ Own w_ n0 44 6 u i ((es.reverse.take i).flatMap LK.cel) ∧ NRd LK w_ lo up l es ∧ TabR w_ ∧ Upd (fun i => n0 ≤ i) w w_) (fun ⟨i, g, u⟩ => es.length - i) ⟨rfl, (0, true, .slice none 0 0), ⟨⟨fun _ => .inl ⟨by omega, by omega⟩, fun _ => rfl⟩, Nat.zero_le _, Own.nil _ _ _ _, hl, hT, hU⟩, Out.refl _ _, ⟨rfl, rfl, rfl, trivial⟩⟩ ?_
      rintro ⟨i, g, u⟩ w5 _ ⟨hg, hil, hO, hl, hT, hU⟩
      rcases Bool.eq_false_or_eq_true g with rfl | rfl
      · have hsz_ := hU.size
        refine W_seq ?_
        refine W_seq ?_
        refine W_reg ?_
        refine L_op rfl (X_move (v := (.int .i64 (((i : Nat) : Int)))) rfl ?_)
        refine L_op rfl (X_move (v := l) rfl ?_)
        refine L_op rfl (X_len (v := l) (n := es.length) Tryd.underlying22 rfl hl.sv ?_)
        by_cases hc6 : (((i : Nat) : Int) : Int) < (((es.length : Nat) : Int))
        · refine L_op rfl (X_cmp (k := .i64) (a := ((i : Nat) : Int)) (b := ((es.length : Nat) : Int)) (r := true) rfl rfl rfl (decide_eq_true (p := ((((i : Nat) : Int)) : Int) < ((((es.length : Nat) : Int)) : Int)) (by omega)) ?_)
          have hi : i < es.length := by omega
          obtain ⟨e, hei⟩ : ∃ e, es[i]? = some e := ⟨_, List.getElem?_eq_getElem hi⟩
          have hble : e.2.2.2.2.2.1 ≤ bn := by rw [hbn]; exact birth_le (List.mem_map_of_mem (List.mem_of_getElem? hei))
          obtain ⟨e2, he2⟩ : ∃ e, es[es.length - 1 - i]? = some e := ⟨_, List.getElem?_eq_getElem (by omega)⟩
          have hrs := rev_step he2 hi
          refine L_nil ?_
          refine T_n ?_
          refine W_ct rfl ?_
          refine W_skip ?_
          refine T_n ?_
          refine W_seq ?_
          refine W_block ?_
          refine W_seq ?_
          refine W_seq ?_
          refine W_reg ?_
          refine L_op rfl (X_move (v := l) rfl ?_)
          refine L_op rfl (X_move (v := (.int .i64 (((i : Nat) : Int)))) rfl ?_)
          refine L_op rfl (X_idx (v := l) (n := es.length) (k := .i64) (i := ((i : Nat) : Int)) S22 rfl hl.sv rfl (by omega) (by omega) ?_)
          refine L_op rfl (X_fldS (v := l) (o := (((i : Nat) : Int) : Int).toNat * 6) Fd44_1 rfl hl.sv (by omega) ?_)
          refine L_op rfl (X_fldS (v := l) (o := (((i : Nat) : Int) : Int).toNat * 6 + 1) Fd41_2 rfl hl.sv (by omega) ?_)
          refine L_op rfl (X_load (v := .int .u32 e.2.2.2.2.2.1) T35 rfl (show At _ (pof l _) _ from by have h := hl.cell hei (j := 4) rfl; rwa [show i * LK.sz + 4 = ((i : Nat) : Int).toNat * 6 + 1 + 3 by rw [Int.toNat_natCast]; rfl] at h) ?_)
          refine L_op rfl (X_move (v := (.int .u32 (bn))) rfl ?_)
          refine L_op rfl (X_cmp (k := .u32) (a := e.2.2.2.2.2.1) (b := bn) (r := false) rfl rfl rfl (decide_eq_false (p := ((bn) : Int) < ((e.2.2.2.2.2.1) : Int)) (by omega)) ?_)
          refine L_nil ?_
          refine T_n ?_
          refine W_cf rfl ?_
          refine W_skip ?_
          refine T_n ?_
          refine W_seq ?_
          refine W_reg ?_
          refine L_op rfl (X_move (v := (.bool (true))) rfl ?_)
          refine L_op rfl (X_move (v := (.bool (true))) rfl ?_)
          refine L_gn (dj := 34) (t := true) rfl rfl rfl rfl ?_
          refine L_gn (dj := 34) (t := true) rfl rfl rfl rfl ?_
          refine L_gn (dj := 34) (t := true) rfl rfl rfl rfl ?_
          refine L_gn (dj := 34) (t := true) rfl rfl rfl rfl ?_
          refine L_gn (dj := 34) (t := true) rfl rfl rfl rfl ?_
          refine L_gn (dj := 34) (t := true) rfl rfl rfl rfl ?_
          refine L_gn (dj := 34) (t := true) rfl rfl rfl rfl ?_
          refine L_gn (dj := 34) (t := true) rfl rfl rfl rfl ?_
          refine L_op rfl (X_pick (t := true) (v := (.bool (true))) rfl rfl ?_)
          refine L_op rfl (X_assign (v := (.bool (true))) rfl ?_)
          refine L_nil ?_
          refine T_n ?_
          refine W_reg ?_
          refine L_op rfl (X_move (v := u) rfl ?_)
          refine L_op rfl (X_move (v := l) rfl ?_)
          refine L_op rfl (X_move (v := l) rfl ?_)
          refine L_op rfl (X_len (v := l) (n := es.length) Tryd.underlying22 rfl hl.sv ?_)
          refine L_op rfl (X_arith (k := .i64) (a := ((es.length : Nat) : Int)) (b := 1) (r := (((es.length : Nat) : Int) - 1)) rfl rfl rfl (isub64 rfl (by omega) (by omega)) ?_)
          refine L_op rfl (X_move (v := (.int .i64 (((i : Nat) : Int)))) rfl ?_)
          refine L_op rfl (X_arith (k := .i64) (a := (((es.length : Nat) : Int) - 1)) (b := ((i : Nat) : Int)) (r := ((es.length - 1 - i : Nat) : Int)) rfl rfl rfl (isub64 (by omega) (by omega) (by omega)) ?_)
          refine L_op rfl (X_idx (v := l) (n := es.length) (k := .i64) (i := ((es.length - 1 - i : Nat) : Int)) S22 rfl hl.sv rfl (by omega) (by omega) ?_)
          refine L_op rfl (X_loadA (xs := e2.1 :: ptC e2.2.2) A44 rfl (kall hl (by omega) he2) rfl ?_)
          refine L_op rfl (X_buildSliceL (vs := [kidV e2]) (c := e2.1 :: ptC e2.2.2) S22 (by decide) rfl rfl (List.forall_mem_cons.2 ⟨rfl, fun _ h => by cases h⟩) rfl ?_)
          intro b7 w7 hn7
          have hbn7 := hn7.num; have hbs7 := hn7.size
          replace hl := hl.ext hn7.ext
          replace hT := hT.ext hn7.ext
          replace hU := hU.trans (Ext.upd hn7.ext)
          replace hO := hO.ext hn7.ext
          have hB7 := hn7.blk
          refine L_op rfl (X_append (B := n0) (n := i) (s := u) (x := (.slice (some ⟨b7, 0, none⟩) 1 1)) S22 ⟨_, Tryd.underlying22⟩ rfl rfl hO (m := 1) (ys := e2.1 :: ptC e2.2.2) (hB7.rd (o := 0) (n := 1) (c := 1) (sz := 6) (by decide) (by decide) rfl (fun j u hj => by rw [Nat.zero_add]; simpa using hj)) (kone hl he2) (by unfold maxLen; omega) (by omega) (by omega) ?_)
          intro v5 w5 hO5 hu5 ho5
          have hz5 := hu5.size
          replace hO5 : Own w5 n0 44 6 v5 (i + 1) ((es.reverse.take (i + 1)).flatMap LK.cel) := hO5.eq rfl (by rw [hrs, List.flatMap_append]; simp [LK])
          replace hl := hl.upd hu5 fun i h1 h2 h => by have := (hO.lt h).1; omega
          replace hT := hT.upd hu5 fun i h1 h2 h => by have := (hO.lt h).1; omega
          replace hU := hU.trans (hu5.mono fun i _ h => by have := (hO.lt h).1; show n0 ≤ i; omega)
          refine L_op rfl (X_assign (v := v5) rfl ?_)
          refine L_nil ?_
          refine B_n ?_
          refine T_n ?_
          refine W_reg ?_
          refine L_op rfl (X_move (v := (.int .i64 (((i : Nat) : Int)))) rfl ?_)
          refine L_op rfl (X_arith (k := .i64) (a := ((i : Nat) : Int)) (b := 1) (r := ((i + 1 : Nat) : Int)) rfl rfl rfl (iadd64 (by omega) (by omega) (by omega)) ?_)
          refine L_op rfl (X_assign (v := (.int .i64 (((i + 1 : Nat) : Int)))) rfl ?_)
          refine L_nil ?_
          refine T_n ?_
          exact ⟨rfl, (i + 1, true, v5), ⟨⟨⟨fun _ => (hg.1 rfl).elim .inl fun ⟨j, e_, h1, h2, h3⟩ => .inr ⟨j, e_, Nat.lt_succ_of_lt h1, h2, h3⟩, fun _ => rfl⟩, hi, hO5, hl, hT, hU⟩, (by show es.length - (i + 1) < es.length - i; omega)⟩, (Out.mk rfl), ⟨rfl, rfl, rfl, trivial⟩⟩
        · refine L_op rfl (X_cmp (k := .i64) (a := ((i : Nat) : Int)) (b := ((es.length : Nat) : Int)) (r := false) rfl rfl rfl (decide_eq_false (p := ((((i : Nat) : Int)) : Int) < ((((es.length : Nat) : Int)) : Int)) (by omega)) ?_)
          have hie : i = es.length := by omega
          have hb : NRd LK w5 0 w5.heap.size u es.reverse := by rw [hie, List.take_of_length_le (by rw [List.length_reverse]; exact Nat.le_refl _)] at hO; exact ⟨hO.rd.eq (by rw [List.length_reverse]) rfl, fun b hb => ⟨Nat.zero_le _, by have := (hO.lt (hO.rbk_obk hb)).2; omega⟩, fun e he s hs => (hl.2.2 e (List.mem_reverse.1 he) s hs).mono (Nat.zero_le _) (by omega)⟩
          refine L_nil ?_
          refine T_n ?_
          refine W_cf rfl ?_
          refine W_exit ?_
          refine T_e ?_
          refine T_e ?_
          refine B_x ?_
          refine T_n ?_
          refine W_seq ?_
          refine W_reg ?_
          refine L_op rfl (X_move (v := (.bool (true))) rfl ?_)
          refine L_op rfl (X_move (v := (.bool (true))) rfl ?_)
          refine L_gy (dj := 56) rfl rfl rfl (X_move (v := u) rfl ?_)
          refine L_gy (dj := 56) rfl rfl rfl (X_fn (vs := [u]) en14 rfl (CT.mono (c_birth u es.reverse _ 0 w5.heap.size (by omega) hb) ?_))
          rintro _ w8 ⟨rfl, hu8⟩
          have hz8 := hu8.size
          replace hl := hl.ext hu8
          replace hT := hT.ext hu8
          replace hU := hU.trans (Ext.upd hu8)
          replace hO := hO.ext hu8
          replace hb := hb.ext hu8
          rw [birth_rev es, ← hbn]
          refine L_gy (dj := 56) rfl rfl rfl (X_move (v := (.int .u32 (bn))) rfl ?_)
          refine L_gy (dj := 56) rfl rfl rfl (X_cmp (k := .u32) (a := bn) (b := bn) (r := true) rfl rfl rfl (decide_eq_true (p := ((bn) : Int) = ((bn) : Int)) (by omega)) ?_)
          refine L_op rfl (X_pick (t := true) (v := (.bool (true))) rfl rfl ?_)
          refine L_op rfl (X_move (v := (.bool (true))) rfl ?_)
          refine L_gy (dj := 62) rfl rfl rfl (X_fn (vs := []) en9 rfl (CT.mono (c_wakes _ hT) ?_))
          rintro vb9 w9 ⟨hvb9, hu9⟩
          have hz9 := hu9.size
          replace hl := hl.ext hu9
          replace hT := hT.ext hu9
          replace hU := hU.trans (Ext.upd hu9)
          replace hO := hO.ext hu9
          replace hb := hb.ext hu9
          subst hvb9
          refine L_op rfl (X_pick (t := true) (v := (.bool (true))) rfl rfl ?_)
          refine L_op rfl (X_assign (v := (.bool (true))) rfl ?_)
          refine L_nil ?_
          refine T_n ?_
          refine W_ret ?_
          exact BQ_r (End_1 Tryd.results5 (v := .bool true) rfl ⟨rfl, hU.own hn0⟩)
      · have hsz_ := hU.size
        refine W_seq ?_
        refine W_seq ?_
        refine W_reg ?_
        refine L_op rfl (X_move (v := (.int .i64 (((i : Nat) : Int)))) rfl ?_)
        refine L_op rfl (X_move (v := l) rfl ?_)
        refine L_op rfl (X_len (v := l) (n := es.length) Tryd.underlying22 rfl hl.sv ?_)
        by_cases hc10 : (((i : Nat) : Int) : Int) < (((es.length : Nat) : Int))
        · refine L_op rfl (X_cmp (k := .i64) (a := ((i : Nat) : Int)) (b := ((es.length : Nat) : Int)) (r := true) rfl rfl rfl (decide_eq_true (p := ((((i : Nat) : Int)) : Int) < ((((es.length : Nat) : Int)) : Int)) (by omega)) ?_)
          have hi : i < es.length := by omega
          obtain ⟨e, hei⟩ : ∃ e, es[i]? = some e := ⟨_, List.getElem?_eq_getElem hi⟩
          have hble : e.2.2.2.2.2.1 ≤ bn := by rw [hbn]; exact birth_le (List.mem_map_of_mem (List.mem_of_getElem? hei))
          obtain ⟨e2, he2⟩ : ∃ e, es[es.length - 1 - i]? = some e := ⟨_, List.getElem?_eq_getElem (by omega)⟩
          have hrs := rev_step he2 hi
          refine L_nil ?_
          refine T_n ?_
          refine W_ct rfl ?_
          refine W_skip ?_
          refine T_n ?_
          refine W_seq ?_
          refine W_block ?_
          refine W_seq ?_
          refine W_seq ?_
          refine W_reg ?_
          refine L_op rfl (X_move (v := l) rfl ?_)
          refine L_op rfl (X_move (v := (.int .i64 (((i : Nat) : Int)))) rfl ?_)
          refine L_op rfl (X_idx (v := l) (n := es.length) (k := .i64) (i := ((i : Nat) : Int)) S22 rfl hl.sv rfl (by omega) (by omega) ?_)
          refine L_op rfl (X_fldS (v := l) (o := (((i : Nat) : Int) : Int).toNat * 6) Fd44_1 rfl hl.sv (by omega) ?_)
          refine L_op rfl (X_fldS (v := l) (o := (((i : Nat) : Int) : Int).toNat * 6 + 1) Fd41_2 rfl hl.sv (by omega) ?_)
          refine L_op rfl (X_load (v := .int .u32 e.2.2.2.2.2.1) T35 rfl (show At _ (pof l _) _ from by have h := hl.cell hei (j := 4) rfl; rwa [show i * LK.sz + 4 = ((i : Nat) : Int).toNat * 6 + 1 + 3 by rw [Int.toNat_natCast]; rfl] at h) ?_)
          refine L_op rfl (X_move (v := (.int .u32 (bn))) rfl ?_)
          refine L_op rfl (X_cmp (k := .u32) (a := e.2.2.2.2.2.1) (b := bn) (r := false) rfl rfl rfl (decide_eq_false (p := ((bn) : Int) < ((e.2.2.2.2.2.1) : Int)) (by omega)) ?_)
          refine L_nil ?_
          refine T_n ?_
          refine W_cf rfl ?_
          refine W_skip ?_
          refine T_n ?_
          refine W_seq ?_
          refine W_reg ?_
          refine L_op rfl (X_move (v := (.bool (false))) rfl ?_)
          refine L_op rfl (X_move (v := (.bool (false))) rfl ?_)
          refine L_gy (dj := 34) rfl rfl rfl (X_move (v := l) rfl ?_)
          refine L_gy (dj := 34) rfl rfl rfl (X_move (v := (.int .i64 (((i : Nat) : Int)))) rfl ?_)
          refine L_gy (dj := 34) rfl rfl rfl (X_idx (v := l) (n := es.length) (k := .i64) (i := ((i : Nat) : Int)) S22 rfl hl.sv rfl (by omega) (by omega) ?_)
          refine L_gy (dj := 34) rfl rfl rfl (X_fldS (v := l) (o := (((i : Nat) : Int) : Int).toNat * 6) Fd44_1 rfl hl.sv (by omega) ?_)
          refine L_gy (dj := 34) rfl rfl rfl (X_fldS (v := l) (o := (((i : Nat) : Int) : Int).toNat * 6 + 1) Fd41_2 rfl hl.sv (by omega) ?_)
          refine L_gy (dj := 34) rfl rfl rfl (X_load (v := .int .u32 e.2.2.2.2.2.1) T35 rfl (show At _ (pof l _) _ from by have h := hl.cell hei (j := 4) rfl; rwa [show i * LK.sz + 4 = ((i : Nat) : Int).toNat * 6 + 1 + 3 by rw [Int.toNat_natCast]; rfl] at h) ?_)
          refine L_gy (dj := 34) rfl rfl rfl (X_move (v := (.int .u32 (bn))) rfl ?_)
          by_cases hc11 : (e.2.2.2.2.2.1 : Int) = (bn)
          · refine L_gy (dj := 34) rfl rfl rfl (X_cmp (k := .u32) (a := e.2.2.2.2.2.1) (b := bn) (r := true) rfl rfl rfl (decide_eq_true (p := ((e.2.2.2.2.2.1) : Int) = ((bn) : Int)) (by omega)) ?_)
            refine L_op rfl (X_pick (t := false) (v := (.bool (true))) rfl rfl ?_)
            refine L_op rfl (X_assign (v := (.bool (true))) rfl ?_)
            refine L_nil ?_
            refine T_n ?_
            refine W_reg ?_
            refine L_op rfl (X_move (v := u) rfl ?_)
            refine L_op rfl (X_move (v := l) rfl ?_)
            refine L_op rfl (X_move (v := l) rfl ?_)
            refine L_op rfl (X_len (v := l) (n := es.length) Tryd.underlying22 rfl hl.sv ?_)
            refine L_op rfl (X_arith (k := .i64) (a := ((es.length : Nat) : Int)) (b := 1) (r := (((es.length : Nat) : Int) - 1)) rfl rfl rfl (isub64 rfl (by omega) (by omega)) ?_)
            refine L_op rfl (X_move (v := (.int .i64 (((i : Nat) : Int)))) rfl ?_)
            refine L_op rfl (X_arith (k := .i64) (a := (((es.length : Nat) : Int) - 1)) (b := ((i : Nat) : Int)) (r := ((es.length - 1 - i : Nat) : Int)) rfl rfl rfl (isub64 (by omega) (by omega) (by omega)) ?_)
            refine L_op rfl (X_idx (v := l) (n := es.length) (k := .i64) (i := ((es.length - 1 - i : Nat) : Int)) S22 rfl hl.sv rfl (by omega) (by omega) ?_)
            refine L_op rfl (X_loadA (xs := e2.1 :: ptC e2.2.2) A44 rfl (kall hl (by omega) he2) rfl ?_)
            refine L_op rfl (X_buildSliceL (vs := [kidV e2]) (c := e2.1 :: ptC e2.2.2) S22 (by decide) rfl rfl (List.forall_mem_cons.2 ⟨rfl, fun _ h => by cases h⟩) rfl ?_)
            intro b12 w12 hn12
            have hbn12 := hn12.num; have hbs12 := hn12.size
            replace hl := hl.ext hn12.ext
            replace hT := hT.ext hn12.ext
            replace hU := hU.trans (Ext.upd hn12.ext)
            replace hO := hO.ext hn12.ext
            have hB12 := hn12.blk
            refine L_op rfl (X_append (B := n0) (n := i) (s := u) (x := (.slice (some ⟨b12, 0, none⟩) 1 1)) S22 ⟨_, Tryd.underlying22⟩ rfl rfl hO (m := 1) (ys := e2.1 :: ptC e2.2.2) (hB12.rd (o := 0) (n := 1) (c := 1) (sz := 6) (by decide) (by decide) rfl (fun j u hj => by rw [Nat.zero_add]; simpa using hj)) (kone hl he2) (by unfold maxLen; omega) (by omega) (by omega) ?_)
            intro v5 w5 hO5 hu5 ho5
            have hz5 := hu5.size
            replace hO5 : Own w5 n0 44 6 v5 (i + 1) ((es.reverse.take (i + 1)).flatMap LK.cel) := hO5.eq rfl (by rw [hrs, List.flatMap_append]; simp [LK])
            replace hl := hl.upd hu5 fun i h1 h2 h => by have := (hO.lt h).1; omega
            replace hT := hT.upd hu5 fun i h1 h2 h => by have := (hO.lt h).1; omega
            replace hU := hU.trans (hu5.mono fun i _ h => by have := (hO.lt h).1; show n0 ≤ i; omega)
            refine L_op rfl (X_assign (v := v5) rfl ?_)
            refine L_nil ?_
            refine B_n ?_
            refine T_n ?_
            refine W_reg ?_
            refine L_op rfl (X_move (v := (.int .i64 (((i : Nat) : Int)))) rfl ?_)
            refine L_op rfl (X_arith (k := .i64) (a := ((i : Nat) : Int)) (b := 1) (r := ((i + 1 : Nat) : Int)) rfl rfl rfl (iadd64 (by omega) (by omega) (by omega)) ?_)
            refine L_op rfl (X_assign (v := (.int .i64 (((i + 1 : Nat) : Int)))) rfl ?_)
            refine L_nil ?_
            refine T_n ?_
            exact ⟨rfl, (i + 1, true, v5), ⟨⟨⟨fun _ => .inr ⟨i, e, Nat.lt_succ_self i, hei, by omega⟩, fun _ => rfl⟩, hi, hO5, hl, hT, hU⟩, (by show es.length - (i + 1) < es.length - i; omega)⟩, (Out.mk rfl), ⟨rfl, rfl, rfl, trivial⟩⟩
          · refine L_gy (dj := 34) rfl rfl rfl (X_cmp (k := .u32) (a := e.2.2.2.2.2.1) (b := bn) (r := false) rfl rfl rfl (decide_eq_false (p := ((e.2.2.2.2.2.1) : Int) = ((bn) : Int)) (by omega)) ?_)
            refine L_op rfl (X_pick (t := false) (v := (.bool (false))) rfl rfl ?_)
            refine L_op rfl (X_assign (v := (.bool (false))) rfl ?_)
            refine L_nil ?_
            refine T_n ?_
            refine W_reg ?_
            refine L_op rfl (X_move (v := u) rfl ?_)
            refine L_op rfl (X_move (v := l) rfl ?_)
            refine L_op rfl (X_move (v := l) rfl ?_)
            refine L_op rfl (X_len (v := l) (n := es.length) Tryd.underlying22 rfl hl.sv ?_)
            refine L_op rfl (X_arith (k := .i64) (a := ((es.length : Nat) : Int)) (b := 1) (r := (((es.length : Nat) : Int) - 1)) rfl rfl rfl (isub64 rfl (by omega) (by omega)) ?_)
            refine L_op rfl (X_move (v := (.int .i64 (((i : Nat) : Int)))) rfl ?_)
            refine L_op rfl (X_arith (k := .i64) (a := (((es.length : Nat) : Int) - 1)) (b := ((i : Nat) : Int)) (r := ((es.length - 1 - i : Nat) : Int)) rfl rfl rfl (isub64 (by omega) (by omega) (by omega)) ?_)
            refine L_op rfl (X_idx (v := l) (n := es.length) (k := .i64) (i := ((es.length - 1 - i : Nat) : Int)) S22 rfl hl.sv rfl (by omega) (by omega) ?_)
            refine L_op rfl (X_loadA (xs := e2.1 :: ptC e2.2.2) A44 rfl (kall hl (by omega) he2) rfl ?_)
            refine L_op rfl (X_buildSliceL (vs := [kidV e2]) (c := e2.1 :: ptC e2.2.2) S22 (by decide) rfl rfl (List.forall_mem_cons.2 ⟨rfl, fun _ h => by cases h⟩) rfl ?_)
            intro b13 w13 hn13
            have hbn13 := hn13.num; have hbs13 := hn13.size
            replace hl := hl.ext hn13.ext
            replace hT := hT.ext hn13.ext
            replace hU := hU.trans (Ext.upd hn13.ext)
            replace hO := hO.ext hn13.ext
            have hB13 := hn13.blk
            refine L_op rfl (X_append (B := n0) (n := i) (s := u) (x := (.slice (some ⟨b13, 0, none⟩) 1 1)) S22 ⟨_, Tryd.underlying22⟩ rfl rfl hO (m := 1) (ys := e2.1 :: ptC e2.2.2) (hB13.rd (o := 0) (n := 1) (c := 1) (sz := 6) (by decide) (by decide) rfl (fun j u hj => by rw [Nat.zero_add]; simpa using hj)) (kone hl he2) (by unfold maxLen; omega) (by omega) (by omega) ?_)
            intro v5 w5 hO5 hu5 ho5
            have hz5 := hu5.size
            replace hO5 : Own w5 n0 44 6 v5 (i + 1) ((es.reverse.take (i + 1)).flatMap LK.cel) := hO5.eq rfl (by rw [hrs, List.flatMap_append]; simp [LK])
            replace hl := hl.upd hu5 fun i h1 h2 h => by have := (hO.lt h).1; omega
            replace hT := hT.upd hu5 fun i h1 h2 h => by have := (hO.lt h).1; omega
            replace hU := hU.trans (hu5.mono fun i _ h => by have := (hO.lt h).1; show n0 ≤ i; omega)
            refine L_op rfl (X_assign (v := v5) rfl ?_)
            refine L_nil ?_
            refine B_n ?_
            refine T_n ?_
            refine W_reg ?_
            refine L_op rfl (X_move (v := (.int .i64 (((i : Nat) : Int)))) rfl ?_)
            refine L_op rfl (X_arith (k := .i64) (a := ((i : Nat) : Int)) (b := 1) (r := ((i + 1 : Nat) : Int)) rfl rfl rfl (iadd64 (by omega) (by omega) (by omega)) ?_)
            refine L_op rfl (X_assign (v := (.int .i64 (((i + 1 : Nat) : Int)))) rfl ?_)
            refine L_nil ?_
            refine T_n ?_
            exact ⟨rfl, (i + 1, false, v5), ⟨⟨⟨fun h => (by cases h), fun h => (by rcases h with h | ⟨j, e_, h1, h2, h3⟩; (· exact hg.2 (.inl h)); (· rcases Nat.lt_or_ge j i with h4 | h4; (· exact hg.2 (.inr ⟨j, e_, h4, h2, h3⟩)); (· obtain rfl : j = i := (by omega); rw [hei] at h2; cases h2; omega)))⟩, hi, hO5, hl, hT, hU⟩, (by show es.length - (i + 1) < es.length - i; omega)⟩, (Out.mk rfl), ⟨rfl, rfl, rfl, trivial⟩⟩
        · exact absurd (hg.2 (by rcases Nat.eq_zero_or_pos es.length with h0 | h0; (· exact .inl ⟨h0, hb0 h0⟩); (· obtain ⟨j, e, h1, h2, h3⟩ := birth_at hpt h0; exact .inr ⟨j, e, by omega, h2, by rw [hbn]; exact h3⟩))) (by decide)
    · refine L_op rfl (X_cmp (k := .i64) (a := ((es.length : Nat) : Int)) (b := 0) (r := false) rfl rfl rfl (decide_eq_false (p := ((((es.length : Nat) : Int)) : Int) = ((0) : Int)) (by omega)) ?_)
      refine L_op rfl (X_move (v := (.bool (false))) rfl ?_)
      refine L_gn (dj := 15) (t := false) rfl rfl rfl rfl ?_
      refine L_gn (dj := 15) (t := false) rfl rfl rfl rfl ?_
      refine L_op rfl (X_pick (t := false) (v := (.bool (false))) rfl rfl ?_)
      refine L_op rfl (X_assign (v := (.bool (false))) rfl ?_)
      refine L_nil ?_
      refine T_n ?_
      refine W_seq ?_
      refine W_reg ?_
      refine L_op rfl (X_assign (v := (.slice none 0 0)) rfl ?_)
      refine L_nil ?_
      refine T_n ?_
      refine W_seq ?_
      refine W_seq ?_
      refine W_reg ?_
      refine L_op rfl (X_assign (v := (.int .i64 (0))) rfl ?_)
      refine L_nil ?_
      refine T_n ?_
      refine W_block ?_
      refine W_loop (α := Nat × Bool × Value) [2, 4, 5, 6, 19, 20, 21, 22, 23, 24, 25, 26, 27, 28, 29, 30, 31, 32, 33, 34, 35, 36, 37, 38, 39, 40, 41, 42, 43, 44, 45, 46, 47, 48, 49, 50, 51, 52, 53, 54] (fun ⟨i, g, u⟩ => [(6, (.int .i64 ((i : Nat) : Int))), (4, (.bool g)), (5, u)]) (fun ⟨i, g, u⟩ w_ => (g = true ↔ ((es.length = 0 ∧ bn = 0) ∨ ∃ (j : Nat) (e : KE), j < i ∧ es[j]? = some e ∧ e.2.2.2.2.2.1 = bn)) ∧ i ≤ es.length ∧ Own w_ n0 44 6 u i ((es.reverse.take i).flatMap LK.cel) ∧ NRd LK w_ lo up l es ∧ TabR w_ ∧ Upd (fun i => n0 ≤ i) w w_) (fun ⟨i, g, u⟩ => es.length - i) ⟨rfl, (0, false, .slice none 0 0), ⟨⟨fun h => (by cases h), fun h => (by rcases h with ⟨h1, h2⟩ | ⟨j, _, h, _⟩; (· omega); (· exact absurd h (Nat.not_lt_zero j)))⟩, Nat.zero_le _, Own.nil _ _ _ _, hl, hT, hU⟩, Out.refl _ _, ⟨rfl, rfl, rfl, trivial⟩⟩ ?_
      rintro ⟨i, g, u⟩ w14 _ ⟨hg, hil, hO, hl, hT, hU⟩
      rcases Bool.eq_false_or_eq_true g with rfl | rfl
      · have hsz_ := hU.size
        refine W_seq ?_
        refine W_seq ?_
        refine W_reg ?_
        refine L_op rfl (X_move (v := (.int .i64 (((i : Nat) : Int)))) rfl ?_)
        refine L_op rfl (X_move (v := l) rfl ?_)
        refine L_op rfl (X_len (v := l) (n := es.length) Tryd.underlying22 rfl hl.sv ?_)
        by_cases hc15 : (((i : Nat) : Int) : Int) < (((es.length : Nat) : Int))
        · refine L_op rfl (X_cmp (k := .i64) (a := ((i : Nat) : Int)) (b := ((es.length : Nat) : Int)) (r := true) rfl rfl rfl (decide_eq_true (p := ((((i : Nat) : Int)) : Int) < ((((es.length : Nat) : Int)) : Int)) (by omega)) ?_)
          have hi : i < es.length := by omega
          obtain ⟨e, hei⟩ : ∃ e, es[i]? = some e := ⟨_, List.getElem?_eq_getElem hi⟩
          have hble : e.2.2.2.2.2.1 ≤ bn := by rw [hbn]; exact birth_le (List.mem_map_of_mem (List.mem_of_getElem? hei))
          obtain ⟨e2, he2⟩ : ∃ e, es[es.length - 1 - i]? = some e := ⟨_, List.getElem?_eq_getElem (by omega)⟩
          have hrs := rev_step he2 hi
          refine L_nil ?_
          refine T_n ?_
          refine W_ct rfl ?_
          refine W_skip ?_
          refine T_n ?_
          refine W_seq ?_
          refine W_block ?_
          refine W_seq ?_
          refine W_seq ?_
          refine W_reg ?_
          refine L_op rfl (X_move (v := l) rfl ?_)
          refine L_op rfl (X_move (v := (.int .i64 (((i : Nat) : Int)))) rfl ?_)
          refine L_op rfl (X_idx (v := l) (n := es.length) (k := .i64) (i := ((i : Nat) : Int)) S22 rfl hl.sv rfl (by omega) (by omega) ?_)
          refine L_op rfl (X_fldS (v := l) (o := (((i : Nat) : Int) : Int).toNat * 6) Fd44_1 rfl hl.sv (by omega) ?_)
          refine L_op rfl (X_fldS (v := l) (o := (((i : Nat) : Int) : Int).toNat * 6 + 1) Fd41_2 rfl hl.sv (by omega) ?_)
          refine L_op rfl (X_load (v := .int .u32 e.2.2.2.2.2.1) T35 rfl (show At _ (pof l _) _ from by have h := hl.cell hei (j := 4) rfl; rwa [show i * LK.sz + 4 = ((i : Nat) : Int).toNat * 6 + 1 + 3 by rw [Int.toNat_natCast]; rfl] at h) ?_)
          refine L_op rfl (X_move (v := (.int .u32 (bn))) rfl ?_)
          refine L_op rfl (X_cmp (k := .u32) (a := e.2.2.2.2.2.1) (b := bn) (r := false) rfl rfl rfl (decide_eq_false (p := ((bn) : Int) < ((e.2.2.2.2.2.1) : Int)) (by omega)) ?_)
          refine L_nil ?_
          refine T_n ?_
          refine W_cf rfl ?_
          refine W_skip ?_
          refine T_n ?_
          refine W_seq ?_
          refine W_reg ?_
          refine L_op rfl (X_move (v := (.bool (true))) rfl ?_)
          refine L_op rfl (X_move (v := (.bool (true))) rfl ?_)
          refine L_gn (dj := 34) (t := true) rfl rfl rfl rfl ?_
          refine L_gn (dj := 34) (t := true) rfl rfl rfl rfl ?_
          refine L_gn (dj := 34) (t := true) rfl rfl rfl rfl ?_
          refine L_gn (dj := 34) (t := true) rfl rfl rfl rfl ?_
          refine L_gn (dj := 34) (t := true) rfl rfl rfl rfl ?_
          refine L_gn (dj := 34) (t := true) rfl rfl rfl rfl ?_
          refine L_gn (dj := 34) (t := true) rfl rfl rfl rfl ?_
          refine L_gn (dj := 34) (t := true) rfl rfl rfl rfl ?_
          refine L_op rfl (X_pick (t := true) (v := (.bool (true))) rfl rfl ?_)
          refine L_op rfl (X_assign (v := (.bool (true))) rfl ?_)
          refine L_nil ?_
          refine T_n ?_
          refine W_reg ?_
          refine L_op rfl (X_move (v := u) rfl ?_)
          refine L_op rfl (X_move (v := l) rfl ?_)
          refine L_op rfl (X_move (v := l) rfl ?_)
          refine L_op rfl (X_len (v := l) (n := es.length) Tryd.underlying22 rfl hl.sv ?_)
          refine L_op rfl (X_arith (k := .i64) (a := ((es.length : Nat) : Int)) (b := 1) (r := (((es.length : Nat) : Int) - 1)) rfl rfl rfl (isub64 rfl (by omega) (by omega)) ?_)
          refine L_op rfl (X_move (v := (.int .i64 (((i : Nat) : Int)))) rfl ?_)
          refine L_op rfl (X_arith (k := .i64) (a := (((es.length : Nat) : Int) - 1)) (b := ((i : Nat) : Int)) (r := ((es.length - 1 - i : Nat) : Int)) rfl rfl rfl (isub64 (by omega) (by omega) (by omega)) ?_)
          refine L_op rfl (X_idx (v := l) (n := es.length) (k := .i64) (i := ((es.length - 1 - i : Nat) : Int)) S22 rfl hl.sv rfl (by omega) (by omega) ?_)
          refine L_op rfl (X_loadA (xs := e2.1 :: ptC e2.2.2) A44 rfl (kall hl (by omega) he2) rfl ?_)
          refine L_op rfl (X_buildSliceL (vs := [kidV e2]) (c := e2.1 :: ptC e2.2.2) S22 (by decide) rfl rfl (List.forall_mem_cons.2 ⟨rfl, fun _ h => by cases h⟩) rfl ?_)
          intro b16 w16 hn16
          have hbn16 := hn16.num; have hbs16 := hn16.size
          replace hl := hl.ext hn16.ext
          replace hT := hT.ext hn16.ext
          replace hU := hU.trans (Ext.upd hn16.ext)
          replace hO := hO.ext hn16.ext
          have hB16 := hn16.blk
          refine L_op rfl (X_append (B := n0) (n := i) (s := u) (x := (.slice (some ⟨b16, 0, none⟩) 1 1)) S22 ⟨_, Tryd.underlying22⟩ rfl rfl hO (m := 1) (ys := e2.1 :: ptC e2.2.2) (hB16.rd (o := 0) (n := 1) (c := 1) (sz := 6) (by decide) (by decide) rfl (fun j u hj => by rw [Nat.zero_add]; simpa using hj)) (kone hl he2) (by unfold maxLen; omega) (by omega) (by omega) ?_)
          intro v5 w5 hO5 hu5 ho5
          have hz5 := hu5.size
          replace hO5 : Own w5 n0 44 6 v5 (i + 1) ((es.reverse.take (i + 1)).flatMap LK.cel) := hO5.eq rfl (by rw [hrs, List.flatMap_append]; simp [LK])
          replace hl := hl.upd hu5 fun i h1 h2 h => by have := (hO.lt h).1; omega
          replace hT := hT.upd hu5 fun i h1 h2 h => by have := (hO.lt h).1; omega
          replace hU := hU.trans (hu5.mono fun i _ h => by have := (hO.lt h).1; show n0 ≤ i; omega)
          refine L_op rfl (X_assign (v := v5) rfl ?_)
          refine L_nil ?_
          refine B_n ?_
          refine T_n ?_
          refine W_reg ?_
          refine L_op rfl (X_move (v := (.int .i64 (((i : Nat) : Int)))) rfl ?_)
          refine L_op rfl (X_arith (k := .i64) (a := ((i : Nat) : Int)) (b := 1) (r := ((i + 1 : Nat) : Int)) rfl rfl rfl (iadd64 (by omega) (by omega) (by omega)) ?_)
          refine L_op rfl (X_assign (v := (.int .i64 (((i + 1 : Nat) : Int)))) rfl ?_)
          refine L_nil ?_
          refine T_n ?_
          exact ⟨rfl, (i + 1, true, v5), ⟨⟨⟨fun _ => (hg.1 rfl).elim .inl fun ⟨j, e_, h1, h2, h3⟩ => .inr ⟨j, e_, Nat.lt_succ_of_lt h1, h2, h3⟩, fun _ => rfl⟩, hi, hO5, hl, hT, hU⟩, (by show es.length - (i + 1) < es.length - i; omega)⟩, (Out.mk rfl), ⟨rfl, rfl, rfl, trivial⟩⟩
        · refine L_op rfl (X_cmp (k := .i64) (a := ((i : Nat) : Int)) (b := ((es.length : Nat) : Int)) (r := false) rfl rfl rfl (decide_eq_false (p := ((((i : Nat) : Int)) : Int) < ((((es.length : Nat) : Int)) : Int)) (by omega)) ?_)
          have hie : i = es.length := by omega
          have hb : NRd LK w14 0 w14.heap.size u es.reverse := by rw [hie, List.take_of_length_le (by rw [List.length_reverse]; exact Nat.le_refl _)] at hO; exact ⟨hO.rd.eq (by rw [List.length_reverse]) rfl, fun b hb => ⟨Nat.zero_le _, by have := (hO.lt (hO.rbk_obk hb)).2; omega⟩, fun e he s hs => (hl.2.2 e (List.mem_reverse.1 he) s hs).mono (Nat.zero_le _) (by omega)⟩
          refine L_nil ?_
          refine T_n ?_
          refine W_cf rfl ?_
          refine W_exit ?_
          refine T_e ?_
          refine T_e ?_
          refine B_x ?_
          refine T_n ?_
          refine W_seq ?_
          refine W_reg ?_
          refine L_op rfl (X_move (v := (.bool (true))) rfl ?_)
          refine L_op rfl (X_move (v := (.bool (true))) rfl ?_)
          refine L_gy (dj := 56) rfl rfl rfl (X_move (v := u) rfl ?_)
          refine L_gy (dj := 56) rfl rfl rfl (X_fn (vs := [u]) en14 rfl (CT.mono (c_birth u es.reverse _ 0 w14.heap.size (by omega) hb) ?_))
          rintro _ w17 ⟨rfl, hu17⟩
          have hz17 := hu17.size
          replace hl := hl.ext hu17
          replace hT := hT.ext hu17
          replace hU := hU.trans (Ext.upd hu17)
          replace hO := hO.ext hu17
          replace hb := hb.ext hu17
          rw [birth_rev es, ← hbn]
          refine L_gy (dj := 56) rfl rfl rfl (X_move (v := (.int .u32 (bn))) rfl ?_)
          refine L_gy (dj := 56) rfl rfl rfl (X_cmp (k := .u32) (a := bn) (b := bn) (r := true) rfl rfl rfl (decide_eq_true (p := ((bn) : Int) = ((bn) : Int)) (by omega)) ?_)
          refine L_op rfl (X_pick (t := true) (v := (.bool (true))) rfl rfl ?_)
          refine L_op rfl (X_move (v := (.bool (true))) rfl ?_)
          refine L_gy (dj := 62) rfl rfl rfl (X_fn (vs := []) en9 rfl (CT.mono (c_wakes _ hT) ?_))
          rintro vb18 w18 ⟨hvb18, hu18⟩
          have hz18 := hu18.size
          replace hl := hl.ext hu18
          replace hT := hT.ext hu18
          replace hU := hU.trans (Ext.upd hu18)
          replace hO := hO.ext hu18
          replace hb := hb.ext hu18
          subst hvb18
          refine L_op rfl (X_pick (t := true) (v := (.bool (true))) rfl rfl ?_)
          refine L_op rfl (X_assign (v := (.bool (true))) rfl ?_)
          refine L_nil ?_
          refine T_n ?_
          refine W_ret ?_
          exact BQ_r (End_1 Tryd.results5 (v := .bool true) rfl ⟨rfl, hU.own hn0⟩)
      · have hsz_ := hU.size
        refine W_seq ?_
        refine W_seq ?_
        refine W_reg ?_
        refine L_op rfl (X_move (v := (.int .i64 (((i : Nat) : Int)))) rfl ?_)
        refine L_op rfl (X_move (v := l) rfl ?_)
        refine L_op rfl (X_len (v := l) (n := es.length) Tryd.underlying22 rfl hl.sv ?_)
        by_cases hc19 : (((i : Nat) : Int) : Int) < (((es.length : Nat) : Int))
        · refine L_op rfl (X_cmp (k := .i64) (a := ((i : Nat) : Int)) (b := ((es.length : Nat) : Int)) (r := true) rfl rfl rfl (decide_eq_true (p := ((((i : Nat) : Int)) : Int) < ((((es.length : Nat) : Int)) : Int)) (by omega)) ?_)
          have hi : i < es.length := by omega
          obtain ⟨e, hei⟩ : ∃ e, es[i]? = some e := ⟨_, List.getElem?_eq_getElem hi⟩
          have hble : e.2.2.2.2.2.1 ≤ bn := by rw [hbn]; exact birth_le (List.mem_map_of_mem (List.mem_of_getElem? hei))
          obtain ⟨e2, he2⟩ : ∃ e, es[es.length - 1 - i]? = some e := ⟨_, List.getElem?_eq_getElem (by omega)⟩
          have hrs := rev_step he2 hi
          refine L_nil ?_
          refine T_n ?_
          refine W_ct rfl ?_
          refine W_skip ?_
          refine T_n ?_
          refine W_seq ?_
          refine W_block ?_
          refine W_seq ?_
          refine W_seq ?_
          refine W_reg ?_
          refine L_op rfl (X_move (v := l) rfl ?_)
          refine L_op rfl (X_move (v := (.int .i64 (((i : Nat) : Int)))) rfl ?_)
          refine L_op rfl (X_idx (v := l) (n := es.length) (k := .i64) (i := ((i : Nat) : Int)) S22 rfl hl.sv rfl (by omega) (by omega) ?_)
          refine L_op rfl (X_fldS (v := l) (o := (((i : Nat) : Int) : Int).toNat * 6) Fd44_1 rfl hl.sv (by omega) ?_)
          refine L_op rfl (X_fldS (v := l) (o := (((i : Nat) : Int) : Int).toNat * 6 + 1) Fd41_2 rfl hl.sv (by omega) ?_)
          refine L_op rfl (X_load (v := .int .u32 e.2.2.2.2.2.1) T35 rfl (show At _ (pof l _) _ from by have h := hl.cell hei (j := 4) rfl; rwa [show i * LK.sz + 4 = ((i : Nat) : Int).toNat * 6 + 1 + 3 by rw [Int.toNat_natCast]; rfl] at h) ?_)
          refine L_op rfl (X_move (v := (.int .u32 (bn))) rfl ?_)
          refine L_op rfl (X_cmp (k := .u32) (a := e.2.2.2.2.2.1) (b := bn) (r := false) rfl rfl rfl (decide_eq_false (p := ((bn) : Int) < ((e.2.2.2.2.2.1) : Int)) (by omega)) ?_)
          refine L_nil ?_
          refine T_n ?_
          refine W_cf rfl ?_
          refine W_skip ?_
          refine T_n ?_
          refine W_seq ?_
          refine W_reg ?_
          refine L_op rfl (X_move (v := (.bool (false))) rfl ?_)
          refine L_op rfl (X_move (v := (.bool (false))) rfl ?_)
          refine L_gy (dj := 34) rfl rfl rfl (X_move (v := l) rfl ?_)
          refine L_gy (dj := 34) rfl rfl rfl (X_move (v := (.int .i64 (((i : Nat) : Int)))) rfl ?_)
          refine L_gy (dj := 34) rfl rfl rfl (X_idx (v := l) (n := es.length) (k := .i64) (i := ((i : Nat) : Int)) S22 rfl hl.sv rfl (by omega) (by omega) ?_)
          refine L_gy (dj := 34) rfl rfl rfl (X_fldS (v := l) (o := (((i : Nat) : Int) : Int).toNat * 6) Fd44_1 rfl hl.sv (by omega) ?_)
          refine L_gy (dj := 34) rfl rfl rfl (X_fldS (v := l) (o := (((i : Nat) : Int) : Int).toNat * 6 + 1) Fd41_2 rfl hl.sv (by omega) ?_)
          refine L_gy (dj := 34) rfl rfl rfl (X_load (v := .int .u32 e.2.2.2.2.2.1) T35 rfl (show At _ (pof l _) _ from by have h := hl.cell hei (j := 4) rfl; rwa [show i * LK.sz + 4 = ((i : Nat) : Int).toNat * 6 + 1 + 3 by rw [Int.toNat_natCast]; rfl] at h) ?_)
          refine L_gy (dj := 34) rfl rfl rfl (X_move (v := (.int .u32 (bn))) rfl ?_)
          by_cases hc20 : (e.2.2.2.2.2.1 : Int) = (bn)
          · refine L_gy (dj := 34) rfl rfl rfl (X_cmp (k := .u32) (a := e.2.2.2.2.2.1) (b := bn) (r := true) rfl rfl rfl (decide_eq_true (p := ((e.2.2.2.2.2.1) : Int) = ((bn) : Int)) (by omega)) ?_)
            refine L_op rfl (X_pick (t := false) (v := (.bool (true))) rfl rfl ?_)
            refine L_op rfl (X_assign (v := (.bool (true))) rfl ?_)
            refine L_nil ?_
            refine T_n ?_
            refine W_reg ?_
            refine L_op rfl (X_move (v := u) rfl ?_)
            refine L_op rfl (X_move (v := l) rfl ?_)
            refine L_op rfl (X_move (v := l) rfl ?_)
            refine L_op rfl (X_len (v := l) (n := es.length) Tryd.underlying22 rfl hl.sv ?_)
            refine L_op rfl (X_arith (k := .i64) (a := ((es.length : Nat) : Int)) (b := 1) (r := (((es.length : Nat) : Int) - 1)) rfl rfl rfl (isub64 rfl (by omega) (by omega)) ?_)
            refine L_op rfl (X_move (v := (.int .i64 (((i : Nat) : Int)))) rfl ?_)
            refine L_op rfl (X_arith (k := .i64) (a := (((es.length : Nat) : Int) - 1)) (b := ((i : Nat) : Int)) (r := ((es.length - 1 - i : Nat) : Int)) rfl rfl rfl (isub64 (by omega) (by omega) (by omega)) ?_)
            refine L_op rfl (X_idx (v := l) (n := es.length) (k := .i64) (i := ((es.length - 1 - i : Nat) : Int)) S22 rfl hl.sv rfl (by omega) (by omega) ?_)
            refine L_op rfl (X_loadA (xs := e2.1 :: ptC e2.2.2) A44 rfl (kall hl (by omega) he2) rfl ?_)
            refine L_op rfl (X_buildSliceL (vs := [kidV e2]) (c := e2.1 :: ptC e2.2.2) S22 (by decide) rfl rfl (List.forall_mem_cons.2 ⟨rfl, fun _ h => by cases h⟩) rfl ?_)
            intro b21 w21 hn21
            have hbn21 := hn21.num; have hbs21 := hn21.size
            replace hl := hl.ext hn21.ext
            replace hT := hT.ext hn21.ext
            replace hU := hU.trans (Ext.upd hn21.ext)
            replace hO := hO.ext hn21.ext
            have hB21 := hn21.blk
            refine L_op rfl (X_append (B := n0) (n := i) (s := u) (x := (.slice (some ⟨b21, 0, none⟩) 1 1)) S22 ⟨_, Tryd.underlying22⟩ rfl rfl hO (m := 1) (ys := e2.1 :: ptC e2.2.2) (hB21.rd (o := 0) (n := 1) (c := 1) (sz := 6) (by decide) (by decide) rfl (fun j u hj => by rw [Nat.zero_add]; simpa using hj)) (kone hl he2) (by unfold maxLen; omega) (by omega) (by omega) ?_)
            intro v5 w5 hO5 hu5 ho5
            have hz5 := hu5.size
            replace hO5 : Own w5 n0 44 6 v5 (i + 1) ((es.reverse.take (i + 1)).flatMap LK.cel) := hO5.eq rfl (by rw [hrs, List.flatMap_append]; simp [LK])
            replace hl := hl.upd hu5 fun i h1 h2 h => by have := (hO.lt h).1; omega
            replace hT := hT.upd hu5 fun i h1 h2 h => by have := (hO.lt h).1; omega
            replace hU := hU.trans (hu5.mono fun i _ h => by have := (hO.lt h).1; show n0 ≤ i; omega)
            refine L_op rfl (X_assign (v := v5) rfl ?_)
            refine L_nil ?_
            refine B_n ?_
            refine T_n ?_
            refine W_reg ?_
            refine L_op rfl (X_move (v := (.int .i64 (((i : Nat) : Int)))) rfl ?_)
            refine L_op rfl (X_arith (k := .i64) (a := ((i : Nat) : Int)) (b := 1) (r := ((i + 1 : Nat) : Int)) rfl rfl rfl (iadd64 (by omega) (by omega) (by omega)) ?_)
            refine L_op rfl (X_assign (v := (.int .i64 (((i + 1 : Nat) : Int)))) rfl ?_)
            refine L_nil ?_
            refine T_n ?_
            exact ⟨rfl, (i + 1, true, v5), ⟨⟨⟨fun _ => .inr ⟨i, e, Nat.lt_succ_self i, hei, by omega⟩, fun _ => rfl⟩, hi, hO5, hl, hT, hU⟩, (by show es.length - (i + 1) < es.length - i; omega)⟩, (Out.mk rfl), ⟨rfl, rfl, rfl, trivial⟩⟩
          · refine L_gy (dj := 34) rfl rfl rfl (X_cmp (k := .u32) (a := e.2.2.2.2.2.1) (b := bn) (r := false) rfl rfl rfl (decide_eq_false (p := ((e.2.2.2.2.2.1) : Int) = ((bn) : Int)) (by omega)) ?_)
            refine L_op rfl (X_pick (t := false) (v := (.bool (false))) rfl rfl ?_)
            refine L_op rfl (X_assign (v := (.bool (false))) rfl ?_)
            refine L_nil ?_
            refine T_n ?_
            refine W_reg ?_
            refine L_op rfl (X_move (v := u) rfl ?_)
            refine L_op rfl (X_move (v := l) rfl ?_)
            refine L_op rfl (X_move (v := l) rfl ?_)
            refine L_op rfl (X_len (v := l) (n := es.length) Tryd.underlying22 rfl hl.sv ?_)
            refine L_op rfl (X_arith (k := .i64) (a := ((es.length : Nat) : Int)) (b := 1) (r := (((es.length : Nat) : Int) - 1)) rfl rfl rfl (isub64 rfl (by omega) (by omega)) ?_)
            refine L_op rfl (X_move (v := (.int .i64 (((i : Nat) : Int)))) rfl ?_)
            refine L_op rfl (X_arith (k := .i64) (a := (((es.length : Nat) : Int) - 1)) (b := ((i : Nat) : Int)) (r := ((es.length - 1 - i : Nat) : Int)) rfl rfl rfl (isub64 (by omega) (by omega) (by omega)) ?_)
            refine L_op rfl (X_idx (v := l) (n := es.length) (k := .i64) (i := ((es.length - 1 - i : Nat) : Int)) S22 rfl hl.sv rfl (by omega) (by omega) ?_)
            refine L_op rfl (X_loadA (xs := e2.1 :: ptC e2.2.2) A44 rfl (kall hl (by omega) he2) rfl ?_)
            refine L_op rfl (X_buildSliceL (vs := [kidV e2]) (c := e2.1 :: ptC e2.2.2) S22 (by decide) rfl rfl (List.forall_mem_cons.2 ⟨rfl, fun _ h => by cases h⟩) rfl ?_)
            intro b22 w22 hn22
            have hbn22 := hn22.num; have hbs22 := hn22.size
            replace hl := hl.ext hn22.ext
            replace hT := hT.ext hn22.ext
            replace hU := hU.trans (Ext.upd hn22.ext)
            replace hO := hO.ext hn22.ext
            have hB22 := hn22.blk
            refine L_op rfl (X_append (B := n0) (n := i) (s := u) (x := (.slice (some ⟨b22, 0, none⟩) 1 1)) S22 ⟨_, Tryd.underlying22⟩ rfl rfl hO (m := 1) (ys := e2.1 :: ptC e2.2.2) (hB22.rd (o := 0) (n := 1) (c := 1) (sz := 6) (by decide) (by decide) rfl (fun j u hj => by rw [Nat.zero_add]; simpa using hj)) (kone hl he2) (by unfold maxLen; omega) (by omega) (by omega) ?_)
            intro v5 w5 hO5 hu5 ho5
            have hz5 := hu5.size
            replace hO5 : Own w5 n0 44 6 v5 (i + 1) ((es.reverse.take (i + 1)).flatMap LK.cel) := hO5.eq rfl (by rw [hrs, List.flatMap_append]; simp [LK])
            replace hl := hl.upd hu5 fun i h1 h2 h => by have := (hO.lt h).1; omega
            replace hT := hT.upd hu5 fun i h1 h2 h => by have := (hO.lt h).1; omega
            replace hU := hU.trans (hu5.mono fun i _ h => by have := (hO.lt h).1; show n0 ≤ i; omega)
            refine L_op rfl (X_assign (v := v5) rfl ?_)
            refine L_nil ?_
            refine B_n ?_
            refine T_n ?_
            refine W_reg ?_
            refine L_op rfl (X_move (v := (.int .i64 (((i : Nat) : Int)))) rfl ?_)
            refine L_op rfl (X_arith (k := .i64) (a := ((i : Nat) : Int)) (b := 1) (r := ((i + 1 : Nat) : Int)) rfl rfl rfl (iadd64 (by omega) (by omega) (by omega)) ?_)
            refine L_op rfl (X_assign (v := (.int .i64 (((i + 1 : Nat) : Int)))) rfl ?_)
            refine L_nil ?_
            refine T_n ?_
            exact ⟨rfl, (i + 1, false, v5), ⟨⟨⟨fun h => (by cases h), fun h => (by rcases h with h | ⟨j, e_, h1, h2, h3⟩; (· exact hg.2 (.inl h)); (· rcases Nat.lt_or_ge j i with h4 | h4; (· exact hg.2 (.inr ⟨j, e_, h4, h2, h3⟩)); (· obtain rfl : j = i := (by omega); rw [hei] at h2; cases h2; omega)))⟩, hi, hO5, hl, hT, hU⟩, (by show es.length - (i + 1) < es.length - i; omega)⟩, (Out.mk rfl), ⟨rfl, rfl, rfl, trivial⟩⟩
        · exact absurd (hg.2 (by rcases Nat.eq_zero_or_pos es.length with h0 | h0; (· exact .inl ⟨h0, hb0 h0⟩); (· obtain ⟨j, e, h1, h2, h3⟩ := birth_at hpt h0; exact .inr ⟨j, e, by omega, h2, by rw [hbn]; exact h3⟩))) (by decide)
end Go.Proofs.YtbgpegccnalkeaaDoor
