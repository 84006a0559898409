/-
  The walk of LeafTells. (Printed by wip/gen/t06w.py of this repo.)
-/
import Derived.Test.YtmddmghgkkjbiaaDoorOwnB
namespace Go.Proofs.YtmddmghgkkjbiaaDoor
open Go Go.SL Go.Proofs
set_option linter.unusedVariables false

set_option maxRecDepth 10000 in
set_option maxHeartbeats 2000000 in
theorem c_leafTells (l m : Value) (es fs : List IE) (p : List UInt8) (w : World) (lo up lo2 up2 : Nat) (hup : up ≤ w.heap.size) (hup2 : up2 ≤ w.heap.size) (hl : NRd LT w lo up l es) (hm : NRd LT w lo2 up2 m fs) (hpt : ∀ e ∈ es, ItOk e.2.2) (hp : p.length = 256) (hT : TabR w) : CT Tryd.prog 6 #[l, m, (.agg ((p).map byteV).toArray)] w fun v w' => v = .bool true ∧ Ext w w' := by
  obtain ⟨n0, hn0⟩ : ∃ n, n = w.heap.size := ⟨_, rfl⟩
  have hU : Upd (fun i => n0 ≤ i) w w := Upd.refl _ _
  have hn1 := tab_pos hT
  have hmx := hl.sv.len
  rw [← hn0] at hup hup2
  refine CT_of Tryd.func6 rfl rfl rfl ?_
  refine W_seq ?_
  refine W_reg ?_
  refine L_op rfl (X_box (v := (.agg ((p).map byteV).toArray)) (c := ((p).map byteV).toArray) rfl rfl ?_)
  intro b1 w1 hn1
  have hbn1 := hn1.num; have hbs1 := hn1.size
  replace hU := hU.trans (Ext.upd hn1.ext)
  replace hT := hT.ext hn1.ext
  replace hl := hl.ext hn1.ext
  replace hm := hm.ext hn1.ext
  have hB1 := hn1.blk
  refine L_op rfl (X_assign (v := (.bool (false))) rfl ?_)
  refine L_nil ?_
  refine T_n ?_
  refine W_seq ?_
  refine W_seq ?_
  refine W_reg ?_
  refine L_op rfl (X_move (v := l) rfl ?_)
  refine L_op rfl (X_fn (vs := [l]) en8 rfl (CT.mono (c_great l es _ lo up hl) ?_))
  rintro _ _ ⟨⟨ga, rfl, hga⟩, rfl⟩
  rcases Bool.eq_false_or_eq_true (ga) with hc2 | hc2
  · rw [hc2]
    refine L_op rfl (X_move (v := (.bool (true))) rfl ?_)
    refine L_gn (dj := 17) (t := true) rfl rfl rfl rfl ?_
    refine L_gn (dj := 17) (t := true) rfl rfl rfl rfl ?_
    refine L_op rfl (X_pick (t := true) (v := (.bool (true))) rfl rfl ?_)
    refine L_nil ?_
    refine T_n ?_
    refine W_ct rfl ?_
    refine W_seq ?_
    refine W_reg ?_
    refine L_op rfl (X_fn (vs := []) en9 rfl (CT.mono (c_wakes _ hT) ?_))
    rintro vb3 w3 ⟨hvb3, hu3⟩
    have hz3 := hu3.size
    replace hU := hU.trans (Ext.upd hu3)
    replace hT := hT.ext hu3
    replace hl := hl.ext hu3
    replace hm := hm.ext hu3
    replace hB1 := hB1.ext hu3
    subst hvb3
    refine L_op rfl (X_assign (v := (.bool (true))) rfl ?_)
    refine L_nil ?_
    refine T_n ?_
    refine W_ret ?_
    refine T_r ?_
    exact BQ_r (End_1 Tryd.results6 (v := .bool true) rfl ⟨rfl, hU.own hn0⟩)
  · rw [hc2]
    refine L_op rfl (X_move (v := (.bool (false))) rfl ?_)
    refine L_gy (dj := 17) rfl rfl rfl (X_move (v := m) rfl ?_)
    refine L_gy (dj := 17) rfl rfl rfl (X_fn (vs := [m]) en8 rfl (CT.mono (c_great m fs _ lo2 up2 hm) ?_))
    rintro _ _ ⟨⟨gb, rfl, hgb⟩, rfl⟩
    rcases Bool.eq_false_or_eq_true (gb) with hc4 | hc4
    · rw [hc4]
      refine L_op rfl (X_pick (t := false) (v := (.bool (true))) rfl rfl ?_)
      refine L_nil ?_
      refine T_n ?_
      refine W_ct rfl ?_
      refine W_seq ?_
      refine W_reg ?_
      refine L_op rfl (X_fn (vs := []) en9 rfl (CT.mono (c_wakes _ hT) ?_))
      rintro vb5 w5 ⟨hvb5, hu5⟩
      have hz5 := hu5.size
      replace hU := hU.trans (Ext.upd hu5)
      replace hT := hT.ext hu5
      replace hl := hl.ext hu5
      replace hm := hm.ext hu5
      replace hB1 := hB1.ext hu5
      subst hvb5
      refine L_op rfl (X_assign (v := (.bool (true))) rfl ?_)
      refine L_nil ?_
      refine T_n ?_
      refine W_ret ?_
      refine T_r ?_
      exact BQ_r (End_1 Tryd.results6 (v := .bool true) rfl ⟨rfl, hU.own hn0⟩)
    · rw [hc4]
      refine L_op rfl (X_pick (t := false) (v := (.bool (false))) rfl rfl ?_)
      refine L_nil ?_
      refine T_n ?_
      refine W_cf rfl ?_
      refine W_skip ?_
      refine T_n ?_
      refine W_seq ?_
      obtain ⟨hn20, hk40⟩ := hga hc2
      have hik : ItK es := fun j e h => ⟨Nat.le_trans (hk40 j e h).1 (by decide), Nat.le_trans (hk40 j e h).2 (by decide)⟩
      refine W_reg ?_
      refine L_op rfl (X_move (v := l) rfl ?_)
      refine L_op rfl (X_fn (vs := [l]) en10 rfl (CT.mono (c_encodeI l es _ lo up (by omega) hl hpt hT) ?_))
      rintro _ w6 ⟨rfl, hu6⟩
      have hz6 := hu6.size
      replace hU := hU.trans (Ext.upd hu6)
      replace hT := hT.ext hu6
      replace hl := hl.ext hu6
      replace hm := hm.ext hu6
      replace hB1 := hB1.ext hu6
      refine L_op rfl (X_move (v := (.tuple #[(.agg (((encP (dsI es))).map byteV).toArray), (.int .i64 ((encE (dsI es))))])) rfl ?_)
      refine L_op rfl (X_extract (l := [(.agg (((encP (dsI es))).map byteV).toArray), (.int .i64 ((encE (dsI es))))]) (v := (.agg (((encP (dsI es))).map byteV).toArray)) rfl rfl ?_)
      refine L_op rfl (X_extract (l := [(.agg (((encP (dsI es))).map byteV).toArray), (.int .i64 ((encE (dsI es))))]) (v := (.int .i64 ((encE (dsI es))))) rfl rfl ?_)
      refine L_op rfl (X_alloc (z := zv24) (c := zc24.toArray) Zv24 rfl ?_)
      intro b7 w7 hn7
      have hbn7 := hn7.num; have hbs7 := hn7.size
      replace hU := hU.trans (Ext.upd hn7.ext)
      replace hT := hT.ext hn7.ext
      replace hl := hl.ext hn7.ext
      replace hm := hm.ext hn7.ext
      replace hB1 := hB1.ext hn7.ext
      have hB7 := hn7.blk
      rw [zc24_eq] at hB7
      refine L_op0 (X_storeW (b := b7) (ys := (((encP (dsI es))).map byteV)) A24 rfl rfl (byteV_one _) (by rw [List.length_map]; exact (encP_len _)) hB7 (by rw [List.size_toArray]; exact (by rw [List.length_map]; exact List.length_replicate)) ?_)
      intro w8 hu8 hb8
      have hz8 := hu8.size
      replace hU := hU.trans (hu8.mono fun i _ h => by have h : i = b7 := h; show n0 ≤ i; omega)
      replace hT := hT.upd hu8 fun i h1 h2 h => by have h : i = b7 := h; omega
      replace hl := hl.upd hu8 fun i h1 h2 h => by have h : i = b7 := h; omega
      replace hm := hm.upd hu8 fun i h1 h2 h => by have h : i = b7 := h; omega
      replace hB1 := hB1.upd hu8 fun h => by have h : b1 = b7 := h; omega
      replace hB7 := hb8
      refine L_op rfl (X_assign (v := (.int .i64 ((encE (dsI es))))) rfl ?_)
      refine L_nil ?_
      refine T_n ?_
      refine W_seq ?_
      refine W_reg ?_
      refine L_op rfl (X_move (v := l) rfl ?_)
      refine L_op rfl (X_fn (vs := [l]) en16 rfl (CT.mono (c_encodeIR l es _ lo up (by omega) hl hpt) ?_))
      rintro _ w9 ⟨rfl, hu9⟩
      have hz9 := hu9.size
      replace hU := hU.trans (Ext.upd hu9)
      replace hT := hT.ext hu9
      replace hl := hl.ext hu9
      replace hm := hm.ext hu9
      replace hB1 := hB1.ext hu9
      replace hB7 := hB7.ext hu9
      refine L_op rfl (X_move (v := (.tuple #[(.agg (((encP (dsI es))).map byteV).toArray), (.int .i64 ((encE (dsI es))))])) rfl ?_)
      refine L_op rfl (X_extract (l := [(.agg (((encP (dsI es))).map byteV).toArray), (.int .i64 ((encE (dsI es))))]) (v := (.agg (((encP (dsI es))).map byteV).toArray)) rfl rfl ?_)
      refine L_op rfl (X_extract (l := [(.agg (((encP (dsI es))).map byteV).toArray), (.int .i64 ((encE (dsI es))))]) (v := (.int .i64 ((encE (dsI es))))) rfl rfl ?_)
      refine L_op rfl (X_alloc (z := zv24) (c := zc24.toArray) Zv24 rfl ?_)
      intro b10 w10 hn10
      have hbn10 := hn10.num; have hbs10 := hn10.size
      replace hU := hU.trans (Ext.upd hn10.ext)
      replace hT := hT.ext hn10.ext
      replace hl := hl.ext hn10.ext
      replace hm := hm.ext hn10.ext
      replace hB1 := hB1.ext hn10.ext
      replace hB7 := hB7.ext hn10.ext
      have hB10 := hn10.blk
      rw [zc24_eq] at hB10
      refine L_op0 (X_storeW (b := b10) (ys := (((encP (dsI es))).map byteV)) A24 rfl rfl (byteV_one _) (by rw [List.length_map]; exact (encP_len _)) hB10 (by rw [List.size_toArray]; exact (by rw [List.length_map]; exact List.length_replicate)) ?_)
      intro w11 hu11 hb11
      have hz11 := hu11.size
      replace hU := hU.trans (hu11.mono fun i _ h => by have h : i = b10 := h; show n0 ≤ i; omega)
      replace hT := hT.upd hu11 fun i h1 h2 h => by have h : i = b10 := h; omega
      replace hl := hl.upd hu11 fun i h1 h2 h => by have h : i = b10 := h; omega
      replace hm := hm.upd hu11 fun i h1 h2 h => by have h : i = b10 := h; omega
      replace hB1 := hB1.upd hu11 fun h => by have h : b1 = b10 := h; omega
      replace hB7 := hB7.upd hu11 fun h => by have h : b7 = b10 := h; omega
      replace hB10 := hb11
      refine L_op rfl (X_assign (v := (.int .i64 ((encE (dsI es))))) rfl ?_)
      refine L_nil ?_
      refine T_n ?_
      refine W_seq ?_
      refine W_reg ?_
      refine L_op rfl (X_loadA (p := (ptr b1 (0))) (xs := ((p).map byteV)) A24 rfl hB1.atAll (by rw [List.length_map]; exact hp) ?_)
      obtain ⟨sd, hsd⟩ : ∃ n, n = w11.heap.size := ⟨_, rfl⟩
      refine L_op rfl (X_fn (vs := [(.agg (((p).map byteV)).toArray)]) en12 rfl (CT.mono (c_decodeI p _ hp hT) ?_))
      rintro _ w12 ⟨vd, rfl, esd, hNd, hksd, hu12⟩
      have hz12 := hu12.size
      obtain ⟨ud, hupd⟩ : ∃ n, n = w12.heap.size := ⟨_, rfl⟩
      rw [← hsd, ← hupd] at hNd
      replace hU := hU.trans (Ext.upd hu12)
      replace hT := hT.ext hu12
      replace hl := hl.ext hu12
      replace hm := hm.ext hu12
      replace hB1 := hB1.ext hu12
      replace hB7 := hB7.ext hu12
      replace hB10 := hB10.ext hu12
      refine L_op rfl (X_move (v := (.tuple #[vd, (.int .i64 ((decE p)))])) rfl ?_)
      refine L_op rfl (X_extract (l := [vd, (.int .i64 ((decE p)))]) (v := vd) rfl rfl ?_)
      refine L_op rfl (X_extract (l := [vd, (.int .i64 ((decE p)))]) (v := (.int .i64 ((decE p)))) rfl rfl ?_)
      refine L_op rfl (X_assign (v := vd) rfl ?_)
      refine L_op rfl (X_assign (v := (.int .i64 ((decE p)))) rfl ?_)
      refine L_nil ?_
      refine T_n ?_
      refine W_seq ?_
      refine W_reg ?_
      refine L_op rfl (X_loadA (p := (ptr b1 (0))) (xs := ((p).map byteV)) A24 rfl hB1.atAll (by rw [List.length_map]; exact hp) ?_)
      obtain ⟨sr, hsr⟩ : ∃ n, n = w12.heap.size := ⟨_, rfl⟩
      refine L_op rfl (X_fn (vs := [(.agg (((p).map byteV)).toArray)]) en17 rfl (CT.mono (c_decodeIR p _ hp) ?_))
      rintro _ w13 ⟨vr, rfl, esr, hNr, hksr, hu13⟩
      have hz13 := hu13.size
      obtain ⟨ur, hupr⟩ : ∃ n, n = w13.heap.size := ⟨_, rfl⟩
      rw [← hsr, ← hupr] at hNr
      replace hU := hU.trans (Ext.upd hu13)
      replace hT := hT.ext hu13
      replace hl := hl.ext hu13
      replace hm := hm.ext hu13
      replace hB1 := hB1.ext hu13
      replace hB7 := hB7.ext hu13
      replace hB10 := hB10.ext hu13
      replace hNd := hNd.ext hu13
      refine L_op rfl (X_move (v := (.tuple #[vr, (.int .i64 ((decE p)))])) rfl ?_)
      refine L_op rfl (X_extract (l := [vr, (.int .i64 ((decE p)))]) (v := vr) rfl rfl ?_)
      refine L_op rfl (X_extract (l := [vr, (.int .i64 ((decE p)))]) (v := (.int .i64 ((decE p)))) rfl rfl ?_)
      refine L_op rfl (X_assign (v := vr) rfl ?_)
      refine L_op rfl (X_assign (v := (.int .i64 ((decE p)))) rfl ?_)
      refine L_nil ?_
      refine T_n ?_
      refine W_seq ?_
      refine W_reg ?_
      refine L_op rfl (X_loadA (p := (ptr b7 (0))) (xs := (((encP (dsI es))).map byteV)) A24 rfl hB7.atAll (by rw [List.length_map]; exact (encP_len _)) ?_)
      refine L_op rfl (X_loadA (p := (ptr b10 (0))) (xs := (((encP (dsI es))).map byteV)) A24 rfl hB10.atAll (by rw [List.length_map]; exact (encP_len _)) ?_)
      refine L_op rfl (X_eqA (n := 256) (l := (encP (dsI es))) (m := (encP (dsI es))) (r := true) Tryd.underlying24 Tryd.underlying5 (by kernel_rfl) (by kernel_rfl) (by kernel_rfl) rfl rfl ((encP_len _)) ((encP_len _)) (.inl ⟨rfl, (beq_self_eq_true _)⟩) ?_)
      refine L_op rfl (X_move (v := (.bool (true))) rfl ?_)
      refine L_gy (dj := 45) rfl rfl rfl (X_move (v := (.int .i64 ((encE (dsI es))))) rfl ?_)
      refine L_gy (dj := 45) rfl rfl rfl (X_move (v := (.int .i64 ((encE (dsI es))))) rfl ?_)
      refine L_gy (dj := 45) rfl rfl rfl (X_cmp (k := .i64) (a := (encE (dsI es))) (b := (encE (dsI es))) (r := true) rfl rfl rfl (decide_eq_true (p := (((encE (dsI es))) : Int) = (((encE (dsI es))) : Int)) (by omega)) ?_)
      refine L_op rfl (X_pick (t := true) (v := (.bool (true))) rfl rfl ?_)
      refine L_op rfl (X_move (v := (.bool (true))) rfl ?_)
      refine L_gy (dj := 50) rfl rfl rfl (X_move (v := vd) rfl ?_)
      refine L_gy (dj := 50) rfl rfl rfl (X_move (v := vr) rfl ?_)
      refine L_gy (dj := 50) rfl rfl rfl (X_fn (vs := [vd, vr]) en13 rfl (CT.mono (c_sameR vd vr esd esr _ sd ud sr ur hNd.rd hNr.rd) ?_))
      rintro _ w14 ⟨⟨g14, rfl, hg14⟩, hu14⟩
      have hz14 := hu14.size
      replace hU := hU.trans (Ext.upd hu14)
      replace hT := hT.ext hu14
      replace hl := hl.ext hu14
      replace hm := hm.ext hu14
      replace hB1 := hB1.ext hu14
      replace hB7 := hB7.ext hu14
      replace hB10 := hB10.ext hu14
      replace hNd := hNd.ext hu14
      replace hNr := hNr.ext hu14
      obtain rfl : g14 = true := hg14.2 (hksd.trans hksr.symm)
      refine L_op rfl (X_pick (t := true) (v := (.bool (true))) rfl rfl ?_)
      refine L_op rfl (X_move (v := (.bool (true))) rfl ?_)
      refine L_gy (dj := 55) rfl rfl rfl (X_move (v := (.int .i64 ((decE p)))) rfl ?_)
      refine L_gy (dj := 55) rfl rfl rfl (X_move (v := (.int .i64 ((decE p)))) rfl ?_)
      refine L_gy (dj := 55) rfl rfl rfl (X_cmp (k := .i64) (a := (decE p)) (b := (decE p)) (r := true) rfl rfl rfl (decide_eq_true (p := (((decE p)) : Int) = (((decE p)) : Int)) (by omega)) ?_)
      refine L_op rfl (X_pick (t := true) (v := (.bool (true))) rfl rfl ?_)
      refine L_op rfl (X_move (v := (.bool (true))) rfl ?_)
      refine L_gy (dj := 60) rfl rfl rfl (X_move (v := l) rfl ?_)
      refine L_gy (dj := 60) rfl rfl rfl (X_fn (vs := [l]) en14 rfl (CT.mono (c_rightI l es _ lo up (by omega) hl hpt) ?_))
      rintro _ w15 ⟨rfl, hu15⟩
      have hz15 := hu15.size
      replace hU := hU.trans (Ext.upd hu15)
      replace hT := hT.ext hu15
      replace hl := hl.ext hu15
      replace hm := hm.ext hu15
      replace hB1 := hB1.ext hu15
      replace hB7 := hB7.ext hu15
      replace hB10 := hB10.ext hu15
      replace hNd := hNd.ext hu15
      replace hNr := hNr.ext hu15
      rcases Bool.eq_false_or_eq_true (decide (RightI (dsI es))) with hc16 | hc16
      · rw [hc16]
        refine L_gy (dj := 60) rfl rfl rfl (X_move (v := l) rfl ?_)
        refine L_gy (dj := 60) rfl rfl rfl (X_fn (vs := [l]) en11 rfl (CT.mono (c_rightIR l es _ lo up (by omega) hl hpt) ?_))
        rintro _ w17 ⟨rfl, hu17⟩
        have hz17 := hu17.size
        replace hU := hU.trans (Ext.upd hu17)
        replace hT := hT.ext hu17
        replace hl := hl.ext hu17
        replace hm := hm.ext hu17
        replace hB1 := hB1.ext hu17
        replace hB7 := hB7.ext hu17
        replace hB10 := hB10.ext hu17
        replace hNd := hNd.ext hu17
        replace hNr := hNr.ext hu17
        rw [show (decide (RightI (dsI es))) = true from hc16]
        refine L_gy (dj := 60) rfl rfl rfl (X_cmpBool (a := true) (b := true) (r := true) Tryd.underlying4 rfl rfl (.inl ⟨rfl, rfl⟩) ?_)
        refine L_op rfl (X_pick (t := true) (v := (.bool (true))) rfl rfl ?_)
        refine L_op rfl (X_move (v := (.bool (true))) rfl ?_)
        refine L_gy (dj := 67) rfl rfl rfl (X_move (v := l) rfl ?_)
        refine L_gy (dj := 67) rfl rfl rfl (X_move (v := m) rfl ?_)
        refine L_gy (dj := 67) rfl rfl rfl (X_fn (vs := [l, m]) en15 rfl (CT.mono (c_sameI l m es fs _ lo up lo2 up2 (by omega) (by omega) hl hm) ?_))
        rintro _ w18 ⟨⟨g1, rfl, hg1⟩, hu18⟩
        have hz18 := hu18.size
        replace hU := hU.trans (Ext.upd hu18)
        replace hT := hT.ext hu18
        replace hl := hl.ext hu18
        replace hm := hm.ext hu18
        replace hB1 := hB1.ext hu18
        replace hB7 := hB7.ext hu18
        replace hB10 := hB10.ext hu18
        replace hNd := hNd.ext hu18
        replace hNr := hNr.ext hu18
        rcases Bool.eq_false_or_eq_true (g1) with hc19 | hc19
        · rw [hc19]
          refine L_gy (dj := 67) rfl rfl rfl (X_move (v := l) rfl ?_)
          refine L_gy (dj := 67) rfl rfl rfl (X_move (v := m) rfl ?_)
          refine L_gy (dj := 67) rfl rfl rfl (X_fn (vs := [l, m]) en13 rfl (CT.mono (c_sameR l m es fs _ lo up lo2 up2 hl hm) ?_))
          rintro _ w20 ⟨⟨g2, rfl, hg2⟩, hu20⟩
          have hz20 := hu20.size
          replace hU := hU.trans (Ext.upd hu20)
          replace hT := hT.ext hu20
          replace hl := hl.ext hu20
          replace hm := hm.ext hu20
          replace hB1 := hB1.ext hu20
          replace hB7 := hB7.ext hu20
          replace hB10 := hB10.ext hu20
          replace hNd := hNd.ext hu20
          replace hNr := hNr.ext hu20
          obtain rfl : g2 = true := hg2.2 (hg1.1 hc19)
          refine L_gy (dj := 67) rfl rfl rfl (X_cmpBool (a := true) (b := true) (r := true) Tryd.underlying4 rfl rfl (.inl ⟨rfl, rfl⟩) ?_)
          refine L_op rfl (X_pick (t := true) (v := (.bool (true))) rfl rfl ?_)
          refine L_op rfl (X_move (v := (.bool (true))) rfl ?_)
          refine L_gy (dj := 76) rfl rfl rfl (X_move (v := l) rfl ?_)
          obtain ⟨sa, hsa⟩ : ∃ n, n = w20.heap.size := ⟨_, rfl⟩
          refine L_gy (dj := 76) rfl rfl rfl (X_fn (vs := [l]) en18 rfl (CT.mono (c_ownI l es _ lo up (by omega) hl hik (by omega)) ?_))
          rintro va w21 ⟨esa, hNa, _, hksa, hu21⟩
          have hz21 := hu21.size
          obtain ⟨ua, hupa⟩ : ∃ n, n = w21.heap.size := ⟨_, rfl⟩
          rw [← hsa, ← hupa] at hNa
          replace hU := hU.trans (Ext.upd hu21)
          replace hT := hT.ext hu21
          replace hl := hl.ext hu21
          replace hm := hm.ext hu21
          replace hB1 := hB1.ext hu21
          replace hB7 := hB7.ext hu21
          replace hB10 := hB10.ext hu21
          replace hNd := hNd.ext hu21
          replace hNr := hNr.ext hu21
          refine L_gy (dj := 76) rfl rfl rfl (X_move (v := l) rfl ?_)
          refine L_gy (dj := 76) rfl rfl rfl (X_fn (vs := [va, l]) en13 rfl (CT.mono (c_sameR va l esa es _ sa ua lo up hNa.rd hl) ?_))
          rintro _ w22 ⟨⟨g22, rfl, hg22⟩, hu22⟩
          have hz22 := hu22.size
          replace hU := hU.trans (Ext.upd hu22)
          replace hT := hT.ext hu22
          replace hl := hl.ext hu22
          replace hm := hm.ext hu22
          replace hB1 := hB1.ext hu22
          replace hB7 := hB7.ext hu22
          replace hB10 := hB10.ext hu22
          replace hNd := hNd.ext hu22
          replace hNr := hNr.ext hu22
          replace hNa := hNa.ext hu22
          obtain rfl : g22 = true := hg22.2 (hksa)
          refine L_op rfl (X_pick (t := true) (v := (.bool (true))) rfl rfl ?_)
          refine L_op rfl (X_move (v := (.bool (true))) rfl ?_)
          refine L_gy (dj := 82) rfl rfl rfl (X_fn (vs := []) en9 rfl (CT.mono (c_wakes _ hT) ?_))
          rintro vb23 w23 ⟨hvb23, hu23⟩
          have hz23 := hu23.size
          replace hU := hU.trans (Ext.upd hu23)
          replace hT := hT.ext hu23
          replace hl := hl.ext hu23
          replace hm := hm.ext hu23
          replace hB1 := hB1.ext hu23
          replace hB7 := hB7.ext hu23
          replace hB10 := hB10.ext hu23
          replace hNd := hNd.ext hu23
          replace hNr := hNr.ext hu23
          replace hNa := hNa.ext hu23
          subst hvb23
          refine L_op rfl (X_pick (t := true) (v := (.bool (true))) rfl rfl ?_)
          refine L_op rfl (X_assign (v := (.bool (true))) rfl ?_)
          refine L_nil ?_
          refine T_n ?_
          refine W_ret ?_
          exact BQ_r (End_1 Tryd.results6 (v := .bool true) rfl ⟨rfl, hU.own hn0⟩)
        · rw [hc19]
          refine L_gy (dj := 67) rfl rfl rfl (X_move (v := l) rfl ?_)
          refine L_gy (dj := 67) rfl rfl rfl (X_move (v := m) rfl ?_)
          refine L_gy (dj := 67) rfl rfl rfl (X_fn (vs := [l, m]) en13 rfl (CT.mono (c_sameR l m es fs _ lo up lo2 up2 hl hm) ?_))
          rintro _ w24 ⟨⟨g2, rfl, hg2⟩, hu24⟩
          have hz24 := hu24.size
          replace hU := hU.trans (Ext.upd hu24)
          replace hT := hT.ext hu24
          replace hl := hl.ext hu24
          replace hm := hm.ext hu24
          replace hB1 := hB1.ext hu24
          replace hB7 := hB7.ext hu24
          replace hB10 := hB10.ext hu24
          replace hNd := hNd.ext hu24
          replace hNr := hNr.ext hu24
          obtain rfl : g2 = false := Bool.eq_false_iff.2 fun h9 => Bool.eq_false_iff.1 hc19 (hg1.2 (hg2.1 h9))
          refine L_gy (dj := 67) rfl rfl rfl (X_cmpBool (a := false) (b := false) (r := true) Tryd.underlying4 rfl rfl (.inl ⟨rfl, rfl⟩) ?_)
          refine L_op rfl (X_pick (t := true) (v := (.bool (true))) rfl rfl ?_)
          refine L_op rfl (X_move (v := (.bool (true))) rfl ?_)
          refine L_gy (dj := 76) rfl rfl rfl (X_move (v := l) rfl ?_)
          obtain ⟨sa, hsa⟩ : ∃ n, n = w24.heap.size := ⟨_, rfl⟩
          refine L_gy (dj := 76) rfl rfl rfl (X_fn (vs := [l]) en18 rfl (CT.mono (c_ownI l es _ lo up (by omega) hl hik (by omega)) ?_))
          rintro va w25 ⟨esa, hNa, _, hksa, hu25⟩
          have hz25 := hu25.size
          obtain ⟨ua, hupa⟩ : ∃ n, n = w25.heap.size := ⟨_, rfl⟩
          rw [← hsa, ← hupa] at hNa
          replace hU := hU.trans (Ext.upd hu25)
          replace hT := hT.ext hu25
          replace hl := hl.ext hu25
          replace hm := hm.ext hu25
          replace hB1 := hB1.ext hu25
          replace hB7 := hB7.ext hu25
          replace hB10 := hB10.ext hu25
          replace hNd := hNd.ext hu25
          replace hNr := hNr.ext hu25
          refine L_gy (dj := 76) rfl rfl rfl (X_move (v := l) rfl ?_)
          refine L_gy (dj := 76) rfl rfl rfl (X_fn (vs := [va, l]) en13 rfl (CT.mono (c_sameR va l esa es _ sa ua lo up hNa.rd hl) ?_))
          rintro _ w26 ⟨⟨g26, rfl, hg26⟩, hu26⟩
          have hz26 := hu26.size
          replace hU := hU.trans (Ext.upd hu26)
          replace hT := hT.ext hu26
          replace hl := hl.ext hu26
          replace hm := hm.ext hu26
          replace hB1 := hB1.ext hu26
          replace hB7 := hB7.ext hu26
          replace hB10 := hB10.ext hu26
          replace hNd := hNd.ext hu26
          replace hNr := hNr.ext hu26
          replace hNa := hNa.ext hu26
          obtain rfl : g26 = true := hg26.2 (hksa)
          refine L_op rfl (X_pick (t := true) (v := (.bool (true))) rfl rfl ?_)
          refine L_op rfl (X_move (v := (.bool (true))) rfl ?_)
          refine L_gy (dj := 82) rfl rfl rfl (X_fn (vs := []) en9 rfl (CT.mono (c_wakes _ hT) ?_))
          rintro vb27 w27 ⟨hvb27, hu27⟩
          have hz27 := hu27.size
          replace hU := hU.trans (Ext.upd hu27)
          replace hT := hT.ext hu27
          replace hl := hl.ext hu27
          replace hm := hm.ext hu27
          replace hB1 := hB1.ext hu27
          replace hB7 := hB7.ext hu27
          replace hB10 := hB10.ext hu27
          replace hNd := hNd.ext hu27
          replace hNr := hNr.ext hu27
          replace hNa := hNa.ext hu27
          subst hvb27
          refine L_op rfl (X_pick (t := true) (v := (.bool (true))) rfl rfl ?_)
          refine L_op rfl (X_assign (v := (.bool (true))) rfl ?_)
          refine L_nil ?_
          refine T_n ?_
          refine W_ret ?_
          exact BQ_r (End_1 Tryd.results6 (v := .bool true) rfl ⟨rfl, hU.own hn0⟩)
      · rw [hc16]
        refine L_gy (dj := 60) rfl rfl rfl (X_move (v := l) rfl ?_)
        refine L_gy (dj := 60) rfl rfl rfl (X_fn (vs := [l]) en11 rfl (CT.mono (c_rightIR l es _ lo up (by omega) hl hpt) ?_))
        rintro _ w28 ⟨rfl, hu28⟩
        have hz28 := hu28.size
        replace hU := hU.trans (Ext.upd hu28)
        replace hT := hT.ext hu28
        replace hl := hl.ext hu28
        replace hm := hm.ext hu28
        replace hB1 := hB1.ext hu28
        replace hB7 := hB7.ext hu28
        replace hB10 := hB10.ext hu28
        replace hNd := hNd.ext hu28
        replace hNr := hNr.ext hu28
        rw [show (decide (RightI (dsI es))) = false from hc16]
        refine L_gy (dj := 60) rfl rfl rfl (X_cmpBool (a := false) (b := false) (r := true) Tryd.underlying4 rfl rfl (.inl ⟨rfl, rfl⟩) ?_)
        refine L_op rfl (X_pick (t := true) (v := (.bool (true))) rfl rfl ?_)
        refine L_op rfl (X_move (v := (.bool (true))) rfl ?_)
        refine L_gy (dj := 67) rfl rfl rfl (X_move (v := l) rfl ?_)
        refine L_gy (dj := 67) rfl rfl rfl (X_move (v := m) rfl ?_)
        refine L_gy (dj := 67) rfl rfl rfl (X_fn (vs := [l, m]) en15 rfl (CT.mono (c_sameI l m es fs _ lo up lo2 up2 (by omega) (by omega) hl hm) ?_))
        rintro _ w29 ⟨⟨g1, rfl, hg1⟩, hu29⟩
        have hz29 := hu29.size
        replace hU := hU.trans (Ext.upd hu29)
        replace hT := hT.ext hu29
        replace hl := hl.ext hu29
        replace hm := hm.ext hu29
        replace hB1 := hB1.ext hu29
        replace hB7 := hB7.ext hu29
        replace hB10 := hB10.ext hu29
        replace hNd := hNd.ext hu29
        replace hNr := hNr.ext hu29
        rcases Bool.eq_false_or_eq_true (g1) with hc30 | hc30
        · rw [hc30]
          refine L_gy (dj := 67) rfl rfl rfl (X_move (v := l) rfl ?_)
          refine L_gy (dj := 67) rfl rfl rfl (X_move (v := m) rfl ?_)
          refine L_gy (dj := 67) rfl rfl rfl (X_fn (vs := [l, m]) en13 rfl (CT.mono (c_sameR l m es fs _ lo up lo2 up2 hl hm) ?_))
          rintro _ w31 ⟨⟨g2, rfl, hg2⟩, hu31⟩
          have hz31 := hu31.size
          replace hU := hU.trans (Ext.upd hu31)
          replace hT := hT.ext hu31
          replace hl := hl.ext hu31
          replace hm := hm.ext hu31
          replace hB1 := hB1.ext hu31
          replace hB7 := hB7.ext hu31
          replace hB10 := hB10.ext hu31
          replace hNd := hNd.ext hu31
          replace hNr := hNr.ext hu31
          obtain rfl : g2 = true := hg2.2 (hg1.1 hc30)
          refine L_gy (dj := 67) rfl rfl rfl (X_cmpBool (a := true) (b := true) (r := true) Tryd.underlying4 rfl rfl (.inl ⟨rfl, rfl⟩) ?_)
          refine L_op rfl (X_pick (t := true) (v := (.bool (true))) rfl rfl ?_)
          refine L_op rfl (X_move (v := (.bool (true))) rfl ?_)
          refine L_gy (dj := 76) rfl rfl rfl (X_move (v := l) rfl ?_)
          obtain ⟨sa, hsa⟩ : ∃ n, n = w31.heap.size := ⟨_, rfl⟩
          refine L_gy (dj := 76) rfl rfl rfl (X_fn (vs := [l]) en18 rfl (CT.mono (c_ownI l es _ lo up (by omega) hl hik (by omega)) ?_))
          rintro va w32 ⟨esa, hNa, _, hksa, hu32⟩
          have hz32 := hu32.size
          obtain ⟨ua, hupa⟩ : ∃ n, n = w32.heap.size := ⟨_, rfl⟩
          rw [← hsa, ← hupa] at hNa
          replace hU := hU.trans (Ext.upd hu32)
          replace hT := hT.ext hu32
          replace hl := hl.ext hu32
          replace hm := hm.ext hu32
          replace hB1 := hB1.ext hu32
          replace hB7 := hB7.ext hu32
          replace hB10 := hB10.ext hu32
          replace hNd := hNd.ext hu32
          replace hNr := hNr.ext hu32
          refine L_gy (dj := 76) rfl rfl rfl (X_move (v := l) rfl ?_)
          refine L_gy (dj := 76) rfl rfl rfl (X_fn (vs := [va, l]) en13 rfl (CT.mono (c_sameR va l esa es _ sa ua lo up hNa.rd hl) ?_))
          rintro _ w33 ⟨⟨g33, rfl, hg33⟩, hu33⟩
          have hz33 := hu33.size
          replace hU := hU.trans (Ext.upd hu33)
          replace hT := hT.ext hu33
          replace hl := hl.ext hu33
          replace hm := hm.ext hu33
          replace hB1 := hB1.ext hu33
          replace hB7 := hB7.ext hu33
          replace hB10 := hB10.ext hu33
          replace hNd := hNd.ext hu33
          replace hNr := hNr.ext hu33
          replace hNa := hNa.ext hu33
          obtain rfl : g33 = true := hg33.2 (hksa)
          refine L_op rfl (X_pick (t := true) (v := (.bool (true))) rfl rfl ?_)
          refine L_op rfl (X_move (v := (.bool (true))) rfl ?_)
          refine L_gy (dj := 82) rfl rfl rfl (X_fn (vs := []) en9 rfl (CT.mono (c_wakes _ hT) ?_))
          rintro vb34 w34 ⟨hvb34, hu34⟩
          have hz34 := hu34.size
          replace hU := hU.trans (Ext.upd hu34)
          replace hT := hT.ext hu34
          replace hl := hl.ext hu34
          replace hm := hm.ext hu34
          replace hB1 := hB1.ext hu34
          replace hB7 := hB7.ext hu34
          replace hB10 := hB10.ext hu34
          replace hNd := hNd.ext hu34
          replace hNr := hNr.ext hu34
          replace hNa := hNa.ext hu34
          subst hvb34
          refine L_op rfl (X_pick (t := true) (v := (.bool (true))) rfl rfl ?_)
          refine L_op rfl (X_assign (v := (.bool (true))) rfl ?_)
          refine L_nil ?_
          refine T_n ?_
          refine W_ret ?_
          exact BQ_r (End_1 Tryd.results6 (v := .bool true) rfl ⟨rfl, hU.own hn0⟩)
        · rw [hc30]
          refine L_gy (dj := 67) rfl rfl rfl (X_move (v := l) rfl ?_)
          refine L_gy (dj := 67) rfl rfl rfl (X_move (v := m) rfl ?_)
          refine L_gy (dj := 67) rfl rfl rfl (X_fn (vs := [l, m]) en13 rfl (CT.mono (c_sameR l m es fs _ lo up lo2 up2 hl hm) ?_))
          rintro _ w35 ⟨⟨g2, rfl, hg2⟩, hu35⟩
          have hz35 := hu35.size
          replace hU := hU.trans (Ext.upd hu35)
          replace hT := hT.ext hu35
          replace hl := hl.ext hu35
          replace hm := hm.ext hu35
          replace hB1 := hB1.ext hu35
          replace hB7 := hB7.ext hu35
          replace hB10 := hB10.ext hu35
          replace hNd := hNd.ext hu35
          replace hNr := hNr.ext hu35
          obtain rfl : g2 = false := Bool.eq_false_iff.2 fun h9 => Bool.eq_false_iff.1 hc30 (hg1.2 (hg2.1 h9))
          refine L_gy (dj := 67) rfl rfl rfl (X_cmpBool (a := false) (b := false) (r := true) Tryd.underlying4 rfl rfl (.inl ⟨rfl, rfl⟩) ?_)
          refine L_op rfl (X_pick (t := true) (v := (.bool (true))) rfl rfl ?_)
          refine L_op rfl (X_move (v := (.bool (true))) rfl ?_)
          refine L_gy (dj := 76) rfl rfl rfl (X_move (v := l) rfl ?_)
          obtain ⟨sa, hsa⟩ : ∃ n, n = w35.heap.size := ⟨_, rfl⟩
          refine L_gy (dj := 76) rfl rfl rfl (X_fn (vs := [l]) en18 rfl (CT.mono (c_ownI l es _ lo up (by omega) hl hik (by omega)) ?_))
          rintro va w36 ⟨esa, hNa, _, hksa, hu36⟩
          have hz36 := hu36.size
          obtain ⟨ua, hupa⟩ : ∃ n, n = w36.heap.size := ⟨_, rfl⟩
          rw [← hsa, ← hupa] at hNa
          replace hU := hU.trans (Ext.upd hu36)
          replace hT := hT.ext hu36
          replace hl := hl.ext hu36
          replace hm := hm.ext hu36
          replace hB1 := hB1.ext hu36
          replace hB7 := hB7.ext hu36
          replace hB10 := hB10.ext hu36
          replace hNd := hNd.ext hu36
          replace hNr := hNr.ext hu36
          refine L_gy (dj := 76) rfl rfl rfl (X_move (v := l) rfl ?_)
          refine L_gy (dj := 76) rfl rfl rfl (X_fn (vs := [va, l]) en13 rfl (CT.mono (c_sameR va l esa es _ sa ua lo up hNa.rd hl) ?_))
          rintro _ w37 ⟨⟨g37, rfl, hg37⟩, hu37⟩
          have hz37 := hu37.size
          replace hU := hU.trans (Ext.upd hu37)
          replace hT := hT.ext hu37
          replace hl := hl.ext hu37
          replace hm := hm.ext hu37
          replace hB1 := hB1.ext hu37
          replace hB7 := hB7.ext hu37
          replace hB10 := hB10.ext hu37
          replace hNd := hNd.ext hu37
          replace hNr := hNr.ext hu37
          replace hNa := hNa.ext hu37
          obtain rfl : g37 = true := hg37.2 (hksa)
          refine L_op rfl (X_pick (t := true) (v := (.bool (true))) rfl rfl ?_)
          refine L_op rfl (X_move (v := (.bool (true))) rfl ?_)
          refine L_gy (dj := 82) rfl rfl rfl (X_fn (vs := []) en9 rfl (CT.mono (c_wakes _ hT) ?_))
          rintro vb38 w38 ⟨hvb38, hu38⟩
          have hz38 := hu38.size
          replace hU := hU.trans (Ext.upd hu38)
          replace hT := hT.ext hu38
          replace hl := hl.ext hu38
          replace hm := hm.ext hu38
          replace hB1 := hB1.ext hu38
          replace hB7 := hB7.ext hu38
          replace hB10 := hB10.ext hu38
          replace hNd := hNd.ext hu38
          replace hNr := hNr.ext hu38
          replace hNa := hNa.ext hu38
          subst hvb38
          refine L_op rfl (X_pick (t := true) (v := (.bool (true))) rfl rfl ?_)
          refine L_op rfl (X_assign (v := (.bool (true))) rfl ?_)
          refine L_nil ?_
          refine T_n ?_
          refine W_ret ?_
          exact BQ_r (End_1 Tryd.results6 (v := .bool true) rfl ⟨rfl, hU.own hn0⟩)
end Go.Proofs.YtmddmghgkkjbiaaDoor
