/-
  The walk of BranchBack. (Printed by wip/gen/t07n.py of this repo.)
-/
import Derived.Test.YtbgpegccnalkeaaDoorJust
import Derived.Test.YtbgpegccnalkeaaDoorBaseS
namespace Go.Proofs.YtbgpegccnalkeaaDoor
open Go Go.SL Go.Proofs
set_option linter.unusedVariables false

theorem tmod_lo {a : Int} {n : Nat} (h : 0 < n) : -(n : Int) < a.tmod n ∧ a.tmod n < n := by
  refine ⟨?_, Int.tmod_lt_of_pos a (by omega)⟩
  rcases Int.le_total 0 a with h1 | h1
  · have := Int.tmod_nonneg (n : Int) h1; omega
  · have h2 := Int.tmod_lt_of_pos (-a) (show (0 : Int) < n by omega)
    rw [Int.neg_tmod] at h2
    omega

theorem xor_ne {l : List UInt8} {K : Nat} {x y : UInt8} (hx : l[K]? = some x) (hy : y ≠ 0) : l.set K (x ^^^ y) ≠ l := by
  intro h
  have h1 := congrArg (·[K]?) h
  have hK := (List.getElem?_eq_some_iff.1 hx).1
  simp only [List.getElem?_set_self hK, hx, Option.some.injEq] at h1
  have h2 : x ^^^ (x ^^^ y) = x ^^^ x := by rw [h1]
  rw [← UInt8.xor_assoc, UInt8.xor_self, UInt8.zero_xor] at h2
  exact hy h2
theorem xor_eq {l : List UInt8} {K : Nat} {x y : UInt8} (hx : l[K]? = some x) (hy : y = 0) : l.set K (x ^^^ y) = l := by
  subst hy
  obtain ⟨hK, hx⟩ := List.getElem?_eq_some_iff.1 hx
  rw [UInt8.xor_zero, ← hx, List.set_getElem_self]
theorem set_cells {l : List UInt8} {K : Nat} (z : UInt8) : (l.map byteV).toArray.setIfInBounds K (byteV z) = ((l.set K z).map byteV).toArray := by
  rw [List.setIfInBounds_toArray, List.map_set]

theorem c_branchBack (l : Value) (es : List KE) (m : Int) (y : UInt8) (w : World) (lo up : Nat) (hup : up ≤ w.heap.size) (hl : NRd LK w lo up l es) (hpt : ∀ e ∈ es, PtOk e.2.2) (hT : TabR w) : CT Tryd.prog 3 #[l, (.int .i64 (m)), (byteV y)] w fun v w' => v = .bool true ∧ Ext w w' := by
  obtain ⟨n0, hn0⟩ : ∃ n, n = w.heap.size := ⟨_, rfl⟩
  have hU : Upd (fun i => n0 ≤ i) w w := Upd.refl _ _
  have hn1 := tab_pos hT
  have hmx := hl.sv.len
  rw [← hn0] at hup
  have hpk : ∀ d ∈ (es.map (fun (x : KE) => x.2)), PtOk d.2 := fun d hd => by obtain ⟨e, he, rfl⟩ := List.mem_map.1 hd; exact hpt e he
  refine CT_of Tryd.func3 rfl rfl rfl ?_
  refine W_seq ?_
  refine W_reg ?_
  refine L_op rfl (X_assign (v := (.bool (false))) rfl ?_)
  refine L_nil ?_
  refine T_n ?_
  refine W_seq ?_
  refine W_seq ?_
  refine W_reg ?_
  refine L_op rfl (X_move (v := l) rfl ?_)
  refine L_op rfl (X_fn (vs := [l]) en8 rfl (CT.mono (c_great l es _ lo up hl) ?_))
  rintro _ _ ⟨⟨gg, rfl, hgg⟩, rfl⟩
  rcases Bool.eq_false_or_eq_true (gg) with hc1 | hc1
  · rw [hc1]
    refine L_nil ?_
    refine T_n ?_
    refine W_ct rfl ?_
    refine W_seq ?_
    refine W_reg ?_
    refine L_op rfl (X_fn (vs := []) en9 rfl (CT.mono (c_wakes _ hT) ?_))
    rintro vb2 w2 ⟨hvb2, hu2⟩
    have hz2 := hu2.size
    replace hU := hU.trans (Ext.upd hu2)
    replace hT := hT.ext hu2
    replace hl := hl.ext hu2
    subst hvb2
    refine L_op rfl (X_assign (v := (.bool (true))) rfl ?_)
    refine L_nil ?_
    refine T_n ?_
    refine W_ret ?_
    refine T_r ?_
    exact BQ_r (End_1 Tryd.results3 (v := .bool true) rfl ⟨rfl, hU.own hn0⟩)
  · rw [hc1]
    refine L_nil ?_
    refine T_n ?_
    refine W_cf rfl ?_
    refine W_skip ?_
    refine T_n ?_
    refine W_seq ?_
    refine W_reg ?_
    refine L_op rfl (X_move (v := l) rfl ?_)
    rcases Bool.eq_false_or_eq_true (decide (RightK (es.map (fun (x : KE) => x.2)))) with hc3 | hc3
    · have hR_ := of_decide_eq_true hc3
      refine L_op rfl (X_fn (vs := [l]) en10 rfl (CT.mono (c_encodeK l es _ lo up (by omega) hl hpt hT) ?_))
      rintro _ w4 ⟨rfl, hu4⟩
      have hz4 := hu4.size
      replace hU := hU.trans (Ext.upd hu4)
      replace hT := hT.ext hu4
      replace hl := hl.ext hu4
      rw [encE_ok hR_]
      refine L_op rfl (X_move (v := (.tuple #[(.agg (((encP (es.map (fun (x : KE) => x.2)))).map byteV).toArray), (.int .i64 (0))])) rfl ?_)
      refine L_op rfl (X_extract (l := [(.agg (((encP (es.map (fun (x : KE) => x.2)))).map byteV).toArray), (.int .i64 (0))]) (v := (.agg (((encP (es.map (fun (x : KE) => x.2)))).map byteV).toArray)) rfl rfl ?_)
      refine L_op rfl (X_extract (l := [(.agg (((encP (es.map (fun (x : KE) => x.2)))).map byteV).toArray), (.int .i64 (0))]) (v := (.int .i64 (0))) rfl rfl ?_)
      refine L_op rfl (X_alloc (z := zv26) (c := zc26.toArray) Zv26 rfl ?_)
      intro b5 w5 hn5
      have hbn5 := hn5.num; have hbs5 := hn5.size
      replace hU := hU.trans (Ext.upd hn5.ext)
      replace hT := hT.ext hn5.ext
      replace hl := hl.ext hn5.ext
      have hB5 := hn5.blk
      rw [zc26_eq] at hB5
      refine L_op0 (X_storeW (b := b5) (ys := (((encP (es.map (fun (x : KE) => x.2)))).map byteV)) A26 rfl rfl (byteV_one _) (by rw [List.length_map]; exact (encP_len _)) hB5 (by rw [List.size_toArray]; exact (by rw [List.length_map]; exact List.length_replicate)) ?_)
      intro w6 hu6 hb6
      have hz6 := hu6.size
      replace hU := hU.trans (hu6.mono fun i _ h => by have h : i = b5 := h; show n0 ≤ i; omega)
      replace hT := hT.upd hu6 fun i h1 h2 h => by have h : i = b5 := h; omega
      replace hl := hl.upd hu6 fun i h1 h2 h => by have h : i = b5 := h; omega
      replace hB5 := hb6
      refine L_op rfl (X_assign (v := (.int .i64 (0))) rfl ?_)
      refine L_nil ?_
      refine T_n ?_
      refine W_seq ?_
      refine W_seq ?_
      refine W_reg ?_
      refine L_op rfl (X_move (v := l) rfl ?_)
      refine L_op rfl (X_fn (vs := [l]) en11 rfl (CT.mono (c_rightK l es _ lo up (by omega) hl hpt) ?_))
      rintro _ w7 ⟨rfl, hu7⟩
      have hz7 := hu7.size
      replace hU := hU.trans (Ext.upd hu7)
      replace hT := hT.ext hu7
      replace hl := hl.ext hu7
      replace hB5 := hB5.ext hu7
      rw [show (decide (RightK (es.map (fun (x : KE) => x.2)))) = true from hc3]
      refine L_op rfl (X_not (b := true) (r := false) rfl rfl ?_)
      refine L_nil ?_
      refine T_n ?_
      refine W_cf rfl ?_
      refine W_skip ?_
      refine T_n ?_
      refine W_seq ?_
      refine W_reg ?_
      refine L_op rfl (X_loadA (p := (ptr b5 (0))) (xs := (((encP (es.map (fun (x : KE) => x.2)))).map byteV)) A26 rfl hB5.atAll (by rw [List.length_map]; exact (encP_len _)) ?_)
      obtain ⟨sd, hsd⟩ : ∃ n, n = w7.heap.size := ⟨_, rfl⟩
      refine L_op rfl (X_fn (vs := [(.agg ((((encP (es.map (fun (x : KE) => x.2)))).map byteV)).toArray)]) en12 rfl (CT.mono (c_decodeK (encP (es.map (fun (x : KE) => x.2))) _ (encP_len _) hT) ?_))
      rintro _ w8 ⟨vd, rfl, esd, hNd, hdid, hksd, hu8⟩
      have hz8 := hu8.size
      obtain ⟨ud, hupd⟩ : ∃ n, n = w8.heap.size := ⟨_, rfl⟩
      rw [← hsd, ← hupd] at hNd
      replace hU := hU.trans (Ext.upd hu8)
      replace hT := hT.ext hu8
      replace hl := hl.ext hu8
      replace hB5 := hB5.ext hu8
      rw [(dec_encP hR_ hpk).1]
      rw [(dec_encP hR_ hpk).2] at hksd
      refine L_op rfl (X_move (v := (.tuple #[vd, (.int .i64 (0))])) rfl ?_)
      refine L_op rfl (X_extract (l := [vd, (.int .i64 (0))]) (v := vd) rfl rfl ?_)
      refine L_op rfl (X_extract (l := [vd, (.int .i64 (0))]) (v := (.int .i64 (0))) rfl rfl ?_)
      refine L_op rfl (X_assign (v := vd) rfl ?_)
      refine L_op rfl (X_assign (v := (.int .i64 (0))) rfl ?_)
      refine L_nil ?_
      refine T_n ?_
      refine W_seq ?_
      refine W_seq ?_
      refine W_reg ?_
      refine L_op rfl (X_move (v := (.int .i64 (0))) rfl ?_)
      refine L_op rfl (X_cmp (k := .i64) (a := 0) (b := 0) (r := false) rfl rfl rfl rfl ?_)
      refine L_op rfl (X_move (v := (.bool (false))) rfl ?_)
      refine L_gy (dj := 41) rfl rfl rfl (X_move (v := (.int .i64 (0))) rfl ?_)
      refine L_gy (dj := 41) rfl rfl rfl (X_cmp (k := .i64) (a := 0) (b := 0) (r := false) rfl rfl rfl rfl ?_)
      refine L_op rfl (X_pick (t := false) (v := (.bool (false))) rfl rfl ?_)
      refine L_op rfl (X_move (v := (.bool (false))) rfl ?_)
      refine L_gy (dj := 45) rfl rfl rfl (X_move (v := vd) rfl ?_)
      refine L_gy (dj := 45) rfl rfl rfl (X_move (v := l) rfl ?_)
      refine L_gy (dj := 45) rfl rfl rfl (X_fn (vs := [vd, l]) en13 rfl (CT.mono (c_sameL vd l esd es _ sd ud lo up hNd.rd hl) ?_))
      rintro _ w9 ⟨⟨g9, rfl, hg9⟩, hu9⟩
      have hz9 := hu9.size
      replace hU := hU.trans (Ext.upd hu9)
      replace hT := hT.ext hu9
      replace hl := hl.ext hu9
      replace hB5 := hB5.ext hu9
      replace hNd := hNd.ext hu9
      obtain rfl : g9 = true := hg9.2 (hksd)
      refine L_gy (dj := 45) rfl rfl rfl (X_not (b := true) (r := false) rfl rfl ?_)
      refine L_op rfl (X_pick (t := false) (v := (.bool (false))) rfl rfl ?_)
      refine L_nil ?_
      refine T_n ?_
      refine W_cf rfl ?_
      refine W_skip ?_
      refine T_n ?_
      refine W_seq ?_
      obtain ⟨q2, hq2⟩ : ∃ q, q = m.tmod 256 := ⟨_, rfl⟩
      have hql2 : -256 < q2 ∧ q2 < 256 := by rw [hq2]; exact tmod_lo (a := m) (n := 256) (by decide)
      obtain ⟨K, hK0⟩ : ∃ A : Nat, ((A : Nat) : Int) = (q2 + 256) % 256 := ⟨((q2 + 256) % 256).toNat, Int.toNat_of_nonneg (by omega)⟩
      have hKl : K < 256 := by omega
      obtain ⟨x0, hx0⟩ : ∃ x, (encP (es.map (fun (x : KE) => x.2)))[K]? = some x := ⟨_, List.getElem?_eq_getElem (by rw [encP_len]; exact hKl)⟩
      refine W_reg ?_
      refine L_op rfl (X_move (v := (.int .i64 (m))) rfl ?_)
      refine L_op rfl (X_arith (k := .i64) (a := m) (b := 256) (r := q2) rfl rfl rfl hq2.symm ?_)
      refine L_op rfl (X_arith (k := .i64) (a := q2) (b := 256) (r := q2 + 256) rfl rfl rfl (iadd64 rfl (by omega) (by omega)) ?_)
      refine L_op rfl (X_arith (k := .i64) (a := q2 + 256) (b := 256) (r := ((K : Nat) : Int)) rfl rfl rfl (irem64 (by omega) hK0) ?_)
      refine L_op rfl (X_assign (v := (.int .i64 (((K : Nat) : Int)))) rfl ?_)
      refine L_nil ?_
      refine T_n ?_
      refine W_seq ?_
      refine W_reg ?_
      refine L_op rfl (X_move (v := (.int .i64 (((K : Nat) : Int)))) rfl ?_)
      refine L_op rfl (X_move (v := (.int .i64 (((K : Nat) : Int)))) rfl ?_)
      refine L_op rfl (X_idxAP (len := 256) (sz := 1) (b := b5) (o := 0) (k := .i64) (i := ((K : Nat) : Int)) (r := (((K : Nat) : Int) : Int).toNat) Tryd.underlying26 Z5 rfl rfl (by omega) (by omega) (by omega) ?_)
      refine L_op rfl (X_load (p := (ptr b5 ((((K : Nat) : Int) : Int).toNat))) (v := .int .u8 ((x0.toNat : Nat) : Int)) T5 rfl (hB5.at1 (by rw [show ((K : Nat) : Int).toNat = K from rfl]; rw [List.getElem?_toArray, List.getElem?_map, hx0]; rfl)) ?_)
      refine L_op rfl (X_move (v := (byteV y)) rfl ?_)
      refine L_op rfl (X_arith (k := .u8) (a := ((x0.toNat : Nat) : Int)) (b := ((y.toNat : Nat) : Int)) (r := (((x0 ^^^ y).toNat : Nat) : Int)) rfl rfl rfl (u8_xor x0 y) ?_)
      refine L_op rfl (X_idxAP (len := 256) (sz := 1) (b := b5) (o := 0) (k := .i64) (i := ((K : Nat) : Int)) (r := (((K : Nat) : Int) : Int).toNat) Tryd.underlying26 Z5 rfl rfl (by omega) (by omega) (by omega) ?_)
      refine L_op0 (X_store (b := b5) (o := K) (v := byteV (x0 ^^^ y)) T5 rfl rfl rfl hB5 (by rw [List.size_toArray, List.length_map, encP_len]; exact hKl) ?_)
      intro w7 hu7 hb7
      have hz7 := hu7.size
      replace hU := hU.trans (hu7.mono fun i _ h => by have h : i = b5 := h; show n0 ≤ i; omega)
      replace hT := hT.upd hu7 fun i h1 h2 h => by have h : i = b5 := h; omega
      replace hl := hl.upd hu7 fun i h1 h2 h => by have h : i = b5 := h; omega
      replace hNd := hNd.upd hu7 fun i h1 h2 h => by have h : i = b5 := h; omega
      rw [set_cells] at hb7
      obtain ⟨pn, hpn⟩ : ∃ p_, p_ = (encP (es.map (fun (x : KE) => x.2))).set K (x0 ^^^ y) := ⟨_, rfl⟩
      rw [← hpn] at hb7
      have hpnl : pn.length = 256 := by rw [hpn, List.length_set]; exact encP_len _
      replace hB5 := hb7
      refine L_nil ?_
      refine T_n ?_
      refine W_seq ?_
      refine W_reg ?_
      refine L_op rfl (X_loadA (p := (ptr b5 (0))) (xs := ((pn).map byteV)) A26 rfl hB5.atAll (by rw [List.length_map]; exact hpnl) ?_)
      by_cases hy0 : y = 0
      · have hpe : pn = (encP (es.map (fun (x : KE) => x.2))) := by rw [hpn]; exact xor_eq hx0 hy0
        have hy8 : ((y.toNat : Nat) : Int) = 0 := by rw [hy0]; rfl
        obtain ⟨sn, hsn⟩ : ∃ n, n = w7.heap.size := ⟨_, rfl⟩
        refine L_op rfl (X_fn (vs := [(.agg (((pn).map byteV)).toArray)]) en12 rfl (CT.mono (c_decodeK pn _ hpnl hT) ?_))
        rintro _ w10 ⟨vn, rfl, esn, hNn, hdin, hksn, hu10⟩
        have hz10 := hu10.size
        obtain ⟨un, hupn⟩ : ∃ n, n = w10.heap.size := ⟨_, rfl⟩
        rw [← hsn, ← hupn] at hNn
        replace hU := hU.trans (Ext.upd hu10)
        replace hT := hT.ext hu10
        replace hl := hl.ext hu10
        replace hNd := hNd.ext hu10
        replace hB5 := hB5.ext hu10
        rw [show decE pn = 0 by rw [hpe]; exact (dec_encP hR_ hpk).1]
        rw [show decL pn = (es.map (fun (x : KE) => x.2)) by rw [hpe]; exact (dec_encP hR_ hpk).2] at hksn
        refine L_op rfl (X_move (v := (.tuple #[vn, (.int .i64 (0))])) rfl ?_)
        refine L_op rfl (X_extract (l := [vn, (.int .i64 (0))]) (v := vn) rfl rfl ?_)
        refine L_op rfl (X_extract (l := [vn, (.int .i64 (0))]) (v := (.int .i64 (0))) rfl rfl ?_)
        refine L_op rfl (X_assign (v := vn) rfl ?_)
        refine L_op rfl (X_assign (v := (.int .i64 (0))) rfl ?_)
        refine L_nil ?_
        refine T_n ?_
        refine W_seq ?_
        refine W_reg ?_
        refine L_op rfl (X_move (v := (.int .i64 (0))) rfl ?_)
        refine L_op rfl (X_cmp (k := .i64) (a := 0) (b := 0) (r := true) rfl rfl rfl rfl ?_)
        refine L_op rfl (X_move (v := (.bool (true))) rfl ?_)
        refine L_gy (dj := 69) rfl rfl rfl (X_move (v := vn) rfl ?_)
        refine L_gy (dj := 69) rfl rfl rfl (X_move (v := l) rfl ?_)
        refine L_gy (dj := 69) rfl rfl rfl (X_fn (vs := [vn, l]) en13 rfl (CT.mono (c_sameL vn l esn es _ sn un lo up hNn.rd hl) ?_))
        rintro _ w11 ⟨⟨g11, rfl, hg11⟩, hu11⟩
        have hz11 := hu11.size
        replace hU := hU.trans (Ext.upd hu11)
        replace hT := hT.ext hu11
        replace hl := hl.ext hu11
        replace hNd := hNd.ext hu11
        replace hB5 := hB5.ext hu11
        replace hNn := hNn.ext hu11
        obtain rfl : g11 = true := hg11.2 (hksn)
        refine L_op rfl (X_pick (t := true) (v := (.bool (true))) rfl rfl ?_)
        refine L_op rfl (X_move (v := (byteV y)) rfl ?_)
        refine L_op rfl (X_cmp (k := .u8) (a := ((y.toNat : Nat) : Int)) (b := 0) (r := true) rfl rfl rfl (decide_eq_true (p := ((((y.toNat : Nat) : Int)) : Int) = ((0) : Int)) (by omega)) ?_)
        refine L_op rfl (X_cmpBool (a := true) (b := true) (r := true) Tryd.underlying4 rfl rfl (.inl ⟨rfl, rfl⟩) ?_)
        refine L_op rfl (X_move (v := (.bool (true))) rfl ?_)
        refine L_gy (dj := 77) rfl rfl rfl (X_fn (vs := []) en9 rfl (CT.mono (c_wakes _ hT) ?_))
        rintro vb12 w12 ⟨hvb12, hu12⟩
        have hz12 := hu12.size
        replace hU := hU.trans (Ext.upd hu12)
        replace hT := hT.ext hu12
        replace hl := hl.ext hu12
        replace hNd := hNd.ext hu12
        replace hB5 := hB5.ext hu12
        replace hNn := hNn.ext hu12
        subst hvb12
        refine L_op rfl (X_pick (t := true) (v := (.bool (true))) rfl rfl ?_)
        refine L_op rfl (X_assign (v := (.bool (true))) rfl ?_)
        refine L_nil ?_
        refine T_n ?_
        refine W_ret ?_
        exact BQ_r (End_1 Tryd.results3 (v := .bool true) rfl ⟨rfl, hU.own hn0⟩)
      · have hpe : pn ≠ (encP (es.map (fun (x : KE) => x.2))) := by rw [hpn]; exact xor_ne hx0 hy0
        have hy8 : ((y.toNat : Nat) : Int) ≠ 0 := fun h => hy0 (UInt8.toNat_inj.1 (by show y.toNat = 0; omega))
        obtain ⟨sn, hsn⟩ : ∃ n, n = w7.heap.size := ⟨_, rfl⟩
        refine L_op rfl (X_fn (vs := [(.agg (((pn).map byteV)).toArray)]) en12 rfl (CT.mono (c_decodeK pn _ hpnl hT) ?_))
        rintro _ w13 ⟨vn, rfl, esn, hNn, hdin, hksn, hu13⟩
        have hz13 := hu13.size
        obtain ⟨un, hupn⟩ : ∃ n, n = w13.heap.size := ⟨_, rfl⟩
        rw [← hsn, ← hupn] at hNn
        replace hU := hU.trans (Ext.upd hu13)
        replace hT := hT.ext hu13
        replace hl := hl.ext hu13
        replace hNd := hNd.ext hu13
        replace hB5 := hB5.ext hu13
        refine L_op rfl (X_move (v := (.tuple #[vn, (.int .i64 ((decE pn)))])) rfl ?_)
        refine L_op rfl (X_extract (l := [vn, (.int .i64 ((decE pn)))]) (v := vn) rfl rfl ?_)
        refine L_op rfl (X_extract (l := [vn, (.int .i64 ((decE pn)))]) (v := (.int .i64 ((decE pn)))) rfl rfl ?_)
        refine L_op rfl (X_assign (v := vn) rfl ?_)
        refine L_op rfl (X_assign (v := (.int .i64 ((decE pn)))) rfl ?_)
        refine L_nil ?_
        refine T_n ?_
        refine W_seq ?_
        refine W_reg ?_
        refine L_op rfl (X_move (v := (.int .i64 ((decE pn)))) rfl ?_)
        by_cases hc14 : ((decE pn) : Int) = (0)
        · refine L_op rfl (X_cmp (k := .i64) (a := (decE pn)) (b := 0) (r := true) rfl rfl rfl (decide_eq_true (p := (((decE pn)) : Int) = ((0) : Int)) (by omega)) ?_)
          refine L_op rfl (X_move (v := (.bool (true))) rfl ?_)
          refine L_gy (dj := 69) rfl rfl rfl (X_move (v := vn) rfl ?_)
          refine L_gy (dj := 69) rfl rfl rfl (X_move (v := l) rfl ?_)
          refine L_gy (dj := 69) rfl rfl rfl (X_fn (vs := [vn, l]) en13 rfl (CT.mono (c_sameL vn l esn es _ sn un lo up hNn.rd hl) ?_))
          rintro _ w15 ⟨⟨g15, rfl, hg15⟩, hu15⟩
          have hz15 := hu15.size
          replace hU := hU.trans (Ext.upd hu15)
          replace hT := hT.ext hu15
          replace hl := hl.ext hu15
          replace hNd := hNd.ext hu15
          replace hB5 := hB5.ext hu15
          replace hNn := hNn.ext hu15
          obtain rfl : g15 = false := Bool.eq_false_iff.2 fun h => (fun h => hpe (by rw [← h, hksn]; exact (dec_just hpnl (by omega)).2.1.symm)) (hg15.1 h)
          refine L_op rfl (X_pick (t := true) (v := (.bool (false))) rfl rfl ?_)
          refine L_op rfl (X_move (v := (byteV y)) rfl ?_)
          refine L_op rfl (X_cmp (k := .u8) (a := ((y.toNat : Nat) : Int)) (b := 0) (r := false) rfl rfl rfl (decide_eq_false (p := ((((y.toNat : Nat) : Int)) : Int) = ((0) : Int)) (by omega)) ?_)
          refine L_op rfl (X_cmpBool (a := false) (b := false) (r := true) Tryd.underlying4 rfl rfl (.inl ⟨rfl, rfl⟩) ?_)
          refine L_op rfl (X_move (v := (.bool (true))) rfl ?_)
          refine L_gy (dj := 77) rfl rfl rfl (X_fn (vs := []) en9 rfl (CT.mono (c_wakes _ hT) ?_))
          rintro vb16 w16 ⟨hvb16, hu16⟩
          have hz16 := hu16.size
          replace hU := hU.trans (Ext.upd hu16)
          replace hT := hT.ext hu16
          replace hl := hl.ext hu16
          replace hNd := hNd.ext hu16
          replace hB5 := hB5.ext hu16
          replace hNn := hNn.ext hu16
          subst hvb16
          refine L_op rfl (X_pick (t := true) (v := (.bool (true))) rfl rfl ?_)
          refine L_op rfl (X_assign (v := (.bool (true))) rfl ?_)
          refine L_nil ?_
          refine T_n ?_
          refine W_ret ?_
          exact BQ_r (End_1 Tryd.results3 (v := .bool true) rfl ⟨rfl, hU.own hn0⟩)
        · refine L_op rfl (X_cmp (k := .i64) (a := (decE pn)) (b := 0) (r := false) rfl rfl rfl (decide_eq_false (p := (((decE pn)) : Int) = ((0) : Int)) (by omega)) ?_)
          refine L_op rfl (X_move (v := (.bool (false))) rfl ?_)
          refine L_gn (dj := 69) (t := false) rfl rfl rfl rfl ?_
          refine L_gn (dj := 69) (t := false) rfl rfl rfl rfl ?_
          refine L_gn (dj := 69) (t := false) rfl rfl rfl rfl ?_
          refine L_op rfl (X_pick (t := false) (v := (.bool (false))) rfl rfl ?_)
          refine L_op rfl (X_move (v := (byteV y)) rfl ?_)
          refine L_op rfl (X_cmp (k := .u8) (a := ((y.toNat : Nat) : Int)) (b := 0) (r := false) rfl rfl rfl (decide_eq_false (p := ((((y.toNat : Nat) : Int)) : Int) = ((0) : Int)) (by omega)) ?_)
          refine L_op rfl (X_cmpBool (a := false) (b := false) (r := true) Tryd.underlying4 rfl rfl (.inl ⟨rfl, rfl⟩) ?_)
          refine L_op rfl (X_move (v := (.bool (true))) rfl ?_)
          refine L_gy (dj := 77) rfl rfl rfl (X_fn (vs := []) en9 rfl (CT.mono (c_wakes _ hT) ?_))
          rintro vb17 w17 ⟨hvb17, hu17⟩
          have hz17 := hu17.size
          replace hU := hU.trans (Ext.upd hu17)
          replace hT := hT.ext hu17
          replace hl := hl.ext hu17
          replace hNd := hNd.ext hu17
          replace hB5 := hB5.ext hu17
          replace hNn := hNn.ext hu17
          subst hvb17
          refine L_op rfl (X_pick (t := true) (v := (.bool (true))) rfl rfl ?_)
          refine L_op rfl (X_assign (v := (.bool (true))) rfl ?_)
          refine L_nil ?_
          refine T_n ?_
          refine W_ret ?_
          exact BQ_r (End_1 Tryd.results3 (v := .bool true) rfl ⟨rfl, hU.own hn0⟩)
    · have hR_ := of_decide_eq_false hc3
      refine L_op rfl (X_fn (vs := [l]) en10 rfl (CT.mono (c_encodeK l es _ lo up (by omega) hl hpt hT) ?_))
      rintro _ w18 ⟨rfl, hu18⟩
      have hz18 := hu18.size
      replace hU := hU.trans (Ext.upd hu18)
      replace hT := hT.ext hu18
      replace hl := hl.ext hu18
      rw [encP_no hR_, encE_no hR_]
      refine L_op rfl (X_move (v := (.tuple #[(.agg (((List.replicate 256 (0 : UInt8))).map byteV).toArray), (.int .i64 (2))])) rfl ?_)
      refine L_op rfl (X_extract (l := [(.agg (((List.replicate 256 (0 : UInt8))).map byteV).toArray), (.int .i64 (2))]) (v := (.agg (((List.replicate 256 (0 : UInt8))).map byteV).toArray)) rfl rfl ?_)
      refine L_op rfl (X_extract (l := [(.agg (((List.replicate 256 (0 : UInt8))).map byteV).toArray), (.int .i64 (2))]) (v := (.int .i64 (2))) rfl rfl ?_)
      refine L_op rfl (X_alloc (z := zv26) (c := zc26.toArray) Zv26 rfl ?_)
      intro b19 w19 hn19
      have hbn19 := hn19.num; have hbs19 := hn19.size
      replace hU := hU.trans (Ext.upd hn19.ext)
      replace hT := hT.ext hn19.ext
      replace hl := hl.ext hn19.ext
      have hB19 := hn19.blk
      rw [zc26_eq] at hB19
      refine L_op0 (X_storeW (b := b19) (ys := (((List.replicate 256 (0 : UInt8))).map byteV)) A26 rfl rfl (byteV_one _) (by rw [List.length_map]; exact List.length_replicate) hB19 (by rw [List.size_toArray]; exact (by rw [List.length_map]; exact List.length_replicate)) ?_)
      intro w20 hu20 hb20
      have hz20 := hu20.size
      replace hU := hU.trans (hu20.mono fun i _ h => by have h : i = b19 := h; show n0 ≤ i; omega)
      replace hT := hT.upd hu20 fun i h1 h2 h => by have h : i = b19 := h; omega
      replace hl := hl.upd hu20 fun i h1 h2 h => by have h : i = b19 := h; omega
      replace hB19 := hb20
      refine L_op rfl (X_assign (v := (.int .i64 (2))) rfl ?_)
      refine L_nil ?_
      refine T_n ?_
      refine W_seq ?_
      refine W_seq ?_
      refine W_reg ?_
      refine L_op rfl (X_move (v := l) rfl ?_)
      refine L_op rfl (X_fn (vs := [l]) en11 rfl (CT.mono (c_rightK l es _ lo up (by omega) hl hpt) ?_))
      rintro _ w21 ⟨rfl, hu21⟩
      have hz21 := hu21.size
      replace hU := hU.trans (Ext.upd hu21)
      replace hT := hT.ext hu21
      replace hl := hl.ext hu21
      replace hB19 := hB19.ext hu21
      rw [show (decide (RightK (es.map (fun (x : KE) => x.2)))) = false from hc3]
      refine L_op rfl (X_not (b := false) (r := true) rfl rfl ?_)
      refine L_nil ?_
      refine T_n ?_
      refine W_ct rfl ?_
      refine W_seq ?_
      refine W_reg ?_
      refine L_op rfl (X_move (v := (.int .i64 (2))) rfl ?_)
      refine L_op rfl (X_cmp (k := .i64) (a := 2) (b := 2) (r := true) rfl rfl rfl rfl ?_)
      refine L_op rfl (X_move (v := (.bool (true))) rfl ?_)
      refine L_gy (dj := 26) rfl rfl rfl (X_loadA (p := (ptr b19 (0))) (xs := (((List.replicate 256 (0 : UInt8))).map byteV)) A26 rfl hB19.atAll (by rw [List.length_map]; exact List.length_replicate) ?_)
      refine L_gy (dj := 26) rfl rfl rfl (X_build built26z ?_)
      refine L_gy (dj := 26) rfl rfl rfl (X_eqA (n := 256) (l := (List.replicate 256 (0 : UInt8))) (m := (List.replicate 256 (0 : UInt8))) (r := true) Tryd.underlying26 Tryd.underlying5 (by kernel_rfl) (by kernel_rfl) (by kernel_rfl) rfl rfl (List.length_replicate) (List.length_replicate) (.inl ⟨rfl, (beq_self_eq_true _)⟩) ?_)
      refine L_op rfl (X_pick (t := true) (v := (.bool (true))) rfl rfl ?_)
      refine L_op rfl (X_move (v := (.bool (true))) rfl ?_)
      refine L_gy (dj := 31) rfl rfl rfl (X_fn (vs := []) en9 rfl (CT.mono (c_wakes _ hT) ?_))
      rintro vb22 w22 ⟨hvb22, hu22⟩
      have hz22 := hu22.size
      replace hU := hU.trans (Ext.upd hu22)
      replace hT := hT.ext hu22
      replace hl := hl.ext hu22
      replace hB19 := hB19.ext hu22
      subst hvb22
      refine L_op rfl (X_pick (t := true) (v := (.bool (true))) rfl rfl ?_)
      refine L_op rfl (X_assign (v := (.bool (true))) rfl ?_)
      refine L_nil ?_
      refine T_n ?_
      refine W_ret ?_
      refine T_r ?_
      exact BQ_r (End_1 Tryd.results3 (v := .bool true) rfl ⟨rfl, hU.own hn0⟩)
end Go.Proofs.YtbgpegccnalkeaaDoor
