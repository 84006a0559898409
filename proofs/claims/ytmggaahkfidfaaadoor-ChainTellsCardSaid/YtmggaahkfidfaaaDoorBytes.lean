/-
  The walk of ChainBytes. (Printed by wip/gen/t08l.py of this repo.)
-/
import Derived.Test.YtmggaahkfidfaaaDoorBack
namespace Go.Proofs.YtmggaahkfidfaaaDoor
open Go Go.SL Go.Proofs
set_option linter.unusedVariables false

theorem tmod_lo {a : Int} {n : Nat} (h : 0 < n) : -(n : Int) < a.tmod n ∧ a.tmod n < n := by
  refine ⟨?_, Int.tmod_lt_of_pos a (by omega)⟩
  rcases Int.le_total 0 a with h1 | h1
  · have := Int.tmod_nonneg (n : Int) h1; omega
  · have h2 := Int.tmod_lt_of_pos (-a) (show (0 : Int) < n by omega)
    rw [Int.neg_tmod] at h2
    omega

theorem xor_ne {l : List UInt8} {K : Nat} {x y : UInt8} (hx : l[K]? = some x) (hy : y ≠ 0) : l.set K (x ^^^ y) ≠ l := by
  intro h
  have h1 := congrArg (·[K]?) h
  have hK := (List.getElem?_eq_some_iff.1 hx).1
  simp only [List.getElem?_set_self hK, hx, Option.some.injEq] at h1
  have h2 : x ^^^ (x ^^^ y) = x ^^^ x := by rw [h1]
  rw [← UInt8.xor_assoc, UInt8.xor_self, UInt8.zero_xor] at h2
  exact hy h2
theorem set_cells {l : List UInt8} {K : Nat} (z : UInt8) : (l.map byteV).toArray.setIfInBounds K (byteV z) = ((l.set K z).map byteV).toArray := by
  rw [List.setIfInBounds_toArray, List.map_set]

set_option maxRecDepth 10000 in
set_option maxHeartbeats 2000000 in
theorem c_chainBytes (b : Value) (l : List UInt8) (m : Int) (y : UInt8) (w : World) (hb : Rd w 1 b l.length (l.map byteV)) (hT : TabR w) : CT Tryd.prog 4 #[b, (.int .i64 (m)), (byteV y)] w fun v w' => v = .bool true ∧ Ext w w' := by
  obtain ⟨n0, hn0⟩ : ∃ n, n = w.heap.size := ⟨_, rfl⟩
  have hU : Upd (fun i => n0 ≤ i) w w := Upd.refl _ _
  have hb_b : ∀ i, rbk b = some i → i < n0 := by rw [hn0]; exact fun i hi => hb.bound (by decide) hi
  have hn1 := tab_pos hT
  refine CT_of Tryd.func4 rfl rfl rfl ?_
  refine W_seq ?_
  refine W_reg ?_
  refine L_op rfl (X_assign (v := (.bool (false))) rfl ?_)
  refine L_nil ?_
  refine T_n ?_
  refine W_seq ?_
  refine W_seq ?_
  refine W_reg ?_
  refine L_op rfl (X_move (v := b) rfl ?_)
  refine L_op rfl (X_len (v := b) (n := l.length) Tryd.underlying22 rfl hb.sv ?_)
  by_cases hc1 : (((l.length : Nat) : Int) : Int) < (1)
  · refine L_op rfl (X_cmp (k := .i64) (a := ((l.length : Nat) : Int)) (b := 1) (r := true) rfl rfl rfl (decide_eq_true (p := ((((l.length : Nat) : Int)) : Int) < ((1) : Int)) (by omega)) ?_)
    refine L_op rfl (X_move (v := (.bool (true))) rfl ?_)
    refine L_gn (dj := 15) (t := true) rfl rfl rfl rfl ?_
    refine L_gn (dj := 15) (t := true) rfl rfl rfl rfl ?_
    refine L_gn (dj := 15) (t := true) rfl rfl rfl rfl ?_
    refine L_op rfl (X_pick (t := true) (v := (.bool (true))) rfl rfl ?_)
    refine L_op rfl (X_move (v := (.bool (true))) rfl ?_)
    refine L_gn (dj := 20) (t := true) rfl rfl rfl rfl ?_
    refine L_gn (dj := 20) (t := true) rfl rfl rfl rfl ?_
    refine L_op rfl (X_pick (t := true) (v := (.bool (true))) rfl rfl ?_)
    refine L_nil ?_
    refine T_n ?_
    refine W_ct rfl ?_
    refine W_seq ?_
    refine W_reg ?_
    refine L_op rfl (X_fn (vs := []) en7 rfl (CT.mono (c_wakes _ hT) ?_))
    rintro vb2 w2 ⟨hvb2, hu2⟩
    have hz2 := hu2.size
    replace hb := hb.ext hu2
    replace hU := hU.trans (Ext.upd hu2)
    replace hT := hT.ext hu2
    subst hvb2
    refine L_op rfl (X_assign (v := (.bool (true))) rfl ?_)
    refine L_nil ?_
    refine T_n ?_
    refine W_ret ?_
    refine T_r ?_
    exact BQ_r (End_1 Tryd.results4 (v := .bool true) rfl ⟨rfl, hU.own hn0⟩)
  · refine L_op rfl (X_cmp (k := .i64) (a := ((l.length : Nat) : Int)) (b := 1) (r := false) rfl rfl rfl (decide_eq_false (p := ((((l.length : Nat) : Int)) : Int) < ((1) : Int)) (by omega)) ?_)
    refine L_op rfl (X_move (v := (.bool (false))) rfl ?_)
    refine L_gy (dj := 15) rfl rfl rfl (X_move (v := b) rfl ?_)
    refine L_gy (dj := 15) rfl rfl rfl (X_len (v := b) (n := l.length) Tryd.underlying22 rfl hb.sv ?_)
    by_cases hc3 : (((l.length : Nat) : Int) : Int) > (200)
    · refine L_gy (dj := 15) rfl rfl rfl (X_cmp (k := .i64) (a := ((l.length : Nat) : Int)) (b := 200) (r := true) rfl rfl rfl (decide_eq_true (p := ((200) : Int) < ((((l.length : Nat) : Int)) : Int)) (by omega)) ?_)
      refine L_op rfl (X_pick (t := false) (v := (.bool (true))) rfl rfl ?_)
      refine L_op rfl (X_move (v := (.bool (true))) rfl ?_)
      refine L_gn (dj := 20) (t := true) rfl rfl rfl rfl ?_
      refine L_gn (dj := 20) (t := true) rfl rfl rfl rfl ?_
      refine L_op rfl (X_pick (t := true) (v := (.bool (true))) rfl rfl ?_)
      refine L_nil ?_
      refine T_n ?_
      refine W_ct rfl ?_
      refine W_seq ?_
      refine W_reg ?_
      refine L_op rfl (X_fn (vs := []) en7 rfl (CT.mono (c_wakes _ hT) ?_))
      rintro vb4 w4 ⟨hvb4, hu4⟩
      have hz4 := hu4.size
      replace hb := hb.ext hu4
      replace hU := hU.trans (Ext.upd hu4)
      replace hT := hT.ext hu4
      subst hvb4
      refine L_op rfl (X_assign (v := (.bool (true))) rfl ?_)
      refine L_nil ?_
      refine T_n ?_
      refine W_ret ?_
      refine T_r ?_
      exact BQ_r (End_1 Tryd.results4 (v := .bool true) rfl ⟨rfl, hU.own hn0⟩)
    · refine L_gy (dj := 15) rfl rfl rfl (X_cmp (k := .i64) (a := ((l.length : Nat) : Int)) (b := 200) (r := false) rfl rfl rfl (decide_eq_false (p := ((200) : Int) < ((((l.length : Nat) : Int)) : Int)) (by omega)) ?_)
      refine L_op rfl (X_pick (t := false) (v := (.bool (false))) rfl rfl ?_)
      refine L_op rfl (X_move (v := (.bool (false))) rfl ?_)
      refine L_gy (dj := 20) rfl rfl rfl (X_move (v := (byteV y)) rfl ?_)
      by_cases hc5 : (((y.toNat : Nat) : Int) : Int) = (0)
      · refine L_gy (dj := 20) rfl rfl rfl (X_cmp (k := .u8) (a := ((y.toNat : Nat) : Int)) (b := 0) (r := true) rfl rfl rfl (decide_eq_true (p := ((((y.toNat : Nat) : Int)) : Int) = ((0) : Int)) (by omega)) ?_)
        refine L_op rfl (X_pick (t := false) (v := (.bool (true))) rfl rfl ?_)
        refine L_nil ?_
        refine T_n ?_
        refine W_ct rfl ?_
        refine W_seq ?_
        refine W_reg ?_
        refine L_op rfl (X_fn (vs := []) en7 rfl (CT.mono (c_wakes _ hT) ?_))
        rintro vb6 w6 ⟨hvb6, hu6⟩
        have hz6 := hu6.size
        replace hb := hb.ext hu6
        replace hU := hU.trans (Ext.upd hu6)
        replace hT := hT.ext hu6
        subst hvb6
        refine L_op rfl (X_assign (v := (.bool (true))) rfl ?_)
        refine L_nil ?_
        refine T_n ?_
        refine W_ret ?_
        refine T_r ?_
        exact BQ_r (End_1 Tryd.results4 (v := .bool true) rfl ⟨rfl, hU.own hn0⟩)
      · refine L_gy (dj := 20) rfl rfl rfl (X_cmp (k := .u8) (a := ((y.toNat : Nat) : Int)) (b := 0) (r := false) rfl rfl rfl (decide_eq_false (p := ((((y.toNat : Nat) : Int)) : Int) = ((0) : Int)) (by omega)) ?_)
        refine L_op rfl (X_pick (t := false) (v := (.bool (false))) rfl rfl ?_)
        refine L_nil ?_
        refine T_n ?_
        refine W_cf rfl ?_
        refine W_skip ?_
        refine T_n ?_
        refine W_seq ?_
        have hok : EncOk l ptZ := ⟨by omega, by omega, .inl rfl⟩
        have hy0 : y ≠ 0 := fun h => by have h0 : ((y.toNat : Nat) : Int) = 0 := by { rw [h]; rfl }; omega
        obtain ⟨q2, hq2⟩ : ∃ q, q = m.tmod 256 := ⟨_, rfl⟩
        have hql2 : -256 < q2 ∧ q2 < 256 := by rw [hq2]; exact tmod_lo (a := m) (n := 256) (by decide)
        obtain ⟨K, hK0⟩ : ∃ A : Nat, ((A : Nat) : Int) = (q2 + 256) % 256 := ⟨((q2 + 256) % 256).toNat, Int.toNat_of_nonneg (by omega)⟩
        have hKl : K < 256 := by omega
        obtain ⟨x0, hx0⟩ : ∃ x, (encP l ptZ)[K]? = some x := ⟨_, List.getElem?_eq_getElem (by rw [encP_len]; exact hKl)⟩
        refine W_reg ?_
        refine L_op rfl (X_move (v := b) rfl ?_)
        refine L_op rfl (X_build built28z ?_)
        refine L_op rfl (X_fn (vs := [b, (.agg (ptC ptZ).toArray)]) en8 rfl (CT.mono (c_encode b l ptZ _ ptZ_ok hb hT) ?_))
        rintro _ w7 ⟨rfl, hu7⟩
        have hz7 := hu7.size
        replace hb := hb.ext hu7
        replace hU := hU.trans (Ext.upd hu7)
        replace hT := hT.ext hu7
        rw [encE_ok hok]
        refine L_op rfl (X_move (v := (.tuple #[(.agg (((encP l ptZ)).map byteV).toArray), (.int .i64 (0))])) rfl ?_)
        refine L_op rfl (X_extract (l := [(.agg (((encP l ptZ)).map byteV).toArray), (.int .i64 (0))]) (v := (.agg (((encP l ptZ)).map byteV).toArray)) rfl rfl ?_)
        refine L_op rfl (X_extract (l := [(.agg (((encP l ptZ)).map byteV).toArray), (.int .i64 (0))]) (v := (.int .i64 (0))) rfl rfl ?_)
        refine L_op rfl (X_alloc (z := zv30) (c := zc30.toArray) Zv30 rfl ?_)
        intro b8 w8 hn8
        have hbn8 := hn8.num; have hbs8 := hn8.size
        replace hb := hb.ext hn8.ext
        replace hU := hU.trans (Ext.upd hn8.ext)
        replace hT := hT.ext hn8.ext
        have hB8 := hn8.blk
        rw [zc30_eq] at hB8
        refine L_op0 (X_storeW (b := b8) (ys := (((encP l ptZ)).map byteV)) A30 rfl rfl (byteV_one _) (by rw [List.length_map]; exact (encP_len _ _)) hB8 (by rw [List.size_toArray]; exact (by rw [List.length_map]; exact List.length_replicate)) ?_)
        intro w9 hu9 hb9
        have hz9 := hu9.size
        replace hb := hb.upd hu9 fun i hi h => by have hi := hb_b _ hi; have h : i = b8 := h; omega
        replace hU := hU.trans (hu9.mono fun i _ h => by have h : i = b8 := h; show n0 ≤ i; omega)
        replace hT := hT.upd hu9 fun i h1 h2 h => by have h : i = b8 := h; omega
        replace hB8 := hb9
        refine L_op rfl (X_assign (v := (.int .i64 (0))) rfl ?_)
        refine L_nil ?_
        refine T_n ?_
        refine W_seq ?_
        refine W_reg ?_
        refine L_op rfl (X_move (v := (.int .i64 (m))) rfl ?_)
        refine L_op rfl (X_arith (k := .i64) (a := m) (b := 256) (r := q2) rfl rfl rfl hq2.symm ?_)
        refine L_op rfl (X_arith (k := .i64) (a := q2) (b := 256) (r := q2 + 256) rfl rfl rfl (iadd64 rfl (by omega) (by omega)) ?_)
        refine L_op rfl (X_arith (k := .i64) (a := q2 + 256) (b := 256) (r := ((K : Nat) : Int)) rfl rfl rfl (irem64 (by omega) hK0) ?_)
        refine L_op rfl (X_assign (v := (.int .i64 (((K : Nat) : Int)))) rfl ?_)
        refine L_nil ?_
        refine T_n ?_
        refine W_seq ?_
        refine W_reg ?_
        refine L_op rfl (X_move (v := (.int .i64 (((K : Nat) : Int)))) rfl ?_)
        refine L_op rfl (X_move (v := (.int .i64 (((K : Nat) : Int)))) rfl ?_)
        refine L_op rfl (X_idxAP (len := 256) (sz := 1) (b := b8) (o := 0) (k := .i64) (i := ((K : Nat) : Int)) (r := (((K : Nat) : Int) : Int).toNat) Tryd.underlying30 Z5 rfl rfl (by omega) (by omega) (by omega) ?_)
        refine L_op rfl (X_load (p := (ptr b8 ((((K : Nat) : Int) : Int).toNat))) (v := .int .u8 ((x0.toNat : Nat) : Int)) T5 rfl (hB8.at1 (by rw [show ((K : Nat) : Int).toNat = K from rfl]; simp [hx0, byteV])) ?_)
        refine L_op rfl (X_move (v := (byteV y)) rfl ?_)
        refine L_op rfl (X_arith (k := .u8) (a := ((x0.toNat : Nat) : Int)) (b := ((y.toNat : Nat) : Int)) (r := (((x0 ^^^ y).toNat : Nat) : Int)) rfl rfl rfl (u8_xor x0 y) ?_)
        refine L_op rfl (X_idxAP (len := 256) (sz := 1) (b := b8) (o := 0) (k := .i64) (i := ((K : Nat) : Int)) (r := (((K : Nat) : Int) : Int).toNat) Tryd.underlying30 Z5 rfl rfl (by omega) (by omega) (by omega) ?_)
        refine L_op0 (X_store (b := b8) (o := K) (v := byteV (x0 ^^^ y)) T5 rfl rfl rfl hB8 (by rw [List.size_toArray, List.length_map, encP_len]; exact hKl) ?_)
        intro w7 hu7 hb7
        have hz7 := hu7.size
        replace hb := hb.upd hu7 fun i hi h => by have hi := hb_b _ hi; have h : i = b8 := h; omega
        replace hU := hU.trans (hu7.mono fun i _ h => by have h : i = b8 := h; show n0 ≤ i; omega)
        replace hT := hT.upd hu7 fun i h1 h2 h => by have h : i = b8 := h; omega
        rw [set_cells] at hb7
        obtain ⟨pn, hpn⟩ : ∃ p_, p_ = (encP l ptZ).set K (x0 ^^^ y) := ⟨_, rfl⟩
        rw [← hpn] at hb7
        have hpnl : pn.length = 256 := by rw [hpn, List.length_set]; exact encP_len _ _
        replace hB8 := hb7
        refine L_nil ?_
        refine T_n ?_
        refine W_seq ?_
        refine W_reg ?_
        refine L_op rfl (X_loadA (p := (ptr b8 (0))) (xs := ((pn).map byteV)) A30 rfl hB8.atAll (by rw [List.length_map]; exact hpnl) ?_)
        obtain ⟨sD10, hsD10⟩ : ∃ n, n = w7.heap.size := ⟨_, rfl⟩
        refine L_op rfl (X_fn (vs := [(.agg (((pn).map byteV)).toArray)]) en10 rfl (CT.mono (c_decode pn _ hpnl hT) ?_))
        rintro _ w10 ⟨s10, rfl, hO10, hu10⟩
        have hz10 := hu10.size
        rw [← hsD10] at hO10
        replace hb := hb.ext hu10
        replace hU := hU.trans (Ext.upd hu10)
        replace hT := hT.ext hu10
        replace hB8 := hB8.ext hu10
        have hO10_c : ∀ b, obk s10 = some b → sD10 ≤ b ∧ b < w10.heap.size := fun b hb => hO10.lt hb
        refine L_op rfl (X_move (v := (.tuple #[s10, (.agg (ptC (decN pn)).toArray), (.int .i64 ((decE pn)))])) rfl ?_)
        refine L_op rfl (X_extract (l := [s10, (.agg (ptC (decN pn)).toArray), (.int .i64 ((decE pn)))]) (v := s10) rfl rfl ?_)
        refine L_op rfl (X_extract (l := [s10, (.agg (ptC (decN pn)).toArray), (.int .i64 ((decE pn)))]) (v := (.agg (ptC (decN pn)).toArray)) rfl rfl ?_)
        refine L_op rfl (X_extract (l := [s10, (.agg (ptC (decN pn)).toArray), (.int .i64 ((decE pn)))]) (v := (.int .i64 ((decE pn)))) rfl rfl ?_)
        refine L_op rfl (X_alloc (z := (.agg #[(.int .u8 (0)), (.int .u16 (0)), (.int .u16 (0)), (.int .u32 (0)), (.int .u64 (0))])) (c := #[(.int .u8 (0)), (.int .u16 (0)), (.int .u16 (0)), (.int .u32 (0)), (.int .u64 (0))]) Zv28 rfl ?_)
        intro b11 w11 hn11
        have hbn11 := hn11.num; have hbs11 := hn11.size
        replace hb := hb.ext hn11.ext
        replace hU := hU.trans (Ext.upd hn11.ext)
        replace hT := hT.ext hn11.ext
        replace hB8 := hB8.ext hn11.ext
        replace hO10 := hO10.ext hn11.ext
        have hB11 := hn11.blk
        refine L_op rfl (X_assign (v := s10) rfl ?_)
        refine L_op0 (X_storeW (b := b11) (ys := [(.int .u8 ((decN pn).1)), (.int .u16 ((decN pn).2.1)), (.int .u16 ((decN pn).2.2.1)), (.int .u32 ((decN pn).2.2.2.1)), (.int .u64 ((decN pn).2.2.2.2))]) A28 rfl rfl (List.forall_mem_cons.2 ⟨rfl, (List.forall_mem_cons.2 ⟨rfl, (List.forall_mem_cons.2 ⟨rfl, (List.forall_mem_cons.2 ⟨rfl, (List.forall_mem_cons.2 ⟨rfl, (fun _ h => by cases h)⟩)⟩)⟩)⟩)⟩) rfl hB11 rfl ?_)
        intro w12 hu12 hb12
        have hz12 := hu12.size
        replace hb := hb.upd hu12 fun i hi h => by have hi := hb_b _ hi; have h : i = b11 := h; omega
        replace hU := hU.trans (hu12.mono fun i _ h => by have h : i = b11 := h; show n0 ≤ i; omega)
        replace hT := hT.upd hu12 fun i h1 h2 h => by have h : i = b11 := h; omega
        replace hB8 := hB8.upd hu12 fun h => by have h : b8 = b11 := h; omega
        replace hO10 := hO10.upd hu12 fun i hi h => by have hi := hO10_c _ hi; have h : i = b11 := h; omega
        replace hB11 : Blk w12 b11 #[(.int .u8 ((decN pn).1)), (.int .u16 ((decN pn).2.1)), (.int .u16 ((decN pn).2.2.1)), (.int .u32 ((decN pn).2.2.2.1)), (.int .u64 ((decN pn).2.2.2.2))] 28 := hb12
        refine L_op rfl (X_assign (v := (.int .i64 ((decE pn)))) rfl ?_)
        refine L_nil ?_
        refine T_n ?_
        refine W_seq ?_
        refine W_reg ?_
        refine L_op rfl (X_move (v := (.int .i64 (0))) rfl ?_)
        refine L_op rfl (X_cmp (k := .i64) (a := 0) (b := 0) (r := true) rfl rfl rfl rfl ?_)
        refine L_op rfl (X_move (v := (.bool (true))) rfl ?_)
        refine L_gy (dj := 50) rfl rfl rfl (X_move (v := (.int .i64 ((decE pn)))) rfl ?_)
        by_cases hc13 : ((decE pn) : Int) = (0)
        · refine L_gy (dj := 50) rfl rfl rfl (X_cmp (k := .i64) (a := (decE pn)) (b := 0) (r := true) rfl rfl rfl (decide_eq_true (p := (((decE pn)) : Int) = ((0) : Int)) (by omega)) ?_)
          have hdg := dec_good (p := pn) (by omega)
          refine L_gy (dj := 50) rfl rfl rfl (X_move (v := (.bool (true))) rfl ?_)
          refine L_gn (dj := 53) (t := true) rfl rfl rfl rfl ?_
          refine L_gn (dj := 53) (t := true) rfl rfl rfl rfl ?_
          refine L_gy (dj := 50) rfl rfl rfl (X_pick (t := true) (v := (.bool (true))) rfl rfl ?_)
          refine L_op rfl (X_pick (t := true) (v := (.bool (true))) rfl rfl ?_)
          refine L_op rfl (X_move (v := (.bool (true))) rfl ?_)
          refine L_gy (dj := 58) rfl rfl rfl (X_move (v := (.int .i64 ((decE pn)))) rfl ?_)
          refine L_gy (dj := 58) rfl rfl rfl (X_cmp (k := .i64) (a := (decE pn)) (b := 0) (r := false) rfl rfl rfl (decide_eq_false (p := (((decE pn)) : Int) ≠ ((0) : Int)) (by omega)) ?_)
          refine L_gy (dj := 58) rfl rfl rfl (X_move (v := (.bool (false))) rfl ?_)
          refine L_gy (dj := 61) rfl rfl rfl (X_move (v := s10) rfl ?_)
          refine L_gy (dj := 61) rfl rfl rfl (X_str (v := s10) (l := (decB pn)) Tryd.underlying22 Tryd.underlying5 Tryd.underlying9 rfl hO10.rd ?_)
          refine L_gy (dj := 61) rfl rfl rfl (X_move (v := b) rfl ?_)
          refine L_gy (dj := 61) rfl rfl rfl (X_str (v := b) (l := l) Tryd.underlying22 Tryd.underlying5 Tryd.underlying9 rfl hb ?_)
          rcases Bool.eq_false_or_eq_true (scmp .neq ((decB pn)) (l)) with hc14 | hc14
          · refine L_gy (dj := 61) rfl rfl rfl (X_scmp (a := (decB pn)) (b := l) (r := true) rfl rfl rfl hc14 ?_)
            refine L_gy (dj := 58) rfl rfl rfl (X_pick (t := false) (v := (.bool (true))) rfl rfl ?_)
            refine L_gy (dj := 58) rfl rfl rfl (X_move (v := (.bool (true))) rfl ?_)
            refine L_gn (dj := 68) (t := true) rfl rfl rfl rfl ?_
            refine L_gn (dj := 68) (t := true) rfl rfl rfl rfl ?_
            refine L_gn (dj := 68) (t := true) rfl rfl rfl rfl ?_
            refine L_gy (dj := 58) rfl rfl rfl (X_pick (t := true) (v := (.bool (true))) rfl rfl ?_)
            refine L_op rfl (X_pick (t := true) (v := (.bool (true))) rfl rfl ?_)
            refine L_op rfl (X_move (v := (.bool (true))) rfl ?_)
            refine L_gy (dj := 74) rfl rfl rfl (X_fn (vs := []) en7 rfl (CT.mono (c_wakes _ hT) ?_))
            rintro vb15 w15 ⟨hvb15, hu15⟩
            have hz15 := hu15.size
            replace hb := hb.ext hu15
            replace hU := hU.trans (Ext.upd hu15)
            replace hT := hT.ext hu15
            replace hB8 := hB8.ext hu15
            replace hO10 := hO10.ext hu15
            replace hB11 := hB11.ext hu15
            subst hvb15
            refine L_op rfl (X_pick (t := true) (v := (.bool (true))) rfl rfl ?_)
            refine L_op rfl (X_assign (v := (.bool (true))) rfl ?_)
            refine L_nil ?_
            refine T_n ?_
            refine W_ret ?_
            exact BQ_r (End_1 Tryd.results4 (v := .bool true) rfl ⟨rfl, hU.own hn0⟩)
          · refine L_gy (dj := 61) rfl rfl rfl (X_scmp (a := (decB pn)) (b := l) (r := false) rfl rfl rfl hc14 ?_)
            have hb_ : decB pn = l := by simpa [scmp] using hc14
            refine L_gy (dj := 58) rfl rfl rfl (X_pick (t := false) (v := (.bool (false))) rfl rfl ?_)
            refine L_gy (dj := 58) rfl rfl rfl (X_move (v := (.bool (false))) rfl ?_)
            refine L_gy (dj := 68) rfl rfl rfl (X_loadA (p := (ptr b11 (0))) (xs := ptC (decN pn)) A28 rfl hB11.atAll rfl ?_)
            refine L_gy (dj := 68) rfl rfl rfl (X_build built28z ?_)
            rcases Bool.eq_false_or_eq_true ((decN pn) == ptZ) with hc16 | hc16
            · exact absurd (by rw [← hpn, ← hdg.2, hb_, eq_of_beq hc16]) (xor_ne hx0 hy0)
            · refine L_gy (dj := 68) rfl rfl rfl (X_eqP (p := (decN pn)) (q := ptZ) (r := true) Tryd.underlying28 u28 (by kernel_rfl) (by decide) ⟨rfl, rfl, rfl, rfl⟩ Tryd.underlying5 Tryd.underlying24 (by kernel_rfl) Tryd.underlying23 (ie := _) rfl (by kernel_rfl) Tryd.underlying25 Tryd.underlying26 (by kernel_rfl) rfl rfl (.inr ⟨rfl, by rw [hc16]; rfl⟩) ?_)
              refine L_gy (dj := 58) rfl rfl rfl (X_pick (t := false) (v := (.bool (true))) rfl rfl ?_)
              refine L_op rfl (X_pick (t := true) (v := (.bool (true))) rfl rfl ?_)
              refine L_op rfl (X_move (v := (.bool (true))) rfl ?_)
              refine L_gy (dj := 74) rfl rfl rfl (X_fn (vs := []) en7 rfl (CT.mono (c_wakes _ hT) ?_))
              rintro vb17 w17 ⟨hvb17, hu17⟩
              have hz17 := hu17.size
              replace hb := hb.ext hu17
              replace hU := hU.trans (Ext.upd hu17)
              replace hT := hT.ext hu17
              replace hB8 := hB8.ext hu17
              replace hO10 := hO10.ext hu17
              replace hB11 := hB11.ext hu17
              subst hvb17
              refine L_op rfl (X_pick (t := true) (v := (.bool (true))) rfl rfl ?_)
              refine L_op rfl (X_assign (v := (.bool (true))) rfl ?_)
              refine L_nil ?_
              refine T_n ?_
              refine W_ret ?_
              exact BQ_r (End_1 Tryd.results4 (v := .bool true) rfl ⟨rfl, hU.own hn0⟩)
        · refine L_gy (dj := 50) rfl rfl rfl (X_cmp (k := .i64) (a := (decE pn)) (b := 0) (r := false) rfl rfl rfl (decide_eq_false (p := (((decE pn)) : Int) = ((0) : Int)) (by omega)) ?_)
          obtain ⟨hd1, hd2, hd3⟩ := dec_bad (p := pn) (by omega)
          refine L_gy (dj := 50) rfl rfl rfl (X_move (v := (.bool (false))) rfl ?_)
          refine L_gy (dj := 53) rfl rfl rfl (X_move (v := (.int .i64 ((decE pn)))) rfl ?_)
          refine L_gy (dj := 53) rfl rfl rfl (X_cmp (k := .i64) (a := (decE pn)) (b := 50) (r := true) rfl rfl rfl (decide_eq_true (p := (((decE pn)) : Int) = ((50) : Int)) (by omega)) ?_)
          refine L_gy (dj := 50) rfl rfl rfl (X_pick (t := false) (v := (.bool (true))) rfl rfl ?_)
          refine L_op rfl (X_pick (t := true) (v := (.bool (true))) rfl rfl ?_)
          refine L_op rfl (X_move (v := (.bool (true))) rfl ?_)
          refine L_gy (dj := 58) rfl rfl rfl (X_move (v := (.int .i64 ((decE pn)))) rfl ?_)
          refine L_gy (dj := 58) rfl rfl rfl (X_cmp (k := .i64) (a := (decE pn)) (b := 0) (r := true) rfl rfl rfl (decide_eq_true (p := (((decE pn)) : Int) ≠ ((0) : Int)) (by omega)) ?_)
          refine L_gy (dj := 58) rfl rfl rfl (X_move (v := (.bool (true))) rfl ?_)
          refine L_gn (dj := 61) (t := true) rfl rfl rfl rfl ?_
          refine L_gn (dj := 61) (t := true) rfl rfl rfl rfl ?_
          refine L_gn (dj := 61) (t := true) rfl rfl rfl rfl ?_
          refine L_gn (dj := 61) (t := true) rfl rfl rfl rfl ?_
          refine L_gn (dj := 61) (t := true) rfl rfl rfl rfl ?_
          refine L_gy (dj := 58) rfl rfl rfl (X_pick (t := true) (v := (.bool (true))) rfl rfl ?_)
          refine L_gy (dj := 58) rfl rfl rfl (X_move (v := (.bool (true))) rfl ?_)
          refine L_gn (dj := 68) (t := true) rfl rfl rfl rfl ?_
          refine L_gn (dj := 68) (t := true) rfl rfl rfl rfl ?_
          refine L_gn (dj := 68) (t := true) rfl rfl rfl rfl ?_
          refine L_gy (dj := 58) rfl rfl rfl (X_pick (t := true) (v := (.bool (true))) rfl rfl ?_)
          refine L_op rfl (X_pick (t := true) (v := (.bool (true))) rfl rfl ?_)
          refine L_op rfl (X_move (v := (.bool (true))) rfl ?_)
          refine L_gy (dj := 74) rfl rfl rfl (X_fn (vs := []) en7 rfl (CT.mono (c_wakes _ hT) ?_))
          rintro vb18 w18 ⟨hvb18, hu18⟩
          have hz18 := hu18.size
          replace hb := hb.ext hu18
          replace hU := hU.trans (Ext.upd hu18)
          replace hT := hT.ext hu18
          replace hB8 := hB8.ext hu18
          replace hO10 := hO10.ext hu18
          replace hB11 := hB11.ext hu18
          subst hvb18
          refine L_op rfl (X_pick (t := true) (v := (.bool (true))) rfl rfl ?_)
          refine L_op rfl (X_assign (v := (.bool (true))) rfl ?_)
          refine L_nil ?_
          refine T_n ?_
          refine W_ret ?_
          exact BQ_r (End_1 Tryd.results4 (v := .bool true) rfl ⟨rfl, hU.own hn0⟩)
end Go.Proofs.YtmggaahkfidfaaaDoor
