/-
  The walk of ChainBack. (Printed by wip/gen/t08k.py of this repo.)
-/
import Derived.Test.YtmggaahkfidfaaaDoorChainC
namespace Go.Proofs.YtmggaahkfidfaaaDoor
open Go Go.SL Go.Proofs
set_option linter.unusedVariables false

set_option maxRecDepth 10000 in
set_option maxHeartbeats 2000000 in
theorem c_chainBack (b : Value) (l : List UInt8) (q : Pt) (p : List UInt8) (w : World) (hq : PtOk q) (hp : p.length = 256) (hb : Rd w 1 b l.length (l.map byteV)) (hT : TabR w) : CT Tryd.prog 3 #[b, (.agg (ptC q).toArray), (.agg ((p).map byteV).toArray)] w fun v w' => v = .bool true ∧ Ext w w' := by
  obtain ⟨n0, hn0⟩ : ∃ n, n = w.heap.size := ⟨_, rfl⟩
  have hU : Upd (fun i => n0 ≤ i) w w := Upd.refl _ _
  have hb_b : ∀ i, rbk b = some i → i < n0 := by rw [hn0]; exact fun i hi => hb.bound (by decide) hi
  have hn1 := tab_pos hT
  obtain ⟨hq1, hq2, hq3, hq4, hq5⟩ := id hq
  refine CT_of Tryd.func3 rfl rfl rfl ?_
  refine W_seq ?_
  refine W_reg ?_
  refine L_op rfl (X_box (v := (.agg (ptC q).toArray)) (c := ((ptC q)).toArray) rfl rfl ?_)
  intro b1 w1 hn1
  have hbn1 := hn1.num; have hbs1 := hn1.size
  replace hb := hb.ext hn1.ext
  replace hU := hU.trans (Ext.upd hn1.ext)
  replace hT := hT.ext hn1.ext
  have hB1 := hn1.blk
  refine L_op rfl (X_box (v := (.agg ((p).map byteV).toArray)) (c := ((p).map byteV).toArray) rfl rfl ?_)
  intro b2 w2 hn2
  have hbn2 := hn2.num; have hbs2 := hn2.size
  replace hb := hb.ext hn2.ext
  replace hU := hU.trans (Ext.upd hn2.ext)
  replace hT := hT.ext hn2.ext
  replace hB1 := hB1.ext hn2.ext
  have hB2 := hn2.blk
  refine L_op rfl (X_assign (v := (.bool (false))) rfl ?_)
  refine L_nil ?_
  refine T_n ?_
  refine W_seq ?_
  refine W_seq ?_
  refine W_reg ?_
  refine L_op rfl (X_move (v := b) rfl ?_)
  refine L_op rfl (X_len (v := b) (n := l.length) Tryd.underlying22 rfl hb.sv ?_)
  by_cases hc3 : (((l.length : Nat) : Int) : Int) > (700)
  · refine L_op rfl (X_cmp (k := .i64) (a := ((l.length : Nat) : Int)) (b := 700) (r := true) rfl rfl rfl (decide_eq_true (p := ((700) : Int) < ((((l.length : Nat) : Int)) : Int)) (by omega)) ?_)
    refine L_nil ?_
    refine T_n ?_
    refine W_ct rfl ?_
    refine W_seq ?_
    refine W_reg ?_
    refine L_op rfl (X_fn (vs := []) en7 rfl (CT.mono (c_wakes _ hT) ?_))
    rintro vb4 w4 ⟨hvb4, hu4⟩
    have hz4 := hu4.size
    replace hb := hb.ext hu4
    replace hU := hU.trans (Ext.upd hu4)
    replace hT := hT.ext hu4
    replace hB1 := hB1.ext hu4
    replace hB2 := hB2.ext hu4
    subst hvb4
    refine L_op rfl (X_assign (v := (.bool (true))) rfl ?_)
    refine L_nil ?_
    refine T_n ?_
    refine W_ret ?_
    refine T_r ?_
    exact BQ_r (End_1 Tryd.results3 (v := .bool true) rfl ⟨rfl, hU.own hn0⟩)
  · refine L_op rfl (X_cmp (k := .i64) (a := ((l.length : Nat) : Int)) (b := 700) (r := false) rfl rfl rfl (decide_eq_false (p := ((700) : Int) < ((((l.length : Nat) : Int)) : Int)) (by omega)) ?_)
    refine L_nil ?_
    refine T_n ?_
    refine W_cf rfl ?_
    refine W_skip ?_
    refine T_n ?_
    refine W_seq ?_
    refine W_reg ?_
    refine L_op rfl (X_move (v := b) rfl ?_)
    refine L_op rfl (X_loadA (p := (ptr b1 (0))) (xs := ptC q) A28 rfl hB1.atAll rfl ?_)
    refine L_op rfl (X_fn (vs := [b, (.agg (ptC q).toArray)]) en8 rfl (CT.mono (c_encode b l q _ hq hb hT) ?_))
    rintro _ w5 ⟨rfl, hu5⟩
    have hz5 := hu5.size
    replace hb := hb.ext hu5
    replace hU := hU.trans (Ext.upd hu5)
    replace hT := hT.ext hu5
    replace hB1 := hB1.ext hu5
    replace hB2 := hB2.ext hu5
    refine L_op rfl (X_move (v := (.tuple #[(.agg (((encP l q)).map byteV).toArray), (.int .i64 ((encE l q)))])) rfl ?_)
    refine L_op rfl (X_extract (l := [(.agg (((encP l q)).map byteV).toArray), (.int .i64 ((encE l q)))]) (v := (.agg (((encP l q)).map byteV).toArray)) rfl rfl ?_)
    refine L_op rfl (X_extract (l := [(.agg (((encP l q)).map byteV).toArray), (.int .i64 ((encE l q)))]) (v := (.int .i64 ((encE l q)))) rfl rfl ?_)
    refine L_op rfl (X_alloc (z := zv30) (c := zc30.toArray) Zv30 rfl ?_)
    intro b6 w6 hn6
    have hbn6 := hn6.num; have hbs6 := hn6.size
    replace hb := hb.ext hn6.ext
    replace hU := hU.trans (Ext.upd hn6.ext)
    replace hT := hT.ext hn6.ext
    replace hB1 := hB1.ext hn6.ext
    replace hB2 := hB2.ext hn6.ext
    have hB6 := hn6.blk
    rw [zc30_eq] at hB6
    refine L_op0 (X_storeW (b := b6) (ys := (((encP l q)).map byteV)) A30 rfl rfl (byteV_one _) (by rw [List.length_map]; exact (encP_len _ _)) hB6 (by rw [List.size_toArray]; exact (by rw [List.length_map]; exact List.length_replicate)) ?_)
    intro w7 hu7 hb7
    have hz7 := hu7.size
    replace hb := hb.upd hu7 fun i hi h => by have hi := hb_b _ hi; have h : i = b6 := h; omega
    replace hU := hU.trans (hu7.mono fun i _ h => by have h : i = b6 := h; show n0 ≤ i; omega)
    replace hT := hT.upd hu7 fun i h1 h2 h => by have h : i = b6 := h; omega
    replace hB1 := hB1.upd hu7 fun h => by have h : b1 = b6 := h; omega
    replace hB2 := hB2.upd hu7 fun h => by have h : b2 = b6 := h; omega
    replace hB6 := hb7
    refine L_op rfl (X_assign (v := (.int .i64 ((encE l q)))) rfl ?_)
    refine L_nil ?_
    refine T_n ?_
    refine W_seq ?_
    refine W_reg ?_
    refine L_op rfl (X_move (v := b) rfl ?_)
    refine L_op rfl (X_len (v := b) (n := l.length) Tryd.underlying22 rfl hb.sv ?_)
    by_cases hc8 : (((l.length : Nat) : Int) : Int) ≥ (1)
    · refine L_op rfl (X_cmp (k := .i64) (a := ((l.length : Nat) : Int)) (b := 1) (r := true) rfl rfl rfl (decide_eq_true (p := ((1) : Int) ≤ ((((l.length : Nat) : Int)) : Int)) (by omega)) ?_)
      refine L_op rfl (X_move (v := (.bool (true))) rfl ?_)
      refine L_gy (dj := 31) rfl rfl rfl (X_move (v := b) rfl ?_)
      refine L_gy (dj := 31) rfl rfl rfl (X_len (v := b) (n := l.length) Tryd.underlying22 rfl hb.sv ?_)
      by_cases hc9 : (((l.length : Nat) : Int) : Int) ≤ (200)
      · refine L_gy (dj := 31) rfl rfl rfl (X_cmp (k := .i64) (a := ((l.length : Nat) : Int)) (b := 200) (r := true) rfl rfl rfl (decide_eq_true (p := ((((l.length : Nat) : Int)) : Int) ≤ ((200) : Int)) (by omega)) ?_)
        refine L_op rfl (X_pick (t := true) (v := (.bool (true))) rfl rfl ?_)
        refine L_op rfl (X_move (v := (.bool (true))) rfl ?_)
        refine L_gy (dj := 36) rfl rfl rfl (X_loadA (p := (ptr b1 (0))) (xs := ptC q) A28 rfl hB1.atAll rfl ?_)
        refine L_gy (dj := 36) rfl rfl rfl (X_build built28z ?_)
        rcases Bool.eq_false_or_eq_true (q == ptZ) with hc10 | hc10
        · refine L_gy (dj := 36) rfl rfl rfl (X_eqP (p := q) (q := ptZ) (r := true) Tryd.underlying28 u28 (by kernel_rfl) (by decide) ⟨rfl, rfl, rfl, rfl⟩ Tryd.underlying5 Tryd.underlying24 (by kernel_rfl) Tryd.underlying23 (ie := _) rfl (by kernel_rfl) Tryd.underlying25 Tryd.underlying26 (by kernel_rfl) rfl rfl (.inl ⟨rfl, hc10⟩) ?_)
          refine L_gy (dj := 36) rfl rfl rfl (X_move (v := (.bool (true))) rfl ?_)
          refine L_gn (dj := 40) (t := true) rfl rfl rfl rfl ?_
          refine L_gn (dj := 40) (t := true) rfl rfl rfl rfl ?_
          refine L_gn (dj := 40) (t := true) rfl rfl rfl rfl ?_
          refine L_gn (dj := 40) (t := true) rfl rfl rfl rfl ?_
          refine L_gu (dj := 44) rfl rfl rfl ?_
          refine L_gu (dj := 44) rfl rfl rfl ?_
          refine L_gn (dj := 40) (t := true) rfl rfl rfl rfl ?_
          refine L_gy (dj := 36) rfl rfl rfl (X_pick (t := true) (v := (.bool (true))) rfl rfl ?_)
          refine L_op rfl (X_pick (t := true) (v := (.bool (true))) rfl rfl ?_)
          refine L_op rfl (X_assign (v := (.bool (true))) rfl ?_)
          refine L_nil ?_
          refine T_n ?_
          refine W_seq ?_
          refine W_seq ?_
          have hok : EncOk l q := ⟨by omega, by omega, .inl (eq_of_beq hc10)⟩
          have hE := encE_ok hok
          rw [hE]
          refine W_reg ?_
          refine L_op rfl (X_move (v := (.int .i64 (0))) rfl ?_)
          refine L_op rfl (X_cmp (k := .i64) (a := 0) (b := 0) (r := true) rfl rfl rfl rfl ?_)
          refine L_op rfl (X_move (v := (.bool (true))) rfl ?_)
          refine L_op rfl (X_cmpBool (a := true) (b := true) (r := false) Tryd.underlying4 rfl rfl (.inr ⟨rfl, rfl⟩) ?_)
          refine L_op rfl (X_move (v := (.bool (false))) rfl ?_)
          refine L_gy (dj := 54) rfl rfl rfl (X_move (v := (.int .i64 (0))) rfl ?_)
          refine L_gy (dj := 54) rfl rfl rfl (X_cmp (k := .i64) (a := 0) (b := 0) (r := false) rfl rfl rfl rfl ?_)
          refine L_gy (dj := 54) rfl rfl rfl (X_move (v := (.bool (false))) rfl ?_)
          refine L_gn (dj := 57) (t := false) rfl rfl rfl rfl ?_
          refine L_gn (dj := 57) (t := false) rfl rfl rfl rfl ?_
          refine L_gn (dj := 57) (t := false) rfl rfl rfl rfl ?_
          refine L_gu (dj := 60) rfl rfl rfl ?_
          refine L_gu (dj := 60) rfl rfl rfl ?_
          refine L_gu (dj := 60) rfl rfl rfl ?_
          refine L_gn (dj := 57) (t := false) rfl rfl rfl rfl ?_
          refine L_gy (dj := 54) rfl rfl rfl (X_pick (t := false) (v := (.bool (false))) rfl rfl ?_)
          refine L_op rfl (X_pick (t := false) (v := (.bool (false))) rfl rfl ?_)
          refine L_nil ?_
          refine T_n ?_
          refine W_cf rfl ?_
          refine W_skip ?_
          refine T_n ?_
          refine W_seq ?_
          refine W_seq ?_
          refine W_reg ?_
          refine L_op rfl (X_move (v := (.int .i64 (0))) rfl ?_)
          refine L_op rfl (X_cmp (k := .i64) (a := 0) (b := 0) (r := true) rfl rfl rfl rfl ?_)
          refine L_nil ?_
          refine T_n ?_
          refine W_ct rfl ?_
          refine W_seq ?_
          refine W_reg ?_
          refine L_op rfl (X_loadA (p := (ptr b6 (0))) (xs := (((encP l q)).map byteV)) A30 rfl hB6.atAll (by rw [List.length_map]; exact (encP_len _ _)) ?_)
          obtain ⟨sD11, hsD11⟩ : ∃ n, n = w7.heap.size := ⟨_, rfl⟩
          refine L_op rfl (X_fn (vs := [(.agg ((((encP l q)).map byteV)).toArray)]) en10 rfl (CT.mono (c_decode (encP l q) _ (encP_len _ _) hT) ?_))
          rintro _ w11 ⟨s11, rfl, hO11, hu11⟩
          have hz11 := hu11.size
          rw [← hsD11] at hO11
          replace hb := hb.ext hu11
          replace hU := hU.trans (Ext.upd hu11)
          replace hT := hT.ext hu11
          replace hB1 := hB1.ext hu11
          replace hB2 := hB2.ext hu11
          replace hB6 := hB6.ext hu11
          rw [(dec_of hok hq).2.1, (dec_of hok hq).2.2]
          rw [(dec_of hok hq).1] at hO11
          have hO11_c : ∀ b, obk s11 = some b → sD11 ≤ b ∧ b < w11.heap.size := fun b hb => hO11.lt hb
          refine L_op rfl (X_move (v := (.tuple #[s11, (.agg (ptC q).toArray), (.int .i64 (0))])) rfl ?_)
          refine L_op rfl (X_extract (l := [s11, (.agg (ptC q).toArray), (.int .i64 (0))]) (v := s11) rfl rfl ?_)
          refine L_op rfl (X_extract (l := [s11, (.agg (ptC q).toArray), (.int .i64 (0))]) (v := (.agg (ptC q).toArray)) rfl rfl ?_)
          refine L_op rfl (X_extract (l := [s11, (.agg (ptC q).toArray), (.int .i64 (0))]) (v := (.int .i64 (0))) rfl rfl ?_)
          refine L_op rfl (X_alloc (z := (.agg #[(.int .u8 (0)), (.int .u16 (0)), (.int .u16 (0)), (.int .u32 (0)), (.int .u64 (0))])) (c := #[(.int .u8 (0)), (.int .u16 (0)), (.int .u16 (0)), (.int .u32 (0)), (.int .u64 (0))]) Zv28 rfl ?_)
          intro b12 w12 hn12
          have hbn12 := hn12.num; have hbs12 := hn12.size
          replace hb := hb.ext hn12.ext
          replace hU := hU.trans (Ext.upd hn12.ext)
          replace hT := hT.ext hn12.ext
          replace hB1 := hB1.ext hn12.ext
          replace hB2 := hB2.ext hn12.ext
          replace hB6 := hB6.ext hn12.ext
          replace hO11 := hO11.ext hn12.ext
          have hB12 := hn12.blk
          refine L_op rfl (X_assign (v := s11) rfl ?_)
          refine L_op0 (X_storeW (b := b12) (ys := [(.int .u8 (q.1)), (.int .u16 (q.2.1)), (.int .u16 (q.2.2.1)), (.int .u32 (q.2.2.2.1)), (.int .u64 (q.2.2.2.2))]) A28 rfl rfl (List.forall_mem_cons.2 ⟨rfl, (List.forall_mem_cons.2 ⟨rfl, (List.forall_mem_cons.2 ⟨rfl, (List.forall_mem_cons.2 ⟨rfl, (List.forall_mem_cons.2 ⟨rfl, (fun _ h => by cases h)⟩)⟩)⟩)⟩)⟩) rfl hB12 rfl ?_)
          intro w13 hu13 hb13
          have hz13 := hu13.size
          replace hb := hb.upd hu13 fun i hi h => by have hi := hb_b _ hi; have h : i = b12 := h; omega
          replace hU := hU.trans (hu13.mono fun i _ h => by have h : i = b12 := h; show n0 ≤ i; omega)
          replace hT := hT.upd hu13 fun i h1 h2 h => by have h : i = b12 := h; omega
          replace hB1 := hB1.upd hu13 fun h => by have h : b1 = b12 := h; omega
          replace hB2 := hB2.upd hu13 fun h => by have h : b2 = b12 := h; omega
          replace hB6 := hB6.upd hu13 fun h => by have h : b6 = b12 := h; omega
          replace hO11 := hO11.upd hu13 fun i hi h => by have hi := hO11_c _ hi; have h : i = b12 := h; omega
          replace hB12 : Blk w13 b12 #[(.int .u8 (q.1)), (.int .u16 (q.2.1)), (.int .u16 (q.2.2.1)), (.int .u32 (q.2.2.2.1)), (.int .u64 (q.2.2.2.2))] 28 := hb13
          refine L_op rfl (X_assign (v := (.int .i64 (0))) rfl ?_)
          refine L_nil ?_
          refine T_n ?_
          refine W_seq ?_
          refine W_reg ?_
          refine L_op rfl (X_move (v := (.int .i64 (0))) rfl ?_)
          refine L_op rfl (X_cmp (k := .i64) (a := 0) (b := 0) (r := false) rfl rfl rfl rfl ?_)
          refine L_op rfl (X_move (v := (.bool (false))) rfl ?_)
          refine L_gy (dj := 77) rfl rfl rfl (X_move (v := s11) rfl ?_)
          refine L_gy (dj := 77) rfl rfl rfl (X_str (v := s11) (l := l) Tryd.underlying22 Tryd.underlying5 Tryd.underlying9 rfl hO11.rd ?_)
          refine L_gy (dj := 77) rfl rfl rfl (X_move (v := b) rfl ?_)
          refine L_gy (dj := 77) rfl rfl rfl (X_str (v := b) (l := l) Tryd.underlying22 Tryd.underlying5 Tryd.underlying9 rfl hb ?_)
          refine L_gy (dj := 77) rfl rfl rfl (X_scmp (a := l) (b := l) (r := false) rfl rfl rfl (by simp [scmp]) ?_)
          refine L_op rfl (X_pick (t := false) (v := (.bool (false))) rfl rfl ?_)
          refine L_op rfl (X_move (v := (.bool (false))) rfl ?_)
          refine L_gy (dj := 84) rfl rfl rfl (X_loadA (p := (ptr b12 (0))) (xs := ptC q) A28 rfl hB12.atAll rfl ?_)
          refine L_gy (dj := 84) rfl rfl rfl (X_loadA (p := (ptr b1 (0))) (xs := ptC q) A28 rfl hB1.atAll rfl ?_)
          refine L_gy (dj := 84) rfl rfl rfl (X_eqP (p := q) (q := q) (r := false) Tryd.underlying28 u28 (by kernel_rfl) (by decide) ⟨rfl, rfl, rfl, rfl⟩ Tryd.underlying5 Tryd.underlying24 (by kernel_rfl) Tryd.underlying23 (ie := _) rfl (by kernel_rfl) Tryd.underlying25 Tryd.underlying26 (by kernel_rfl) rfl rfl (.inr ⟨rfl, by rw [(beq_self_eq_true _)]; rfl⟩) ?_)
          refine L_op rfl (X_pick (t := false) (v := (.bool (false))) rfl rfl ?_)
          refine L_nil ?_
          refine T_n ?_
          refine W_cf rfl ?_
          refine W_skip ?_
          refine T_n ?_
          refine W_seq ?_
          refine W_reg ?_
          refine L_op rfl (X_loadA (p := (ptr b2 (0))) (xs := ((p).map byteV)) A30 rfl hB2.atAll (by rw [List.length_map]; exact hp) ?_)
          obtain ⟨sD14, hsD14⟩ : ∃ n, n = w13.heap.size := ⟨_, rfl⟩
          refine L_op rfl (X_fn (vs := [(.agg (((p).map byteV)).toArray)]) en10 rfl (CT.mono (c_decode p _ hp hT) ?_))
          rintro _ w14 ⟨s14, rfl, hO14, hu14⟩
          have hz14 := hu14.size
          rw [← hsD14] at hO14
          replace hb := hb.ext hu14
          replace hU := hU.trans (Ext.upd hu14)
          replace hT := hT.ext hu14
          replace hB1 := hB1.ext hu14
          replace hB2 := hB2.ext hu14
          replace hB6 := hB6.ext hu14
          replace hO11 := hO11.ext hu14
          replace hB12 := hB12.ext hu14
          have hO14_c : ∀ b, obk s14 = some b → sD14 ≤ b ∧ b < w14.heap.size := fun b hb => hO14.lt hb
          refine L_op rfl (X_move (v := (.tuple #[s14, (.agg (ptC (decN p)).toArray), (.int .i64 ((decE p)))])) rfl ?_)
          refine L_op rfl (X_extract (l := [s14, (.agg (ptC (decN p)).toArray), (.int .i64 ((decE p)))]) (v := s14) rfl rfl ?_)
          refine L_op rfl (X_extract (l := [s14, (.agg (ptC (decN p)).toArray), (.int .i64 ((decE p)))]) (v := (.agg (ptC (decN p)).toArray)) rfl rfl ?_)
          refine L_op rfl (X_extract (l := [s14, (.agg (ptC (decN p)).toArray), (.int .i64 ((decE p)))]) (v := (.int .i64 ((decE p)))) rfl rfl ?_)
          refine L_op rfl (X_alloc (z := (.agg #[(.int .u8 (0)), (.int .u16 (0)), (.int .u16 (0)), (.int .u32 (0)), (.int .u64 (0))])) (c := #[(.int .u8 (0)), (.int .u16 (0)), (.int .u16 (0)), (.int .u32 (0)), (.int .u64 (0))]) Zv28 rfl ?_)
          intro b15 w15 hn15
          have hbn15 := hn15.num; have hbs15 := hn15.size
          replace hb := hb.ext hn15.ext
          replace hU := hU.trans (Ext.upd hn15.ext)
          replace hT := hT.ext hn15.ext
          replace hB1 := hB1.ext hn15.ext
          replace hB2 := hB2.ext hn15.ext
          replace hB6 := hB6.ext hn15.ext
          replace hO11 := hO11.ext hn15.ext
          replace hB12 := hB12.ext hn15.ext
          replace hO14 := hO14.ext hn15.ext
          have hB15 := hn15.blk
          refine L_op rfl (X_assign (v := s14) rfl ?_)
          refine L_op0 (X_storeW (b := b15) (ys := [(.int .u8 ((decN p).1)), (.int .u16 ((decN p).2.1)), (.int .u16 ((decN p).2.2.1)), (.int .u32 ((decN p).2.2.2.1)), (.int .u64 ((decN p).2.2.2.2))]) A28 rfl rfl (List.forall_mem_cons.2 ⟨rfl, (List.forall_mem_cons.2 ⟨rfl, (List.forall_mem_cons.2 ⟨rfl, (List.forall_mem_cons.2 ⟨rfl, (List.forall_mem_cons.2 ⟨rfl, (fun _ h => by cases h)⟩)⟩)⟩)⟩)⟩) rfl hB15 rfl ?_)
          intro w16 hu16 hb16
          have hz16 := hu16.size
          replace hb := hb.upd hu16 fun i hi h => by have hi := hb_b _ hi; have h : i = b15 := h; omega
          replace hU := hU.trans (hu16.mono fun i _ h => by have h : i = b15 := h; show n0 ≤ i; omega)
          replace hT := hT.upd hu16 fun i h1 h2 h => by have h : i = b15 := h; omega
          replace hB1 := hB1.upd hu16 fun h => by have h : b1 = b15 := h; omega
          replace hB2 := hB2.upd hu16 fun h => by have h : b2 = b15 := h; omega
          replace hB6 := hB6.upd hu16 fun h => by have h : b6 = b15 := h; omega
          replace hO11 := hO11.upd hu16 fun i hi h => by have hi := hO11_c _ hi; have h : i = b15 := h; omega
          replace hB12 := hB12.upd hu16 fun h => by have h : b12 = b15 := h; omega
          replace hO14 := hO14.upd hu16 fun i hi h => by have hi := hO14_c _ hi; have h : i = b15 := h; omega
          replace hB15 : Blk w16 b15 #[(.int .u8 ((decN p).1)), (.int .u16 ((decN p).2.1)), (.int .u16 ((decN p).2.2.1)), (.int .u32 ((decN p).2.2.2.1)), (.int .u64 ((decN p).2.2.2.2))] 28 := hb16
          refine L_op rfl (X_assign (v := (.int .i64 ((decE p)))) rfl ?_)
          refine L_nil ?_
          refine T_n ?_
          refine W_seq ?_
          refine W_seq ?_
          refine W_reg ?_
          refine L_op rfl (X_move (v := (.int .i64 ((decE p)))) rfl ?_)
          by_cases hc17 : ((decE p) : Int) ≠ (0)
          · refine L_op rfl (X_cmp (k := .i64) (a := (decE p)) (b := 0) (r := true) rfl rfl rfl (decide_eq_true (p := (((decE p)) : Int) ≠ ((0) : Int)) (by omega)) ?_)
            refine L_nil ?_
            refine T_n ?_
            refine W_ct rfl ?_
            refine W_seq ?_
            obtain ⟨hd1, hd2, hd3⟩ := dec_bad hc17
            have hl0 : (decB p).length = 0 := by rw [hd2]; rfl
            refine W_reg ?_
            refine L_op rfl (X_move (v := (.int .i64 ((decE p)))) rfl ?_)
            refine L_op rfl (X_cmp (k := .i64) (a := (decE p)) (b := 50) (r := true) rfl rfl rfl (decide_eq_true (p := (((decE p)) : Int) = ((50) : Int)) (by omega)) ?_)
            refine L_op rfl (X_move (v := (.bool (true))) rfl ?_)
            refine L_gy (dj := 99) rfl rfl rfl (X_move (v := s14) rfl ?_)
            refine L_gy (dj := 99) rfl rfl rfl (X_len (v := s14) (n := ((decB p)).length) Tryd.underlying22 rfl hO14.sv ?_)
            refine L_gy (dj := 99) rfl rfl rfl (X_cmp (k := .i64) (a := ((((decB p)).length : Nat) : Int)) (b := 0) (r := true) rfl rfl rfl (decide_eq_true (p := ((((((decB p)).length : Nat) : Int)) : Int) = ((0) : Int)) (by omega)) ?_)
            refine L_op rfl (X_pick (t := true) (v := (.bool (true))) rfl rfl ?_)
            refine L_op rfl (X_move (v := (.bool (true))) rfl ?_)
            refine L_gy (dj := 104) rfl rfl rfl (X_loadA (p := (ptr b15 (0))) (xs := ptC (decN p)) A28 rfl hB15.atAll rfl ?_)
            refine L_gy (dj := 104) rfl rfl rfl (X_build built28z ?_)
            refine L_gy (dj := 104) rfl rfl rfl (X_eqP (p := (decN p)) (q := ptZ) (r := true) Tryd.underlying28 u28 (by kernel_rfl) (by decide) ⟨rfl, rfl, rfl, rfl⟩ Tryd.underlying5 Tryd.underlying24 (by kernel_rfl) Tryd.underlying23 (ie := _) rfl (by kernel_rfl) Tryd.underlying25 Tryd.underlying26 (by kernel_rfl) rfl rfl (.inl ⟨rfl, (beq_iff_eq.2 hd3)⟩) ?_)
            refine L_op rfl (X_pick (t := true) (v := (.bool (true))) rfl rfl ?_)
            refine L_op rfl (X_move (v := (.bool (true))) rfl ?_)
            refine L_gy (dj := 109) rfl rfl rfl (X_fn (vs := []) en7 rfl (CT.mono (c_wakes _ hT) ?_))
            rintro vb18 w18 ⟨hvb18, hu18⟩
            have hz18 := hu18.size
            replace hb := hb.ext hu18
            replace hU := hU.trans (Ext.upd hu18)
            replace hT := hT.ext hu18
            replace hB1 := hB1.ext hu18
            replace hB2 := hB2.ext hu18
            replace hB6 := hB6.ext hu18
            replace hO11 := hO11.ext hu18
            replace hB12 := hB12.ext hu18
            replace hO14 := hO14.ext hu18
            replace hB15 := hB15.ext hu18
            subst hvb18
            refine L_op rfl (X_pick (t := true) (v := (.bool (true))) rfl rfl ?_)
            refine L_op rfl (X_assign (v := (.bool (true))) rfl ?_)
            refine L_nil ?_
            refine T_n ?_
            refine W_ret ?_
            refine T_r ?_
            exact BQ_r (End_1 Tryd.results3 (v := .bool true) rfl ⟨rfl, hU.own hn0⟩)
          · refine L_op rfl (X_cmp (k := .i64) (a := (decE p)) (b := 0) (r := false) rfl rfl rfl (decide_eq_false (p := (((decE p)) : Int) ≠ ((0) : Int)) (by omega)) ?_)
            have hdg := dec_good (p := p) (by omega)
            refine L_nil ?_
            refine T_n ?_
            refine W_cf rfl ?_
            refine W_skip ?_
            refine T_n ?_
            refine W_seq ?_
            refine W_reg ?_
            refine L_op rfl (X_move (v := s14) rfl ?_)
            refine L_op rfl (X_loadA (p := (ptr b15 (0))) (xs := ptC (decN p)) A28 rfl hB15.atAll rfl ?_)
            refine L_op rfl (X_fn (vs := [s14, (.agg (ptC (decN p)).toArray)]) en8 rfl (CT.mono (c_encode s14 (decB p) (decN p) _ (decN_ok p) hO14.rd hT) ?_))
            rintro _ w19 ⟨rfl, hu19⟩
            have hz19 := hu19.size
            replace hb := hb.ext hu19
            replace hU := hU.trans (Ext.upd hu19)
            replace hT := hT.ext hu19
            replace hB1 := hB1.ext hu19
            replace hB2 := hB2.ext hu19
            replace hB6 := hB6.ext hu19
            replace hO11 := hO11.ext hu19
            replace hB12 := hB12.ext hu19
            replace hO14 := hO14.ext hu19
            replace hB15 := hB15.ext hu19
            rw [hdg.1]
            refine L_op rfl (X_move (v := (.tuple #[(.agg (((encP (decB p) (decN p))).map byteV).toArray), (.int .i64 (0))])) rfl ?_)
            refine L_op rfl (X_extract (l := [(.agg (((encP (decB p) (decN p))).map byteV).toArray), (.int .i64 (0))]) (v := (.agg (((encP (decB p) (decN p))).map byteV).toArray)) rfl rfl ?_)
            refine L_op rfl (X_extract (l := [(.agg (((encP (decB p) (decN p))).map byteV).toArray), (.int .i64 (0))]) (v := (.int .i64 (0))) rfl rfl ?_)
            refine L_op rfl (X_alloc (z := zv30) (c := zc30.toArray) Zv30 rfl ?_)
            intro b20 w20 hn20
            have hbn20 := hn20.num; have hbs20 := hn20.size
            replace hb := hb.ext hn20.ext
            replace hU := hU.trans (Ext.upd hn20.ext)
            replace hT := hT.ext hn20.ext
            replace hB1 := hB1.ext hn20.ext
            replace hB2 := hB2.ext hn20.ext
            replace hB6 := hB6.ext hn20.ext
            replace hO11 := hO11.ext hn20.ext
            replace hB12 := hB12.ext hn20.ext
            replace hO14 := hO14.ext hn20.ext
            replace hB15 := hB15.ext hn20.ext
            have hB20 := hn20.blk
            rw [zc30_eq] at hB20
            refine L_op0 (X_storeW (b := b20) (ys := (((encP (decB p) (decN p))).map byteV)) A30 rfl rfl (byteV_one _) (by rw [List.length_map]; exact (encP_len _ _)) hB20 (by rw [List.size_toArray]; exact (by rw [List.length_map]; exact List.length_replicate)) ?_)
            intro w21 hu21 hb21
            have hz21 := hu21.size
            replace hb := hb.upd hu21 fun i hi h => by have hi := hb_b _ hi; have h : i = b20 := h; omega
            replace hU := hU.trans (hu21.mono fun i _ h => by have h : i = b20 := h; show n0 ≤ i; omega)
            replace hT := hT.upd hu21 fun i h1 h2 h => by have h : i = b20 := h; omega
            replace hB1 := hB1.upd hu21 fun h => by have h : b1 = b20 := h; omega
            replace hB2 := hB2.upd hu21 fun h => by have h : b2 = b20 := h; omega
            replace hB6 := hB6.upd hu21 fun h => by have h : b6 = b20 := h; omega
            replace hO11 := hO11.upd hu21 fun i hi h => by have hi := hO11_c _ hi; have h : i = b20 := h; omega
            replace hB12 := hB12.upd hu21 fun h => by have h : b12 = b20 := h; omega
            replace hO14 := hO14.upd hu21 fun i hi h => by have hi := hO14_c _ hi; have h : i = b20 := h; omega
            replace hB15 := hB15.upd hu21 fun h => by have h : b15 = b20 := h; omega
            replace hB20 := hb21
            refine L_op rfl (X_assign (v := (.int .i64 (0))) rfl ?_)
            refine L_nil ?_
            refine T_n ?_
            refine W_seq ?_
            refine W_reg ?_
            refine L_op rfl (X_move (v := (.int .i64 (0))) rfl ?_)
            refine L_op rfl (X_cmp (k := .i64) (a := 0) (b := 0) (r := true) rfl rfl rfl rfl ?_)
            refine L_op rfl (X_move (v := (.bool (true))) rfl ?_)
            refine L_gy (dj := 120) rfl rfl rfl (X_loadA (p := (ptr b20 (0))) (xs := (((encP (decB p) (decN p))).map byteV)) A30 rfl hB20.atAll (by rw [List.length_map]; exact (encP_len _ _)) ?_)
            refine L_gy (dj := 120) rfl rfl rfl (X_loadA (p := (ptr b2 (0))) (xs := ((p).map byteV)) A30 rfl hB2.atAll (by rw [List.length_map]; exact hp) ?_)
            refine L_gy (dj := 120) rfl rfl rfl (X_eqA (n := 256) (l := (encP (decB p) (decN p))) (m := p) (r := true) Tryd.underlying30 Tryd.underlying5 (by kernel_rfl) (by kernel_rfl) (by kernel_rfl) rfl rfl ((encP_len _ _)) (hp) (.inl ⟨rfl, (beq_iff_eq.2 hdg.2)⟩) ?_)
            refine L_op rfl (X_pick (t := true) (v := (.bool (true))) rfl rfl ?_)
            refine L_op rfl (X_move (v := (.bool (true))) rfl ?_)
            refine L_gy (dj := 125) rfl rfl rfl (X_fn (vs := []) en7 rfl (CT.mono (c_wakes _ hT) ?_))
            rintro vb22 w22 ⟨hvb22, hu22⟩
            have hz22 := hu22.size
            replace hb := hb.ext hu22
            replace hU := hU.trans (Ext.upd hu22)
            replace hT := hT.ext hu22
            replace hB1 := hB1.ext hu22
            replace hB2 := hB2.ext hu22
            replace hB6 := hB6.ext hu22
            replace hO11 := hO11.ext hu22
            replace hB12 := hB12.ext hu22
            replace hO14 := hO14.ext hu22
            replace hB15 := hB15.ext hu22
            replace hB20 := hB20.ext hu22
            subst hvb22
            refine L_op rfl (X_pick (t := true) (v := (.bool (true))) rfl rfl ?_)
            refine L_op rfl (X_assign (v := (.bool (true))) rfl ?_)
            refine L_nil ?_
            refine T_n ?_
            refine W_ret ?_
            exact BQ_r (End_1 Tryd.results3 (v := .bool true) rfl ⟨rfl, hU.own hn0⟩)
        · refine L_gy (dj := 36) rfl rfl rfl (X_eqP (p := q) (q := ptZ) (r := false) Tryd.underlying28 u28 (by kernel_rfl) (by decide) ⟨rfl, rfl, rfl, rfl⟩ Tryd.underlying5 Tryd.underlying24 (by kernel_rfl) Tryd.underlying23 (ie := _) rfl (by kernel_rfl) Tryd.underlying25 Tryd.underlying26 (by kernel_rfl) rfl rfl (.inl ⟨rfl, hc10⟩) ?_)
          refine L_gy (dj := 36) rfl rfl rfl (X_move (v := (.bool (false))) rfl ?_)
          refine L_gy (dj := 40) rfl rfl rfl (X_fldP (b := b1) (o := 0) (r := 0) Fd28_0 rfl rfl ?_)
          refine L_gy (dj := 40) rfl rfl rfl (X_load (p := (ptr b1 (0))) (v := (.int .u8 (q.1))) T5 rfl (hB1.at1 rfl) ?_)
          by_cases hc23 : (q.1 : Int) = (3)
          · refine L_gy (dj := 40) rfl rfl rfl (X_cmp (k := .u8) (a := q.1) (b := 3) (r := true) rfl rfl rfl (decide_eq_true (p := ((q.1) : Int) = ((3) : Int)) (by omega)) ?_)
            refine L_gy (dj := 40) rfl rfl rfl (X_move (v := (.bool (true))) rfl ?_)
            refine L_gy (dj := 44) rfl rfl rfl (X_loadA (p := (ptr b1 (0))) (xs := ptC q) A28 rfl hB1.atAll rfl ?_)
            refine L_gy (dj := 44) rfl rfl rfl (X_fn (vs := [(.agg (ptC q).toArray), (.int .i64 (256))]) en9 rfl (CT.mono (c_rightR q 256 _ hq) ?_))
            rintro _ w24 ⟨rfl, hu24⟩
            have hz24 := hu24.size
            replace hb := hb.ext hu24
            replace hU := hU.trans (Ext.upd hu24)
            replace hT := hT.ext hu24
            replace hB1 := hB1.ext hu24
            replace hB2 := hB2.ext hu24
            replace hB6 := hB6.ext hu24
            rcases Bool.eq_false_or_eq_true (decide (RightP q 256)) with hc25 | hc25
            · rw [hc25]
              refine L_gy (dj := 40) rfl rfl rfl (X_pick (t := true) (v := (.bool (true))) rfl rfl ?_)
              refine L_gy (dj := 36) rfl rfl rfl (X_pick (t := false) (v := (.bool (true))) rfl rfl ?_)
              refine L_op rfl (X_pick (t := true) (v := (.bool (true))) rfl rfl ?_)
              refine L_op rfl (X_assign (v := (.bool (true))) rfl ?_)
              refine L_nil ?_
              refine T_n ?_
              refine W_seq ?_
              refine W_seq ?_
              have hok : EncOk l q := ⟨by omega, by omega, .inr ⟨by omega, of_decide_eq_true hc25⟩⟩
              have hE := encE_ok hok
              rw [hE]
              refine W_reg ?_
              refine L_op rfl (X_move (v := (.int .i64 (0))) rfl ?_)
              refine L_op rfl (X_cmp (k := .i64) (a := 0) (b := 0) (r := true) rfl rfl rfl rfl ?_)
              refine L_op rfl (X_move (v := (.bool (true))) rfl ?_)
              refine L_op rfl (X_cmpBool (a := true) (b := true) (r := false) Tryd.underlying4 rfl rfl (.inr ⟨rfl, rfl⟩) ?_)
              refine L_op rfl (X_move (v := (.bool (false))) rfl ?_)
              refine L_gy (dj := 54) rfl rfl rfl (X_move (v := (.int .i64 (0))) rfl ?_)
              refine L_gy (dj := 54) rfl rfl rfl (X_cmp (k := .i64) (a := 0) (b := 0) (r := false) rfl rfl rfl rfl ?_)
              refine L_gy (dj := 54) rfl rfl rfl (X_move (v := (.bool (false))) rfl ?_)
              refine L_gn (dj := 57) (t := false) rfl rfl rfl rfl ?_
              refine L_gn (dj := 57) (t := false) rfl rfl rfl rfl ?_
              refine L_gn (dj := 57) (t := false) rfl rfl rfl rfl ?_
              refine L_gu (dj := 60) rfl rfl rfl ?_
              refine L_gu (dj := 60) rfl rfl rfl ?_
              refine L_gu (dj := 60) rfl rfl rfl ?_
              refine L_gn (dj := 57) (t := false) rfl rfl rfl rfl ?_
              refine L_gy (dj := 54) rfl rfl rfl (X_pick (t := false) (v := (.bool (false))) rfl rfl ?_)
              refine L_op rfl (X_pick (t := false) (v := (.bool (false))) rfl rfl ?_)
              refine L_nil ?_
              refine T_n ?_
              refine W_cf rfl ?_
              refine W_skip ?_
              refine T_n ?_
              refine W_seq ?_
              refine W_seq ?_
              refine W_reg ?_
              refine L_op rfl (X_move (v := (.int .i64 (0))) rfl ?_)
              refine L_op rfl (X_cmp (k := .i64) (a := 0) (b := 0) (r := true) rfl rfl rfl rfl ?_)
              refine L_nil ?_
              refine T_n ?_
              refine W_ct rfl ?_
              refine W_seq ?_
              refine W_reg ?_
              refine L_op rfl (X_loadA (p := (ptr b6 (0))) (xs := (((encP l q)).map byteV)) A30 rfl hB6.atAll (by rw [List.length_map]; exact (encP_len _ _)) ?_)
              obtain ⟨sD26, hsD26⟩ : ∃ n, n = w24.heap.size := ⟨_, rfl⟩
              refine L_op rfl (X_fn (vs := [(.agg ((((encP l q)).map byteV)).toArray)]) en10 rfl (CT.mono (c_decode (encP l q) _ (encP_len _ _) hT) ?_))
              rintro _ w26 ⟨s26, rfl, hO26, hu26⟩
              have hz26 := hu26.size
              rw [← hsD26] at hO26
              replace hb := hb.ext hu26
              replace hU := hU.trans (Ext.upd hu26)
              replace hT := hT.ext hu26
              replace hB1 := hB1.ext hu26
              replace hB2 := hB2.ext hu26
              replace hB6 := hB6.ext hu26
              rw [(dec_of hok hq).2.1, (dec_of hok hq).2.2]
              rw [(dec_of hok hq).1] at hO26
              have hO26_c : ∀ b, obk s26 = some b → sD26 ≤ b ∧ b < w26.heap.size := fun b hb => hO26.lt hb
              refine L_op rfl (X_move (v := (.tuple #[s26, (.agg (ptC q).toArray), (.int .i64 (0))])) rfl ?_)
              refine L_op rfl (X_extract (l := [s26, (.agg (ptC q).toArray), (.int .i64 (0))]) (v := s26) rfl rfl ?_)
              refine L_op rfl (X_extract (l := [s26, (.agg (ptC q).toArray), (.int .i64 (0))]) (v := (.agg (ptC q).toArray)) rfl rfl ?_)
              refine L_op rfl (X_extract (l := [s26, (.agg (ptC q).toArray), (.int .i64 (0))]) (v := (.int .i64 (0))) rfl rfl ?_)
              refine L_op rfl (X_alloc (z := (.agg #[(.int .u8 (0)), (.int .u16 (0)), (.int .u16 (0)), (.int .u32 (0)), (.int .u64 (0))])) (c := #[(.int .u8 (0)), (.int .u16 (0)), (.int .u16 (0)), (.int .u32 (0)), (.int .u64 (0))]) Zv28 rfl ?_)
              intro b27 w27 hn27
              have hbn27 := hn27.num; have hbs27 := hn27.size
              replace hb := hb.ext hn27.ext
              replace hU := hU.trans (Ext.upd hn27.ext)
              replace hT := hT.ext hn27.ext
              replace hB1 := hB1.ext hn27.ext
              replace hB2 := hB2.ext hn27.ext
              replace hB6 := hB6.ext hn27.ext
              replace hO26 := hO26.ext hn27.ext
              have hB27 := hn27.blk
              refine L_op rfl (X_assign (v := s26) rfl ?_)
              refine L_op0 (X_storeW (b := b27) (ys := [(.int .u8 (q.1)), (.int .u16 (q.2.1)), (.int .u16 (q.2.2.1)), (.int .u32 (q.2.2.2.1)), (.int .u64 (q.2.2.2.2))]) A28 rfl rfl (List.forall_mem_cons.2 ⟨rfl, (List.forall_mem_cons.2 ⟨rfl, (List.forall_mem_cons.2 ⟨rfl, (List.forall_mem_cons.2 ⟨rfl, (List.forall_mem_cons.2 ⟨rfl, (fun _ h => by cases h)⟩)⟩)⟩)⟩)⟩) rfl hB27 rfl ?_)
              intro w28 hu28 hb28
              have hz28 := hu28.size
              replace hb := hb.upd hu28 fun i hi h => by have hi := hb_b _ hi; have h : i = b27 := h; omega
              replace hU := hU.trans (hu28.mono fun i _ h => by have h : i = b27 := h; show n0 ≤ i; omega)
              replace hT := hT.upd hu28 fun i h1 h2 h => by have h : i = b27 := h; omega
              replace hB1 := hB1.upd hu28 fun h => by have h : b1 = b27 := h; omega
              replace hB2 := hB2.upd hu28 fun h => by have h : b2 = b27 := h; omega
              replace hB6 := hB6.upd hu28 fun h => by have h : b6 = b27 := h; omega
              replace hO26 := hO26.upd hu28 fun i hi h => by have hi := hO26_c _ hi; have h : i = b27 := h; omega
              replace hB27 : Blk w28 b27 #[(.int .u8 (q.1)), (.int .u16 (q.2.1)), (.int .u16 (q.2.2.1)), (.int .u32 (q.2.2.2.1)), (.int .u64 (q.2.2.2.2))] 28 := hb28
              refine L_op rfl (X_assign (v := (.int .i64 (0))) rfl ?_)
              refine L_nil ?_
              refine T_n ?_
              refine W_seq ?_
              refine W_reg ?_
              refine L_op rfl (X_move (v := (.int .i64 (0))) rfl ?_)
              refine L_op rfl (X_cmp (k := .i64) (a := 0) (b := 0) (r := false) rfl rfl rfl rfl ?_)
              refine L_op rfl (X_move (v := (.bool (false))) rfl ?_)
              refine L_gy (dj := 77) rfl rfl rfl (X_move (v := s26) rfl ?_)
              refine L_gy (dj := 77) rfl rfl rfl (X_str (v := s26) (l := l) Tryd.underlying22 Tryd.underlying5 Tryd.underlying9 rfl hO26.rd ?_)
              refine L_gy (dj := 77) rfl rfl rfl (X_move (v := b) rfl ?_)
              refine L_gy (dj := 77) rfl rfl rfl (X_str (v := b) (l := l) Tryd.underlying22 Tryd.underlying5 Tryd.underlying9 rfl hb ?_)
              refine L_gy (dj := 77) rfl rfl rfl (X_scmp (a := l) (b := l) (r := false) rfl rfl rfl (by simp [scmp]) ?_)
              refine L_op rfl (X_pick (t := false) (v := (.bool (false))) rfl rfl ?_)
              refine L_op rfl (X_move (v := (.bool (false))) rfl ?_)
              refine L_gy (dj := 84) rfl rfl rfl (X_loadA (p := (ptr b27 (0))) (xs := ptC q) A28 rfl hB27.atAll rfl ?_)
              refine L_gy (dj := 84) rfl rfl rfl (X_loadA (p := (ptr b1 (0))) (xs := ptC q) A28 rfl hB1.atAll rfl ?_)
              refine L_gy (dj := 84) rfl rfl rfl (X_eqP (p := q) (q := q) (r := false) Tryd.underlying28 u28 (by kernel_rfl) (by decide) ⟨rfl, rfl, rfl, rfl⟩ Tryd.underlying5 Tryd.underlying24 (by kernel_rfl) Tryd.underlying23 (ie := _) rfl (by kernel_rfl) Tryd.underlying25 Tryd.underlying26 (by kernel_rfl) rfl rfl (.inr ⟨rfl, by rw [(beq_self_eq_true _)]; rfl⟩) ?_)
              refine L_op rfl (X_pick (t := false) (v := (.bool (false))) rfl rfl ?_)
              refine L_nil ?_
              refine T_n ?_
              refine W_cf rfl ?_
              refine W_skip ?_
              refine T_n ?_
              refine W_seq ?_
              refine W_reg ?_
              refine L_op rfl (X_loadA (p := (ptr b2 (0))) (xs := ((p).map byteV)) A30 rfl hB2.atAll (by rw [List.length_map]; exact hp) ?_)
              obtain ⟨sD29, hsD29⟩ : ∃ n, n = w28.heap.size := ⟨_, rfl⟩
              refine L_op rfl (X_fn (vs := [(.agg (((p).map byteV)).toArray)]) en10 rfl (CT.mono (c_decode p _ hp hT) ?_))
              rintro _ w29 ⟨s29, rfl, hO29, hu29⟩
              have hz29 := hu29.size
              rw [← hsD29] at hO29
              replace hb := hb.ext hu29
              replace hU := hU.trans (Ext.upd hu29)
              replace hT := hT.ext hu29
              replace hB1 := hB1.ext hu29
              replace hB2 := hB2.ext hu29
              replace hB6 := hB6.ext hu29
              replace hO26 := hO26.ext hu29
              replace hB27 := hB27.ext hu29
              have hO29_c : ∀ b, obk s29 = some b → sD29 ≤ b ∧ b < w29.heap.size := fun b hb => hO29.lt hb
              refine L_op rfl (X_move (v := (.tuple #[s29, (.agg (ptC (decN p)).toArray), (.int .i64 ((decE p)))])) rfl ?_)
              refine L_op rfl (X_extract (l := [s29, (.agg (ptC (decN p)).toArray), (.int .i64 ((decE p)))]) (v := s29) rfl rfl ?_)
              refine L_op rfl (X_extract (l := [s29, (.agg (ptC (decN p)).toArray), (.int .i64 ((decE p)))]) (v := (.agg (ptC (decN p)).toArray)) rfl rfl ?_)
              refine L_op rfl (X_extract (l := [s29, (.agg (ptC (decN p)).toArray), (.int .i64 ((decE p)))]) (v := (.int .i64 ((decE p)))) rfl rfl ?_)
              refine L_op rfl (X_alloc (z := (.agg #[(.int .u8 (0)), (.int .u16 (0)), (.int .u16 (0)), (.int .u32 (0)), (.int .u64 (0))])) (c := #[(.int .u8 (0)), (.int .u16 (0)), (.int .u16 (0)), (.int .u32 (0)), (.int .u64 (0))]) Zv28 rfl ?_)
              intro b30 w30 hn30
              have hbn30 := hn30.num; have hbs30 := hn30.size
              replace hb := hb.ext hn30.ext
              replace hU := hU.trans (Ext.upd hn30.ext)
              replace hT := hT.ext hn30.ext
              replace hB1 := hB1.ext hn30.ext
              replace hB2 := hB2.ext hn30.ext
              replace hB6 := hB6.ext hn30.ext
              replace hO26 := hO26.ext hn30.ext
              replace hB27 := hB27.ext hn30.ext
              replace hO29 := hO29.ext hn30.ext
              have hB30 := hn30.blk
              refine L_op rfl (X_assign (v := s29) rfl ?_)
              refine L_op0 (X_storeW (b := b30) (ys := [(.int .u8 ((decN p).1)), (.int .u16 ((decN p).2.1)), (.int .u16 ((decN p).2.2.1)), (.int .u32 ((decN p).2.2.2.1)), (.int .u64 ((decN p).2.2.2.2))]) A28 rfl rfl (List.forall_mem_cons.2 ⟨rfl, (List.forall_mem_cons.2 ⟨rfl, (List.forall_mem_cons.2 ⟨rfl, (List.forall_mem_cons.2 ⟨rfl, (List.forall_mem_cons.2 ⟨rfl, (fun _ h => by cases h)⟩)⟩)⟩)⟩)⟩) rfl hB30 rfl ?_)
              intro w31 hu31 hb31
              have hz31 := hu31.size
              replace hb := hb.upd hu31 fun i hi h => by have hi := hb_b _ hi; have h : i = b30 := h; omega
              replace hU := hU.trans (hu31.mono fun i _ h => by have h : i = b30 := h; show n0 ≤ i; omega)
              replace hT := hT.upd hu31 fun i h1 h2 h => by have h : i = b30 := h; omega
              replace hB1 := hB1.upd hu31 fun h => by have h : b1 = b30 := h; omega
              replace hB2 := hB2.upd hu31 fun h => by have h : b2 = b30 := h; omega
              replace hB6 := hB6.upd hu31 fun h => by have h : b6 = b30 := h; omega
              replace hO26 := hO26.upd hu31 fun i hi h => by have hi := hO26_c _ hi; have h : i = b30 := h; omega
              replace hB27 := hB27.upd hu31 fun h => by have h : b27 = b30 := h; omega
              replace hO29 := hO29.upd hu31 fun i hi h => by have hi := hO29_c _ hi; have h : i = b30 := h; omega
              replace hB30 : Blk w31 b30 #[(.int .u8 ((decN p).1)), (.int .u16 ((decN p).2.1)), (.int .u16 ((decN p).2.2.1)), (.int .u32 ((decN p).2.2.2.1)), (.int .u64 ((decN p).2.2.2.2))] 28 := hb31
              refine L_op rfl (X_assign (v := (.int .i64 ((decE p)))) rfl ?_)
              refine L_nil ?_
              refine T_n ?_
              refine W_seq ?_
              refine W_seq ?_
              refine W_reg ?_
              refine L_op rfl (X_move (v := (.int .i64 ((decE p)))) rfl ?_)
              by_cases hc32 : ((decE p) : Int) ≠ (0)
              · refine L_op rfl (X_cmp (k := .i64) (a := (decE p)) (b := 0) (r := true) rfl rfl rfl (decide_eq_true (p := (((decE p)) : Int) ≠ ((0) : Int)) (by omega)) ?_)
                refine L_nil ?_
                refine T_n ?_
                refine W_ct rfl ?_
                refine W_seq ?_
                obtain ⟨hd1, hd2, hd3⟩ := dec_bad hc32
                have hl0 : (decB p).length = 0 := by rw [hd2]; rfl
                refine W_reg ?_
                refine L_op rfl (X_move (v := (.int .i64 ((decE p)))) rfl ?_)
                refine L_op rfl (X_cmp (k := .i64) (a := (decE p)) (b := 50) (r := true) rfl rfl rfl (decide_eq_true (p := (((decE p)) : Int) = ((50) : Int)) (by omega)) ?_)
                refine L_op rfl (X_move (v := (.bool (true))) rfl ?_)
                refine L_gy (dj := 99) rfl rfl rfl (X_move (v := s29) rfl ?_)
                refine L_gy (dj := 99) rfl rfl rfl (X_len (v := s29) (n := ((decB p)).length) Tryd.underlying22 rfl hO29.sv ?_)
                refine L_gy (dj := 99) rfl rfl rfl (X_cmp (k := .i64) (a := ((((decB p)).length : Nat) : Int)) (b := 0) (r := true) rfl rfl rfl (decide_eq_true (p := ((((((decB p)).length : Nat) : Int)) : Int) = ((0) : Int)) (by omega)) ?_)
                refine L_op rfl (X_pick (t := true) (v := (.bool (true))) rfl rfl ?_)
                refine L_op rfl (X_move (v := (.bool (true))) rfl ?_)
                refine L_gy (dj := 104) rfl rfl rfl (X_loadA (p := (ptr b30 (0))) (xs := ptC (decN p)) A28 rfl hB30.atAll rfl ?_)
                refine L_gy (dj := 104) rfl rfl rfl (X_build built28z ?_)
                refine L_gy (dj := 104) rfl rfl rfl (X_eqP (p := (decN p)) (q := ptZ) (r := true) Tryd.underlying28 u28 (by kernel_rfl) (by decide) ⟨rfl, rfl, rfl, rfl⟩ Tryd.underlying5 Tryd.underlying24 (by kernel_rfl) Tryd.underlying23 (ie := _) rfl (by kernel_rfl) Tryd.underlying25 Tryd.underlying26 (by kernel_rfl) rfl rfl (.inl ⟨rfl, (beq_iff_eq.2 hd3)⟩) ?_)
                refine L_op rfl (X_pick (t := true) (v := (.bool (true))) rfl rfl ?_)
                refine L_op rfl (X_move (v := (.bool (true))) rfl ?_)
                refine L_gy (dj := 109) rfl rfl rfl (X_fn (vs := []) en7 rfl (CT.mono (c_wakes _ hT) ?_))
                rintro vb33 w33 ⟨hvb33, hu33⟩
                have hz33 := hu33.size
                replace hb := hb.ext hu33
                replace hU := hU.trans (Ext.upd hu33)
                replace hT := hT.ext hu33
                replace hB1 := hB1.ext hu33
                replace hB2 := hB2.ext hu33
                replace hB6 := hB6.ext hu33
                replace hO26 := hO26.ext hu33
                replace hB27 := hB27.ext hu33
                replace hO29 := hO29.ext hu33
                replace hB30 := hB30.ext hu33
                subst hvb33
                refine L_op rfl (X_pick (t := true) (v := (.bool (true))) rfl rfl ?_)
                refine L_op rfl (X_assign (v := (.bool (true))) rfl ?_)
                refine L_nil ?_
                refine T_n ?_
                refine W_ret ?_
                refine T_r ?_
                exact BQ_r (End_1 Tryd.results3 (v := .bool true) rfl ⟨rfl, hU.own hn0⟩)
              · refine L_op rfl (X_cmp (k := .i64) (a := (decE p)) (b := 0) (r := false) rfl rfl rfl (decide_eq_false (p := (((decE p)) : Int) ≠ ((0) : Int)) (by omega)) ?_)
                have hdg := dec_good (p := p) (by omega)
                refine L_nil ?_
                refine T_n ?_
                refine W_cf rfl ?_
                refine W_skip ?_
                refine T_n ?_
                refine W_seq ?_
                refine W_reg ?_
                refine L_op rfl (X_move (v := s29) rfl ?_)
                refine L_op rfl (X_loadA (p := (ptr b30 (0))) (xs := ptC (decN p)) A28 rfl hB30.atAll rfl ?_)
                refine L_op rfl (X_fn (vs := [s29, (.agg (ptC (decN p)).toArray)]) en8 rfl (CT.mono (c_encode s29 (decB p) (decN p) _ (decN_ok p) hO29.rd hT) ?_))
                rintro _ w34 ⟨rfl, hu34⟩
                have hz34 := hu34.size
                replace hb := hb.ext hu34
                replace hU := hU.trans (Ext.upd hu34)
                replace hT := hT.ext hu34
                replace hB1 := hB1.ext hu34
                replace hB2 := hB2.ext hu34
                replace hB6 := hB6.ext hu34
                replace hO26 := hO26.ext hu34
                replace hB27 := hB27.ext hu34
                replace hO29 := hO29.ext hu34
                replace hB30 := hB30.ext hu34
                rw [hdg.1]
                refine L_op rfl (X_move (v := (.tuple #[(.agg (((encP (decB p) (decN p))).map byteV).toArray), (.int .i64 (0))])) rfl ?_)
                refine L_op rfl (X_extract (l := [(.agg (((encP (decB p) (decN p))).map byteV).toArray), (.int .i64 (0))]) (v := (.agg (((encP (decB p) (decN p))).map byteV).toArray)) rfl rfl ?_)
                refine L_op rfl (X_extract (l := [(.agg (((encP (decB p) (decN p))).map byteV).toArray), (.int .i64 (0))]) (v := (.int .i64 (0))) rfl rfl ?_)
                refine L_op rfl (X_alloc (z := zv30) (c := zc30.toArray) Zv30 rfl ?_)
                intro b35 w35 hn35
                have hbn35 := hn35.num; have hbs35 := hn35.size
                replace hb := hb.ext hn35.ext
                replace hU := hU.trans (Ext.upd hn35.ext)
                replace hT := hT.ext hn35.ext
                replace hB1 := hB1.ext hn35.ext
                replace hB2 := hB2.ext hn35.ext
                replace hB6 := hB6.ext hn35.ext
                replace hO26 := hO26.ext hn35.ext
                replace hB27 := hB27.ext hn35.ext
                replace hO29 := hO29.ext hn35.ext
                replace hB30 := hB30.ext hn35.ext
                have hB35 := hn35.blk
                rw [zc30_eq] at hB35
                refine L_op0 (X_storeW (b := b35) (ys := (((encP (decB p) (decN p))).map byteV)) A30 rfl rfl (byteV_one _) (by rw [List.length_map]; exact (encP_len _ _)) hB35 (by rw [List.size_toArray]; exact (by rw [List.length_map]; exact List.length_replicate)) ?_)
                intro w36 hu36 hb36
                have hz36 := hu36.size
                replace hb := hb.upd hu36 fun i hi h => by have hi := hb_b _ hi; have h : i = b35 := h; omega
                replace hU := hU.trans (hu36.mono fun i _ h => by have h : i = b35 := h; show n0 ≤ i; omega)
                replace hT := hT.upd hu36 fun i h1 h2 h => by have h : i = b35 := h; omega
                replace hB1 := hB1.upd hu36 fun h => by have h : b1 = b35 := h; omega
                replace hB2 := hB2.upd hu36 fun h => by have h : b2 = b35 := h; omega
                replace hB6 := hB6.upd hu36 fun h => by have h : b6 = b35 := h; omega
                replace hO26 := hO26.upd hu36 fun i hi h => by have hi := hO26_c _ hi; have h : i = b35 := h; omega
                replace hB27 := hB27.upd hu36 fun h => by have h : b27 = b35 := h; omega
                replace hO29 := hO29.upd hu36 fun i hi h => by have hi := hO29_c _ hi; have h : i = b35 := h; omega
                replace hB30 := hB30.upd hu36 fun h => by have h : b30 = b35 := h; omega
                replace hB35 := hb36
                refine L_op rfl (X_assign (v := (.int .i64 (0))) rfl ?_)
                refine L_nil ?_
                refine T_n ?_
                refine W_seq ?_
                refine W_reg ?_
                refine L_op rfl (X_move (v := (.int .i64 (0))) rfl ?_)
                refine L_op rfl (X_cmp (k := .i64) (a := 0) (b := 0) (r := true) rfl rfl rfl rfl ?_)
                refine L_op rfl (X_move (v := (.bool (true))) rfl ?_)
                refine L_gy (dj := 120) rfl rfl rfl (X_loadA (p := (ptr b35 (0))) (xs := (((encP (decB p) (decN p))).map byteV)) A30 rfl hB35.atAll (by rw [List.length_map]; exact (encP_len _ _)) ?_)
                refine L_gy (dj := 120) rfl rfl rfl (X_loadA (p := (ptr b2 (0))) (xs := ((p).map byteV)) A30 rfl hB2.atAll (by rw [List.length_map]; exact hp) ?_)
                refine L_gy (dj := 120) rfl rfl rfl (X_eqA (n := 256) (l := (encP (decB p) (decN p))) (m := p) (r := true) Tryd.underlying30 Tryd.underlying5 (by kernel_rfl) (by kernel_rfl) (by kernel_rfl) rfl rfl ((encP_len _ _)) (hp) (.inl ⟨rfl, (beq_iff_eq.2 hdg.2)⟩) ?_)
                refine L_op rfl (X_pick (t := true) (v := (.bool (true))) rfl rfl ?_)
                refine L_op rfl (X_move (v := (.bool (true))) rfl ?_)
                refine L_gy (dj := 125) rfl rfl rfl (X_fn (vs := []) en7 rfl (CT.mono (c_wakes _ hT) ?_))
                rintro vb37 w37 ⟨hvb37, hu37⟩
                have hz37 := hu37.size
                replace hb := hb.ext hu37
                replace hU := hU.trans (Ext.upd hu37)
                replace hT := hT.ext hu37
                replace hB1 := hB1.ext hu37
                replace hB2 := hB2.ext hu37
                replace hB6 := hB6.ext hu37
                replace hO26 := hO26.ext hu37
                replace hB27 := hB27.ext hu37
                replace hO29 := hO29.ext hu37
                replace hB30 := hB30.ext hu37
                replace hB35 := hB35.ext hu37
                subst hvb37
                refine L_op rfl (X_pick (t := true) (v := (.bool (true))) rfl rfl ?_)
                refine L_op rfl (X_assign (v := (.bool (true))) rfl ?_)
                refine L_nil ?_
                refine T_n ?_
                refine W_ret ?_
                exact BQ_r (End_1 Tryd.results3 (v := .bool true) rfl ⟨rfl, hU.own hn0⟩)
            · rw [hc25]
              refine L_gy (dj := 40) rfl rfl rfl (X_pick (t := true) (v := (.bool (false))) rfl rfl ?_)
              refine L_gy (dj := 36) rfl rfl rfl (X_pick (t := false) (v := (.bool (false))) rfl rfl ?_)
              refine L_op rfl (X_pick (t := true) (v := (.bool (false))) rfl rfl ?_)
              refine L_op rfl (X_assign (v := (.bool (false))) rfl ?_)
              refine L_nil ?_
              refine T_n ?_
              refine W_seq ?_
              refine W_seq ?_
              have hno : ¬ EncOk l q := fun h => by obtain ⟨h1, h2, h3⟩ := h; rcases h3 with h3 | h3; (· exact ne_of_beq_false hc10 h3); (· exact of_decide_eq_false hc25 h3.2)
              have hE := encE_no hno
              rw [hE]
              rw [encP_no hno] at hB6
              refine W_reg ?_
              refine L_op rfl (X_move (v := (.int .i64 (2))) rfl ?_)
              refine L_op rfl (X_cmp (k := .i64) (a := 2) (b := 0) (r := false) rfl rfl rfl rfl ?_)
              refine L_op rfl (X_move (v := (.bool (false))) rfl ?_)
              refine L_op rfl (X_cmpBool (a := false) (b := false) (r := false) Tryd.underlying4 rfl rfl (.inr ⟨rfl, rfl⟩) ?_)
              refine L_op rfl (X_move (v := (.bool (false))) rfl ?_)
              refine L_gy (dj := 54) rfl rfl rfl (X_move (v := (.int .i64 (2))) rfl ?_)
              refine L_gy (dj := 54) rfl rfl rfl (X_cmp (k := .i64) (a := 2) (b := 0) (r := true) rfl rfl rfl rfl ?_)
              refine L_gy (dj := 54) rfl rfl rfl (X_move (v := (.bool (true))) rfl ?_)
              refine L_gy (dj := 57) rfl rfl rfl (X_move (v := (.int .i64 (2))) rfl ?_)
              refine L_gy (dj := 57) rfl rfl rfl (X_cmp (k := .i64) (a := 2) (b := 2) (r := false) rfl rfl rfl rfl ?_)
              refine L_gy (dj := 57) rfl rfl rfl (X_move (v := (.bool (false))) rfl ?_)
              refine L_gy (dj := 60) rfl rfl rfl (X_loadA (p := (ptr b6 (0))) (xs := (((List.replicate 256 (0 : UInt8))).map byteV)) A30 rfl hB6.atAll (by rw [List.length_map]; exact List.length_replicate) ?_)
              refine L_gy (dj := 60) rfl rfl rfl (X_build built30z ?_)
              refine L_gy (dj := 60) rfl rfl rfl (X_eqA (n := 256) (l := (List.replicate 256 (0 : UInt8))) (m := (List.replicate 256 (0 : UInt8))) (r := false) Tryd.underlying30 Tryd.underlying5 (by kernel_rfl) (by kernel_rfl) (by kernel_rfl) rfl rfl (List.length_replicate) (List.length_replicate) (.inr ⟨rfl, by rw [(beq_self_eq_true _)]; rfl⟩) ?_)
              refine L_gy (dj := 57) rfl rfl rfl (X_pick (t := false) (v := (.bool (false))) rfl rfl ?_)
              refine L_gy (dj := 54) rfl rfl rfl (X_pick (t := true) (v := (.bool (false))) rfl rfl ?_)
              refine L_op rfl (X_pick (t := false) (v := (.bool (false))) rfl rfl ?_)
              refine L_nil ?_
              refine T_n ?_
              refine W_cf rfl ?_
              refine W_skip ?_
              refine T_n ?_
              refine W_seq ?_
              refine W_seq ?_
              refine W_reg ?_
              refine L_op rfl (X_move (v := (.int .i64 (2))) rfl ?_)
              refine L_op rfl (X_cmp (k := .i64) (a := 2) (b := 0) (r := false) rfl rfl rfl rfl ?_)
              refine L_nil ?_
              refine T_n ?_
              refine W_cf rfl ?_
              refine W_skip ?_
              refine T_n ?_
              refine W_seq ?_
              refine W_reg ?_
              refine L_op rfl (X_loadA (p := (ptr b2 (0))) (xs := ((p).map byteV)) A30 rfl hB2.atAll (by rw [List.length_map]; exact hp) ?_)
              obtain ⟨sD38, hsD38⟩ : ∃ n, n = w24.heap.size := ⟨_, rfl⟩
              refine L_op rfl (X_fn (vs := [(.agg (((p).map byteV)).toArray)]) en10 rfl (CT.mono (c_decode p _ hp hT) ?_))
              rintro _ w38 ⟨s38, rfl, hO38, hu38⟩
              have hz38 := hu38.size
              rw [← hsD38] at hO38
              replace hb := hb.ext hu38
              replace hU := hU.trans (Ext.upd hu38)
              replace hT := hT.ext hu38
              replace hB1 := hB1.ext hu38
              replace hB2 := hB2.ext hu38
              replace hB6 := hB6.ext hu38
              have hO38_c : ∀ b, obk s38 = some b → sD38 ≤ b ∧ b < w38.heap.size := fun b hb => hO38.lt hb
              refine L_op rfl (X_move (v := (.tuple #[s38, (.agg (ptC (decN p)).toArray), (.int .i64 ((decE p)))])) rfl ?_)
              refine L_op rfl (X_extract (l := [s38, (.agg (ptC (decN p)).toArray), (.int .i64 ((decE p)))]) (v := s38) rfl rfl ?_)
              refine L_op rfl (X_extract (l := [s38, (.agg (ptC (decN p)).toArray), (.int .i64 ((decE p)))]) (v := (.agg (ptC (decN p)).toArray)) rfl rfl ?_)
              refine L_op rfl (X_extract (l := [s38, (.agg (ptC (decN p)).toArray), (.int .i64 ((decE p)))]) (v := (.int .i64 ((decE p)))) rfl rfl ?_)
              refine L_op rfl (X_alloc (z := (.agg #[(.int .u8 (0)), (.int .u16 (0)), (.int .u16 (0)), (.int .u32 (0)), (.int .u64 (0))])) (c := #[(.int .u8 (0)), (.int .u16 (0)), (.int .u16 (0)), (.int .u32 (0)), (.int .u64 (0))]) Zv28 rfl ?_)
              intro b39 w39 hn39
              have hbn39 := hn39.num; have hbs39 := hn39.size
              replace hb := hb.ext hn39.ext
              replace hU := hU.trans (Ext.upd hn39.ext)
              replace hT := hT.ext hn39.ext
              replace hB1 := hB1.ext hn39.ext
              replace hB2 := hB2.ext hn39.ext
              replace hB6 := hB6.ext hn39.ext
              replace hO38 := hO38.ext hn39.ext
              have hB39 := hn39.blk
              refine L_op rfl (X_assign (v := s38) rfl ?_)
              refine L_op0 (X_storeW (b := b39) (ys := [(.int .u8 ((decN p).1)), (.int .u16 ((decN p).2.1)), (.int .u16 ((decN p).2.2.1)), (.int .u32 ((decN p).2.2.2.1)), (.int .u64 ((decN p).2.2.2.2))]) A28 rfl rfl (List.forall_mem_cons.2 ⟨rfl, (List.forall_mem_cons.2 ⟨rfl, (List.forall_mem_cons.2 ⟨rfl, (List.forall_mem_cons.2 ⟨rfl, (List.forall_mem_cons.2 ⟨rfl, (fun _ h => by cases h)⟩)⟩)⟩)⟩)⟩) rfl hB39 rfl ?_)
              intro w40 hu40 hb40
              have hz40 := hu40.size
              replace hb := hb.upd hu40 fun i hi h => by have hi := hb_b _ hi; have h : i = b39 := h; omega
              replace hU := hU.trans (hu40.mono fun i _ h => by have h : i = b39 := h; show n0 ≤ i; omega)
              replace hT := hT.upd hu40 fun i h1 h2 h => by have h : i = b39 := h; omega
              replace hB1 := hB1.upd hu40 fun h => by have h : b1 = b39 := h; omega
              replace hB2 := hB2.upd hu40 fun h => by have h : b2 = b39 := h; omega
              replace hB6 := hB6.upd hu40 fun h => by have h : b6 = b39 := h; omega
              replace hO38 := hO38.upd hu40 fun i hi h => by have hi := hO38_c _ hi; have h : i = b39 := h; omega
              replace hB39 : Blk w40 b39 #[(.int .u8 ((decN p).1)), (.int .u16 ((decN p).2.1)), (.int .u16 ((decN p).2.2.1)), (.int .u32 ((decN p).2.2.2.1)), (.int .u64 ((decN p).2.2.2.2))] 28 := hb40
              refine L_op rfl (X_assign (v := (.int .i64 ((decE p)))) rfl ?_)
              refine L_nil ?_
              refine T_n ?_
              refine W_seq ?_
              refine W_seq ?_
              refine W_reg ?_
              refine L_op rfl (X_move (v := (.int .i64 ((decE p)))) rfl ?_)
              by_cases hc41 : ((decE p) : Int) ≠ (0)
              · refine L_op rfl (X_cmp (k := .i64) (a := (decE p)) (b := 0) (r := true) rfl rfl rfl (decide_eq_true (p := (((decE p)) : Int) ≠ ((0) : Int)) (by omega)) ?_)
                refine L_nil ?_
                refine T_n ?_
                refine W_ct rfl ?_
                refine W_seq ?_
                obtain ⟨hd1, hd2, hd3⟩ := dec_bad hc41
                have hl0 : (decB p).length = 0 := by rw [hd2]; rfl
                refine W_reg ?_
                refine L_op rfl (X_move (v := (.int .i64 ((decE p)))) rfl ?_)
                refine L_op rfl (X_cmp (k := .i64) (a := (decE p)) (b := 50) (r := true) rfl rfl rfl (decide_eq_true (p := (((decE p)) : Int) = ((50) : Int)) (by omega)) ?_)
                refine L_op rfl (X_move (v := (.bool (true))) rfl ?_)
                refine L_gy (dj := 99) rfl rfl rfl (X_move (v := s38) rfl ?_)
                refine L_gy (dj := 99) rfl rfl rfl (X_len (v := s38) (n := ((decB p)).length) Tryd.underlying22 rfl hO38.sv ?_)
                refine L_gy (dj := 99) rfl rfl rfl (X_cmp (k := .i64) (a := ((((decB p)).length : Nat) : Int)) (b := 0) (r := true) rfl rfl rfl (decide_eq_true (p := ((((((decB p)).length : Nat) : Int)) : Int) = ((0) : Int)) (by omega)) ?_)
                refine L_op rfl (X_pick (t := true) (v := (.bool (true))) rfl rfl ?_)
                refine L_op rfl (X_move (v := (.bool (true))) rfl ?_)
                refine L_gy (dj := 104) rfl rfl rfl (X_loadA (p := (ptr b39 (0))) (xs := ptC (decN p)) A28 rfl hB39.atAll rfl ?_)
                refine L_gy (dj := 104) rfl rfl rfl (X_build built28z ?_)
                refine L_gy (dj := 104) rfl rfl rfl (X_eqP (p := (decN p)) (q := ptZ) (r := true) Tryd.underlying28 u28 (by kernel_rfl) (by decide) ⟨rfl, rfl, rfl, rfl⟩ Tryd.underlying5 Tryd.underlying24 (by kernel_rfl) Tryd.underlying23 (ie := _) rfl (by kernel_rfl) Tryd.underlying25 Tryd.underlying26 (by kernel_rfl) rfl rfl (.inl ⟨rfl, (beq_iff_eq.2 hd3)⟩) ?_)
                refine L_op rfl (X_pick (t := true) (v := (.bool (true))) rfl rfl ?_)
                refine L_op rfl (X_move (v := (.bool (true))) rfl ?_)
                refine L_gy (dj := 109) rfl rfl rfl (X_fn (vs := []) en7 rfl (CT.mono (c_wakes _ hT) ?_))
                rintro vb42 w42 ⟨hvb42, hu42⟩
                have hz42 := hu42.size
                replace hb := hb.ext hu42
                replace hU := hU.trans (Ext.upd hu42)
                replace hT := hT.ext hu42
                replace hB1 := hB1.ext hu42
                replace hB2 := hB2.ext hu42
                replace hB6 := hB6.ext hu42
                replace hO38 := hO38.ext hu42
                replace hB39 := hB39.ext hu42
                subst hvb42
                refine L_op rfl (X_pick (t := true) (v := (.bool (true))) rfl rfl ?_)
                refine L_op rfl (X_assign (v := (.bool (true))) rfl ?_)
                refine L_nil ?_
                refine T_n ?_
                refine W_ret ?_
                refine T_r ?_
                exact BQ_r (End_1 Tryd.results3 (v := .bool true) rfl ⟨rfl, hU.own hn0⟩)
              · refine L_op rfl (X_cmp (k := .i64) (a := (decE p)) (b := 0) (r := false) rfl rfl rfl (decide_eq_false (p := (((decE p)) : Int) ≠ ((0) : Int)) (by omega)) ?_)
                have hdg := dec_good (p := p) (by omega)
                refine L_nil ?_
                refine T_n ?_
                refine W_cf rfl ?_
                refine W_skip ?_
                refine T_n ?_
                refine W_seq ?_
                refine W_reg ?_
                refine L_op rfl (X_move (v := s38) rfl ?_)
                refine L_op rfl (X_loadA (p := (ptr b39 (0))) (xs := ptC (decN p)) A28 rfl hB39.atAll rfl ?_)
                refine L_op rfl (X_fn (vs := [s38, (.agg (ptC (decN p)).toArray)]) en8 rfl (CT.mono (c_encode s38 (decB p) (decN p) _ (decN_ok p) hO38.rd hT) ?_))
                rintro _ w43 ⟨rfl, hu43⟩
                have hz43 := hu43.size
                replace hb := hb.ext hu43
                replace hU := hU.trans (Ext.upd hu43)
                replace hT := hT.ext hu43
                replace hB1 := hB1.ext hu43
                replace hB2 := hB2.ext hu43
                replace hB6 := hB6.ext hu43
                replace hO38 := hO38.ext hu43
                replace hB39 := hB39.ext hu43
                rw [hdg.1]
                refine L_op rfl (X_move (v := (.tuple #[(.agg (((encP (decB p) (decN p))).map byteV).toArray), (.int .i64 (0))])) rfl ?_)
                refine L_op rfl (X_extract (l := [(.agg (((encP (decB p) (decN p))).map byteV).toArray), (.int .i64 (0))]) (v := (.agg (((encP (decB p) (decN p))).map byteV).toArray)) rfl rfl ?_)
                refine L_op rfl (X_extract (l := [(.agg (((encP (decB p) (decN p))).map byteV).toArray), (.int .i64 (0))]) (v := (.int .i64 (0))) rfl rfl ?_)
                refine L_op rfl (X_alloc (z := zv30) (c := zc30.toArray) Zv30 rfl ?_)
                intro b44 w44 hn44
                have hbn44 := hn44.num; have hbs44 := hn44.size
                replace hb := hb.ext hn44.ext
                replace hU := hU.trans (Ext.upd hn44.ext)
                replace hT := hT.ext hn44.ext
                replace hB1 := hB1.ext hn44.ext
                replace hB2 := hB2.ext hn44.ext
                replace hB6 := hB6.ext hn44.ext
                replace hO38 := hO38.ext hn44.ext
                replace hB39 := hB39.ext hn44.ext
                have hB44 := hn44.blk
                rw [zc30_eq] at hB44
                refine L_op0 (X_storeW (b := b44) (ys := (((encP (decB p) (decN p))).map byteV)) A30 rfl rfl (byteV_one _) (by rw [List.length_map]; exact (encP_len _ _)) hB44 (by rw [List.size_toArray]; exact (by rw [List.length_map]; exact List.length_replicate)) ?_)
                intro w45 hu45 hb45
                have hz45 := hu45.size
                replace hb := hb.upd hu45 fun i hi h => by have hi := hb_b _ hi; have h : i = b44 := h; omega
                replace hU := hU.trans (hu45.mono fun i _ h => by have h : i = b44 := h; show n0 ≤ i; omega)
                replace hT := hT.upd hu45 fun i h1 h2 h => by have h : i = b44 := h; omega
                replace hB1 := hB1.upd hu45 fun h => by have h : b1 = b44 := h; omega
                replace hB2 := hB2.upd hu45 fun h => by have h : b2 = b44 := h; omega
                replace hB6 := hB6.upd hu45 fun h => by have h : b6 = b44 := h; omega
                replace hO38 := hO38.upd hu45 fun i hi h => by have hi := hO38_c _ hi; have h : i = b44 := h; omega
                replace hB39 := hB39.upd hu45 fun h => by have h : b39 = b44 := h; omega
                replace hB44 := hb45
                refine L_op rfl (X_assign (v := (.int .i64 (0))) rfl ?_)
                refine L_nil ?_
                refine T_n ?_
                refine W_seq ?_
                refine W_reg ?_
                refine L_op rfl (X_move (v := (.int .i64 (0))) rfl ?_)
                refine L_op rfl (X_cmp (k := .i64) (a := 0) (b := 0) (r := true) rfl rfl rfl rfl ?_)
                refine L_op rfl (X_move (v := (.bool (true))) rfl ?_)
                refine L_gy (dj := 120) rfl rfl rfl (X_loadA (p := (ptr b44 (0))) (xs := (((encP (decB p) (decN p))).map byteV)) A30 rfl hB44.atAll (by rw [List.length_map]; exact (encP_len _ _)) ?_)
                refine L_gy (dj := 120) rfl rfl rfl (X_loadA (p := (ptr b2 (0))) (xs := ((p).map byteV)) A30 rfl hB2.atAll (by rw [List.length_map]; exact hp) ?_)
                refine L_gy (dj := 120) rfl rfl rfl (X_eqA (n := 256) (l := (encP (decB p) (decN p))) (m := p) (r := true) Tryd.underlying30 Tryd.underlying5 (by kernel_rfl) (by kernel_rfl) (by kernel_rfl) rfl rfl ((encP_len _ _)) (hp) (.inl ⟨rfl, (beq_iff_eq.2 hdg.2)⟩) ?_)
                refine L_op rfl (X_pick (t := true) (v := (.bool (true))) rfl rfl ?_)
                refine L_op rfl (X_move (v := (.bool (true))) rfl ?_)
                refine L_gy (dj := 125) rfl rfl rfl (X_fn (vs := []) en7 rfl (CT.mono (c_wakes _ hT) ?_))
                rintro vb46 w46 ⟨hvb46, hu46⟩
                have hz46 := hu46.size
                replace hb := hb.ext hu46
                replace hU := hU.trans (Ext.upd hu46)
                replace hT := hT.ext hu46
                replace hB1 := hB1.ext hu46
                replace hB2 := hB2.ext hu46
                replace hB6 := hB6.ext hu46
                replace hO38 := hO38.ext hu46
                replace hB39 := hB39.ext hu46
                replace hB44 := hB44.ext hu46
                subst hvb46
                refine L_op rfl (X_pick (t := true) (v := (.bool (true))) rfl rfl ?_)
                refine L_op rfl (X_assign (v := (.bool (true))) rfl ?_)
                refine L_nil ?_
                refine T_n ?_
                refine W_ret ?_
                exact BQ_r (End_1 Tryd.results3 (v := .bool true) rfl ⟨rfl, hU.own hn0⟩)
          · refine L_gy (dj := 40) rfl rfl rfl (X_cmp (k := .u8) (a := q.1) (b := 3) (r := false) rfl rfl rfl (decide_eq_false (p := ((q.1) : Int) = ((3) : Int)) (by omega)) ?_)
            refine L_gy (dj := 40) rfl rfl rfl (X_move (v := (.bool (false))) rfl ?_)
            refine L_gn (dj := 44) (t := false) rfl rfl rfl rfl ?_
            refine L_gn (dj := 44) (t := false) rfl rfl rfl rfl ?_
            refine L_gy (dj := 40) rfl rfl rfl (X_pick (t := false) (v := (.bool (false))) rfl rfl ?_)
            refine L_gy (dj := 36) rfl rfl rfl (X_pick (t := false) (v := (.bool (false))) rfl rfl ?_)
            refine L_op rfl (X_pick (t := true) (v := (.bool (false))) rfl rfl ?_)
            refine L_op rfl (X_assign (v := (.bool (false))) rfl ?_)
            refine L_nil ?_
            refine T_n ?_
            refine W_seq ?_
            refine W_seq ?_
            have hno : ¬ EncOk l q := fun h => by obtain ⟨h1, h2, h3⟩ := h; rcases h3 with h3 | h3; (· exact ne_of_beq_false hc10 h3); (· omega)
            have hE := encE_no hno
            rw [hE]
            rw [encP_no hno] at hB6
            refine W_reg ?_
            refine L_op rfl (X_move (v := (.int .i64 (2))) rfl ?_)
            refine L_op rfl (X_cmp (k := .i64) (a := 2) (b := 0) (r := false) rfl rfl rfl rfl ?_)
            refine L_op rfl (X_move (v := (.bool (false))) rfl ?_)
            refine L_op rfl (X_cmpBool (a := false) (b := false) (r := false) Tryd.underlying4 rfl rfl (.inr ⟨rfl, rfl⟩) ?_)
            refine L_op rfl (X_move (v := (.bool (false))) rfl ?_)
            refine L_gy (dj := 54) rfl rfl rfl (X_move (v := (.int .i64 (2))) rfl ?_)
            refine L_gy (dj := 54) rfl rfl rfl (X_cmp (k := .i64) (a := 2) (b := 0) (r := true) rfl rfl rfl rfl ?_)
            refine L_gy (dj := 54) rfl rfl rfl (X_move (v := (.bool (true))) rfl ?_)
            refine L_gy (dj := 57) rfl rfl rfl (X_move (v := (.int .i64 (2))) rfl ?_)
            refine L_gy (dj := 57) rfl rfl rfl (X_cmp (k := .i64) (a := 2) (b := 2) (r := false) rfl rfl rfl rfl ?_)
            refine L_gy (dj := 57) rfl rfl rfl (X_move (v := (.bool (false))) rfl ?_)
            refine L_gy (dj := 60) rfl rfl rfl (X_loadA (p := (ptr b6 (0))) (xs := (((List.replicate 256 (0 : UInt8))).map byteV)) A30 rfl hB6.atAll (by rw [List.length_map]; exact List.length_replicate) ?_)
            refine L_gy (dj := 60) rfl rfl rfl (X_build built30z ?_)
            refine L_gy (dj := 60) rfl rfl rfl (X_eqA (n := 256) (l := (List.replicate 256 (0 : UInt8))) (m := (List.replicate 256 (0 : UInt8))) (r := false) Tryd.underlying30 Tryd.underlying5 (by kernel_rfl) (by kernel_rfl) (by kernel_rfl) rfl rfl (List.length_replicate) (List.length_replicate) (.inr ⟨rfl, by rw [(beq_self_eq_true _)]; rfl⟩) ?_)
            refine L_gy (dj := 57) rfl rfl rfl (X_pick (t := false) (v := (.bool (false))) rfl rfl ?_)
            refine L_gy (dj := 54) rfl rfl rfl (X_pick (t := true) (v := (.bool (false))) rfl rfl ?_)
            refine L_op rfl (X_pick (t := false) (v := (.bool (false))) rfl rfl ?_)
            refine L_nil ?_
            refine T_n ?_
            refine W_cf rfl ?_
            refine W_skip ?_
            refine T_n ?_
            refine W_seq ?_
            refine W_seq ?_
            refine W_reg ?_
            refine L_op rfl (X_move (v := (.int .i64 (2))) rfl ?_)
            refine L_op rfl (X_cmp (k := .i64) (a := 2) (b := 0) (r := false) rfl rfl rfl rfl ?_)
            refine L_nil ?_
            refine T_n ?_
            refine W_cf rfl ?_
            refine W_skip ?_
            refine T_n ?_
            refine W_seq ?_
            refine W_reg ?_
            refine L_op rfl (X_loadA (p := (ptr b2 (0))) (xs := ((p).map byteV)) A30 rfl hB2.atAll (by rw [List.length_map]; exact hp) ?_)
            obtain ⟨sD47, hsD47⟩ : ∃ n, n = w7.heap.size := ⟨_, rfl⟩
            refine L_op rfl (X_fn (vs := [(.agg (((p).map byteV)).toArray)]) en10 rfl (CT.mono (c_decode p _ hp hT) ?_))
            rintro _ w47 ⟨s47, rfl, hO47, hu47⟩
            have hz47 := hu47.size
            rw [← hsD47] at hO47
            replace hb := hb.ext hu47
            replace hU := hU.trans (Ext.upd hu47)
            replace hT := hT.ext hu47
            replace hB1 := hB1.ext hu47
            replace hB2 := hB2.ext hu47
            replace hB6 := hB6.ext hu47
            have hO47_c : ∀ b, obk s47 = some b → sD47 ≤ b ∧ b < w47.heap.size := fun b hb => hO47.lt hb
            refine L_op rfl (X_move (v := (.tuple #[s47, (.agg (ptC (decN p)).toArray), (.int .i64 ((decE p)))])) rfl ?_)
            refine L_op rfl (X_extract (l := [s47, (.agg (ptC (decN p)).toArray), (.int .i64 ((decE p)))]) (v := s47) rfl rfl ?_)
            refine L_op rfl (X_extract (l := [s47, (.agg (ptC (decN p)).toArray), (.int .i64 ((decE p)))]) (v := (.agg (ptC (decN p)).toArray)) rfl rfl ?_)
            refine L_op rfl (X_extract (l := [s47, (.agg (ptC (decN p)).toArray), (.int .i64 ((decE p)))]) (v := (.int .i64 ((decE p)))) rfl rfl ?_)
            refine L_op rfl (X_alloc (z := (.agg #[(.int .u8 (0)), (.int .u16 (0)), (.int .u16 (0)), (.int .u32 (0)), (.int .u64 (0))])) (c := #[(.int .u8 (0)), (.int .u16 (0)), (.int .u16 (0)), (.int .u32 (0)), (.int .u64 (0))]) Zv28 rfl ?_)
            intro b48 w48 hn48
            have hbn48 := hn48.num; have hbs48 := hn48.size
            replace hb := hb.ext hn48.ext
            replace hU := hU.trans (Ext.upd hn48.ext)
            replace hT := hT.ext hn48.ext
            replace hB1 := hB1.ext hn48.ext
            replace hB2 := hB2.ext hn48.ext
            replace hB6 := hB6.ext hn48.ext
            replace hO47 := hO47.ext hn48.ext
            have hB48 := hn48.blk
            refine L_op rfl (X_assign (v := s47) rfl ?_)
            refine L_op0 (X_storeW (b := b48) (ys := [(.int .u8 ((decN p).1)), (.int .u16 ((decN p).2.1)), (.int .u16 ((decN p).2.2.1)), (.int .u32 ((decN p).2.2.2.1)), (.int .u64 ((decN p).2.2.2.2))]) A28 rfl rfl (List.forall_mem_cons.2 ⟨rfl, (List.forall_mem_cons.2 ⟨rfl, (List.forall_mem_cons.2 ⟨rfl, (List.forall_mem_cons.2 ⟨rfl, (List.forall_mem_cons.2 ⟨rfl, (fun _ h => by cases h)⟩)⟩)⟩)⟩)⟩) rfl hB48 rfl ?_)
            intro w49 hu49 hb49
            have hz49 := hu49.size
            replace hb := hb.upd hu49 fun i hi h => by have hi := hb_b _ hi; have h : i = b48 := h; omega
            replace hU := hU.trans (hu49.mono fun i _ h => by have h : i = b48 := h; show n0 ≤ i; omega)
            replace hT := hT.upd hu49 fun i h1 h2 h => by have h : i = b48 := h; omega
            replace hB1 := hB1.upd hu49 fun h => by have h : b1 = b48 := h; omega
            replace hB2 := hB2.upd hu49 fun h => by have h : b2 = b48 := h; omega
            replace hB6 := hB6.upd hu49 fun h => by have h : b6 = b48 := h; omega
            replace hO47 := hO47.upd hu49 fun i hi h => by have hi := hO47_c _ hi; have h : i = b48 := h; omega
            replace hB48 : Blk w49 b48 #[(.int .u8 ((decN p).1)), (.int .u16 ((decN p).2.1)), (.int .u16 ((decN p).2.2.1)), (.int .u32 ((decN p).2.2.2.1)), (.int .u64 ((decN p).2.2.2.2))] 28 := hb49
            refine L_op rfl (X_assign (v := (.int .i64 ((decE p)))) rfl ?_)
            refine L_nil ?_
            refine T_n ?_
            refine W_seq ?_
            refine W_seq ?_
            refine W_reg ?_
            refine L_op rfl (X_move (v := (.int .i64 ((decE p)))) rfl ?_)
            by_cases hc50 : ((decE p) : Int) ≠ (0)
            · refine L_op rfl (X_cmp (k := .i64) (a := (decE p)) (b := 0) (r := true) rfl rfl rfl (decide_eq_true (p := (((decE p)) : Int) ≠ ((0) : Int)) (by omega)) ?_)
              refine L_nil ?_
              refine T_n ?_
              refine W_ct rfl ?_
              refine W_seq ?_
              obtain ⟨hd1, hd2, hd3⟩ := dec_bad hc50
              have hl0 : (decB p).length = 0 := by rw [hd2]; rfl
              refine W_reg ?_
              refine L_op rfl (X_move (v := (.int .i64 ((decE p)))) rfl ?_)
              refine L_op rfl (X_cmp (k := .i64) (a := (decE p)) (b := 50) (r := true) rfl rfl rfl (decide_eq_true (p := (((decE p)) : Int) = ((50) : Int)) (by omega)) ?_)
              refine L_op rfl (X_move (v := (.bool (true))) rfl ?_)
              refine L_gy (dj := 99) rfl rfl rfl (X_move (v := s47) rfl ?_)
              refine L_gy (dj := 99) rfl rfl rfl (X_len (v := s47) (n := ((decB p)).length) Tryd.underlying22 rfl hO47.sv ?_)
              refine L_gy (dj := 99) rfl rfl rfl (X_cmp (k := .i64) (a := ((((decB p)).length : Nat) : Int)) (b := 0) (r := true) rfl rfl rfl (decide_eq_true (p := ((((((decB p)).length : Nat) : Int)) : Int) = ((0) : Int)) (by omega)) ?_)
              refine L_op rfl (X_pick (t := true) (v := (.bool (true))) rfl rfl ?_)
              refine L_op rfl (X_move (v := (.bool (true))) rfl ?_)
              refine L_gy (dj := 104) rfl rfl rfl (X_loadA (p := (ptr b48 (0))) (xs := ptC (decN p)) A28 rfl hB48.atAll rfl ?_)
              refine L_gy (dj := 104) rfl rfl rfl (X_build built28z ?_)
              refine L_gy (dj := 104) rfl rfl rfl (X_eqP (p := (decN p)) (q := ptZ) (r := true) Tryd.underlying28 u28 (by kernel_rfl) (by decide) ⟨rfl, rfl, rfl, rfl⟩ Tryd.underlying5 Tryd.underlying24 (by kernel_rfl) Tryd.underlying23 (ie := _) rfl (by kernel_rfl) Tryd.underlying25 Tryd.underlying26 (by kernel_rfl) rfl rfl (.inl ⟨rfl, (beq_iff_eq.2 hd3)⟩) ?_)
              refine L_op rfl (X_pick (t := true) (v := (.bool (true))) rfl rfl ?_)
              refine L_op rfl (X_move (v := (.bool (true))) rfl ?_)
              refine L_gy (dj := 109) rfl rfl rfl (X_fn (vs := []) en7 rfl (CT.mono (c_wakes _ hT) ?_))
              rintro vb51 w51 ⟨hvb51, hu51⟩
              have hz51 := hu51.size
              replace hb := hb.ext hu51
              replace hU := hU.trans (Ext.upd hu51)
              replace hT := hT.ext hu51
              replace hB1 := hB1.ext hu51
              replace hB2 := hB2.ext hu51
              replace hB6 := hB6.ext hu51
              replace hO47 := hO47.ext hu51
              replace hB48 := hB48.ext hu51
              subst hvb51
              refine L_op rfl (X_pick (t := true) (v := (.bool (true))) rfl rfl ?_)
              refine L_op rfl (X_assign (v := (.bool (true))) rfl ?_)
              refine L_nil ?_
              refine T_n ?_
              refine W_ret ?_
              refine T_r ?_
              exact BQ_r (End_1 Tryd.results3 (v := .bool true) rfl ⟨rfl, hU.own hn0⟩)
            · refine L_op rfl (X_cmp (k := .i64) (a := (decE p)) (b := 0) (r := false) rfl rfl rfl (decide_eq_false (p := (((decE p)) : Int) ≠ ((0) : Int)) (by omega)) ?_)
              have hdg := dec_good (p := p) (by omega)
              refine L_nil ?_
              refine T_n ?_
              refine W_cf rfl ?_
              refine W_skip ?_
              refine T_n ?_
              refine W_seq ?_
              refine W_reg ?_
              refine L_op rfl (X_move (v := s47) rfl ?_)
              refine L_op rfl (X_loadA (p := (ptr b48 (0))) (xs := ptC (decN p)) A28 rfl hB48.atAll rfl ?_)
              refine L_op rfl (X_fn (vs := [s47, (.agg (ptC (decN p)).toArray)]) en8 rfl (CT.mono (c_encode s47 (decB p) (decN p) _ (decN_ok p) hO47.rd hT) ?_))
              rintro _ w52 ⟨rfl, hu52⟩
              have hz52 := hu52.size
              replace hb := hb.ext hu52
              replace hU := hU.trans (Ext.upd hu52)
              replace hT := hT.ext hu52
              replace hB1 := hB1.ext hu52
              replace hB2 := hB2.ext hu52
              replace hB6 := hB6.ext hu52
              replace hO47 := hO47.ext hu52
              replace hB48 := hB48.ext hu52
              rw [hdg.1]
              refine L_op rfl (X_move (v := (.tuple #[(.agg (((encP (decB p) (decN p))).map byteV).toArray), (.int .i64 (0))])) rfl ?_)
              refine L_op rfl (X_extract (l := [(.agg (((encP (decB p) (decN p))).map byteV).toArray), (.int .i64 (0))]) (v := (.agg (((encP (decB p) (decN p))).map byteV).toArray)) rfl rfl ?_)
              refine L_op rfl (X_extract (l := [(.agg (((encP (decB p) (decN p))).map byteV).toArray), (.int .i64 (0))]) (v := (.int .i64 (0))) rfl rfl ?_)
              refine L_op rfl (X_alloc (z := zv30) (c := zc30.toArray) Zv30 rfl ?_)
              intro b53 w53 hn53
              have hbn53 := hn53.num; have hbs53 := hn53.size
              replace hb := hb.ext hn53.ext
              replace hU := hU.trans (Ext.upd hn53.ext)
              replace hT := hT.ext hn53.ext
              replace hB1 := hB1.ext hn53.ext
              replace hB2 := hB2.ext hn53.ext
              replace hB6 := hB6.ext hn53.ext
              replace hO47 := hO47.ext hn53.ext
              replace hB48 := hB48.ext hn53.ext
              have hB53 := hn53.blk
              rw [zc30_eq] at hB53
              refine L_op0 (X_storeW (b := b53) (ys := (((encP (decB p) (decN p))).map byteV)) A30 rfl rfl (byteV_one _) (by rw [List.length_map]; exact (encP_len _ _)) hB53 (by rw [List.size_toArray]; exact (by rw [List.length_map]; exact List.length_replicate)) ?_)
              intro w54 hu54 hb54
              have hz54 := hu54.size
              replace hb := hb.upd hu54 fun i hi h => by have hi := hb_b _ hi; have h : i = b53 := h; omega
              replace hU := hU.trans (hu54.mono fun i _ h => by have h : i = b53 := h; show n0 ≤ i; omega)
              replace hT := hT.upd hu54 fun i h1 h2 h => by have h : i = b53 := h; omega
              replace hB1 := hB1.upd hu54 fun h => by have h : b1 = b53 := h; omega
              replace hB2 := hB2.upd hu54 fun h => by have h : b2 = b53 := h; omega
              replace hB6 := hB6.upd hu54 fun h => by have h : b6 = b53 := h; omega
              replace hO47 := hO47.upd hu54 fun i hi h => by have hi := hO47_c _ hi; have h : i = b53 := h; omega
              replace hB48 := hB48.upd hu54 fun h => by have h : b48 = b53 := h; omega
              replace hB53 := hb54
              refine L_op rfl (X_assign (v := (.int .i64 (0))) rfl ?_)
              refine L_nil ?_
              refine T_n ?_
              refine W_seq ?_
              refine W_reg ?_
              refine L_op rfl (X_move (v := (.int .i64 (0))) rfl ?_)
              refine L_op rfl (X_cmp (k := .i64) (a := 0) (b := 0) (r := true) rfl rfl rfl rfl ?_)
              refine L_op rfl (X_move (v := (.bool (true))) rfl ?_)
              refine L_gy (dj := 120) rfl rfl rfl (X_loadA (p := (ptr b53 (0))) (xs := (((encP (decB p) (decN p))).map byteV)) A30 rfl hB53.atAll (by rw [List.length_map]; exact (encP_len _ _)) ?_)
              refine L_gy (dj := 120) rfl rfl rfl (X_loadA (p := (ptr b2 (0))) (xs := ((p).map byteV)) A30 rfl hB2.atAll (by rw [List.length_map]; exact hp) ?_)
              refine L_gy (dj := 120) rfl rfl rfl (X_eqA (n := 256) (l := (encP (decB p) (decN p))) (m := p) (r := true) Tryd.underlying30 Tryd.underlying5 (by kernel_rfl) (by kernel_rfl) (by kernel_rfl) rfl rfl ((encP_len _ _)) (hp) (.inl ⟨rfl, (beq_iff_eq.2 hdg.2)⟩) ?_)
              refine L_op rfl (X_pick (t := true) (v := (.bool (true))) rfl rfl ?_)
              refine L_op rfl (X_move (v := (.bool (true))) rfl ?_)
              refine L_gy (dj := 125) rfl rfl rfl (X_fn (vs := []) en7 rfl (CT.mono (c_wakes _ hT) ?_))
              rintro vb55 w55 ⟨hvb55, hu55⟩
              have hz55 := hu55.size
              replace hb := hb.ext hu55
              replace hU := hU.trans (Ext.upd hu55)
              replace hT := hT.ext hu55
              replace hB1 := hB1.ext hu55
              replace hB2 := hB2.ext hu55
              replace hB6 := hB6.ext hu55
              replace hO47 := hO47.ext hu55
              replace hB48 := hB48.ext hu55
              replace hB53 := hB53.ext hu55
              subst hvb55
              refine L_op rfl (X_pick (t := true) (v := (.bool (true))) rfl rfl ?_)
              refine L_op rfl (X_assign (v := (.bool (true))) rfl ?_)
              refine L_nil ?_
              refine T_n ?_
              refine W_ret ?_
              exact BQ_r (End_1 Tryd.results3 (v := .bool true) rfl ⟨rfl, hU.own hn0⟩)
      · refine L_gy (dj := 31) rfl rfl rfl (X_cmp (k := .i64) (a := ((l.length : Nat) : Int)) (b := 200) (r := false) rfl rfl rfl (decide_eq_false (p := ((((l.length : Nat) : Int)) : Int) ≤ ((200) : Int)) (by omega)) ?_)
        refine L_op rfl (X_pick (t := true) (v := (.bool (false))) rfl rfl ?_)
        refine L_op rfl (X_move (v := (.bool (false))) rfl ?_)
        refine L_gn (dj := 36) (t := false) rfl rfl rfl rfl ?_
        refine L_gn (dj := 36) (t := false) rfl rfl rfl rfl ?_
        refine L_gn (dj := 36) (t := false) rfl rfl rfl rfl ?_
        refine L_gn (dj := 36) (t := false) rfl rfl rfl rfl ?_
        refine L_gu (dj := 40) rfl rfl rfl ?_
        refine L_gu (dj := 40) rfl rfl rfl ?_
        refine L_gu (dj := 40) rfl rfl rfl ?_
        refine L_gu (dj := 40) rfl rfl rfl ?_
        refine L_gu (dj := 44) rfl rfl rfl ?_
        refine L_gu (dj := 44) rfl rfl rfl ?_
        refine L_gu (dj := 40) rfl rfl rfl ?_
        refine L_gn (dj := 36) (t := false) rfl rfl rfl rfl ?_
        refine L_op rfl (X_pick (t := false) (v := (.bool (false))) rfl rfl ?_)
        refine L_op rfl (X_assign (v := (.bool (false))) rfl ?_)
        refine L_nil ?_
        refine T_n ?_
        refine W_seq ?_
        refine W_seq ?_
        have hno : ¬ EncOk l q := fun h => by obtain ⟨h1, h2, h3⟩ := h; omega
        have hE := encE_no hno
        rw [hE]
        rw [encP_no hno] at hB6
        refine W_reg ?_
        refine L_op rfl (X_move (v := (.int .i64 (2))) rfl ?_)
        refine L_op rfl (X_cmp (k := .i64) (a := 2) (b := 0) (r := false) rfl rfl rfl rfl ?_)
        refine L_op rfl (X_move (v := (.bool (false))) rfl ?_)
        refine L_op rfl (X_cmpBool (a := false) (b := false) (r := false) Tryd.underlying4 rfl rfl (.inr ⟨rfl, rfl⟩) ?_)
        refine L_op rfl (X_move (v := (.bool (false))) rfl ?_)
        refine L_gy (dj := 54) rfl rfl rfl (X_move (v := (.int .i64 (2))) rfl ?_)
        refine L_gy (dj := 54) rfl rfl rfl (X_cmp (k := .i64) (a := 2) (b := 0) (r := true) rfl rfl rfl rfl ?_)
        refine L_gy (dj := 54) rfl rfl rfl (X_move (v := (.bool (true))) rfl ?_)
        refine L_gy (dj := 57) rfl rfl rfl (X_move (v := (.int .i64 (2))) rfl ?_)
        refine L_gy (dj := 57) rfl rfl rfl (X_cmp (k := .i64) (a := 2) (b := 2) (r := false) rfl rfl rfl rfl ?_)
        refine L_gy (dj := 57) rfl rfl rfl (X_move (v := (.bool (false))) rfl ?_)
        refine L_gy (dj := 60) rfl rfl rfl (X_loadA (p := (ptr b6 (0))) (xs := (((List.replicate 256 (0 : UInt8))).map byteV)) A30 rfl hB6.atAll (by rw [List.length_map]; exact List.length_replicate) ?_)
        refine L_gy (dj := 60) rfl rfl rfl (X_build built30z ?_)
        refine L_gy (dj := 60) rfl rfl rfl (X_eqA (n := 256) (l := (List.replicate 256 (0 : UInt8))) (m := (List.replicate 256 (0 : UInt8))) (r := false) Tryd.underlying30 Tryd.underlying5 (by kernel_rfl) (by kernel_rfl) (by kernel_rfl) rfl rfl (List.length_replicate) (List.length_replicate) (.inr ⟨rfl, by rw [(beq_self_eq_true _)]; rfl⟩) ?_)
        refine L_gy (dj := 57) rfl rfl rfl (X_pick (t := false) (v := (.bool (false))) rfl rfl ?_)
        refine L_gy (dj := 54) rfl rfl rfl (X_pick (t := true) (v := (.bool (false))) rfl rfl ?_)
        refine L_op rfl (X_pick (t := false) (v := (.bool (false))) rfl rfl ?_)
        refine L_nil ?_
        refine T_n ?_
        refine W_cf rfl ?_
        refine W_skip ?_
        refine T_n ?_
        refine W_seq ?_
        refine W_seq ?_
        refine W_reg ?_
        refine L_op rfl (X_move (v := (.int .i64 (2))) rfl ?_)
        refine L_op rfl (X_cmp (k := .i64) (a := 2) (b := 0) (r := false) rfl rfl rfl rfl ?_)
        refine L_nil ?_
        refine T_n ?_
        refine W_cf rfl ?_
        refine W_skip ?_
        refine T_n ?_
        refine W_seq ?_
        refine W_reg ?_
        refine L_op rfl (X_loadA (p := (ptr b2 (0))) (xs := ((p).map byteV)) A30 rfl hB2.atAll (by rw [List.length_map]; exact hp) ?_)
        obtain ⟨sD56, hsD56⟩ : ∃ n, n = w7.heap.size := ⟨_, rfl⟩
        refine L_op rfl (X_fn (vs := [(.agg (((p).map byteV)).toArray)]) en10 rfl (CT.mono (c_decode p _ hp hT) ?_))
        rintro _ w56 ⟨s56, rfl, hO56, hu56⟩
        have hz56 := hu56.size
        rw [← hsD56] at hO56
        replace hb := hb.ext hu56
        replace hU := hU.trans (Ext.upd hu56)
        replace hT := hT.ext hu56
        replace hB1 := hB1.ext hu56
        replace hB2 := hB2.ext hu56
        replace hB6 := hB6.ext hu56
        have hO56_c : ∀ b, obk s56 = some b → sD56 ≤ b ∧ b < w56.heap.size := fun b hb => hO56.lt hb
        refine L_op rfl (X_move (v := (.tuple #[s56, (.agg (ptC (decN p)).toArray), (.int .i64 ((decE p)))])) rfl ?_)
        refine L_op rfl (X_extract (l := [s56, (.agg (ptC (decN p)).toArray), (.int .i64 ((decE p)))]) (v := s56) rfl rfl ?_)
        refine L_op rfl (X_extract (l := [s56, (.agg (ptC (decN p)).toArray), (.int .i64 ((decE p)))]) (v := (.agg (ptC (decN p)).toArray)) rfl rfl ?_)
        refine L_op rfl (X_extract (l := [s56, (.agg (ptC (decN p)).toArray), (.int .i64 ((decE p)))]) (v := (.int .i64 ((decE p)))) rfl rfl ?_)
        refine L_op rfl (X_alloc (z := (.agg #[(.int .u8 (0)), (.int .u16 (0)), (.int .u16 (0)), (.int .u32 (0)), (.int .u64 (0))])) (c := #[(.int .u8 (0)), (.int .u16 (0)), (.int .u16 (0)), (.int .u32 (0)), (.int .u64 (0))]) Zv28 rfl ?_)
        intro b57 w57 hn57
        have hbn57 := hn57.num; have hbs57 := hn57.size
        replace hb := hb.ext hn57.ext
        replace hU := hU.trans (Ext.upd hn57.ext)
        replace hT := hT.ext hn57.ext
        replace hB1 := hB1.ext hn57.ext
        replace hB2 := hB2.ext hn57.ext
        replace hB6 := hB6.ext hn57.ext
        replace hO56 := hO56.ext hn57.ext
        have hB57 := hn57.blk
        refine L_op rfl (X_assign (v := s56) rfl ?_)
        refine L_op0 (X_storeW (b := b57) (ys := [(.int .u8 ((decN p).1)), (.int .u16 ((decN p).2.1)), (.int .u16 ((decN p).2.2.1)), (.int .u32 ((decN p).2.2.2.1)), (.int .u64 ((decN p).2.2.2.2))]) A28 rfl rfl (List.forall_mem_cons.2 ⟨rfl, (List.forall_mem_cons.2 ⟨rfl, (List.forall_mem_cons.2 ⟨rfl, (List.forall_mem_cons.2 ⟨rfl, (List.forall_mem_cons.2 ⟨rfl, (fun _ h => by cases h)⟩)⟩)⟩)⟩)⟩) rfl hB57 rfl ?_)
        intro w58 hu58 hb58
        have hz58 := hu58.size
        replace hb := hb.upd hu58 fun i hi h => by have hi := hb_b _ hi; have h : i = b57 := h; omega
        replace hU := hU.trans (hu58.mono fun i _ h => by have h : i = b57 := h; show n0 ≤ i; omega)
        replace hT := hT.upd hu58 fun i h1 h2 h => by have h : i = b57 := h; omega
        replace hB1 := hB1.upd hu58 fun h => by have h : b1 = b57 := h; omega
        replace hB2 := hB2.upd hu58 fun h => by have h : b2 = b57 := h; omega
        replace hB6 := hB6.upd hu58 fun h => by have h : b6 = b57 := h; omega
        replace hO56 := hO56.upd hu58 fun i hi h => by have hi := hO56_c _ hi; have h : i = b57 := h; omega
        replace hB57 : Blk w58 b57 #[(.int .u8 ((decN p).1)), (.int .u16 ((decN p).2.1)), (.int .u16 ((decN p).2.2.1)), (.int .u32 ((decN p).2.2.2.1)), (.int .u64 ((decN p).2.2.2.2))] 28 := hb58
        refine L_op rfl (X_assign (v := (.int .i64 ((decE p)))) rfl ?_)
        refine L_nil ?_
        refine T_n ?_
        refine W_seq ?_
        refine W_seq ?_
        refine W_reg ?_
        refine L_op rfl (X_move (v := (.int .i64 ((decE p)))) rfl ?_)
        by_cases hc59 : ((decE p) : Int) ≠ (0)
        · refine L_op rfl (X_cmp (k := .i64) (a := (decE p)) (b := 0) (r := true) rfl rfl rfl (decide_eq_true (p := (((decE p)) : Int) ≠ ((0) : Int)) (by omega)) ?_)
          refine L_nil ?_
          refine T_n ?_
          refine W_ct rfl ?_
          refine W_seq ?_
          obtain ⟨hd1, hd2, hd3⟩ := dec_bad hc59
          have hl0 : (decB p).length = 0 := by rw [hd2]; rfl
          refine W_reg ?_
          refine L_op rfl (X_move (v := (.int .i64 ((decE p)))) rfl ?_)
          refine L_op rfl (X_cmp (k := .i64) (a := (decE p)) (b := 50) (r := true) rfl rfl rfl (decide_eq_true (p := (((decE p)) : Int) = ((50) : Int)) (by omega)) ?_)
          refine L_op rfl (X_move (v := (.bool (true))) rfl ?_)
          refine L_gy (dj := 99) rfl rfl rfl (X_move (v := s56) rfl ?_)
          refine L_gy (dj := 99) rfl rfl rfl (X_len (v := s56) (n := ((decB p)).length) Tryd.underlying22 rfl hO56.sv ?_)
          refine L_gy (dj := 99) rfl rfl rfl (X_cmp (k := .i64) (a := ((((decB p)).length : Nat) : Int)) (b := 0) (r := true) rfl rfl rfl (decide_eq_true (p := ((((((decB p)).length : Nat) : Int)) : Int) = ((0) : Int)) (by omega)) ?_)
          refine L_op rfl (X_pick (t := true) (v := (.bool (true))) rfl rfl ?_)
          refine L_op rfl (X_move (v := (.bool (true))) rfl ?_)
          refine L_gy (dj := 104) rfl rfl rfl (X_loadA (p := (ptr b57 (0))) (xs := ptC (decN p)) A28 rfl hB57.atAll rfl ?_)
          refine L_gy (dj := 104) rfl rfl rfl (X_build built28z ?_)
          refine L_gy (dj := 104) rfl rfl rfl (X_eqP (p := (decN p)) (q := ptZ) (r := true) Tryd.underlying28 u28 (by kernel_rfl) (by decide) ⟨rfl, rfl, rfl, rfl⟩ Tryd.underlying5 Tryd.underlying24 (by kernel_rfl) Tryd.underlying23 (ie := _) rfl (by kernel_rfl) Tryd.underlying25 Tryd.underlying26 (by kernel_rfl) rfl rfl (.inl ⟨rfl, (beq_iff_eq.2 hd3)⟩) ?_)
          refine L_op rfl (X_pick (t := true) (v := (.bool (true))) rfl rfl ?_)
          refine L_op rfl (X_move (v := (.bool (true))) rfl ?_)
          refine L_gy (dj := 109) rfl rfl rfl (X_fn (vs := []) en7 rfl (CT.mono (c_wakes _ hT) ?_))
          rintro vb60 w60 ⟨hvb60, hu60⟩
          have hz60 := hu60.size
          replace hb := hb.ext hu60
          replace hU := hU.trans (Ext.upd hu60)
          replace hT := hT.ext hu60
          replace hB1 := hB1.ext hu60
          replace hB2 := hB2.ext hu60
          replace hB6 := hB6.ext hu60
          replace hO56 := hO56.ext hu60
          replace hB57 := hB57.ext hu60
          subst hvb60
          refine L_op rfl (X_pick (t := true) (v := (.bool (true))) rfl rfl ?_)
          refine L_op rfl (X_assign (v := (.bool (true))) rfl ?_)
          refine L_nil ?_
          refine T_n ?_
          refine W_ret ?_
          refine T_r ?_
          exact BQ_r (End_1 Tryd.results3 (v := .bool true) rfl ⟨rfl, hU.own hn0⟩)
        · refine L_op rfl (X_cmp (k := .i64) (a := (decE p)) (b := 0) (r := false) rfl rfl rfl (decide_eq_false (p := (((decE p)) : Int) ≠ ((0) : Int)) (by omega)) ?_)
          have hdg := dec_good (p := p) (by omega)
          refine L_nil ?_
          refine T_n ?_
          refine W_cf rfl ?_
          refine W_skip ?_
          refine T_n ?_
          refine W_seq ?_
          refine W_reg ?_
          refine L_op rfl (X_move (v := s56) rfl ?_)
          refine L_op rfl (X_loadA (p := (ptr b57 (0))) (xs := ptC (decN p)) A28 rfl hB57.atAll rfl ?_)
          refine L_op rfl (X_fn (vs := [s56, (.agg (ptC (decN p)).toArray)]) en8 rfl (CT.mono (c_encode s56 (decB p) (decN p) _ (decN_ok p) hO56.rd hT) ?_))
          rintro _ w61 ⟨rfl, hu61⟩
          have hz61 := hu61.size
          replace hb := hb.ext hu61
          replace hU := hU.trans (Ext.upd hu61)
          replace hT := hT.ext hu61
          replace hB1 := hB1.ext hu61
          replace hB2 := hB2.ext hu61
          replace hB6 := hB6.ext hu61
          replace hO56 := hO56.ext hu61
          replace hB57 := hB57.ext hu61
          rw [hdg.1]
          refine L_op rfl (X_move (v := (.tuple #[(.agg (((encP (decB p) (decN p))).map byteV).toArray), (.int .i64 (0))])) rfl ?_)
          refine L_op rfl (X_extract (l := [(.agg (((encP (decB p) (decN p))).map byteV).toArray), (.int .i64 (0))]) (v := (.agg (((encP (decB p) (decN p))).map byteV).toArray)) rfl rfl ?_)
          refine L_op rfl (X_extract (l := [(.agg (((encP (decB p) (decN p))).map byteV).toArray), (.int .i64 (0))]) (v := (.int .i64 (0))) rfl rfl ?_)
          refine L_op rfl (X_alloc (z := zv30) (c := zc30.toArray) Zv30 rfl ?_)
          intro b62 w62 hn62
          have hbn62 := hn62.num; have hbs62 := hn62.size
          replace hb := hb.ext hn62.ext
          replace hU := hU.trans (Ext.upd hn62.ext)
          replace hT := hT.ext hn62.ext
          replace hB1 := hB1.ext hn62.ext
          replace hB2 := hB2.ext hn62.ext
          replace hB6 := hB6.ext hn62.ext
          replace hO56 := hO56.ext hn62.ext
          replace hB57 := hB57.ext hn62.ext
          have hB62 := hn62.blk
          rw [zc30_eq] at hB62
          refine L_op0 (X_storeW (b := b62) (ys := (((encP (decB p) (decN p))).map byteV)) A30 rfl rfl (byteV_one _) (by rw [List.length_map]; exact (encP_len _ _)) hB62 (by rw [List.size_toArray]; exact (by rw [List.length_map]; exact List.length_replicate)) ?_)
          intro w63 hu63 hb63
          have hz63 := hu63.size
          replace hb := hb.upd hu63 fun i hi h => by have hi := hb_b _ hi; have h : i = b62 := h; omega
          replace hU := hU.trans (hu63.mono fun i _ h => by have h : i = b62 := h; show n0 ≤ i; omega)
          replace hT := hT.upd hu63 fun i h1 h2 h => by have h : i = b62 := h; omega
          replace hB1 := hB1.upd hu63 fun h => by have h : b1 = b62 := h; omega
          replace hB2 := hB2.upd hu63 fun h => by have h : b2 = b62 := h; omega
          replace hB6 := hB6.upd hu63 fun h => by have h : b6 = b62 := h; omega
          replace hO56 := hO56.upd hu63 fun i hi h => by have hi := hO56_c _ hi; have h : i = b62 := h; omega
          replace hB57 := hB57.upd hu63 fun h => by have h : b57 = b62 := h; omega
          replace hB62 := hb63
          refine L_op rfl (X_assign (v := (.int .i64 (0))) rfl ?_)
          refine L_nil ?_
          refine T_n ?_
          refine W_seq ?_
          refine W_reg ?_
          refine L_op rfl (X_move (v := (.int .i64 (0))) rfl ?_)
          refine L_op rfl (X_cmp (k := .i64) (a := 0) (b := 0) (r := true) rfl rfl rfl rfl ?_)
          refine L_op rfl (X_move (v := (.bool (true))) rfl ?_)
          refine L_gy (dj := 120) rfl rfl rfl (X_loadA (p := (ptr b62 (0))) (xs := (((encP (decB p) (decN p))).map byteV)) A30 rfl hB62.atAll (by rw [List.length_map]; exact (encP_len _ _)) ?_)
          refine L_gy (dj := 120) rfl rfl rfl (X_loadA (p := (ptr b2 (0))) (xs := ((p).map byteV)) A30 rfl hB2.atAll (by rw [List.length_map]; exact hp) ?_)
          refine L_gy (dj := 120) rfl rfl rfl (X_eqA (n := 256) (l := (encP (decB p) (decN p))) (m := p) (r := true) Tryd.underlying30 Tryd.underlying5 (by kernel_rfl) (by kernel_rfl) (by kernel_rfl) rfl rfl ((encP_len _ _)) (hp) (.inl ⟨rfl, (beq_iff_eq.2 hdg.2)⟩) ?_)
          refine L_op rfl (X_pick (t := true) (v := (.bool (true))) rfl rfl ?_)
          refine L_op rfl (X_move (v := (.bool (true))) rfl ?_)
          refine L_gy (dj := 125) rfl rfl rfl (X_fn (vs := []) en7 rfl (CT.mono (c_wakes _ hT) ?_))
          rintro vb64 w64 ⟨hvb64, hu64⟩
          have hz64 := hu64.size
          replace hb := hb.ext hu64
          replace hU := hU.trans (Ext.upd hu64)
          replace hT := hT.ext hu64
          replace hB1 := hB1.ext hu64
          replace hB2 := hB2.ext hu64
          replace hB6 := hB6.ext hu64
          replace hO56 := hO56.ext hu64
          replace hB57 := hB57.ext hu64
          replace hB62 := hB62.ext hu64
          subst hvb64
          refine L_op rfl (X_pick (t := true) (v := (.bool (true))) rfl rfl ?_)
          refine L_op rfl (X_assign (v := (.bool (true))) rfl ?_)
          refine L_nil ?_
          refine T_n ?_
          refine W_ret ?_
          exact BQ_r (End_1 Tryd.results3 (v := .bool true) rfl ⟨rfl, hU.own hn0⟩)
    · refine L_op rfl (X_cmp (k := .i64) (a := ((l.length : Nat) : Int)) (b := 1) (r := false) rfl rfl rfl (decide_eq_false (p := ((1) : Int) ≤ ((((l.length : Nat) : Int)) : Int)) (by omega)) ?_)
      refine L_op rfl (X_move (v := (.bool (false))) rfl ?_)
      refine L_gn (dj := 31) (t := false) rfl rfl rfl rfl ?_
      refine L_gn (dj := 31) (t := false) rfl rfl rfl rfl ?_
      refine L_gn (dj := 31) (t := false) rfl rfl rfl rfl ?_
      refine L_op rfl (X_pick (t := false) (v := (.bool (false))) rfl rfl ?_)
      refine L_op rfl (X_move (v := (.bool (false))) rfl ?_)
      refine L_gn (dj := 36) (t := false) rfl rfl rfl rfl ?_
      refine L_gn (dj := 36) (t := false) rfl rfl rfl rfl ?_
      refine L_gn (dj := 36) (t := false) rfl rfl rfl rfl ?_
      refine L_gn (dj := 36) (t := false) rfl rfl rfl rfl ?_
      refine L_gu (dj := 40) rfl rfl rfl ?_
      refine L_gu (dj := 40) rfl rfl rfl ?_
      refine L_gu (dj := 40) rfl rfl rfl ?_
      refine L_gu (dj := 40) rfl rfl rfl ?_
      refine L_gu (dj := 44) rfl rfl rfl ?_
      refine L_gu (dj := 44) rfl rfl rfl ?_
      refine L_gu (dj := 40) rfl rfl rfl ?_
      refine L_gn (dj := 36) (t := false) rfl rfl rfl rfl ?_
      refine L_op rfl (X_pick (t := false) (v := (.bool (false))) rfl rfl ?_)
      refine L_op rfl (X_assign (v := (.bool (false))) rfl ?_)
      refine L_nil ?_
      refine T_n ?_
      refine W_seq ?_
      refine W_seq ?_
      have hno : ¬ EncOk l q := fun h => by obtain ⟨h1, h2, h3⟩ := h; omega
      have hE := encE_no hno
      rw [hE]
      rw [encP_no hno] at hB6
      refine W_reg ?_
      refine L_op rfl (X_move (v := (.int .i64 (2))) rfl ?_)
      refine L_op rfl (X_cmp (k := .i64) (a := 2) (b := 0) (r := false) rfl rfl rfl rfl ?_)
      refine L_op rfl (X_move (v := (.bool (false))) rfl ?_)
      refine L_op rfl (X_cmpBool (a := false) (b := false) (r := false) Tryd.underlying4 rfl rfl (.inr ⟨rfl, rfl⟩) ?_)
      refine L_op rfl (X_move (v := (.bool (false))) rfl ?_)
      refine L_gy (dj := 54) rfl rfl rfl (X_move (v := (.int .i64 (2))) rfl ?_)
      refine L_gy (dj := 54) rfl rfl rfl (X_cmp (k := .i64) (a := 2) (b := 0) (r := true) rfl rfl rfl rfl ?_)
      refine L_gy (dj := 54) rfl rfl rfl (X_move (v := (.bool (true))) rfl ?_)
      refine L_gy (dj := 57) rfl rfl rfl (X_move (v := (.int .i64 (2))) rfl ?_)
      refine L_gy (dj := 57) rfl rfl rfl (X_cmp (k := .i64) (a := 2) (b := 2) (r := false) rfl rfl rfl rfl ?_)
      refine L_gy (dj := 57) rfl rfl rfl (X_move (v := (.bool (false))) rfl ?_)
      refine L_gy (dj := 60) rfl rfl rfl (X_loadA (p := (ptr b6 (0))) (xs := (((List.replicate 256 (0 : UInt8))).map byteV)) A30 rfl hB6.atAll (by rw [List.length_map]; exact List.length_replicate) ?_)
      refine L_gy (dj := 60) rfl rfl rfl (X_build built30z ?_)
      refine L_gy (dj := 60) rfl rfl rfl (X_eqA (n := 256) (l := (List.replicate 256 (0 : UInt8))) (m := (List.replicate 256 (0 : UInt8))) (r := false) Tryd.underlying30 Tryd.underlying5 (by kernel_rfl) (by kernel_rfl) (by kernel_rfl) rfl rfl (List.length_replicate) (List.length_replicate) (.inr ⟨rfl, by rw [(beq_self_eq_true _)]; rfl⟩) ?_)
      refine L_gy (dj := 57) rfl rfl rfl (X_pick (t := false) (v := (.bool (false))) rfl rfl ?_)
      refine L_gy (dj := 54) rfl rfl rfl (X_pick (t := true) (v := (.bool (false))) rfl rfl ?_)
      refine L_op rfl (X_pick (t := false) (v := (.bool (false))) rfl rfl ?_)
      refine L_nil ?_
      refine T_n ?_
      refine W_cf rfl ?_
      refine W_skip ?_
      refine T_n ?_
      refine W_seq ?_
      refine W_seq ?_
      refine W_reg ?_
      refine L_op rfl (X_move (v := (.int .i64 (2))) rfl ?_)
      refine L_op rfl (X_cmp (k := .i64) (a := 2) (b := 0) (r := false) rfl rfl rfl rfl ?_)
      refine L_nil ?_
      refine T_n ?_
      refine W_cf rfl ?_
      refine W_skip ?_
      refine T_n ?_
      refine W_seq ?_
      refine W_reg ?_
      refine L_op rfl (X_loadA (p := (ptr b2 (0))) (xs := ((p).map byteV)) A30 rfl hB2.atAll (by rw [List.length_map]; exact hp) ?_)
      obtain ⟨sD65, hsD65⟩ : ∃ n, n = w7.heap.size := ⟨_, rfl⟩
      refine L_op rfl (X_fn (vs := [(.agg (((p).map byteV)).toArray)]) en10 rfl (CT.mono (c_decode p _ hp hT) ?_))
      rintro _ w65 ⟨s65, rfl, hO65, hu65⟩
      have hz65 := hu65.size
      rw [← hsD65] at hO65
      replace hb := hb.ext hu65
      replace hU := hU.trans (Ext.upd hu65)
      replace hT := hT.ext hu65
      replace hB1 := hB1.ext hu65
      replace hB2 := hB2.ext hu65
      replace hB6 := hB6.ext hu65
      have hO65_c : ∀ b, obk s65 = some b → sD65 ≤ b ∧ b < w65.heap.size := fun b hb => hO65.lt hb
      refine L_op rfl (X_move (v := (.tuple #[s65, (.agg (ptC (decN p)).toArray), (.int .i64 ((decE p)))])) rfl ?_)
      refine L_op rfl (X_extract (l := [s65, (.agg (ptC (decN p)).toArray), (.int .i64 ((decE p)))]) (v := s65) rfl rfl ?_)
      refine L_op rfl (X_extract (l := [s65, (.agg (ptC (decN p)).toArray), (.int .i64 ((decE p)))]) (v := (.agg (ptC (decN p)).toArray)) rfl rfl ?_)
      refine L_op rfl (X_extract (l := [s65, (.agg (ptC (decN p)).toArray), (.int .i64 ((decE p)))]) (v := (.int .i64 ((decE p)))) rfl rfl ?_)
      refine L_op rfl (X_alloc (z := (.agg #[(.int .u8 (0)), (.int .u16 (0)), (.int .u16 (0)), (.int .u32 (0)), (.int .u64 (0))])) (c := #[(.int .u8 (0)), (.int .u16 (0)), (.int .u16 (0)), (.int .u32 (0)), (.int .u64 (0))]) Zv28 rfl ?_)
      intro b66 w66 hn66
      have hbn66 := hn66.num; have hbs66 := hn66.size
      replace hb := hb.ext hn66.ext
      replace hU := hU.trans (Ext.upd hn66.ext)
      replace hT := hT.ext hn66.ext
      replace hB1 := hB1.ext hn66.ext
      replace hB2 := hB2.ext hn66.ext
      replace hB6 := hB6.ext hn66.ext
      replace hO65 := hO65.ext hn66.ext
      have hB66 := hn66.blk
      refine L_op rfl (X_assign (v := s65) rfl ?_)
      refine L_op0 (X_storeW (b := b66) (ys := [(.int .u8 ((decN p).1)), (.int .u16 ((decN p).2.1)), (.int .u16 ((decN p).2.2.1)), (.int .u32 ((decN p).2.2.2.1)), (.int .u64 ((decN p).2.2.2.2))]) A28 rfl rfl (List.forall_mem_cons.2 ⟨rfl, (List.forall_mem_cons.2 ⟨rfl, (List.forall_mem_cons.2 ⟨rfl, (List.forall_mem_cons.2 ⟨rfl, (List.forall_mem_cons.2 ⟨rfl, (fun _ h => by cases h)⟩)⟩)⟩)⟩)⟩) rfl hB66 rfl ?_)
      intro w67 hu67 hb67
      have hz67 := hu67.size
      replace hb := hb.upd hu67 fun i hi h => by have hi := hb_b _ hi; have h : i = b66 := h; omega
      replace hU := hU.trans (hu67.mono fun i _ h => by have h : i = b66 := h; show n0 ≤ i; omega)
      replace hT := hT.upd hu67 fun i h1 h2 h => by have h : i = b66 := h; omega
      replace hB1 := hB1.upd hu67 fun h => by have h : b1 = b66 := h; omega
      replace hB2 := hB2.upd hu67 fun h => by have h : b2 = b66 := h; omega
      replace hB6 := hB6.upd hu67 fun h => by have h : b6 = b66 := h; omega
      replace hO65 := hO65.upd hu67 fun i hi h => by have hi := hO65_c _ hi; have h : i = b66 := h; omega
      replace hB66 : Blk w67 b66 #[(.int .u8 ((decN p).1)), (.int .u16 ((decN p).2.1)), (.int .u16 ((decN p).2.2.1)), (.int .u32 ((decN p).2.2.2.1)), (.int .u64 ((decN p).2.2.2.2))] 28 := hb67
      refine L_op rfl (X_assign (v := (.int .i64 ((decE p)))) rfl ?_)
      refine L_nil ?_
      refine T_n ?_
      refine W_seq ?_
      refine W_seq ?_
      refine W_reg ?_
      refine L_op rfl (X_move (v := (.int .i64 ((decE p)))) rfl ?_)
      by_cases hc68 : ((decE p) : Int) ≠ (0)
      · refine L_op rfl (X_cmp (k := .i64) (a := (decE p)) (b := 0) (r := true) rfl rfl rfl (decide_eq_true (p := (((decE p)) : Int) ≠ ((0) : Int)) (by omega)) ?_)
        refine L_nil ?_
        refine T_n ?_
        refine W_ct rfl ?_
        refine W_seq ?_
        obtain ⟨hd1, hd2, hd3⟩ := dec_bad hc68
        have hl0 : (decB p).length = 0 := by rw [hd2]; rfl
        refine W_reg ?_
        refine L_op rfl (X_move (v := (.int .i64 ((decE p)))) rfl ?_)
        refine L_op rfl (X_cmp (k := .i64) (a := (decE p)) (b := 50) (r := true) rfl rfl rfl (decide_eq_true (p := (((decE p)) : Int) = ((50) : Int)) (by omega)) ?_)
        refine L_op rfl (X_move (v := (.bool (true))) rfl ?_)
        refine L_gy (dj := 99) rfl rfl rfl (X_move (v := s65) rfl ?_)
        refine L_gy (dj := 99) rfl rfl rfl (X_len (v := s65) (n := ((decB p)).length) Tryd.underlying22 rfl hO65.sv ?_)
        refine L_gy (dj := 99) rfl rfl rfl (X_cmp (k := .i64) (a := ((((decB p)).length : Nat) : Int)) (b := 0) (r := true) rfl rfl rfl (decide_eq_true (p := ((((((decB p)).length : Nat) : Int)) : Int) = ((0) : Int)) (by omega)) ?_)
        refine L_op rfl (X_pick (t := true) (v := (.bool (true))) rfl rfl ?_)
        refine L_op rfl (X_move (v := (.bool (true))) rfl ?_)
        refine L_gy (dj := 104) rfl rfl rfl (X_loadA (p := (ptr b66 (0))) (xs := ptC (decN p)) A28 rfl hB66.atAll rfl ?_)
        refine L_gy (dj := 104) rfl rfl rfl (X_build built28z ?_)
        refine L_gy (dj := 104) rfl rfl rfl (X_eqP (p := (decN p)) (q := ptZ) (r := true) Tryd.underlying28 u28 (by kernel_rfl) (by decide) ⟨rfl, rfl, rfl, rfl⟩ Tryd.underlying5 Tryd.underlying24 (by kernel_rfl) Tryd.underlying23 (ie := _) rfl (by kernel_rfl) Tryd.underlying25 Tryd.underlying26 (by kernel_rfl) rfl rfl (.inl ⟨rfl, (beq_iff_eq.2 hd3)⟩) ?_)
        refine L_op rfl (X_pick (t := true) (v := (.bool (true))) rfl rfl ?_)
        refine L_op rfl (X_move (v := (.bool (true))) rfl ?_)
        refine L_gy (dj := 109) rfl rfl rfl (X_fn (vs := []) en7 rfl (CT.mono (c_wakes _ hT) ?_))
        rintro vb69 w69 ⟨hvb69, hu69⟩
        have hz69 := hu69.size
        replace hb := hb.ext hu69
        replace hU := hU.trans (Ext.upd hu69)
        replace hT := hT.ext hu69
        replace hB1 := hB1.ext hu69
        replace hB2 := hB2.ext hu69
        replace hB6 := hB6.ext hu69
        replace hO65 := hO65.ext hu69
        replace hB66 := hB66.ext hu69
        subst hvb69
        refine L_op rfl (X_pick (t := true) (v := (.bool (true))) rfl rfl ?_)
        refine L_op rfl (X_assign (v := (.bool (true))) rfl ?_)
        refine L_nil ?_
        refine T_n ?_
        refine W_ret ?_
        refine T_r ?_
        exact BQ_r (End_1 Tryd.results3 (v := .bool true) rfl ⟨rfl, hU.own hn0⟩)
      · refine L_op rfl (X_cmp (k := .i64) (a := (decE p)) (b := 0) (r := false) rfl rfl rfl (decide_eq_false (p := (((decE p)) : Int) ≠ ((0) : Int)) (by omega)) ?_)
        have hdg := dec_good (p := p) (by omega)
        refine L_nil ?_
        refine T_n ?_
        refine W_cf rfl ?_
        refine W_skip ?_
        refine T_n ?_
        refine W_seq ?_
        refine W_reg ?_
        refine L_op rfl (X_move (v := s65) rfl ?_)
        refine L_op rfl (X_loadA (p := (ptr b66 (0))) (xs := ptC (decN p)) A28 rfl hB66.atAll rfl ?_)
        refine L_op rfl (X_fn (vs := [s65, (.agg (ptC (decN p)).toArray)]) en8 rfl (CT.mono (c_encode s65 (decB p) (decN p) _ (decN_ok p) hO65.rd hT) ?_))
        rintro _ w70 ⟨rfl, hu70⟩
        have hz70 := hu70.size
        replace hb := hb.ext hu70
        replace hU := hU.trans (Ext.upd hu70)
        replace hT := hT.ext hu70
        replace hB1 := hB1.ext hu70
        replace hB2 := hB2.ext hu70
        replace hB6 := hB6.ext hu70
        replace hO65 := hO65.ext hu70
        replace hB66 := hB66.ext hu70
        rw [hdg.1]
        refine L_op rfl (X_move (v := (.tuple #[(.agg (((encP (decB p) (decN p))).map byteV).toArray), (.int .i64 (0))])) rfl ?_)
        refine L_op rfl (X_extract (l := [(.agg (((encP (decB p) (decN p))).map byteV).toArray), (.int .i64 (0))]) (v := (.agg (((encP (decB p) (decN p))).map byteV).toArray)) rfl rfl ?_)
        refine L_op rfl (X_extract (l := [(.agg (((encP (decB p) (decN p))).map byteV).toArray), (.int .i64 (0))]) (v := (.int .i64 (0))) rfl rfl ?_)
        refine L_op rfl (X_alloc (z := zv30) (c := zc30.toArray) Zv30 rfl ?_)
        intro b71 w71 hn71
        have hbn71 := hn71.num; have hbs71 := hn71.size
        replace hb := hb.ext hn71.ext
        replace hU := hU.trans (Ext.upd hn71.ext)
        replace hT := hT.ext hn71.ext
        replace hB1 := hB1.ext hn71.ext
        replace hB2 := hB2.ext hn71.ext
        replace hB6 := hB6.ext hn71.ext
        replace hO65 := hO65.ext hn71.ext
        replace hB66 := hB66.ext hn71.ext
        have hB71 := hn71.blk
        rw [zc30_eq] at hB71
        refine L_op0 (X_storeW (b := b71) (ys := (((encP (decB p) (decN p))).map byteV)) A30 rfl rfl (byteV_one _) (by rw [List.length_map]; exact (encP_len _ _)) hB71 (by rw [List.size_toArray]; exact (by rw [List.length_map]; exact List.length_replicate)) ?_)
        intro w72 hu72 hb72
        have hz72 := hu72.size
        replace hb := hb.upd hu72 fun i hi h => by have hi := hb_b _ hi; have h : i = b71 := h; omega
        replace hU := hU.trans (hu72.mono fun i _ h => by have h : i = b71 := h; show n0 ≤ i; omega)
        replace hT := hT.upd hu72 fun i h1 h2 h => by have h : i = b71 := h; omega
        replace hB1 := hB1.upd hu72 fun h => by have h : b1 = b71 := h; omega
        replace hB2 := hB2.upd hu72 fun h => by have h : b2 = b71 := h; omega
        replace hB6 := hB6.upd hu72 fun h => by have h : b6 = b71 := h; omega
        replace hO65 := hO65.upd hu72 fun i hi h => by have hi := hO65_c _ hi; have h : i = b71 := h; omega
        replace hB66 := hB66.upd hu72 fun h => by have h : b66 = b71 := h; omega
        replace hB71 := hb72
        refine L_op rfl (X_assign (v := (.int .i64 (0))) rfl ?_)
        refine L_nil ?_
        refine T_n ?_
        refine W_seq ?_
        refine W_reg ?_
        refine L_op rfl (X_move (v := (.int .i64 (0))) rfl ?_)
        refine L_op rfl (X_cmp (k := .i64) (a := 0) (b := 0) (r := true) rfl rfl rfl rfl ?_)
        refine L_op rfl (X_move (v := (.bool (true))) rfl ?_)
        refine L_gy (dj := 120) rfl rfl rfl (X_loadA (p := (ptr b71 (0))) (xs := (((encP (decB p) (decN p))).map byteV)) A30 rfl hB71.atAll (by rw [List.length_map]; exact (encP_len _ _)) ?_)
        refine L_gy (dj := 120) rfl rfl rfl (X_loadA (p := (ptr b2 (0))) (xs := ((p).map byteV)) A30 rfl hB2.atAll (by rw [List.length_map]; exact hp) ?_)
        refine L_gy (dj := 120) rfl rfl rfl (X_eqA (n := 256) (l := (encP (decB p) (decN p))) (m := p) (r := true) Tryd.underlying30 Tryd.underlying5 (by kernel_rfl) (by kernel_rfl) (by kernel_rfl) rfl rfl ((encP_len _ _)) (hp) (.inl ⟨rfl, (beq_iff_eq.2 hdg.2)⟩) ?_)
        refine L_op rfl (X_pick (t := true) (v := (.bool (true))) rfl rfl ?_)
        refine L_op rfl (X_move (v := (.bool (true))) rfl ?_)
        refine L_gy (dj := 125) rfl rfl rfl (X_fn (vs := []) en7 rfl (CT.mono (c_wakes _ hT) ?_))
        rintro vb73 w73 ⟨hvb73, hu73⟩
        have hz73 := hu73.size
        replace hb := hb.ext hu73
        replace hU := hU.trans (Ext.upd hu73)
        replace hT := hT.ext hu73
        replace hB1 := hB1.ext hu73
        replace hB2 := hB2.ext hu73
        replace hB6 := hB6.ext hu73
        replace hO65 := hO65.ext hu73
        replace hB66 := hB66.ext hu73
        replace hB71 := hB71.ext hu73
        subst hvb73
        refine L_op rfl (X_pick (t := true) (v := (.bool (true))) rfl rfl ?_)
        refine L_op rfl (X_assign (v := (.bool (true))) rfl ?_)
        refine L_nil ?_
        refine T_n ?_
        refine W_ret ?_
        exact BQ_r (End_1 Tryd.results3 (v := .bool true) rfl ⟨rfl, hU.own hn0⟩)
end Go.Proofs.YtmggaahkfidfaaaDoor
