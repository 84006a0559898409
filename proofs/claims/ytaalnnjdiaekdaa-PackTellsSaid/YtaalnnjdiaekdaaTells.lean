/-
  The walk of PackTells. (Printed by wip/gen/t02all.py of this repo.)
-/
import Derived.Test.YtaalnnjdiaekdaaRefs
namespace Go.Proofs.Ytaalnnjdiaekdaa
open Go Go.SL Go.Proofs

theorem c_packTells (bb bs : Value) (b s : List UInt8) (n : Nat) (m q : Int) (o_ n_ : List UInt8) (w : World) (hb : Rd w 1 bb b.length (b.map byteV)) (hs : Rd w 1 bs s.length (s.map byteV)) (ho : o_.length = 256) (hn : n_.length = 256) : CT Try.prog 7 #[bb, bs, (.int .u64 (((n : Nat) : Int))), (.int .i64 (m)), (.int .i64 (q)), (.agg (((o_).map byteV)).toArray), (.agg (((n_).map byteV)).toArray)] w fun v w' => v = .bool true ∧ Ext w w' := by
  obtain ⟨n0, hn0⟩ : ∃ n, n = w.heap.size := ⟨_, rfl⟩
  have hU : Upd (fun i => n0 ≤ i) w w := Upd.refl _ _
  have hb_b : ∀ i, rbk bb = some i → i < n0 := by rw [hn0]; exact fun i hi => hb.bound (by decide) hi
  have hs_b : ∀ i, rbk bs = some i → i < n0 := by rw [hn0]; exact fun i hi => hs.bound (by decide) hi
  refine CT_of Try.func7 rfl rfl rfl ?_
  refine W_seq ?_
  refine W_reg ?_
  refine L_op rfl (X_box (v := (.agg (((o_).map byteV)).toArray)) (c := ((o_).map byteV).toArray) rfl rfl ?_)
  intro b1 w1 hn1
  have hbn1 := hn1.num; have hbs1 := hn1.size
  replace hb := hb.ext hn1.ext
  replace hs := hs.ext hn1.ext
  replace hU := hU.trans (Ext.upd hn1.ext)
  have hB1 := hn1.blk
  refine L_op rfl (X_box (v := (.agg (((n_).map byteV)).toArray)) (c := ((n_).map byteV).toArray) rfl rfl ?_)
  intro b2 w2 hn2
  have hbn2 := hn2.num; have hbs2 := hn2.size
  replace hb := hb.ext hn2.ext
  replace hs := hs.ext hn2.ext
  replace hU := hU.trans (Ext.upd hn2.ext)
  replace hB1 := hB1.ext hn2.ext
  have hB2 := hn2.blk
  refine L_op rfl (X_assign (v := (.bool (false))) rfl ?_)
  refine L_nil ?_
  refine T_n ?_
  refine W_seq ?_
  refine W_seq ?_
  refine W_reg ?_
  refine L_op rfl (X_move (v := bb) rfl ?_)
  refine L_op rfl (X_len (v := bb) (n := b.length) Try.underlying22 rfl hb.sv ?_)
  by_cases hc3 : (((b.length : Nat) : Int) : Int) > (600)
  · refine L_op rfl (X_cmp (k := .i64) (a := ((b.length : Nat) : Int)) (b := 600) (r := true) rfl rfl rfl (decide_eq_true (p := ((600) : Int) < ((((b.length : Nat) : Int)) : Int)) (by omega)) ?_)
    refine L_op rfl (X_move (v := (.bool (true))) rfl ?_)
    refine L_gn (dj := 34) (t := true) rfl rfl rfl rfl ?_
    refine L_gn (dj := 34) (t := true) rfl rfl rfl rfl ?_
    refine L_gn (dj := 34) (t := true) rfl rfl rfl rfl ?_
    refine L_op rfl (X_pick (t := true) (v := (.bool (true))) rfl rfl ?_)
    refine L_nil ?_
    refine T_n ?_
    refine W_ct rfl ?_
    refine W_seq ?_
    refine W_reg ?_
    refine L_op rfl (X_fn (vs := []) en8 rfl (CT.mono (c_wakes _) ?_))
    rintro vb4 w4 ⟨hvb4, hu4⟩
    have hz4 := hu4.size
    replace hb := hb.ext hu4
    replace hs := hs.ext hu4
    replace hU := hU.trans (Ext.upd hu4)
    replace hB1 := hB1.ext hu4
    replace hB2 := hB2.ext hu4
    subst hvb4
    refine L_op rfl (X_assign (v := (.bool (true))) rfl ?_)
    refine L_nil ?_
    refine T_n ?_
    refine W_ret ?_
    refine T_r ?_
    exact BQ_r (End_1 Try.results7 (v := .bool true) rfl ⟨rfl, hU.own hn0⟩)
  · refine L_op rfl (X_cmp (k := .i64) (a := ((b.length : Nat) : Int)) (b := 600) (r := false) rfl rfl rfl (decide_eq_false (p := ((600) : Int) < ((((b.length : Nat) : Int)) : Int)) (by omega)) ?_)
    refine L_op rfl (X_move (v := (.bool (false))) rfl ?_)
    refine L_gy (dj := 34) rfl rfl rfl (X_move (v := bs) rfl ?_)
    refine L_gy (dj := 34) rfl rfl rfl (X_len (v := bs) (n := s.length) Try.underlying22 rfl hs.sv ?_)
    by_cases hc5 : (((s.length : Nat) : Int) : Int) > (600)
    · refine L_gy (dj := 34) rfl rfl rfl (X_cmp (k := .i64) (a := ((s.length : Nat) : Int)) (b := 600) (r := true) rfl rfl rfl (decide_eq_true (p := ((600) : Int) < ((((s.length : Nat) : Int)) : Int)) (by omega)) ?_)
      refine L_op rfl (X_pick (t := false) (v := (.bool (true))) rfl rfl ?_)
      refine L_nil ?_
      refine T_n ?_
      refine W_ct rfl ?_
      refine W_seq ?_
      refine W_reg ?_
      refine L_op rfl (X_fn (vs := []) en8 rfl (CT.mono (c_wakes _) ?_))
      rintro vb6 w6 ⟨hvb6, hu6⟩
      have hz6 := hu6.size
      replace hb := hb.ext hu6
      replace hs := hs.ext hu6
      replace hU := hU.trans (Ext.upd hu6)
      replace hB1 := hB1.ext hu6
      replace hB2 := hB2.ext hu6
      subst hvb6
      refine L_op rfl (X_assign (v := (.bool (true))) rfl ?_)
      refine L_nil ?_
      refine T_n ?_
      refine W_ret ?_
      refine T_r ?_
      exact BQ_r (End_1 Try.results7 (v := .bool true) rfl ⟨rfl, hU.own hn0⟩)
    · refine L_gy (dj := 34) rfl rfl rfl (X_cmp (k := .i64) (a := ((s.length : Nat) : Int)) (b := 600) (r := false) rfl rfl rfl (decide_eq_false (p := ((600) : Int) < ((((s.length : Nat) : Int)) : Int)) (by omega)) ?_)
      refine L_op rfl (X_pick (t := false) (v := (.bool (false))) rfl rfl ?_)
      refine L_nil ?_
      refine T_n ?_
      refine W_cf rfl ?_
      refine W_skip ?_
      refine T_n ?_
      refine W_seq ?_
      refine W_reg ?_
      refine L_op rfl (X_move (v := bb) rfl ?_)
      refine L_op rfl (X_move (v := (.int .i64 (m))) rfl ?_)
      refine L_op rfl (X_fn (vs := [bb, (.int .i64 (m))]) en16 rfl (CT.mono (c_take _ b m _ hb) ?_))
      rintro _ w7 ⟨r7, rfl, hr7, hrb7, hu7⟩
      have hz7 := hu7.size
      have hr7_b : ∀ b_, rbk r7 = some b_ → b_ < n0 := fun b_ hb_ => hb_b _ (hrb7 b_ hb_)
      replace hb := hb.ext hu7
      replace hs := hs.ext hu7
      replace hU := hU.trans (Ext.upd hu7)
      replace hB1 := hB1.ext hu7
      replace hB2 := hB2.ext hu7
      refine L_op rfl (X_move (v := (.tuple #[(.int .u64 (((takeV b (wideN m) : Nat) : Int))), r7, (.int .i64 ((if b.length < wideN m then (20 : Int) else 0)))])) rfl ?_)
      refine L_op rfl (X_extract (l := [(.int .u64 (((takeV b (wideN m) : Nat) : Int))), r7, (.int .i64 ((if b.length < wideN m then (20 : Int) else 0)))]) (v := (.int .u64 (((takeV b (wideN m) : Nat) : Int)))) rfl rfl ?_)
      refine L_op rfl (X_extract (l := [(.int .u64 (((takeV b (wideN m) : Nat) : Int))), r7, (.int .i64 ((if b.length < wideN m then (20 : Int) else 0)))]) (v := r7) rfl rfl ?_)
      refine L_op rfl (X_extract (l := [(.int .u64 (((takeV b (wideN m) : Nat) : Int))), r7, (.int .i64 ((if b.length < wideN m then (20 : Int) else 0)))]) (v := (.int .i64 ((if b.length < wideN m then (20 : Int) else 0)))) rfl rfl ?_)
      refine L_op rfl (X_assign (v := (.int .u64 (((takeV b (wideN m) : Nat) : Int)))) rfl ?_)
      refine L_op rfl (X_assign (v := r7) rfl ?_)
      refine L_op rfl (X_assign (v := (.int .i64 ((if b.length < wideN m then (20 : Int) else 0)))) rfl ?_)
      refine L_nil ?_
      refine T_n ?_
      refine W_seq ?_
      refine W_reg ?_
      refine L_op rfl (X_move (v := bb) rfl ?_)
      refine L_op rfl (X_move (v := (.int .i64 (m))) rfl ?_)
      refine L_op rfl (X_fn (vs := [bb, (.int .i64 (m))]) en17 rfl (CT.mono (c_takeR _ b m _ hb) ?_))
      rintro _ w8 ⟨r8, rfl, hr8, hrb8, hu8⟩
      have hz8 := hu8.size
      have hr8_b : ∀ b_, rbk r8 = some b_ → b_ < n0 := fun b_ hb_ => hb_b _ (hrb8 b_ hb_)
      replace hb := hb.ext hu8
      replace hs := hs.ext hu8
      replace hU := hU.trans (Ext.upd hu8)
      replace hB1 := hB1.ext hu8
      replace hB2 := hB2.ext hu8
      replace hr7 := hr7.ext hu8
      refine L_op rfl (X_move (v := (.tuple #[(.int .u64 (((takeV b (wideN m) : Nat) : Int))), r8, (.int .i64 ((if b.length < wideN m then (20 : Int) else 0)))])) rfl ?_)
      refine L_op rfl (X_extract (l := [(.int .u64 (((takeV b (wideN m) : Nat) : Int))), r8, (.int .i64 ((if b.length < wideN m then (20 : Int) else 0)))]) (v := (.int .u64 (((takeV b (wideN m) : Nat) : Int)))) rfl rfl ?_)
      refine L_op rfl (X_extract (l := [(.int .u64 (((takeV b (wideN m) : Nat) : Int))), r8, (.int .i64 ((if b.length < wideN m then (20 : Int) else 0)))]) (v := r8) rfl rfl ?_)
      refine L_op rfl (X_extract (l := [(.int .u64 (((takeV b (wideN m) : Nat) : Int))), r8, (.int .i64 ((if b.length < wideN m then (20 : Int) else 0)))]) (v := (.int .i64 ((if b.length < wideN m then (20 : Int) else 0)))) rfl rfl ?_)
      refine L_op rfl (X_assign (v := (.int .u64 (((takeV b (wideN m) : Nat) : Int)))) rfl ?_)
      refine L_op rfl (X_assign (v := r8) rfl ?_)
      refine L_op rfl (X_assign (v := (.int .i64 ((if b.length < wideN m then (20 : Int) else 0)))) rfl ?_)
      refine L_nil ?_
      refine T_n ?_
      refine W_seq ?_
      refine W_reg ?_
      refine L_op rfl (X_move (v := bb) rfl ?_)
      refine L_op rfl (X_move (v := (.int .i64 (q))) rfl ?_)
      refine L_op rfl (X_fn (vs := [bb, (.int .i64 (q))]) en15 rfl (CT.mono (c_takeBytes _ b q _ hb) ?_))
      rintro _ w9 ⟨s9, r9, rfl, hs9, hr9, hrb9, hu9⟩
      have hz9 := hu9.size
      have hr9_b : ∀ b_, rbk r9 = some b_ → b_ < n0 := fun b_ hb_ => hb_b _ (hrb9 b_ hb_)
      replace hb := hb.ext hu9
      replace hs := hs.ext hu9
      replace hU := hU.trans (Ext.upd hu9)
      replace hB1 := hB1.ext hu9
      replace hB2 := hB2.ext hu9
      replace hr7 := hr7.ext hu9
      replace hr8 := hr8.ext hu9
      have hs9_b : ∀ b, obk s9 = some b → b < w9.heap.size := fun b hb => (hs9.lt hb).2
      refine L_op rfl (X_move (v := (.tuple #[s9, r9, (.int .i64 ((takeE b q)))])) rfl ?_)
      refine L_op rfl (X_extract (l := [s9, r9, (.int .i64 ((takeE b q)))]) (v := s9) rfl rfl ?_)
      refine L_op rfl (X_extract (l := [s9, r9, (.int .i64 ((takeE b q)))]) (v := r9) rfl rfl ?_)
      refine L_op rfl (X_extract (l := [s9, r9, (.int .i64 ((takeE b q)))]) (v := (.int .i64 ((takeE b q)))) rfl rfl ?_)
      refine L_op rfl (X_assign (v := s9) rfl ?_)
      refine L_op rfl (X_assign (v := r9) rfl ?_)
      refine L_op rfl (X_assign (v := (.int .i64 ((takeE b q)))) rfl ?_)
      refine L_nil ?_
      refine T_n ?_
      refine W_seq ?_
      refine W_reg ?_
      refine L_op rfl (X_move (v := bb) rfl ?_)
      refine L_op rfl (X_move (v := (.int .i64 (q))) rfl ?_)
      refine L_op rfl (X_fn (vs := [bb, (.int .i64 (q))]) en18 rfl (CT.mono (c_takeBytesR _ b q _ hb) ?_))
      rintro _ w10 ⟨s10, r10, rfl, hs10, hr10, hrb10, hu10⟩
      have hz10 := hu10.size
      have hr10_b : ∀ b_, rbk r10 = some b_ → b_ < n0 := fun b_ hb_ => hb_b _ (hrb10 b_ hb_)
      replace hb := hb.ext hu10
      replace hs := hs.ext hu10
      replace hU := hU.trans (Ext.upd hu10)
      replace hB1 := hB1.ext hu10
      replace hB2 := hB2.ext hu10
      replace hr7 := hr7.ext hu10
      replace hr8 := hr8.ext hu10
      replace hs9 := hs9.ext hu10
      replace hr9 := hr9.ext hu10
      have hs10_b : ∀ b, obk s10 = some b → b < w10.heap.size := fun b hb => (hs10.lt hb).2
      refine L_op rfl (X_move (v := (.tuple #[s10, r10, (.int .i64 ((takeE b q)))])) rfl ?_)
      refine L_op rfl (X_extract (l := [s10, r10, (.int .i64 ((takeE b q)))]) (v := s10) rfl rfl ?_)
      refine L_op rfl (X_extract (l := [s10, r10, (.int .i64 ((takeE b q)))]) (v := r10) rfl rfl ?_)
      refine L_op rfl (X_extract (l := [s10, r10, (.int .i64 ((takeE b q)))]) (v := (.int .i64 ((takeE b q)))) rfl rfl ?_)
      refine L_op rfl (X_assign (v := s10) rfl ?_)
      refine L_op rfl (X_assign (v := r10) rfl ?_)
      refine L_op rfl (X_assign (v := (.int .i64 ((takeE b q)))) rfl ?_)
      refine L_nil ?_
      refine T_n ?_
      refine W_seq ?_
      refine W_seq ?_
      refine W_reg ?_
      refine L_op rfl (X_move (v := (.int .u64 (((takeV b (wideN m) : Nat) : Int)))) rfl ?_)
      refine L_op rfl (X_move (v := (.int .u64 (((takeV b (wideN m) : Nat) : Int)))) rfl ?_)
      refine L_op rfl (X_cmp (k := .u64) (a := ((takeV b (wideN m) : Nat) : Int)) (b := ((takeV b (wideN m) : Nat) : Int)) (r := false) rfl rfl rfl (decide_eq_false (fun h => h rfl)) ?_)
      refine L_op rfl (X_move (v := (.bool (false))) rfl ?_)
      refine L_gy (dj := 71) rfl rfl rfl (X_move (v := r7) rfl ?_)
      refine L_gy (dj := 71) rfl rfl rfl (X_move (v := r8) rfl ?_)
      refine L_gy (dj := 71) rfl rfl rfl (X_fn (vs := [r7, r8]) en11 rfl (CT.mono (c_same _ _ (restB b (wideN m)) (restB b (wideN m)) _ hr7 hr8) ?_))
      rintro vb11 _ ⟨hvb11, rfl⟩
      rw [show ((restB b (wideN m) : List UInt8) == restB b (wideN m)) = true from beq_self_eq_true _] at hvb11
      subst hvb11
      refine L_gy (dj := 71) rfl rfl rfl (X_not (b := true) (r := false) rfl rfl ?_)
      refine L_op rfl (X_pick (t := false) (v := (.bool (false))) rfl rfl ?_)
      refine L_op rfl (X_move (v := (.bool (false))) rfl ?_)
      refine L_gy (dj := 77) rfl rfl rfl (X_move (v := (.int .i64 ((if b.length < wideN m then (20 : Int) else 0)))) rfl ?_)
      refine L_gy (dj := 77) rfl rfl rfl (X_move (v := (.int .i64 ((if b.length < wideN m then (20 : Int) else 0)))) rfl ?_)
      refine L_gy (dj := 77) rfl rfl rfl (X_cmp (k := .i64) (a := (if b.length < wideN m then (20 : Int) else 0)) (b := (if b.length < wideN m then (20 : Int) else 0)) (r := false) rfl rfl rfl (decide_eq_false (fun h => h rfl)) ?_)
      refine L_op rfl (X_pick (t := false) (v := (.bool (false))) rfl rfl ?_)
      refine L_op rfl (X_move (v := (.bool (false))) rfl ?_)
      refine L_gy (dj := 82) rfl rfl rfl (X_move (v := s9) rfl ?_)
      refine L_gy (dj := 82) rfl rfl rfl (X_move (v := s10) rfl ?_)
      refine L_gy (dj := 82) rfl rfl rfl (X_fn (vs := [s9, s10]) en11 rfl (CT.mono (c_same _ _ (takeS b q) (takeS b q) _ hs9.rd hs10.rd) ?_))
      rintro vb12 _ ⟨hvb12, rfl⟩
      rw [show ((takeS b q : List UInt8) == takeS b q) = true from beq_self_eq_true _] at hvb12
      subst hvb12
      refine L_gy (dj := 82) rfl rfl rfl (X_not (b := true) (r := false) rfl rfl ?_)
      refine L_op rfl (X_pick (t := false) (v := (.bool (false))) rfl rfl ?_)
      refine L_op rfl (X_move (v := (.bool (false))) rfl ?_)
      refine L_gy (dj := 88) rfl rfl rfl (X_move (v := r9) rfl ?_)
      refine L_gy (dj := 88) rfl rfl rfl (X_move (v := r10) rfl ?_)
      refine L_gy (dj := 88) rfl rfl rfl (X_fn (vs := [r9, r10]) en11 rfl (CT.mono (c_same _ _ (takeR b q) (takeR b q) _ hr9 hr10) ?_))
      rintro vb13 _ ⟨hvb13, rfl⟩
      rw [show ((takeR b q : List UInt8) == takeR b q) = true from beq_self_eq_true _] at hvb13
      subst hvb13
      refine L_gy (dj := 88) rfl rfl rfl (X_not (b := true) (r := false) rfl rfl ?_)
      refine L_op rfl (X_pick (t := false) (v := (.bool (false))) rfl rfl ?_)
      refine L_op rfl (X_move (v := (.bool (false))) rfl ?_)
      refine L_gy (dj := 94) rfl rfl rfl (X_move (v := (.int .i64 ((takeE b q)))) rfl ?_)
      refine L_gy (dj := 94) rfl rfl rfl (X_move (v := (.int .i64 ((takeE b q)))) rfl ?_)
      refine L_gy (dj := 94) rfl rfl rfl (X_cmp (k := .i64) (a := (takeE b q)) (b := (takeE b q)) (r := false) rfl rfl rfl (decide_eq_false (fun h => h rfl)) ?_)
      refine L_op rfl (X_pick (t := false) (v := (.bool (false))) rfl rfl ?_)
      refine L_nil ?_
      refine T_n ?_
      refine W_cf rfl ?_
      refine W_skip ?_
      refine T_n ?_
      refine W_seq ?_
      refine W_reg ?_
      refine L_op rfl (X_move (v := bb) rfl ?_)
      refine L_op rfl (X_fn (vs := [bb]) en9 rfl (CT.mono (c_fill _ b _ hb) ?_))
      rintro _ w14 ⟨e3, rfl, he3a, he3b, hu14⟩
      have hz14 := hu14.size
      replace hb := hb.ext hu14
      replace hs := hs.ext hu14
      replace hU := hU.trans (Ext.upd hu14)
      replace hB1 := hB1.ext hu14
      replace hB2 := hB2.ext hu14
      replace hr7 := hr7.ext hu14
      replace hr8 := hr8.ext hu14
      replace hs9 := hs9.ext hu14
      replace hr9 := hr9.ext hu14
      replace hs10 := hs10.ext hu14
      replace hr10 := hr10.ext hu14
      refine L_op rfl (X_move (v := (.tuple #[(.agg (((fillL b).map byteV)).toArray), (.int .i64 (e3))])) rfl ?_)
      refine L_op rfl (X_extract (l := [(.agg (((fillL b).map byteV)).toArray), (.int .i64 (e3))]) (v := (.agg (((fillL b).map byteV)).toArray)) rfl rfl ?_)
      refine L_op rfl (X_extract (l := [(.agg (((fillL b).map byteV)).toArray), (.int .i64 (e3))]) (v := (.int .i64 (e3))) rfl rfl ?_)
      refine L_op rfl (X_alloc (z := zv24) (c := zc24.toArray) Zv24 rfl ?_)
      intro b15 w15 hn15
      have hbn15 := hn15.num; have hbs15 := hn15.size
      replace hb := hb.ext hn15.ext
      replace hs := hs.ext hn15.ext
      replace hU := hU.trans (Ext.upd hn15.ext)
      replace hB1 := hB1.ext hn15.ext
      replace hB2 := hB2.ext hn15.ext
      replace hr7 := hr7.ext hn15.ext
      replace hr8 := hr8.ext hn15.ext
      replace hs9 := hs9.ext hn15.ext
      replace hr9 := hr9.ext hn15.ext
      replace hs10 := hs10.ext hn15.ext
      replace hr10 := hr10.ext hn15.ext
      have hB15 := hn15.blk
      rw [zc24_eq] at hB15
      refine L_op0 (X_storeW (b := b15) (ys := ((fillL b).map byteV)) A24 rfl rfl (byteV_one _) (by rw [List.length_map]; exact fillL_length b) hB15 (by rw [List.size_toArray]; exact (by rw [List.length_map]; exact List.length_replicate)) ?_)
      intro w16 hu16 hb16
      have hz16 := hu16.size
      replace hb := hb.upd hu16 fun i hi h => by have hi := hb_b _ hi; have h : i = b15 := h; omega
      replace hs := hs.upd hu16 fun i hi h => by have hi := hs_b _ hi; have h : i = b15 := h; omega
      replace hU := hU.trans (hu16.mono fun i _ h => by have h : i = b15 := h; show n0 ≤ i; omega)
      replace hB1 := hB1.upd hu16 fun h => by have h : b1 = b15 := h; omega
      replace hB2 := hB2.upd hu16 fun h => by have h : b2 = b15 := h; omega
      replace hr7 := hr7.upd hu16 fun i hi h => by have hi := hr7_b _ hi; have h : i = b15 := h; omega
      replace hr8 := hr8.upd hu16 fun i hi h => by have hi := hr8_b _ hi; have h : i = b15 := h; omega
      replace hs9 := hs9.upd hu16 fun i hi h => by have hi := hs9_b _ hi; have h : i = b15 := h; omega
      replace hr9 := hr9.upd hu16 fun i hi h => by have hi := hr9_b _ hi; have h : i = b15 := h; omega
      replace hs10 := hs10.upd hu16 fun i hi h => by have hi := hs10_b _ hi; have h : i = b15 := h; omega
      replace hr10 := hr10.upd hu16 fun i hi h => by have hi := hr10_b _ hi; have h : i = b15 := h; omega
      replace hB15 := hb16
      refine L_op rfl (X_assign (v := (.int .i64 (e3))) rfl ?_)
      refine L_nil ?_
      refine T_n ?_
      refine W_seq ?_
      refine W_reg ?_
      refine L_op rfl (X_move (v := bb) rfl ?_)
      refine L_op rfl (X_fn (vs := [bb]) en19 rfl (CT.mono (c_fillR _ b _ hb) ?_))
      rintro _ w17 ⟨e4, rfl, he4a, he4b, hu17⟩
      have hz17 := hu17.size
      replace hb := hb.ext hu17
      replace hs := hs.ext hu17
      replace hU := hU.trans (Ext.upd hu17)
      replace hB1 := hB1.ext hu17
      replace hB2 := hB2.ext hu17
      replace hr7 := hr7.ext hu17
      replace hr8 := hr8.ext hu17
      replace hs9 := hs9.ext hu17
      replace hr9 := hr9.ext hu17
      replace hs10 := hs10.ext hu17
      replace hr10 := hr10.ext hu17
      replace hB15 := hB15.ext hu17
      refine L_op rfl (X_move (v := (.tuple #[(.agg (((fillL b).map byteV)).toArray), (.int .i64 (e4))])) rfl ?_)
      refine L_op rfl (X_extract (l := [(.agg (((fillL b).map byteV)).toArray), (.int .i64 (e4))]) (v := (.agg (((fillL b).map byteV)).toArray)) rfl rfl ?_)
      refine L_op rfl (X_extract (l := [(.agg (((fillL b).map byteV)).toArray), (.int .i64 (e4))]) (v := (.int .i64 (e4))) rfl rfl ?_)
      refine L_op rfl (X_alloc (z := zv24) (c := zc24.toArray) Zv24 rfl ?_)
      intro b18 w18 hn18
      have hbn18 := hn18.num; have hbs18 := hn18.size
      replace hb := hb.ext hn18.ext
      replace hs := hs.ext hn18.ext
      replace hU := hU.trans (Ext.upd hn18.ext)
      replace hB1 := hB1.ext hn18.ext
      replace hB2 := hB2.ext hn18.ext
      replace hr7 := hr7.ext hn18.ext
      replace hr8 := hr8.ext hn18.ext
      replace hs9 := hs9.ext hn18.ext
      replace hr9 := hr9.ext hn18.ext
      replace hs10 := hs10.ext hn18.ext
      replace hr10 := hr10.ext hn18.ext
      replace hB15 := hB15.ext hn18.ext
      have hB18 := hn18.blk
      rw [zc24_eq] at hB18
      refine L_op0 (X_storeW (b := b18) (ys := ((fillL b).map byteV)) A24 rfl rfl (byteV_one _) (by rw [List.length_map]; exact fillL_length b) hB18 (by rw [List.size_toArray]; exact (by rw [List.length_map]; exact List.length_replicate)) ?_)
      intro w19 hu19 hb19
      have hz19 := hu19.size
      replace hb := hb.upd hu19 fun i hi h => by have hi := hb_b _ hi; have h : i = b18 := h; omega
      replace hs := hs.upd hu19 fun i hi h => by have hi := hs_b _ hi; have h : i = b18 := h; omega
      replace hU := hU.trans (hu19.mono fun i _ h => by have h : i = b18 := h; show n0 ≤ i; omega)
      replace hB1 := hB1.upd hu19 fun h => by have h : b1 = b18 := h; omega
      replace hB2 := hB2.upd hu19 fun h => by have h : b2 = b18 := h; omega
      replace hr7 := hr7.upd hu19 fun i hi h => by have hi := hr7_b _ hi; have h : i = b18 := h; omega
      replace hr8 := hr8.upd hu19 fun i hi h => by have hi := hr8_b _ hi; have h : i = b18 := h; omega
      replace hs9 := hs9.upd hu19 fun i hi h => by have hi := hs9_b _ hi; have h : i = b18 := h; omega
      replace hr9 := hr9.upd hu19 fun i hi h => by have hi := hr9_b _ hi; have h : i = b18 := h; omega
      replace hs10 := hs10.upd hu19 fun i hi h => by have hi := hs10_b _ hi; have h : i = b18 := h; omega
      replace hr10 := hr10.upd hu19 fun i hi h => by have hi := hr10_b _ hi; have h : i = b18 := h; omega
      replace hB15 := hB15.upd hu19 fun h => by have h : b15 = b18 := h; omega
      replace hB18 := hb19
      refine L_op rfl (X_assign (v := (.int .i64 (e4))) rfl ?_)
      refine L_nil ?_
      refine T_n ?_
      refine W_seq ?_
      refine W_draw 41 [[], [], [0, 1], [0, 1, 2], [0, 1, 2, 3], [0, 1, 2, 3], [0, 1, 2, 3, 4, 5], [0, 1, 2, 3, 4, 5, 6], [0, 1, 2, 3, 4, 5, 6, 7], [0, 1, 2, 3, 4, 5, 6, 7, 8], [0, 1, 2, 3, 4, 5, 6, 7, 8], [0, 1, 2, 3, 4, 5, 6, 7, 8], [0, 1, 2, 3, 4, 5, 6, 7, 8, 9, 10, 11], [0, 1, 2, 3, 4, 5, 6, 7, 8], [0, 1, 2, 3, 4, 5, 6, 7, 8], [0, 1, 2, 3, 4, 5, 6, 7, 8], [0, 1, 2, 3, 4, 5, 6, 7, 8, 9, 10, 11, 12, 13, 14, 15], [0, 1, 2, 3, 4, 5, 6, 7, 8, 9, 10, 11, 12, 13, 14, 15, 16], [0, 1, 2, 3, 4, 5, 6, 7, 8, 9, 10, 11, 12, 13, 14, 15, 16, 17], [0, 1, 2, 3, 4, 5, 6, 7, 8, 9, 10, 11, 12, 13, 14, 15, 16, 17, 18], [0, 1, 2, 3, 4, 5, 6, 7, 8, 9, 10, 11, 12, 13, 14, 15, 16, 17, 18, 19], [0, 1, 2, 3, 4, 5, 6, 7, 8, 9, 10, 11, 12, 13, 14, 15, 16, 17, 18, 19], [0, 1, 2, 3, 4, 5, 6, 7, 8, 9, 10, 11, 12, 13, 14, 15, 16, 17, 18, 19, 20, 21], [0, 1, 2, 3, 4, 5, 6, 7, 8, 9, 10, 11, 12, 13, 14, 15, 16, 17, 18, 19], [0, 1, 2, 3, 4, 5, 6, 7, 8, 9, 10, 11, 12, 13, 14, 15, 16, 17, 18, 19], [0, 1, 2, 3, 4, 5, 6, 7, 8, 9, 10, 11, 12, 13, 14, 15, 16, 17, 18, 19, 20, 21, 22, 23, 24], [0, 1, 2, 3, 4, 5, 6, 7, 8, 9, 10, 11, 12, 13, 14, 15, 16, 17, 18, 19, 20, 21, 22, 23, 24, 25], [0, 1, 2, 3, 4, 5, 6, 7, 8, 9, 10, 11, 12, 13, 14, 15, 16, 17, 18, 19, 20, 21, 22, 23, 24, 25, 26], [0, 1, 2, 3, 4, 5, 6, 7, 8, 9, 10, 11, 12, 13, 14, 15, 16, 17, 18, 19, 20, 21, 22, 23, 24, 25, 26, 27], [0, 1, 2, 3, 4, 5, 6, 7, 8, 9, 10, 11, 12, 13, 14, 15, 16, 17, 18, 19, 20, 21, 22, 23, 24, 25, 26, 27, 28], [0, 1, 2, 3, 4, 5, 6, 7, 8, 9, 10, 11, 12, 13, 14, 15, 16, 17, 18, 19, 20, 21, 22, 23, 24, 25, 26, 27, 28, 29], [0, 1, 2, 3, 4, 5, 6, 7, 8, 9, 10, 11, 12, 13, 14, 15, 16, 17, 18, 19, 20, 21, 22, 23, 24, 25, 26, 27, 28], [0, 1, 2, 3, 4, 5, 6, 7, 8, 9, 10, 11, 12, 13, 14, 15, 16, 17, 18, 19, 20, 21, 22, 23, 24, 25, 26, 27, 28, 29, 30, 31], [0, 1, 2, 3, 4, 5, 6, 7, 8, 9, 10, 11, 12, 13, 14, 15, 16, 17, 18, 19, 20, 21, 22, 23, 24, 25, 26, 27, 28, 29, 30, 31, 32], [0, 1, 2, 3, 4, 5, 6, 7, 8, 9, 10, 11, 12, 13, 14, 15, 16, 17, 18, 19, 20, 21, 22, 23, 24, 25, 26, 27, 28, 29, 30, 31, 32, 33], [0, 1, 2, 3, 4, 5, 6, 7, 8, 9, 10, 11, 12, 13, 14, 15, 16, 17, 18, 19, 20, 21, 22, 23, 24, 25, 26, 27, 28, 29, 30, 31, 32, 33, 34], [0, 1, 2, 3, 4, 5, 6, 7, 8, 9, 10, 11, 12, 13, 14, 15, 16, 17, 18, 19, 20, 21, 22, 23, 24, 25, 26, 27, 28, 29, 30, 31, 32, 33, 34, 35], [0, 1, 2, 3, 4, 5, 6, 7, 8, 9, 10, 11, 12, 13, 14, 15, 16, 17, 18, 19, 20, 21, 22, 23, 24, 25, 26, 27, 28, 29, 30, 31, 32, 33, 34, 35], [0, 1, 2, 3, 4, 5, 6, 7, 8, 9, 10, 11, 12, 13, 14, 15, 16, 17, 18, 19, 20, 21, 22, 23, 24, 25, 26, 27, 28, 29, 30, 31, 32, 33, 34, 35, 36, 37], [0, 1, 2, 3, 4, 5, 6, 7, 8, 9, 10, 11, 12, 13, 14, 15, 16, 17, 18, 19, 20, 21, 22, 23, 24, 25, 26, 27, 28, 29, 30, 31, 32, 33, 34, 35], [0, 1, 2, 3, 4, 5, 6, 7, 8, 9, 10, 11, 12, 13, 14, 15, 16, 17, 18, 19, 20, 21, 22, 23, 24, 25, 26, 27, 28, 29, 30, 31, 32, 33, 34, 35], [0, 1, 2, 3, 4, 5, 6, 7, 8, 9, 10, 11, 12, 13, 14, 15, 16, 17, 18, 19, 20, 21, 22, 23, 24, 25, 26, 27, 28, 29, 30, 31, 32, 33, 34, 35, 36, 37, 38, 39, 40], [0, 1, 2, 3, 4, 5, 6, 7, 8, 9, 10, 11, 12, 13, 14, 15, 16, 17, 18, 19, 20, 21, 22, 23, 24, 25, 26, 27, 28, 29, 30, 31, 32, 33, 34, 35, 36, 37, 38, 39, 40, 41], [0, 1, 2, 3, 4, 5, 6, 7, 8, 9, 10, 11, 12, 13, 14, 15, 16, 17, 18, 19, 20, 21, 22, 23, 24, 25, 26, 27, 28, 29, 30, 31, 32, 33, 34, 35, 36, 37, 38, 39, 40, 41, 42], [0, 1, 2, 3, 4, 5, 6, 7, 8, 9, 10, 11, 12, 13, 14, 15, 16, 17, 18, 19, 20, 21, 22, 23, 24, 25, 26, 27, 28, 29, 30, 31, 32, 33, 34, 35, 36, 37, 38, 39, 40, 41, 42, 43], [0, 1, 2, 3, 4, 5, 6, 7, 8, 9, 10, 11, 12, 13, 14, 15, 16, 17, 18, 19, 20, 21, 22, 23, 24, 25, 26, 27, 28, 29, 30, 31, 32, 33, 34, 35, 36, 37, 38, 39, 40, 41, 42, 43, 44], [0, 1, 2, 3, 4, 5, 6, 7, 8, 9, 10, 11, 12, 13, 14, 15, 16, 17, 18, 19, 20, 21, 22, 23, 24, 25, 26, 27, 28, 29, 30, 31, 32, 33, 34, 35, 36, 37, 38, 39, 40, 41, 42, 43, 44, 45], [0, 1, 2, 3, 4, 5, 6, 7, 8, 9, 10, 11, 12, 13, 14, 15, 16, 17, 18, 19, 20, 21, 22, 23, 24, 25, 26, 27, 28, 29, 30, 31, 32, 33, 34, 35, 36, 37, 38, 39, 40, 41, 42, 43, 44, 45, 46]] mixed (by kernel_rfl) ?_
      refine ⟨.det (fun val => (.agg (((fillL b).map byteV)).toArray)), ⟨fun _ _ hv => rfl, fun _ _ _ _ _ => trivial⟩, fun val h_ W hx he => ⟨trivial, ?_⟩, ?_⟩
      · replace hx := (Upd.drew _ _).trans hx
        replace hb := hb.ext hx
        replace hs := hs.ext hx
        replace hB1 := hB1.ext hx
        replace hB2 := hB2.ext hx
        replace hr7 := hr7.ext hx
        replace hr8 := hr8.ext hx
        replace hs9 := hs9.ext hx
        replace hr9 := hr9.ext hx
        replace hs10 := hs10.ext hx
        replace hr10 := hr10.ext hx
        replace hB15 := hB15.ext hx
        replace hB18 := hB18.ext hx
        have hE := Upd.refl (fun _ => False) W
        refine id (X_loadA (p := (ptr b15 (0))) (xs := ((fillL b).map byteV)) A24 rfl hB15.atAll (by rw [List.length_map]; exact fillL_length b) ?_)
        exact ⟨hE, rfl⟩
      refine ⟨.det (fun val => (.agg (((fillL b).map byteV)).toArray)), ⟨fun _ _ hv => rfl, fun _ _ _ _ _ => trivial⟩, fun val h_ W hx he => ⟨trivial, ?_⟩, ?_⟩
      · replace hx := (Upd.drew _ _).trans hx
        replace hb := hb.ext hx
        replace hs := hs.ext hx
        replace hB1 := hB1.ext hx
        replace hB2 := hB2.ext hx
        replace hr7 := hr7.ext hx
        replace hr8 := hr8.ext hx
        replace hs9 := hs9.ext hx
        replace hr9 := hr9.ext hx
        replace hs10 := hs10.ext hx
        replace hr10 := hr10.ext hx
        replace hB15 := hB15.ext hx
        replace hB18 := hB18.ext hx
        have hE := Upd.refl (fun _ => False) W
        refine id (X_loadA (p := (ptr b18 (0))) (xs := ((fillL b).map byteV)) A24 rfl hB18.atAll (by rw [List.length_map]; exact fillL_length b) ?_)
        exact ⟨hE, rfl⟩
      refine ⟨.det (fun val => (.bool (true))), ⟨fun _ _ hv => rfl, fun _ _ _ _ _ => trivial⟩, fun val h_ W hx he => ⟨trivial, ?_⟩, ?_⟩
      · replace hx := (Upd.drew _ _).trans hx
        replace hb := hb.ext hx
        replace hs := hs.ext hx
        replace hB1 := hB1.ext hx
        replace hB2 := hB2.ext hx
        replace hr7 := hr7.ext hx
        replace hr8 := hr8.ext hx
        replace hs9 := hs9.ext hx
        replace hr9 := hr9.ext hx
        replace hs10 := hs10.ext hx
        replace hr10 := hr10.ext hx
        replace hB15 := hB15.ext hx
        replace hB18 := hB18.ext hx
        have hE := Upd.refl (fun _ => False) W
        refine id (X_eqA (n := 256) (l := fillL b) (m := fillL b) (r := true) Try.underlying24 Try.underlying5 (by kernel_rfl) (by kernel_rfl) (by kernel_rfl) rfl rfl (fillL_length b) (fillL_length b) (.inl ⟨rfl, (beq_self_eq_true _)⟩) ?_)
        exact ⟨hE, rfl⟩
      refine ⟨.det (fun val => (.bool (true))), ⟨fun _ _ hv => rfl, fun _ _ _ _ _ => trivial⟩, fun val h_ W hx he => ⟨trivial, ?_⟩, ?_⟩
      · replace hx := (Upd.drew _ _).trans hx
        replace hb := hb.ext hx
        replace hs := hs.ext hx
        replace hB1 := hB1.ext hx
        replace hB2 := hB2.ext hx
        replace hr7 := hr7.ext hx
        replace hr8 := hr8.ext hx
        replace hs9 := hs9.ext hx
        replace hr9 := hr9.ext hx
        replace hs10 := hs10.ext hx
        replace hr10 := hr10.ext hx
        replace hB15 := hB15.ext hx
        replace hB18 := hB18.ext hx
        have hE := Upd.refl (fun _ => False) W
        refine id (X_move (v := (.bool (true))) rfl ?_)
        exact ⟨hE, rfl⟩
      refine ⟨.det (fun val => (.int .i64 (e3))), ⟨fun _ _ hv => rfl, fun _ _ _ _ _ => trivial⟩, fun val h_ W hx he => ⟨⟨112, rfl, rfl⟩, ?_⟩, ?_⟩
      · replace hx := (Upd.drew _ _).trans hx
        replace hb := hb.ext hx
        replace hs := hs.ext hx
        replace hB1 := hB1.ext hx
        replace hB2 := hB2.ext hx
        replace hr7 := hr7.ext hx
        replace hr8 := hr8.ext hx
        replace hs9 := hs9.ext hx
        replace hr9 := hr9.ext hx
        replace hs10 := hs10.ext hx
        replace hr10 := hr10.ext hx
        replace hB15 := hB15.ext hx
        replace hB18 := hB18.ext hx
        have hE := Upd.refl (fun _ => False) W
        refine id (X_move (v := (.int .i64 (e3))) rfl ?_)
        exact ⟨hE, rfl⟩
      refine ⟨.det (fun val => (.int .i64 (e4))), ⟨fun _ _ hv => rfl, fun _ _ _ _ _ => trivial⟩, fun val h_ W hx he => ⟨⟨112, rfl, rfl⟩, ?_⟩, ?_⟩
      · replace hx := (Upd.drew _ _).trans hx
        replace hb := hb.ext hx
        replace hs := hs.ext hx
        replace hB1 := hB1.ext hx
        replace hB2 := hB2.ext hx
        replace hr7 := hr7.ext hx
        replace hr8 := hr8.ext hx
        replace hs9 := hs9.ext hx
        replace hr9 := hr9.ext hx
        replace hs10 := hs10.ext hx
        replace hr10 := hr10.ext hx
        replace hB15 := hB15.ext hx
        replace hB18 := hB18.ext hx
        have hE := Upd.refl (fun _ => False) W
        refine id (X_move (v := (.int .i64 (e4))) rfl ?_)
        exact ⟨hE, rfl⟩
      refine ⟨.det (fun val => (.bool (true))), ⟨fun _ _ hv => rfl, fun _ _ _ _ _ => trivial⟩, fun val h_ W hx he => ⟨⟨112, rfl, rfl⟩, ?_⟩, ?_⟩
      · replace hx := (Upd.drew _ _).trans hx
        replace hb := hb.ext hx
        replace hs := hs.ext hx
        replace hB1 := hB1.ext hx
        replace hB2 := hB2.ext hx
        replace hr7 := hr7.ext hx
        replace hr8 := hr8.ext hx
        replace hs9 := hs9.ext hx
        replace hr9 := hr9.ext hx
        replace hs10 := hs10.ext hx
        replace hr10 := hr10.ext hx
        replace hB15 := hB15.ext hx
        replace hB18 := hB18.ext hx
        have hE := Upd.refl (fun _ => False) W
        refine id (X_cmp (k := .i64) (a := e3) (b := e4) (r := true) rfl rfl rfl (decide_eq_true (p := ((e3) : Int) = ((e4) : Int)) (by omega)) ?_)
        exact ⟨hE, rfl⟩
      refine ⟨.det (fun val => (.bool (true))), ⟨fun _ _ hv => rfl, fun _ _ _ _ _ => trivial⟩, fun val h_ W hx he => ⟨trivial, ?_⟩, ?_⟩
      · replace hx := (Upd.drew _ _).trans hx
        replace hb := hb.ext hx
        replace hs := hs.ext hx
        replace hB1 := hB1.ext hx
        replace hB2 := hB2.ext hx
        replace hr7 := hr7.ext hx
        replace hr8 := hr8.ext hx
        replace hs9 := hs9.ext hx
        replace hr9 := hr9.ext hx
        replace hs10 := hs10.ext hx
        replace hr10 := hr10.ext hx
        replace hB15 := hB15.ext hx
        replace hB18 := hB18.ext hx
        have hE := Upd.refl (fun _ => False) W
        refine id (X_pick (t := true) (v := (.bool (true))) rfl rfl ?_)
        exact ⟨hE, rfl⟩
      refine ⟨.det (fun val => (.bool (true))), ⟨fun _ _ hv => rfl, fun _ _ _ _ _ => trivial⟩, fun val h_ W hx he => ⟨trivial, ?_⟩, ?_⟩
      · replace hx := (Upd.drew _ _).trans hx
        replace hb := hb.ext hx
        replace hs := hs.ext hx
        replace hB1 := hB1.ext hx
        replace hB2 := hB2.ext hx
        replace hr7 := hr7.ext hx
        replace hr8 := hr8.ext hx
        replace hs9 := hs9.ext hx
        replace hr9 := hr9.ext hx
        replace hs10 := hs10.ext hx
        replace hr10 := hr10.ext hx
        replace hB15 := hB15.ext hx
        replace hB18 := hB18.ext hx
        have hE := Upd.refl (fun _ => False) W
        refine id (X_move (v := (.bool (true))) rfl ?_)
        exact ⟨hE, rfl⟩
      refine ⟨.det (fun val => bb), ⟨fun _ _ hv => rfl, fun _ _ _ _ _ => trivial⟩, fun val h_ W hx he => ⟨⟨117, rfl, rfl⟩, ?_⟩, ?_⟩
      · replace hx := (Upd.drew _ _).trans hx
        replace hb := hb.ext hx
        replace hs := hs.ext hx
        replace hB1 := hB1.ext hx
        replace hB2 := hB2.ext hx
        replace hr7 := hr7.ext hx
        replace hr8 := hr8.ext hx
        replace hs9 := hs9.ext hx
        replace hr9 := hr9.ext hx
        replace hs10 := hs10.ext hx
        replace hr10 := hr10.ext hx
        replace hB15 := hB15.ext hx
        replace hB18 := hB18.ext hx
        have hE := Upd.refl (fun _ => False) W
        refine id (X_move (v := bb) rfl ?_)
        exact ⟨hE, rfl⟩
      refine ⟨.det (fun val => (.int .u64 (((n : Nat) : Int)))), ⟨fun _ _ hv => rfl, fun _ _ _ _ _ => trivial⟩, fun val h_ W hx he => ⟨⟨117, rfl, rfl⟩, ?_⟩, ?_⟩
      · replace hx := (Upd.drew _ _).trans hx
        replace hb := hb.ext hx
        replace hs := hs.ext hx
        replace hB1 := hB1.ext hx
        replace hB2 := hB2.ext hx
        replace hr7 := hr7.ext hx
        replace hr8 := hr8.ext hx
        replace hs9 := hs9.ext hx
        replace hr9 := hr9.ext hx
        replace hs10 := hs10.ext hx
        replace hr10 := hr10.ext hx
        replace hB15 := hB15.ext hx
        replace hB18 := hB18.ext hx
        have hE := Upd.refl (fun _ => False) W
        refine id (X_move (v := (.int .u64 (((n : Nat) : Int)))) rfl ?_)
        exact ⟨hE, rfl⟩
      refine ⟨.det (fun val => (.int .i64 (m))), ⟨fun _ _ hv => rfl, fun _ _ _ _ _ => trivial⟩, fun val h_ W hx he => ⟨⟨117, rfl, rfl⟩, ?_⟩, ?_⟩
      · replace hx := (Upd.drew _ _).trans hx
        replace hb := hb.ext hx
        replace hs := hs.ext hx
        replace hB1 := hB1.ext hx
        replace hB2 := hB2.ext hx
        replace hr7 := hr7.ext hx
        replace hr8 := hr8.ext hx
        replace hs9 := hs9.ext hx
        replace hr9 := hr9.ext hx
        replace hs10 := hs10.ext hx
        replace hr10 := hr10.ext hx
        replace hB15 := hB15.ext hx
        replace hB18 := hB18.ext hx
        have hE := Upd.refl (fun _ => False) W
        refine id (X_move (v := (.int .i64 (m))) rfl ?_)
        exact ⟨hE, rfl⟩
      refine ⟨.abs (fun _ x_ W => Rd W 1 x_ (b ++ numB n (wideN m)).length ((b ++ numB n (wideN m)).map byteV)), ⟨fun _ _ _ => rfl, fun _ _ _ _ hu h => h.ext hu⟩, fun val h_ W hx he => ⟨⟨117, rfl, rfl⟩, ?_⟩, ?_⟩
      · replace hx := (Upd.drew _ _).trans hx
        replace hb := hb.ext hx
        replace hs := hs.ext hx
        replace hB1 := hB1.ext hx
        replace hB2 := hB2.ext hx
        replace hr7 := hr7.ext hx
        replace hr8 := hr8.ext hx
        replace hs9 := hs9.ext hx
        replace hr9 := hr9.ext hx
        replace hs10 := hs10.ext hx
        replace hr10 := hr10.ext hx
        replace hB15 := hB15.ext hx
        replace hB18 := hB18.ext hx
        have hE := Upd.refl (fun _ => False) W
        refine X_fn (vs := [bb, (.int .u64 (((n : Nat) : Int))), (.int .i64 (m))]) en13 rfl (CT.mono (c_put _ b n m _ (by omega) hb) ?_)
        rintro v_ w_ ⟨hO, hu⟩
        exact ⟨hu, (hO.eq (n' := (b ++ numB n (wideN m)).length) (by rw [List.length_append, numB_length]) rfl).rd⟩
      refine ⟨.det (fun val => bb), ⟨fun _ _ hv => rfl, fun _ _ _ _ _ => trivial⟩, fun val h_ W hx he => ⟨⟨117, rfl, rfl⟩, ?_⟩, ?_⟩
      · replace hx := (Upd.drew _ _).trans hx
        replace hb := hb.ext hx
        replace hs := hs.ext hx
        replace hB1 := hB1.ext hx
        replace hB2 := hB2.ext hx
        replace hr7 := hr7.ext hx
        replace hr8 := hr8.ext hx
        replace hs9 := hs9.ext hx
        replace hr9 := hr9.ext hx
        replace hs10 := hs10.ext hx
        replace hr10 := hr10.ext hx
        replace hB15 := hB15.ext hx
        replace hB18 := hB18.ext hx
        have hE := Upd.refl (fun _ => False) W
        refine id (X_move (v := bb) rfl ?_)
        exact ⟨hE, rfl⟩
      refine ⟨.det (fun val => (.int .u64 (((n : Nat) : Int)))), ⟨fun _ _ hv => rfl, fun _ _ _ _ _ => trivial⟩, fun val h_ W hx he => ⟨⟨117, rfl, rfl⟩, ?_⟩, ?_⟩
      · replace hx := (Upd.drew _ _).trans hx
        replace hb := hb.ext hx
        replace hs := hs.ext hx
        replace hB1 := hB1.ext hx
        replace hB2 := hB2.ext hx
        replace hr7 := hr7.ext hx
        replace hr8 := hr8.ext hx
        replace hs9 := hs9.ext hx
        replace hr9 := hr9.ext hx
        replace hs10 := hs10.ext hx
        replace hr10 := hr10.ext hx
        replace hB15 := hB15.ext hx
        replace hB18 := hB18.ext hx
        have hE := Upd.refl (fun _ => False) W
        refine id (X_move (v := (.int .u64 (((n : Nat) : Int)))) rfl ?_)
        exact ⟨hE, rfl⟩
      refine ⟨.det (fun val => (.int .i64 (m))), ⟨fun _ _ hv => rfl, fun _ _ _ _ _ => trivial⟩, fun val h_ W hx he => ⟨⟨117, rfl, rfl⟩, ?_⟩, ?_⟩
      · replace hx := (Upd.drew _ _).trans hx
        replace hb := hb.ext hx
        replace hs := hs.ext hx
        replace hB1 := hB1.ext hx
        replace hB2 := hB2.ext hx
        replace hr7 := hr7.ext hx
        replace hr8 := hr8.ext hx
        replace hs9 := hs9.ext hx
        replace hr9 := hr9.ext hx
        replace hs10 := hs10.ext hx
        replace hr10 := hr10.ext hx
        replace hB15 := hB15.ext hx
        replace hB18 := hB18.ext hx
        have hE := Upd.refl (fun _ => False) W
        refine id (X_move (v := (.int .i64 (m))) rfl ?_)
        exact ⟨hE, rfl⟩
      refine ⟨.abs (fun _ x_ W => Rd W 1 x_ (b ++ numB n (wideN m)).length ((b ++ numB n (wideN m)).map byteV)), ⟨fun _ _ _ => rfl, fun _ _ _ _ hu h => h.ext hu⟩, fun val h_ W hx he => ⟨⟨117, rfl, rfl⟩, ?_⟩, ?_⟩
      · replace hx := (Upd.drew _ _).trans hx
        replace hb := hb.ext hx
        replace hs := hs.ext hx
        replace hB1 := hB1.ext hx
        replace hB2 := hB2.ext hx
        replace hr7 := hr7.ext hx
        replace hr8 := hr8.ext hx
        replace hs9 := hs9.ext hx
        replace hr9 := hr9.ext hx
        replace hs10 := hs10.ext hx
        replace hr10 := hr10.ext hx
        replace hB15 := hB15.ext hx
        replace hB18 := hB18.ext hx
        have hE := Upd.refl (fun _ => False) W
        refine X_fn (vs := [bb, (.int .u64 (((n : Nat) : Int))), (.int .i64 (m))]) en20 rfl (CT.mono (c_putR _ b n m _ (by omega) hb) ?_)
        rintro v_ w_ ⟨hO, hu⟩
        exact ⟨hu, (hO.eq (n' := (b ++ numB n (wideN m)).length) rfl rfl).rd⟩
      refine ⟨.det (fun val => (.bool (true))), ⟨fun _ _ hv => rfl, fun _ _ _ _ _ => trivial⟩, fun val h_ W hx he => ⟨⟨117, rfl, rfl⟩, ?_⟩, ?_⟩
      · replace hx := (Upd.drew _ _).trans hx
        replace hb := hb.ext hx
        replace hs := hs.ext hx
        replace hB1 := hB1.ext hx
        replace hB2 := hB2.ext hx
        replace hr7 := hr7.ext hx
        replace hr8 := hr8.ext hx
        replace hs9 := hs9.ext hx
        replace hr9 := hr9.ext hx
        replace hs10 := hs10.ext hx
        replace hr10 := hr10.ext hx
        replace hB15 := hB15.ext hx
        replace hB18 := hB18.ext hx
        have hE := Upd.refl (fun _ => False) W
        obtain ⟨hV16, he⟩ := he
        obtain ⟨hV12, he⟩ := he
        refine id (X_fn (vs := [(val 12), (val 16)]) en11 rfl (CT.mono (c_same _ _ (b ++ numB n (wideN m)) (b ++ numB n (wideN m)) _ hV12 hV16) ?_))
        rintro vb21 _ ⟨hvb21, rfl⟩
        rw [show ((b ++ numB n (wideN m) : List UInt8) == b ++ numB n (wideN m)) = true from beq_self_eq_true _] at hvb21
        subst hvb21
        exact ⟨hE, rfl⟩
      refine ⟨.det (fun val => (.bool (true))), ⟨fun _ _ hv => rfl, fun _ _ _ _ _ => trivial⟩, fun val h_ W hx he => ⟨trivial, ?_⟩, ?_⟩
      · replace hx := (Upd.drew _ _).trans hx
        replace hb := hb.ext hx
        replace hs := hs.ext hx
        replace hB1 := hB1.ext hx
        replace hB2 := hB2.ext hx
        replace hr7 := hr7.ext hx
        replace hr8 := hr8.ext hx
        replace hs9 := hs9.ext hx
        replace hr9 := hr9.ext hx
        replace hs10 := hs10.ext hx
        replace hr10 := hr10.ext hx
        replace hB15 := hB15.ext hx
        replace hB18 := hB18.ext hx
        have hE := Upd.refl (fun _ => False) W
        obtain ⟨hV16, he⟩ := he
        obtain ⟨hV12, he⟩ := he
        refine id (X_pick (t := true) (v := (.bool (true))) rfl rfl ?_)
        exact ⟨hE, rfl⟩
      refine ⟨.det (fun val => (.bool (true))), ⟨fun _ _ hv => rfl, fun _ _ _ _ _ => trivial⟩, fun val h_ W hx he => ⟨trivial, ?_⟩, ?_⟩
      · replace hx := (Upd.drew _ _).trans hx
        replace hb := hb.ext hx
        replace hs := hs.ext hx
        replace hB1 := hB1.ext hx
        replace hB2 := hB2.ext hx
        replace hr7 := hr7.ext hx
        replace hr8 := hr8.ext hx
        replace hs9 := hs9.ext hx
        replace hr9 := hr9.ext hx
        replace hs10 := hs10.ext hx
        replace hr10 := hr10.ext hx
        replace hB15 := hB15.ext hx
        replace hB18 := hB18.ext hx
        have hE := Upd.refl (fun _ => False) W
        obtain ⟨hV16, he⟩ := he
        obtain ⟨hV12, he⟩ := he
        refine id (X_move (v := (.bool (true))) rfl ?_)
        exact ⟨hE, rfl⟩
      refine ⟨.det (fun val => bb), ⟨fun _ _ hv => rfl, fun _ _ _ _ _ => trivial⟩, fun val h_ W hx he => ⟨⟨128, rfl, rfl⟩, ?_⟩, ?_⟩
      · replace hx := (Upd.drew _ _).trans hx
        replace hb := hb.ext hx
        replace hs := hs.ext hx
        replace hB1 := hB1.ext hx
        replace hB2 := hB2.ext hx
        replace hr7 := hr7.ext hx
        replace hr8 := hr8.ext hx
        replace hs9 := hs9.ext hx
        replace hr9 := hr9.ext hx
        replace hs10 := hs10.ext hx
        replace hr10 := hr10.ext hx
        replace hB15 := hB15.ext hx
        replace hB18 := hB18.ext hx
        have hE := Upd.refl (fun _ => False) W
        obtain ⟨hV16, he⟩ := he
        obtain ⟨hV12, he⟩ := he
        refine id (X_move (v := bb) rfl ?_)
        exact ⟨hE, rfl⟩
      refine ⟨.det (fun val => bs), ⟨fun _ _ hv => rfl, fun _ _ _ _ _ => trivial⟩, fun val h_ W hx he => ⟨⟨128, rfl, rfl⟩, ?_⟩, ?_⟩
      · replace hx := (Upd.drew _ _).trans hx
        replace hb := hb.ext hx
        replace hs := hs.ext hx
        replace hB1 := hB1.ext hx
        replace hB2 := hB2.ext hx
        replace hr7 := hr7.ext hx
        replace hr8 := hr8.ext hx
        replace hs9 := hs9.ext hx
        replace hr9 := hr9.ext hx
        replace hs10 := hs10.ext hx
        replace hr10 := hr10.ext hx
        replace hB15 := hB15.ext hx
        replace hB18 := hB18.ext hx
        have hE := Upd.refl (fun _ => False) W
        obtain ⟨hV16, he⟩ := he
        obtain ⟨hV12, he⟩ := he
        refine id (X_move (v := bs) rfl ?_)
        exact ⟨hE, rfl⟩
      refine ⟨.abs (fun _ x_ W => Rd W 1 x_ (b ++ sizedB s).length ((b ++ sizedB s).map byteV)), ⟨fun _ _ _ => rfl, fun _ _ _ _ hu h => h.ext hu⟩, fun val h_ W hx he => ⟨⟨128, rfl, rfl⟩, ?_⟩, ?_⟩
      · replace hx := (Upd.drew _ _).trans hx
        replace hb := hb.ext hx
        replace hs := hs.ext hx
        replace hB1 := hB1.ext hx
        replace hB2 := hB2.ext hx
        replace hr7 := hr7.ext hx
        replace hr8 := hr8.ext hx
        replace hs9 := hs9.ext hx
        replace hr9 := hr9.ext hx
        replace hs10 := hs10.ext hx
        replace hr10 := hr10.ext hx
        replace hB15 := hB15.ext hx
        replace hB18 := hB18.ext hx
        have hE := Upd.refl (fun _ => False) W
        refine X_fn (vs := [bb, bs]) en14 rfl (CT.mono (c_putBytes _ _ b s _ (by omega) hb hs) ?_)
        rintro v_ w_ ⟨hO, hu⟩
        exact ⟨hu, (hO.eq (n' := (b ++ sizedB s).length) rfl rfl).rd⟩
      refine ⟨.det (fun val => bb), ⟨fun _ _ hv => rfl, fun _ _ _ _ _ => trivial⟩, fun val h_ W hx he => ⟨⟨128, rfl, rfl⟩, ?_⟩, ?_⟩
      · replace hx := (Upd.drew _ _).trans hx
        replace hb := hb.ext hx
        replace hs := hs.ext hx
        replace hB1 := hB1.ext hx
        replace hB2 := hB2.ext hx
        replace hr7 := hr7.ext hx
        replace hr8 := hr8.ext hx
        replace hs9 := hs9.ext hx
        replace hr9 := hr9.ext hx
        replace hs10 := hs10.ext hx
        replace hr10 := hr10.ext hx
        replace hB15 := hB15.ext hx
        replace hB18 := hB18.ext hx
        have hE := Upd.refl (fun _ => False) W
        obtain ⟨hV16, he⟩ := he
        obtain ⟨hV12, he⟩ := he
        refine id (X_move (v := bb) rfl ?_)
        exact ⟨hE, rfl⟩
      refine ⟨.det (fun val => bs), ⟨fun _ _ hv => rfl, fun _ _ _ _ _ => trivial⟩, fun val h_ W hx he => ⟨⟨128, rfl, rfl⟩, ?_⟩, ?_⟩
      · replace hx := (Upd.drew _ _).trans hx
        replace hb := hb.ext hx
        replace hs := hs.ext hx
        replace hB1 := hB1.ext hx
        replace hB2 := hB2.ext hx
        replace hr7 := hr7.ext hx
        replace hr8 := hr8.ext hx
        replace hs9 := hs9.ext hx
        replace hr9 := hr9.ext hx
        replace hs10 := hs10.ext hx
        replace hr10 := hr10.ext hx
        replace hB15 := hB15.ext hx
        replace hB18 := hB18.ext hx
        have hE := Upd.refl (fun _ => False) W
        obtain ⟨hV16, he⟩ := he
        obtain ⟨hV12, he⟩ := he
        refine id (X_move (v := bs) rfl ?_)
        exact ⟨hE, rfl⟩
      refine ⟨.abs (fun _ x_ W => Rd W 1 x_ (b ++ sizedB s).length ((b ++ sizedB s).map byteV)), ⟨fun _ _ _ => rfl, fun _ _ _ _ hu h => h.ext hu⟩, fun val h_ W hx he => ⟨⟨128, rfl, rfl⟩, ?_⟩, ?_⟩
      · replace hx := (Upd.drew _ _).trans hx
        replace hb := hb.ext hx
        replace hs := hs.ext hx
        replace hB1 := hB1.ext hx
        replace hB2 := hB2.ext hx
        replace hr7 := hr7.ext hx
        replace hr8 := hr8.ext hx
        replace hs9 := hs9.ext hx
        replace hr9 := hr9.ext hx
        replace hs10 := hs10.ext hx
        replace hr10 := hr10.ext hx
        replace hB15 := hB15.ext hx
        replace hB18 := hB18.ext hx
        have hE := Upd.refl (fun _ => False) W
        refine X_fn (vs := [bb, bs]) en21 rfl (CT.mono (c_putBytesR _ _ b s _ (by omega) hb hs) ?_)
        rintro v_ w_ ⟨hO, hu⟩
        exact ⟨hu, (hO.eq (n' := (b ++ sizedB s).length) rfl rfl).rd⟩
      refine ⟨.det (fun val => (.bool (true))), ⟨fun _ _ hv => rfl, fun _ _ _ _ _ => trivial⟩, fun val h_ W hx he => ⟨⟨128, rfl, rfl⟩, ?_⟩, ?_⟩
      · replace hx := (Upd.drew _ _).trans hx
        replace hb := hb.ext hx
        replace hs := hs.ext hx
        replace hB1 := hB1.ext hx
        replace hB2 := hB2.ext hx
        replace hr7 := hr7.ext hx
        replace hr8 := hr8.ext hx
        replace hs9 := hs9.ext hx
        replace hr9 := hr9.ext hx
        replace hs10 := hs10.ext hx
        replace hr10 := hr10.ext hx
        replace hB15 := hB15.ext hx
        replace hB18 := hB18.ext hx
        have hE := Upd.refl (fun _ => False) W
        obtain ⟨hV25, he⟩ := he
        obtain ⟨hV22, he⟩ := he
        obtain ⟨hV16, he⟩ := he
        obtain ⟨hV12, he⟩ := he
        refine id (X_fn (vs := [(val 22), (val 25)]) en11 rfl (CT.mono (c_same _ _ (b ++ sizedB s) (b ++ sizedB s) _ hV22 hV25) ?_))
        rintro vb22 _ ⟨hvb22, rfl⟩
        rw [show ((b ++ sizedB s : List UInt8) == b ++ sizedB s) = true from beq_self_eq_true _] at hvb22
        subst hvb22
        exact ⟨hE, rfl⟩
      refine ⟨.det (fun val => (.bool (true))), ⟨fun _ _ hv => rfl, fun _ _ _ _ _ => trivial⟩, fun val h_ W hx he => ⟨trivial, ?_⟩, ?_⟩
      · replace hx := (Upd.drew _ _).trans hx
        replace hb := hb.ext hx
        replace hs := hs.ext hx
        replace hB1 := hB1.ext hx
        replace hB2 := hB2.ext hx
        replace hr7 := hr7.ext hx
        replace hr8 := hr8.ext hx
        replace hs9 := hs9.ext hx
        replace hr9 := hr9.ext hx
        replace hs10 := hs10.ext hx
        replace hr10 := hr10.ext hx
        replace hB15 := hB15.ext hx
        replace hB18 := hB18.ext hx
        have hE := Upd.refl (fun _ => False) W
        obtain ⟨hV25, he⟩ := he
        obtain ⟨hV22, he⟩ := he
        obtain ⟨hV16, he⟩ := he
        obtain ⟨hV12, he⟩ := he
        refine id (X_pick (t := true) (v := (.bool (true))) rfl rfl ?_)
        exact ⟨hE, rfl⟩
      refine ⟨.det (fun val => (.bool (true))), ⟨fun _ _ hv => rfl, fun _ _ _ _ _ => trivial⟩, fun val h_ W hx he => ⟨trivial, ?_⟩, ?_⟩
      · replace hx := (Upd.drew _ _).trans hx
        replace hb := hb.ext hx
        replace hs := hs.ext hx
        replace hB1 := hB1.ext hx
        replace hB2 := hB2.ext hx
        replace hr7 := hr7.ext hx
        replace hr8 := hr8.ext hx
        replace hs9 := hs9.ext hx
        replace hr9 := hr9.ext hx
        replace hs10 := hs10.ext hx
        replace hr10 := hr10.ext hx
        replace hB15 := hB15.ext hx
        replace hB18 := hB18.ext hx
        have hE := Upd.refl (fun _ => False) W
        obtain ⟨hV25, he⟩ := he
        obtain ⟨hV22, he⟩ := he
        obtain ⟨hV16, he⟩ := he
        obtain ⟨hV12, he⟩ := he
        refine id (X_move (v := (.bool (true))) rfl ?_)
        exact ⟨hE, rfl⟩
      refine ⟨.det (fun val => bb), ⟨fun _ _ hv => rfl, fun _ _ _ _ _ => trivial⟩, fun val h_ W hx he => ⟨⟨137, rfl, rfl⟩, ?_⟩, ?_⟩
      · replace hx := (Upd.drew _ _).trans hx
        replace hb := hb.ext hx
        replace hs := hs.ext hx
        replace hB1 := hB1.ext hx
        replace hB2 := hB2.ext hx
        replace hr7 := hr7.ext hx
        replace hr8 := hr8.ext hx
        replace hs9 := hs9.ext hx
        replace hr9 := hr9.ext hx
        replace hs10 := hs10.ext hx
        replace hr10 := hr10.ext hx
        replace hB15 := hB15.ext hx
        replace hB18 := hB18.ext hx
        have hE := Upd.refl (fun _ => False) W
        obtain ⟨hV25, he⟩ := he
        obtain ⟨hV22, he⟩ := he
        obtain ⟨hV16, he⟩ := he
        obtain ⟨hV12, he⟩ := he
        refine id (X_move (v := bb) rfl ?_)
        exact ⟨hE, rfl⟩
      refine ⟨.det (fun val => (.bool (b.all (· == 0)))), ⟨fun _ _ hv => rfl, fun _ _ _ _ _ => trivial⟩, fun val h_ W hx he => ⟨⟨137, rfl, rfl⟩, ?_⟩, ?_⟩
      · replace hx := (Upd.drew _ _).trans hx
        replace hb := hb.ext hx
        replace hs := hs.ext hx
        replace hB1 := hB1.ext hx
        replace hB2 := hB2.ext hx
        replace hr7 := hr7.ext hx
        replace hr8 := hr8.ext hx
        replace hs9 := hs9.ext hx
        replace hr9 := hr9.ext hx
        replace hs10 := hs10.ext hx
        replace hr10 := hr10.ext hx
        replace hB15 := hB15.ext hx
        replace hB18 := hB18.ext hx
        have hE := Upd.refl (fun _ => False) W
        obtain ⟨hV25, he⟩ := he
        obtain ⟨hV22, he⟩ := he
        obtain ⟨hV16, he⟩ := he
        obtain ⟨hV12, he⟩ := he
        refine id (X_fn (vs := [bb]) en12 rfl (CT.mono (c_clean _ b _ hb) ?_))
        rintro _ _ ⟨rfl, rfl⟩
        exact ⟨hE, rfl⟩
      refine ⟨.det (fun val => bb), ⟨fun _ _ hv => rfl, fun _ _ _ _ _ => trivial⟩, fun val h_ W hx he => ⟨⟨137, rfl, rfl⟩, ?_⟩, ?_⟩
      · replace hx := (Upd.drew _ _).trans hx
        replace hb := hb.ext hx
        replace hs := hs.ext hx
        replace hB1 := hB1.ext hx
        replace hB2 := hB2.ext hx
        replace hr7 := hr7.ext hx
        replace hr8 := hr8.ext hx
        replace hs9 := hs9.ext hx
        replace hr9 := hr9.ext hx
        replace hs10 := hs10.ext hx
        replace hr10 := hr10.ext hx
        replace hB15 := hB15.ext hx
        replace hB18 := hB18.ext hx
        have hE := Upd.refl (fun _ => False) W
        obtain ⟨hV25, he⟩ := he
        obtain ⟨hV22, he⟩ := he
        obtain ⟨hV16, he⟩ := he
        obtain ⟨hV12, he⟩ := he
        refine id (X_move (v := bb) rfl ?_)
        exact ⟨hE, rfl⟩
      refine ⟨.det (fun val => (.bool (b.all (· == 0)))), ⟨fun _ _ hv => rfl, fun _ _ _ _ _ => trivial⟩, fun val h_ W hx he => ⟨⟨137, rfl, rfl⟩, ?_⟩, ?_⟩
      · replace hx := (Upd.drew _ _).trans hx
        replace hb := hb.ext hx
        replace hs := hs.ext hx
        replace hB1 := hB1.ext hx
        replace hB2 := hB2.ext hx
        replace hr7 := hr7.ext hx
        replace hr8 := hr8.ext hx
        replace hs9 := hs9.ext hx
        replace hr9 := hr9.ext hx
        replace hs10 := hs10.ext hx
        replace hr10 := hr10.ext hx
        replace hB15 := hB15.ext hx
        replace hB18 := hB18.ext hx
        have hE := Upd.refl (fun _ => False) W
        obtain ⟨hV25, he⟩ := he
        obtain ⟨hV22, he⟩ := he
        obtain ⟨hV16, he⟩ := he
        obtain ⟨hV12, he⟩ := he
        refine id (X_fn (vs := [bb]) en22 rfl (CT.mono (c_cleanR _ b _ hb) ?_))
        rintro _ _ ⟨rfl, rfl⟩
        exact ⟨hE, rfl⟩
      refine ⟨.det (fun val => (.bool (true))), ⟨fun _ _ hv => rfl, fun _ _ _ _ _ => trivial⟩, fun val h_ W hx he => ⟨⟨137, rfl, rfl⟩, ?_⟩, ?_⟩
      · replace hx := (Upd.drew _ _).trans hx
        replace hb := hb.ext hx
        replace hs := hs.ext hx
        replace hB1 := hB1.ext hx
        replace hB2 := hB2.ext hx
        replace hr7 := hr7.ext hx
        replace hr8 := hr8.ext hx
        replace hs9 := hs9.ext hx
        replace hr9 := hr9.ext hx
        replace hs10 := hs10.ext hx
        replace hr10 := hr10.ext hx
        replace hB15 := hB15.ext hx
        replace hB18 := hB18.ext hx
        have hE := Upd.refl (fun _ => False) W
        obtain ⟨hV25, he⟩ := he
        obtain ⟨hV22, he⟩ := he
        obtain ⟨hV16, he⟩ := he
        obtain ⟨hV12, he⟩ := he
        refine id (X_cmpBool (a := b.all (· == 0)) (b := b.all (· == 0)) (r := true) Try.underlying4 rfl rfl (.inl ⟨rfl, beq_self_eq_true _⟩) ?_)
        exact ⟨hE, rfl⟩
      refine ⟨.det (fun val => (.bool (true))), ⟨fun _ _ hv => rfl, fun _ _ _ _ _ => trivial⟩, fun val h_ W hx he => ⟨trivial, ?_⟩, ?_⟩
      · replace hx := (Upd.drew _ _).trans hx
        replace hb := hb.ext hx
        replace hs := hs.ext hx
        replace hB1 := hB1.ext hx
        replace hB2 := hB2.ext hx
        replace hr7 := hr7.ext hx
        replace hr8 := hr8.ext hx
        replace hs9 := hs9.ext hx
        replace hr9 := hr9.ext hx
        replace hs10 := hs10.ext hx
        replace hr10 := hr10.ext hx
        replace hB15 := hB15.ext hx
        replace hB18 := hB18.ext hx
        have hE := Upd.refl (fun _ => False) W
        obtain ⟨hV25, he⟩ := he
        obtain ⟨hV22, he⟩ := he
        obtain ⟨hV16, he⟩ := he
        obtain ⟨hV12, he⟩ := he
        refine id (X_pick (t := true) (v := (.bool (true))) rfl rfl ?_)
        exact ⟨hE, rfl⟩
      refine ⟨.det (fun val => (.bool (true))), ⟨fun _ _ hv => rfl, fun _ _ _ _ _ => trivial⟩, fun val h_ W hx he => ⟨trivial, ?_⟩, ?_⟩
      · replace hx := (Upd.drew _ _).trans hx
        replace hb := hb.ext hx
        replace hs := hs.ext hx
        replace hB1 := hB1.ext hx
        replace hB2 := hB2.ext hx
        replace hr7 := hr7.ext hx
        replace hr8 := hr8.ext hx
        replace hs9 := hs9.ext hx
        replace hr9 := hr9.ext hx
        replace hs10 := hs10.ext hx
        replace hr10 := hr10.ext hx
        replace hB15 := hB15.ext hx
        replace hB18 := hB18.ext hx
        have hE := Upd.refl (fun _ => False) W
        obtain ⟨hV25, he⟩ := he
        obtain ⟨hV22, he⟩ := he
        obtain ⟨hV16, he⟩ := he
        obtain ⟨hV12, he⟩ := he
        refine id (X_move (v := (.bool (true))) rfl ?_)
        exact ⟨hE, rfl⟩
      refine ⟨.det (fun val => (.agg (((o_).map byteV)).toArray)), ⟨fun _ _ hv => rfl, fun _ _ _ _ _ => trivial⟩, fun val h_ W hx he => ⟨⟨144, rfl, rfl⟩, ?_⟩, ?_⟩
      · replace hx := (Upd.drew _ _).trans hx
        replace hb := hb.ext hx
        replace hs := hs.ext hx
        replace hB1 := hB1.ext hx
        replace hB2 := hB2.ext hx
        replace hr7 := hr7.ext hx
        replace hr8 := hr8.ext hx
        replace hs9 := hs9.ext hx
        replace hr9 := hr9.ext hx
        replace hs10 := hs10.ext hx
        replace hr10 := hr10.ext hx
        replace hB15 := hB15.ext hx
        replace hB18 := hB18.ext hx
        have hE := Upd.refl (fun _ => False) W
        obtain ⟨hV25, he⟩ := he
        obtain ⟨hV22, he⟩ := he
        obtain ⟨hV16, he⟩ := he
        obtain ⟨hV12, he⟩ := he
        refine id (X_loadA (p := (ptr b1 (0))) (xs := ((o_).map byteV)) A24 rfl hB1.atAll (by rw [List.length_map]; exact ho) ?_)
        exact ⟨hE, rfl⟩
      refine ⟨.det (fun val => (.agg (((n_).map byteV)).toArray)), ⟨fun _ _ hv => rfl, fun _ _ _ _ _ => trivial⟩, fun val h_ W hx he => ⟨⟨144, rfl, rfl⟩, ?_⟩, ?_⟩
      · replace hx := (Upd.drew _ _).trans hx
        replace hb := hb.ext hx
        replace hs := hs.ext hx
        replace hB1 := hB1.ext hx
        replace hB2 := hB2.ext hx
        replace hr7 := hr7.ext hx
        replace hr8 := hr8.ext hx
        replace hs9 := hs9.ext hx
        replace hr9 := hr9.ext hx
        replace hs10 := hs10.ext hx
        replace hr10 := hr10.ext hx
        replace hB15 := hB15.ext hx
        replace hB18 := hB18.ext hx
        have hE := Upd.refl (fun _ => False) W
        obtain ⟨hV25, he⟩ := he
        obtain ⟨hV22, he⟩ := he
        obtain ⟨hV16, he⟩ := he
        obtain ⟨hV12, he⟩ := he
        refine id (X_loadA (p := (ptr b2 (0))) (xs := ((n_).map byteV)) A24 rfl hB2.atAll (by rw [List.length_map]; exact hn) ?_)
        exact ⟨hE, rfl⟩
      refine ⟨.det (fun val => (.agg (((halvesL o_ n_).map byteV)).toArray)), ⟨fun _ _ hv => rfl, fun _ _ _ _ _ => trivial⟩, fun val h_ W hx he => ⟨⟨144, rfl, rfl⟩, ?_⟩, ?_⟩
      · replace hx := (Upd.drew _ _).trans hx
        replace hb := hb.ext hx
        replace hs := hs.ext hx
        replace hB1 := hB1.ext hx
        replace hB2 := hB2.ext hx
        replace hr7 := hr7.ext hx
        replace hr8 := hr8.ext hx
        replace hs9 := hs9.ext hx
        replace hr9 := hr9.ext hx
        replace hs10 := hs10.ext hx
        replace hr10 := hr10.ext hx
        replace hB15 := hB15.ext hx
        replace hB18 := hB18.ext hx
        have hE := Upd.refl (fun _ => False) W
        obtain ⟨hV25, he⟩ := he
        obtain ⟨hV22, he⟩ := he
        obtain ⟨hV16, he⟩ := he
        obtain ⟨hV12, he⟩ := he
        refine id (X_fn (vs := [(.agg (((o_).map byteV)).toArray), (.agg (((n_).map byteV)).toArray)]) en10 rfl (CT.mono (c_halves o_ n_ _ ho hn) ?_))
        rintro _ w23 ⟨rfl, hu23⟩
        have hz23 := hu23.size
        replace hb := hb.ext hu23
        replace hs := hs.ext hu23
        replace hB1 := hB1.ext hu23
        replace hB2 := hB2.ext hu23
        replace hr7 := hr7.ext hu23
        replace hr8 := hr8.ext hu23
        replace hs9 := hs9.ext hu23
        replace hr9 := hr9.ext hu23
        replace hs10 := hs10.ext hu23
        replace hr10 := hr10.ext hu23
        replace hB15 := hB15.ext hu23
        replace hB18 := hB18.ext hu23
        replace hE := hE.trans (Ext.upd hu23)
        replace hV25 := hV25.ext hu23
        replace hV22 := hV22.ext hu23
        replace hV16 := hV16.ext hu23
        replace hV12 := hV12.ext hu23
        exact ⟨hE, rfl⟩
      refine ⟨.det (fun val => (.agg (((o_).map byteV)).toArray)), ⟨fun _ _ hv => rfl, fun _ _ _ _ _ => trivial⟩, fun val h_ W hx he => ⟨⟨144, rfl, rfl⟩, ?_⟩, ?_⟩
      · replace hx := (Upd.drew _ _).trans hx
        replace hb := hb.ext hx
        replace hs := hs.ext hx
        replace hB1 := hB1.ext hx
        replace hB2 := hB2.ext hx
        replace hr7 := hr7.ext hx
        replace hr8 := hr8.ext hx
        replace hs9 := hs9.ext hx
        replace hr9 := hr9.ext hx
        replace hs10 := hs10.ext hx
        replace hr10 := hr10.ext hx
        replace hB15 := hB15.ext hx
        replace hB18 := hB18.ext hx
        have hE := Upd.refl (fun _ => False) W
        obtain ⟨hV25, he⟩ := he
        obtain ⟨hV22, he⟩ := he
        obtain ⟨hV16, he⟩ := he
        obtain ⟨hV12, he⟩ := he
        refine id (X_loadA (p := (ptr b1 (0))) (xs := ((o_).map byteV)) A24 rfl hB1.atAll (by rw [List.length_map]; exact ho) ?_)
        exact ⟨hE, rfl⟩
      refine ⟨.det (fun val => (.agg (((n_).map byteV)).toArray)), ⟨fun _ _ hv => rfl, fun _ _ _ _ _ => trivial⟩, fun val h_ W hx he => ⟨⟨144, rfl, rfl⟩, ?_⟩, ?_⟩
      · replace hx := (Upd.drew _ _).trans hx
        replace hb := hb.ext hx
        replace hs := hs.ext hx
        replace hB1 := hB1.ext hx
        replace hB2 := hB2.ext hx
        replace hr7 := hr7.ext hx
        replace hr8 := hr8.ext hx
        replace hs9 := hs9.ext hx
        replace hr9 := hr9.ext hx
        replace hs10 := hs10.ext hx
        replace hr10 := hr10.ext hx
        replace hB15 := hB15.ext hx
        replace hB18 := hB18.ext hx
        have hE := Upd.refl (fun _ => False) W
        obtain ⟨hV25, he⟩ := he
        obtain ⟨hV22, he⟩ := he
        obtain ⟨hV16, he⟩ := he
        obtain ⟨hV12, he⟩ := he
        refine id (X_loadA (p := (ptr b2 (0))) (xs := ((n_).map byteV)) A24 rfl hB2.atAll (by rw [List.length_map]; exact hn) ?_)
        exact ⟨hE, rfl⟩
      intro val W20 hx20 he20
      replace hx20 := (Upd.drew _ _).trans hx20
      have hz20 := hx20.size
      replace hb := hb.ext hx20
      replace hs := hs.ext hx20
      replace hU := hU.trans (Ext.upd hx20)
      replace hB1 := hB1.ext hx20
      replace hB2 := hB2.ext hx20
      replace hr7 := hr7.ext hx20
      replace hr8 := hr8.ext hx20
      replace hs9 := hs9.ext hx20
      replace hr9 := hr9.ext hx20
      replace hs10 := hs10.ext hx20
      replace hr10 := hr10.ext hx20
      replace hB15 := hB15.ext hx20
      replace hB18 := hB18.ext hx20
      obtain ⟨hV25, he20⟩ := he20
      obtain ⟨hV22, he20⟩ := he20
      obtain ⟨hV16, he20⟩ := he20
      obtain ⟨hV12, he20⟩ := he20
      refine L_gy (dj := 144) rfl rfl rfl (X_fn (vs := [(.agg (((o_).map byteV)).toArray), (.agg (((n_).map byteV)).toArray)]) en23 rfl (CT.mono (c_halvesR o_ n_ _ ho hn) ?_))
      rintro _ w24 ⟨rfl, hu24⟩
      have hz24 := hu24.size
      replace hb := hb.ext hu24
      replace hs := hs.ext hu24
      replace hU := hU.trans (Ext.upd hu24)
      replace hB1 := hB1.ext hu24
      replace hB2 := hB2.ext hu24
      replace hr7 := hr7.ext hu24
      replace hr8 := hr8.ext hu24
      replace hs9 := hs9.ext hu24
      replace hr9 := hr9.ext hu24
      replace hs10 := hs10.ext hu24
      replace hr10 := hr10.ext hu24
      replace hB15 := hB15.ext hu24
      replace hB18 := hB18.ext hu24
      replace hV12 := hV12.ext hu24
      replace hV16 := hV16.ext hu24
      replace hV22 := hV22.ext hu24
      replace hV25 := hV25.ext hu24
      refine L_gy (dj := 144) rfl rfl rfl (X_eqA (n := 256) (l := halvesL o_ n_) (m := halvesL o_ n_) (r := true) Try.underlying24 Try.underlying5 (by kernel_rfl) (by kernel_rfl) (by kernel_rfl) rfl rfl (halvesL_length ho hn) (halvesL_length ho hn) (.inl ⟨rfl, (beq_self_eq_true _)⟩) ?_)
      refine L_op rfl (X_pick (t := true) (v := (.bool (true))) rfl rfl ?_)
      refine L_op rfl (X_move (v := (.bool (true))) rfl ?_)
      refine L_gy (dj := 153) rfl rfl rfl (X_fn (vs := []) en8 rfl (CT.mono (c_wakes _) ?_))
      rintro vb25 w25 ⟨hvb25, hu25⟩
      have hz25 := hu25.size
      replace hb := hb.ext hu25
      replace hs := hs.ext hu25
      replace hU := hU.trans (Ext.upd hu25)
      replace hB1 := hB1.ext hu25
      replace hB2 := hB2.ext hu25
      replace hr7 := hr7.ext hu25
      replace hr8 := hr8.ext hu25
      replace hs9 := hs9.ext hu25
      replace hr9 := hr9.ext hu25
      replace hs10 := hs10.ext hu25
      replace hr10 := hr10.ext hu25
      replace hB15 := hB15.ext hu25
      replace hB18 := hB18.ext hu25
      replace hV12 := hV12.ext hu25
      replace hV16 := hV16.ext hu25
      replace hV22 := hV22.ext hu25
      replace hV25 := hV25.ext hu25
      subst hvb25
      refine L_op rfl (X_pick (t := true) (v := (.bool (true))) rfl rfl ?_)
      refine L_op rfl (X_assign (v := (.bool (true))) rfl ?_)
      refine L_nil ?_
      refine T_n ?_
      refine W_ret ?_
      exact BQ_r (End_1 Try.results7 (v := .bool true) rfl ⟨rfl, hU.own hn0⟩)
end Go.Proofs.Ytaalnnjdiaekdaa
