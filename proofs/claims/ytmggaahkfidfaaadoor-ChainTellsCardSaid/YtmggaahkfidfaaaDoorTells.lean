/-
  The walk of ChainTells, the reference Cut. (Printed by wip/gen/t08u.py of this repo.)
-/
import Derived.Test.YtmggaahkfidfaaaDoorRefsD
namespace Go.Proofs.YtmggaahkfidfaaaDoor
open Go Go.SL Go.Proofs
set_option linter.unusedVariables false

theorem c_cutR (s : Value) (l : List UInt8) (w : World) (hlb : l.length ≤ 1099511627776) (hs : Rd w 1 s l.length (l.map byteV)) : CT Tryd.prog 16 #[s] w fun v w' => ∃ es, NOwn LB w' 22 5 w.heap.size w'.heap.size v es ∧ es.map (·.2) = (List.range (pcN l)).map (pcL l) ∧ Ext w w' := by
  obtain ⟨n0, hn0⟩ : ∃ n, n = w.heap.size := ⟨_, rfl⟩
  have hU : Upd (fun i => n0 ≤ i) w w := Upd.refl _ _
  have hs_b : ∀ i, rbk s = some i → i < n0 := by rw [hn0]; exact fun i hi => hs.bound (by decide) hi
  refine CT_of Tryd.func16 rfl rfl rfl ?_
  refine W_seq ?_
  refine W_reg ?_
  refine L_op rfl (X_assign (v := (.slice none 0 0)) rfl ?_)
  refine L_nil ?_
  refine T_n ?_
  refine W_seq ?_
  refine W_reg ?_
  refine L_op rfl (X_assign (v := (.slice none 0 0)) rfl ?_)
  refine L_nil ?_
  refine T_n ?_
  refine W_seq ?_
  refine W_seq ?_
  refine W_reg ?_
  refine L_op rfl (X_assign (v := (.int .i64 (0))) rfl ?_)
  refine L_nil ?_
  refine T_n ?_
  refine W_block ?_
  refine W_loop (α := Nat × Value × List BE) [3, 4, 5, 6, 7, 8, 9, 10, 11, 12, 13, 14, 15, 16, 17, 18, 19, 20, 21, 22, 23] (fun ⟨i, u, es⟩ => [(4, (.int .i64 (((200 * i : Nat) : Int)))), (3, u)]) (fun ⟨i, u, es⟩ w_ => i ≤ pcN l ∧ NOwn LB w_ 22 5 n0 w_.heap.size u es ∧ es.map (·.2) = (List.range i).map (pcL l) ∧ Rd w_ 1 s l.length (l.map byteV) ∧ Upd (fun i => n0 ≤ i) w w_) (fun ⟨i, u, es⟩ => pcN l - i) ⟨rfl, (0, .slice none 0 0, []), ⟨Nat.zero_le _, NOwn.nil _ _ _ _ _, rfl, hs, hU⟩, Out.refl _ _, ⟨rfl, rfl, trivial⟩⟩ ?_
  rintro ⟨i, u, es⟩ w1 _ ⟨hil, hN, hes, hs, hU⟩
  have hsz_ := hU.size
  obtain ⟨s0, hs0⟩ : ∃ n, n = w1.heap.size := ⟨_, rfl⟩
  rw [← hs0] at hN
  have hel : es.length = i := by have h := congrArg List.length hes; rw [List.length_map, List.length_map, List.length_range] at h; exact h
  have hmx1 := hs.len
  refine W_seq ?_
  refine W_seq ?_
  refine W_reg ?_
  refine L_op rfl (X_move (v := (.int .i64 (((200 * i : Nat) : Int)))) rfl ?_)
  refine L_op rfl (X_move (v := s) rfl ?_)
  refine L_op rfl (X_len (v := s) (n := l.length) Tryd.underlying22 rfl hs.sv ?_)
  by_cases hc2 : (((200 * i : Nat) : Int) : Int) < (((l.length : Nat) : Int))
  · refine L_op rfl (X_cmp (k := .i64) (a := ((200 * i : Nat) : Int)) (b := ((l.length : Nat) : Int)) (r := true) rfl rfl rfl (decide_eq_true (p := ((((200 * i : Nat) : Int)) : Int) < ((((l.length : Nat) : Int)) : Int)) (by omega)) ?_)
    have hk : i < pcN l := pcN_lt.2 (by omega)
    have hpl := pcL_len l i
    refine L_nil ?_
    refine T_n ?_
    refine W_ct rfl ?_
    refine W_skip ?_
    refine T_n ?_
    refine W_seq ?_
    refine W_block ?_
    refine W_reg ?_
    refine L_op rfl (X_move (v := u) rfl ?_)
    refine L_op rfl (X_buildSlice1 (vs := []) S22 (by decide) rfl rfl (fun _ h => by cases h) ?_)
    intro b3 w3 hn3
    have hbn3 := hn3.num; have hbs3 := hn3.size
    replace hN := hN.ext hn3.ext
    replace hs := hs.ext hn3.ext
    replace hU := hU.trans (Ext.upd hn3.ext)
    have hB3 := hn3.blk
    refine L_op rfl (X_move (v := s) rfl ?_)
    refine L_op rfl (X_move (v := (.int .i64 (((200 * i : Nat) : Int)))) rfl ?_)
    refine L_op rfl (X_move (v := (.int .i64 (((200 * i : Nat) : Int)))) rfl ?_)
    refine L_op rfl (X_arith (k := .i64) (a := ((200 * i : Nat) : Int)) (b := 200) (r := ((200 * i + 200 : Nat) : Int)) rfl rfl rfl (iadd64 (by omega) (by omega) (by omega)) ?_)
    refine L_op rfl (X_move (v := s) rfl ?_)
    refine L_op rfl (X_len (v := s) (n := l.length) Tryd.underlying22 rfl hs.sv ?_)
    refine L_op rfl (X_min (k := .i64) (a := ((200 * i + 200 : Nat) : Int)) (b := ((l.length : Nat) : Int)) (r := (((200 * i + (pcL l i).length) : Nat) : Int)) rfl rfl (by rw [hpl]; (first | omega | (split <;> omega))) ?_)
    refine L_op rfl (X_slice (n := l.length) (l := 200 * i) (h' := (200 * i + (pcL l i).length)) (kl := .i64) (kh := .i64) S22 rfl hs.sv rfl rfl (Nat.le_add_right _ _) (by omega) ?_)
    have hpc : Rd w3 1 (cutv s 1 (200 * i) (200 * i + (pcL l i).length)) (pcL l i).length ((pcL l i).map byteV) := hs.cutB (lo := 200 * i) (hi := (200 * i + (pcL l i).length)) (Nat.le_add_right _ _) (by omega) (by rw [Nat.add_sub_cancel_left]; unfold pcL; rw [List.length_take, List.take_eq_take_iff, List.length_drop]; omega)
    refine L_op rfl (X_append (B := s0) (s := (.slice (some ⟨b3, 0, none⟩) 0 0)) (x := (cutv s 1 (200 * i) (200 * i + (pcL l i).length))) S22 ⟨_, Tryd.underlying22⟩ rfl rfl (Own.zero _ _ _ _ _) hpc (byteV_one _) (by unfold maxLen; omega) (by omega) (by omega) ?_)
    intro va wa hOa hua _
    replace hOa := hOa.eq (Nat.zero_add _) (List.nil_append _)
    have hza := hua.nobk.size
    replace hN := hN.ext hua.nobk
    replace hs := hs.ext hua.nobk
    replace hU := hU.trans (Ext.upd hua.nobk)
    have hOa_b : ∀ b, obk va = some b → s0 ≤ b ∧ b < wa.heap.size := fun b hb => hOa.lt hb
    refine L_op rfl (X_buildSlice1 (vs := [va]) S41 (by decide) rfl rfl (List.forall_mem_cons.2 ⟨(hOa.sv.cells), (fun _ h => by cases h)⟩) ?_)
    intro b4 w4 hn4
    have hbn4 := hn4.num; have hbs4 := hn4.size
    replace hN := hN.ext hn4.ext
    replace hs := hs.ext hn4.ext
    replace hU := hU.trans (Ext.upd hn4.ext)
    replace hOa := hOa.ext hn4.ext
    have hB4 := hn4.blk
    refine L_op rfl (X_append (B := n0) (n := es.length) (s := u) (x := (.slice (some ⟨b4, 0, none⟩) 1 1)) S41 ⟨_, Tryd.underlying41⟩ rfl rfl hN.1 (m := 1) (ys := [va]) (hB4.rd (o := 0) (n := 1) (c := 1) (sz := 1) (by decide) (by decide) rfl (fun j u hj => by rw [Nat.zero_add]; simpa using hj)) (List.forall_mem_cons.2 ⟨hOa.sv.one, fun _ h => by cases h⟩) (by unfold maxLen; omega) (by omega) (by omega) ?_)
    intro v5 w5 hO5 hu5 ho5
    have hz5 := hu5.size
    have hN5 := NOwn.push (L := LB) (e := ((va, (pcL l i)) : BE)) (hi' := w4.heap.size) (by decide) hN hO5 hu5 (fun s_ hs_ => by have h1 : s_ = ((va, (pcL l i)) : BE) := by { simpa [LB] using hs_ }; subst h1; exact ⟨hOa.more (by omega), fun b hb => (hOa.lt hb).2⟩) (by omega) (by omega)
    replace hs := hs.upd hu5 fun b hb h => by have h1 := hs_b b hb; have := (hN.1.lt h).1; omega
    replace hU := hU.trans (hu5.mono fun i _ h => by have := (hN.1.lt h).1; show n0 ≤ i; omega)
    refine L_op rfl (X_assign (v := v5) rfl ?_)
    refine L_nil ?_
    refine B_n ?_
    refine T_n ?_
    refine W_reg ?_
    refine L_op rfl (X_move (v := (.int .i64 (((200 * i : Nat) : Int)))) rfl ?_)
    refine L_op rfl (X_arith (k := .i64) (a := ((200 * i : Nat) : Int)) (b := 200) (r := ((200 * (i + 1) : Nat) : Int)) rfl rfl rfl (iadd64 (by omega) (by omega) (by omega)) ?_)
    refine L_op rfl (X_assign (v := (.int .i64 (((200 * (i + 1) : Nat) : Int)))) rfl ?_)
    refine L_nil ?_
    refine T_n ?_
    exact ⟨rfl, (i + 1, v5, es ++ [((va, (pcL l i)) : BE)]), ⟨⟨hk, hN5, by rw [List.map_append, hes, List.range_succ, List.map_append]; rfl, hs, hU⟩, (by show pcN l - (i + 1) < pcN l - i; omega)⟩, (Out.mk rfl), ⟨rfl, rfl, trivial⟩⟩
  · refine L_op rfl (X_cmp (k := .i64) (a := ((200 * i : Nat) : Int)) (b := ((l.length : Nat) : Int)) (r := false) rfl rfl rfl (decide_eq_false (p := ((((200 * i : Nat) : Int)) : Int) < ((((l.length : Nat) : Int)) : Int)) (by omega)) ?_)
    obtain rfl : i = pcN l := by have := pcN_lt (l := l) (k := i); omega
    refine L_nil ?_
    refine T_n ?_
    refine W_cf rfl ?_
    refine W_exit ?_
    refine T_e ?_
    refine T_e ?_
    refine B_x ?_
    refine T_n ?_
    refine W_seq ?_
    refine W_reg ?_
    refine L_op rfl (X_move (v := u) rfl ?_)
    refine L_op rfl (X_assign (v := u) rfl ?_)
    refine L_nil ?_
    refine T_n ?_
    refine W_ret ?_
    exact BQ_r (End_1 Tryd.results16 (v := u) rfl ⟨es, hN.mono (by omega) (by omega), hes, hU.own hn0⟩)

set_option maxRecDepth 10000 in
set_option maxHeartbeats 2000000 in
theorem c_chainTells (b : Value) (l : List UInt8) (q : Pt) (p : List UInt8) (n : Int) (w : World) (hq : PtOk q) (hp : p.length = 256) (hn : n < 9223372036854775808) (hb : Rd w 1 b l.length (l.map byteV)) (hT : TabR w) : CT Tryd.prog 5 #[b, (.agg (ptC q).toArray), (.agg ((p).map byteV).toArray), (.int .i64 (n))] w fun v w' => v = .bool true ∧ Ext w w' := by
  obtain ⟨n0, hn0⟩ : ∃ n, n = w.heap.size := ⟨_, rfl⟩
  have hU : Upd (fun i => n0 ≤ i) w w := Upd.refl _ _
  have hb_b : ∀ i, rbk b = some i → i < n0 := by rw [hn0]; exact fun i hi => hb.bound (by decide) hi
  have hn1 := tab_pos hT
  refine CT_of Tryd.func5 rfl rfl rfl ?_
  refine W_seq ?_
  refine W_reg ?_
  refine L_op rfl (X_box (v := (.agg (ptC q).toArray)) (c := ((ptC q)).toArray) rfl rfl ?_)
  intro b1 w1 hn1
  have hbn1 := hn1.num; have hbs1 := hn1.size
  replace hb := hb.ext hn1.ext
  replace hU := hU.trans (Ext.upd hn1.ext)
  replace hT := hT.ext hn1.ext
  have hB1 := hn1.blk
  refine L_op rfl (X_box (v := (.agg ((p).map byteV).toArray)) (c := ((p).map byteV).toArray) rfl rfl ?_)
  intro b2 w2 hn2
  have hbn2 := hn2.num; have hbs2 := hn2.size
  replace hb := hb.ext hn2.ext
  replace hU := hU.trans (Ext.upd hn2.ext)
  replace hT := hT.ext hn2.ext
  replace hB1 := hB1.ext hn2.ext
  have hB2 := hn2.blk
  refine L_op rfl (X_assign (v := (.bool (false))) rfl ?_)
  refine L_nil ?_
  refine T_n ?_
  refine W_seq ?_
  refine W_seq ?_
  refine W_reg ?_
  refine L_op rfl (X_move (v := b) rfl ?_)
  refine L_op rfl (X_len (v := b) (n := l.length) Tryd.underlying22 rfl hb.sv ?_)
  by_cases hc3 : (((l.length : Nat) : Int) : Int) > (700)
  · refine L_op rfl (X_cmp (k := .i64) (a := ((l.length : Nat) : Int)) (b := 700) (r := true) rfl rfl rfl (decide_eq_true (p := ((700) : Int) < ((((l.length : Nat) : Int)) : Int)) (by omega)) ?_)
    refine L_nil ?_
    refine T_n ?_
    refine W_ct rfl ?_
    refine W_seq ?_
    refine W_reg ?_
    refine L_op rfl (X_fn (vs := []) en7 rfl (CT.mono (c_wakes _ hT) ?_))
    rintro vb4 w4 ⟨hvb4, hu4⟩
    have hz4 := hu4.size
    replace hb := hb.ext hu4
    replace hU := hU.trans (Ext.upd hu4)
    replace hT := hT.ext hu4
    replace hB1 := hB1.ext hu4
    replace hB2 := hB2.ext hu4
    subst hvb4
    refine L_op rfl (X_assign (v := (.bool (true))) rfl ?_)
    refine L_nil ?_
    refine T_n ?_
    refine W_ret ?_
    refine T_r ?_
    exact BQ_r (End_1 Tryd.results5 (v := .bool true) rfl ⟨rfl, hU.own hn0⟩)
  · refine L_op rfl (X_cmp (k := .i64) (a := ((l.length : Nat) : Int)) (b := 700) (r := false) rfl rfl rfl (decide_eq_false (p := ((700) : Int) < ((((l.length : Nat) : Int)) : Int)) (by omega)) ?_)
    refine L_nil ?_
    refine T_n ?_
    refine W_cf rfl ?_
    refine W_skip ?_
    refine T_n ?_
    refine W_seq ?_
    refine W_reg ?_
    refine L_op rfl (X_move (v := b) rfl ?_)
    refine L_op rfl (X_loadA (p := (ptr b1 (0))) (xs := ptC q) A28 rfl hB1.atAll rfl ?_)
    refine L_op rfl (X_fn (vs := [b, (.agg (ptC q).toArray)]) en8 rfl (CT.mono (c_encode b l q _ hq hb hT) ?_))
    rintro _ w5 ⟨rfl, hu5⟩
    have hz5 := hu5.size
    replace hb := hb.ext hu5
    replace hU := hU.trans (Ext.upd hu5)
    replace hT := hT.ext hu5
    replace hB1 := hB1.ext hu5
    replace hB2 := hB2.ext hu5
    refine L_op rfl (X_move (v := (.tuple #[(.agg (((encP l q)).map byteV).toArray), (.int .i64 ((encE l q)))])) rfl ?_)
    refine L_op rfl (X_extract (l := [(.agg (((encP l q)).map byteV).toArray), (.int .i64 ((encE l q)))]) (v := (.agg (((encP l q)).map byteV).toArray)) rfl rfl ?_)
    refine L_op rfl (X_extract (l := [(.agg (((encP l q)).map byteV).toArray), (.int .i64 ((encE l q)))]) (v := (.int .i64 ((encE l q)))) rfl rfl ?_)
    refine L_op rfl (X_alloc (z := zv30) (c := zc30.toArray) Zv30 rfl ?_)
    intro b6 w6 hn6
    have hbn6 := hn6.num; have hbs6 := hn6.size
    replace hb := hb.ext hn6.ext
    replace hU := hU.trans (Ext.upd hn6.ext)
    replace hT := hT.ext hn6.ext
    replace hB1 := hB1.ext hn6.ext
    replace hB2 := hB2.ext hn6.ext
    have hB6 := hn6.blk
    rw [zc30_eq] at hB6
    refine L_op0 (X_storeW (b := b6) (ys := (((encP l q)).map byteV)) A30 rfl rfl (byteV_one _) (by rw [List.length_map]; exact (encP_len _ _)) hB6 (by rw [List.size_toArray]; exact (by rw [List.length_map]; exact List.length_replicate)) ?_)
    intro w7 hu7 hb7
    have hz7 := hu7.size
    replace hb := hb.upd hu7 fun i hi h => by have hi := hb_b _ hi; have h : i = b6 := h; omega
    replace hU := hU.trans (hu7.mono fun i _ h => by have h : i = b6 := h; show n0 ≤ i; omega)
    replace hT := hT.upd hu7 fun i h1 h2 h => by have h : i = b6 := h; omega
    replace hB1 := hB1.upd hu7 fun h => by have h : b1 = b6 := h; omega
    replace hB2 := hB2.upd hu7 fun h => by have h : b2 = b6 := h; omega
    replace hB6 := hb7
    refine L_op rfl (X_assign (v := (.int .i64 ((encE l q)))) rfl ?_)
    refine L_nil ?_
    refine T_n ?_
    refine W_seq ?_
    refine W_reg ?_
    refine L_op rfl (X_move (v := b) rfl ?_)
    refine L_op rfl (X_loadA (p := (ptr b1 (0))) (xs := ptC q) A28 rfl hB1.atAll rfl ?_)
    refine L_op rfl (X_fn (vs := [b, (.agg (ptC q).toArray)]) en11 rfl (CT.mono (c_encodeR b l q _ hq hb) ?_))
    rintro _ w8 ⟨rfl, hu8⟩
    have hz8 := hu8.size
    replace hb := hb.ext hu8
    replace hU := hU.trans (Ext.upd hu8)
    replace hT := hT.ext hu8
    replace hB1 := hB1.ext hu8
    replace hB2 := hB2.ext hu8
    replace hB6 := hB6.ext hu8
    refine L_op rfl (X_move (v := (.tuple #[(.agg (((encP l q)).map byteV).toArray), (.int .i64 ((encE l q)))])) rfl ?_)
    refine L_op rfl (X_extract (l := [(.agg (((encP l q)).map byteV).toArray), (.int .i64 ((encE l q)))]) (v := (.agg (((encP l q)).map byteV).toArray)) rfl rfl ?_)
    refine L_op rfl (X_extract (l := [(.agg (((encP l q)).map byteV).toArray), (.int .i64 ((encE l q)))]) (v := (.int .i64 ((encE l q)))) rfl rfl ?_)
    refine L_op rfl (X_alloc (z := zv30) (c := zc30.toArray) Zv30 rfl ?_)
    intro b9 w9 hn9
    have hbn9 := hn9.num; have hbs9 := hn9.size
    replace hb := hb.ext hn9.ext
    replace hU := hU.trans (Ext.upd hn9.ext)
    replace hT := hT.ext hn9.ext
    replace hB1 := hB1.ext hn9.ext
    replace hB2 := hB2.ext hn9.ext
    replace hB6 := hB6.ext hn9.ext
    have hB9 := hn9.blk
    rw [zc30_eq] at hB9
    refine L_op0 (X_storeW (b := b9) (ys := (((encP l q)).map byteV)) A30 rfl rfl (byteV_one _) (by rw [List.length_map]; exact (encP_len _ _)) hB9 (by rw [List.size_toArray]; exact (by rw [List.length_map]; exact List.length_replicate)) ?_)
    intro w10 hu10 hb10
    have hz10 := hu10.size
    replace hb := hb.upd hu10 fun i hi h => by have hi := hb_b _ hi; have h : i = b9 := h; omega
    replace hU := hU.trans (hu10.mono fun i _ h => by have h : i = b9 := h; show n0 ≤ i; omega)
    replace hT := hT.upd hu10 fun i h1 h2 h => by have h : i = b9 := h; omega
    replace hB1 := hB1.upd hu10 fun h => by have h : b1 = b9 := h; omega
    replace hB2 := hB2.upd hu10 fun h => by have h : b2 = b9 := h; omega
    replace hB6 := hB6.upd hu10 fun h => by have h : b6 = b9 := h; omega
    replace hB9 := hb10
    refine L_op rfl (X_assign (v := (.int .i64 ((encE l q)))) rfl ?_)
    refine L_nil ?_
    refine T_n ?_
    refine W_seq ?_
    refine W_reg ?_
    refine L_op rfl (X_loadA (p := (ptr b2 (0))) (xs := ((p).map byteV)) A30 rfl hB2.atAll (by rw [List.length_map]; exact hp) ?_)
    obtain ⟨sD11, hsD11⟩ : ∃ n, n = w10.heap.size := ⟨_, rfl⟩
    refine L_op rfl (X_fn (vs := [(.agg (((p).map byteV)).toArray)]) en10 rfl (CT.mono (c_decode p _ hp hT) ?_))
    rintro _ w11 ⟨s11, rfl, hO11, hu11⟩
    have hz11 := hu11.size
    rw [← hsD11] at hO11
    replace hb := hb.ext hu11
    replace hU := hU.trans (Ext.upd hu11)
    replace hT := hT.ext hu11
    replace hB1 := hB1.ext hu11
    replace hB2 := hB2.ext hu11
    replace hB6 := hB6.ext hu11
    replace hB9 := hB9.ext hu11
    have hO11_c : ∀ b, obk s11 = some b → sD11 ≤ b ∧ b < w11.heap.size := fun b hb => hO11.lt hb
    refine L_op rfl (X_move (v := (.tuple #[s11, (.agg (ptC (decN p)).toArray), (.int .i64 ((decE p)))])) rfl ?_)
    refine L_op rfl (X_extract (l := [s11, (.agg (ptC (decN p)).toArray), (.int .i64 ((decE p)))]) (v := s11) rfl rfl ?_)
    refine L_op rfl (X_extract (l := [s11, (.agg (ptC (decN p)).toArray), (.int .i64 ((decE p)))]) (v := (.agg (ptC (decN p)).toArray)) rfl rfl ?_)
    refine L_op rfl (X_extract (l := [s11, (.agg (ptC (decN p)).toArray), (.int .i64 ((decE p)))]) (v := (.int .i64 ((decE p)))) rfl rfl ?_)
    refine L_op rfl (X_alloc (z := (.agg #[(.int .u8 (0)), (.int .u16 (0)), (.int .u16 (0)), (.int .u32 (0)), (.int .u64 (0))])) (c := #[(.int .u8 (0)), (.int .u16 (0)), (.int .u16 (0)), (.int .u32 (0)), (.int .u64 (0))]) Zv28 rfl ?_)
    intro b12 w12 hn12
    have hbn12 := hn12.num; have hbs12 := hn12.size
    replace hb := hb.ext hn12.ext
    replace hU := hU.trans (Ext.upd hn12.ext)
    replace hT := hT.ext hn12.ext
    replace hB1 := hB1.ext hn12.ext
    replace hB2 := hB2.ext hn12.ext
    replace hB6 := hB6.ext hn12.ext
    replace hB9 := hB9.ext hn12.ext
    replace hO11 := hO11.ext hn12.ext
    have hB12 := hn12.blk
    refine L_op rfl (X_assign (v := s11) rfl ?_)
    refine L_op0 (X_storeW (b := b12) (ys := [(.int .u8 ((decN p).1)), (.int .u16 ((decN p).2.1)), (.int .u16 ((decN p).2.2.1)), (.int .u32 ((decN p).2.2.2.1)), (.int .u64 ((decN p).2.2.2.2))]) A28 rfl rfl (List.forall_mem_cons.2 ⟨rfl, (List.forall_mem_cons.2 ⟨rfl, (List.forall_mem_cons.2 ⟨rfl, (List.forall_mem_cons.2 ⟨rfl, (List.forall_mem_cons.2 ⟨rfl, (fun _ h => by cases h)⟩)⟩)⟩)⟩)⟩) rfl hB12 rfl ?_)
    intro w13 hu13 hb13
    have hz13 := hu13.size
    replace hb := hb.upd hu13 fun i hi h => by have hi := hb_b _ hi; have h : i = b12 := h; omega
    replace hU := hU.trans (hu13.mono fun i _ h => by have h : i = b12 := h; show n0 ≤ i; omega)
    replace hT := hT.upd hu13 fun i h1 h2 h => by have h : i = b12 := h; omega
    replace hB1 := hB1.upd hu13 fun h => by have h : b1 = b12 := h; omega
    replace hB2 := hB2.upd hu13 fun h => by have h : b2 = b12 := h; omega
    replace hB6 := hB6.upd hu13 fun h => by have h : b6 = b12 := h; omega
    replace hB9 := hB9.upd hu13 fun h => by have h : b9 = b12 := h; omega
    replace hO11 := hO11.upd hu13 fun i hi h => by have hi := hO11_c _ hi; have h : i = b12 := h; omega
    replace hB12 : Blk w13 b12 #[(.int .u8 ((decN p).1)), (.int .u16 ((decN p).2.1)), (.int .u16 ((decN p).2.2.1)), (.int .u32 ((decN p).2.2.2.1)), (.int .u64 ((decN p).2.2.2.2))] 28 := hb13
    refine L_op rfl (X_assign (v := (.int .i64 ((decE p)))) rfl ?_)
    refine L_nil ?_
    refine T_n ?_
    refine W_seq ?_
    refine W_reg ?_
    refine L_op rfl (X_loadA (p := (ptr b2 (0))) (xs := ((p).map byteV)) A30 rfl hB2.atAll (by rw [List.length_map]; exact hp) ?_)
    obtain ⟨sD14, hsD14⟩ : ∃ n, n = w13.heap.size := ⟨_, rfl⟩
    refine L_op rfl (X_fn (vs := [(.agg (((p).map byteV)).toArray)]) en12 rfl (CT.mono (c_decodeR p _ hp) ?_))
    rintro _ w14 ⟨s14, rfl, hO14, hu14⟩
    have hz14 := hu14.size
    rw [← hsD14] at hO14
    replace hb := hb.ext hu14
    replace hU := hU.trans (Ext.upd hu14)
    replace hT := hT.ext hu14
    replace hB1 := hB1.ext hu14
    replace hB2 := hB2.ext hu14
    replace hB6 := hB6.ext hu14
    replace hB9 := hB9.ext hu14
    replace hO11 := hO11.ext hu14
    replace hB12 := hB12.ext hu14
    have hO14_c : ∀ b, obk s14 = some b → sD14 ≤ b ∧ b < w14.heap.size := fun b hb => hO14.lt hb
    refine L_op rfl (X_move (v := (.tuple #[s14, (.agg (ptC (decN p)).toArray), (.int .i64 ((decE p)))])) rfl ?_)
    refine L_op rfl (X_extract (l := [s14, (.agg (ptC (decN p)).toArray), (.int .i64 ((decE p)))]) (v := s14) rfl rfl ?_)
    refine L_op rfl (X_extract (l := [s14, (.agg (ptC (decN p)).toArray), (.int .i64 ((decE p)))]) (v := (.agg (ptC (decN p)).toArray)) rfl rfl ?_)
    refine L_op rfl (X_extract (l := [s14, (.agg (ptC (decN p)).toArray), (.int .i64 ((decE p)))]) (v := (.int .i64 ((decE p)))) rfl rfl ?_)
    refine L_op rfl (X_alloc (z := (.agg #[(.int .u8 (0)), (.int .u16 (0)), (.int .u16 (0)), (.int .u32 (0)), (.int .u64 (0))])) (c := #[(.int .u8 (0)), (.int .u16 (0)), (.int .u16 (0)), (.int .u32 (0)), (.int .u64 (0))]) Zv28 rfl ?_)
    intro b15 w15 hn15
    have hbn15 := hn15.num; have hbs15 := hn15.size
    replace hb := hb.ext hn15.ext
    replace hU := hU.trans (Ext.upd hn15.ext)
    replace hT := hT.ext hn15.ext
    replace hB1 := hB1.ext hn15.ext
    replace hB2 := hB2.ext hn15.ext
    replace hB6 := hB6.ext hn15.ext
    replace hB9 := hB9.ext hn15.ext
    replace hO11 := hO11.ext hn15.ext
    replace hB12 := hB12.ext hn15.ext
    replace hO14 := hO14.ext hn15.ext
    have hB15 := hn15.blk
    refine L_op rfl (X_assign (v := s14) rfl ?_)
    refine L_op0 (X_storeW (b := b15) (ys := [(.int .u8 ((decN p).1)), (.int .u16 ((decN p).2.1)), (.int .u16 ((decN p).2.2.1)), (.int .u32 ((decN p).2.2.2.1)), (.int .u64 ((decN p).2.2.2.2))]) A28 rfl rfl (List.forall_mem_cons.2 ⟨rfl, (List.forall_mem_cons.2 ⟨rfl, (List.forall_mem_cons.2 ⟨rfl, (List.forall_mem_cons.2 ⟨rfl, (List.forall_mem_cons.2 ⟨rfl, (fun _ h => by cases h)⟩)⟩)⟩)⟩)⟩) rfl hB15 rfl ?_)
    intro w16 hu16 hb16
    have hz16 := hu16.size
    replace hb := hb.upd hu16 fun i hi h => by have hi := hb_b _ hi; have h : i = b15 := h; omega
    replace hU := hU.trans (hu16.mono fun i _ h => by have h : i = b15 := h; show n0 ≤ i; omega)
    replace hT := hT.upd hu16 fun i h1 h2 h => by have h : i = b15 := h; omega
    replace hB1 := hB1.upd hu16 fun h => by have h : b1 = b15 := h; omega
    replace hB2 := hB2.upd hu16 fun h => by have h : b2 = b15 := h; omega
    replace hB6 := hB6.upd hu16 fun h => by have h : b6 = b15 := h; omega
    replace hB9 := hB9.upd hu16 fun h => by have h : b9 = b15 := h; omega
    replace hO11 := hO11.upd hu16 fun i hi h => by have hi := hO11_c _ hi; have h : i = b15 := h; omega
    replace hB12 := hB12.upd hu16 fun h => by have h : b12 = b15 := h; omega
    replace hO14 := hO14.upd hu16 fun i hi h => by have hi := hO14_c _ hi; have h : i = b15 := h; omega
    replace hB15 : Blk w16 b15 #[(.int .u8 ((decN p).1)), (.int .u16 ((decN p).2.1)), (.int .u16 ((decN p).2.2.1)), (.int .u32 ((decN p).2.2.2.1)), (.int .u64 ((decN p).2.2.2.2))] 28 := hb16
    refine L_op rfl (X_assign (v := (.int .i64 ((decE p)))) rfl ?_)
    refine L_nil ?_
    refine T_n ?_
    refine W_seq ?_
    refine W_seq ?_
    refine W_reg ?_
    refine L_op rfl (X_loadA (p := (ptr b6 (0))) (xs := (((encP l q)).map byteV)) A30 rfl hB6.atAll (by rw [List.length_map]; exact (encP_len _ _)) ?_)
    refine L_op rfl (X_loadA (p := (ptr b9 (0))) (xs := (((encP l q)).map byteV)) A30 rfl hB9.atAll (by rw [List.length_map]; exact (encP_len _ _)) ?_)
    refine L_op rfl (X_eqA (n := 256) (l := (encP l q)) (m := (encP l q)) (r := false) Tryd.underlying30 Tryd.underlying5 (by kernel_rfl) (by kernel_rfl) (by kernel_rfl) rfl rfl ((encP_len _ _)) ((encP_len _ _)) (.inr ⟨rfl, by rw [(beq_self_eq_true _)]; rfl⟩) ?_)
    refine L_op rfl (X_move (v := (.bool (false))) rfl ?_)
    refine L_gy (dj := 53) rfl rfl rfl (X_move (v := (.int .i64 ((encE l q)))) rfl ?_)
    refine L_gy (dj := 53) rfl rfl rfl (X_move (v := (.int .i64 ((encE l q)))) rfl ?_)
    refine L_gy (dj := 53) rfl rfl rfl (X_cmp (k := .i64) (a := (encE l q)) (b := (encE l q)) (r := false) rfl rfl rfl (decide_eq_false (p := (((encE l q)) : Int) ≠ (((encE l q)) : Int)) (by omega)) ?_)
    refine L_op rfl (X_pick (t := false) (v := (.bool (false))) rfl rfl ?_)
    refine L_op rfl (X_move (v := (.bool (false))) rfl ?_)
    refine L_gy (dj := 58) rfl rfl rfl (X_move (v := s11) rfl ?_)
    refine L_gy (dj := 58) rfl rfl rfl (X_str (v := s11) (l := (decB p)) Tryd.underlying22 Tryd.underlying5 Tryd.underlying9 rfl hO11.rd ?_)
    refine L_gy (dj := 58) rfl rfl rfl (X_move (v := s14) rfl ?_)
    refine L_gy (dj := 58) rfl rfl rfl (X_str (v := s14) (l := (decB p)) Tryd.underlying22 Tryd.underlying5 Tryd.underlying9 rfl hO14.rd ?_)
    refine L_gy (dj := 58) rfl rfl rfl (X_scmp (a := (decB p)) (b := (decB p)) (r := false) rfl rfl rfl (by simp [scmp]) ?_)
    refine L_op rfl (X_pick (t := false) (v := (.bool (false))) rfl rfl ?_)
    refine L_op rfl (X_move (v := (.bool (false))) rfl ?_)
    refine L_gy (dj := 65) rfl rfl rfl (X_loadA (p := (ptr b12 (0))) (xs := ptC (decN p)) A28 rfl hB12.atAll rfl ?_)
    refine L_gy (dj := 65) rfl rfl rfl (X_loadA (p := (ptr b15 (0))) (xs := ptC (decN p)) A28 rfl hB15.atAll rfl ?_)
    refine L_gy (dj := 65) rfl rfl rfl (X_eqP (p := (decN p)) (q := (decN p)) (r := false) Tryd.underlying28 u28 (by kernel_rfl) (by decide) ⟨rfl, rfl, rfl, rfl⟩ Tryd.underlying5 Tryd.underlying24 (by kernel_rfl) Tryd.underlying23 (ie := _) rfl (by kernel_rfl) Tryd.underlying25 Tryd.underlying26 (by kernel_rfl) rfl rfl (.inr ⟨rfl, by rw [(beq_self_eq_true _)]; rfl⟩) ?_)
    refine L_op rfl (X_pick (t := false) (v := (.bool (false))) rfl rfl ?_)
    refine L_op rfl (X_move (v := (.bool (false))) rfl ?_)
    refine L_gy (dj := 70) rfl rfl rfl (X_move (v := (.int .i64 ((decE p)))) rfl ?_)
    refine L_gy (dj := 70) rfl rfl rfl (X_move (v := (.int .i64 ((decE p)))) rfl ?_)
    refine L_gy (dj := 70) rfl rfl rfl (X_cmp (k := .i64) (a := (decE p)) (b := (decE p)) (r := false) rfl rfl rfl (decide_eq_false (p := (((decE p)) : Int) ≠ (((decE p)) : Int)) (by omega)) ?_)
    refine L_op rfl (X_pick (t := false) (v := (.bool (false))) rfl rfl ?_)
    refine L_op rfl (X_move (v := (.bool (false))) rfl ?_)
    refine L_gy (dj := 75) rfl rfl rfl (X_move (v := (.int .i64 (n))) rfl ?_)
    refine L_gy (dj := 75) rfl rfl rfl (X_fn (vs := [(.int .i64 (n))]) en13 rfl (CT.mono (c_many n _ hn) ?_))
    rintro _ _ ⟨rfl, rfl⟩
    refine L_gy (dj := 75) rfl rfl rfl (X_move (v := (.int .i64 (n))) rfl ?_)
    refine L_gy (dj := 75) rfl rfl rfl (X_fn (vs := [(.int .i64 (n))]) en14 rfl (CT.mono (c_manyR n _ hn) ?_))
    rintro _ _ ⟨rfl, rfl⟩
    refine L_gy (dj := 75) rfl rfl rfl (X_cmp (k := .i64) (a := (manyN n)) (b := (manyN n)) (r := false) rfl rfl rfl (decide_eq_false (p := (((manyN n)) : Int) ≠ (((manyN n)) : Int)) (by omega)) ?_)
    refine L_op rfl (X_pick (t := false) (v := (.bool (false))) rfl rfl ?_)
    refine L_nil ?_
    refine T_n ?_
    refine W_cf rfl ?_
    refine W_skip ?_
    refine T_n ?_
    refine W_seq ?_
    refine W_reg ?_
    refine L_op rfl (X_move (v := b) rfl ?_)
    obtain ⟨nva, hnva⟩ : ∃ n, n = w16.heap.size := ⟨_, rfl⟩
    refine L_op rfl (X_fn (vs := [b]) en15 rfl (CT.mono (c_cut b l _ (by omega) hb) ?_))
    rintro va w17 ⟨es, hNva, _, hes, hu17⟩
    have hz17 := hu17.size
    rw [← hnva] at hNva
    obtain ⟨uva, hupva⟩ : ∃ n, n = w17.heap.size := ⟨_, rfl⟩
    rw [← hupva] at hNva
    have hles : es.length = pcN l := by have h := congrArg List.length hes; rw [List.length_map, List.length_map, List.length_range] at h; exact h
    replace hb := hb.ext hu17
    replace hU := hU.trans (Ext.upd hu17)
    replace hT := hT.ext hu17
    replace hB1 := hB1.ext hu17
    replace hB2 := hB2.ext hu17
    replace hB6 := hB6.ext hu17
    replace hB9 := hB9.ext hu17
    replace hO11 := hO11.ext hu17
    replace hB12 := hB12.ext hu17
    replace hO14 := hO14.ext hu17
    replace hB15 := hB15.ext hu17
    refine L_op rfl (X_move (v := b) rfl ?_)
    obtain ⟨nvb, hnvb⟩ : ∃ n, n = w17.heap.size := ⟨_, rfl⟩
    refine L_op rfl (X_fn (vs := [b]) en16 rfl (CT.mono (c_cutR b l _ (by omega) hb) ?_))
    rintro vb w18 ⟨fs, hNvb, hfs, hu18⟩
    have hz18 := hu18.size
    rw [← hnvb] at hNvb
    obtain ⟨uvb, hupvb⟩ : ∃ n, n = w18.heap.size := ⟨_, rfl⟩
    rw [← hupvb] at hNvb
    have hlfs : fs.length = pcN l := by have h := congrArg List.length hfs; rw [List.length_map, List.length_map, List.length_range] at h; exact h
    replace hb := hb.ext hu18
    replace hU := hU.trans (Ext.upd hu18)
    replace hT := hT.ext hu18
    replace hB1 := hB1.ext hu18
    replace hB2 := hB2.ext hu18
    replace hB6 := hB6.ext hu18
    replace hB9 := hB9.ext hu18
    replace hO11 := hO11.ext hu18
    replace hB12 := hB12.ext hu18
    replace hO14 := hO14.ext hu18
    replace hB15 := hB15.ext hu18
    replace hNva := hNva.ext hu18
    refine L_op rfl (X_assign (v := va) rfl ?_)
    refine L_op rfl (X_assign (v := vb) rfl ?_)
    refine L_nil ?_
    refine T_n ?_
    refine W_seq ?_
    refine W_seq ?_
    refine W_reg ?_
    refine L_op rfl (X_move (v := va) rfl ?_)
    refine L_op rfl (X_len (v := va) (n := es.length) Tryd.underlying41 rfl hNva.1.sv ?_)
    refine L_op rfl (X_move (v := vb) rfl ?_)
    refine L_op rfl (X_len (v := vb) (n := fs.length) Tryd.underlying41 rfl hNvb.1.sv ?_)
    refine L_op rfl (X_cmp (k := .i64) (a := ((es.length : Nat) : Int)) (b := ((fs.length : Nat) : Int)) (r := false) rfl rfl rfl (decide_eq_false (p := ((((es.length : Nat) : Int)) : Int) ≠ ((((fs.length : Nat) : Int)) : Int)) (by omega)) ?_)
    refine L_nil ?_
    refine T_n ?_
    refine W_cf rfl ?_
    refine W_skip ?_
    refine T_n ?_
    refine W_seq ?_
    refine W_seq ?_
    refine W_reg ?_
    refine L_op rfl (X_assign (v := (.int .i64 (0))) rfl ?_)
    refine L_nil ?_
    refine T_n ?_
    refine W_block ?_
    refine W_loop (α := Nat) [8, 21, 91, 92, 93, 94, 95, 96, 97, 98, 99, 100, 101, 102, 103, 104, 105, 106, 107] (fun i => [(21, (.int .i64 (((i : Nat) : Int))))]) (fun i w_ => i ≤ fs.length ∧ NOwn LB w_ 22 5 nva uva va es ∧ NOwn LB w_ 22 5 nvb uvb vb fs ∧ TabR w_ ∧ Upd (fun i => n0 ≤ i) w w_) (fun i => fs.length - i) ⟨rfl, 0, ⟨Nat.zero_le _, hNva, hNvb, hT, hU⟩, Out.refl _ _, ⟨rfl, trivial⟩⟩ ?_
    rintro i w19 _ ⟨hil, hNva, hNvb, hT, hU⟩
    have hsz_ := hU.size
    refine W_seq ?_
    refine W_seq ?_
    refine W_reg ?_
    refine L_op rfl (X_move (v := (.int .i64 (((i : Nat) : Int)))) rfl ?_)
    refine L_op rfl (X_move (v := vb) rfl ?_)
    refine L_op rfl (X_len (v := vb) (n := fs.length) Tryd.underlying41 rfl hNvb.1.sv ?_)
    by_cases hc20 : (((i : Nat) : Int) : Int) < (((fs.length : Nat) : Int))
    · refine L_op rfl (X_cmp (k := .i64) (a := ((i : Nat) : Int)) (b := ((fs.length : Nat) : Int)) (r := true) rfl rfl rfl (decide_eq_true (p := ((((i : Nat) : Int)) : Int) < ((((fs.length : Nat) : Int)) : Int)) (by omega)) ?_)
      have hi : i < fs.length := by omega
      have hpN : pcN l ≤ 4 := by unfold pcN; omega
      obtain ⟨e, hei⟩ : ∃ x, es[i]? = some x := ⟨_, List.getElem?_eq_getElem (by omega)⟩
      have he2 := pc_get hes hei
      have hem := List.mem_of_getElem? hei
      obtain ⟨f, hfi⟩ : ∃ x, fs[i]? = some x := ⟨_, List.getElem?_eq_getElem (by omega)⟩
      have hf2 := pc_get hfs hfi
      have hfm := List.mem_of_getElem? hfi
      refine L_nil ?_
      refine T_n ?_
      refine W_ct rfl ?_
      refine W_skip ?_
      refine T_n ?_
      refine W_seq ?_
      refine W_block ?_
      refine W_seq ?_
      refine W_draw 10 [[], [], [0, 1], [0, 1, 2], [0, 1, 2, 3], [], [], [5, 6], [5, 6, 7], [5, 6, 7, 8], [0, 1, 2, 3, 4, 5, 6, 7, 8, 9]] mixed (by kernel_rfl) ?_
      refine ⟨.det (fun val => va), ⟨fun _ _ hv => rfl, fun _ _ _ _ _ => trivial⟩, fun val h_ W hx he => ⟨trivial, ?_⟩, ?_⟩
      · replace hx := (Upd.drew _ _).trans hx
        replace hNva := hNva.ext hx
        replace hNvb := hNvb.ext hx
        replace hT := hT.ext hx
        have hE := Upd.refl (fun _ => False) W
        refine id (X_move (v := va) rfl ?_)
        exact ⟨hE, rfl⟩
      refine ⟨.det (fun val => (.int .i64 (((i : Nat) : Int)))), ⟨fun _ _ hv => rfl, fun _ _ _ _ _ => trivial⟩, fun val h_ W hx he => ⟨trivial, ?_⟩, ?_⟩
      · replace hx := (Upd.drew _ _).trans hx
        replace hNva := hNva.ext hx
        replace hNvb := hNvb.ext hx
        replace hT := hT.ext hx
        have hE := Upd.refl (fun _ => False) W
        refine id (X_move (v := (.int .i64 (((i : Nat) : Int)))) rfl ?_)
        exact ⟨hE, rfl⟩
      refine ⟨.det (fun val => (pof va ((((i : Nat) : Int) : Int).toNat * 1))), ⟨fun _ _ hv => rfl, fun _ _ _ _ _ => trivial⟩, fun val h_ W hx he => ⟨trivial, ?_⟩, ?_⟩
      · replace hx := (Upd.drew _ _).trans hx
        replace hNva := hNva.ext hx
        replace hNvb := hNvb.ext hx
        replace hT := hT.ext hx
        have hE := Upd.refl (fun _ => False) W
        refine id (X_idx (v := va) (n := es.length) (k := .i64) (i := ((i : Nat) : Int)) S41 rfl hNva.1.sv rfl (by omega) (by omega) ?_)
        exact ⟨hE, rfl⟩
      refine ⟨.det (fun val => e.1), ⟨fun _ _ hv => rfl, fun _ _ _ _ _ => trivial⟩, fun val h_ W hx he => ⟨trivial, ?_⟩, ?_⟩
      · replace hx := (Upd.drew _ _).trans hx
        replace hNva := hNva.ext hx
        replace hNvb := hNvb.ext hx
        replace hT := hT.ext hx
        have hE := Upd.refl (fun _ => False) W
        refine id (X_load (v := e.1) T22 rfl (hNva.1.rd.cell (by rw [LB_flat, show (((i : Nat) : Int).toNat * 1) = i by omega, List.getElem?_map, hei]; rfl)) ?_)
        exact ⟨hE, rfl⟩
      refine ⟨.det (fun val => (strV (e.2))), ⟨fun _ _ hv => rfl, fun _ _ _ _ _ => trivial⟩, fun val h_ W hx he => ⟨trivial, ?_⟩, ?_⟩
      · replace hx := (Upd.drew _ _).trans hx
        replace hNva := hNva.ext hx
        replace hNvb := hNvb.ext hx
        replace hT := hT.ext hx
        have hE := Upd.refl (fun _ => False) W
        refine id (X_str (v := e.1) (l := e.2) Tryd.underlying22 Tryd.underlying5 Tryd.underlying9 rfl (hNva.2.2 e hem e (by simp [LB])).1.rd ?_)
        exact ⟨hE, rfl⟩
      refine ⟨.det (fun val => vb), ⟨fun _ _ hv => rfl, fun _ _ _ _ _ => trivial⟩, fun val h_ W hx he => ⟨trivial, ?_⟩, ?_⟩
      · replace hx := (Upd.drew _ _).trans hx
        replace hNva := hNva.ext hx
        replace hNvb := hNvb.ext hx
        replace hT := hT.ext hx
        have hE := Upd.refl (fun _ => False) W
        refine id (X_move (v := vb) rfl ?_)
        exact ⟨hE, rfl⟩
      refine ⟨.det (fun val => (.int .i64 (((i : Nat) : Int)))), ⟨fun _ _ hv => rfl, fun _ _ _ _ _ => trivial⟩, fun val h_ W hx he => ⟨trivial, ?_⟩, ?_⟩
      · replace hx := (Upd.drew _ _).trans hx
        replace hNva := hNva.ext hx
        replace hNvb := hNvb.ext hx
        replace hT := hT.ext hx
        have hE := Upd.refl (fun _ => False) W
        refine id (X_move (v := (.int .i64 (((i : Nat) : Int)))) rfl ?_)
        exact ⟨hE, rfl⟩
      refine ⟨.det (fun val => (pof vb ((((i : Nat) : Int) : Int).toNat * 1))), ⟨fun _ _ hv => rfl, fun _ _ _ _ _ => trivial⟩, fun val h_ W hx he => ⟨trivial, ?_⟩, ?_⟩
      · replace hx := (Upd.drew _ _).trans hx
        replace hNva := hNva.ext hx
        replace hNvb := hNvb.ext hx
        replace hT := hT.ext hx
        have hE := Upd.refl (fun _ => False) W
        refine id (X_idx (v := vb) (n := fs.length) (k := .i64) (i := ((i : Nat) : Int)) S41 rfl hNvb.1.sv rfl (by omega) (by omega) ?_)
        exact ⟨hE, rfl⟩
      refine ⟨.det (fun val => f.1), ⟨fun _ _ hv => rfl, fun _ _ _ _ _ => trivial⟩, fun val h_ W hx he => ⟨trivial, ?_⟩, ?_⟩
      · replace hx := (Upd.drew _ _).trans hx
        replace hNva := hNva.ext hx
        replace hNvb := hNvb.ext hx
        replace hT := hT.ext hx
        have hE := Upd.refl (fun _ => False) W
        refine id (X_load (v := f.1) T22 rfl (hNvb.1.rd.cell (by rw [LB_flat, show (((i : Nat) : Int).toNat * 1) = i by omega, List.getElem?_map, hfi]; rfl)) ?_)
        exact ⟨hE, rfl⟩
      refine ⟨.det (fun val => (strV (f.2))), ⟨fun _ _ hv => rfl, fun _ _ _ _ _ => trivial⟩, fun val h_ W hx he => ⟨trivial, ?_⟩, ?_⟩
      · replace hx := (Upd.drew _ _).trans hx
        replace hNva := hNva.ext hx
        replace hNvb := hNvb.ext hx
        replace hT := hT.ext hx
        have hE := Upd.refl (fun _ => False) W
        refine id (X_str (v := f.1) (l := f.2) Tryd.underlying22 Tryd.underlying5 Tryd.underlying9 rfl (hNvb.2.2 f hfm f (by simp [LB])).1.rd ?_)
        exact ⟨hE, rfl⟩
      intro val W21 hx21 he21
      replace hx21 := (Upd.drew _ _).trans hx21
      have hz21 := hx21.size
      replace hNva := hNva.ext hx21
      replace hNvb := hNvb.ext hx21
      replace hT := hT.ext hx21
      replace hU := hU.trans (Ext.upd hx21)
      refine L_op rfl (X_scmp (a := e.2) (b := f.2) (r := false) rfl rfl rfl (by rw [he2, hf2]; simp [scmp]) ?_)
      refine L_nil ?_
      refine T_n ?_
      refine W_cf rfl ?_
      refine W_skip ?_
      refine B_n ?_
      refine T_n ?_
      refine W_reg ?_
      refine L_op rfl (X_move (v := (.int .i64 (((i : Nat) : Int)))) rfl ?_)
      refine L_op rfl (X_arith (k := .i64) (a := ((i : Nat) : Int)) (b := 1) (r := ((i + 1 : Nat) : Int)) rfl rfl rfl (iadd64 (by omega) (by omega) (by omega)) ?_)
      refine L_op rfl (X_assign (v := (.int .i64 (((i + 1 : Nat) : Int)))) rfl ?_)
      refine L_nil ?_
      refine T_n ?_
      exact ⟨rfl, i + 1, ⟨⟨hi, hNva, hNvb, hT, hU⟩, (by show fs.length - (i + 1) < fs.length - i; omega)⟩, (Out.mk rfl), ⟨rfl, trivial⟩⟩
    · refine L_op rfl (X_cmp (k := .i64) (a := ((i : Nat) : Int)) (b := ((fs.length : Nat) : Int)) (r := false) rfl rfl rfl (decide_eq_false (p := ((((i : Nat) : Int)) : Int) < ((((fs.length : Nat) : Int)) : Int)) (by omega)) ?_)
      refine L_nil ?_
      refine T_n ?_
      refine W_cf rfl ?_
      refine W_exit ?_
      refine T_e ?_
      refine T_e ?_
      refine B_x ?_
      refine T_n ?_
      refine W_seq ?_
      refine W_reg ?_
      refine L_op rfl (X_fn (vs := []) en7 rfl (CT.mono (c_wakes _ hT) ?_))
      rintro vb22 w22 ⟨hvb22, hu22⟩
      have hz22 := hu22.size
      replace hNva := hNva.ext hu22
      replace hNvb := hNvb.ext hu22
      replace hT := hT.ext hu22
      replace hU := hU.trans (Ext.upd hu22)
      subst hvb22
      refine L_op rfl (X_assign (v := (.bool (true))) rfl ?_)
      refine L_nil ?_
      refine T_n ?_
      refine W_ret ?_
      exact BQ_r (End_1 Tryd.results5 (v := .bool true) rfl ⟨rfl, hU.own hn0⟩)
end Go.Proofs.YtmggaahkfidfaaaDoor
