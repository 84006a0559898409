/-
  Contracts of chapter 04: the reference Crash. (Printed by wip/gen/t04l.py of this repo.)
-/
import Derived.Test.YtfmgjkchhajpmaaDkH
import Derived.Test.YtfmgjkchhajpmaaDkF
namespace Go.Proofs.Ytfmgjkchhajpmaa
open Go Go.SL Go.Proofs
set_option linter.unusedVariables false

theorem c_pick (lv : Value) (ls : List UInt8) (k : Nat) (w : World) (hl : Rd w 1 lv ls.length (ls.map byteV)) : CT Try.prog 34 #[lv, (.int .i64 (((k : Nat) : Int)))] w fun v w' => v = .int .u8 ((pkN ls k : Nat) : Int) ∧ w = w' := by
  have hmx := hl.sv.len
  refine CT_of Try.func34 rfl rfl rfl ?_
  refine W_seq ?_
  refine W_reg ?_
  refine L_op rfl (X_assign (v := (.int .u8 (0))) rfl ?_)
  refine L_nil ?_
  refine T_n ?_
  refine W_seq ?_
  refine W_seq ?_
  refine W_reg ?_
  refine L_op rfl (X_move (v := (.int .i64 (((k : Nat) : Int)))) rfl ?_)
  refine L_op rfl (X_move (v := lv) rfl ?_)
  refine L_op rfl (X_len (v := lv) (n := ls.length) Try.underlying27 rfl hl.sv ?_)
  by_cases hc1 : (((k : Nat) : Int) : Int) < (((ls.length : Nat) : Int))
  · refine L_op rfl (X_cmp (k := .i64) (a := ((k : Nat) : Int)) (b := ((ls.length : Nat) : Int)) (r := true) rfl rfl rfl (decide_eq_true (p := ((((k : Nat) : Int)) : Int) < ((((ls.length : Nat) : Int)) : Int)) (by omega)) ?_)
    obtain ⟨x0, hx0⟩ : ∃ x, ls[k]? = some x := ⟨_, List.getElem?_eq_getElem (by omega)⟩
    have hpk := pkN_in hx0
    refine L_nil ?_
    refine T_n ?_
    refine W_ct rfl ?_
    refine W_seq ?_
    refine W_reg ?_
    refine L_op rfl (X_move (v := lv) rfl ?_)
    refine L_op rfl (X_move (v := (.int .i64 (((k : Nat) : Int)))) rfl ?_)
    refine L_op rfl (X_idx (v := lv) (n := ls.length) (k := .i64) (i := ((k : Nat) : Int)) S27 rfl hl.sv rfl (by omega) (by omega) ?_)
    refine L_op rfl (X_load (v := .int .u8 ((x0.toNat : Nat) : Int)) T5 rfl (hl.cell (by rw [show (((k : Nat) : Int).toNat * 1) = k by omega, List.getElem?_map, hx0]; rfl)) ?_)
    refine L_op rfl (X_arith (k := .u8) (a := ((x0.toNat : Nat) : Int)) (b := 3) (r := ((x0.toNat % 3 : Nat) : Int)) rfl rfl rfl (u8_rem x0 3) ?_)
    refine L_op rfl (X_assign (v := (.int .u8 (((x0.toNat % 3 : Nat) : Int)))) rfl ?_)
    refine L_nil ?_
    refine T_n ?_
    refine W_ret ?_
    refine T_r ?_
    exact BQ_r (End_1 Try.results34 (v := .int .u8 ((x0.toNat % 3 : Nat) : Int)) rfl ⟨by rw [hpk] <;> rfl, rfl⟩)
  · refine L_op rfl (X_cmp (k := .i64) (a := ((k : Nat) : Int)) (b := ((ls.length : Nat) : Int)) (r := false) rfl rfl rfl (decide_eq_false (p := ((((k : Nat) : Int)) : Int) < ((((ls.length : Nat) : Int)) : Int)) (by omega)) ?_)
    refine L_nil ?_
    refine T_n ?_
    refine W_cf rfl ?_
    refine W_skip ?_
    refine T_n ?_
    refine W_seq ?_
    refine W_reg ?_
    refine L_op rfl (X_assign (v := (.int .u8 (0))) rfl ?_)
    refine L_nil ?_
    refine T_n ?_
    refine W_ret ?_
    exact BQ_r (End_1 Try.results34 (v := .int .u8 0) rfl ⟨by rw [pkN_out (l := ls) (i := k) (by omega)] <;> rfl, rfl⟩)

theorem c_without (v : Value) (n : Int) (bs : List Int) (w : World) (lo up : Nat) (hup : up ≤ w.heap.size) (hb : NRd LI w lo up v bs) (hbL : bs.length ≤ 1048576) : CT Try.prog 36 #[v, (.int .i64 (n))] w fun v w' => NOwn LI w' 3 5 w.heap.size w'.heap.size v (keepI bs n) ∧ Ext w w' := by
  have hmx := hb.sv.len
  obtain ⟨n0, hn0⟩ : ∃ n, n = w.heap.size := ⟨_, rfl⟩
  have hU : Upd (fun i => n0 ≤ i) w w := Upd.refl _ _
  rw [← hn0] at hup
  refine CT_of Try.func36 rfl rfl rfl ?_
  refine W_seq ?_
  refine W_reg ?_
  refine L_op rfl (X_assign (v := (.slice none 0 0)) rfl ?_)
  refine L_nil ?_
  refine T_n ?_
  refine W_seq ?_
  refine W_reg ?_
  refine L_op rfl (X_assign (v := (.slice none 0 0)) rfl ?_)
  refine L_nil ?_
  refine T_n ?_
  refine W_seq ?_
  refine W_seq ?_
  refine W_reg ?_
  refine L_op rfl (X_assign (v := (.int .i64 (0))) rfl ?_)
  refine L_nil ?_
  refine T_n ?_
  refine W_block ?_
  refine W_loop (α := Nat × Value × List Int) [5, 6, 7, 8, 9, 10, 11, 12, 13, 14, 15, 16, 17, 18, 19, 20, 21, 22, 23, 24, 25] (fun ⟨j, u, ds⟩ => [(6, (.int .i64 (((j : Nat) : Int)))), (5, u)]) (fun ⟨j, u, ds⟩ w_ => j ≤ bs.length ∧ ds = keepI (bs.take j) n ∧ NOwn LI w_ 3 5 n0 w_.heap.size u ds ∧ NRd LI w_ lo up v bs ∧ Upd (fun i => n0 ≤ i) w w_) (fun ⟨j, u, ds⟩ => bs.length - j) ⟨rfl, (0, .slice none 0 0, []), ⟨Nat.zero_le _, rfl, NOwn.nil _ _ _ _ _, hb, hU⟩, Out.refl _ _, ⟨rfl, rfl, trivial⟩⟩ ?_
  rintro ⟨j, u, ds⟩ w1 _ ⟨hjl, hds, hN, hb, hU⟩
  have hsz_ := hU.size
  have hdl : ds.length ≤ j := by rw [hds]; exact Nat.le_trans (keepI_le _ _) (by rw [List.length_take]; omega)
  obtain ⟨u9, hu9_⟩ : ∃ m, m = w1.heap.size := ⟨_, rfl⟩
  rw [← hu9_] at hN
  refine W_seq ?_
  refine W_seq ?_
  refine W_reg ?_
  refine L_op rfl (X_move (v := (.int .i64 (((j : Nat) : Int)))) rfl ?_)
  refine L_op rfl (X_move (v := v) rfl ?_)
  refine L_op rfl (X_len (v := v) (n := bs.length) Try.underlying24 rfl hb.sv ?_)
  by_cases hc2 : (((j : Nat) : Int) : Int) < (((bs.length : Nat) : Int))
  · refine L_op rfl (X_cmp (k := .i64) (a := ((j : Nat) : Int)) (b := ((bs.length : Nat) : Int)) (r := true) rfl rfl rfl (decide_eq_true (p := ((((j : Nat) : Int)) : Int) < ((((bs.length : Nat) : Int)) : Int)) (by omega)) ?_)
    have hj : j < bs.length := by omega
    obtain ⟨a, haj⟩ : ∃ a, bs[j]? = some a := ⟨_, List.getElem?_eq_getElem hj⟩
    refine L_nil ?_
    refine T_n ?_
    refine W_ct rfl ?_
    refine W_skip ?_
    refine T_n ?_
    refine W_seq ?_
    refine W_block ?_
    refine W_seq ?_
    refine W_reg ?_
    refine L_op rfl (X_move (v := v) rfl ?_)
    refine L_op rfl (X_move (v := (.int .i64 (((j : Nat) : Int)))) rfl ?_)
    refine L_op rfl (X_idx (v := v) (n := bs.length) (k := .i64) (i := ((j : Nat) : Int)) S24 rfl hb.sv rfl (by omega) (by omega) ?_)
    rcases Bool.eq_false_or_eq_true (decide (a = n)) with hq | hq
    · refine L_op rfl (X_load (v := .int .i64 a) T3 rfl (iat hb (Int.toNat_natCast _) haj) ?_)
      refine L_op rfl (X_move (v := (.int .i64 (n))) rfl ?_)
      refine L_op rfl (X_cmp (k := .i64) (a := a) (b := n) (r := false) rfl rfl rfl (decide_eq_false (fun h_ => h_ (of_decide_eq_true hq))) ?_)
      refine L_nil ?_
      refine T_n ?_
      refine W_cf rfl ?_
      refine W_skip ?_
      refine B_n ?_
      refine T_n ?_
      refine W_reg ?_
      refine L_op rfl (X_move (v := (.int .i64 (((j : Nat) : Int)))) rfl ?_)
      refine L_op rfl (X_arith (k := .i64) (a := ((j : Nat) : Int)) (b := 1) (r := ((j + 1 : Nat) : Int)) rfl rfl rfl (iadd64 (by omega) (by omega) (by omega)) ?_)
      refine L_op rfl (X_assign (v := (.int .i64 (((j + 1 : Nat) : Int)))) rfl ?_)
      refine L_nil ?_
      refine T_n ?_
      exact ⟨rfl, (j + 1, u, ds), ⟨⟨hj, by rw [hds, keepI_take_hit (by rw [haj, of_decide_eq_true hq])], hN.mono (Nat.le_refl _) (by omega), hb, hU⟩, (by show bs.length - (j + 1) < bs.length - j; omega)⟩, (Out.mk rfl), ⟨rfl, rfl, trivial⟩⟩
    · refine L_op rfl (X_load (v := .int .i64 a) T3 rfl (iat hb (Int.toNat_natCast _) haj) ?_)
      refine L_op rfl (X_move (v := (.int .i64 (n))) rfl ?_)
      refine L_op rfl (X_cmp (k := .i64) (a := a) (b := n) (r := true) rfl rfl rfl (decide_eq_true (of_decide_eq_false hq)) ?_)
      refine L_nil ?_
      refine T_n ?_
      refine W_ct rfl ?_
      refine W_reg ?_
      refine L_op rfl (X_move (v := u) rfl ?_)
      refine L_op rfl (X_move (v := v) rfl ?_)
      refine L_op rfl (X_move (v := (.int .i64 (((j : Nat) : Int)))) rfl ?_)
      refine L_op rfl (X_idx (v := v) (n := bs.length) (k := .i64) (i := ((j : Nat) : Int)) S24 rfl hb.sv rfl (by omega) (by omega) ?_)
      refine L_op rfl (X_load (v := .int .i64 a) T3 rfl (iat hb (Int.toNat_natCast _) haj) ?_)
      refine L_op rfl (X_buildSlice1 (vs := [(.int .i64 (a))]) S24 (by decide) rfl rfl (List.forall_mem_cons.2 ⟨rfl, (fun _ h => by cases h)⟩) ?_)
      intro b3 w3 hn3
      have hbn3 := hn3.num; have hbs3 := hn3.size
      replace hN := hN.ext hn3.ext
      replace hb := hb.ext hn3.ext
      replace hU := hU.trans (Ext.upd hn3.ext)
      have hB3 := hn3.blk
      refine L_op rfl (X_append (B := n0) (n := ds.length) (s := u) (x := (.slice (some ⟨b3, 0, none⟩) 1 1)) S24 ⟨_, Try.underlying24⟩ rfl rfl hN.1 (m := 1) (ys := [.int .i64 a]) (hB3.rd (o := 0) (n := 1) (c := 1) (sz := 1) (by decide) (by decide) rfl (fun j u hj => by rw [Nat.zero_add]; simpa using hj)) (List.forall_mem_cons.2 ⟨rfl, fun _ h => by cases h⟩) (by unfold maxLen; omega) (by omega) (by omega) ?_)
      intro v5 w5 hO5 hu5 _
      have hz5 := hu5.size
      have hN5 : NOwn LI w5 3 5 n0 w5.heap.size v5 (ds ++ [a]) := NOwn.of (fun _ => rfl) (hO5.eq (by rw [List.length_append]; rfl) (by rw [List.flatMap_append]; rfl)) fun b hb => (hO5.lt hb).2
      have hub := fun b (hb : obk u = some b) => (⟨(hN.1.lt hb).1, hN.2.1 b hb⟩ : n0 ≤ b ∧ b < u9)
      replace hb := hb.upd hu5 fun i h1 h2 h => by have h := hub _ h; omega
      replace hU := hU.trans (hu5.mono fun i _ h => by have h := hub _ h; show n0 ≤ i; omega)
      refine L_op rfl (X_assign (v := v5) rfl ?_)
      refine L_nil ?_
      refine B_n ?_
      refine T_n ?_
      refine W_reg ?_
      refine L_op rfl (X_move (v := (.int .i64 (((j : Nat) : Int)))) rfl ?_)
      refine L_op rfl (X_arith (k := .i64) (a := ((j : Nat) : Int)) (b := 1) (r := ((j + 1 : Nat) : Int)) rfl rfl rfl (iadd64 (by omega) (by omega) (by omega)) ?_)
      refine L_op rfl (X_assign (v := (.int .i64 (((j + 1 : Nat) : Int)))) rfl ?_)
      refine L_nil ?_
      refine T_n ?_
      exact ⟨rfl, (j + 1, v5, ds ++ [a]), ⟨⟨hj, by rw [hds, keepI_take_miss haj (of_decide_eq_false hq)], hN5, hb, hU⟩, (by show bs.length - (j + 1) < bs.length - j; omega)⟩, (Out.mk rfl), ⟨rfl, rfl, trivial⟩⟩
  · refine L_op rfl (X_cmp (k := .i64) (a := ((j : Nat) : Int)) (b := ((bs.length : Nat) : Int)) (r := false) rfl rfl rfl (decide_eq_false (p := ((((j : Nat) : Int)) : Int) < ((((bs.length : Nat) : Int)) : Int)) (by omega)) ?_)
    refine L_nil ?_
    refine T_n ?_
    refine W_cf rfl ?_
    refine W_exit ?_
    refine T_e ?_
    refine T_e ?_
    refine B_x ?_
    refine T_n ?_
    refine W_seq ?_
    refine W_reg ?_
    refine L_op rfl (X_move (v := u) rfl ?_)
    refine L_op rfl (X_assign (v := u) rfl ?_)
    refine L_nil ?_
    refine T_n ?_
    refine W_ret ?_
    exact BQ_r (End_1 Try.results36 (v := u) rfl ⟨by rw [hds, List.take_of_length_le (by omega)] at hN; exact hN.mono (by omega) (by omega), hU.own hn0⟩)

theorem half_set {o n : List UInt8} {i : Nat} {y : UInt8} (hy : n[i]? = some y) (ho : i < o.length) : ((n.take i ++ o.drop i).map byteV).toArray.setIfInBounds i (byteV y) = ((n.take (i + 1) ++ o.drop (i + 1)).map byteV).toArray := by
  have hl := (List.getElem?_eq_some_iff.1 hy).1
  apply Array.ext'
  rw [Array.toList_setIfInBounds]
  show ((n.take i ++ o.drop i).map byteV).set i (byteV y) = (n.take (i + 1) ++ o.drop (i + 1)).map byteV
  rw [← List.map_set, List.take_add_one, hy, List.drop_eq_getElem_cons ho]
  congr 1
  have h1 : (n.take i).length = i := by rw [List.length_take]; omega
  rw [List.set_append, if_neg (by omega), h1, Nat.sub_self, List.append_assoc]; rfl
theorem half_len {o n : List UInt8} (ho : o.length = 256) (hn : n.length = 256) {i : Nat} (hi : i ≤ 128) : (n.take i ++ o.drop i).length = 256 := by
  rw [List.length_append, List.length_take, List.length_drop]; omega

theorem c_halvesR (o n : Pg) (w : World) : CT Try.prog 35 #[(pageV o), (pageV n)] w fun v w' => v = pageV (halfP o n) ∧ Ext w w' := by
  obtain ⟨n0, hn0⟩ : ∃ n, n = w.heap.size := ⟨_, rfl⟩
  have hU : Upd (fun i => n0 ≤ i) w w := Upd.refl _ _
  refine CT_of Try.func35 rfl rfl rfl ?_
  refine W_seq ?_
  refine W_reg ?_
  refine L_op rfl (X_box (v := (pageV o)) (c := ((o.1).map byteV).toArray) rfl rfl ?_)
  intro b1 w1 hn1
  have hbn1 := hn1.num; have hbs1 := hn1.size
  replace hU := hU.trans (Ext.upd hn1.ext)
  have hB1 := hn1.blk
  refine L_op rfl (X_box (v := (pageV n)) (c := ((n.1).map byteV).toArray) rfl rfl ?_)
  intro b2 w2 hn2
  have hbn2 := hn2.num; have hbs2 := hn2.size
  replace hU := hU.trans (Ext.upd hn2.ext)
  replace hB1 := hB1.ext hn2.ext
  have hB2 := hn2.blk
  refine L_op rfl (X_alloc (z := zv33) (c := zc33.toArray) Zv33 rfl ?_)
  intro b3 w3 hn3
  have hbn3 := hn3.num; have hbs3 := hn3.size
  replace hU := hU.trans (Ext.upd hn3.ext)
  replace hB1 := hB1.ext hn3.ext
  replace hB2 := hB2.ext hn3.ext
  have hB3 := hn3.blk
  rw [zc33_eq] at hB3
  refine L_nil ?_
  refine T_n ?_
  refine W_seq ?_
  refine W_seq ?_
  refine W_reg ?_
  refine L_op rfl (X_assign (v := (.int .i64 (0))) rfl ?_)
  refine L_nil ?_
  refine T_n ?_
  refine W_block ?_
  refine W_loop (α := Nat) [5, 6, 7, 8, 9, 10, 11, 12, 13, 14] (fun i => [(5, (.int .i64 (((i : Nat) : Int))))]) (fun i w_ => i ≤ 128 ∧ Blk w_ b1 ((n.1.take i ++ o.1.drop i).map byteV).toArray 33 ∧ Blk w_ b2 (n.1.map byteV).toArray 33 ∧ Blk w_ b3 ((List.replicate 256 (0 : UInt8)).map byteV).toArray 33 ∧ Upd (fun i => n0 ≤ i) w w_) (fun i => 128 - i) ⟨rfl, 0, ⟨Nat.zero_le _, by rw [List.take_zero, List.drop_zero, List.nil_append]; exact hB1, hB2, hB3, hU⟩, Out.refl _ _, ⟨rfl, trivial⟩⟩ ?_
  rintro i w4 _ ⟨hil, hB1, hB2, hB3, hU⟩
  have hsz_ := hU.size
  refine W_seq ?_
  refine W_seq ?_
  refine W_reg ?_
  refine L_op rfl (X_move (v := (.int .i64 (((i : Nat) : Int)))) rfl ?_)
  by_cases hc5 : (((i : Nat) : Int) : Int) < (128)
  · refine L_op rfl (X_cmp (k := .i64) (a := ((i : Nat) : Int)) (b := 128) (r := true) rfl rfl rfl (decide_eq_true (p := ((((i : Nat) : Int)) : Int) < ((128) : Int)) (by omega)) ?_)
    obtain ⟨y, hy⟩ : ∃ x, n.1[i]? = some x := ⟨_, List.getElem?_eq_getElem (by rw [n.2]; omega)⟩
    refine L_nil ?_
    refine T_n ?_
    refine W_ct rfl ?_
    refine W_skip ?_
    refine T_n ?_
    refine W_seq ?_
    refine W_block ?_
    refine W_reg ?_
    refine L_op rfl (X_move (v := (.int .i64 (((i : Nat) : Int)))) rfl ?_)
    refine L_op rfl (X_move (v := (.int .i64 (((i : Nat) : Int)))) rfl ?_)
    refine L_op rfl (X_idxAP (len := 256) (sz := 1) (b := b2) (o := 0) (k := .i64) (i := ((i : Nat) : Int)) (r := (((i : Nat) : Int) : Int).toNat) Try.underlying33 Z5 rfl rfl (by omega) (by omega) (by omega) ?_)
    refine L_op rfl (X_load (p := (ptr b2 ((((i : Nat) : Int) : Int).toNat))) (v := .int .u8 ((y.toNat : Nat) : Int)) T5 rfl (hB2.at1 (by rw [show ((i : Nat) : Int).toNat = i from rfl]; simp [hy, byteV])) ?_)
    refine L_op rfl (X_idxAP (len := 256) (sz := 1) (b := b1) (o := 0) (k := .i64) (i := ((i : Nat) : Int)) (r := (((i : Nat) : Int) : Int).toNat) Try.underlying33 Z5 rfl rfl (by omega) (by omega) (by omega) ?_)
    refine L_op0 (X_store (b := b1) (o := i) (v := byteV y) T5 rfl rfl rfl hB1 (by rw [List.size_toArray, List.length_map, (half_len o.2 n.2 hil)]; omega) ?_)
    intro w7 hu7 hb7
    have hz7 := hu7.size
    replace hB2 := hB2.upd hu7 fun h => by have h : b2 = b1 := h; omega
    replace hB3 := hB3.upd hu7 fun h => by have h : b3 = b1 := h; omega
    replace hU := hU.trans (hu7.mono fun i _ h => by have h : i = b1 := h; show n0 ≤ i; omega)
    rw [half_set hy (by rw [o.2]; omega)] at hb7
    refine L_nil ?_
    refine B_n ?_
    refine T_n ?_
    refine W_reg ?_
    refine L_op rfl (X_move (v := (.int .i64 (((i : Nat) : Int)))) rfl ?_)
    refine L_op rfl (X_arith (k := .i64) (a := ((i : Nat) : Int)) (b := 1) (r := ((i + 1 : Nat) : Int)) rfl rfl rfl (iadd64 (by omega) (by omega) (by omega)) ?_)
    refine L_op rfl (X_assign (v := (.int .i64 (((i + 1 : Nat) : Int)))) rfl ?_)
    refine L_nil ?_
    refine T_n ?_
    exact ⟨rfl, i + 1, ⟨⟨by omega, hb7, hB2, hB3, hU⟩, (by show 128 - (i + 1) < 128 - i; omega)⟩, (Out.mk rfl), ⟨rfl, trivial⟩⟩
  · refine L_op rfl (X_cmp (k := .i64) (a := ((i : Nat) : Int)) (b := 128) (r := false) rfl rfl rfl (decide_eq_false (p := ((((i : Nat) : Int)) : Int) < ((128) : Int)) (by omega)) ?_)
    have hi128 : i = 128 := by omega
    refine L_nil ?_
    refine T_n ?_
    refine W_cf rfl ?_
    refine W_exit ?_
    refine T_e ?_
    refine T_e ?_
    refine B_x ?_
    refine T_n ?_
    refine W_seq ?_
    refine W_reg ?_
    refine L_op rfl (X_loadA (p := (ptr b1 (0))) (xs := (((n.1.take i ++ o.1.drop i)).map byteV)) A33 rfl hB1.atAll (by rw [List.length_map]; exact (half_len o.2 n.2 hil)) ?_)
    refine L_op0 (X_storeW (b := b3) (ys := (((n.1.take i ++ o.1.drop i)).map byteV)) A33 rfl rfl (byteV_one _) (by rw [List.length_map]; exact (half_len o.2 n.2 hil)) hB3 (by rw [List.size_toArray]; exact (by rw [List.length_map]; exact List.length_replicate)) ?_)
    intro w6 hu6 hb6
    have hz6 := hu6.size
    replace hB1 := hB1.upd hu6 fun h => by have h : b1 = b3 := h; omega
    replace hB2 := hB2.upd hu6 fun h => by have h : b2 = b3 := h; omega
    replace hU := hU.trans (hu6.mono fun i _ h => by have h : i = b3 := h; show n0 ≤ i; omega)
    replace hB3 := hb6
    refine L_nil ?_
    refine T_n ?_
    refine W_ret ?_
    subst hi128
    exact BQ_r (End_1 Try.results35 (RV_A A33 rfl hB3.atAll (by rw [List.length_map]; exact (half_len o.2 n.2 hil))) ⟨rfl, hU.own hn0⟩)

theorem c_crashR (pv cv bv : Value) (ps : List Pg) (cs : List Wr) (bs : List Int) (off : Bool) (lv : Value) (ls : List UInt8) (w : World) (lo up : Nat) (hup : up ≤ w.heap.size) (hp : NRd LP w lo up pv ps) (hc : NRd LW w lo up cv cs) (hb : NRd LI w lo up bv bs) (hl : Rd w 1 lv ls.length (ls.map byteV)) (hpL : ps.length ≤ 1048576) (hcL : cs.length ≤ 1048576) (hbL : bs.length ≤ 1048576) : CT Try.prog 20 #[(.agg #[pv, cv, bv, (.bool (off))]), lv] w fun v w' => ∃ p2 i2, v = .agg #[p2, .slice none 0 0, i2, .bool off] ∧ NOwn LP w' 33 5 w.heap.size w'.heap.size p2 (crSt ps bs cs ls cs.length).1 ∧ NOwn LI w' 3 5 w.heap.size w'.heap.size i2 (crSt ps bs cs ls cs.length).2 ∧ Ext w w' := by
  obtain ⟨n0, hn0⟩ : ∃ n, n = w.heap.size := ⟨_, rfl⟩
  have hU : Upd (fun i => n0 ≤ i) w w := Upd.refl _ _
  have hpl := hp.sv.len
  have hcl := hc.sv.len
  have hbl := hb.sv.len
  rw [← hn0] at hup
  have hlb : ∀ i, rbk lv = some i → i < n0 := by rw [hn0]; exact fun i hi => hl.bound (by decide) hi
  refine CT_of Try.func20 rfl rfl rfl ?_
  refine W_seq ?_
  refine W_reg ?_
  refine L_op rfl (X_box (v := (.agg #[pv, cv, bv, (.bool (off))])) (c := ([pv, cv, bv, (.bool (off))]).toArray) rfl rfl ?_)
  intro b1 w1 hn1
  have hbn1 := hn1.num; have hbs1 := hn1.size
  replace hp := hp.ext hn1.ext
  replace hc := hc.ext hn1.ext
  replace hb := hb.ext hn1.ext
  replace hl := hl.ext hn1.ext
  replace hU := hU.trans (Ext.upd hn1.ext)
  have hB1 := hn1.blk
  refine L_op rfl (X_alloc (z := (.agg #[(.slice none 0 0), (.slice none 0 0), (.slice none 0 0), (.bool (false))])) (c := #[(.slice none 0 0), (.slice none 0 0), (.slice none 0 0), (.bool (false))]) Zv26 rfl ?_)
  intro b2 w2 hn2
  have hbn2 := hn2.num; have hbs2 := hn2.size
  replace hp := hp.ext hn2.ext
  replace hc := hc.ext hn2.ext
  replace hb := hb.ext hn2.ext
  replace hl := hl.ext hn2.ext
  replace hU := hU.trans (Ext.upd hn2.ext)
  replace hB1 := hB1.ext hn2.ext
  have hB2 := hn2.blk
  refine L_nil ?_
  refine T_n ?_
  refine W_seq ?_
  refine W_reg ?_
  refine L_op rfl (X_loadA (p := (ptr b1 (0))) (xs := [pv, cv, bv, (.bool (off))]) A26 rfl hB1.atAll rfl ?_)
  obtain ⟨s0, hs0⟩ : ∃ n, n = w2.heap.size := ⟨_, rfl⟩
  refine L_op rfl (X_fn (vs := [(.agg ([pv, cv, bv, (.bool (off))]).toArray)]) en12 rfl (CT.mono (c_ownR pv cv bv ps cs bs off _ lo up (by omega) hp hc hb hpL hcL hbL) ?_))
  rintro _ w3 ⟨p_2, c_2, i_2, rfl, hP2, hC2, hI2, hu3⟩
  have hz3 := hu3.size
  rw [← hs0] at hP2 hC2 hI2
  obtain ⟨us0, hus0_⟩ : ∃ n, n = w3.heap.size := ⟨_, rfl⟩
  rw [← hus0_] at hP2 hC2 hI2
  replace hp := hp.ext hu3
  replace hc := hc.ext hu3
  replace hb := hb.ext hu3
  replace hl := hl.ext hu3
  replace hU := hU.trans (Ext.upd hu3)
  replace hB1 := hB1.ext hu3
  replace hB2 := hB2.ext hu3
  refine L_op rfl (X_alloc (z := (.agg #[(.slice none 0 0), (.slice none 0 0), (.slice none 0 0), (.bool (false))])) (c := #[(.slice none 0 0), (.slice none 0 0), (.slice none 0 0), (.bool (false))]) Zv26 rfl ?_)
  intro b4 w4 hn4
  have hbn4 := hn4.num; have hbs4 := hn4.size
  replace hp := hp.ext hn4.ext
  replace hc := hc.ext hn4.ext
  replace hb := hb.ext hn4.ext
  replace hl := hl.ext hn4.ext
  replace hU := hU.trans (Ext.upd hn4.ext)
  replace hB1 := hB1.ext hn4.ext
  replace hB2 := hB2.ext hn4.ext
  replace hP2 := hP2.ext hn4.ext
  replace hC2 := hC2.ext hn4.ext
  replace hI2 := hI2.ext hn4.ext
  have hB4 := hn4.blk
  refine L_op0 (X_storeW (b := b4) (ys := [p_2, c_2, i_2, (.bool (off))]) A26 rfl rfl (List.forall_mem_cons.2 ⟨(hP2.1.sv.one), (List.forall_mem_cons.2 ⟨(hC2.1.sv.one), (List.forall_mem_cons.2 ⟨(hI2.1.sv.one), (List.forall_mem_cons.2 ⟨rfl, (fun _ h => by cases h)⟩)⟩)⟩)⟩) rfl hB4 rfl ?_)
  intro w5 hu5 hb5
  have hz5 := hu5.size
  replace hp := hp.upd hu5 fun i h1 h2 h => by have h : i = b4 := h; omega
  replace hc := hc.upd hu5 fun i h1 h2 h => by have h : i = b4 := h; omega
  replace hb := hb.upd hu5 fun i h1 h2 h => by have h : i = b4 := h; omega
  replace hl := hl.upd hu5 fun i hi h => by have hi := hlb _ hi; have h : i = b4 := h; omega
  replace hU := hU.trans (hu5.mono fun i _ h => by have h : i = b4 := h; show n0 ≤ i; omega)
  replace hB1 := hB1.upd hu5 fun h => by have h : b1 = b4 := h; omega
  replace hB2 := hB2.upd hu5 fun h => by have h : b2 = b4 := h; omega
  replace hP2 := hP2.upd hu5 fun i h1 h2 h => by have h : i = b4 := h; omega
  replace hC2 := hC2.upd hu5 fun i h1 h2 h => by have h : i = b4 := h; omega
  replace hI2 := hI2.upd hu5 fun i h1 h2 h => by have h : i = b4 := h; omega
  replace hB4 : Blk w5 b4 #[p_2, c_2, i_2, (.bool (off))] 26 := hb5
  refine L_nil ?_
  refine T_n ?_
  refine W_seq ?_
  refine W_seq ?_
  refine W_reg ?_
  refine L_op rfl (X_assign (v := (.int .i64 (0))) rfl ?_)
  refine L_nil ?_
  refine T_n ?_
  refine W_block ?_
  have hBT := hB4
  have hI3 := hI2.1
  have hus := hBT.lt
  have hbTu : us0 ≤ b4 := by omega
  have hlsv := hl.sv
  have hb1l0 := hB1.lt; have hb2l0 := hB2.lt
  refine W_loop (α := Nat × Value × List Pg × List Int) [6, 7, 8, 9, 12, 13, 14, 15, 16, 17, 18, 19, 20, 21, 22, 23, 24, 25, 26, 27, 28, 29, 30, 31, 32, 33, 34, 35, 36, 37, 38, 39, 40, 41, 42, 43, 44, 45, 46, 47, 48, 49, 50, 51, 52, 53, 54, 55, 56, 57, 58, 59, 60, 61, 62, 63, 64, 65, 66] (fun ⟨i, i_3, qs, as_⟩ => [(6, (.int .i64 (((i : Nat) : Int))))]) (fun ⟨i, i_3, qs, as_⟩ w_ => i ≤ cs.length ∧ qs = (crSt ps bs cs ls i).1 ∧ as_ = (crSt ps bs cs ls i).2 ∧ NOwn LP w_ 33 5 s0 us0 p_2 qs ∧ NOwn LW w_ 35 5 s0 us0 c_2 cs ∧ Own w_ s0 3 1 i_3 as_.length (as_.flatMap LI.cel) ∧ NRd LW w_ lo up cv cs ∧ Rd w_ 1 lv ls.length (ls.map byteV) ∧ Blk w_ b1 #[pv, cv, bv, .bool off] 26 ∧ Blk w_ b2 #[.slice none 0 0, .slice none 0 0, .slice none 0 0, .bool false] 26 ∧ Blk w_ b4 #[p_2, c_2, i_3, .bool off] 26 ∧ Upd (fun i => n0 ≤ i) w w_) (fun ⟨i, i_3, qs, as_⟩ => cs.length - i) ⟨rfl, (0, i_2, ps, bs), ⟨Nat.zero_le _, rfl, rfl, hP2, hC2, hI3, hc, hl, hB1, hB2, hBT, hU⟩, Out.refl _ _, ⟨rfl, trivial⟩⟩ ?_
  rintro ⟨i, i_3, qs, as_⟩ w6 _ ⟨hil, hqs, has, hP2, hC2, hI3, hc, hl, hB1, hB2, hBT, hU⟩
  have hsz_ := hU.size
  have hbTl := hBT.lt
  have hql : qs.length = ps.length := by rw [hqs]; exact crSt_length _ _ _ _ _
  have hal_ : as_.length ≤ bs.length := by rw [has]; exact crSt_le _ _ _ _ _
  obtain ⟨s9, hs9⟩ : ∃ n, n = w6.heap.size := ⟨_, rfl⟩
  have hI_b : ∀ b, obk i_3 = some b → b < s9 := fun b hb => by rw [hs9]; exact (hI3.lt hb).2
  refine W_seq ?_
  refine W_seq ?_
  refine W_reg ?_
  refine L_op rfl (X_move (v := (.int .i64 (((i : Nat) : Int)))) rfl ?_)
  refine L_op rfl (X_fldP (b := b1) (o := 0) (r := 1) Fd26_1 rfl rfl ?_)
  refine L_op rfl (X_load (p := (ptr b1 (1))) (v := cv) T23 rfl (hB1.at1 rfl) ?_)
  refine L_op rfl (X_len (v := cv) (n := cs.length) Try.underlying23 rfl hc.sv ?_)
  by_cases hc7 : (((i : Nat) : Int) : Int) < (((cs.length : Nat) : Int))
  · refine L_op rfl (X_cmp (k := .i64) (a := ((i : Nat) : Int)) (b := ((cs.length : Nat) : Int)) (r := true) rfl rfl rfl (decide_eq_true (p := ((((i : Nat) : Int)) : Int) < ((((cs.length : Nat) : Int)) : Int)) (by omega)) ?_)
    have hi : i < cs.length := by omega
    obtain ⟨e, hei⟩ : ∃ e, cs[i]? = some e := ⟨_, List.getElem?_eq_getElem hi⟩
    have he : e = cs.getD i wZ := by rw [List.getD_eq_getElem?_getD, hei]; rfl
    refine L_nil ?_
    refine T_n ?_
    refine W_ct rfl ?_
    refine W_skip ?_
    refine T_n ?_
    refine W_seq ?_
    refine W_block ?_
    refine W_seq ?_
    refine W_reg ?_
    refine L_op rfl (X_fldP (b := b1) (o := 0) (r := 1) Fd26_1 rfl rfl ?_)
    refine L_op rfl (X_load (p := (ptr b1 (1))) (v := cv) T23 rfl (hB1.at1 rfl) ?_)
    refine L_op rfl (X_move (v := (.int .i64 (((i : Nat) : Int)))) rfl ?_)
    refine L_op rfl (X_idx (v := cv) (n := cs.length) (k := .i64) (i := ((i : Nat) : Int)) S23 rfl hc.sv rfl (by omega) (by omega) ?_)
    refine L_op rfl (X_loadA (xs := LW.cel e) A35 rfl (wall hc (Int.toNat_natCast _) hei) (LW.len e) ?_)
    refine L_op rfl (X_alloc (z := zv35) (c := zc35.toArray) Zv35 rfl ?_)
    intro b8 w8 hn8
    have hbn8 := hn8.num; have hbs8 := hn8.size
    replace hP2 := hP2.ext hn8.ext
    replace hC2 := hC2.ext hn8.ext
    replace hI3 := hI3.ext hn8.ext
    replace hc := hc.ext hn8.ext
    replace hl := hl.ext hn8.ext
    replace hB1 := hB1.ext hn8.ext
    replace hB2 := hB2.ext hn8.ext
    replace hBT := hBT.ext hn8.ext
    replace hU := hU.trans (Ext.upd hn8.ext)
    have hB8 := hn8.blk
    refine L_op0 (X_storeW (b := b8) (ys := LW.cel e) A35 rfl rfl (LW.one e (fun _ h => by cases h)) (LW.len e) hB8 zc35_size ?_)
    intro w9 hu9 hb9
    have hz9 := hu9.size
    replace hP2 := hP2.upd hu9 fun i h1 h2 h => by have h : i = b8 := h; omega
    replace hC2 := hC2.upd hu9 fun i h1 h2 h => by have h : i = b8 := h; omega
    replace hI3 := hI3.upd hu9 fun i hi h => by have hi := hI_b _ hi; have h : i = b8 := h; omega
    replace hc := hc.upd hu9 fun i h1 h2 h => by have h : i = b8 := h; omega
    replace hl := hl.upd hu9 fun i hi h => by have hi := hlb _ hi; have h : i = b8 := h; omega
    replace hB1 := hB1.upd hu9 fun h => by have h : b1 = b8 := h; omega
    replace hB2 := hB2.upd hu9 fun h => by have h : b2 = b8 := h; omega
    replace hBT := hBT.upd hu9 fun h => by have h : b4 = b8 := h; omega
    replace hU := hU.trans (hu9.mono fun i _ h => by have h : i = b8 := h; show n0 ≤ i; omega)
    replace hB8 := hb9
    refine L_nil ?_
    refine T_n ?_
    refine W_seq ?_
    refine W_reg ?_
    refine L_op rfl (X_move (v := lv) rfl ?_)
    refine L_op rfl (X_move (v := (.int .i64 (((i : Nat) : Int)))) rfl ?_)
    refine L_op rfl (X_fn (vs := [lv, (.int .i64 (((i : Nat) : Int)))]) en34 rfl (CT.mono (c_pick lv ls i _ hl) ?_))
    rintro _ _ ⟨rfl, rfl⟩
    refine L_op rfl (X_assign (v := (.int .u8 (((pkN ls i : Nat) : Int)))) rfl ?_)
    refine L_nil ?_
    refine T_n ?_
    refine W_seq ?_
    refine W_seq ?_
    refine W_reg ?_
    refine L_op rfl (X_move (v := (.int .u8 (((pkN ls i : Nat) : Int)))) rfl ?_)
    by_cases hc10 : (((pkN ls i : Nat) : Int) : Int) = (0)
    · refine L_op rfl (X_cmp (k := .u8) (a := ((pkN ls i : Nat) : Int)) (b := 0) (r := true) rfl rfl rfl (decide_eq_true (p := ((((pkN ls i : Nat) : Int)) : Int) = ((0) : Int)) (by omega)) ?_)
      refine L_op rfl (X_move (v := (.bool (true))) rfl ?_)
      refine L_gn (dj := 29) (t := true) rfl rfl rfl rfl ?_
      refine L_gn (dj := 29) (t := true) rfl rfl rfl rfl ?_
      refine L_gn (dj := 29) (t := true) rfl rfl rfl rfl ?_
      refine L_op rfl (X_pick (t := true) (v := (.bool (true))) rfl rfl ?_)
      refine L_op rfl (X_move (v := (.bool (true))) rfl ?_)
      refine L_gn (dj := 34) (t := true) rfl rfl rfl rfl ?_
      refine L_gn (dj := 34) (t := true) rfl rfl rfl rfl ?_
      refine L_gn (dj := 34) (t := true) rfl rfl rfl rfl ?_
      refine L_gn (dj := 34) (t := true) rfl rfl rfl rfl ?_
      refine L_gn (dj := 34) (t := true) rfl rfl rfl rfl ?_
      refine L_gn (dj := 34) (t := true) rfl rfl rfl rfl ?_
      refine L_op rfl (X_pick (t := true) (v := (.bool (true))) rfl rfl ?_)
      refine L_nil ?_
      refine T_n ?_
      refine W_ct rfl ?_
      refine W_exit ?_
      refine T_e ?_
      refine B_x ?_
      refine T_n ?_
      refine W_reg ?_
      refine L_op rfl (X_move (v := (.int .i64 (((i : Nat) : Int)))) rfl ?_)
      refine L_op rfl (X_arith (k := .i64) (a := ((i : Nat) : Int)) (b := 1) (r := ((i + 1 : Nat) : Int)) rfl rfl rfl (iadd64 (by omega) (by omega) (by omega)) ?_)
      refine L_op rfl (X_assign (v := (.int .i64 (((i + 1 : Nat) : Int)))) rfl ?_)
      refine L_nil ?_
      refine T_n ?_
      exact ⟨rfl, (i + 1, i_3, qs, as_), ⟨⟨hi, by rw [crSt_skip (bs := bs) (ps := ps) (ls := ls) he (by omega)]; exact hqs, by rw [crSt_skip (bs := bs) (ps := ps) (ls := ls) he (by omega)]; exact has, hP2, hC2, hI3, hc, hl, hB1, hB2, hBT, hU⟩, (by show cs.length - (i + 1) < cs.length - i; omega)⟩, (Out.mk rfl), ⟨rfl, trivial⟩⟩
    · refine L_op rfl (X_cmp (k := .u8) (a := ((pkN ls i : Nat) : Int)) (b := 0) (r := false) rfl rfl rfl (decide_eq_false (p := ((((pkN ls i : Nat) : Int)) : Int) = ((0) : Int)) (by omega)) ?_)
      refine L_op rfl (X_move (v := (.bool (false))) rfl ?_)
      refine L_gy (dj := 29) rfl rfl rfl (X_fldP (b := b8) (o := 0) (r := 0) Fd35_0 rfl rfl ?_)
      refine L_gy (dj := 29) rfl rfl rfl (X_load (p := (ptr b8 (0))) (v := .int .i64 e.1) T3 rfl (hB8.at1 rfl) ?_)
      by_cases hc11 : (e.1 : Int) < (0)
      · refine L_gy (dj := 29) rfl rfl rfl (X_cmp (k := .i64) (a := e.1) (b := 0) (r := true) rfl rfl rfl (decide_eq_true (p := ((e.1) : Int) < ((0) : Int)) (by omega)) ?_)
        refine L_op rfl (X_pick (t := false) (v := (.bool (true))) rfl rfl ?_)
        refine L_op rfl (X_move (v := (.bool (true))) rfl ?_)
        refine L_gn (dj := 34) (t := true) rfl rfl rfl rfl ?_
        refine L_gn (dj := 34) (t := true) rfl rfl rfl rfl ?_
        refine L_gn (dj := 34) (t := true) rfl rfl rfl rfl ?_
        refine L_gn (dj := 34) (t := true) rfl rfl rfl rfl ?_
        refine L_gn (dj := 34) (t := true) rfl rfl rfl rfl ?_
        refine L_gn (dj := 34) (t := true) rfl rfl rfl rfl ?_
        refine L_op rfl (X_pick (t := true) (v := (.bool (true))) rfl rfl ?_)
        refine L_nil ?_
        refine T_n ?_
        refine W_ct rfl ?_
        refine W_exit ?_
        refine T_e ?_
        refine B_x ?_
        refine T_n ?_
        refine W_reg ?_
        refine L_op rfl (X_move (v := (.int .i64 (((i : Nat) : Int)))) rfl ?_)
        refine L_op rfl (X_arith (k := .i64) (a := ((i : Nat) : Int)) (b := 1) (r := ((i + 1 : Nat) : Int)) rfl rfl rfl (iadd64 (by omega) (by omega) (by omega)) ?_)
        refine L_op rfl (X_assign (v := (.int .i64 (((i + 1 : Nat) : Int)))) rfl ?_)
        refine L_nil ?_
        refine T_n ?_
        exact ⟨rfl, (i + 1, i_3, qs, as_), ⟨⟨hi, by rw [crSt_skip (bs := bs) (ps := ps) (ls := ls) he (by omega)]; exact hqs, by rw [crSt_skip (bs := bs) (ps := ps) (ls := ls) he (by omega)]; exact has, hP2, hC2, hI3, hc, hl, hB1, hB2, hBT, hU⟩, (by show cs.length - (i + 1) < cs.length - i; omega)⟩, (Out.mk rfl), ⟨rfl, trivial⟩⟩
      · refine L_gy (dj := 29) rfl rfl rfl (X_cmp (k := .i64) (a := e.1) (b := 0) (r := false) rfl rfl rfl (decide_eq_false (p := ((e.1) : Int) < ((0) : Int)) (by omega)) ?_)
        refine L_op rfl (X_pick (t := false) (v := (.bool (false))) rfl rfl ?_)
        refine L_op rfl (X_move (v := (.bool (false))) rfl ?_)
        refine L_gy (dj := 34) rfl rfl rfl (X_fldP (b := b8) (o := 0) (r := 0) Fd35_0 rfl rfl ?_)
        refine L_gy (dj := 34) rfl rfl rfl (X_load (p := (ptr b8 (0))) (v := .int .i64 e.1) T3 rfl (hB8.at1 rfl) ?_)
        refine L_gy (dj := 34) rfl rfl rfl (X_fldP (b := b4) (o := 0) (r := 0) Fd26_0 rfl rfl ?_)
        refine L_gy (dj := 34) rfl rfl rfl (X_load (p := (ptr b4 (0))) (v := p_2) T22 rfl (hBT.at1 rfl) ?_)
        refine L_gy (dj := 34) rfl rfl rfl (X_len (v := p_2) (n := qs.length) Try.underlying22 rfl hP2.1.sv ?_)
        by_cases hc12 : (e.1 : Int) ≥ (((qs.length : Nat) : Int))
        · refine L_gy (dj := 34) rfl rfl rfl (X_cmp (k := .i64) (a := e.1) (b := ((qs.length : Nat) : Int)) (r := true) rfl rfl rfl (decide_eq_true (p := ((((qs.length : Nat) : Int)) : Int) ≤ ((e.1) : Int)) (by omega)) ?_)
          refine L_op rfl (X_pick (t := false) (v := (.bool (true))) rfl rfl ?_)
          refine L_nil ?_
          refine T_n ?_
          refine W_ct rfl ?_
          refine W_exit ?_
          refine T_e ?_
          refine B_x ?_
          refine T_n ?_
          refine W_reg ?_
          refine L_op rfl (X_move (v := (.int .i64 (((i : Nat) : Int)))) rfl ?_)
          refine L_op rfl (X_arith (k := .i64) (a := ((i : Nat) : Int)) (b := 1) (r := ((i + 1 : Nat) : Int)) rfl rfl rfl (iadd64 (by omega) (by omega) (by omega)) ?_)
          refine L_op rfl (X_assign (v := (.int .i64 (((i + 1 : Nat) : Int)))) rfl ?_)
          refine L_nil ?_
          refine T_n ?_
          exact ⟨rfl, (i + 1, i_3, qs, as_), ⟨⟨hi, by rw [crSt_skip (bs := bs) (ps := ps) (ls := ls) he (by omega)]; exact hqs, by rw [crSt_skip (bs := bs) (ps := ps) (ls := ls) he (by omega)]; exact has, hP2, hC2, hI3, hc, hl, hB1, hB2, hBT, hU⟩, (by show cs.length - (i + 1) < cs.length - i; omega)⟩, (Out.mk rfl), ⟨rfl, trivial⟩⟩
        · refine L_gy (dj := 34) rfl rfl rfl (X_cmp (k := .i64) (a := e.1) (b := ((qs.length : Nat) : Int)) (r := false) rfl rfl rfl (decide_eq_false (p := ((((qs.length : Nat) : Int)) : Int) ≤ ((e.1) : Int)) (by omega)) ?_)
          refine L_op rfl (X_pick (t := false) (v := (.bool (false))) rfl rfl ?_)
          refine L_nil ?_
          refine T_n ?_
          refine W_cf rfl ?_
          refine W_skip ?_
          refine T_n ?_
          refine W_seq ?_
          have hin : 0 ≤ e.1 ∧ e.1 < ((ps.length : Nat) : Int) := by omega
          obtain ⟨po, hpo⟩ : ∃ x, qs[e.1.toNat]? = some x := ⟨_, List.getElem?_eq_getElem (by omega)⟩
          refine W_reg ?_
          refine L_op rfl (X_fldP (b := b8) (o := 0) (r := 1) Fd35_1 rfl rfl ?_)
          refine L_op rfl (X_loadA (xs := e.2.1.map byteV) A33 rfl (hB8.at_ 1 (e.2.1.map byteV) (fun j u hj => by rw [Nat.add_comm]; simpa [LW] using hj)) (by rw [List.length_map]; exact e.2.2) ?_)
          refine L_op rfl (X_alloc (z := zv33) (c := zc33.toArray) Zv33 rfl ?_)
          intro b13 w13 hn13
          have hbn13 := hn13.num; have hbs13 := hn13.size
          replace hP2 := hP2.ext hn13.ext
          replace hC2 := hC2.ext hn13.ext
          replace hI3 := hI3.ext hn13.ext
          replace hc := hc.ext hn13.ext
          replace hl := hl.ext hn13.ext
          replace hB1 := hB1.ext hn13.ext
          replace hB2 := hB2.ext hn13.ext
          replace hBT := hBT.ext hn13.ext
          replace hU := hU.trans (Ext.upd hn13.ext)
          replace hB8 := hB8.ext hn13.ext
          have hB13 := hn13.blk
          rw [zc33_eq] at hB13
          refine L_op0 (X_storeW (b := b13) (ys := ((e.2.1).map byteV)) A33 rfl rfl (byteV_one _) (by rw [List.length_map]; exact e.2.2) hB13 (by rw [List.size_toArray]; exact (by rw [List.length_map]; exact List.length_replicate)) ?_)
          intro w14 hu14 hb14
          have hz14 := hu14.size
          replace hP2 := hP2.upd hu14 fun i h1 h2 h => by have h : i = b13 := h; omega
          replace hC2 := hC2.upd hu14 fun i h1 h2 h => by have h : i = b13 := h; omega
          replace hI3 := hI3.upd hu14 fun i hi h => by have hi := hI_b _ hi; have h : i = b13 := h; omega
          replace hc := hc.upd hu14 fun i h1 h2 h => by have h : i = b13 := h; omega
          replace hl := hl.upd hu14 fun i hi h => by have hi := hlb _ hi; have h : i = b13 := h; omega
          replace hB1 := hB1.upd hu14 fun h => by have h : b1 = b13 := h; omega
          replace hB2 := hB2.upd hu14 fun h => by have h : b2 = b13 := h; omega
          replace hBT := hBT.upd hu14 fun h => by have h : b4 = b13 := h; omega
          replace hU := hU.trans (hu14.mono fun i _ h => by have h : i = b13 := h; show n0 ≤ i; omega)
          replace hB8 := hB8.upd hu14 fun h => by have h : b8 = b13 := h; omega
          replace hB13 := hb14
          refine L_nil ?_
          refine T_n ?_
          refine W_seq ?_
          refine W_seq ?_
          refine W_reg ?_
          refine L_op rfl (X_move (v := (.int .u8 (((pkN ls i : Nat) : Int)))) rfl ?_)
          by_cases hc15 : (((pkN ls i : Nat) : Int) : Int) = (2)
          · refine L_op rfl (X_cmp (k := .u8) (a := ((pkN ls i : Nat) : Int)) (b := 2) (r := true) rfl rfl rfl (decide_eq_true (p := ((((pkN ls i : Nat) : Int)) : Int) = ((2) : Int)) (by omega)) ?_)
            refine L_nil ?_
            refine T_n ?_
            refine W_ct rfl ?_
            refine W_draw 8 [[], [0], [], [2], [0, 1, 2, 3], [0, 1, 2, 3, 4], [], [6], [0, 1, 2, 3, 4, 5, 6, 7], [0, 1, 2, 3, 4, 5, 6, 7, 8]] mixed (by kernel_rfl) ?_
            refine ⟨.det (fun val => (ptr b4 (0))), ⟨fun _ _ hv => rfl, fun _ _ _ _ _ => trivial⟩, fun val h_ W hx he => ⟨trivial, ?_⟩, ?_⟩
            · replace hx := (Upd.drew _ _).trans hx
              replace hP2 := hP2.ext hx
              replace hC2 := hC2.ext hx
              replace hI3 := hI3.ext hx
              replace hc := hc.ext hx
              replace hl := hl.ext hx
              replace hB1 := hB1.ext hx
              replace hB2 := hB2.ext hx
              replace hBT := hBT.ext hx
              replace hB8 := hB8.ext hx
              replace hB13 := hB13.ext hx
              have hE := Upd.refl (fun _ => False) W
              refine id (X_fldP (b := b4) (o := 0) (r := 0) Fd26_0 rfl rfl ?_)
              exact ⟨hE, rfl⟩
            refine ⟨.det (fun val => p_2), ⟨fun _ _ hv => rfl, fun _ _ _ _ _ => trivial⟩, fun val h_ W hx he => ⟨trivial, ?_⟩, ?_⟩
            · replace hx := (Upd.drew _ _).trans hx
              replace hP2 := hP2.ext hx
              replace hC2 := hC2.ext hx
              replace hI3 := hI3.ext hx
              replace hc := hc.ext hx
              replace hl := hl.ext hx
              replace hB1 := hB1.ext hx
              replace hB2 := hB2.ext hx
              replace hBT := hBT.ext hx
              replace hB8 := hB8.ext hx
              replace hB13 := hB13.ext hx
              have hE := Upd.refl (fun _ => False) W
              refine id (X_load (p := (ptr b4 (0))) (v := p_2) T22 rfl (hBT.at1 rfl) ?_)
              exact ⟨hE, rfl⟩
            refine ⟨.det (fun val => (ptr b8 (0))), ⟨fun _ _ hv => rfl, fun _ _ _ _ _ => trivial⟩, fun val h_ W hx he => ⟨trivial, ?_⟩, ?_⟩
            · replace hx := (Upd.drew _ _).trans hx
              replace hP2 := hP2.ext hx
              replace hC2 := hC2.ext hx
              replace hI3 := hI3.ext hx
              replace hc := hc.ext hx
              replace hl := hl.ext hx
              replace hB1 := hB1.ext hx
              replace hB2 := hB2.ext hx
              replace hBT := hBT.ext hx
              replace hB8 := hB8.ext hx
              replace hB13 := hB13.ext hx
              have hE := Upd.refl (fun _ => False) W
              refine id (X_fldP (b := b8) (o := 0) (r := 0) Fd35_0 rfl rfl ?_)
              exact ⟨hE, rfl⟩
            refine ⟨.det (fun val => (.int .i64 (e.1))), ⟨fun _ _ hv => rfl, fun _ _ _ _ _ => trivial⟩, fun val h_ W hx he => ⟨trivial, ?_⟩, ?_⟩
            · replace hx := (Upd.drew _ _).trans hx
              replace hP2 := hP2.ext hx
              replace hC2 := hC2.ext hx
              replace hI3 := hI3.ext hx
              replace hc := hc.ext hx
              replace hl := hl.ext hx
              replace hB1 := hB1.ext hx
              replace hB2 := hB2.ext hx
              replace hBT := hBT.ext hx
              replace hB8 := hB8.ext hx
              replace hB13 := hB13.ext hx
              have hE := Upd.refl (fun _ => False) W
              refine id (X_load (p := (ptr b8 (0))) (v := .int .i64 e.1) T3 rfl (hB8.at1 rfl) ?_)
              exact ⟨hE, rfl⟩
            refine ⟨.det (fun val => (pof p_2 ((e.1 : Int).toNat * 256))), ⟨fun _ _ hv => rfl, fun _ _ _ _ _ => trivial⟩, fun val h_ W hx he => ⟨trivial, ?_⟩, ?_⟩
            · replace hx := (Upd.drew _ _).trans hx
              replace hP2 := hP2.ext hx
              replace hC2 := hC2.ext hx
              replace hI3 := hI3.ext hx
              replace hc := hc.ext hx
              replace hl := hl.ext hx
              replace hB1 := hB1.ext hx
              replace hB2 := hB2.ext hx
              replace hBT := hBT.ext hx
              replace hB8 := hB8.ext hx
              replace hB13 := hB13.ext hx
              have hE := Upd.refl (fun _ => False) W
              refine id (X_idx (v := p_2) (n := qs.length) (k := .i64) (i := e.1) S22 rfl hP2.1.sv rfl (by omega) (by omega) ?_)
              exact ⟨hE, rfl⟩
            refine ⟨.det (fun val => (pageV po)), ⟨fun _ _ hv => rfl, fun _ _ _ _ _ => trivial⟩, fun val h_ W hx he => ⟨trivial, ?_⟩, ?_⟩
            · replace hx := (Upd.drew _ _).trans hx
              replace hP2 := hP2.ext hx
              replace hC2 := hC2.ext hx
              replace hI3 := hI3.ext hx
              replace hc := hc.ext hx
              replace hl := hl.ext hx
              replace hB1 := hB1.ext hx
              replace hB2 := hB2.ext hx
              replace hBT := hBT.ext hx
              replace hB8 := hB8.ext hx
              replace hB13 := hB13.ext hx
              have hE := Upd.refl (fun _ => False) W
              refine id (X_loadA (xs := po.1.map byteV) A33 rfl (pall hP2.rd (k := e.1.toNat) rfl hpo) (by rw [List.length_map]; exact po.2) ?_)
              exact ⟨hE, rfl⟩
            refine ⟨.det (fun val => (ptr b8 (1))), ⟨fun _ _ hv => rfl, fun _ _ _ _ _ => trivial⟩, fun val h_ W hx he => ⟨trivial, ?_⟩, ?_⟩
            · replace hx := (Upd.drew _ _).trans hx
              replace hP2 := hP2.ext hx
              replace hC2 := hC2.ext hx
              replace hI3 := hI3.ext hx
              replace hc := hc.ext hx
              replace hl := hl.ext hx
              replace hB1 := hB1.ext hx
              replace hB2 := hB2.ext hx
              replace hBT := hBT.ext hx
              replace hB8 := hB8.ext hx
              replace hB13 := hB13.ext hx
              have hE := Upd.refl (fun _ => False) W
              refine id (X_fldP (b := b8) (o := 0) (r := 1) Fd35_1 rfl rfl ?_)
              exact ⟨hE, rfl⟩
            refine ⟨.det (fun val => (pageV e.2)), ⟨fun _ _ hv => rfl, fun _ _ _ _ _ => trivial⟩, fun val h_ W hx he => ⟨trivial, ?_⟩, ?_⟩
            · replace hx := (Upd.drew _ _).trans hx
              replace hP2 := hP2.ext hx
              replace hC2 := hC2.ext hx
              replace hI3 := hI3.ext hx
              replace hc := hc.ext hx
              replace hl := hl.ext hx
              replace hB1 := hB1.ext hx
              replace hB2 := hB2.ext hx
              replace hBT := hBT.ext hx
              replace hB8 := hB8.ext hx
              replace hB13 := hB13.ext hx
              have hE := Upd.refl (fun _ => False) W
              refine id (X_loadA (xs := e.2.1.map byteV) A33 rfl (hB8.at_ 1 (e.2.1.map byteV) (fun j u hj => by rw [Nat.add_comm]; simpa [LW] using hj)) (by rw [List.length_map]; exact e.2.2) ?_)
              exact ⟨hE, rfl⟩
            intro val W16 hx16 he16
            replace hx16 := (Upd.drew _ _).trans hx16
            have hz16 := hx16.size
            replace hP2 := hP2.ext hx16
            replace hC2 := hC2.ext hx16
            replace hI3 := hI3.ext hx16
            replace hc := hc.ext hx16
            replace hl := hl.ext hx16
            replace hB1 := hB1.ext hx16
            replace hB2 := hB2.ext hx16
            replace hBT := hBT.ext hx16
            replace hU := hU.trans (Ext.upd hx16)
            replace hB8 := hB8.ext hx16
            replace hB13 := hB13.ext hx16
            refine L_op rfl (X_fn (vs := [(pageV po), (pageV e.2)]) en35 rfl (CT.mono (c_halvesR po e.2 _) ?_))
            rintro _ w17 ⟨rfl, hu17⟩
            have hz17 := hu17.size
            replace hP2 := hP2.ext hu17
            replace hC2 := hC2.ext hu17
            replace hI3 := hI3.ext hu17
            replace hc := hc.ext hu17
            replace hl := hl.ext hu17
            replace hB1 := hB1.ext hu17
            replace hB2 := hB2.ext hu17
            replace hBT := hBT.ext hu17
            replace hU := hU.trans (Ext.upd hu17)
            replace hB8 := hB8.ext hu17
            replace hB13 := hB13.ext hu17
            refine L_op0 (X_storeW (b := b13) (ys := (((halfP po e.2).1).map byteV)) A33 rfl rfl (byteV_one _) (by rw [List.length_map]; exact (halfP po e.2).2) hB13 (by rw [List.size_toArray]; exact (by rw [List.length_map]; exact e.2.2)) ?_)
            intro w18 hu18 hb18
            have hz18 := hu18.size
            replace hP2 := hP2.upd hu18 fun i h1 h2 h => by have h : i = b13 := h; omega
            replace hC2 := hC2.upd hu18 fun i h1 h2 h => by have h : i = b13 := h; omega
            replace hI3 := hI3.upd hu18 fun i hi h => by have hi := hI_b _ hi; have h : i = b13 := h; omega
            replace hc := hc.upd hu18 fun i h1 h2 h => by have h : i = b13 := h; omega
            replace hl := hl.upd hu18 fun i hi h => by have hi := hlb _ hi; have h : i = b13 := h; omega
            replace hB1 := hB1.upd hu18 fun h => by have h : b1 = b13 := h; omega
            replace hB2 := hB2.upd hu18 fun h => by have h : b2 = b13 := h; omega
            replace hBT := hBT.upd hu18 fun h => by have h : b4 = b13 := h; omega
            replace hU := hU.trans (hu18.mono fun i _ h => by have h : i = b13 := h; show n0 ≤ i; omega)
            replace hB8 := hB8.upd hu18 fun h => by have h : b8 = b13 := h; omega
            replace hB13 := hb18
            refine L_nil ?_
            refine T_n ?_
            refine W_seq ?_
            have hst := crSt_do (ps := ps) (bs := bs) (ls := ls) he hqs has (by omega) (p := (halfP po e.2)) (by rw [if_pos (by omega), List.getD_eq_getElem?_getD, hpo]; rfl)
            refine W_reg ?_
            refine L_op rfl (X_fldP (b := b4) (o := 0) (r := 0) Fd26_0 rfl rfl ?_)
            refine L_op rfl (X_load (p := (ptr b4 (0))) (v := p_2) T22 rfl (hBT.at1 rfl) ?_)
            refine L_op rfl (X_fldP (b := b8) (o := 0) (r := 0) Fd35_0 rfl rfl ?_)
            refine L_op rfl (X_load (p := (ptr b8 (0))) (v := .int .i64 e.1) T3 rfl (hB8.at1 rfl) ?_)
            refine L_op rfl (X_loadA (p := (ptr b13 (0))) (xs := (((halfP po e.2).1).map byteV)) A33 rfl hB13.atAll (by rw [List.length_map]; exact (halfP po e.2).2) ?_)
            refine L_op rfl (X_idx (v := p_2) (n := qs.length) (k := .i64) (i := e.1) S22 rfl hP2.1.sv rfl (by omega) (by omega) ?_)
            refine L_op0 (X_storeOwnA (i := e.1.toNat * 256) (m := 256) (v := p_2) (ys := (halfP po e.2).1.map byteV) A33 hP2.1 (by have h2 : LP.sz = 256 := rfl; rw [h2]; omega) (by decide) rfl rfl (byteV_one _) (by rw [List.length_map]; exact (halfP po e.2).2) ?_)
            intro w8_ hO8 hu8_
            have hz8_ := hu8_.size
            have hlt_ : e.1.toNat < qs.length := by omega
            have hP8 : NOwn LP w8_ 33 5 s0 us0 p_2 (qs.set e.1.toNat (halfP po e.2)) := NOwn.of (fun _ => rfl) (hO8.eq (by rw [List.length_set]) (by rw [flat_setA (L := LP) hlt_]; rfl)) hP2.2.1
            replace hC2 := NOwn.upd' (fun _ => rfl) hC2 hu8_ fun b h1 h2 => absurd (hC2.1.types hP2.1 h1 h2) (by decide)
            replace hI3 := hI3.upd hu8_ fun b h1 h2 => absurd (hI3.types hP2.1 h1 h2) (by decide)
            replace hc := hc.upd hu8_ fun i h1 h2 h => by have h1_ := hP2.1.lt h; have h2_ := hP2.2.1 _ h; omega
            replace hl := hl.upd hu8_ fun i hi h => by have hi := hlb _ hi; have h1_ := hP2.1.lt h; have h2_ := hP2.2.1 _ h; omega
            replace hB1 := hB1.upd hu8_ fun h => by have h1_ := hP2.1.lt h; have h2_ := hP2.2.1 _ h; omega
            replace hB2 := hB2.upd hu8_ fun h => by have h1_ := hP2.1.lt h; have h2_ := hP2.2.1 _ h; omega
            replace hBT := hBT.upd hu8_ fun h => by have h1_ := hP2.1.lt h; have h2_ := hP2.2.1 _ h; omega
            replace hU := hU.trans (hu8_.mono fun i _ h => by have h1_ := hP2.1.lt h; have h2_ := hP2.2.1 _ h; show n0 ≤ i; omega)
            replace hB8 := hB8.upd hu8_ fun h => by have h1_ := hP2.1.lt h; have h2_ := hP2.2.1 _ h; omega
            replace hB13 := hB13.upd hu8_ fun h => by have h1_ := hP2.1.lt h; have h2_ := hP2.2.1 _ h; omega
            replace hP2 := hP8
            refine L_nil ?_
            refine T_n ?_
            refine W_reg ?_
            refine L_op rfl (X_fldP (b := b4) (o := 0) (r := 2) Fd26_2 rfl rfl ?_)
            refine L_op rfl (X_load (p := (ptr b4 (2))) (v := i_3) T24 rfl (hBT.at1 rfl) ?_)
            refine L_op rfl (X_fldP (b := b8) (o := 0) (r := 0) Fd35_0 rfl rfl ?_)
            refine L_op rfl (X_load (p := (ptr b8 (0))) (v := .int .i64 e.1) T3 rfl (hB8.at1 rfl) ?_)
            obtain ⟨sI, hsI⟩ : ∃ n, n = w8_.heap.size := ⟨_, rfl⟩
            have hbTl2 := hBT.lt
            have hI3n : NRd LI w8_ 0 w8_.heap.size i_3 as_ := NRd.of (fun _ => rfl) hI3.rd fun b hb => ⟨Nat.zero_le _, hI3.rd.bound (by decide) hb⟩
            refine L_op rfl (X_fn (vs := [i_3, (.int .i64 (e.1))]) en36 rfl (CT.mono (c_without i_3 e.1 as_ _ 0 _ (Nat.le_refl _) hI3n (by omega)) ?_))
            rintro u w9_ ⟨hN, hu9_⟩
            have hz9_ := hu9_.size
            rw [← hsI] at hN
            replace hc := hc.ext hu9_
            replace hl := hl.ext hu9_
            replace hB1 := hB1.ext hu9_
            replace hB2 := hB2.ext hu9_
            replace hBT := hBT.ext hu9_
            replace hU := hU.trans (Ext.upd hu9_)
            replace hB8 := hB8.ext hu9_
            replace hB13 := hB13.ext hu9_
            replace hP2 := hP2.ext hu9_
            replace hC2 := hC2.ext hu9_
            replace hI3 := hI3.ext hu9_
            have hNu : Own w9_ s0 3 1 u (keepI as_ e.1).length ((keepI as_ e.1).flatMap LI.cel) := hN.1.more (by omega)
            have hu_b : ∀ b, obk u = some b → sI ≤ b ∧ b < w9_.heap.size := fun b hb => ⟨(hN.1.lt hb).1, hN.2.1 b hb⟩
            refine L_op rfl (X_fldP (b := b4) (o := 0) (r := 2) Fd26_2 rfl rfl ?_)
            refine L_op0 (X_store (b := b4) (o := 2) T24 rfl rfl hNu.sv.one hBT (by show (2 : Nat) < 4; decide) ?_)
            intro w6_ hu6_ hb6
            have hz6_ := hu6_.size
            replace hc := hc.upd hu6_ fun i h1 h2 h => by have h : i = b4 := h; omega
            replace hl := hl.upd hu6_ fun i hi h => by have hi := hlb _ hi; have h : i = b4 := h; omega
            replace hB1 := hB1.upd hu6_ fun h => by have h : b1 = b4 := h; omega
            replace hB2 := hB2.upd hu6_ fun h => by have h : b2 = b4 := h; omega
            replace hU := hU.trans (hu6_.mono fun i _ h => by have h : i = b4 := h; show n0 ≤ i; omega)
            replace hB8 := hB8.upd hu6_ fun h => by have h : b8 = b4 := h; omega
            replace hB13 := hB13.upd hu6_ fun h => by have h : b13 = b4 := h; omega
            replace hP2 := hP2.upd hu6_ fun i h1 h2 h => by have h : i = b4 := h; omega
            replace hC2 := hC2.upd hu6_ fun i h1 h2 h => by have h : i = b4 := h; omega
            replace hNu := hNu.upd hu6_ fun i hi h => by have hi := hu_b _ hi; have h : i = b4 := h; omega
            have hBT : Blk w6_ b4 #[p_2, c_2, u, .bool off] 26 := hb6
            refine L_nil ?_
            refine B_n ?_
            refine T_n ?_
            refine W_reg ?_
            refine L_op rfl (X_move (v := (.int .i64 (((i : Nat) : Int)))) rfl ?_)
            refine L_op rfl (X_arith (k := .i64) (a := ((i : Nat) : Int)) (b := 1) (r := ((i + 1 : Nat) : Int)) rfl rfl rfl (iadd64 (by omega) (by omega) (by omega)) ?_)
            refine L_op rfl (X_assign (v := (.int .i64 (((i + 1 : Nat) : Int)))) rfl ?_)
            refine L_nil ?_
            refine T_n ?_
            exact ⟨rfl, (i + 1, u, qs.set e.1.toNat (halfP po e.2), keepI as_ e.1), ⟨⟨hi, by rw [hst], by rw [hst], hP2, hC2, hNu, hc, hl, hB1, hB2, hBT, hU⟩, (by show cs.length - (i + 1) < cs.length - i; omega)⟩, (Out.mk rfl), ⟨rfl, trivial⟩⟩
          · refine L_op rfl (X_cmp (k := .u8) (a := ((pkN ls i : Nat) : Int)) (b := 2) (r := false) rfl rfl rfl (decide_eq_false (p := ((((pkN ls i : Nat) : Int)) : Int) = ((2) : Int)) (by omega)) ?_)
            refine L_nil ?_
            refine T_n ?_
            refine W_cf rfl ?_
            refine W_skip ?_
            refine T_n ?_
            refine W_seq ?_
            have hst := crSt_do (ps := ps) (bs := bs) (ls := ls) he hqs has (by omega) (p := e.2) (by exact if_neg (by omega))
            refine W_reg ?_
            refine L_op rfl (X_fldP (b := b4) (o := 0) (r := 0) Fd26_0 rfl rfl ?_)
            refine L_op rfl (X_load (p := (ptr b4 (0))) (v := p_2) T22 rfl (hBT.at1 rfl) ?_)
            refine L_op rfl (X_fldP (b := b8) (o := 0) (r := 0) Fd35_0 rfl rfl ?_)
            refine L_op rfl (X_load (p := (ptr b8 (0))) (v := .int .i64 e.1) T3 rfl (hB8.at1 rfl) ?_)
            refine L_op rfl (X_loadA (p := (ptr b13 (0))) (xs := ((e.2.1).map byteV)) A33 rfl hB13.atAll (by rw [List.length_map]; exact e.2.2) ?_)
            refine L_op rfl (X_idx (v := p_2) (n := qs.length) (k := .i64) (i := e.1) S22 rfl hP2.1.sv rfl (by omega) (by omega) ?_)
            refine L_op0 (X_storeOwnA (i := e.1.toNat * 256) (m := 256) (v := p_2) (ys := e.2.1.map byteV) A33 hP2.1 (by have h2 : LP.sz = 256 := rfl; rw [h2]; omega) (by decide) rfl rfl (byteV_one _) (by rw [List.length_map]; exact e.2.2) ?_)
            intro w8_ hO8 hu8_
            have hz8_ := hu8_.size
            have hlt_ : e.1.toNat < qs.length := by omega
            have hP8 : NOwn LP w8_ 33 5 s0 us0 p_2 (qs.set e.1.toNat e.2) := NOwn.of (fun _ => rfl) (hO8.eq (by rw [List.length_set]) (by rw [flat_setA (L := LP) hlt_]; rfl)) hP2.2.1
            replace hC2 := NOwn.upd' (fun _ => rfl) hC2 hu8_ fun b h1 h2 => absurd (hC2.1.types hP2.1 h1 h2) (by decide)
            replace hI3 := hI3.upd hu8_ fun b h1 h2 => absurd (hI3.types hP2.1 h1 h2) (by decide)
            replace hc := hc.upd hu8_ fun i h1 h2 h => by have h1_ := hP2.1.lt h; have h2_ := hP2.2.1 _ h; omega
            replace hl := hl.upd hu8_ fun i hi h => by have hi := hlb _ hi; have h1_ := hP2.1.lt h; have h2_ := hP2.2.1 _ h; omega
            replace hB1 := hB1.upd hu8_ fun h => by have h1_ := hP2.1.lt h; have h2_ := hP2.2.1 _ h; omega
            replace hB2 := hB2.upd hu8_ fun h => by have h1_ := hP2.1.lt h; have h2_ := hP2.2.1 _ h; omega
            replace hBT := hBT.upd hu8_ fun h => by have h1_ := hP2.1.lt h; have h2_ := hP2.2.1 _ h; omega
            replace hU := hU.trans (hu8_.mono fun i _ h => by have h1_ := hP2.1.lt h; have h2_ := hP2.2.1 _ h; show n0 ≤ i; omega)
            replace hB8 := hB8.upd hu8_ fun h => by have h1_ := hP2.1.lt h; have h2_ := hP2.2.1 _ h; omega
            replace hB13 := hB13.upd hu8_ fun h => by have h1_ := hP2.1.lt h; have h2_ := hP2.2.1 _ h; omega
            replace hP2 := hP8
            refine L_nil ?_
            refine T_n ?_
            refine W_reg ?_
            refine L_op rfl (X_fldP (b := b4) (o := 0) (r := 2) Fd26_2 rfl rfl ?_)
            refine L_op rfl (X_load (p := (ptr b4 (2))) (v := i_3) T24 rfl (hBT.at1 rfl) ?_)
            refine L_op rfl (X_fldP (b := b8) (o := 0) (r := 0) Fd35_0 rfl rfl ?_)
            refine L_op rfl (X_load (p := (ptr b8 (0))) (v := .int .i64 e.1) T3 rfl (hB8.at1 rfl) ?_)
            obtain ⟨sI, hsI⟩ : ∃ n, n = w8_.heap.size := ⟨_, rfl⟩
            have hbTl2 := hBT.lt
            have hI3n : NRd LI w8_ 0 w8_.heap.size i_3 as_ := NRd.of (fun _ => rfl) hI3.rd fun b hb => ⟨Nat.zero_le _, hI3.rd.bound (by decide) hb⟩
            refine L_op rfl (X_fn (vs := [i_3, (.int .i64 (e.1))]) en36 rfl (CT.mono (c_without i_3 e.1 as_ _ 0 _ (Nat.le_refl _) hI3n (by omega)) ?_))
            rintro u w9_ ⟨hN, hu9_⟩
            have hz9_ := hu9_.size
            rw [← hsI] at hN
            replace hc := hc.ext hu9_
            replace hl := hl.ext hu9_
            replace hB1 := hB1.ext hu9_
            replace hB2 := hB2.ext hu9_
            replace hBT := hBT.ext hu9_
            replace hU := hU.trans (Ext.upd hu9_)
            replace hB8 := hB8.ext hu9_
            replace hB13 := hB13.ext hu9_
            replace hP2 := hP2.ext hu9_
            replace hC2 := hC2.ext hu9_
            replace hI3 := hI3.ext hu9_
            have hNu : Own w9_ s0 3 1 u (keepI as_ e.1).length ((keepI as_ e.1).flatMap LI.cel) := hN.1.more (by omega)
            have hu_b : ∀ b, obk u = some b → sI ≤ b ∧ b < w9_.heap.size := fun b hb => ⟨(hN.1.lt hb).1, hN.2.1 b hb⟩
            refine L_op rfl (X_fldP (b := b4) (o := 0) (r := 2) Fd26_2 rfl rfl ?_)
            refine L_op0 (X_store (b := b4) (o := 2) T24 rfl rfl hNu.sv.one hBT (by show (2 : Nat) < 4; decide) ?_)
            intro w6_ hu6_ hb6
            have hz6_ := hu6_.size
            replace hc := hc.upd hu6_ fun i h1 h2 h => by have h : i = b4 := h; omega
            replace hl := hl.upd hu6_ fun i hi h => by have hi := hlb _ hi; have h : i = b4 := h; omega
            replace hB1 := hB1.upd hu6_ fun h => by have h : b1 = b4 := h; omega
            replace hB2 := hB2.upd hu6_ fun h => by have h : b2 = b4 := h; omega
            replace hU := hU.trans (hu6_.mono fun i _ h => by have h : i = b4 := h; show n0 ≤ i; omega)
            replace hB8 := hB8.upd hu6_ fun h => by have h : b8 = b4 := h; omega
            replace hB13 := hB13.upd hu6_ fun h => by have h : b13 = b4 := h; omega
            replace hP2 := hP2.upd hu6_ fun i h1 h2 h => by have h : i = b4 := h; omega
            replace hC2 := hC2.upd hu6_ fun i h1 h2 h => by have h : i = b4 := h; omega
            replace hNu := hNu.upd hu6_ fun i hi h => by have hi := hu_b _ hi; have h : i = b4 := h; omega
            have hBT : Blk w6_ b4 #[p_2, c_2, u, .bool off] 26 := hb6
            refine L_nil ?_
            refine B_n ?_
            refine T_n ?_
            refine W_reg ?_
            refine L_op rfl (X_move (v := (.int .i64 (((i : Nat) : Int)))) rfl ?_)
            refine L_op rfl (X_arith (k := .i64) (a := ((i : Nat) : Int)) (b := 1) (r := ((i + 1 : Nat) : Int)) rfl rfl rfl (iadd64 (by omega) (by omega) (by omega)) ?_)
            refine L_op rfl (X_assign (v := (.int .i64 (((i + 1 : Nat) : Int)))) rfl ?_)
            refine L_nil ?_
            refine T_n ?_
            exact ⟨rfl, (i + 1, u, qs.set e.1.toNat e.2, keepI as_ e.1), ⟨⟨hi, by rw [hst], by rw [hst], hP2, hC2, hNu, hc, hl, hB1, hB2, hBT, hU⟩, (by show cs.length - (i + 1) < cs.length - i; omega)⟩, (Out.mk rfl), ⟨rfl, trivial⟩⟩
  · refine L_op rfl (X_cmp (k := .i64) (a := ((i : Nat) : Int)) (b := ((cs.length : Nat) : Int)) (r := false) rfl rfl rfl (decide_eq_false (p := ((((i : Nat) : Int)) : Int) < ((((cs.length : Nat) : Int)) : Int)) (by omega)) ?_)
    obtain rfl : i = cs.length := by omega
    have hnT := own_ne hI3 hBT (by decide)
    have hn2 := own_ne hI3 hB2 (by decide)
    refine L_nil ?_
    refine T_n ?_
    refine W_cf rfl ?_
    refine W_exit ?_
    refine T_e ?_
    refine T_e ?_
    refine B_x ?_
    refine T_n ?_
    refine W_seq ?_
    refine W_reg ?_
    refine L_op rfl (X_fldP (b := b4) (o := 0) (r := 1) Fd26_1 rfl rfl ?_)
    refine L_op0 (X_store (b := b4) (o := 1) T23 rfl rfl rfl hBT (by show (1 : Nat) < 4; decide) ?_)
    intro w19 hu19 hb19
    have hz19 := hu19.size
    replace hP2 := hP2.upd hu19 fun i h1 h2 h => by have h : i = b4 := h; omega
    replace hC2 := hC2.upd hu19 fun i h1 h2 h => by have h : i = b4 := h; omega
    replace hI3 := hI3.upd hu19 fun b hb h => by have h1_ := hnT b hb; have h2_ := hn2 b hb; have h : b = b4 := h; omega
    replace hc := hc.upd hu19 fun i h1 h2 h => by have h : i = b4 := h; omega
    replace hl := hl.upd hu19 fun i hi h => by have hi := hlb _ hi; have h : i = b4 := h; omega
    replace hB1 := hB1.upd hu19 fun h => by have h : b1 = b4 := h; omega
    replace hB2 := hB2.upd hu19 fun h => by have h : b2 = b4 := h; omega
    replace hU := hU.trans (hu19.mono fun i _ h => by have h : i = b4 := h; show n0 ≤ i; omega)
    replace hBT : Blk w19 b4 #[p_2, (.slice none 0 0), i_3, (.bool (off))] 26 := hb19
    refine L_nil ?_
    refine T_n ?_
    refine W_seq ?_
    refine W_reg ?_
    refine L_op rfl (X_loadA (p := (ptr b4 (0))) (xs := [p_2, (.slice none 0 0), i_3, (.bool (off))]) A26 rfl hBT.atAll rfl ?_)
    refine L_op0 (X_storeW (b := b2) (ys := [p_2, (.slice none 0 0), i_3, (.bool (off))]) A26 rfl rfl (List.forall_mem_cons.2 ⟨(hP2.1.sv.one), (List.forall_mem_cons.2 ⟨rfl, (List.forall_mem_cons.2 ⟨(hI3.sv.one), (List.forall_mem_cons.2 ⟨rfl, (fun _ h => by cases h)⟩)⟩)⟩)⟩) rfl hB2 rfl ?_)
    intro w20 hu20 hb20
    have hz20 := hu20.size
    replace hP2 := hP2.upd hu20 fun i h1 h2 h => by have h : i = b2 := h; omega
    replace hC2 := hC2.upd hu20 fun i h1 h2 h => by have h : i = b2 := h; omega
    replace hI3 := hI3.upd hu20 fun b hb h => by have h1_ := hnT b hb; have h2_ := hn2 b hb; have h : b = b2 := h; omega
    replace hc := hc.upd hu20 fun i h1 h2 h => by have h : i = b2 := h; omega
    replace hl := hl.upd hu20 fun i hi h => by have hi := hlb _ hi; have h : i = b2 := h; omega
    replace hB1 := hB1.upd hu20 fun h => by have h : b1 = b2 := h; omega
    replace hU := hU.trans (hu20.mono fun i _ h => by have h : i = b2 := h; show n0 ≤ i; omega)
    replace hBT := hBT.upd hu20 fun h => by have h : b4 = b2 := h; omega
    replace hB2 : Blk w20 b2 #[p_2, (.slice none 0 0), i_3, (.bool (off))] 26 := hb20
    refine L_nil ?_
    refine T_n ?_
    refine W_ret ?_
    exact BQ_r (End_1 Try.results20 (RV_A A26 rfl hB2.atAll rfl) ⟨_, _, rfl, by rw [← hqs]; exact hP2.mono (by omega) (by omega), by rw [← has]; exact NOwn.of (fun _ => rfl) (hI3.more (by omega)) (fun b hb => (hI3.lt hb).2), hU.own hn0⟩)
end Go.Proofs.Ytfmgjkchhajpmaa
