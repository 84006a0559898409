/-
 The walk of SpaceNew. (Printed by wip/gen/t13l.py of this repo.)
-/
import Derived.Test.YtmaikcnjgkoghaaNewLaw
namespace Go.Proofs.Ytmaikcnjgkoghaa
open Go Go.SL Go.Proofs
set_option linter.unusedVariables false

theorem zc38_eq : zc38 = (List.replicate 256 false).map Value.bool := by rw [List.map_replicate]; rfl
theorem bset (ts : List Bool) (i : Nat) : (ts.map Value.bool).toArray.setIfInBounds i (.bool true) = ((ts.set i true).map Value.bool).toArray := by
 rw [List.setIfInBounds_toArray, List.map_set]
theorem bget {ts : List Bool} {i : Int} {k : Nat} {x : Bool} (hik : i.toNat = k) (h : ts[k]? = some x) : ((ts.map Value.bool).toArray)[i.toNat]? = some (.bool x) := by
 subst hik
 rw [List.getElem?_toArray, List.getElem?_map, h]; rfl
theorem cnt_le {f : Nat → Bool} (i : Nat) : cntF f i ≤ i := by
 unfold cntF
 exact Nat.le_trans (List.length_filter_le _ _) (by rw [List.length_range]; exact Nat.le_refl _)

set_option maxRecDepth 10000 in
set_option maxHeartbeats 2000000 in
theorem c_spaceNew (n : Int) (dv : Value) (ds : List Int) (w : World) (lo up : Nat) (hup : up ≤ w.heap.size) (hd : NRd LI w lo up dv ds) : CT Try.prog 4 #[(.int .i64 (n)), dv] w fun v w' => v = .bool true ∧ Ext w w' := by
 obtain ⟨n0, hn0⟩ : ∃ n, n = w.heap.size := ⟨_, rfl⟩
 have hU : Upd (fun i => n0 ≤ i) w w := Upd.refl _ _
 rw [← hn0] at hup
 have hdm := hd.sv.len
 refine CT_of Try.func4 rfl rfl rfl ?_
 refine W_seq ?_
 refine W_reg ?_
 refine L_op rfl (X_assign (v := (.bool (false))) rfl ?_)
 refine L_nil ?_
 refine T_n ?_
 refine W_seq ?_
 refine W_seq ?_
 refine W_reg ?_
 refine L_op rfl (X_move (v := (.int .i64 (n))) rfl ?_)
 by_cases hc1 : (n : Int) < (32)
 ·refine L_op rfl (X_cmp (k := .i64) (a := n) (b := 32) (r := true) rfl rfl rfl (decide_eq_true (p := ((n) : Int) < ((32) : Int)) (by omega)) ?_)
  refine L_op rfl (X_move (v := (.bool (true))) rfl ?_)
  refine L_gn (dj := 19) (t := true) rfl rfl rfl rfl ?_
  refine L_gn (dj := 19) (t := true) rfl rfl rfl rfl ?_
  refine L_op rfl (X_pick (t := true) (v := (.bool (true))) rfl rfl ?_)
  refine L_op rfl (X_move (v := (.bool (true))) rfl ?_)
  refine L_gn (dj := 23) (t := true) rfl rfl rfl rfl ?_
  refine L_gn (dj := 23) (t := true) rfl rfl rfl rfl ?_
  refine L_gn (dj := 23) (t := true) rfl rfl rfl rfl ?_
  refine L_op rfl (X_pick (t := true) (v := (.bool (true))) rfl rfl ?_)
  refine L_nil ?_
  refine T_n ?_
  refine W_ct rfl ?_
  refine W_seq ?_
  refine W_reg ?_
  refine L_op rfl (X_fn (vs := []) en8 rfl (CT.mono (c_wakes _) ?_))
  rintro _ w2 ⟨rfl, hu2⟩
  have hz2 := hu2.size
  replace hd := hd.ext hu2
  replace hU := hU.trans (Ext.upd hu2)
  refine L_op rfl (X_assign (v := (.bool (true))) rfl ?_)
  refine L_nil ?_
  refine T_n ?_
  refine W_ret ?_
  refine T_r ?_
  exact BQ_r (End_1 Try.results4 (v := .bool true) rfl ⟨rfl, hU.own hn0⟩)
 ·refine L_op rfl (X_cmp (k := .i64) (a := n) (b := 32) (r := false) rfl rfl rfl (decide_eq_false (p := ((n) : Int) < ((32) : Int)) (by omega)) ?_)
  refine L_op rfl (X_move (v := (.bool (false))) rfl ?_)
  refine L_gy (dj := 19) rfl rfl rfl (X_move (v := (.int .i64 (n))) rfl ?_)
  by_cases hc3 : (n : Int) > (256)
  ·refine L_gy (dj := 19) rfl rfl rfl (X_cmp (k := .i64) (a := n) (b := 256) (r := true) rfl rfl rfl (decide_eq_true (p := ((256) : Int) < ((n) : Int)) (by omega)) ?_)
   refine L_op rfl (X_pick (t := false) (v := (.bool (true))) rfl rfl ?_)
   refine L_op rfl (X_move (v := (.bool (true))) rfl ?_)
   refine L_gn (dj := 23) (t := true) rfl rfl rfl rfl ?_
   refine L_gn (dj := 23) (t := true) rfl rfl rfl rfl ?_
   refine L_gn (dj := 23) (t := true) rfl rfl rfl rfl ?_
   refine L_op rfl (X_pick (t := true) (v := (.bool (true))) rfl rfl ?_)
   refine L_nil ?_
   refine T_n ?_
   refine W_ct rfl ?_
   refine W_seq ?_
   refine W_reg ?_
   refine L_op rfl (X_fn (vs := []) en8 rfl (CT.mono (c_wakes _) ?_))
   rintro _ w4 ⟨rfl, hu4⟩
   have hz4 := hu4.size
   replace hd := hd.ext hu4
   replace hU := hU.trans (Ext.upd hu4)
   refine L_op rfl (X_assign (v := (.bool (true))) rfl ?_)
   refine L_nil ?_
   refine T_n ?_
   refine W_ret ?_
   refine T_r ?_
   exact BQ_r (End_1 Try.results4 (v := .bool true) rfl ⟨rfl, hU.own hn0⟩)
  ·refine L_gy (dj := 19) rfl rfl rfl (X_cmp (k := .i64) (a := n) (b := 256) (r := false) rfl rfl rfl (decide_eq_false (p := ((256) : Int) < ((n) : Int)) (by omega)) ?_)
   refine L_op rfl (X_pick (t := false) (v := (.bool (false))) rfl rfl ?_)
   refine L_op rfl (X_move (v := (.bool (false))) rfl ?_)
   refine L_gy (dj := 23) rfl rfl rfl (X_move (v := dv) rfl ?_)
   refine L_gy (dj := 23) rfl rfl rfl (X_len (v := dv) (n := ds.length) Try.underlying37 rfl hd.sv ?_)
   by_cases hc5 : (((ds.length : Nat) : Int) : Int) > (20)
   ·refine L_gy (dj := 23) rfl rfl rfl (X_cmp (k := .i64) (a := ((ds.length : Nat) : Int)) (b := 20) (r := true) rfl rfl rfl (decide_eq_true (p := ((20) : Int) < ((((ds.length : Nat) : Int)) : Int)) (by omega)) ?_)
    refine L_op rfl (X_pick (t := false) (v := (.bool (true))) rfl rfl ?_)
    refine L_nil ?_
    refine T_n ?_
    refine W_ct rfl ?_
    refine W_seq ?_
    refine W_reg ?_
    refine L_op rfl (X_fn (vs := []) en8 rfl (CT.mono (c_wakes _) ?_))
    rintro _ w6 ⟨rfl, hu6⟩
    have hz6 := hu6.size
    replace hd := hd.ext hu6
    replace hU := hU.trans (Ext.upd hu6)
    refine L_op rfl (X_assign (v := (.bool (true))) rfl ?_)
    refine L_nil ?_
    refine T_n ?_
    refine W_ret ?_
    refine T_r ?_
    exact BQ_r (End_1 Try.results4 (v := .bool true) rfl ⟨rfl, hU.own hn0⟩)
   ·refine L_gy (dj := 23) rfl rfl rfl (X_cmp (k := .i64) (a := ((ds.length : Nat) : Int)) (b := 20) (r := false) rfl rfl rfl (decide_eq_false (p := ((20) : Int) < ((((ds.length : Nat) : Int)) : Int)) (by omega)) ?_)
    refine L_op rfl (X_pick (t := false) (v := (.bool (false))) rfl rfl ?_)
    refine L_nil ?_
    refine T_n ?_
    refine W_cf rfl ?_
    refine W_skip ?_
    refine T_n ?_
    refine W_seq ?_
    obtain ⟨m, hm⟩ : ∃ m : Nat, n = ((m : Nat) : Int) := ⟨n.toNat, by omega⟩
    subst hm
    refine W_reg ?_
    refine L_op rfl (X_alloc (z := zv38) (c := zc38.toArray) Zv38 rfl ?_)
    intro b7 w7 hn7
    have hbn7 := hn7.num; have hbs7 := hn7.size
    replace hd := hd.ext hn7.ext
    replace hU := hU.trans (Ext.upd hn7.ext)
    have hB7 := hn7.blk
    rw [zc38_eq] at hB7
    refine L_nil ?_
    refine T_n ?_
    refine W_seq ?_
    refine W_reg ?_
    refine L_op rfl (X_move (v := (.int .i64 (((m : Nat) : Int)))) rfl ?_)
    refine L_op rfl (X_assign (v := (.int .i64 (((m : Nat) : Int)))) rfl ?_)
    refine L_nil ?_
    refine T_n ?_
    refine W_seq ?_
    refine W_reg ?_
    refine L_op rfl (X_assign (v := (.slice none 0 0)) rfl ?_)
    refine L_nil ?_
    refine T_n ?_
    refine W_seq ?_
    refine W_seq ?_
    refine W_reg ?_
    refine L_op rfl (X_assign (v := (.int .i64 (0))) rfl ?_)
    refine L_nil ?_
    refine T_n ?_
    refine W_block ?_
    obtain ⟨sb, hsb⟩ : ∃ n, n = w7.heap.size := ⟨_, rfl⟩
    have hb5l := hB7.lt
    refine W_loop (α := Nat × Value × Nat) [4, 7, 8, 9, 10, 30, 31, 32, 33, 34, 35, 36, 37, 38, 39, 40, 41, 42, 43, 44, 45, 46, 47, 48, 49, 50, 51, 52, 53, 54, 55, 56, 57, 58, 59, 60, 61, 62, 63, 64, 65, 66, 67, 68, 69, 70, 71, 72, 73, 74, 75] (fun ⟨i, vb, ub⟩ => [(8, (.int .i64 (((i : Nat) : Int)))), (7, vb)]) (fun ⟨i, vb, ub⟩ w_ => i ≤ ds.length ∧ (∀ (j : Nat) (a : Int), j < i → ds[j]? = some a → 0 ≤ a ∧ a < (m : Int)) ∧ Blk w_ b7 ((setAll (List.replicate 256 false) (ds.take i)).map Value.bool).toArray 38 ∧ NOwn LI w_ 3 5 sb ub vb (ds.reverse.take i) ∧ NRd LI w_ lo up dv ds ∧ Upd (fun i => n0 ≤ i) w w_ ∧ ub ≤ w_.heap.size ∧ sb ≤ w_.heap.size) (fun ⟨i, vb, ub⟩ => ds.length - i) ⟨rfl, (0, .slice none 0 0, sb), ⟨Nat.zero_le _, fun j _ h => absurd h (Nat.not_lt_zero j), hB7, NOwn.nil _ _ _ _ _, hd, hU, by omega, by omega⟩, Out.refl _ _, ⟨rfl, rfl, trivial⟩⟩ ?_
    rintro ⟨i, vb, ub⟩ w8 _ ⟨hil, hrg, hB7, hb, hd, hU, hub, hsbw⟩
    have hsz_ := hU.size
    have hbsv := hb.1.sv
    have hrl : (ds.reverse.take i).length = i := by rw [List.length_take, List.length_reverse]; omega
    refine W_seq ?_
    refine W_seq ?_
    refine W_reg ?_
    refine L_op rfl (X_move (v := (.int .i64 (((i : Nat) : Int)))) rfl ?_)
    refine L_op rfl (X_move (v := dv) rfl ?_)
    refine L_op rfl (X_len (v := dv) (n := ds.length) Try.underlying37 rfl hd.sv ?_)
    by_cases hc9 : (((i : Nat) : Int) : Int) < (((ds.length : Nat) : Int))
    ·refine L_op rfl (X_cmp (k := .i64) (a := ((i : Nat) : Int)) (b := ((ds.length : Nat) : Int)) (r := true) rfl rfl rfl (decide_eq_true (p := ((((i : Nat) : Int)) : Int) < ((((ds.length : Nat) : Int)) : Int)) (by omega)) ?_)
     obtain ⟨a, ha⟩ : ∃ a, ds[i]? = some a := ⟨_, List.getElem?_eq_getElem (by omega)⟩
     refine L_nil ?_
     refine T_n ?_
     refine W_ct rfl ?_
     refine W_skip ?_
     refine T_n ?_
     refine W_seq ?_
     refine W_block ?_
     refine W_seq ?_
     refine W_seq ?_
     refine W_reg ?_
     refine L_op rfl (X_move (v := dv) rfl ?_)
     refine L_op rfl (X_move (v := (.int .i64 (((i : Nat) : Int)))) rfl ?_)
     refine L_op rfl (X_idx (v := dv) (n := ds.length) (k := .i64) (i := ((i : Nat) : Int)) S37 rfl hd.sv rfl (by omega) (by omega) ?_)
     refine L_op rfl (X_load (p := (pof dv ((((i : Nat) : Int) : Int).toNat * 1))) (v := .int .i64 a) T3 rfl (iat hd (Int.toNat_natCast _) ha) ?_)
     by_cases hc10 : (a : Int) < (0)
     ·refine L_op rfl (X_cmp (k := .i64) (a := a) (b := 0) (r := true) rfl rfl rfl (decide_eq_true (p := ((a) : Int) < ((0) : Int)) (by omega)) ?_)
      refine L_op rfl (X_move (v := (.bool (true))) rfl ?_)
      refine L_gn (dj := 41) (t := true) rfl rfl rfl rfl ?_
      refine L_gn (dj := 41) (t := true) rfl rfl rfl rfl ?_
      refine L_gn (dj := 41) (t := true) rfl rfl rfl rfl ?_
      refine L_gn (dj := 41) (t := true) rfl rfl rfl rfl ?_
      refine L_gn (dj := 41) (t := true) rfl rfl rfl rfl ?_
      refine L_gn (dj := 41) (t := true) rfl rfl rfl rfl ?_
      refine L_op rfl (X_pick (t := true) (v := (.bool (true))) rfl rfl ?_)
      refine L_nil ?_
      refine T_n ?_
      refine W_ct rfl ?_
      refine W_seq ?_
      refine W_reg ?_
      refine L_op rfl (X_move (v := (.int .i64 (((m : Nat) : Int)))) rfl ?_)
      refine L_op rfl (X_move (v := dv) rfl ?_)
      have hcr_ := c_new ((m : Nat) : Int) dv ds w8 lo up (by omega) hd (by omega)
      refine L_op rfl (X_fn (vs := [(.int .i64 (((m : Nat) : Int))), dv]) en14 rfl ?_)
      refine CT.mono hcr_ ?_
      clear hcr_
      rintro _ w11 ⟨hq_, _, hu11⟩
      obtain rfl := hq_ (.inr (.inr ⟨a, List.mem_of_getElem? ha, by omega⟩))
      have hz11 := hu11.size
      replace hd := hd.ext hu11
      replace hB7 := hB7.ext hu11
      replace hb := hb.ext hu11
      replace hU := hU.trans (Ext.upd hu11)
      refine L_op rfl (X_move (v := (.tuple #[(.agg #[(.int .i64 (0)), (.slice none 0 0), (.slice none 0 0)]), (.int .i64 (2))])) rfl ?_)
      refine L_op rfl (X_extract (l := [(.agg #[(.int .i64 (0)), (.slice none 0 0), (.slice none 0 0)]), (.int .i64 (2))]) (v := (.agg #[(.int .i64 (0)), (.slice none 0 0), (.slice none 0 0)])) rfl rfl ?_)
      refine L_op rfl (X_extract (l := [(.agg #[(.int .i64 (0)), (.slice none 0 0), (.slice none 0 0)]), (.int .i64 (2))]) (v := (.int .i64 (2))) rfl rfl ?_)
      refine L_op rfl (X_alloc (z := (.agg #[(.int .i64 (0)), (.slice none 0 0), (.slice none 0 0)])) (c := #[(.int .i64 (0)), (.slice none 0 0), (.slice none 0 0)]) Zv25 rfl ?_)
      intro b12 w12 hn12
      have hbn12 := hn12.num; have hbs12 := hn12.size
      replace hd := hd.ext hn12.ext
      replace hB7 := hB7.ext hn12.ext
      replace hb := hb.ext hn12.ext
      replace hU := hU.trans (Ext.upd hn12.ext)
      have hB12 := hn12.blk
      refine L_op0 (X_storeW (b := b12) (ys := [(.int .i64 (0)), (.slice none 0 0), (.slice none 0 0)]) A25 rfl rfl (List.forall_mem_cons.2 ⟨rfl, (List.forall_mem_cons.2 ⟨rfl, (List.forall_mem_cons.2 ⟨rfl, (fun _ h => by cases h)⟩)⟩)⟩) rfl hB12 rfl ?_)
      intro w13 hu13 hb13
      have hz13 := hu13.size
      replace hd := hd.upd hu13 fun i h1 h2 h => by have h : i = b12 := h; omega
      replace hB7 := hB7.upd hu13 fun h => by have h : b7 = b12 := h; omega
      replace hb := hb.upd hu13 fun i h1 h2 h => by have h : i = b12 := h; omega
      replace hU := hU.trans (hu13.mono fun i _ h => by have h : i = b12 := h; show n0 ≤ i; omega)
      replace hB12 : Blk w13 b12 #[(.int .i64 (0)), (.slice none 0 0), (.slice none 0 0)] 25 := hb13
      refine L_op rfl (X_assign (v := (.int .i64 (2))) rfl ?_)
      refine L_nil ?_
      refine T_n ?_
      refine W_seq ?_
      refine W_reg ?_
      refine L_op rfl (X_move (v := (.int .i64 (2))) rfl ?_)
      refine L_op rfl (X_cmp (k := .i64) (a := 2) (b := 2) (r := true) rfl rfl rfl rfl ?_)
      refine L_op rfl (X_move (v := (.bool (true))) rfl ?_)
      refine L_gy (dj := 57) rfl rfl rfl (X_fn (vs := []) en8 rfl (CT.mono (c_wakes _) ?_))
      rintro _ w14 ⟨rfl, hu14⟩
      have hz14 := hu14.size
      replace hd := hd.ext hu14
      replace hB7 := hB7.ext hu14
      replace hb := hb.ext hu14
      replace hU := hU.trans (Ext.upd hu14)
      replace hB12 := hB12.ext hu14
      refine L_op rfl (X_pick (t := true) (v := (.bool (true))) rfl rfl ?_)
      refine L_op rfl (X_assign (v := (.bool (true))) rfl ?_)
      refine L_nil ?_
      refine T_n ?_
      refine W_ret ?_
      refine T_r ?_
      refine B_r ?_
      refine T_r ?_
      refine T_r ?_
      refine B_r ?_
      refine T_r ?_
      exact BQ_r (End_1 Try.results4 (v := .bool true) rfl ⟨rfl, hU.own hn0⟩)
     ·refine L_op rfl (X_cmp (k := .i64) (a := a) (b := 0) (r := false) rfl rfl rfl (decide_eq_false (p := ((a) : Int) < ((0) : Int)) (by omega)) ?_)
      refine L_op rfl (X_move (v := (.bool (false))) rfl ?_)
      refine L_gy (dj := 41) rfl rfl rfl (X_move (v := dv) rfl ?_)
      refine L_gy (dj := 41) rfl rfl rfl (X_move (v := (.int .i64 (((i : Nat) : Int)))) rfl ?_)
      refine L_gy (dj := 41) rfl rfl rfl (X_idx (v := dv) (n := ds.length) (k := .i64) (i := ((i : Nat) : Int)) S37 rfl hd.sv rfl (by omega) (by omega) ?_)
      refine L_gy (dj := 41) rfl rfl rfl (X_load (p := (pof dv ((((i : Nat) : Int) : Int).toNat * 1))) (v := .int .i64 a) T3 rfl (iat hd (Int.toNat_natCast _) ha) ?_)
      refine L_gy (dj := 41) rfl rfl rfl (X_move (v := (.int .i64 (((m : Nat) : Int)))) rfl ?_)
      by_cases hc15 : (a : Int) ≥ (((m : Nat) : Int))
      ·refine L_gy (dj := 41) rfl rfl rfl (X_cmp (k := .i64) (a := a) (b := ((m : Nat) : Int)) (r := true) rfl rfl rfl (decide_eq_true (p := ((((m : Nat) : Int)) : Int) ≤ ((a) : Int)) (by omega)) ?_)
       refine L_op rfl (X_pick (t := false) (v := (.bool (true))) rfl rfl ?_)
       refine L_nil ?_
       refine T_n ?_
       refine W_ct rfl ?_
       refine W_seq ?_
       refine W_reg ?_
       refine L_op rfl (X_move (v := (.int .i64 (((m : Nat) : Int)))) rfl ?_)
       refine L_op rfl (X_move (v := dv) rfl ?_)
       have hcr_ := c_new ((m : Nat) : Int) dv ds w8 lo up (by omega) hd (by omega)
       refine L_op rfl (X_fn (vs := [(.int .i64 (((m : Nat) : Int))), dv]) en14 rfl ?_)
       refine CT.mono hcr_ ?_
       clear hcr_
       rintro _ w16 ⟨hq_, _, hu16⟩
       obtain rfl := hq_ (.inr (.inr ⟨a, List.mem_of_getElem? ha, by omega⟩))
       have hz16 := hu16.size
       replace hd := hd.ext hu16
       replace hB7 := hB7.ext hu16
       replace hb := hb.ext hu16
       replace hU := hU.trans (Ext.upd hu16)
       refine L_op rfl (X_move (v := (.tuple #[(.agg #[(.int .i64 (0)), (.slice none 0 0), (.slice none 0 0)]), (.int .i64 (2))])) rfl ?_)
       refine L_op rfl (X_extract (l := [(.agg #[(.int .i64 (0)), (.slice none 0 0), (.slice none 0 0)]), (.int .i64 (2))]) (v := (.agg #[(.int .i64 (0)), (.slice none 0 0), (.slice none 0 0)])) rfl rfl ?_)
       refine L_op rfl (X_extract (l := [(.agg #[(.int .i64 (0)), (.slice none 0 0), (.slice none 0 0)]), (.int .i64 (2))]) (v := (.int .i64 (2))) rfl rfl ?_)
       refine L_op rfl (X_alloc (z := (.agg #[(.int .i64 (0)), (.slice none 0 0), (.slice none 0 0)])) (c := #[(.int .i64 (0)), (.slice none 0 0), (.slice none 0 0)]) Zv25 rfl ?_)
       intro b17 w17 hn17
       have hbn17 := hn17.num; have hbs17 := hn17.size
       replace hd := hd.ext hn17.ext
       replace hB7 := hB7.ext hn17.ext
       replace hb := hb.ext hn17.ext
       replace hU := hU.trans (Ext.upd hn17.ext)
       have hB17 := hn17.blk
       refine L_op0 (X_storeW (b := b17) (ys := [(.int .i64 (0)), (.slice none 0 0), (.slice none 0 0)]) A25 rfl rfl (List.forall_mem_cons.2 ⟨rfl, (List.forall_mem_cons.2 ⟨rfl, (List.forall_mem_cons.2 ⟨rfl, (fun _ h => by cases h)⟩)⟩)⟩) rfl hB17 rfl ?_)
       intro w18 hu18 hb18
       have hz18 := hu18.size
       replace hd := hd.upd hu18 fun i h1 h2 h => by have h : i = b17 := h; omega
       replace hB7 := hB7.upd hu18 fun h => by have h : b7 = b17 := h; omega
       replace hb := hb.upd hu18 fun i h1 h2 h => by have h : i = b17 := h; omega
       replace hU := hU.trans (hu18.mono fun i _ h => by have h : i = b17 := h; show n0 ≤ i; omega)
       replace hB17 : Blk w18 b17 #[(.int .i64 (0)), (.slice none 0 0), (.slice none 0 0)] 25 := hb18
       refine L_op rfl (X_assign (v := (.int .i64 (2))) rfl ?_)
       refine L_nil ?_
       refine T_n ?_
       refine W_seq ?_
       refine W_reg ?_
       refine L_op rfl (X_move (v := (.int .i64 (2))) rfl ?_)
       refine L_op rfl (X_cmp (k := .i64) (a := 2) (b := 2) (r := true) rfl rfl rfl rfl ?_)
       refine L_op rfl (X_move (v := (.bool (true))) rfl ?_)
       refine L_gy (dj := 57) rfl rfl rfl (X_fn (vs := []) en8 rfl (CT.mono (c_wakes _) ?_))
       rintro _ w19 ⟨rfl, hu19⟩
       have hz19 := hu19.size
       replace hd := hd.ext hu19
       replace hB7 := hB7.ext hu19
       replace hb := hb.ext hu19
       replace hU := hU.trans (Ext.upd hu19)
       replace hB17 := hB17.ext hu19
       refine L_op rfl (X_pick (t := true) (v := (.bool (true))) rfl rfl ?_)
       refine L_op rfl (X_assign (v := (.bool (true))) rfl ?_)
       refine L_nil ?_
       refine T_n ?_
       refine W_ret ?_
       refine T_r ?_
       refine B_r ?_
       refine T_r ?_
       refine T_r ?_
       refine B_r ?_
       refine T_r ?_
       exact BQ_r (End_1 Try.results4 (v := .bool true) rfl ⟨rfl, hU.own hn0⟩)
      ·refine L_gy (dj := 41) rfl rfl rfl (X_cmp (k := .i64) (a := a) (b := ((m : Nat) : Int)) (r := false) rfl rfl rfl (decide_eq_false (p := ((((m : Nat) : Int)) : Int) ≤ ((a) : Int)) (by omega)) ?_)
       refine L_op rfl (X_pick (t := false) (v := (.bool (false))) rfl rfl ?_)
       refine L_nil ?_
       refine T_n ?_
       refine W_cf rfl ?_
       refine W_skip ?_
       refine T_n ?_
       refine W_seq ?_
       refine W_reg ?_
       refine L_op rfl (X_move (v := dv) rfl ?_)
       refine L_op rfl (X_move (v := (.int .i64 (((i : Nat) : Int)))) rfl ?_)
       refine L_op rfl (X_idx (v := dv) (n := ds.length) (k := .i64) (i := ((i : Nat) : Int)) S37 rfl hd.sv rfl (by omega) (by omega) ?_)
       refine L_op rfl (X_load (p := (pof dv ((((i : Nat) : Int) : Int).toNat * 1))) (v := .int .i64 a) T3 rfl (iat hd (Int.toNat_natCast _) ha) ?_)
       refine L_op rfl (X_idxAP (len := 256) (sz := 1) (b := b7) (o := 0) (k := .i64) (i := a) (r := (a : Int).toNat) Try.underlying38 Z4 rfl rfl (by omega) (by omega) (by omega) ?_)
       refine L_op0 (X_store (b := b7) (o := (a : Int).toNat) (v := .bool true) T4 rfl rfl rfl hB7 (by rw [List.size_toArray, List.length_map, setAll_len, List.length_replicate]; omega) ?_)
       intro w20 hu20 hb20
       have hz20 := hu20.size
       rw [bset, ← setAll_step ha] at hb20
       replace hd := hd.upd hu20 fun i h1 h2 h => by have h : i = b7 := h; omega
       replace hb := hb.upd hu20 fun i h1 h2 h => by have h : i = b7 := h; omega
       replace hU := hU.trans (hu20.mono fun i _ h => by have h : i = b7 := h; show n0 ≤ i; omega)
       replace hB7 := hb20
       refine L_nil ?_
       refine T_n ?_
       refine W_reg ?_
       refine L_op rfl (X_move (v := vb) rfl ?_)
       refine L_op rfl (X_move (v := dv) rfl ?_)
       refine L_op rfl (X_move (v := dv) rfl ?_)
       refine L_op rfl (X_len (v := dv) (n := ds.length) Try.underlying37 rfl hd.sv ?_)
       refine L_op rfl (X_arith (k := .i64) (a := ((ds.length : Nat) : Int)) (b := 1) (r := (((ds.length : Nat) : Int) - 1 : Int)) rfl rfl rfl (isub64 rfl (by omega) (by omega)) ?_)
       refine L_op rfl (X_move (v := (.int .i64 (((i : Nat) : Int)))) rfl ?_)
       refine L_op rfl (X_arith (k := .i64) (a := (((ds.length : Nat) : Int) - 1 : Int)) (b := ((i : Nat) : Int)) (r := ((ds.length - 1 - i : Nat) : Int)) rfl rfl rfl (isub64 (by omega) (by omega) (by omega)) ?_)
       refine L_op rfl (X_idx (v := dv) (n := ds.length) (k := .i64) (i := ((ds.length - 1 - i : Nat) : Int)) S37 rfl hd.sv rfl (by omega) (by omega) ?_)
       obtain ⟨y, hy⟩ : ∃ y, ds.reverse[i]? = some y := ⟨_, List.getElem?_eq_getElem (by rw [List.length_reverse]; omega)⟩
       have hy2 : ds[ds.length - 1 - i]? = some y := by rw [← hy, List.getElem?_reverse (by omega)]
       refine L_op rfl (X_load (p := (pof dv ((((ds.length - 1 - i : Nat) : Int) : Int).toNat * 1))) (v := .int .i64 y) T3 rfl (iat hd (Int.toNat_natCast _) hy2) ?_)
       refine L_op rfl (X_buildSlice1 (vs := [(.int .i64 (y))]) S37 (by decide) rfl rfl (List.forall_mem_cons.2 ⟨rfl, (fun _ h => by cases h)⟩) ?_)
       intro b21 w21 hn21
       have hbn21 := hn21.num; have hbs21 := hn21.size
       replace hd := hd.ext hn21.ext
       replace hb := hb.ext hn21.ext
       replace hU := hU.trans (Ext.upd hn21.ext)
       replace hB7 := hB7.ext hn21.ext
       have hB21 := hn21.blk
       refine L_op rfl (X_append (B := sb) (n := (ds.reverse.take i).length) (s := vb) (x := (.slice (some ⟨b21, 0, none⟩) 1 1)) S37 ⟨_, Try.underlying37⟩ rfl rfl hb.1 (m := 1) (ys := LI.cel y) (hB21.rd (o := 0) (n := 1) (c := 1) (sz := 1) (by decide) (by decide) rfl (fun j u hj => by rw [Nat.zero_add]; simpa [LI] using hj)) (LI.one y (fun _ h => by cases h)) (by unfold maxLen; omega) (by omega) (by omega) ?_)
       intro v5 w5 hO5 hu5 _
       have hz5 := hu5.size
       have hb5n : NOwn LI w5 3 5 sb w5.heap.size v5 (ds.reverse.take (i + 1)) := NOwn.of (fun _ => rfl) (hO5.eq (by rw [List.take_add_one, hy, List.length_append]; rfl) (by rw [List.take_add_one, hy, List.flatMap_append]; rfl)) fun b hb => (hO5.lt hb).2
       replace hd := hd.upd hu5 fun i h1 h2 h => by have h1_ := hb.1.lt h; have h2_ := hb.2.1 _ h; omega
       replace hU := hU.trans (hu5.mono fun i _ h => by have h1_ := hb.1.lt h; have h2_ := hb.2.1 _ h; show n0 ≤ i; omega)
       replace hB7 := hB7.upd hu5 fun h => by have h1_ := hb.1.lt h; have h2_ := hb.2.1 _ h; omega
       obtain ⟨u5, hu5_⟩ : ∃ n, n = w5.heap.size := ⟨_, rfl⟩
       rw [← hu5_] at hb5n
       refine L_op rfl (X_assign (v := v5) rfl ?_)
       refine L_nil ?_
       refine B_n ?_
       refine T_n ?_
       refine W_reg ?_
       refine L_op rfl (X_move (v := (.int .i64 (((i : Nat) : Int)))) rfl ?_)
       refine L_op rfl (X_arith (k := .i64) (a := ((i : Nat) : Int)) (b := 1) (r := ((i + 1 : Nat) : Int)) rfl rfl rfl (iadd64 (by omega) (by omega) (by omega)) ?_)
       refine L_op rfl (X_assign (v := (.int .i64 (((i + 1 : Nat) : Int)))) rfl ?_)
       refine L_nil ?_
       refine T_n ?_
       exact ⟨rfl, (i + 1, v5, u5), ⟨⟨by omega, fun j z_ hj hz_ => (Nat.lt_or_ge j i).elim (fun h1 => hrg j z_ h1 hz_) fun h1 => by obtain rfl : j = i := by { omega }; rw [ha] at hz_; cases hz_; omega, hB7, hb5n, hd, hU, by omega, by omega⟩, (by show ds.length - (i + 1) < ds.length - i; omega)⟩, (Out.mk rfl), ⟨rfl, rfl, trivial⟩⟩
    ·refine L_op rfl (X_cmp (k := .i64) (a := ((i : Nat) : Int)) (b := ((ds.length : Nat) : Int)) (r := false) rfl rfl rfl (decide_eq_false (p := ((((i : Nat) : Int)) : Int) < ((((ds.length : Nat) : Int)) : Int)) (by omega)) ?_)
     have hie : i = ds.length := by omega
     rw [hie, List.take_of_length_le (by rw [List.length_reverse]; exact Nat.le_refl _)] at hb
     rw [hie, List.take_length] at hB7
     have hgood : ∀ a ∈ ds, 0 ≤ a ∧ a < ((m : Nat) : Int) := fun a h_ => by obtain ⟨j, hj, rfl⟩ := List.getElem_of_mem h_; exact hrg j _ (by omega) (List.getElem?_eq_getElem hj)
     have hpos : ∀ a ∈ ds, 0 ≤ a := fun a h_ => (hgood a h_).1
     obtain ⟨i1_, hi1_⟩ : ∃ n, n = i := ⟨_, rfl⟩
     refine L_nil ?_
     refine T_n ?_
     refine W_cf rfl ?_
     refine W_exit ?_
     refine T_e ?_
     refine T_e ?_
     refine B_x ?_
     refine T_n ?_
     refine W_seq ?_
     refine W_seq ?_
     refine W_reg ?_
     refine L_op rfl (X_assign (v := (.int .i64 (0))) rfl ?_)
     refine L_nil ?_
     refine T_n ?_
     refine W_block ?_
     have hub1 := hub
     refine W_loop (α := Nat × Nat) [6, 11, 76, 77, 78, 79, 80, 81, 82, 83, 84, 85, 86, 87, 88, 89] (fun ⟨i, nn⟩ => [(11, (.int .i64 (((i : Nat) : Int)))), (6, (.int .i64 (((nn : Nat) : Int))))]) (fun ⟨i, nn⟩ w_ => i ≤ m ∧ nn + cntF (fU ds) i = m ∧ w8 = w_) (fun ⟨i, nn⟩ => m - i) ⟨rfl, (0, m), ⟨Nat.zero_le _, rfl, rfl⟩, Out.refl _ _, ⟨rfl, rfl, trivial⟩⟩ ?_
     rintro ⟨i, nn⟩ w22 _ ⟨him, hnn, rfl⟩
     refine W_seq ?_
     refine W_seq ?_
     refine W_reg ?_
     refine L_op rfl (X_move (v := (.int .i64 (((i : Nat) : Int)))) rfl ?_)
     refine L_op rfl (X_move (v := (.int .i64 (((m : Nat) : Int)))) rfl ?_)
     by_cases hc23 : (((i : Nat) : Int) : Int) < (((m : Nat) : Int))
     ·refine L_op rfl (X_cmp (k := .i64) (a := ((i : Nat) : Int)) (b := ((m : Nat) : Int)) (r := true) rfl rfl rfl (decide_eq_true (p := ((((i : Nat) : Int)) : Int) < ((((m : Nat) : Int)) : Int)) (by omega)) ?_)
      refine L_nil ?_
      refine T_n ?_
      refine W_ct rfl ?_
      refine W_skip ?_
      refine T_n ?_
      refine W_seq ?_
      refine W_block ?_
      refine W_seq ?_
      refine W_reg ?_
      refine L_op rfl (X_move (v := (.int .i64 (((i : Nat) : Int)))) rfl ?_)
      refine L_op rfl (X_idxAP (len := 256) (sz := 1) (b := b7) (o := 0) (k := .i64) (i := ((i : Nat) : Int)) (r := (((i : Nat) : Int) : Int).toNat) Try.underlying38 Z4 rfl rfl (by omega) (by omega) (by omega) ?_)
      have hti : (setAll (List.replicate 256 false) ds)[i]? = some (decide ((i : Int) ∈ ds)) := rep_get hpos (by omega)
      have hcl := cnt_le (f := fU ds) i
      rcases Bool.eq_false_or_eq_true (decide ((i : Int) ∈ ds)) with hbt | hbt
      ·rw [hbt] at hti
       refine L_op rfl (X_load (p := (ptr b7 ((((i : Nat) : Int) : Int).toNat))) (v := .bool true) T4 rfl (hB7.at1 (bget (Int.toNat_natCast _) hti)) ?_)
       have hfi : fU ds i = true := by unfold fU; rw [hbt]; rfl
       refine L_op rfl (X_move (v := (.bool (true))) rfl ?_)
       refine L_gn (dj := 84) (t := true) rfl rfl rfl rfl ?_
       refine L_gn (dj := 84) (t := true) rfl rfl rfl rfl ?_
       refine L_op rfl (X_pick (t := true) (v := (.bool (true))) rfl rfl ?_)
       refine L_nil ?_
       refine T_n ?_
       refine W_ct rfl ?_
       refine W_reg ?_
       refine L_op rfl (X_move (v := (.int .i64 (((nn : Nat) : Int)))) rfl ?_)
       refine L_op rfl (X_arith (k := .i64) (a := ((nn : Nat) : Int)) (b := 1) (r := ((nn - 1 : Nat) : Int)) rfl rfl rfl (isub64 (by omega) (by omega) (by omega)) ?_)
       refine L_op rfl (X_assign (v := (.int .i64 (((nn - 1 : Nat) : Int)))) rfl ?_)
       refine L_nil ?_
       refine B_n ?_
       refine T_n ?_
       refine W_reg ?_
       refine L_op rfl (X_move (v := (.int .i64 (((i : Nat) : Int)))) rfl ?_)
       refine L_op rfl (X_arith (k := .i64) (a := ((i : Nat) : Int)) (b := 1) (r := ((i + 1 : Nat) : Int)) rfl rfl rfl (iadd64 (by omega) (by omega) (by omega)) ?_)
       refine L_op rfl (X_assign (v := (.int .i64 (((i + 1 : Nat) : Int)))) rfl ?_)
       refine L_nil ?_
       refine T_n ?_
       exact ⟨rfl, (i + 1, nn - 1), ⟨⟨by omega, by rw [cnt_hit hfi]; omega, rfl⟩, (by show m - (i + 1) < m - i; omega)⟩, (Out.mk rfl), ⟨rfl, rfl, trivial⟩⟩
      ·rw [hbt] at hti
       refine L_op rfl (X_load (p := (ptr b7 ((((i : Nat) : Int) : Int).toNat))) (v := .bool false) T4 rfl (hB7.at1 (bget (Int.toNat_natCast _) hti)) ?_)
       refine L_op rfl (X_move (v := (.bool (false))) rfl ?_)
       refine L_gy (dj := 84) rfl rfl rfl (X_move (v := (.int .i64 (((i : Nat) : Int)))) rfl ?_)
       by_cases hc24 : (((i : Nat) : Int) : Int) < (4)
       ·refine L_gy (dj := 84) rfl rfl rfl (X_cmp (k := .i64) (a := ((i : Nat) : Int)) (b := 4) (r := true) rfl rfl rfl (decide_eq_true (p := ((((i : Nat) : Int)) : Int) < ((4) : Int)) (by omega)) ?_)
        have hfi : fU ds i = true := by unfold fU; rw [hbt, decide_eq_true (show i < 4 by omega)]; rfl
        refine L_op rfl (X_pick (t := false) (v := (.bool (true))) rfl rfl ?_)
        refine L_nil ?_
        refine T_n ?_
        refine W_ct rfl ?_
        refine W_reg ?_
        refine L_op rfl (X_move (v := (.int .i64 (((nn : Nat) : Int)))) rfl ?_)
        refine L_op rfl (X_arith (k := .i64) (a := ((nn : Nat) : Int)) (b := 1) (r := ((nn - 1 : Nat) : Int)) rfl rfl rfl (isub64 (by omega) (by omega) (by omega)) ?_)
        refine L_op rfl (X_assign (v := (.int .i64 (((nn - 1 : Nat) : Int)))) rfl ?_)
        refine L_nil ?_
        refine B_n ?_
        refine T_n ?_
        refine W_reg ?_
        refine L_op rfl (X_move (v := (.int .i64 (((i : Nat) : Int)))) rfl ?_)
        refine L_op rfl (X_arith (k := .i64) (a := ((i : Nat) : Int)) (b := 1) (r := ((i + 1 : Nat) : Int)) rfl rfl rfl (iadd64 (by omega) (by omega) (by omega)) ?_)
        refine L_op rfl (X_assign (v := (.int .i64 (((i + 1 : Nat) : Int)))) rfl ?_)
        refine L_nil ?_
        refine T_n ?_
        exact ⟨rfl, (i + 1, nn - 1), ⟨⟨by omega, by rw [cnt_hit hfi]; omega, rfl⟩, (by show m - (i + 1) < m - i; omega)⟩, (Out.mk rfl), ⟨rfl, rfl, trivial⟩⟩
       ·refine L_gy (dj := 84) rfl rfl rfl (X_cmp (k := .i64) (a := ((i : Nat) : Int)) (b := 4) (r := false) rfl rfl rfl (decide_eq_false (p := ((((i : Nat) : Int)) : Int) < ((4) : Int)) (by omega)) ?_)
        have hfi : fU ds i = false := by unfold fU; rw [hbt, decide_eq_false (show ¬ i < 4 by omega)]; rfl
        refine L_op rfl (X_pick (t := false) (v := (.bool (false))) rfl rfl ?_)
        refine L_nil ?_
        refine T_n ?_
        refine W_cf rfl ?_
        refine W_skip ?_
        refine B_n ?_
        refine T_n ?_
        refine W_reg ?_
        refine L_op rfl (X_move (v := (.int .i64 (((i : Nat) : Int)))) rfl ?_)
        refine L_op rfl (X_arith (k := .i64) (a := ((i : Nat) : Int)) (b := 1) (r := ((i + 1 : Nat) : Int)) rfl rfl rfl (iadd64 (by omega) (by omega) (by omega)) ?_)
        refine L_op rfl (X_assign (v := (.int .i64 (((i + 1 : Nat) : Int)))) rfl ?_)
        refine L_nil ?_
        refine T_n ?_
        exact ⟨rfl, (i + 1, nn), ⟨⟨by omega, by rw [cnt_miss hfi]; omega, rfl⟩, (by show m - (i + 1) < m - i; omega)⟩, (Out.mk rfl), ⟨rfl, rfl, trivial⟩⟩
     ·refine L_op rfl (X_cmp (k := .i64) (a := ((i : Nat) : Int)) (b := ((m : Nat) : Int)) (r := false) rfl rfl rfl (decide_eq_false (p := ((((i : Nat) : Int)) : Int) < ((((m : Nat) : Int)) : Int)) (by omega)) ?_)
      refine L_nil ?_
      refine T_n ?_
      refine W_cf rfl ?_
      refine W_exit ?_
      refine T_e ?_
      refine T_e ?_
      refine B_x ?_
      refine T_n ?_
      refine W_seq ?_
      refine W_reg ?_
      refine L_op rfl (X_move (v := (.int .i64 (((m : Nat) : Int)))) rfl ?_)
      refine L_op rfl (X_move (v := dv) rfl ?_)
      have him2 : i = m := by omega
      obtain ⟨sA, hsA_⟩ : ∃ n, n = w8.heap.size := ⟨_, rfl⟩
      have hcr_ := c_new ((m : Nat) : Int) dv ds w8 lo up (by omega) hd (by omega)
      refine L_op rfl (X_fn (vs := [(.int .i64 (((m : Nat) : Int))), dv]) en14 rfl ?_)
      refine CT.mono hcr_ ?_
      clear hcr_
      rintro _ w25 ⟨_, hq_, hu25⟩
      obtain ⟨uA, rfl, hAA⟩ := hq_ ⟨by omega, by omega, hgood⟩
      rw [Int.toNat_natCast] at hAA
      have hz25 := hu25.size
      obtain ⟨eA, heA_⟩ : ∃ n, n = w25.heap.size := ⟨_, rfl⟩
      rw [← hsA_, ← heA_] at hAA
      have hsvA := hAA.1.sv
      have hRA : (⟨((m : Nat) : Int), uA, .slice none 0 0, (setAll (List.replicate m false) ([0, 1, 2, 3] ++ ds)), []⟩ : Sp).Rd w25 sA eA := ⟨hAA.rd, NRd.nil _ _ _⟩
      replace hd := hd.ext hu25
      replace hB7 := hB7.ext hu25
      replace hb := hb.ext hu25
      replace hU := hU.trans (Ext.upd hu25)
      refine L_op rfl (X_move (v := (.tuple #[(.agg #[(.int .i64 (((m : Nat) : Int))), uA, (.slice none 0 0)]), (.int .i64 (0))])) rfl ?_)
      refine L_op rfl (X_extract (l := [(.agg #[(.int .i64 (((m : Nat) : Int))), uA, (.slice none 0 0)]), (.int .i64 (0))]) (v := (.agg #[(.int .i64 (((m : Nat) : Int))), uA, (.slice none 0 0)])) rfl rfl ?_)
      refine L_op rfl (X_extract (l := [(.agg #[(.int .i64 (((m : Nat) : Int))), uA, (.slice none 0 0)]), (.int .i64 (0))]) (v := (.int .i64 (0))) rfl rfl ?_)
      refine L_op rfl (X_alloc (z := (.agg #[(.int .i64 (0)), (.slice none 0 0), (.slice none 0 0)])) (c := #[(.int .i64 (0)), (.slice none 0 0), (.slice none 0 0)]) Zv25 rfl ?_)
      intro b26 w26 hn26
      have hbn26 := hn26.num; have hbs26 := hn26.size
      replace hd := hd.ext hn26.ext
      replace hB7 := hB7.ext hn26.ext
      replace hb := hb.ext hn26.ext
      replace hU := hU.trans (Ext.upd hn26.ext)
      replace hRA := hRA.ext hn26.ext
      have hB26 := hn26.blk
      refine L_op0 (X_storeW (b := b26) (ys := [(.int .i64 (((m : Nat) : Int))), uA, (.slice none 0 0)]) A25 rfl rfl (List.forall_mem_cons.2 ⟨rfl, (List.forall_mem_cons.2 ⟨(hsvA.one), (List.forall_mem_cons.2 ⟨rfl, (fun _ h => by cases h)⟩)⟩)⟩) rfl hB26 rfl ?_)
      intro w27 hu27 hb27
      have hz27 := hu27.size
      replace hd := hd.upd hu27 fun i h1 h2 h => by have h : i = b26 := h; omega
      replace hB7 := hB7.upd hu27 fun h => by have h : b7 = b26 := h; omega
      replace hb := hb.upd hu27 fun i h1 h2 h => by have h : i = b26 := h; omega
      replace hU := hU.trans (hu27.mono fun i _ h => by have h : i = b26 := h; show n0 ≤ i; omega)
      replace hRA := hRA.upd hu27 fun i h1 h2 h => by have h : i = b26 := h; omega
      replace hB26 : Blk w27 b26 #[(.int .i64 (((m : Nat) : Int))), uA, (.slice none 0 0)] 25 := hb27
      refine L_op rfl (X_assign (v := (.int .i64 (0))) rfl ?_)
      refine L_nil ?_
      refine T_n ?_
      refine W_seq ?_
      refine W_reg ?_
      refine L_op rfl (X_move (v := (.int .i64 (((m : Nat) : Int)))) rfl ?_)
      refine L_op rfl (X_move (v := vb) rfl ?_)
      refine L_op rfl (X_move (v := dv) rfl ?_)
      refine L_op rfl (X_append (B := sb) (n := ds.reverse.length) (s := vb) (x := dv) S37 ⟨_, Try.underlying37⟩ rfl rfl hb.1 hd.1 (NRd.sub_one hd) (by unfold maxLen; rw [List.length_reverse]; omega) (by rw [List.length_reverse]; omega) (by omega) ?_)
      intro v6 w6 hO6 hu6 _
      have hz6 := hu6.size
      have hb6 : NOwn LI w6 3 5 sb w6.heap.size v6 (ds.reverse ++ ds) := NOwn.of (fun _ => rfl) (hO6.eq (by rw [List.length_append]) (by rw [List.flatMap_append])) fun b hb => (hO6.lt hb).2
      replace hd := hd.upd hu6 fun i h1 h2 h => by have h1_ := hb.1.lt h; have h2_ := hb.2.1 _ h; omega
      replace hB7 := hB7.upd hu6 fun h => by have h1_ := hb.1.lt h; have h2_ := hb.2.1 _ h; omega
      replace hU := hU.trans (hu6.mono fun i _ h => by have h1_ := hb.1.lt h; have h2_ := hb.2.1 _ h; show n0 ≤ i; omega)
      replace hRA := hRA.upd hu6 fun i h1 h2 h => by have h1_ := hb.1.lt h; have h2_ := hb.2.1 _ h; omega
      replace hB26 := hB26.upd hu6 fun h => by have h1_ := hb.1.lt h; have h2_ := hb.2.1 _ h; omega
      obtain ⟨u5, hu5_⟩ : ∃ n, n = w6.heap.size := ⟨_, rfl⟩
      rw [← hu5_] at hb6
      obtain ⟨sB, hsB_⟩ : ∃ n, n = w6.heap.size := ⟨_, rfl⟩
      have hcr_ := c_new ((m : Nat) : Int) v6 (ds.reverse ++ ds) w6 sb u5 (by omega) hb6.rd (by rw [List.length_append, List.length_reverse]; omega)
      refine L_op rfl (X_fn (vs := [(.int .i64 (((m : Nat) : Int))), v6]) en14 rfl ?_)
      refine CT.mono hcr_ ?_
      clear hcr_
      rintro _ w28 ⟨_, hq_, hu28⟩
      obtain ⟨uB, rfl, hAB⟩ := hq_ ⟨by omega, by omega, fun a h_ => (List.mem_append.1 h_).elim (fun h1 => hgood a (List.mem_reverse.1 h1)) (hgood a)⟩
      rw [Int.toNat_natCast, uA_twice hpos] at hAB
      have hz28 := hu28.size
      obtain ⟨eB, heB_⟩ : ∃ n, n = w28.heap.size := ⟨_, rfl⟩
      rw [← hsB_, ← heB_] at hAB
      have hsvB := hAB.1.sv
      have hRB : (⟨((m : Nat) : Int), uB, .slice none 0 0, (setAll (List.replicate m false) ([0, 1, 2, 3] ++ ds)), []⟩ : Sp).Rd w28 sB eB := ⟨hAB.rd, NRd.nil _ _ _⟩
      replace hd := hd.ext hu28
      replace hB7 := hB7.ext hu28
      replace hU := hU.trans (Ext.upd hu28)
      replace hRA := hRA.ext hu28
      replace hB26 := hB26.ext hu28
      replace hb6 := hb6.ext hu28
      refine L_op rfl (X_move (v := (.tuple #[(.agg #[(.int .i64 (((m : Nat) : Int))), uB, (.slice none 0 0)]), (.int .i64 (0))])) rfl ?_)
      refine L_op rfl (X_extract (l := [(.agg #[(.int .i64 (((m : Nat) : Int))), uB, (.slice none 0 0)]), (.int .i64 (0))]) (v := (.agg #[(.int .i64 (((m : Nat) : Int))), uB, (.slice none 0 0)])) rfl rfl ?_)
      refine L_op rfl (X_extract (l := [(.agg #[(.int .i64 (((m : Nat) : Int))), uB, (.slice none 0 0)]), (.int .i64 (0))]) (v := (.int .i64 (0))) rfl rfl ?_)
      refine L_op rfl (X_alloc (z := (.agg #[(.int .i64 (0)), (.slice none 0 0), (.slice none 0 0)])) (c := #[(.int .i64 (0)), (.slice none 0 0), (.slice none 0 0)]) Zv25 rfl ?_)
      intro b29 w29 hn29
      have hbn29 := hn29.num; have hbs29 := hn29.size
      replace hd := hd.ext hn29.ext
      replace hB7 := hB7.ext hn29.ext
      replace hU := hU.trans (Ext.upd hn29.ext)
      replace hRA := hRA.ext hn29.ext
      replace hB26 := hB26.ext hn29.ext
      replace hb6 := hb6.ext hn29.ext
      replace hRB := hRB.ext hn29.ext
      have hB29 := hn29.blk
      refine L_op0 (X_storeW (b := b29) (ys := [(.int .i64 (((m : Nat) : Int))), uB, (.slice none 0 0)]) A25 rfl rfl (List.forall_mem_cons.2 ⟨rfl, (List.forall_mem_cons.2 ⟨(hsvB.one), (List.forall_mem_cons.2 ⟨rfl, (fun _ h => by cases h)⟩)⟩)⟩) rfl hB29 rfl ?_)
      intro w30 hu30 hb30
      have hz30 := hu30.size
      replace hd := hd.upd hu30 fun i h1 h2 h => by have h : i = b29 := h; omega
      replace hB7 := hB7.upd hu30 fun h => by have h : b7 = b29 := h; omega
      replace hU := hU.trans (hu30.mono fun i _ h => by have h : i = b29 := h; show n0 ≤ i; omega)
      replace hRA := hRA.upd hu30 fun i h1 h2 h => by have h : i = b29 := h; omega
      replace hB26 := hB26.upd hu30 fun h => by have h : b26 = b29 := h; omega
      replace hb6 := hb6.upd hu30 fun i h1 h2 h => by have h : i = b29 := h; omega
      replace hRB := hRB.upd hu30 fun i h1 h2 h => by have h : i = b29 := h; omega
      replace hB29 : Blk w30 b29 #[(.int .i64 (((m : Nat) : Int))), uB, (.slice none 0 0)] 25 := hb30
      refine L_op rfl (X_assign (v := (.int .i64 (0))) rfl ?_)
      refine L_nil ?_
      refine T_n ?_
      refine W_seq ?_
      refine W_seq ?_
      refine W_reg ?_
      refine L_op rfl (X_move (v := (.int .i64 (0))) rfl ?_)
      refine L_op rfl (X_cmp (k := .i64) (a := 0) (b := 0) (r := false) rfl rfl rfl rfl ?_)
      refine L_op rfl (X_move (v := (.bool (false))) rfl ?_)
      refine L_gy (dj := 106) rfl rfl rfl (X_move (v := (.int .i64 (0))) rfl ?_)
      refine L_gy (dj := 106) rfl rfl rfl (X_cmp (k := .i64) (a := 0) (b := 0) (r := false) rfl rfl rfl rfl ?_)
      refine L_op rfl (X_pick (t := false) (v := (.bool (false))) rfl rfl ?_)
      refine L_op rfl (X_move (v := (.bool (false))) rfl ?_)
      refine L_gy (dj := 110) rfl rfl rfl (X_loadA (p := (ptr b26 (0))) (xs := [(.int .i64 (((m : Nat) : Int))), uA, (.slice none 0 0)]) A25 rfl hB26.atAll rfl ?_)
      refine L_gy (dj := 110) rfl rfl rfl (X_loadA (p := (ptr b29 (0))) (xs := [(.int .i64 (((m : Nat) : Int))), uB, (.slice none 0 0)]) A25 rfl hB29.atAll rfl ?_)
      have hcr_ := c_sameL (⟨((m : Nat) : Int), uA, .slice none 0 0, (setAll (List.replicate m false) ([0, 1, 2, 3] ++ ds)), []⟩ : Sp) (⟨((m : Nat) : Int), uB, .slice none 0 0, (setAll (List.replicate m false) ([0, 1, 2, 3] ++ ds)), []⟩ : Sp) w30 sA eA sB eB hRA hRB
      refine L_gy (dj := 110) rfl rfl rfl (X_fn (vs := [(.agg ([(.int .i64 (((m : Nat) : Int))), uA, (.slice none 0 0)]).toArray), (.agg ([(.int .i64 (((m : Nat) : Int))), uB, (.slice none 0 0)]).toArray)]) en10 rfl ?_)
      refine CT.mono hcr_ ?_
      clear hcr_
      rintro _ w31 ⟨⟨g_, rfl, hg_⟩, hu31⟩
      have hz31 := hu31.size
      replace hd := hd.ext hu31
      replace hB7 := hB7.ext hu31
      replace hU := hU.trans (Ext.upd hu31)
      replace hRA := hRA.ext hu31
      replace hB26 := hB26.ext hu31
      replace hb6 := hb6.ext hu31
      replace hRB := hRB.ext hu31
      replace hB29 := hB29.ext hu31
      obtain rfl : g_ = true := hg_.2 ⟨rfl, rfl, rfl⟩
      refine L_gy (dj := 110) rfl rfl rfl (X_not (b := true) (r := false) rfl rfl ?_)
      refine L_op rfl (X_pick (t := false) (v := (.bool (false))) rfl rfl ?_)
      refine L_op rfl (X_move (v := (.bool (false))) rfl ?_)
      refine L_gy (dj := 116) rfl rfl rfl (X_loadA (p := (ptr b26 (0))) (xs := [(.int .i64 (((m : Nat) : Int))), uA, (.slice none 0 0)]) A25 rfl hB26.atAll rfl ?_)
      have hln := left_new (ds := ds) (m := m) hpos (by omega) (by omega)
      have hcr_ := c_left (⟨((m : Nat) : Int), uA, .slice none 0 0, (setAll (List.replicate m false) ([0, 1, 2, 3] ++ ds)), []⟩ : Sp) 1 (.slice none 0 0) [] w31 sA eA 0 0 (by omega) (Nat.zero_le _) (by intro x hx; cases hx) (by decide) (by decide) hRA (NRd.nil _ _ _)
      refine L_gy (dj := 116) rfl rfl rfl (X_fn (vs := [(.agg ([(.int .i64 (((m : Nat) : Int))), uA, (.slice none 0 0)]).toArray), (.int .u32 (1)), (.slice none 0 0)]) en12 rfl ?_)
      refine CT.mono hcr_ ?_
      clear hcr_
      rintro _ w32 ⟨rfl, hu32⟩
      have hz32 := hu32.size
      replace hd := hd.ext hu32
      replace hB7 := hB7.ext hu32
      replace hU := hU.trans (Ext.upd hu32)
      replace hRA := hRA.ext hu32
      replace hB26 := hB26.ext hu32
      replace hb6 := hb6.ext hu32
      replace hRB := hRB.ext hu32
      replace hB29 := hB29.ext hu32
      rw [him2] at hnn
      have hln2 : (opL (⟨((m : Nat) : Int), uA, .slice none 0 0, (setAll (List.replicate m false) ([0, 1, 2, 3] ++ ds)), []⟩ : Sp).sz (⟨((m : Nat) : Int), uA, .slice none 0 0, (setAll (List.replicate m false) ([0, 1, 2, 3] ++ ds)), []⟩ : Sp).us (⟨((m : Nat) : Int), uA, .slice none 0 0, (setAll (List.replicate m false) ([0, 1, 2, 3] ++ ds)), []⟩ : Sp).ls 1 []).length = nn := by show (opL ((m : Nat) : Int) (setAll (List.replicate m false) ([0, 1, 2, 3] ++ ds)) [] 1 []).length = nn; omega
      rw [hln2]
      have hlA : (setAll (List.replicate m false) ([0, 1, 2, 3] ++ ds)).length = m := rep_len _ _
      refine L_gy (dj := 116) rfl rfl rfl (X_move (v := (.int .i64 (((nn : Nat) : Int)))) rfl ?_)
      refine L_gy (dj := 116) rfl rfl rfl (X_cmp (k := .i64) (a := ((nn : Nat) : Int)) (b := ((nn : Nat) : Int)) (r := false) rfl rfl rfl (decide_eq_false (p := ((((nn : Nat) : Int)) : Int) ≠ ((((nn : Nat) : Int)) : Int)) (by omega)) ?_)
      refine L_op rfl (X_pick (t := false) (v := (.bool (false))) rfl rfl ?_)
      refine L_op rfl (X_move (v := (.bool (false))) rfl ?_)
      refine L_gy (dj := 122) rfl rfl rfl (X_fldP (b := b26) (o := 0) (r := 1) Fd25_1 rfl rfl ?_)
      refine L_gy (dj := 122) rfl rfl rfl (X_load (p := (ptr b26 (1))) (v := uA) T22 rfl (hB26.at1 rfl) ?_)
      refine L_gy (dj := 122) rfl rfl rfl (X_len (v := uA) (n := (setAll (List.replicate m false) ([0, 1, 2, 3] ++ ds)).length) Try.underlying22 rfl hsvA ?_)
      refine L_gy (dj := 122) rfl rfl rfl (X_move (v := (.int .i64 (((m : Nat) : Int)))) rfl ?_)
      refine L_gy (dj := 122) rfl rfl rfl (X_cmp (k := .i64) (a := (((setAll (List.replicate m false) ([0, 1, 2, 3] ++ ds)).length : Nat) : Int)) (b := ((m : Nat) : Int)) (r := false) rfl rfl rfl (decide_eq_false (p := (((((setAll (List.replicate m false) ([0, 1, 2, 3] ++ ds)).length : Nat) : Int)) : Int) ≠ ((((m : Nat) : Int)) : Int)) (by omega)) ?_)
      refine L_op rfl (X_pick (t := false) (v := (.bool (false))) rfl rfl ?_)
      refine L_nil ?_
      refine T_n ?_
      refine W_cf rfl ?_
      refine W_skip ?_
      refine T_n ?_
      refine W_seq ?_
      refine W_seq ?_
      refine W_reg ?_
      refine L_op rfl (X_assign (v := (.int .i64 (0))) rfl ?_)
      refine L_nil ?_
      refine T_n ?_
      refine W_block ?_
      have hlA : (setAll (List.replicate m false) ([0, 1, 2, 3] ++ ds)).length = m := rep_len _ _
      refine W_loop (α := Nat) [4, 16, 129, 130, 131, 132, 133, 134, 135, 136, 137, 138, 139, 140, 141, 142, 143, 144, 145, 146] (fun k => [(16, (.int .i64 (((k : Nat) : Int))))]) (fun k w_ => k ≤ m ∧ (⟨((m : Nat) : Int), uA, .slice none 0 0, (setAll (List.replicate m false) ([0, 1, 2, 3] ++ ds)), []⟩ : Sp).Rd w_ sA eA ∧ Blk w_ b7 ((setAll (List.replicate 256 false) ds).map Value.bool).toArray 38 ∧ Blk w_ b26 #[.int .i64 ((m : Nat) : Int), uA, .slice none 0 0] 25 ∧ Upd (fun i => n0 ≤ i) w w_) (fun k => m - k) ⟨rfl, 0, ⟨Nat.zero_le _, hRA, hB7, hB26, hU⟩, Out.refl _ _, ⟨rfl, trivial⟩⟩ ?_
      rintro k w33 _ ⟨hkm, hRA, hB7, hB26, hU⟩
      have hsz_ := hU.size
      refine W_seq ?_
      refine W_seq ?_
      refine W_reg ?_
      refine L_op rfl (X_move (v := (.int .i64 (((k : Nat) : Int)))) rfl ?_)
      refine L_op rfl (X_move (v := (.int .i64 (((m : Nat) : Int)))) rfl ?_)
      by_cases hc34 : (((k : Nat) : Int) : Int) < (((m : Nat) : Int))
      ·refine L_op rfl (X_cmp (k := .i64) (a := ((k : Nat) : Int)) (b := ((m : Nat) : Int)) (r := true) rfl rfl rfl (decide_eq_true (p := ((((k : Nat) : Int)) : Int) < ((((m : Nat) : Int)) : Int)) (by omega)) ?_)
       refine L_nil ?_
       refine T_n ?_
       refine W_ct rfl ?_
       refine W_skip ?_
       refine T_n ?_
       refine W_seq ?_
       refine W_block ?_
       refine W_seq ?_
       rcases Bool.eq_false_or_eq_true (decide ((k : Int) ∈ ds)) with hs35 | hs35
       ·have htk_ : (setAll (List.replicate 256 false) ds)[k]? = some true := (rep_get (m := 256) (k := k) hpos (by omega)).trans (congrArg some hs35)
        have hak_ : (setAll (List.replicate m false) ([0, 1, 2, 3] ++ ds))[k]? = some true := by rw [uA_get hpos (by omega)]; unfold fU; rw [hs35]; rfl
        refine W_draw 12 [[], [0], [], [0, 1, 2], [0, 1, 2, 3], [], [5], [5, 6], [5, 6, 7], [5, 6, 7, 8], [5, 6, 7, 8, 9], [5, 6, 7, 8, 9, 10], [0, 1, 2, 3, 4, 5, 6, 7, 8, 9, 10, 11]] mixed (by kernel_rfl) ?_
        refine ⟨.det (fun val => (ptr b26 (1))), ⟨fun _ _ hv => rfl, fun _ _ _ _ _ => trivial⟩, fun val h_ W hx he => ⟨trivial, ?_⟩, ?_⟩
        ·exact X_fldP (b := b26) (o := 0) (r := 1) Fd25_1 rfl rfl ⟨Upd.refl _ _, rfl⟩
        refine ⟨.det (fun val => uA), ⟨fun _ _ hv => rfl, fun _ _ _ _ _ => trivial⟩, fun val h_ W hx he => ⟨trivial, ?_⟩, ?_⟩
        ·replace hx := (Upd.drew _ _).trans hx
         replace hB26 := hB26.ext hx
         refine id (X_load (p := (ptr b26 (1))) (v := uA) T22 rfl (hB26.at1 rfl) ?_)
         exact ⟨Upd.refl _ _, rfl⟩
        refine ⟨.det (fun val => (.int .i64 (((k : Nat) : Int)))), ⟨fun _ _ hv => rfl, fun _ _ _ _ _ => trivial⟩, fun val h_ W hx he => ⟨trivial, ?_⟩, ?_⟩
        ·exact X_move (v := (.int .i64 (((k : Nat) : Int)))) rfl ⟨Upd.refl _ _, rfl⟩
        refine ⟨.det (fun val => (pof uA ((((k : Nat) : Int) : Int).toNat * 1))), ⟨fun _ _ hv => rfl, fun _ _ _ _ _ => trivial⟩, fun val h_ W hx he => ⟨trivial, ?_⟩, ?_⟩
        ·exact X_idx (v := uA) (n := (setAll (List.replicate m false) ([0, 1, 2, 3] ++ ds)).length) (k := .i64) (i := ((k : Nat) : Int)) S22 rfl hsvA rfl (by omega) (by omega) ⟨Upd.refl _ _, rfl⟩
        refine ⟨.det (fun val => (.bool (true))), ⟨fun _ _ hv => rfl, fun _ _ _ _ _ => trivial⟩, fun val h_ W hx he => ⟨trivial, ?_⟩, ?_⟩
        ·replace hx := (Upd.drew _ _).trans hx
         replace hRA := hRA.ext hx
         refine id (X_load (p := (pof uA ((((k : Nat) : Int) : Int).toNat * 1))) (v := .bool true) T4 rfl (bat hRA.1 (Int.toNat_natCast _) hak_) ?_)
         exact ⟨Upd.refl _ _, rfl⟩
        refine ⟨.det (fun val => (.int .i64 (((k : Nat) : Int)))), ⟨fun _ _ hv => rfl, fun _ _ _ _ _ => trivial⟩, fun val h_ W hx he => ⟨trivial, ?_⟩, ?_⟩
        ·exact X_move (v := (.int .i64 (((k : Nat) : Int)))) rfl ⟨Upd.refl _ _, rfl⟩
        refine ⟨.det (fun val => (ptr b7 ((((k : Nat) : Int) : Int).toNat))), ⟨fun _ _ hv => rfl, fun _ _ _ _ _ => trivial⟩, fun val h_ W hx he => ⟨trivial, ?_⟩, ?_⟩
        ·exact X_idxAP (len := 256) (sz := 1) (b := b7) (o := 0) (k := .i64) (i := ((k : Nat) : Int)) (r := (((k : Nat) : Int) : Int).toNat) Try.underlying38 Z4 rfl rfl (by omega) (by omega) (by omega) ⟨Upd.refl _ _, rfl⟩
        refine ⟨.det (fun val => (.bool (true))), ⟨fun _ _ hv => rfl, fun _ _ _ _ _ => trivial⟩, fun val h_ W hx he => ⟨trivial, ?_⟩, ?_⟩
        ·replace hx := (Upd.drew _ _).trans hx
         replace hB7 := hB7.ext hx
         refine id (X_load (p := (ptr b7 ((((k : Nat) : Int) : Int).toNat))) (v := .bool true) T4 rfl (hB7.at1 (bget (Int.toNat_natCast _) htk_)) ?_)
         exact ⟨Upd.refl _ _, rfl⟩
        refine ⟨.det (fun val => (.bool (true))), ⟨fun _ _ hv => rfl, fun _ _ _ _ _ => trivial⟩, fun val h_ W hx he => ⟨trivial, ?_⟩, ?_⟩
        ·exact X_move (v := (.bool (true))) rfl ⟨Upd.refl _ _, rfl⟩
        refine ⟨.no, ⟨fun _ _ _ => trivial, fun _ _ _ _ _ => trivial⟩, fun val h_ W hx he => ⟨142, rfl, .inl rfl⟩, ?_⟩
        refine ⟨.no, ⟨fun _ _ _ => trivial, fun _ _ _ _ _ => trivial⟩, fun val h_ W hx he => ⟨142, rfl, .inl rfl⟩, ?_⟩
        refine ⟨.det (fun val => (.bool (true))), ⟨fun _ _ hv => rfl, fun _ _ _ _ _ => trivial⟩, fun val h_ W hx he => ⟨trivial, ?_⟩, ?_⟩
        ·exact X_pick (t := true) (v := (.bool (true))) rfl rfl ⟨Upd.refl _ _, rfl⟩
        intro val W36 hx36 he36
        replace hx36 := (Upd.drew _ _).trans hx36
        have hz36 := hx36.size
        replace hRA := hRA.ext hx36
        replace hB7 := hB7.ext hx36
        replace hB26 := hB26.ext hx36
        replace hU := hU.trans (Ext.upd hx36)
        refine L_op rfl (X_cmpBool (a := true) (b := true) (r := false) Try.underlying4 rfl rfl (.inr ⟨rfl, rfl⟩) ?_)
        refine L_nil ?_
        refine T_n ?_
        refine W_cf rfl ?_
        refine W_skip ?_
        refine B_n ?_
        refine T_n ?_
        refine W_reg ?_
        refine L_op rfl (X_move (v := (.int .i64 (((k : Nat) : Int)))) rfl ?_)
        refine L_op rfl (X_arith (k := .i64) (a := ((k : Nat) : Int)) (b := 1) (r := ((k + 1 : Nat) : Int)) rfl rfl rfl (iadd64 (by omega) (by omega) (by omega)) ?_)
        refine L_op rfl (X_assign (v := (.int .i64 (((k + 1 : Nat) : Int)))) rfl ?_)
        refine L_nil ?_
        refine T_n ?_
        exact ⟨rfl, k + 1, ⟨⟨by omega, hRA, hB7, hB26, hU⟩, (by show m - (k + 1) < m - k; omega)⟩, (Out.mk rfl), ⟨rfl, trivial⟩⟩
       ·rcases Bool.eq_false_or_eq_true (decide (k < 4)) with hs37 | hs37
        ·have htk_ : (setAll (List.replicate 256 false) ds)[k]? = some false := (rep_get (m := 256) (k := k) hpos (by omega)).trans (congrArg some hs35)
         have hak_ : (setAll (List.replicate m false) ([0, 1, 2, 3] ++ ds))[k]? = some true := by rw [uA_get hpos (by omega)]; unfold fU; rw [hs35, hs37]; rfl
         refine W_draw 12 [[], [0], [], [0, 1, 2], [0, 1, 2, 3], [], [5], [5, 6], [5, 6, 7], [5, 6, 7, 8], [5, 6, 7, 8, 9], [5, 6, 7, 8, 9, 10], [0, 1, 2, 3, 4, 5, 6, 7, 8, 9, 10, 11]] mixed (by kernel_rfl) ?_
         refine ⟨.det (fun val => (ptr b26 (1))), ⟨fun _ _ hv => rfl, fun _ _ _ _ _ => trivial⟩, fun val h_ W hx he => ⟨trivial, ?_⟩, ?_⟩
         ·exact X_fldP (b := b26) (o := 0) (r := 1) Fd25_1 rfl rfl ⟨Upd.refl _ _, rfl⟩
         refine ⟨.det (fun val => uA), ⟨fun _ _ hv => rfl, fun _ _ _ _ _ => trivial⟩, fun val h_ W hx he => ⟨trivial, ?_⟩, ?_⟩
         ·replace hx := (Upd.drew _ _).trans hx
          replace hB26 := hB26.ext hx
          refine id (X_load (p := (ptr b26 (1))) (v := uA) T22 rfl (hB26.at1 rfl) ?_)
          exact ⟨Upd.refl _ _, rfl⟩
         refine ⟨.det (fun val => (.int .i64 (((k : Nat) : Int)))), ⟨fun _ _ hv => rfl, fun _ _ _ _ _ => trivial⟩, fun val h_ W hx he => ⟨trivial, ?_⟩, ?_⟩
         ·exact X_move (v := (.int .i64 (((k : Nat) : Int)))) rfl ⟨Upd.refl _ _, rfl⟩
         refine ⟨.det (fun val => (pof uA ((((k : Nat) : Int) : Int).toNat * 1))), ⟨fun _ _ hv => rfl, fun _ _ _ _ _ => trivial⟩, fun val h_ W hx he => ⟨trivial, ?_⟩, ?_⟩
         ·exact X_idx (v := uA) (n := (setAll (List.replicate m false) ([0, 1, 2, 3] ++ ds)).length) (k := .i64) (i := ((k : Nat) : Int)) S22 rfl hsvA rfl (by omega) (by omega) ⟨Upd.refl _ _, rfl⟩
         refine ⟨.det (fun val => (.bool (true))), ⟨fun _ _ hv => rfl, fun _ _ _ _ _ => trivial⟩, fun val h_ W hx he => ⟨trivial, ?_⟩, ?_⟩
         ·replace hx := (Upd.drew _ _).trans hx
          replace hRA := hRA.ext hx
          refine id (X_load (p := (pof uA ((((k : Nat) : Int) : Int).toNat * 1))) (v := .bool true) T4 rfl (bat hRA.1 (Int.toNat_natCast _) hak_) ?_)
          exact ⟨Upd.refl _ _, rfl⟩
         refine ⟨.det (fun val => (.int .i64 (((k : Nat) : Int)))), ⟨fun _ _ hv => rfl, fun _ _ _ _ _ => trivial⟩, fun val h_ W hx he => ⟨trivial, ?_⟩, ?_⟩
         ·exact X_move (v := (.int .i64 (((k : Nat) : Int)))) rfl ⟨Upd.refl _ _, rfl⟩
         refine ⟨.det (fun val => (ptr b7 ((((k : Nat) : Int) : Int).toNat))), ⟨fun _ _ hv => rfl, fun _ _ _ _ _ => trivial⟩, fun val h_ W hx he => ⟨trivial, ?_⟩, ?_⟩
         ·exact X_idxAP (len := 256) (sz := 1) (b := b7) (o := 0) (k := .i64) (i := ((k : Nat) : Int)) (r := (((k : Nat) : Int) : Int).toNat) Try.underlying38 Z4 rfl rfl (by omega) (by omega) (by omega) ⟨Upd.refl _ _, rfl⟩
         refine ⟨.det (fun val => (.bool (false))), ⟨fun _ _ hv => rfl, fun _ _ _ _ _ => trivial⟩, fun val h_ W hx he => ⟨trivial, ?_⟩, ?_⟩
         ·replace hx := (Upd.drew _ _).trans hx
          replace hB7 := hB7.ext hx
          refine id (X_load (p := (ptr b7 ((((k : Nat) : Int) : Int).toNat))) (v := .bool false) T4 rfl (hB7.at1 (bget (Int.toNat_natCast _) htk_)) ?_)
          exact ⟨Upd.refl _ _, rfl⟩
         refine ⟨.det (fun val => (.bool (false))), ⟨fun _ _ hv => rfl, fun _ _ _ _ _ => trivial⟩, fun val h_ W hx he => ⟨trivial, ?_⟩, ?_⟩
         ·exact X_move (v := (.bool (false))) rfl ⟨Upd.refl _ _, rfl⟩
         refine ⟨.det (fun val => (.int .i64 (((k : Nat) : Int)))), ⟨fun _ _ hv => rfl, fun _ _ _ _ _ => trivial⟩, fun val h_ W hx he => ⟨⟨142, rfl, rfl⟩, ?_⟩, ?_⟩
         ·exact X_move (v := (.int .i64 (((k : Nat) : Int)))) rfl ⟨Upd.refl _ _, rfl⟩
         refine ⟨.det (fun val => (.bool (true))), ⟨fun _ _ hv => rfl, fun _ _ _ _ _ => trivial⟩, fun val h_ W hx he => ⟨⟨142, rfl, rfl⟩, ?_⟩, ?_⟩
         ·exact X_cmp (k := .i64) (a := ((k : Nat) : Int)) (b := 4) (r := true) rfl rfl rfl (decide_eq_true (p := ((k : Nat) : Int) < 4) (by have h_ := of_decide_eq_true hs37; omega)) ⟨Upd.refl _ _, rfl⟩
         refine ⟨.det (fun val => (.bool (true))), ⟨fun _ _ hv => rfl, fun _ _ _ _ _ => trivial⟩, fun val h_ W hx he => ⟨trivial, ?_⟩, ?_⟩
         ·exact X_pick (t := false) (v := (.bool (true))) rfl rfl ⟨Upd.refl _ _, rfl⟩
         intro val W38 hx38 he38
         replace hx38 := (Upd.drew _ _).trans hx38
         have hz38 := hx38.size
         replace hRA := hRA.ext hx38
         replace hB7 := hB7.ext hx38
         replace hB26 := hB26.ext hx38
         replace hU := hU.trans (Ext.upd hx38)
         refine L_op rfl (X_cmpBool (a := true) (b := true) (r := false) Try.underlying4 rfl rfl (.inr ⟨rfl, rfl⟩) ?_)
         refine L_nil ?_
         refine T_n ?_
         refine W_cf rfl ?_
         refine W_skip ?_
         refine B_n ?_
         refine T_n ?_
         refine W_reg ?_
         refine L_op rfl (X_move (v := (.int .i64 (((k : Nat) : Int)))) rfl ?_)
         refine L_op rfl (X_arith (k := .i64) (a := ((k : Nat) : Int)) (b := 1) (r := ((k + 1 : Nat) : Int)) rfl rfl rfl (iadd64 (by omega) (by omega) (by omega)) ?_)
         refine L_op rfl (X_assign (v := (.int .i64 (((k + 1 : Nat) : Int)))) rfl ?_)
         refine L_nil ?_
         refine T_n ?_
         exact ⟨rfl, k + 1, ⟨⟨by omega, hRA, hB7, hB26, hU⟩, (by show m - (k + 1) < m - k; omega)⟩, (Out.mk rfl), ⟨rfl, trivial⟩⟩
        ·have htk_ : (setAll (List.replicate 256 false) ds)[k]? = some false := (rep_get (m := 256) (k := k) hpos (by omega)).trans (congrArg some hs35)
         have hak_ : (setAll (List.replicate m false) ([0, 1, 2, 3] ++ ds))[k]? = some false := by rw [uA_get hpos (by omega)]; unfold fU; rw [hs35, hs37]; rfl
         refine W_draw 12 [[], [0], [], [0, 1, 2], [0, 1, 2, 3], [], [5], [5, 6], [5, 6, 7], [5, 6, 7, 8], [5, 6, 7, 8, 9], [5, 6, 7, 8, 9, 10], [0, 1, 2, 3, 4, 5, 6, 7, 8, 9, 10, 11]] mixed (by kernel_rfl) ?_
         refine ⟨.det (fun val => (ptr b26 (1))), ⟨fun _ _ hv => rfl, fun _ _ _ _ _ => trivial⟩, fun val h_ W hx he => ⟨trivial, ?_⟩, ?_⟩
         ·exact X_fldP (b := b26) (o := 0) (r := 1) Fd25_1 rfl rfl ⟨Upd.refl _ _, rfl⟩
         refine ⟨.det (fun val => uA), ⟨fun _ _ hv => rfl, fun _ _ _ _ _ => trivial⟩, fun val h_ W hx he => ⟨trivial, ?_⟩, ?_⟩
         ·replace hx := (Upd.drew _ _).trans hx
          replace hB26 := hB26.ext hx
          refine id (X_load (p := (ptr b26 (1))) (v := uA) T22 rfl (hB26.at1 rfl) ?_)
          exact ⟨Upd.refl _ _, rfl⟩
         refine ⟨.det (fun val => (.int .i64 (((k : Nat) : Int)))), ⟨fun _ _ hv => rfl, fun _ _ _ _ _ => trivial⟩, fun val h_ W hx he => ⟨trivial, ?_⟩, ?_⟩
         ·exact X_move (v := (.int .i64 (((k : Nat) : Int)))) rfl ⟨Upd.refl _ _, rfl⟩
         refine ⟨.det (fun val => (pof uA ((((k : Nat) : Int) : Int).toNat * 1))), ⟨fun _ _ hv => rfl, fun _ _ _ _ _ => trivial⟩, fun val h_ W hx he => ⟨trivial, ?_⟩, ?_⟩
         ·exact X_idx (v := uA) (n := (setAll (List.replicate m false) ([0, 1, 2, 3] ++ ds)).length) (k := .i64) (i := ((k : Nat) : Int)) S22 rfl hsvA rfl (by omega) (by omega) ⟨Upd.refl _ _, rfl⟩
         refine ⟨.det (fun val => (.bool (false))), ⟨fun _ _ hv => rfl, fun _ _ _ _ _ => trivial⟩, fun val h_ W hx he => ⟨trivial, ?_⟩, ?_⟩
         ·replace hx := (Upd.drew _ _).trans hx
          replace hRA := hRA.ext hx
          refine id (X_load (p := (pof uA ((((k : Nat) : Int) : Int).toNat * 1))) (v := .bool false) T4 rfl (bat hRA.1 (Int.toNat_natCast _) hak_) ?_)
          exact ⟨Upd.refl _ _, rfl⟩
         refine ⟨.det (fun val => (.int .i64 (((k : Nat) : Int)))), ⟨fun _ _ hv => rfl, fun _ _ _ _ _ => trivial⟩, fun val h_ W hx he => ⟨trivial, ?_⟩, ?_⟩
         ·exact X_move (v := (.int .i64 (((k : Nat) : Int)))) rfl ⟨Upd.refl _ _, rfl⟩
         refine ⟨.det (fun val => (ptr b7 ((((k : Nat) : Int) : Int).toNat))), ⟨fun _ _ hv => rfl, fun _ _ _ _ _ => trivial⟩, fun val h_ W hx he => ⟨trivial, ?_⟩, ?_⟩
         ·exact X_idxAP (len := 256) (sz := 1) (b := b7) (o := 0) (k := .i64) (i := ((k : Nat) : Int)) (r := (((k : Nat) : Int) : Int).toNat) Try.underlying38 Z4 rfl rfl (by omega) (by omega) (by omega) ⟨Upd.refl _ _, rfl⟩
         refine ⟨.det (fun val => (.bool (false))), ⟨fun _ _ hv => rfl, fun _ _ _ _ _ => trivial⟩, fun val h_ W hx he => ⟨trivial, ?_⟩, ?_⟩
         ·replace hx := (Upd.drew _ _).trans hx
          replace hB7 := hB7.ext hx
          refine id (X_load (p := (ptr b7 ((((k : Nat) : Int) : Int).toNat))) (v := .bool false) T4 rfl (hB7.at1 (bget (Int.toNat_natCast _) htk_)) ?_)
          exact ⟨Upd.refl _ _, rfl⟩
         refine ⟨.det (fun val => (.bool (false))), ⟨fun _ _ hv => rfl, fun _ _ _ _ _ => trivial⟩, fun val h_ W hx he => ⟨trivial, ?_⟩, ?_⟩
         ·exact X_move (v := (.bool (false))) rfl ⟨Upd.refl _ _, rfl⟩
         refine ⟨.det (fun val => (.int .i64 (((k : Nat) : Int)))), ⟨fun _ _ hv => rfl, fun _ _ _ _ _ => trivial⟩, fun val h_ W hx he => ⟨⟨142, rfl, rfl⟩, ?_⟩, ?_⟩
         ·exact X_move (v := (.int .i64 (((k : Nat) : Int)))) rfl ⟨Upd.refl _ _, rfl⟩
         refine ⟨.det (fun val => (.bool (false))), ⟨fun _ _ hv => rfl, fun _ _ _ _ _ => trivial⟩, fun val h_ W hx he => ⟨⟨142, rfl, rfl⟩, ?_⟩, ?_⟩
         ·exact X_cmp (k := .i64) (a := ((k : Nat) : Int)) (b := 4) (r := false) rfl rfl rfl (decide_eq_false (p := ((k : Nat) : Int) < 4) (by have h_ := of_decide_eq_false hs37; omega)) ⟨Upd.refl _ _, rfl⟩
         refine ⟨.det (fun val => (.bool (false))), ⟨fun _ _ hv => rfl, fun _ _ _ _ _ => trivial⟩, fun val h_ W hx he => ⟨trivial, ?_⟩, ?_⟩
         ·exact X_pick (t := false) (v := (.bool (false))) rfl rfl ⟨Upd.refl _ _, rfl⟩
         intro val W39 hx39 he39
         replace hx39 := (Upd.drew _ _).trans hx39
         have hz39 := hx39.size
         replace hRA := hRA.ext hx39
         replace hB7 := hB7.ext hx39
         replace hB26 := hB26.ext hx39
         replace hU := hU.trans (Ext.upd hx39)
         refine L_op rfl (X_cmpBool (a := false) (b := false) (r := false) Try.underlying4 rfl rfl (.inr ⟨rfl, rfl⟩) ?_)
         refine L_nil ?_
         refine T_n ?_
         refine W_cf rfl ?_
         refine W_skip ?_
         refine B_n ?_
         refine T_n ?_
         refine W_reg ?_
         refine L_op rfl (X_move (v := (.int .i64 (((k : Nat) : Int)))) rfl ?_)
         refine L_op rfl (X_arith (k := .i64) (a := ((k : Nat) : Int)) (b := 1) (r := ((k + 1 : Nat) : Int)) rfl rfl rfl (iadd64 (by omega) (by omega) (by omega)) ?_)
         refine L_op rfl (X_assign (v := (.int .i64 (((k + 1 : Nat) : Int)))) rfl ?_)
         refine L_nil ?_
         refine T_n ?_
         exact ⟨rfl, k + 1, ⟨⟨by omega, hRA, hB7, hB26, hU⟩, (by show m - (k + 1) < m - k; omega)⟩, (Out.mk rfl), ⟨rfl, trivial⟩⟩
      ·refine L_op rfl (X_cmp (k := .i64) (a := ((k : Nat) : Int)) (b := ((m : Nat) : Int)) (r := false) rfl rfl rfl (decide_eq_false (p := ((((k : Nat) : Int)) : Int) < ((((m : Nat) : Int)) : Int)) (by omega)) ?_)
       refine L_nil ?_
       refine T_n ?_
       refine W_cf rfl ?_
       refine W_exit ?_
       refine T_e ?_
       refine T_e ?_
       refine B_x ?_
       refine T_n ?_
       refine W_seq ?_
       refine W_reg ?_
       refine L_op rfl (X_fn (vs := []) en8 rfl (CT.mono (c_wakes _) ?_))
       rintro _ w40 ⟨rfl, hu40⟩
       have hz40 := hu40.size
       replace hRA := hRA.ext hu40
       replace hB7 := hB7.ext hu40
       replace hB26 := hB26.ext hu40
       replace hU := hU.trans (Ext.upd hu40)
       refine L_op rfl (X_assign (v := (.bool (true))) rfl ?_)
       refine L_nil ?_
       refine T_n ?_
       refine W_ret ?_
       exact BQ_r (End_1 Try.results4 (v := .bool true) rfl ⟨rfl, hU.own hn0⟩)
end Go.Proofs.Ytmaikcnjgkoghaa
