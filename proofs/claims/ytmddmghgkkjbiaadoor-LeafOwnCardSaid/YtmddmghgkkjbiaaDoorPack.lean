/-
  What chapter 06 takes over of chapter 02. (Printed by wip/gen/t06.py of this repo.)
-/
import Derived.Test.YtmddmghgkkjbiaaDoorHead
import Derived.Test.YtmddmghgkkjbiaaDoorBaseY
namespace Go.Proofs.YtmddmghgkkjbiaaDoor
open Go Go.SL Go.Proofs
set_option linter.unusedVariables false

def wideI (n : Int) : Int := max (min n 8) 1
def fillL (l : List UInt8) : List UInt8 := if 256 < l.length then List.replicate 256 0 else l ++ List.replicate (256 - l.length) 0
theorem zc24_eq : zc24 = (List.replicate 256 (0 : UInt8)).map byteV := by rw [List.map_replicate]; rfl
theorem fillL_length (l : List UInt8) : (fillL l).length = 256 := by
  unfold fillL
  split
  · rw [List.length_replicate]
  · rw [List.length_append, List.length_replicate]; omega

theorem ne0 (x : UInt8) : icmp .neq (x.toNat : Int) 0 = (x != 0) := by
  show decide ((x.toNat : Int) ≠ 0) = (x != 0)
  have h0 : ((x.toNat : Int) = 0) ↔ x = 0 := ⟨fun h => UInt8.toNat_inj.1 (by simpa using h), fun h => by subst h; rfl⟩
  rw [Bool.eq_iff_iff, decide_eq_true_eq, bne_iff_ne, ne_eq, ne_eq, h0]

theorem idx_yes {l : List UInt8} {i : Nat} (hi : i < l.length) (hx : (l[i] != 0) = true) : decide (0 ≤ ((i : Nat) : Int)) = !(l.all (· == 0)) := by
  rw [decide_eq_true (by omega), eq_comm, Bool.not_eq_true', List.all_eq_false]
  exact ⟨_, List.getElem_mem hi, by simpa using hx⟩
theorem zero_step {l : List UInt8} {i : Nat} (hi : i < l.length) (hx : l[i] = 0) (hz : ∀ j, j < i → l[j]? = some 0) : ∀ j, j < i + 1 → l[j]? = some 0 := fun j hj => by
  rcases Nat.lt_or_ge j i with h1 | h1
  · exact hz j h1
  · obtain rfl : j = i := by omega
    rw [List.getElem?_eq_getElem hi, hx]
theorem idx_no {l : List UInt8} {i : Nat} (hi : l.length ≤ i) (hz : ∀ j, j < i → l[j]? = some 0) : decide (0 ≤ (-1 : Int)) = !(l.all (· == 0)) := by
  rw [decide_eq_false (by decide), eq_comm, Bool.not_eq_false', List.all_eq_true]
  intro x hx
  obtain ⟨j, hj, rfl⟩ := List.getElem_of_mem hx
  have := hz j (by omega)
  rw [List.getElem?_eq_getElem hj] at this
  simpa using this

theorem c_wide (n : Int) (w : World) : CT Tryd.prog 57 #[(.int .i64 (n))] w fun v w' => v = .int .i64 (wideI n) ∧ w = w' := by
  refine CT_of Tryd.func57 rfl rfl rfl ?_
  refine W_seq ?_
  refine W_reg ?_
  refine L_op rfl (X_assign (v := (.int .i64 (0))) rfl ?_)
  refine L_nil ?_
  refine T_n ?_
  refine W_seq ?_
  refine W_reg ?_
  refine L_op rfl (X_move (v := (.int .i64 (n))) rfl ?_)
  refine L_op rfl (X_min (k := .i64) (a := n) (b := 8) (r := min n 8) rfl rfl (by omega) ?_)
  refine L_op rfl (X_max (k := .i64) (a := min n 8) (b := 1) (r := wideI n) rfl rfl (by unfold wideI; omega) ?_)
  refine L_op rfl (X_assign (v := (.int .i64 (wideI n))) rfl ?_)
  refine L_nil ?_
  refine T_n ?_
  refine W_ret ?_
  exact BQ_r (End_1 Tryd.results57 (v := .int .i64 (wideI n)) rfl ⟨rfl, rfl⟩)

theorem fill_cells {l : List UInt8} (h : l.length ≤ 256) : (((List.replicate 256 (0 : UInt8)).map byteV).toArray.toList.take 0 ++ (l.map byteV).take (min l.length 256) ++ ((List.replicate 256 (0 : UInt8)).map byteV).toArray.toList.drop (0 + min l.length 256)).toArray = ((fillL l).map byteV).toArray := by
  have e : min l.length 256 = (l.map byteV).length := by rw [List.length_map]; omega
  have e2 : ((List.replicate 256 (0 : UInt8)).map byteV).toArray.toList = (List.replicate 256 (0 : UInt8)).map byteV := rfl
  unfold fillL
  rw [if_neg (by omega), List.take_zero, List.nil_append, Nat.zero_add, e, List.take_length, e2, List.length_map, ← List.map_drop, List.drop_replicate, List.map_append]
theorem fill_more {l : List UInt8} (h : 256 < l.length) : fillL l = List.replicate 256 0 := by unfold fillL; rw [if_pos h]
def halvesL (o n : List UInt8) : List UInt8 := n.take 128 ++ o.drop 128
theorem halvesL_length {o n : List UInt8} (ho : o.length = 256) (hn : n.length = 256) : (halvesL o n).length = 256 := by
  unfold halvesL
  rw [List.length_append, List.length_take, List.length_drop]; omega
theorem halves_cells {o n : List UInt8} (hn : n.length = 256) : ((o.map byteV).toArray.toList.take 0 ++ (n.map byteV).take (min n.length 128) ++ (o.map byteV).toArray.toList.drop (0 + min n.length 128)).toArray = ((halvesL o n).map byteV).toArray := by
  have e : min n.length 128 = 128 := by omega
  have e2 : (o.map byteV).toArray.toList = o.map byteV := rfl
  unfold halvesL
  rw [List.take_zero, List.nil_append, Nat.zero_add, e, e2, ← List.map_take, ← List.map_drop, List.map_append]

theorem c_fill (b : Value) (l : List UInt8) (w : World) (hb : Rd w 1 b l.length (l.map byteV)) : CT Tryd.prog 23 #[b] w fun v w' => ∃ e : Int, v = .tuple #[.agg ((fillL l).map byteV).toArray, .int .i64 e] ∧ (256 < l.length → e = 21) ∧ (l.length ≤ 256 → e = 0) ∧ Ext w w' := by
  obtain ⟨n0, hn0⟩ : ∃ n, n = w.heap.size := ⟨_, rfl⟩
  have hU : Upd (fun i => n0 ≤ i) w w := Upd.refl _ _
  have hb_b : ∀ i, rbk b = some i → i < n0 := by rw [hn0]; exact fun i hi => hb.bound (by decide) hi
  refine CT_of Tryd.func23 rfl rfl rfl ?_
  refine W_seq ?_
  refine W_reg ?_
  refine L_op rfl (X_alloc (z := zv24) (c := zc24.toArray) Zv24 rfl ?_)
  intro b1 w1 hn1
  have hbn1 := hn1.num; have hbs1 := hn1.size
  replace hb := hb.ext hn1.ext
  replace hU := hU.trans (Ext.upd hn1.ext)
  have hB1 := hn1.blk
  rw [zc24_eq] at hB1
  refine L_op rfl (X_assign (v := (.int .i64 (0))) rfl ?_)
  refine L_nil ?_
  refine T_n ?_
  refine W_seq ?_
  refine W_seq ?_
  refine W_reg ?_
  refine L_op rfl (X_move (v := b) rfl ?_)
  refine L_op rfl (X_len (v := b) (n := l.length) Tryd.underlying35 rfl hb.sv ?_)
  by_cases hc2 : (((l.length : Nat) : Int) : Int) > (256)
  · refine L_op rfl (X_cmp (k := .i64) (a := ((l.length : Nat) : Int)) (b := 256) (r := true) rfl rfl rfl (decide_eq_true (p := ((256) : Int) < ((((l.length : Nat) : Int)) : Int)) (by omega)) ?_)
    refine L_nil ?_
    refine T_n ?_
    refine W_ct rfl ?_
    refine W_seq ?_
    refine W_reg ?_
    refine L_op rfl (X_loadA (p := (ptr b1 (0))) (xs := ((List.replicate 256 (0 : UInt8)).map byteV)) A24 rfl hB1.atAll (by rw [List.length_map]; exact List.length_replicate) ?_)
    refine L_op0 (X_storeW (b := b1) (ys := ((List.replicate 256 (0 : UInt8)).map byteV)) A24 rfl rfl (byteV_one _) (by rw [List.length_map]; exact List.length_replicate) hB1 (by rw [List.size_toArray]; exact (by rw [List.length_map]; exact List.length_replicate)) ?_)
    intro w3 hu3 hb3
    have hz3 := hu3.size
    replace hb := hb.upd hu3 fun i hi h => by have hi := hb_b _ hi; have h : i = b1 := h; omega
    replace hU := hU.trans (hu3.mono fun i _ h => by have h : i = b1 := h; show n0 ≤ i; omega)
    replace hB1 := hb3
    refine L_op rfl (X_assign (v := (.int .i64 (21))) rfl ?_)
    refine L_nil ?_
    refine T_n ?_
    refine W_ret ?_
    refine T_r ?_
    exact BQ_r (End_2 Tryd.results23 (RV_A A24 rfl hB1.atAll (by rw [List.length_map]; exact List.length_replicate)) (v2 := .int .i64 21) rfl ⟨21, by rw [fill_more (by omega)], by omega, by omega, hU.own hn0⟩)
  · refine L_op rfl (X_cmp (k := .i64) (a := ((l.length : Nat) : Int)) (b := 256) (r := false) rfl rfl rfl (decide_eq_false (p := ((256) : Int) < ((((l.length : Nat) : Int)) : Int)) (by omega)) ?_)
    refine L_nil ?_
    refine T_n ?_
    refine W_cf rfl ?_
    refine W_skip ?_
    refine T_n ?_
    refine W_seq ?_
    refine W_reg ?_
    refine L_op rfl (X_sliceA0 (len := 256) (sz := 1) (b := b1) (h' := 256) (kh := .i64) Tryd.underlying24 Z5 rfl trivial rfl (by omega) ?_)
    refine L_op rfl (X_move (v := b) rfl ?_)
    refine L_op rfl (X_copy (n := (256)) (c := 256) (b := b1) (o := 0) (x := b) (ys := (l).map byteV) S35 rfl rfl hB1 (by rw [List.size_toArray, List.length_map, List.length_replicate]; omega) hb (byteV_one _) ?_)
    intro w4 hu4 hb4
    have hz4 := hu4.size
    replace hb := hb.upd hu4 fun i hi h => by have hi := hb_b _ hi; have h : i = b1 := h; omega
    replace hU := hU.trans (hu4.mono fun i _ h => by have h : i = b1 := h; show n0 ≤ i; omega)
    rw [fill_cells (by omega)] at hb4
    replace hB1 := hb4
    refine L_nil ?_
    refine T_n ?_
    refine W_seq ?_
    refine W_reg ?_
    refine L_op rfl (X_loadA (p := (ptr b1 (0))) (xs := ((fillL l).map byteV)) A24 rfl hB1.atAll (by rw [List.length_map]; exact fillL_length l) ?_)
    refine L_op0 (X_storeW (b := b1) (ys := ((fillL l).map byteV)) A24 rfl rfl (byteV_one _) (by rw [List.length_map]; exact fillL_length l) hB1 (by rw [List.size_toArray]; exact (by rw [List.length_map]; exact fillL_length l)) ?_)
    intro w5 hu5 hb5
    have hz5 := hu5.size
    replace hb := hb.upd hu5 fun i hi h => by have hi := hb_b _ hi; have h : i = b1 := h; omega
    replace hU := hU.trans (hu5.mono fun i _ h => by have h : i = b1 := h; show n0 ≤ i; omega)
    replace hB1 := hb5
    refine L_op rfl (X_assign (v := (.int .i64 (0))) rfl ?_)
    refine L_nil ?_
    refine T_n ?_
    refine W_ret ?_
    exact BQ_r (End_2 Tryd.results23 (RV_A A24 rfl hB1.atAll (by rw [List.length_map]; exact fillL_length l)) (v2 := .int .i64 0) rfl ⟨0, rfl, by omega, by omega, hU.own hn0⟩)

theorem c_clone (b : Value) (l : List UInt8) (w : World) (hl : l.length ≤ 140737488355328) (hb : Rd w 1 b l.length (l.map byteV)) : CT Tryd.prog 41 #[b] w fun v w' => Own w' w.heap.size 5 1 v l.length (l.map byteV) ∧ Ext w w' := by
  obtain ⟨a, c, rfl, hnil⟩ := hb.parts
  obtain ⟨n0, hn0⟩ : ∃ n, n = w.heap.size := ⟨_, rfl⟩
  have hU : Upd (fun i => n0 ≤ i) w w := Upd.refl _ _
  have hb_b : ∀ i, rbk (.slice a l.length c) = some i → i < n0 := by rw [hn0]; exact fun i hi => hb.bound (by decide) hi
  refine CT_of Tryd.func41 rfl rfl rfl ?_
  refine W_seq ?_
  refine W_reg ?_
  refine L_op rfl (X_assign (v := (.slice none 0 0)) rfl ?_)
  refine L_nil ?_
  refine T_n ?_
  refine W_seq ?_
  refine W_seq ?_
  refine W_reg ?_
  refine L_op rfl (X_move (v := (.slice a l.length c)) rfl ?_)
  rcases Bool.eq_false_or_eq_true a.isNone with ha | ha
  · refine L_op rfl (X_nilS (a := a) (r := true) Tryd.underlying35 rfl (.inl ⟨rfl, ha⟩) ?_)
    refine L_nil ?_
    refine T_n ?_
    refine W_ct rfl ?_
    refine W_seq ?_
    refine W_reg ?_
    refine L_op rfl (X_assign (v := (.slice none 0 0)) rfl ?_)
    refine L_nil ?_
    refine T_n ?_
    refine W_ret ?_
    refine T_r ?_
    exact BQ_r (End_1 Tryd.results41 (v := .slice none 0 0) rfl ⟨(Own.nil _ _ _ _).emp (hnil ha) (by rw [List.eq_nil_of_length_eq_zero (hnil ha)]; rfl), hU.own hn0⟩)
  · refine L_op rfl (X_nilS (a := a) (r := false) Tryd.underlying35 rfl (.inl ⟨rfl, ha⟩) ?_)
    refine L_nil ?_
    refine T_n ?_
    refine W_cf rfl ?_
    refine W_skip ?_
    refine T_n ?_
    refine W_seq ?_
    refine W_reg ?_
    refine L_op rfl (X_buildSlice1 (vs := []) S35 (by decide) rfl rfl (fun _ h => by cases h) ?_)
    intro b1 w1 hn1
    have hbn1 := hn1.num; have hbs1 := hn1.size
    replace hb := hb.ext hn1.ext
    replace hU := hU.trans (Ext.upd hn1.ext)
    have hB1 := hn1.blk
    refine L_op rfl (X_move (v := (.slice a l.length c)) rfl ?_)
    refine L_op rfl (X_append (B := n0) (s := (.slice (some ⟨b1, 0, none⟩) 0 0)) (x := .slice a l.length c) S35 ⟨_, Tryd.underlying35⟩ rfl rfl (Own.zero _ _ _ _ _) hb (byteV_one _) (by unfold maxLen; omega) (by omega) (by omega) ?_)
    intro v2 w2 hO hu2 ho2
    replace hO := hO.eq (Nat.zero_add _) (List.nil_append _)
    replace hb := hb.ext hu2.nobk
    replace hU := hU.trans (Ext.upd hu2.nobk)
    replace hB1 := hB1.ext hu2.nobk
    refine L_op rfl (X_assign (v := v2) rfl ?_)
    refine L_nil ?_
    refine T_n ?_
    refine W_ret ?_
    exact BQ_r (End_1 Tryd.results41 (v := v2) rfl ⟨hO.more (by omega), hU.own hn0⟩)

def byteAt (n k : Nat) : UInt8 := UInt8.ofNat (n / 256 ^ k)
def numB (n w : Nat) : List UInt8 := (List.range w).map (byteAt n)
theorem numB_length (n w : Nat) : (numB n w).length = w := by unfold numB; rw [List.length_map, List.length_range]
def wideN (n : Int) : Nat := (wideI n).toNat
theorem wideN_eq (n : Int) : wideI n = ((wideN n : Nat) : Int) := by unfold wideN wideI; omega
theorem wideN_le (n : Int) : 1 ≤ wideN n ∧ wideN n ≤ 8 := by unfold wideN wideI; omega
theorem u8_wrap (m : Nat) : IntKind.u8.wrap ((m : Nat) : Int) = ((UInt8.ofNat m).toNat : Int) := by
  have e : (2 : Int) ^ 8 = 256 := by decide
  simp only [IntKind.wrap, IntKind.signed, IntKind.bits, e, Bool.false_and, Bool.false_eq_true, if_false, UInt8.toNat_ofNat']
  omega
theorem shr8 (n k : Nat) : Int.fdiv (((n / 256 ^ k : Nat) : Nat) : Int) (2 ^ (min (8 : Int).toNat IntKind.u64.bits)) = ((n / 256 ^ (k + 1) : Nat) : Int) := by
  have e : (2 : Int) ^ (min (8 : Int).toNat IntKind.u64.bits) = ((256 : Nat) : Int) := by decide
  rw [e, Int.fdiv_eq_ediv_of_nonneg _ (by omega), ← Int.natCast_ediv, Nat.div_div_eq_div_mul, Nat.pow_succ]

theorem c_bytes (n : Nat) (m : Int) (w : World) : CT Tryd.prog 42 #[(.int .u64 (((n : Nat) : Int))), (.int .i64 (m))] w fun v w' => v = .func (.func 56) #[] #[ptr (w.heap.size + 1) 0, ptr w.heap.size 0] ∧ Blk w' w.heap.size #[.int .u64 n] 39 ∧ Blk w' (w.heap.size + 1) #[.int .i64 m] 3 ∧ Ext w w' ∧ w'.heap.size = w.heap.size + 2 := by
  obtain ⟨n0, hn0⟩ : ∃ n, n = w.heap.size := ⟨_, rfl⟩
  have hU : Upd (fun i => n0 ≤ i) w w := Upd.refl _ _
  refine CT_of Tryd.func42 rfl rfl rfl ?_
  refine W_seq ?_
  refine W_reg ?_
  refine L_op rfl (X_box (v := (.int .u64 (((n : Nat) : Int)))) (c := #[(.int .u64 (((n : Nat) : Int)))]) rfl rfl ?_)
  intro b1 w1 hn1
  have hbn1 := hn1.num; have hbs1 := hn1.size
  replace hU := hU.trans (Ext.upd hn1.ext)
  have hB1 := hn1.blk
  refine L_op rfl (X_box (v := (.int .i64 (m))) (c := #[(.int .i64 (m))]) rfl rfl ?_)
  intro b2 w2 hn2
  have hbn2 := hn2.num; have hbs2 := hn2.size
  replace hU := hU.trans (Ext.upd hn2.ext)
  replace hB1 := hB1.ext hn2.ext
  have hB2 := hn2.blk
  refine L_op rfl (X_assign (v := .nilFunc) rfl ?_)
  refine L_nil ?_
  refine T_n ?_
  refine W_seq ?_
  refine W_reg ?_
  refine L_op rfl (X_makeFunc (vs := [ptr b2 0, ptr b1 0]) rfl ?_)
  refine L_op rfl (X_assign (v := (.func (.func 56) #[] #[ptr b2 0, ptr b1 0])) rfl ?_)
  refine L_nil ?_
  refine T_n ?_
  refine W_ret ?_
  exact BQ_r (End_1 Tryd.results42 (v := .func (.func 56) #[] #[ptr b2 0, ptr b1 0]) rfl ⟨by rw [hbn2, hbs1, hbn1], hbn1 ▸ hB1, by rw [← hbn1]; exact (show b2 = b1 + 1 by omega) ▸ hB2, hU.own hn0, by omega⟩)

theorem numB_at {n m k : Nat} (hk : k < m) : ((numB n m).map fun x => [byteV x])[k]? = some [byteV (byteAt n k)] := by
  unfold numB
  rw [List.getElem?_map, List.getElem?_map, List.getElem?_range hk]; rfl
theorem c_bytes1 (n : Nat) (m : Int) (b1 b2 : Nat) (w : World) (hB : Blk w b1 #[.int .u64 n] 39) (hC : Blk w b2 #[.int .i64 m] 3) :
    IterC Tryd.prog 56 [ptr b2 0, ptr b1 0] ((numB n (wideN m)).map fun x => [byteV x]) w (fun b => b = b1 ∨ b = b2) (fun b => b = b1) := by
  intro l J Jx W Db hu0 hDb hJs hJxs hy hJ0
  have hw8 := wideN_le m
  replace hB := hB.upd hu0 fun h => h (.inl rfl)
  replace hC := hC.upd hu0 fun h => h (.inr rfl)
  have hB0 : Blk W b1 #[.int .u64 ((n / 256 ^ 0 : Nat) : Int)] 39 := by rw [Nat.pow_zero, Nat.div_one]; exact hB
  show CT Tryd.prog 56 #[.func (.yield l) #[] #[], ptr b2 0, ptr b1 0] W _
  refine CT_of Tryd.func56 rfl rfl rfl ?_
  refine W_seq ?_
  refine W_reg ?_
  refine L_op rfl (X_load (p := (ptr b2 (0))) (v := (.int .i64 (m))) T3 rfl (hC.at1 rfl) ?_)
  refine L_op rfl (X_fn (vs := [(.int .i64 (m))]) en57 rfl (CT.mono (c_wide m _) ?_))
  rintro _ _ ⟨rfl, rfl⟩
  rw [wideN_eq]
  refine L_op rfl (X_move (v := (.int .i64 (0))) rfl ?_)
  refine L_nil ?_
  refine T_n ?_
  refine W_block ?_
  refine W_loop (α := Nat) [6, 7, 8, 9, 10, 11, 12, 13, 14, 15] (fun k => [(6, (.int .i64 (((k : Nat) : Int))))]) (fun k w_ => k ≤ wideN m ∧ J k w_ ∧ Blk w_ b1 #[.int .u64 ((n / 256 ^ k : Nat) : Int)] 39) (fun k => wideN m - k) ⟨rfl, 0, ⟨Nat.zero_le _, hJ0, hB0⟩, Out.refl _ _, ⟨rfl, trivial⟩⟩ ?_
  rintro k w1 _ ⟨hkl, hJ, hB⟩
  refine W_seq ?_
  refine W_reg ?_
  by_cases hc2 : (((k : Nat) : Int) : Int) < (((wideN m : Nat) : Int))
  · refine L_op rfl (X_cmp (k := .i64) (a := ((k : Nat) : Int)) (b := ((wideN m : Nat) : Int)) (r := true) rfl rfl rfl (decide_eq_true (p := ((((k : Nat) : Int)) : Int) < ((((wideN m : Nat) : Int)) : Int)) (by omega)) ?_)
    have hk : k < wideN m := by omega
    refine L_nil ?_
    refine T_n ?_
    refine W_seq ?_
    refine W_ct rfl ?_
    refine W_skip ?_
    refine T_n ?_
    refine W_seq ?_
    refine W_block ?_
    refine W_seq ?_
    refine W_seq ?_
    refine W_reg ?_
    refine L_op rfl (X_move (v := (.func (.yield l) #[] #[])) rfl ?_)
    refine L_op rfl (X_load (p := (ptr b1 (0))) (v := (.int .u64 (((n / 256 ^ k : Nat) : Int)))) T39 rfl (hB.at1 rfl) ?_)
    refine L_op rfl (X_convInt (k := .u64) (a := ((n / 256 ^ k : Nat) : Int)) (r := ((byteAt n k).toNat : Int)) (by rw [Tryd.underlying39]; rfl) Tryd.underlying5 rfl (u8_wrap _) ?_)
    refine L_op rfl (X_yield (vs := [byteV (byteAt n k)]) rfl rfl (YieldC.mono (hy k _ _ (numB_at hk) hJ) ?_))
    rintro _ W2 (⟨rfl, hJ2, hu⟩ | ⟨rfl, hJx⟩)
    · replace hB := hB.upd hu fun h => hDb _ h (.inl rfl)
      refine L_op rfl (X_not (b := true) (r := false) rfl rfl ?_)
      refine L_nil ?_
      refine T_n ?_
      refine W_cf rfl ?_
      refine W_skip ?_
      refine T_n ?_
      refine W_reg ?_
      refine L_op rfl (X_load (p := (ptr b1 (0))) (v := (.int .u64 (((n / 256 ^ k : Nat) : Int)))) T39 rfl (hB.at1 rfl) ?_)
      refine L_op rfl (X_shift (k := .u64) (yk := .u64) (a := ((n / 256 ^ k : Nat) : Int)) (b := 8) (r := ((n / 256 ^ (k + 1) : Nat) : Int)) (.inr ⟨rfl, shr8 n k⟩) (by omega) rfl rfl ?_)
      refine L_op0 (X_store (b := b1) (o := 0) T39 rfl rfl rfl hB (by show (0 : Nat) < 1; decide) ?_)
      intro w3 hu3 hb3
      have hz3 := hu3.size
      replace hB : Blk w3 b1 #[(.int .u64 (((n / 256 ^ (k + 1) : Nat) : Int)))] 39 := hb3
      refine L_nil ?_
      refine B_n ?_
      refine T_n ?_
      refine W_reg ?_
      refine L_op rfl (X_arith (k := .i64) (a := ((k : Nat) : Int)) (b := 1) (r := ((k + 1 : Nat) : Int)) rfl rfl rfl (iadd64 (by omega) (by omega) (by omega)) ?_)
      refine L_op rfl (X_move (v := (.int .i64 (((k + 1 : Nat) : Int)))) rfl ?_)
      refine L_nil ?_
      refine T_n ?_
      exact ⟨rfl, k + 1, ⟨⟨hk, hJs _ _ _ hJ2 (hu3.mono fun i _ h => h), hB⟩, (by show wideN m - (k + 1) < wideN m - k; omega)⟩, (Out.mk rfl), ⟨rfl, trivial⟩⟩
    · refine L_op rfl (X_not (b := false) (r := true) rfl rfl ?_)
      refine L_nil ?_
      refine T_n ?_
      refine W_ct rfl ?_
      refine W_ret ?_
      refine T_r ?_
      refine B_r ?_
      refine T_r ?_
      refine T_r ?_
      refine B_r ?_
      exact BQ_r (End_0 Tryd.results56 (.inr ⟨k, by rw [List.length_map, numB_length]; omega, hJx⟩))
  · refine L_op rfl (X_cmp (k := .i64) (a := ((k : Nat) : Int)) (b := ((wideN m : Nat) : Int)) (r := false) rfl rfl rfl (decide_eq_false (p := ((((k : Nat) : Int)) : Int) < ((((wideN m : Nat) : Int)) : Int)) (by omega)) ?_)
    refine L_nil ?_
    refine T_n ?_
    refine W_seq ?_
    refine W_cf rfl ?_
    refine W_exit ?_
    refine T_e ?_
    refine T_e ?_
    refine B_x ?_
    obtain rfl : k = wideN m := by omega
    exact BQ_n (End_0 Tryd.results56 (.inl (by rw [List.length_map, numB_length]; exact hJ)))

theorem seq_at {ys : List UInt8} {k : Nat} {x : List Value} (h : (ys.map fun x => [byteV x])[k]? = some x) : ∃ y, ys[k]? = some y ∧ x = [byteV y] := by
  rw [List.getElem?_map] at h
  cases hy : ys[k]? with
  | none => rw [hy] at h; cases h
  | some y => rw [hy] at h; cases h; exact ⟨y, rfl, rfl⟩
theorem seq_step {ys : List UInt8} {k : Nat} {y : UInt8} (h : ys[k]? = some y) : ys.take (k + 1) = ys.take k ++ [y] := by
  rw [List.take_add_one, h]; rfl

theorem c_appendSeq {gf : FuncId} {lb : List Value} {xs : List (List Value)} {w0 : World} {Dep Di : Nat → Prop} {B : Nat} (s : Value) (l ys : List UInt8) (w : World) (hs : Own w B 5 1 s l.length (l.map byteV)) (hxs : xs = ys.map fun x => [byteV x])
    (hit : IterC Tryd.prog gf lb xs w0 Dep Di) (eg : ∀ args w, (callFunc gf args).run Tryd.prog w = .ok (.enter gf args) w) (hw0 : Upd (fun b => ¬ Dep b) w0 w) (hDn : ∀ b, w.heap.size ≤ b → ¬ Dep b) (hDi : ∀ b, Di b → b < w.heap.size)
    (hDs : ∀ b, obk s = some b → ¬ Dep b ∧ ¬ Di b) (hB0 : B ≤ w.heap.size) (hlen : l.length + ys.length ≤ 140737488355328) :
    CT Tryd.prog 40 #[s, .func (.func gf) #[] lb.toArray] w fun v w' => Own w' B 5 1 v (l.length + ys.length) ((l ++ ys).map byteV) ∧ (∀ b, obk v = some b → obk s = some b ∨ w.heap.size ≤ b) ∧ Upd (fun b => Di b ∨ obk s = some b) w w' := by
  obtain ⟨n0, hn0⟩ : ∃ n, n = w.heap.size := ⟨_, rfl⟩
  have hsl : ∀ b, obk s = some b → b < n0 := fun b hb => by rw [hn0]; exact (hs.lt hb).2
  have hys : xs.length = ys.length := by rw [hxs, List.length_map]
  refine CT_of Tryd.func40 rfl rfl rfl ?_
  refine W_seq ?_
  refine W_reg ?_
  refine L_op rfl (X_box (v := s) (c := #[s]) rfl (hs.sv.cells) ?_)
  intro b1 w1 hn1
  have hbn1 := hn1.num; have hbs1 := hn1.size
  replace hs := hs.ext hn1.ext
  have hB1 := hn1.blk
  obtain rfl : n0 = b1 := by omega
  refine L_op rfl (X_assign (v := (.slice none 0 0)) rfl ?_)
  refine L_nil ?_
  refine T_n ?_
  refine W_seq ?_
  refine W_seq ?_
  refine W_reg ?_
  refine L_op rfl (X_move (v := (.func (.func gf) #[] lb.toArray)) rfl ?_)
  refine L_nil ?_
  refine T_n ?_
  refine W_block ?_
  obtain ⟨nL, hnL⟩ : ∃ n, n = w1.heap.size := ⟨_, rfl⟩
  refine W_range (xs := xs) rfl eg hit (hw0.trans (Ext.upd hn1.ext)) rfl (fun x hx => by rw [hxs] at hx; obtain ⟨y, _, rfl⟩ := List.mem_map.1 hx; rfl) (fun b => b = n0 ∨ obk s = some b ∨ n0 + 3 ≤ b) (fun b hb => by rcases hb with h | h | h; (· exact ⟨hDn b (by omega), by omega, by omega⟩); (· exact ⟨(hDs b h).1, by have := hsl b h; omega, by have := hsl b h; omega⟩); (· exact ⟨hDn b (by omega), by omega, by omega⟩)) (fun b hb => hDn b (by omega)) (fun b hb => by have := hDi b hb; omega) (fun k W => ∃ v_, Blk W n0 #[v_] 35 ∧ Own W B 5 1 v_ (l.length + k) ((l ++ ys.take k).map byteV) ∧ (∀ b, obk v_ = some b → obk s = some b ∨ n0 + 3 ≤ b) ∧ Upd (fun b => Di b ∨ obk s = some b ∨ n0 ≤ b) w W) (fun k e W => False) (fun k W W2 hI hu => by obtain ⟨v_, hB, hO, hbk, hUw⟩ := hI; exact ⟨v_, hB.upd hu fun h => by { rcases h with h | h; (· have := hDi _ h; omega); (· omega) }, hO.upd hu fun i hi h => by { rcases hbk i hi with h1 | h1; (· rcases h with h | h; (· exact (hDs i h1).2 h); (· have := hsl i h1; omega)); (· rcases h with h | h; (· have := hDi _ h; omega); (· omega)) }, hbk, hUw.trans (hu.mono fun i _ h => by { rcases h with h | h; (· exact .inl h); (· exact .inr (.inr (by omega))) })⟩) (fun _ _ _ _ h _ => h) ?_ ?_ ?_ ?_
  · intro W hx_ hs_
    replace hB1 := hB1.ext hx_
    refine ⟨s, hB1, ?_, fun b hb => .inl hb, (Ext.upd hn1.ext).trans (Ext.upd hx_)⟩
    exact (hs.ext hx_).eq (by omega) (by rw [List.take_zero, List.append_nil])
  · intro k x W hk_ hI_ hsz_ hlp_
    obtain ⟨v_, hB, hO, hbk, hUw⟩ := hI_
    rw [hxs] at hk_
    obtain ⟨y, hy, rfl⟩ := seq_at hk_
    have hky := (List.getElem?_eq_some_iff.1 hy).1
    have hOb : ∀ b, obk v_ = some b → b ≠ nL + 1 ∧ b ≠ n0 := fun b hb => by rcases hbk b hb with h | h; (· have := hsl b h; omega); (· omega)
    refine W_reg ?_
    refine L_op rfl (X_assign (v := (byteV y)) rfl ?_)
    refine L_nil ?_
    refine T_n ⟨Upd.refl _ _, fun W2 hu2_ hlp2_ => ?_⟩
    have hsz2_ := hu2_.size
    replace hB := hB.upd hu2_ fun h => by have h : n0 = nL + 1 := (by rw [hnL]; exact h); omega
    replace hO := hO.upd hu2_ fun i hi h => by have hi := hOb _ hi; have h : i = nL + 1 := (by rw [hnL]; exact h); omega
    refine W_block ?_
    refine W_reg ?_
    refine L_op rfl (X_load (p := (ptr n0 (0))) (v := v_) T35 rfl (hB.at1 rfl) ?_)
    refine L_op rfl (X_move (v := (byteV y)) rfl ?_)
    refine L_op rfl (X_buildSlice1 (vs := [(byteV y)]) S35 (by decide) rfl rfl (List.forall_mem_cons.2 ⟨rfl, (fun _ h => by cases h)⟩) ?_)
    intro b2 w2 hn2
    have hbn2 := hn2.num; have hbs2 := hn2.size
    replace hB := hB.ext hn2.ext
    replace hO := hO.ext hn2.ext
    have hB2 := hn2.blk
    refine L_op rfl (X_append (B := B) (s := v_) (x := (.slice (some ⟨b2, 0, none⟩) 1 1)) S35 ⟨_, Tryd.underlying35⟩ rfl rfl hO (m := 1) (ys := [byteV y]) (hB2.rd (o := 0) (by decide) (by decide) rfl (fun j u hj => by rw [Nat.zero_add]; simpa using hj)) (List.forall_mem_cons.2 ⟨rfl, fun _ h => by cases h⟩) (by unfold maxLen; omega) (by omega) (by omega) ?_)
    intro v5 w5 hO5 hu5 ho5
    replace hB := hB.upd hu5 fun h => (hOb _ h).2 rfl
    refine L_op0 (X_store (b := n0) (o := 0) T35 rfl rfl hO5.sv.one hB (by show (0 : Nat) < 1; decide) ?_)
    intro w6 hu6 hB6
    have hO6 := hO5.upd hu6 fun i hi h => by have h : i = n0 := h; rcases ho5 i hi with h1 | h1; (· exact (hOb i h1).2 h); (· omega)
    refine L_nil ?_
    refine B_n ?_
    have hu4 := hn2.ext
    refine RQ_n (((hu4.mono fun _ _ h => h.elim).trans ((hu5.mono fun i _ h => ?_).trans (hu6.mono fun i _ h => .inl h)))) ⟨v5, hB6, hO6.eq (by omega) ?_, ?_, ?_⟩
    · rcases hbk i h with h1 | h1; (· exact .inr (.inl h1)); (· exact .inr (.inr h1))
    · rw [seq_step hy, List.map_append]; simp only [List.map_append, List.append_assoc]; rfl
    · intro b hb; rcases ho5 b hb with h1 | h1; (· exact hbk b h1); (· exact .inr (by omega))
    · exact hUw.trans ((hu2_.mono fun i _ h => .inr (.inr (by have h : i = nL + 1 := (by rw [hnL]; exact h); omega))).trans ((Ext.upd hu4).trans ((hu5.mono fun i _ h => by rcases hbk i h with h1 | h1; (· exact .inr (.inl h1)); (· exact .inr (.inr (by omega)))).trans (hu6.mono fun i _ h => .inr (.inr (by have h : i = n0 := h; omega))))))
  · intro W hI_ hd_
    obtain ⟨v_, hB, hO, hbk, hUw⟩ := hI_
    have hd : Dfd W nL := by rw [hnL]; exact hd_
    refine B_n ?_
    refine T_n ?_
    refine W_seq ?_
    refine W_reg ?_
    refine L_op rfl (X_load (p := (ptr n0 (0))) (v := v_) T35 rfl (hB.at1 rfl) ?_)
    refine L_op rfl (X_assign (v := v_) rfl ?_)
    refine L_nil ?_
    refine T_n ?_
    refine W_ret ?_
    refine BQ_n (End_m hd_ fun w9 hu9 => End_1 Tryd.results40 (v := v_) rfl ?_)
    have e : ys.take xs.length = ys := by rw [hxs, List.length_map, List.take_length]
    rw [e] at hO
    refine ⟨(hO.upd hu9 fun i hi h => ?_).eq (by rw [hxs, List.length_map]) rfl, fun b hb => (hbk b hb).imp id fun h => by omega, (hUw.trans (hu9.mono fun i _ h => .inr (.inr (by have h : i = nL := (by rw [hnL]; exact h); omega)))).mono fun i hi h => ?_⟩
    · have h : i = nL := (by rw [hnL]; exact h)
      rcases hbk i hi with h1 | h1; (· have := hsl i h1; omega); (· omega)
    · rcases h with h | h | h; (· exact .inl h); (· exact .inr h); (· omega)
  · intro k e W hk_ hI_ hd_ he_
    exact hI_.elim

theorem c_put (b : Value) (l : List UInt8) (n : Nat) (m : Int) (w : World) (hl : l.length ≤ 140737488355320) (hb : Rd w 1 b l.length (l.map byteV)) : CT Tryd.prog 22 #[b, (.int .u64 (((n : Nat) : Int))), (.int .i64 (m))] w fun v w' => Own w' w.heap.size 5 1 v (l.length + wideN m) ((l ++ numB n (wideN m)).map byteV) ∧ Ext w w' := by
  have hw8 := wideN_le m
  obtain ⟨n0, hn0⟩ : ∃ n, n = w.heap.size := ⟨_, rfl⟩
  have hU : Upd (fun i => n0 ≤ i) w w := Upd.refl _ _
  have hb_b : ∀ i, rbk b = some i → i < n0 := by rw [hn0]; exact fun i hi => hb.bound (by decide) hi
  refine CT_of Tryd.func22 rfl rfl rfl ?_
  refine W_seq ?_
  refine W_reg ?_
  refine L_op rfl (X_assign (v := (.slice none 0 0)) rfl ?_)
  refine L_nil ?_
  refine T_n ?_
  refine W_seq ?_
  refine W_reg ?_
  refine L_op rfl (X_move (v := b) rfl ?_)
  refine L_op rfl (X_fn (vs := [b]) en41 rfl (CT.mono (c_clone _ l _ (by omega) hb) ?_))
  rintro v1 w1 ⟨hO, hu1⟩
  have hz1 := hu1.size
  replace hb := hb.ext hu1
  replace hU := hU.trans (Ext.upd hu1)
  have hOl : ∀ b, obk v1 = some b → b < w1.heap.size := fun b hb => (hO.lt hb).2
  refine L_op rfl (X_move (v := (.int .u64 (((n : Nat) : Int)))) rfl ?_)
  refine L_op rfl (X_move (v := (.int .i64 (m))) rfl ?_)
  refine L_op rfl (X_fn (vs := [(.int .u64 (((n : Nat) : Int))), (.int .i64 (m))]) en42 rfl (CT.mono (c_bytes n m _) ?_))
  rintro _ w2 ⟨rfl, hB1, hB2, hu2, hz2⟩
  replace hb := hb.ext hu2
  replace hU := hU.trans (Ext.upd hu2)
  replace hO := hO.ext hu2
  refine L_op rfl (X_fn (vs := [v1, (.func (.func 56) #[] #[ptr (w1.heap.size + 1) 0, ptr w1.heap.size 0])]) en40 rfl (CT.mono (c_appendSeq (lb := [ptr (w1.heap.size + 1) 0, ptr w1.heap.size 0]) v1 l (numB n (wideN m)) _ hO rfl (c_bytes1 n m _ _ _ hB1 hB2) en56 (Upd.refl _ _) (fun b hb h => by omega) (fun b hb => by omega) (fun b hb => by have := hOl b hb; exact ⟨fun h => by omega, fun h => by omega⟩) (by omega) (by rw [numB_length]; omega)) ?_))
  rintro v3 w3 ⟨hO3, ho3, hu3⟩
  replace hU := hU.trans (hu3.mono fun i _ h => by rcases h with h | h; (· omega); (· have := hO.lt h; omega))
  rw [numB_length] at hO3
  refine L_op rfl (X_assign (v := v3) rfl ?_)
  refine L_nil ?_
  refine T_n ?_
  refine W_ret ?_
  exact BQ_r (End_1 Tryd.results22 (v := v3) rfl ⟨hO3.more (by omega), hU.own hn0⟩)

def takeE (l : List UInt8) (q : Int) : Int := match l[0]? with
  | none => 20
  | some x => if l.length ≤ x.toNat then 20 else if q < (x.toNat : Int) then 21 else 0
def takeN (l : List UInt8) : Nat := match l[0]? with
  | none => 0
  | some x => x.toNat
def takeS (l : List UInt8) (q : Int) : List UInt8 := if takeE l q = 0 then (l.drop 1).take (takeN l) else []
def takeR (l : List UInt8) (q : Int) : List UInt8 := if takeE l q = 0 then l.drop (1 + takeN l) else l
theorem take_short0 {l : List UInt8} (q : Int) (h : l.length = 0) : takeE l q = 20 := by
  unfold takeE
  rw [List.getElem?_eq_none (by omega)]
theorem take_short {l : List UInt8} {x : UInt8} (q : Int) (hx : l[0]? = some x) (h : l.length ≤ x.toNat) : takeE l q = 20 := by
  unfold takeE
  rw [hx]; simp only []; rw [if_pos h]
theorem take_long {l : List UInt8} {x : UInt8} {q : Int} (hx : l[0]? = some x) (h : ¬ l.length ≤ x.toNat) (hq : q < (x.toNat : Int)) : takeE l q = 21 := by
  unfold takeE
  rw [hx]; simp only []; rw [if_neg h, if_pos hq]
theorem take_ok {l : List UInt8} {x : UInt8} {q : Int} (hx : l[0]? = some x) (h : ¬ l.length ≤ x.toNat) (hq : ¬ q < (x.toNat : Int)) : takeE l q = 0 := by
  unfold takeE
  rw [hx]; simp only []; rw [if_neg h, if_neg hq]
theorem takeN_eq {l : List UInt8} {x : UInt8} (hx : l[0]? = some x) : takeN l = x.toNat := by unfold takeN; rw [hx]
theorem takeS_no {l : List UInt8} {q e : Int} (h : takeE l q = e) (he : e ≠ 0) : takeS l q = [] := by unfold takeS; rw [if_neg (by omega)]
theorem takeR_no {l : List UInt8} {q e : Int} (h : takeE l q = e) (he : e ≠ 0) : takeR l q = l := by unfold takeR; rw [if_neg (by omega)]
theorem takeS_ok {l : List UInt8} {q : Int} {x : UInt8} (h : takeE l q = 0) (hx : l[0]? = some x) : takeS l q = (l.drop 1).take (1 + x.toNat - 1) := by unfold takeS; rw [if_pos h, takeN_eq hx, Nat.add_sub_cancel_left]
theorem takeR_ok {l : List UInt8} {q : Int} {x : UInt8} (h : takeE l q = 0) (hx : l[0]? = some x) : takeR l q = (l.drop (1 + x.toNat)).take (l.length - (1 + x.toNat)) := by
  unfold takeR; rw [if_pos h, takeN_eq hx, List.take_of_length_le (by rw [List.length_drop]; omega)]
theorem i64_u8 (x : UInt8) : IntKind.i64.wrap (x.toNat : Int) = (x.toNat : Int) := by have := x.toNat_lt; exact i64_wrap (by omega) (by omega)

theorem c_takeBytes (b : Value) (l : List UInt8) (q : Int) (w : World) (hb : Rd w 1 b l.length (l.map byteV)) : CT Tryd.prog 60 #[b, (.int .i64 (q))] w fun v w' => ∃ s r, v = .tuple #[s, r, .int .i64 (takeE l q)] ∧ Own w' w.heap.size 5 1 s (takeS l q).length ((takeS l q).map byteV) ∧ Rd w' 1 r (takeR l q).length ((takeR l q).map byteV) ∧ (∀ b', rbk r = some b' → rbk b = some b') ∧ Ext w w' := by
  have hmx := hb.len
  obtain ⟨n0, hn0⟩ : ∃ n, n = w.heap.size := ⟨_, rfl⟩
  have hU : Upd (fun i => n0 ≤ i) w w := Upd.refl _ _
  have hb_b : ∀ i, rbk b = some i → i < n0 := by rw [hn0]; exact fun i hi => hb.bound (by decide) hi
  refine CT_of Tryd.func60 rfl rfl rfl ?_
  refine W_seq ?_
  refine W_reg ?_
  refine L_op rfl (X_assign (v := (.slice none 0 0)) rfl ?_)
  refine L_op rfl (X_assign (v := (.slice none 0 0)) rfl ?_)
  refine L_op rfl (X_assign (v := (.int .i64 (0))) rfl ?_)
  refine L_nil ?_
  refine T_n ?_
  refine W_scopeQ ?_
  refine W_seq ?_
  refine W_reg ?_
  refine L_op rfl (X_move (v := b) rfl ?_)
  refine L_op rfl (X_assign (v := b) rfl ?_)
  refine L_nil ?_
  refine T_n ?_
  refine W_seq ?_
  refine W_label ?_
  refine T_n ?_
  refine W_seq ?_
  refine W_block ?_
  refine W_seq ?_
  refine W_reg ?_
  refine L_op rfl (X_move (v := b) rfl ?_)
  refine L_op rfl (X_len (v := b) (n := l.length) Tryd.underlying35 rfl hb.sv ?_)
  by_cases hc1 : (((l.length : Nat) : Int) : Int) = (0)
  · refine L_op rfl (X_cmp (k := .i64) (a := ((l.length : Nat) : Int)) (b := 0) (r := true) rfl rfl rfl (decide_eq_true (p := ((((l.length : Nat) : Int)) : Int) = ((0) : Int)) (by omega)) ?_)
    refine L_op rfl (X_move (v := (.bool (true))) rfl ?_)
    refine L_gn (dj := 26) (t := true) rfl rfl rfl rfl ?_
    refine L_gn (dj := 26) (t := true) rfl rfl rfl rfl ?_
    refine L_gn (dj := 26) (t := true) rfl rfl rfl rfl ?_
    refine L_gn (dj := 26) (t := true) rfl rfl rfl rfl ?_
    refine L_gn (dj := 26) (t := true) rfl rfl rfl rfl ?_
    refine L_gn (dj := 26) (t := true) rfl rfl rfl rfl ?_
    refine L_gn (dj := 26) (t := true) rfl rfl rfl rfl ?_
    refine L_op rfl (X_pick (t := true) (v := (.bool (true))) rfl rfl ?_)
    refine L_op rfl (X_assign (v := (.bool (true))) rfl ?_)
    refine L_nil ?_
    refine T_n ?_
    refine W_ct rfl ?_
    refine W_reg ?_
    refine L_op rfl (X_assign (v := (.int .i64 (20))) rfl ?_)
    refine L_nil ?_
    refine B_n ?_
    refine T_n ?_
    refine W_seq ?_
    refine W_reg ?_
    refine L_op rfl (X_move (v := (.slice none 0 0)) rfl ?_)
    refine L_op rfl (X_move (v := b) rfl ?_)
    refine L_op rfl (X_move (v := (.int .i64 (20))) rfl ?_)
    refine L_op rfl (X_assign (v := (.slice none 0 0)) rfl ?_)
    refine L_op rfl (X_assign (v := b) rfl ?_)
    refine L_op rfl (X_assign (v := (.int .i64 (20))) rfl ?_)
    refine L_nil ?_
    refine T_n ?_
    refine W_ret ?_
    refine S_r ?_
    exact BQ_r (End_3 Tryd.results60 (v1 := .slice none 0 0) (v2 := b) (v3 := .int .i64 20) rfl rfl rfl ⟨_, _, by rw [take_short0 q (by omega)], (Own.nil _ _ _ _).emp (by rw [takeS_no (take_short0 q (by omega)) (by decide)]; rfl) (by rw [takeS_no (take_short0 q (by omega)) (by decide)]; rfl), by rw [takeR_no (take_short0 q (by omega)) (by decide)]; exact hb, fun b' hb' => hb', hU.own hn0⟩)
  · refine L_op rfl (X_cmp (k := .i64) (a := ((l.length : Nat) : Int)) (b := 0) (r := false) rfl rfl rfl (decide_eq_false (p := ((((l.length : Nat) : Int)) : Int) = ((0) : Int)) (by omega)) ?_)
    obtain ⟨x, hx⟩ : ∃ x, l[0]? = some x := ⟨_, List.getElem?_eq_getElem (by omega)⟩
    have hx8 := x.toNat_lt
    refine L_op rfl (X_move (v := (.bool (false))) rfl ?_)
    refine L_gy (dj := 26) rfl rfl rfl (X_move (v := b) rfl ?_)
    refine L_gy (dj := 26) rfl rfl rfl (X_len (v := b) (n := l.length) Tryd.underlying35 rfl hb.sv ?_)
    refine L_gy (dj := 26) rfl rfl rfl (X_move (v := b) rfl ?_)
    refine L_gy (dj := 26) rfl rfl rfl (X_idx (v := b) (n := l.length) (k := .i64) (i := 0) S35 rfl hb.sv rfl (by omega) (by omega) ?_)
    refine L_gy (dj := 26) rfl rfl rfl (X_load (v := byteV x) T5 rfl (hb.cellB (by rw [show (((0 : Int)).toNat * 1) = 0 from rfl]; exact hx)) ?_)
    refine L_gy (dj := 26) rfl rfl rfl (X_convInt (k := .u8) (a := (x.toNat : Int)) (r := (x.toNat : Int)) (by rw [Tryd.underlying5]; rfl) Tryd.underlying3 rfl (i64_u8 x) ?_)
    by_cases hc2 : (((l.length : Nat) : Int) : Int) ≤ ((x.toNat : Int))
    · refine L_gy (dj := 26) rfl rfl rfl (X_cmp (k := .i64) (a := ((l.length : Nat) : Int)) (b := (x.toNat : Int)) (r := true) rfl rfl rfl (decide_eq_true (p := ((((l.length : Nat) : Int)) : Int) ≤ (((x.toNat : Int)) : Int)) (by omega)) ?_)
      refine L_op rfl (X_pick (t := false) (v := (.bool (true))) rfl rfl ?_)
      refine L_op rfl (X_assign (v := (.bool (true))) rfl ?_)
      refine L_nil ?_
      refine T_n ?_
      refine W_ct rfl ?_
      refine W_reg ?_
      refine L_op rfl (X_assign (v := (.int .i64 (20))) rfl ?_)
      refine L_nil ?_
      refine B_n ?_
      refine T_n ?_
      refine W_seq ?_
      refine W_reg ?_
      refine L_op rfl (X_move (v := (.slice none 0 0)) rfl ?_)
      refine L_op rfl (X_move (v := b) rfl ?_)
      refine L_op rfl (X_move (v := (.int .i64 (20))) rfl ?_)
      refine L_op rfl (X_assign (v := (.slice none 0 0)) rfl ?_)
      refine L_op rfl (X_assign (v := b) rfl ?_)
      refine L_op rfl (X_assign (v := (.int .i64 (20))) rfl ?_)
      refine L_nil ?_
      refine T_n ?_
      refine W_ret ?_
      refine S_r ?_
      exact BQ_r (End_3 Tryd.results60 (v1 := .slice none 0 0) (v2 := b) (v3 := .int .i64 20) rfl rfl rfl ⟨_, _, by rw [take_short q hx (by omega)], (Own.nil _ _ _ _).emp (by rw [takeS_no (take_short q hx (by omega)) (by decide)]; rfl) (by rw [takeS_no (take_short q hx (by omega)) (by decide)]; rfl), by rw [takeR_no (take_short q hx (by omega)) (by decide)]; exact hb, fun b' hb' => hb', hU.own hn0⟩)
    · refine L_gy (dj := 26) rfl rfl rfl (X_cmp (k := .i64) (a := ((l.length : Nat) : Int)) (b := (x.toNat : Int)) (r := false) rfl rfl rfl (decide_eq_false (p := ((((l.length : Nat) : Int)) : Int) ≤ (((x.toNat : Int)) : Int)) (by omega)) ?_)
      refine L_op rfl (X_pick (t := false) (v := (.bool (false))) rfl rfl ?_)
      refine L_op rfl (X_assign (v := (.bool (false))) rfl ?_)
      refine L_nil ?_
      refine T_n ?_
      refine W_cf rfl ?_
      refine W_seq ?_
      refine W_reg ?_
      refine L_op rfl (X_move (v := b) rfl ?_)
      refine L_op rfl (X_idx (v := b) (n := l.length) (k := .i64) (i := 0) S35 rfl hb.sv rfl (by omega) (by omega) ?_)
      refine L_op rfl (X_load (v := byteV x) T5 rfl (hb.cellB (by rw [show (((0 : Int)).toNat * 1) = 0 from rfl]; exact hx)) ?_)
      refine L_op rfl (X_convInt (k := .u8) (a := (x.toNat : Int)) (r := (x.toNat : Int)) (by rw [Tryd.underlying5]; rfl) Tryd.underlying3 rfl (i64_u8 x) ?_)
      refine L_op rfl (X_move (v := (.int .i64 (q))) rfl ?_)
      by_cases hc3 : ((x.toNat : Int) : Int) > (q)
      · refine L_op rfl (X_cmp (k := .i64) (a := (x.toNat : Int)) (b := q) (r := true) rfl rfl rfl (decide_eq_true (p := ((q) : Int) < (((x.toNat : Int)) : Int)) (by omega)) ?_)
        refine L_op rfl (X_assign (v := (.bool (true))) rfl ?_)
        refine L_nil ?_
        refine T_n ?_
        refine W_ct rfl ?_
        refine W_reg ?_
        refine L_op rfl (X_assign (v := (.int .i64 (21))) rfl ?_)
        refine L_nil ?_
        refine B_n ?_
        refine T_n ?_
        refine W_seq ?_
        refine W_reg ?_
        refine L_op rfl (X_move (v := (.slice none 0 0)) rfl ?_)
        refine L_op rfl (X_move (v := b) rfl ?_)
        refine L_op rfl (X_move (v := (.int .i64 (21))) rfl ?_)
        refine L_op rfl (X_assign (v := (.slice none 0 0)) rfl ?_)
        refine L_op rfl (X_assign (v := b) rfl ?_)
        refine L_op rfl (X_assign (v := (.int .i64 (21))) rfl ?_)
        refine L_nil ?_
        refine T_n ?_
        refine W_ret ?_
        refine S_r ?_
        exact BQ_r (End_3 Tryd.results60 (v1 := .slice none 0 0) (v2 := b) (v3 := .int .i64 21) rfl rfl rfl ⟨_, _, by rw [take_long hx (by omega) (by omega)], (Own.nil _ _ _ _).emp (by rw [takeS_no (take_long hx (by omega) (by omega)) (by decide)]; rfl) (by rw [takeS_no (take_long hx (by omega) (by omega)) (by decide)]; rfl), by rw [takeR_no (take_long hx (by omega) (by omega)) (by decide)]; exact hb, fun b' hb' => hb', hU.own hn0⟩)
      · refine L_op rfl (X_cmp (k := .i64) (a := (x.toNat : Int)) (b := q) (r := false) rfl rfl rfl (decide_eq_false (p := ((q) : Int) < (((x.toNat : Int)) : Int)) (by omega)) ?_)
        refine L_op rfl (X_assign (v := (.bool (false))) rfl ?_)
        refine L_nil ?_
        refine T_n ?_
        refine W_cf rfl ?_
        refine W_seq ?_
        refine W_reg ?_
        refine L_op rfl (X_move (v := b) rfl ?_)
        refine L_op rfl (X_idx (v := b) (n := l.length) (k := .i64) (i := 0) S35 rfl hb.sv rfl (by omega) (by omega) ?_)
        refine L_op rfl (X_load (v := byteV x) T5 rfl (hb.cellB (by rw [show (((0 : Int)).toNat * 1) = 0 from rfl]; exact hx)) ?_)
        refine L_op rfl (X_convInt (k := .u8) (a := (x.toNat : Int)) (r := (x.toNat : Int)) (by rw [Tryd.underlying5]; rfl) Tryd.underlying3 rfl (i64_u8 x) ?_)
        refine L_op rfl (X_arith (k := .i64) (a := 1) (b := (x.toNat : Int)) (r := ((1 + x.toNat : Nat) : Int)) rfl rfl rfl (iadd64 (by omega) (by omega) (by omega)) ?_)
        refine L_op rfl (X_assign (v := (.int .i64 (((1 + x.toNat : Nat) : Int)))) rfl ?_)
        refine L_nil ?_
        refine T_n ?_
        refine W_seq ?_
        refine W_draw 9 [[], [], [], [1, 2], [0, 1, 2, 3], [], [], [5, 6], [0, 1, 2, 3, 4], [0, 1, 2, 3, 4, 5, 6, 7, 8]] mixed (by kernel_rfl) ?_
        refine ⟨.abs (fun _ x _ => ∃ b, x = .slice (some ⟨b, 0, none⟩) 0 0), ⟨fun _ _ _ => rfl, fun _ _ _ _ _ h => h⟩, fun val h_ W hx he => ⟨trivial, ?_⟩, ?_⟩
        · replace hx := (Upd.drew _ _).trans hx
          replace hb := hb.ext hx
          have hE := Upd.refl (fun _ => False) W
          refine X_buildSlice1 (vs := []) S35 (by decide) rfl rfl (fun _ h => by cases h) ?_
          intro b w2 hn
          exact ⟨hn.ext, b, rfl⟩
        refine ⟨.det (fun val => b), ⟨fun _ _ hv => rfl, fun _ _ _ _ _ => trivial⟩, fun val h_ W hx he => ⟨trivial, ?_⟩, ?_⟩
        · replace hx := (Upd.drew _ _).trans hx
          replace hb := hb.ext hx
          have hE := Upd.refl (fun _ => False) W
          refine id (X_move (v := b) rfl ?_)
          exact ⟨hE, rfl⟩
        refine ⟨.det (fun val => (.int .i64 (((1 + x.toNat : Nat) : Int)))), ⟨fun _ _ hv => rfl, fun _ _ _ _ _ => trivial⟩, fun val h_ W hx he => ⟨trivial, ?_⟩, ?_⟩
        · replace hx := (Upd.drew _ _).trans hx
          replace hb := hb.ext hx
          have hE := Upd.refl (fun _ => False) W
          refine id (X_move (v := (.int .i64 (((1 + x.toNat : Nat) : Int)))) rfl ?_)
          exact ⟨hE, rfl⟩
        refine ⟨.det (fun val => (cutv b 1 (1) (1 + x.toNat))), ⟨fun _ _ hv => rfl, fun _ _ _ _ _ => trivial⟩, fun val h_ W hx he => ⟨trivial, ?_⟩, ?_⟩
        · replace hx := (Upd.drew _ _).trans hx
          replace hb := hb.ext hx
          have hE := Upd.refl (fun _ => False) W
          refine id (X_slice (n := l.length) (l := 1) (h' := 1 + x.toNat) (kl := .i64) (kh := .i64) S35 rfl hb.sv rfl rfl (by omega) (by omega) ?_)
          exact ⟨hE, rfl⟩
        refine ⟨.abs (fun _ x_ W => Own W n0 5 1 x_ ((((l).drop (1)).take (1 + x.toNat - (1))).length) (((((l).drop (1)).take (1 + x.toNat - (1)))).map byteV)), ⟨fun _ _ _ => rfl, fun _ _ _ _ hu h => h.ext hu⟩, fun val h_ W hx he => ⟨trivial, ?_⟩, ?_⟩
        · replace hx := (Upd.drew _ _).trans hx
          replace hb := hb.ext hx
          have hE := Upd.refl (fun _ => False) W
          obtain ⟨⟨bz, hbz⟩, he⟩ := he
          refine X_append (B := n0) (s := val 0) (x := (cutv b 1 (1) (1 + x.toNat))) S35 ⟨_, Tryd.underlying35⟩ rfl rfl (n := 0) (xs := []) (by rw [hbz]; exact Own.zero _ _ _ _ _) (hb.cutB (lo := 1) (hi := 1 + x.toNat) (by omega) (by omega) (m := ((l).drop (1)).take (1 + x.toNat - (1))) rfl) (byteV_one _) (by unfold maxLen; rw [List.length_take, List.length_drop]; omega) (by rw [List.length_take, List.length_drop]; omega) (by have := hx.size; omega) ?_
          intro v5 w5 hO5 hu5 _
          rw [hbz] at hu5
          exact ⟨hu5.nobk, hO5.eq (Nat.zero_add _) (List.nil_append _)⟩
        refine ⟨.det (fun val => b), ⟨fun _ _ hv => rfl, fun _ _ _ _ _ => trivial⟩, fun val h_ W hx he => ⟨trivial, ?_⟩, ?_⟩
        · replace hx := (Upd.drew _ _).trans hx
          replace hb := hb.ext hx
          have hE := Upd.refl (fun _ => False) W
          refine id (X_move (v := b) rfl ?_)
          exact ⟨hE, rfl⟩
        refine ⟨.det (fun val => (.int .i64 (((1 + x.toNat : Nat) : Int)))), ⟨fun _ _ hv => rfl, fun _ _ _ _ _ => trivial⟩, fun val h_ W hx he => ⟨trivial, ?_⟩, ?_⟩
        · replace hx := (Upd.drew _ _).trans hx
          replace hb := hb.ext hx
          have hE := Upd.refl (fun _ => False) W
          refine id (X_move (v := (.int .i64 (((1 + x.toNat : Nat) : Int)))) rfl ?_)
          exact ⟨hE, rfl⟩
        refine ⟨.det (fun val => (cutv b 1 (1 + x.toNat) (l.length))), ⟨fun _ _ hv => rfl, fun _ _ _ _ _ => trivial⟩, fun val h_ W hx he => ⟨trivial, ?_⟩, ?_⟩
        · replace hx := (Upd.drew _ _).trans hx
          replace hb := hb.ext hx
          have hE := Upd.refl (fun _ => False) W
          refine id (X_slice (n := l.length) (l := 1 + x.toNat) (h' := l.length) (kl := .i64) (kh := .i64) S35 rfl hb.sv rfl rfl (by omega) (by omega) ?_)
          exact ⟨hE, rfl⟩
        refine ⟨.det (fun val => (val 4)), ⟨fun _ _ hv => (by simp only [hv 4 rfl]), fun _ _ _ _ _ => trivial⟩, fun val h_ W hx he => ⟨trivial, ?_⟩, ?_⟩
        · replace hx := (Upd.drew _ _).trans hx
          replace hb := hb.ext hx
          have hE := Upd.refl (fun _ => False) W
          obtain ⟨hO, he⟩ := he
          obtain ⟨⟨bz, hbz⟩, he⟩ := he
          refine id (X_assign (v := (val 4)) rfl ?_)
          exact ⟨hE, rfl⟩
        intro val W4 hx4 he4
        replace hx4 := (Upd.drew _ _).trans hx4
        have hz4 := hx4.size
        replace hb := hb.ext hx4
        replace hU := hU.trans (Ext.upd hx4)
        obtain ⟨hO, he4⟩ := he4
        obtain ⟨⟨bz, hbz⟩, he4⟩ := he4
        refine L_op rfl (X_assign (v := (cutv b 1 (1 + x.toNat) (l.length))) rfl ?_)
        refine L_nil ?_
        refine T_n ?_
        refine W_exit ?_
        refine B_x ?_
        refine T_n ?_
        refine W_seq ?_
        refine W_reg ?_
        refine L_op rfl (X_move (v := (val 4)) rfl ?_)
        refine L_op rfl (X_move (v := (cutv b 1 (1 + x.toNat) (l.length))) rfl ?_)
        refine L_op rfl (X_move (v := (.int .i64 (0))) rfl ?_)
        refine L_op rfl (X_assign (v := (val 4)) rfl ?_)
        refine L_op rfl (X_assign (v := (cutv b 1 (1 + x.toNat) (l.length))) rfl ?_)
        refine L_op rfl (X_assign (v := (.int .i64 (0))) rfl ?_)
        refine L_nil ?_
        refine T_n ?_
        refine W_ret ?_
        refine S_r ?_
        exact BQ_r (End_3 Tryd.results60 (v1 := (val 4)) (v2 := (cutv b 1 (1 + x.toNat) (l.length))) (v3 := .int .i64 0) rfl rfl rfl ⟨_, _, by rw [take_ok hx (by omega) (by omega)], by rw [takeS_ok (take_ok hx (by omega) (by omega)) hx]; exact hO.more (by omega), by rw [takeR_ok (take_ok hx (by omega) (by omega)) hx]; exact (hb.cutB (lo := 1 + x.toNat) (hi := l.length) (by omega) (by omega) (m := ((l).drop (1 + x.toNat)).take (l.length - (1 + x.toNat))) rfl), fun b' hb' => hb.rbk_cut (Nat.le_refl _) hb', hU.own hn0⟩)

theorem fill_head (l : List UInt8) (h : l.length ≤ 256) : ((fillL l).drop 0).take (l.length - 0) = l := by
  unfold fillL
  rw [if_neg (by omega), List.drop_zero, Nat.sub_zero, List.take_left]
theorem fill_tail (l : List UInt8) (h : l.length ≤ 256) : ((fillL l).drop l.length).take (256 - l.length) = List.replicate (256 - l.length) 0 := by
  unfold fillL
  rw [if_neg (by omega), List.drop_left, List.take_of_length_le (by rw [List.length_replicate]; omega)]
theorem clean_zeros (k : Nat) : ((List.replicate k (0 : UInt8)).all (· == 0)) = true := by
  rw [List.all_eq_true]
  intro x hx
  rw [(List.mem_replicate.1 hx).2]; rfl
theorem halves_l {o n : List UInt8} (hn : n.length = 256) : ((halvesL o n).drop 0).take (128 - 0) = n.take 128 := by
  unfold halvesL
  rw [List.drop_zero, List.take_append_of_le_length (by rw [List.length_take]; omega), List.take_take]; rfl
theorem halves_r {o n : List UInt8} (ho : o.length = 256) (hn : n.length = 256) : ((halvesL o n).drop 128).take (256 - 128) = o.drop 128 := by
  unfold halvesL
  rw [List.drop_append_of_le_length (by rw [List.length_take]; omega), List.drop_eq_nil_of_le (by rw [List.length_take]; omega), List.nil_append, List.take_of_length_le (by rw [List.length_drop]; omega)]
theorem page_l {n : List UInt8} : (n.drop 0).take (128 - 0) = n.take 128 := rfl
theorem page_r {o : List UInt8} (ho : o.length = 256) : (o.drop 128).take (256 - 128) = o.drop 128 := by rw [List.take_of_length_le (by rw [List.length_drop]; omega)]
theorem halves_self (o : List UInt8) : halvesL o o = o := List.take_append_drop 128 o
theorem halves_twice {o n : List UInt8} (hn : n.length = 256) : halvesL (halvesL o n) n = halvesL o n := by
  have h : (halvesL o n).drop 128 = o.drop 128 := by
    unfold halvesL
    rw [List.drop_append_of_le_length (by rw [List.length_take]; omega), List.drop_eq_nil_of_le (by rw [List.length_take]; omega), List.nil_append]
  show n.take 128 ++ (halvesL o n).drop 128 = _
  rw [h]; rfl
end Go.Proofs.YtmddmghgkkjbiaaDoor
