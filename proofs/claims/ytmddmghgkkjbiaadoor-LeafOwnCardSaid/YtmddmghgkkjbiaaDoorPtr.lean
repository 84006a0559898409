/-
  What chapter 06 takes over of chapter 08: pointers. (Printed by wip/gen/t06c.py of this repo.)
-/
import Derived.Test.YtmddmghgkkjbiaaDoorPackB
namespace Go.Proofs.YtmddmghgkkjbiaaDoor
open Go Go.SL Go.Proofs
set_option linter.unusedVariables false

/-- the numbers of a pointer are of their kinds -/
def PtOk (q : Pt) : Prop := (0 ≤ q.1 ∧ q.1 < 256) ∧ (0 ≤ q.2.1 ∧ q.2.1 < 65536) ∧ (0 ≤ q.2.2.1 ∧ q.2.2.1 < 65536) ∧ (0 ≤ q.2.2.2.1 ∧ q.2.2.2.1 < 4294967296) ∧ (0 ≤ q.2.2.2.2 ∧ q.2.2.2.2 < 18446744073709551616)
abbrev MetaP (q : Pt) : Prop := q.1 = 1 ∨ q.1 = 2
abbrev PlaceP (n : Int) (size : Int) : Prop := 4 ≤ n ∧ n < size
abbrev HeadP (q : Pt) : Prop := (1 ≤ q.2.2.2.1 ∧ q.2.2.2.1 ≤ 1073741824) ∧ (MetaP q ∧ q.2.1 ≠ q.2.2.1 ∨ q.1 = 3 ∧ q.2.2.1 = 0)
/-- a pointer's addresses -/
def addrs (q : Pt) : List Int := if MetaP q then [q.2.1, q.2.2.1] else if q.1 = 3 then [q.2.1] else []
abbrev RightP (q : Pt) (size : Int) : Prop := HeadP q ∧ PlaceP q.2.1 size ∧ (MetaP q → PlaceP q.2.2.1 size)
def addrX (q : Pt) : List (List Value) := (addrs q).map fun a => [.int .i64 a]
theorem addrs_meta {q : Pt} (h : MetaP q) : addrs q = [q.2.1, q.2.2.1] := if_pos h
theorem addrs_chain {q : Pt} (h : ¬ MetaP q) (h3 : q.1 = 3) : addrs q = [q.2.1] := (if_neg h).trans (if_pos h3)
theorem addrs_none {q : Pt} (h : ¬ MetaP q) (h3 : q.1 ≠ 3) : addrs q = [] := (if_neg h).trans (if_neg h3)
def accR (q : Pt) (size : Int) (k : Nat) : Prop := HeadP q ∧ ∀ x ∈ (addrs q).take k, PlaceP x size
theorem accR_step {q : Pt} {size : Int} {k : Nat} {a : Int} (h : (addrs q)[k]? = some a) : accR q size (k + 1) ↔ accR q size k ∧ PlaceP a size := by
  unfold accR
  rw [List.take_add_one, h]
  simp only [List.mem_append, Option.toList_some, List.mem_singleton]
  constructor
  · rintro ⟨h1, h2⟩
    exact ⟨⟨h1, fun x hx => h2 x (.inl hx)⟩, h2 a (.inr rfl)⟩
  · rintro ⟨⟨h1, h2⟩, h3⟩
    exact ⟨h1, fun x hx => hx.elim (h2 x) fun e => by rw [e]; exact h3⟩
theorem accR_all {q : Pt} {size : Int} : accR q size (addrs q).length ↔ RightP q size := by
  unfold accR
  rw [List.take_length]
  by_cases hm : MetaP q
  · rw [addrs_meta hm]
    simp only [List.mem_cons, List.not_mem_nil, or_false, forall_eq_or_imp, forall_eq]
    exact ⟨fun ⟨h1, h2, h3⟩ => ⟨h1, h2, fun _ => h3⟩, fun ⟨h1, h2, h3⟩ => ⟨h1, h2, h3 hm⟩⟩
  · by_cases h3 : q.1 = 3
    · rw [addrs_chain hm h3]
      simp only [List.mem_singleton, forall_eq]
      exact ⟨fun ⟨h1, h2⟩ => ⟨h1, h2, fun h => absurd h hm⟩, fun ⟨h1, h2, _⟩ => ⟨h1, h2⟩⟩
    · exact ⟨fun ⟨h1, _⟩ => by rcases h1.2 with h | h <;> omega, fun ⟨h1, _⟩ => by rcases h1.2 with h | h <;> omega⟩
theorem addrX_len (q : Pt) : (addrX q).length = (addrs q).length := by unfold addrX; rw [List.length_map]
theorem addrX_at {q : Pt} {k : Nat} {x : List Value} (h : (addrX q)[k]? = some x) : ∃ a, (addrs q)[k]? = some a ∧ x = [.int .i64 a] := by
  unfold addrX at h
  rw [List.getElem?_map] at h
  cases ha : (addrs q)[k]? with
  | none => rw [ha] at h; cases h
  | some a => rw [ha] at h; cases h; exact ⟨a, rfl, rfl⟩
theorem addrs_in {q : Pt} (hq : PtOk q) {k : Nat} {a : Int} (h : (addrs q)[k]? = some a) : 0 ≤ a ∧ a < 65536 := by
  have hm := List.mem_of_getElem? h
  obtain ⟨_, h1, h2, _⟩ := hq
  unfold addrs at hm
  split at hm
  · simp only [List.mem_cons, List.not_mem_nil, or_false] at hm
    omega
  · split at hm
    · simp only [List.mem_singleton] at hm; omega
    · cases hm
theorem wrap_i64 {a : Int} (h0 : 0 ≤ a) (h1 : a < 9223372036854775808) : IntKind.i64.wrap a = a := by
  have e : (2 : Int) ^ 64 = 18446744073709551616 := by decide
  have e2 : (2 : Int) ^ 63 = 9223372036854775808 := by decide
  simp only [IntKind.wrap, IntKind.signed, IntKind.bits, Nat.reduceSub, e, e2, Bool.true_and]
  rw [show a % 18446744073709551616 = a by omega, if_neg (by simp only [decide_eq_true_eq]; omega)]
theorem wrap_u64 {a : Int} (h0 : 0 ≤ a) (h1 : a < 18446744073709551616) : IntKind.u64.wrap a = a := by
  have e : (2 : Int) ^ 64 = 18446744073709551616 := by decide
  simp only [IntKind.wrap, IntKind.signed, IntKind.bits, e, Bool.false_and, Bool.false_eq_true, if_false]
  omega
theorem u28 : Tryd.prog.underlying 41 = some (.struct (Tryd.prog.fieldsOf 41)) := by kernel_rfl

theorem c_meta (q : Pt) (w : World) : CT Tryd.prog 62 #[(.agg (ptC q).toArray)] w fun v w' => v = .bool (decide (MetaP q)) ∧ Ext w w' := by
  obtain ⟨n0, hn0⟩ : ∃ n, n = w.heap.size := ⟨_, rfl⟩
  have hU : Upd (fun i => n0 ≤ i) w w := Upd.refl _ _
  refine CT_of Tryd.func62 rfl rfl rfl ?_
  refine W_seq ?_
  refine W_reg ?_
  refine L_op rfl (X_box (v := (.agg (ptC q).toArray)) (c := ((ptC q)).toArray) rfl rfl ?_)
  intro b1 w1 hn1
  have hbn1 := hn1.num; have hbs1 := hn1.size
  replace hU := hU.trans (Ext.upd hn1.ext)
  have hB1 := hn1.blk
  refine L_op rfl (X_assign (v := (.bool (false))) rfl ?_)
  refine L_nil ?_
  refine T_n ?_
  refine W_seq ?_
  refine W_reg ?_
  refine L_op rfl (X_fldP (b := b1) (o := 0) (r := 0) Fd41_0 rfl rfl ?_)
  refine L_op rfl (X_load (p := (ptr b1 (0))) (v := (.int .u8 (q.1))) T5 rfl (hB1.at1 rfl) ?_)
  by_cases hc2 : (q.1 : Int) = (1)
  · refine L_op rfl (X_cmp (k := .u8) (a := q.1) (b := 1) (r := true) rfl rfl rfl (decide_eq_true (p := ((q.1) : Int) = ((1) : Int)) (by omega)) ?_)
    refine L_op rfl (X_move (v := (.bool (true))) rfl ?_)
    refine L_gn (dj := 6) (t := true) rfl rfl rfl rfl ?_
    refine L_gn (dj := 6) (t := true) rfl rfl rfl rfl ?_
    refine L_gn (dj := 6) (t := true) rfl rfl rfl rfl ?_
    refine L_op rfl (X_pick (t := true) (v := (.bool (true))) rfl rfl ?_)
    refine L_op rfl (X_assign (v := (.bool (true))) rfl ?_)
    refine L_nil ?_
    refine T_n ?_
    refine W_ret ?_
    exact BQ_r (End_1 Tryd.results62 (v := .bool true) rfl ⟨by rw [decide_eq_true (p := MetaP q) (by unfold MetaP; omega)], hU.own hn0⟩)
  · refine L_op rfl (X_cmp (k := .u8) (a := q.1) (b := 1) (r := false) rfl rfl rfl (decide_eq_false (p := ((q.1) : Int) = ((1) : Int)) (by omega)) ?_)
    refine L_op rfl (X_move (v := (.bool (false))) rfl ?_)
    refine L_gy (dj := 6) rfl rfl rfl (X_fldP (b := b1) (o := 0) (r := 0) Fd41_0 rfl rfl ?_)
    refine L_gy (dj := 6) rfl rfl rfl (X_load (p := (ptr b1 (0))) (v := (.int .u8 (q.1))) T5 rfl (hB1.at1 rfl) ?_)
    by_cases hc3 : (q.1 : Int) = (2)
    · refine L_gy (dj := 6) rfl rfl rfl (X_cmp (k := .u8) (a := q.1) (b := 2) (r := true) rfl rfl rfl (decide_eq_true (p := ((q.1) : Int) = ((2) : Int)) (by omega)) ?_)
      refine L_op rfl (X_pick (t := false) (v := (.bool (true))) rfl rfl ?_)
      refine L_op rfl (X_assign (v := (.bool (true))) rfl ?_)
      refine L_nil ?_
      refine T_n ?_
      refine W_ret ?_
      exact BQ_r (End_1 Tryd.results62 (v := .bool true) rfl ⟨by rw [decide_eq_true (p := MetaP q) (by unfold MetaP; omega)], hU.own hn0⟩)
    · refine L_gy (dj := 6) rfl rfl rfl (X_cmp (k := .u8) (a := q.1) (b := 2) (r := false) rfl rfl rfl (decide_eq_false (p := ((q.1) : Int) = ((2) : Int)) (by omega)) ?_)
      refine L_op rfl (X_pick (t := false) (v := (.bool (false))) rfl rfl ?_)
      refine L_op rfl (X_assign (v := (.bool (false))) rfl ?_)
      refine L_nil ?_
      refine T_n ?_
      refine W_ret ?_
      exact BQ_r (End_1 Tryd.results62 (v := .bool false) rfl ⟨by rw [decide_eq_false (p := MetaP q) (by unfold MetaP; omega)], hU.own hn0⟩)

theorem c_metaR (q : Pt) (w : World) : CT Tryd.prog 59 #[(.agg (ptC q).toArray)] w fun v w' => v = .bool (decide (MetaP q)) ∧ Ext w w' := by
  obtain ⟨n0, hn0⟩ : ∃ n, n = w.heap.size := ⟨_, rfl⟩
  have hU : Upd (fun i => n0 ≤ i) w w := Upd.refl _ _
  refine CT_of Tryd.func59 rfl rfl rfl ?_
  refine W_seq ?_
  refine W_reg ?_
  refine L_op rfl (X_box (v := (.agg (ptC q).toArray)) (c := ((ptC q)).toArray) rfl rfl ?_)
  intro b1 w1 hn1
  have hbn1 := hn1.num; have hbs1 := hn1.size
  replace hU := hU.trans (Ext.upd hn1.ext)
  have hB1 := hn1.blk
  refine L_op rfl (X_assign (v := (.bool (false))) rfl ?_)
  refine L_nil ?_
  refine T_n ?_
  refine W_seq ?_
  refine W_reg ?_
  refine L_op rfl (X_fldP (b := b1) (o := 0) (r := 0) Fd41_0 rfl rfl ?_)
  refine L_op rfl (X_load (p := (ptr b1 (0))) (v := (.int .u8 (q.1))) T5 rfl (hB1.at1 rfl) ?_)
  by_cases hc2 : (q.1 : Int) = (1)
  · refine L_op rfl (X_cmp (k := .u8) (a := q.1) (b := 1) (r := true) rfl rfl rfl (decide_eq_true (p := ((q.1) : Int) = ((1) : Int)) (by omega)) ?_)
    refine L_op rfl (X_move (v := (.bool (true))) rfl ?_)
    refine L_gn (dj := 6) (t := true) rfl rfl rfl rfl ?_
    refine L_gn (dj := 6) (t := true) rfl rfl rfl rfl ?_
    refine L_gn (dj := 6) (t := true) rfl rfl rfl rfl ?_
    refine L_op rfl (X_pick (t := true) (v := (.bool (true))) rfl rfl ?_)
    refine L_op rfl (X_assign (v := (.bool (true))) rfl ?_)
    refine L_nil ?_
    refine T_n ?_
    refine W_ret ?_
    exact BQ_r (End_1 Tryd.results59 (v := .bool true) rfl ⟨by rw [decide_eq_true (p := MetaP q) (by unfold MetaP; omega)], hU.own hn0⟩)
  · refine L_op rfl (X_cmp (k := .u8) (a := q.1) (b := 1) (r := false) rfl rfl rfl (decide_eq_false (p := ((q.1) : Int) = ((1) : Int)) (by omega)) ?_)
    refine L_op rfl (X_move (v := (.bool (false))) rfl ?_)
    refine L_gy (dj := 6) rfl rfl rfl (X_fldP (b := b1) (o := 0) (r := 0) Fd41_0 rfl rfl ?_)
    refine L_gy (dj := 6) rfl rfl rfl (X_load (p := (ptr b1 (0))) (v := (.int .u8 (q.1))) T5 rfl (hB1.at1 rfl) ?_)
    by_cases hc3 : (q.1 : Int) = (2)
    · refine L_gy (dj := 6) rfl rfl rfl (X_cmp (k := .u8) (a := q.1) (b := 2) (r := true) rfl rfl rfl (decide_eq_true (p := ((q.1) : Int) = ((2) : Int)) (by omega)) ?_)
      refine L_op rfl (X_pick (t := false) (v := (.bool (true))) rfl rfl ?_)
      refine L_op rfl (X_assign (v := (.bool (true))) rfl ?_)
      refine L_nil ?_
      refine T_n ?_
      refine W_ret ?_
      exact BQ_r (End_1 Tryd.results59 (v := .bool true) rfl ⟨by rw [decide_eq_true (p := MetaP q) (by unfold MetaP; omega)], hU.own hn0⟩)
    · refine L_gy (dj := 6) rfl rfl rfl (X_cmp (k := .u8) (a := q.1) (b := 2) (r := false) rfl rfl rfl (decide_eq_false (p := ((q.1) : Int) = ((2) : Int)) (by omega)) ?_)
      refine L_op rfl (X_pick (t := false) (v := (.bool (false))) rfl rfl ?_)
      refine L_op rfl (X_assign (v := (.bool (false))) rfl ?_)
      refine L_nil ?_
      refine T_n ?_
      refine W_ret ?_
      exact BQ_r (End_1 Tryd.results59 (v := .bool false) rfl ⟨by rw [decide_eq_false (p := MetaP q) (by unfold MetaP; omega)], hU.own hn0⟩)

theorem c_place (n size : Int) (w : World) (h0 : 0 ≤ n) (h1 : n < 65536) : CT Tryd.prog 58 #[(.int .u16 (n)), (.int .i64 (size))] w fun v w' => v = .bool (decide (PlaceP n size)) ∧ w = w' := by
  refine CT_of Tryd.func58 rfl rfl rfl ?_
  refine W_seq ?_
  refine W_reg ?_
  refine L_op rfl (X_assign (v := (.bool (false))) rfl ?_)
  refine L_nil ?_
  refine T_n ?_
  refine W_seq ?_
  refine W_reg ?_
  refine L_op rfl (X_move (v := (.int .u16 (n))) rfl ?_)
  refine L_op rfl (X_convInt (k := .u16) (a := n) (r := n) (by rw [Tryd.underlying36]; rfl) Tryd.underlying3 rfl (wrap_i64 (by omega) (by omega)) ?_)
  by_cases hc1 : (n : Int) ≥ (4)
  · refine L_op rfl (X_cmp (k := .i64) (a := n) (b := 4) (r := true) rfl rfl rfl (decide_eq_true (p := ((4) : Int) ≤ ((n) : Int)) (by omega)) ?_)
    refine L_op rfl (X_move (v := (.bool (true))) rfl ?_)
    refine L_gy (dj := 8) rfl rfl rfl (X_move (v := (.int .u16 (n))) rfl ?_)
    refine L_gy (dj := 8) rfl rfl rfl (X_convInt (k := .u16) (a := n) (r := n) (by rw [Tryd.underlying36]; rfl) Tryd.underlying3 rfl (wrap_i64 (by omega) (by omega)) ?_)
    refine L_gy (dj := 8) rfl rfl rfl (X_move (v := (.int .i64 (size))) rfl ?_)
    by_cases hc2 : (n : Int) < (size)
    · refine L_gy (dj := 8) rfl rfl rfl (X_cmp (k := .i64) (a := n) (b := size) (r := true) rfl rfl rfl (decide_eq_true (p := ((n) : Int) < ((size) : Int)) (by omega)) ?_)
      refine L_op rfl (X_pick (t := true) (v := (.bool (true))) rfl rfl ?_)
      refine L_op rfl (X_assign (v := (.bool (true))) rfl ?_)
      refine L_nil ?_
      refine T_n ?_
      refine W_ret ?_
      exact BQ_r (End_1 Tryd.results58 (v := .bool true) rfl ⟨by rw [decide_eq_true (p := PlaceP n size) (by unfold PlaceP; omega)], rfl⟩)
    · refine L_gy (dj := 8) rfl rfl rfl (X_cmp (k := .i64) (a := n) (b := size) (r := false) rfl rfl rfl (decide_eq_false (p := ((n) : Int) < ((size) : Int)) (by omega)) ?_)
      refine L_op rfl (X_pick (t := true) (v := (.bool (false))) rfl rfl ?_)
      refine L_op rfl (X_assign (v := (.bool (false))) rfl ?_)
      refine L_nil ?_
      refine T_n ?_
      refine W_ret ?_
      exact BQ_r (End_1 Tryd.results58 (v := .bool false) rfl ⟨by rw [decide_eq_false (p := PlaceP n size) (by unfold PlaceP; omega)], rfl⟩)
  · refine L_op rfl (X_cmp (k := .i64) (a := n) (b := 4) (r := false) rfl rfl rfl (decide_eq_false (p := ((4) : Int) ≤ ((n) : Int)) (by omega)) ?_)
    refine L_op rfl (X_move (v := (.bool (false))) rfl ?_)
    refine L_gn (dj := 8) (t := false) rfl rfl rfl rfl ?_
    refine L_gn (dj := 8) (t := false) rfl rfl rfl rfl ?_
    refine L_gn (dj := 8) (t := false) rfl rfl rfl rfl ?_
    refine L_gn (dj := 8) (t := false) rfl rfl rfl rfl ?_
    refine L_op rfl (X_pick (t := false) (v := (.bool (false))) rfl rfl ?_)
    refine L_op rfl (X_assign (v := (.bool (false))) rfl ?_)
    refine L_nil ?_
    refine T_n ?_
    refine W_ret ?_
    exact BQ_r (End_1 Tryd.results58 (v := .bool false) rfl ⟨by rw [decide_eq_false (p := PlaceP n size) (by unfold PlaceP; omega)], rfl⟩)

theorem c_rightR (q : Pt) (size : Int) (w : World) (hq : PtOk q) : CT Tryd.prog 43 #[(.agg (ptC q).toArray), (.int .i64 (size))] w fun v w' => v = .bool (decide (RightP q size)) ∧ Ext w w' := by
  obtain ⟨n0, hn0⟩ : ∃ n, n = w.heap.size := ⟨_, rfl⟩
  have hU : Upd (fun i => n0 ≤ i) w w := Upd.refl _ _
  obtain ⟨hq1, hq2, hq3, hq4, hq5⟩ := hq
  refine CT_of Tryd.func43 rfl rfl rfl ?_
  refine W_seq ?_
  refine W_reg ?_
  refine L_op rfl (X_box (v := (.agg (ptC q).toArray)) (c := ((ptC q)).toArray) rfl rfl ?_)
  intro b1 w1 hn1
  have hbn1 := hn1.num; have hbs1 := hn1.size
  replace hU := hU.trans (Ext.upd hn1.ext)
  have hB1 := hn1.blk
  refine L_op rfl (X_assign (v := (.bool (false))) rfl ?_)
  refine L_nil ?_
  refine T_n ?_
  refine W_seq ?_
  refine W_seq ?_
  refine W_reg ?_
  refine L_op rfl (X_fldP (b := b1) (o := 0) (r := 3) Fd41_2 rfl rfl ?_)
  refine L_op rfl (X_load (p := (ptr b1 (3))) (v := (.int .u32 (q.2.2.2.1))) T38 rfl (hB1.at1 rfl) ?_)
  by_cases hc2 : (q.2.2.2.1 : Int) < (1)
  · refine L_op rfl (X_cmp (k := .u32) (a := q.2.2.2.1) (b := 1) (r := true) rfl rfl rfl (decide_eq_true (p := ((q.2.2.2.1) : Int) < ((1) : Int)) (by omega)) ?_)
    refine L_op rfl (X_move (v := (.bool (true))) rfl ?_)
    refine L_gn (dj := 8) (t := true) rfl rfl rfl rfl ?_
    refine L_gn (dj := 8) (t := true) rfl rfl rfl rfl ?_
    refine L_gn (dj := 8) (t := true) rfl rfl rfl rfl ?_
    refine L_op rfl (X_pick (t := true) (v := (.bool (true))) rfl rfl ?_)
    refine L_op rfl (X_move (v := (.bool (true))) rfl ?_)
    refine L_gn (dj := 13) (t := true) rfl rfl rfl rfl ?_
    refine L_gn (dj := 13) (t := true) rfl rfl rfl rfl ?_
    refine L_gn (dj := 13) (t := true) rfl rfl rfl rfl ?_
    refine L_gn (dj := 13) (t := true) rfl rfl rfl rfl ?_
    refine L_gn (dj := 13) (t := true) rfl rfl rfl rfl ?_
    refine L_gn (dj := 13) (t := true) rfl rfl rfl rfl ?_
    refine L_op rfl (X_pick (t := true) (v := (.bool (true))) rfl rfl ?_)
    refine L_nil ?_
    refine T_n ?_
    refine W_ct rfl ?_
    refine W_seq ?_
    refine W_reg ?_
    refine L_op rfl (X_assign (v := (.bool (false))) rfl ?_)
    refine L_nil ?_
    refine T_n ?_
    refine W_ret ?_
    refine T_r ?_
    exact BQ_r (End_1 Tryd.results43 (v := .bool false) rfl ⟨by rw [decide_eq_false (p := RightP q size) (by skip; show ¬ (((1 ≤ q.2.2.2.1 ∧ q.2.2.2.1 ≤ 1073741824) ∧ ((q.1 = 1 ∨ q.1 = 2) ∧ q.2.1 ≠ q.2.2.1 ∨ q.1 = 3 ∧ q.2.2.1 = 0)) ∧ (4 ≤ q.2.1 ∧ q.2.1 < size) ∧ ((q.1 = 1 ∨ q.1 = 2) → (4 ≤ q.2.2.1 ∧ q.2.2.1 < size))); omega)], hU.own hn0⟩)
  · refine L_op rfl (X_cmp (k := .u32) (a := q.2.2.2.1) (b := 1) (r := false) rfl rfl rfl (decide_eq_false (p := ((q.2.2.2.1) : Int) < ((1) : Int)) (by omega)) ?_)
    refine L_op rfl (X_move (v := (.bool (false))) rfl ?_)
    refine L_gy (dj := 8) rfl rfl rfl (X_fldP (b := b1) (o := 0) (r := 3) Fd41_2 rfl rfl ?_)
    refine L_gy (dj := 8) rfl rfl rfl (X_load (p := (ptr b1 (3))) (v := (.int .u32 (q.2.2.2.1))) T38 rfl (hB1.at1 rfl) ?_)
    by_cases hc3 : (q.2.2.2.1 : Int) > (1073741824)
    · refine L_gy (dj := 8) rfl rfl rfl (X_cmp (k := .u32) (a := q.2.2.2.1) (b := 1073741824) (r := true) rfl rfl rfl (decide_eq_true (p := ((1073741824) : Int) < ((q.2.2.2.1) : Int)) (by omega)) ?_)
      refine L_op rfl (X_pick (t := false) (v := (.bool (true))) rfl rfl ?_)
      refine L_op rfl (X_move (v := (.bool (true))) rfl ?_)
      refine L_gn (dj := 13) (t := true) rfl rfl rfl rfl ?_
      refine L_gn (dj := 13) (t := true) rfl rfl rfl rfl ?_
      refine L_gn (dj := 13) (t := true) rfl rfl rfl rfl ?_
      refine L_gn (dj := 13) (t := true) rfl rfl rfl rfl ?_
      refine L_gn (dj := 13) (t := true) rfl rfl rfl rfl ?_
      refine L_gn (dj := 13) (t := true) rfl rfl rfl rfl ?_
      refine L_op rfl (X_pick (t := true) (v := (.bool (true))) rfl rfl ?_)
      refine L_nil ?_
      refine T_n ?_
      refine W_ct rfl ?_
      refine W_seq ?_
      refine W_reg ?_
      refine L_op rfl (X_assign (v := (.bool (false))) rfl ?_)
      refine L_nil ?_
      refine T_n ?_
      refine W_ret ?_
      refine T_r ?_
      exact BQ_r (End_1 Tryd.results43 (v := .bool false) rfl ⟨by rw [decide_eq_false (p := RightP q size) (by skip; show ¬ (((1 ≤ q.2.2.2.1 ∧ q.2.2.2.1 ≤ 1073741824) ∧ ((q.1 = 1 ∨ q.1 = 2) ∧ q.2.1 ≠ q.2.2.1 ∨ q.1 = 3 ∧ q.2.2.1 = 0)) ∧ (4 ≤ q.2.1 ∧ q.2.1 < size) ∧ ((q.1 = 1 ∨ q.1 = 2) → (4 ≤ q.2.2.1 ∧ q.2.2.1 < size))); omega)], hU.own hn0⟩)
    · refine L_gy (dj := 8) rfl rfl rfl (X_cmp (k := .u32) (a := q.2.2.2.1) (b := 1073741824) (r := false) rfl rfl rfl (decide_eq_false (p := ((1073741824) : Int) < ((q.2.2.2.1) : Int)) (by omega)) ?_)
      refine L_op rfl (X_pick (t := false) (v := (.bool (false))) rfl rfl ?_)
      refine L_op rfl (X_move (v := (.bool (false))) rfl ?_)
      refine L_gy (dj := 13) rfl rfl rfl (X_fldP (b := b1) (o := 0) (r := 1) Fd41_1 rfl rfl ?_)
      refine L_gy (dj := 13) rfl rfl rfl (X_idxAP (len := 2) (sz := 1) (b := b1) (o := 1) (k := .i64) (i := 0) (r := 1) Tryd.underlying37 Z36 rfl rfl (by omega) (by omega) rfl ?_)
      refine L_gy (dj := 13) rfl rfl rfl (X_load (p := (ptr b1 (1))) (v := (.int .u16 (q.2.1))) T36 rfl (hB1.at1 rfl) ?_)
      refine L_gy (dj := 13) rfl rfl rfl (X_move (v := (.int .i64 (size))) rfl ?_)
      refine L_gy (dj := 13) rfl rfl rfl (X_fn (vs := [(.int .u16 (q.2.1)), (.int .i64 (size))]) en58 rfl (CT.mono (c_place _ _ _ (by omega) (by omega)) ?_))
      rintro _ _ ⟨rfl, rfl⟩
      rcases Bool.eq_false_or_eq_true (decide (PlaceP q.2.1 size)) with hc4 | hc4
      · rw [hc4]
        refine L_gy (dj := 13) rfl rfl rfl (X_not (b := true) (r := false) rfl rfl ?_)
        refine L_op rfl (X_pick (t := false) (v := (.bool (false))) rfl rfl ?_)
        refine L_nil ?_
        refine T_n ?_
        refine W_cf rfl ?_
        refine W_skip ?_
        refine T_n ?_
        refine W_seq ?_
        refine W_seq ?_
        refine W_reg ?_
        refine L_op rfl (X_loadA (p := (ptr b1 (0))) (xs := ptC q) A41 rfl hB1.atAll rfl ?_)
        refine L_op rfl (X_fn (vs := [(.agg (ptC q).toArray)]) en59 rfl (CT.mono (c_metaR q _) ?_))
        rintro _ w5 ⟨rfl, hu5⟩
        have hz5 := hu5.size
        replace hU := hU.trans (Ext.upd hu5)
        replace hB1 := hB1.ext hu5
        rcases Bool.eq_false_or_eq_true (decide (MetaP q)) with hc6 | hc6
        · rw [hc6]
          refine L_nil ?_
          refine T_n ?_
          refine W_ct rfl ?_
          refine W_seq ?_
          refine W_reg ?_
          refine L_op rfl (X_fldP (b := b1) (o := 0) (r := 1) Fd41_1 rfl rfl ?_)
          refine L_op rfl (X_idxAP (len := 2) (sz := 1) (b := b1) (o := 1) (k := .i64) (i := 1) (r := 2) Tryd.underlying37 Z36 rfl rfl (by omega) (by omega) rfl ?_)
          refine L_op rfl (X_load (p := (ptr b1 (2))) (v := (.int .u16 (q.2.2.1))) T36 rfl (hB1.at1 rfl) ?_)
          refine L_op rfl (X_move (v := (.int .i64 (size))) rfl ?_)
          refine L_op rfl (X_fn (vs := [(.int .u16 (q.2.2.1)), (.int .i64 (size))]) en58 rfl (CT.mono (c_place _ _ _ (by omega) (by omega)) ?_))
          rintro _ _ ⟨rfl, rfl⟩
          rcases Bool.eq_false_or_eq_true (decide (PlaceP q.2.2.1 size)) with hc7 | hc7
          · rw [hc7]
            refine L_op rfl (X_move (v := (.bool (true))) rfl ?_)
            refine L_gy (dj := 28) rfl rfl rfl (X_fldP (b := b1) (o := 0) (r := 1) Fd41_1 rfl rfl ?_)
            refine L_gy (dj := 28) rfl rfl rfl (X_idxAP (len := 2) (sz := 1) (b := b1) (o := 1) (k := .i64) (i := 0) (r := 1) Tryd.underlying37 Z36 rfl rfl (by omega) (by omega) rfl ?_)
            refine L_gy (dj := 28) rfl rfl rfl (X_load (p := (ptr b1 (1))) (v := (.int .u16 (q.2.1))) T36 rfl (hB1.at1 rfl) ?_)
            refine L_gy (dj := 28) rfl rfl rfl (X_fldP (b := b1) (o := 0) (r := 1) Fd41_1 rfl rfl ?_)
            refine L_gy (dj := 28) rfl rfl rfl (X_idxAP (len := 2) (sz := 1) (b := b1) (o := 1) (k := .i64) (i := 1) (r := 2) Tryd.underlying37 Z36 rfl rfl (by omega) (by omega) rfl ?_)
            refine L_gy (dj := 28) rfl rfl rfl (X_load (p := (ptr b1 (2))) (v := (.int .u16 (q.2.2.1))) T36 rfl (hB1.at1 rfl) ?_)
            by_cases hc8 : (q.2.1 : Int) ≠ (q.2.2.1)
            · refine L_gy (dj := 28) rfl rfl rfl (X_cmp (k := .u16) (a := q.2.1) (b := q.2.2.1) (r := true) rfl rfl rfl (decide_eq_true (p := ((q.2.1) : Int) ≠ ((q.2.2.1) : Int)) (by omega)) ?_)
              refine L_op rfl (X_pick (t := true) (v := (.bool (true))) rfl rfl ?_)
              refine L_op rfl (X_assign (v := (.bool (true))) rfl ?_)
              refine L_nil ?_
              refine T_n ?_
              refine W_ret ?_
              refine T_r ?_
              exact BQ_r (End_1 Tryd.results43 (v := .bool true) rfl ⟨by rw [decide_eq_true (p := RightP q size) (by have hk0_ : (4 ≤ q.2.1 ∧ q.2.1 < size) := of_decide_eq_true hc4; have hk1_ : (q.1 = 1 ∨ q.1 = 2) := of_decide_eq_true hc6; have hk2_ : (4 ≤ q.2.2.1 ∧ q.2.2.1 < size) := of_decide_eq_true hc7; show (((1 ≤ q.2.2.2.1 ∧ q.2.2.2.1 ≤ 1073741824) ∧ ((q.1 = 1 ∨ q.1 = 2) ∧ q.2.1 ≠ q.2.2.1 ∨ q.1 = 3 ∧ q.2.2.1 = 0)) ∧ (4 ≤ q.2.1 ∧ q.2.1 < size) ∧ ((q.1 = 1 ∨ q.1 = 2) → (4 ≤ q.2.2.1 ∧ q.2.2.1 < size))); omega)], hU.own hn0⟩)
            · refine L_gy (dj := 28) rfl rfl rfl (X_cmp (k := .u16) (a := q.2.1) (b := q.2.2.1) (r := false) rfl rfl rfl (decide_eq_false (p := ((q.2.1) : Int) ≠ ((q.2.2.1) : Int)) (by omega)) ?_)
              refine L_op rfl (X_pick (t := true) (v := (.bool (false))) rfl rfl ?_)
              refine L_op rfl (X_assign (v := (.bool (false))) rfl ?_)
              refine L_nil ?_
              refine T_n ?_
              refine W_ret ?_
              refine T_r ?_
              exact BQ_r (End_1 Tryd.results43 (v := .bool false) rfl ⟨by rw [decide_eq_false (p := RightP q size) (by have hk0_ : (4 ≤ q.2.1 ∧ q.2.1 < size) := of_decide_eq_true hc4; have hk1_ : (q.1 = 1 ∨ q.1 = 2) := of_decide_eq_true hc6; have hk2_ : (4 ≤ q.2.2.1 ∧ q.2.2.1 < size) := of_decide_eq_true hc7; show ¬ (((1 ≤ q.2.2.2.1 ∧ q.2.2.2.1 ≤ 1073741824) ∧ ((q.1 = 1 ∨ q.1 = 2) ∧ q.2.1 ≠ q.2.2.1 ∨ q.1 = 3 ∧ q.2.2.1 = 0)) ∧ (4 ≤ q.2.1 ∧ q.2.1 < size) ∧ ((q.1 = 1 ∨ q.1 = 2) → (4 ≤ q.2.2.1 ∧ q.2.2.1 < size))); omega)], hU.own hn0⟩)
          · rw [hc7]
            refine L_op rfl (X_move (v := (.bool (false))) rfl ?_)
            refine L_gn (dj := 28) (t := false) rfl rfl rfl rfl ?_
            refine L_gn (dj := 28) (t := false) rfl rfl rfl rfl ?_
            refine L_gn (dj := 28) (t := false) rfl rfl rfl rfl ?_
            refine L_gn (dj := 28) (t := false) rfl rfl rfl rfl ?_
            refine L_gn (dj := 28) (t := false) rfl rfl rfl rfl ?_
            refine L_gn (dj := 28) (t := false) rfl rfl rfl rfl ?_
            refine L_gn (dj := 28) (t := false) rfl rfl rfl rfl ?_
            refine L_op rfl (X_pick (t := false) (v := (.bool (false))) rfl rfl ?_)
            refine L_op rfl (X_assign (v := (.bool (false))) rfl ?_)
            refine L_nil ?_
            refine T_n ?_
            refine W_ret ?_
            refine T_r ?_
            exact BQ_r (End_1 Tryd.results43 (v := .bool false) rfl ⟨by rw [decide_eq_false (p := RightP q size) (by have hk0_ : (4 ≤ q.2.1 ∧ q.2.1 < size) := of_decide_eq_true hc4; have hk1_ : (q.1 = 1 ∨ q.1 = 2) := of_decide_eq_true hc6; have hk2_ : ¬ (4 ≤ q.2.2.1 ∧ q.2.2.1 < size) := of_decide_eq_false hc7; show ¬ (((1 ≤ q.2.2.2.1 ∧ q.2.2.2.1 ≤ 1073741824) ∧ ((q.1 = 1 ∨ q.1 = 2) ∧ q.2.1 ≠ q.2.2.1 ∨ q.1 = 3 ∧ q.2.2.1 = 0)) ∧ (4 ≤ q.2.1 ∧ q.2.1 < size) ∧ ((q.1 = 1 ∨ q.1 = 2) → (4 ≤ q.2.2.1 ∧ q.2.2.1 < size))); omega)], hU.own hn0⟩)
        · rw [hc6]
          refine L_nil ?_
          refine T_n ?_
          refine W_cf rfl ?_
          refine W_skip ?_
          refine T_n ?_
          refine W_seq ?_
          refine W_reg ?_
          refine L_op rfl (X_fldP (b := b1) (o := 0) (r := 0) Fd41_0 rfl rfl ?_)
          refine L_op rfl (X_load (p := (ptr b1 (0))) (v := (.int .u8 (q.1))) T5 rfl (hB1.at1 rfl) ?_)
          by_cases hc9 : (q.1 : Int) = (3)
          · refine L_op rfl (X_cmp (k := .u8) (a := q.1) (b := 3) (r := true) rfl rfl rfl (decide_eq_true (p := ((q.1) : Int) = ((3) : Int)) (by omega)) ?_)
            refine L_op rfl (X_move (v := (.bool (true))) rfl ?_)
            refine L_gy (dj := 40) rfl rfl rfl (X_fldP (b := b1) (o := 0) (r := 1) Fd41_1 rfl rfl ?_)
            refine L_gy (dj := 40) rfl rfl rfl (X_idxAP (len := 2) (sz := 1) (b := b1) (o := 1) (k := .i64) (i := 1) (r := 2) Tryd.underlying37 Z36 rfl rfl (by omega) (by omega) rfl ?_)
            refine L_gy (dj := 40) rfl rfl rfl (X_load (p := (ptr b1 (2))) (v := (.int .u16 (q.2.2.1))) T36 rfl (hB1.at1 rfl) ?_)
            by_cases hc10 : (q.2.2.1 : Int) = (0)
            · refine L_gy (dj := 40) rfl rfl rfl (X_cmp (k := .u16) (a := q.2.2.1) (b := 0) (r := true) rfl rfl rfl (decide_eq_true (p := ((q.2.2.1) : Int) = ((0) : Int)) (by omega)) ?_)
              refine L_op rfl (X_pick (t := true) (v := (.bool (true))) rfl rfl ?_)
              refine L_op rfl (X_assign (v := (.bool (true))) rfl ?_)
              refine L_nil ?_
              refine T_n ?_
              refine W_ret ?_
              exact BQ_r (End_1 Tryd.results43 (v := .bool true) rfl ⟨by rw [decide_eq_true (p := RightP q size) (by have hk0_ : (4 ≤ q.2.1 ∧ q.2.1 < size) := of_decide_eq_true hc4; have hk1_ : ¬ (q.1 = 1 ∨ q.1 = 2) := of_decide_eq_false hc6; show (((1 ≤ q.2.2.2.1 ∧ q.2.2.2.1 ≤ 1073741824) ∧ ((q.1 = 1 ∨ q.1 = 2) ∧ q.2.1 ≠ q.2.2.1 ∨ q.1 = 3 ∧ q.2.2.1 = 0)) ∧ (4 ≤ q.2.1 ∧ q.2.1 < size) ∧ ((q.1 = 1 ∨ q.1 = 2) → (4 ≤ q.2.2.1 ∧ q.2.2.1 < size))); omega)], hU.own hn0⟩)
            · refine L_gy (dj := 40) rfl rfl rfl (X_cmp (k := .u16) (a := q.2.2.1) (b := 0) (r := false) rfl rfl rfl (decide_eq_false (p := ((q.2.2.1) : Int) = ((0) : Int)) (by omega)) ?_)
              refine L_op rfl (X_pick (t := true) (v := (.bool (false))) rfl rfl ?_)
              refine L_op rfl (X_assign (v := (.bool (false))) rfl ?_)
              refine L_nil ?_
              refine T_n ?_
              refine W_ret ?_
              exact BQ_r (End_1 Tryd.results43 (v := .bool false) rfl ⟨by rw [decide_eq_false (p := RightP q size) (by have hk0_ : (4 ≤ q.2.1 ∧ q.2.1 < size) := of_decide_eq_true hc4; have hk1_ : ¬ (q.1 = 1 ∨ q.1 = 2) := of_decide_eq_false hc6; show ¬ (((1 ≤ q.2.2.2.1 ∧ q.2.2.2.1 ≤ 1073741824) ∧ ((q.1 = 1 ∨ q.1 = 2) ∧ q.2.1 ≠ q.2.2.1 ∨ q.1 = 3 ∧ q.2.2.1 = 0)) ∧ (4 ≤ q.2.1 ∧ q.2.1 < size) ∧ ((q.1 = 1 ∨ q.1 = 2) → (4 ≤ q.2.2.1 ∧ q.2.2.1 < size))); omega)], hU.own hn0⟩)
          · refine L_op rfl (X_cmp (k := .u8) (a := q.1) (b := 3) (r := false) rfl rfl rfl (decide_eq_false (p := ((q.1) : Int) = ((3) : Int)) (by omega)) ?_)
            refine L_op rfl (X_move (v := (.bool (false))) rfl ?_)
            refine L_gn (dj := 40) (t := false) rfl rfl rfl rfl ?_
            refine L_gn (dj := 40) (t := false) rfl rfl rfl rfl ?_
            refine L_gn (dj := 40) (t := false) rfl rfl rfl rfl ?_
            refine L_gn (dj := 40) (t := false) rfl rfl rfl rfl ?_
            refine L_op rfl (X_pick (t := false) (v := (.bool (false))) rfl rfl ?_)
            refine L_op rfl (X_assign (v := (.bool (false))) rfl ?_)
            refine L_nil ?_
            refine T_n ?_
            refine W_ret ?_
            exact BQ_r (End_1 Tryd.results43 (v := .bool false) rfl ⟨by rw [decide_eq_false (p := RightP q size) (by have hk0_ : (4 ≤ q.2.1 ∧ q.2.1 < size) := of_decide_eq_true hc4; have hk1_ : ¬ (q.1 = 1 ∨ q.1 = 2) := of_decide_eq_false hc6; show ¬ (((1 ≤ q.2.2.2.1 ∧ q.2.2.2.1 ≤ 1073741824) ∧ ((q.1 = 1 ∨ q.1 = 2) ∧ q.2.1 ≠ q.2.2.1 ∨ q.1 = 3 ∧ q.2.2.1 = 0)) ∧ (4 ≤ q.2.1 ∧ q.2.1 < size) ∧ ((q.1 = 1 ∨ q.1 = 2) → (4 ≤ q.2.2.1 ∧ q.2.2.1 < size))); omega)], hU.own hn0⟩)
      · rw [hc4]
        refine L_gy (dj := 13) rfl rfl rfl (X_not (b := false) (r := true) rfl rfl ?_)
        refine L_op rfl (X_pick (t := false) (v := (.bool (true))) rfl rfl ?_)
        refine L_nil ?_
        refine T_n ?_
        refine W_ct rfl ?_
        refine W_seq ?_
        refine W_reg ?_
        refine L_op rfl (X_assign (v := (.bool (false))) rfl ?_)
        refine L_nil ?_
        refine T_n ?_
        refine W_ret ?_
        refine T_r ?_
        exact BQ_r (End_1 Tryd.results43 (v := .bool false) rfl ⟨by rw [decide_eq_false (p := RightP q size) (by have hk0_ : ¬ (4 ≤ q.2.1 ∧ q.2.1 < size) := of_decide_eq_false hc4; show ¬ (((1 ≤ q.2.2.2.1 ∧ q.2.2.2.1 ≤ 1073741824) ∧ ((q.1 = 1 ∨ q.1 = 2) ∧ q.2.1 ≠ q.2.2.1 ∨ q.1 = 3 ∧ q.2.2.1 = 0)) ∧ (4 ≤ q.2.1 ∧ q.2.1 < size) ∧ ((q.1 = 1 ∨ q.1 = 2) → (4 ≤ q.2.2.1 ∧ q.2.2.1 < size))); omega)], hU.own hn0⟩)

theorem c_addresses (q : Pt) (w : World) : CT Tryd.prog 63 #[(.agg (ptC q).toArray)] w fun v w' => v = .func (.func 65) #[] #[ptr w.heap.size 0] ∧ Blk w' w.heap.size (ptC q).toArray 41 ∧ Ext w w' ∧ w'.heap.size = w.heap.size + 1 := by
  obtain ⟨n0, hn0⟩ : ∃ n, n = w.heap.size := ⟨_, rfl⟩
  have hU : Upd (fun i => n0 ≤ i) w w := Upd.refl _ _
  refine CT_of Tryd.func63 rfl rfl rfl ?_
  refine W_seq ?_
  refine W_reg ?_
  refine L_op rfl (X_box (v := (.agg (ptC q).toArray)) (c := ((ptC q)).toArray) rfl rfl ?_)
  intro b1 w1 hn1
  have hbn1 := hn1.num; have hbs1 := hn1.size
  replace hU := hU.trans (Ext.upd hn1.ext)
  have hB1 := hn1.blk
  refine L_op rfl (X_assign (v := .nilFunc) rfl ?_)
  refine L_nil ?_
  refine T_n ?_
  refine W_seq ?_
  refine W_reg ?_
  refine L_op rfl (X_makeFunc (vs := [(ptr b1 (0))]) rfl ?_)
  refine L_op rfl (X_assign (v := (.func (.func 65) #[] #[(ptr b1 (0))])) rfl ?_)
  refine L_nil ?_
  refine T_n ?_
  refine W_ret ?_
  exact BQ_r (End_1 Tryd.results63 (v := .func (.func 65) #[] #[ptr b1 0]) rfl ⟨by rw [hbn1], hbn1 ▸ hB1, hU.own hn0, by omega⟩)

set_option maxHeartbeats 1000000 in
theorem c_addr1 (q : Pt) (b1 : Nat) (w : World) (hq : PtOk q) (hB : Blk w b1 (ptC q).toArray 41) : IterC Tryd.prog 65 [ptr b1 0] (addrX q) w (fun b => b = b1) (fun _ => False) := by
  intro l J Jx W Db hu0 hDb hJs hJxs hy hJ
  replace hB : Blk W b1 (ptC q).toArray 41 := hB.upd hu0 fun h => h rfl
  obtain ⟨hq1, hq2, hq3, hq4, hq5⟩ := hq
  show CT Tryd.prog 65 #[.func (.yield l) #[] #[], ptr b1 0] W _
  refine CT_of Tryd.func65 rfl rfl rfl ?_
  refine W_seq ?_
  refine W_seq ?_
  refine W_reg ?_
  refine L_op rfl (X_loadA (p := (ptr b1 (0))) (xs := ptC q) A41 rfl hB.atAll rfl ?_)
  refine L_op rfl (X_fn (vs := [(.agg (ptC q).toArray)]) en62 rfl (CT.mono (c_meta q _) ?_))
  rintro _ w1 ⟨rfl, hu1⟩
  replace hB := hB.ext hu1
  replace hJ := hJs _ _ _ hJ (Ext.upd hu1)
  rcases Bool.eq_false_or_eq_true (decide (MetaP q)) with hc2 | hc2
  · rw [hc2]
    have hadr := addrs_meta (of_decide_eq_true hc2)
    refine L_op rfl (X_not (b := true) (r := false) rfl rfl ?_)
    refine L_op rfl (X_move (v := (.bool (false))) rfl ?_)
    refine L_gn (dj := 6) (t := false) rfl rfl rfl rfl ?_
    refine L_gn (dj := 6) (t := false) rfl rfl rfl rfl ?_
    refine L_gn (dj := 6) (t := false) rfl rfl rfl rfl ?_
    refine L_op rfl (X_pick (t := false) (v := (.bool (false))) rfl rfl ?_)
    refine L_op rfl (X_move (v := (.bool (false))) rfl ?_)
    refine L_gy (dj := 11) rfl rfl rfl (X_move (v := (.func (.yield l) #[] #[])) rfl ?_)
    refine L_gy (dj := 11) rfl rfl rfl (X_fldP (b := b1) (o := 0) (r := 1) Fd41_1 rfl rfl ?_)
    refine L_gy (dj := 11) rfl rfl rfl (X_idxAP (len := 2) (sz := 1) (b := b1) (o := 1) (k := .i64) (i := 0) (r := 1) Tryd.underlying37 Z36 rfl rfl (by omega) (by omega) rfl ?_)
    refine L_gy (dj := 11) rfl rfl rfl (X_load (p := (ptr b1 (1))) (v := (.int .u16 (q.2.1))) T36 rfl (hB.at1 rfl) ?_)
    refine L_gy (dj := 11) rfl rfl rfl (X_convInt (k := .u16) (a := q.2.1) (r := q.2.1) (by rw [Tryd.underlying36]; rfl) Tryd.underlying3 rfl (wrap_i64 (by omega) (by omega)) ?_)
    refine L_gy (dj := 11) rfl rfl rfl (X_yield (vs := [.int .i64 q.2.1]) rfl rfl (YieldC.mono (hy 0 _ _ (by unfold addrX; rw [hadr]; rfl) hJ) ?_))
    rintro _ W2 (⟨rfl, hJ, huy0⟩ | ⟨rfl, hJx⟩)
    · replace hB := hB.upd huy0 fun h => hDb _ h rfl
      refine L_gy (dj := 11) rfl rfl rfl (X_not (b := true) (r := false) rfl rfl ?_)
      refine L_op rfl (X_pick (t := false) (v := (.bool (false))) rfl rfl ?_)
      refine L_nil ?_
      refine T_n ?_
      refine W_cf rfl ?_
      refine W_skip ?_
      refine T_n ?_
      refine W_seq ?_
      refine W_reg ?_
      refine L_op rfl (X_loadA (p := (ptr b1 (0))) (xs := ptC q) A41 rfl hB.atAll rfl ?_)
      refine L_op rfl (X_fn (vs := [(.agg (ptC q).toArray)]) en62 rfl (CT.mono (c_meta q _) ?_))
      rintro _ w3 ⟨rfl, hu3⟩
      replace hB := hB.ext hu3
      replace hJ := hJs _ _ _ hJ (Ext.upd hu3)
      rw [show (decide (MetaP q)) = true from hc2]
      refine L_nil ?_
      refine T_n ?_
      refine W_ct rfl ?_
      refine W_reg ?_
      refine L_op rfl (X_move (v := (.func (.yield l) #[] #[])) rfl ?_)
      refine L_op rfl (X_fldP (b := b1) (o := 0) (r := 1) Fd41_1 rfl rfl ?_)
      refine L_op rfl (X_idxAP (len := 2) (sz := 1) (b := b1) (o := 1) (k := .i64) (i := 1) (r := 2) Tryd.underlying37 Z36 rfl rfl (by omega) (by omega) rfl ?_)
      refine L_op rfl (X_load (p := (ptr b1 (2))) (v := (.int .u16 (q.2.2.1))) T36 rfl (hB.at1 rfl) ?_)
      refine L_op rfl (X_convInt (k := .u16) (a := q.2.2.1) (r := q.2.2.1) (by rw [Tryd.underlying36]; rfl) Tryd.underlying3 rfl (wrap_i64 (by omega) (by omega)) ?_)
      refine L_op rfl (X_yield (vs := [.int .i64 q.2.2.1]) rfl rfl (YieldC.mono (hy 1 _ _ (by unfold addrX; rw [hadr]; rfl) hJ) ?_))
      rintro _ W3 (⟨rfl, hJ, huy1⟩ | ⟨rfl, hJx⟩)
      · replace hB := hB.upd huy1 fun h => hDb _ h rfl
        refine L_nil ?_
        exact BQ_n (End_0 Tryd.results65 (.inl (by rw [addrX_len, hadr]; exact hJ)))
      · refine L_nil ?_
        exact BQ_n (End_0 Tryd.results65 (.inr ⟨1, by rw [addrX_len, hadr]; simp, hJx⟩))
    · refine L_gy (dj := 11) rfl rfl rfl (X_not (b := false) (r := true) rfl rfl ?_)
      refine L_op rfl (X_pick (t := false) (v := (.bool (true))) rfl rfl ?_)
      refine L_nil ?_
      refine T_n ?_
      refine W_ct rfl ?_
      refine W_ret ?_
      refine T_r ?_
      exact BQ_r (End_0 Tryd.results65 (.inr ⟨0, by rw [addrX_len, hadr]; simp, hJx⟩))
  · rw [hc2]
    refine L_op rfl (X_not (b := false) (r := true) rfl rfl ?_)
    refine L_op rfl (X_move (v := (.bool (true))) rfl ?_)
    refine L_gy (dj := 6) rfl rfl rfl (X_fldP (b := b1) (o := 0) (r := 0) Fd41_0 rfl rfl ?_)
    refine L_gy (dj := 6) rfl rfl rfl (X_load (p := (ptr b1 (0))) (v := (.int .u8 (q.1))) T5 rfl (hB.at1 rfl) ?_)
    by_cases hc4 : (q.1 : Int) ≠ (3)
    · refine L_gy (dj := 6) rfl rfl rfl (X_cmp (k := .u8) (a := q.1) (b := 3) (r := true) rfl rfl rfl (decide_eq_true (p := ((q.1) : Int) ≠ ((3) : Int)) (by omega)) ?_)
      have hadr := addrs_none (of_decide_eq_false hc2) hc4
      refine L_op rfl (X_pick (t := true) (v := (.bool (true))) rfl rfl ?_)
      refine L_op rfl (X_move (v := (.bool (true))) rfl ?_)
      refine L_gn (dj := 11) (t := true) rfl rfl rfl rfl ?_
      refine L_gn (dj := 11) (t := true) rfl rfl rfl rfl ?_
      refine L_gn (dj := 11) (t := true) rfl rfl rfl rfl ?_
      refine L_gn (dj := 11) (t := true) rfl rfl rfl rfl ?_
      refine L_gn (dj := 11) (t := true) rfl rfl rfl rfl ?_
      refine L_gn (dj := 11) (t := true) rfl rfl rfl rfl ?_
      refine L_gn (dj := 11) (t := true) rfl rfl rfl rfl ?_
      refine L_op rfl (X_pick (t := true) (v := (.bool (true))) rfl rfl ?_)
      refine L_nil ?_
      refine T_n ?_
      refine W_ct rfl ?_
      refine W_ret ?_
      refine T_r ?_
      exact BQ_r (End_0 Tryd.results65 (.inl (by rw [addrX_len, hadr]; exact hJ)))
    · refine L_gy (dj := 6) rfl rfl rfl (X_cmp (k := .u8) (a := q.1) (b := 3) (r := false) rfl rfl rfl (decide_eq_false (p := ((q.1) : Int) ≠ ((3) : Int)) (by omega)) ?_)
      have hadr := addrs_chain (of_decide_eq_false hc2) (by omega)
      refine L_op rfl (X_pick (t := true) (v := (.bool (false))) rfl rfl ?_)
      refine L_op rfl (X_move (v := (.bool (false))) rfl ?_)
      refine L_gy (dj := 11) rfl rfl rfl (X_move (v := (.func (.yield l) #[] #[])) rfl ?_)
      refine L_gy (dj := 11) rfl rfl rfl (X_fldP (b := b1) (o := 0) (r := 1) Fd41_1 rfl rfl ?_)
      refine L_gy (dj := 11) rfl rfl rfl (X_idxAP (len := 2) (sz := 1) (b := b1) (o := 1) (k := .i64) (i := 0) (r := 1) Tryd.underlying37 Z36 rfl rfl (by omega) (by omega) rfl ?_)
      refine L_gy (dj := 11) rfl rfl rfl (X_load (p := (ptr b1 (1))) (v := (.int .u16 (q.2.1))) T36 rfl (hB.at1 rfl) ?_)
      refine L_gy (dj := 11) rfl rfl rfl (X_convInt (k := .u16) (a := q.2.1) (r := q.2.1) (by rw [Tryd.underlying36]; rfl) Tryd.underlying3 rfl (wrap_i64 (by omega) (by omega)) ?_)
      refine L_gy (dj := 11) rfl rfl rfl (X_yield (vs := [.int .i64 q.2.1]) rfl rfl (YieldC.mono (hy 0 _ _ (by unfold addrX; rw [hadr]; rfl) hJ) ?_))
      rintro _ W2 (⟨rfl, hJ, huy0⟩ | ⟨rfl, hJx⟩)
      · replace hB := hB.upd huy0 fun h => hDb _ h rfl
        refine L_gy (dj := 11) rfl rfl rfl (X_not (b := true) (r := false) rfl rfl ?_)
        refine L_op rfl (X_pick (t := false) (v := (.bool (false))) rfl rfl ?_)
        refine L_nil ?_
        refine T_n ?_
        refine W_cf rfl ?_
        refine W_skip ?_
        refine T_n ?_
        refine W_seq ?_
        refine W_reg ?_
        refine L_op rfl (X_loadA (p := (ptr b1 (0))) (xs := ptC q) A41 rfl hB.atAll rfl ?_)
        refine L_op rfl (X_fn (vs := [(.agg (ptC q).toArray)]) en62 rfl (CT.mono (c_meta q _) ?_))
        rintro _ w5 ⟨rfl, hu5⟩
        replace hB := hB.ext hu5
        replace hJ := hJs _ _ _ hJ (Ext.upd hu5)
        rw [show (decide (MetaP q)) = false from hc2]
        refine L_nil ?_
        refine T_n ?_
        refine W_cf rfl ?_
        refine W_skip ?_
        exact BQ_n (End_0 Tryd.results65 (.inl (by rw [addrX_len, hadr]; exact hJ)))
      · refine L_gy (dj := 11) rfl rfl rfl (X_not (b := false) (r := true) rfl rfl ?_)
        refine L_op rfl (X_pick (t := false) (v := (.bool (true))) rfl rfl ?_)
        refine L_nil ?_
        refine T_n ?_
        refine W_ct rfl ?_
        refine W_ret ?_
        refine T_r ?_
        exact BQ_r (End_0 Tryd.results65 (.inr ⟨0, by rw [addrX_len, hadr]; simp, hJx⟩))

theorem c_right (q : Pt) (size : Int) (w : World) (hq : PtOk q) : CT Tryd.prog 49 #[(.agg (ptC q).toArray), (.int .i64 (size))] w fun v w' => v = .bool (decide (RightP q size)) ∧ Ext w w' := by
  obtain ⟨n0, hn0⟩ : ∃ n, n = w.heap.size := ⟨_, rfl⟩
  have hU : Upd (fun i => n0 ≤ i) w w := Upd.refl _ _
  obtain ⟨hq1, hq2, hq3, hq4, hq5⟩ := id hq
  refine CT_of Tryd.func49 rfl rfl rfl ?_
  refine W_seq ?_
  refine W_reg ?_
  refine L_op rfl (X_box (v := (.agg (ptC q).toArray)) (c := ((ptC q)).toArray) rfl rfl ?_)
  intro b1 w1 hn1
  have hbn1 := hn1.num; have hbs1 := hn1.size
  replace hU := hU.trans (Ext.upd hn1.ext)
  have hB1 := hn1.blk
  refine L_op rfl (X_box (v := (.int .i64 (size))) (c := #[(.int .i64 (size))]) rfl rfl ?_)
  intro b2 w2 hn2
  have hbn2 := hn2.num; have hbs2 := hn2.size
  replace hU := hU.trans (Ext.upd hn2.ext)
  replace hB1 := hB1.ext hn2.ext
  have hB2 := hn2.blk
  refine L_op rfl (X_alloc (z := (.bool (false))) (c := #[(.bool (false))]) Zv4 rfl ?_)
  intro b3 w3 hn3
  have hbn3 := hn3.num; have hbs3 := hn3.size
  replace hU := hU.trans (Ext.upd hn3.ext)
  replace hB1 := hB1.ext hn3.ext
  replace hB2 := hB2.ext hn3.ext
  have hB3 := hn3.blk
  refine L_nil ?_
  refine T_n ?_
  refine W_scopeQ ?_
  refine W_seq ?_
  refine W_reg ?_
  refine L_op rfl (X_fldP (b := b1) (o := 0) (r := 3) Fd41_2 rfl rfl ?_)
  refine L_op rfl (X_load (p := (ptr b1 (3))) (v := (.int .u32 (q.2.2.2.1))) T38 rfl (hB1.at1 rfl) ?_)
  by_cases hc4 : (q.2.2.2.1 : Int) ≥ (1)
  · refine L_op rfl (X_cmp (k := .u32) (a := q.2.2.2.1) (b := 1) (r := true) rfl rfl rfl (decide_eq_true (p := ((1) : Int) ≤ ((q.2.2.2.1) : Int)) (by omega)) ?_)
    refine L_op rfl (X_move (v := (.bool (true))) rfl ?_)
    refine L_gy (dj := 9) rfl rfl rfl (X_fldP (b := b1) (o := 0) (r := 3) Fd41_2 rfl rfl ?_)
    refine L_gy (dj := 9) rfl rfl rfl (X_load (p := (ptr b1 (3))) (v := (.int .u32 (q.2.2.2.1))) T38 rfl (hB1.at1 rfl) ?_)
    by_cases hc5 : (q.2.2.2.1 : Int) ≤ (1073741824)
    · refine L_gy (dj := 9) rfl rfl rfl (X_cmp (k := .u32) (a := q.2.2.2.1) (b := 1073741824) (r := true) rfl rfl rfl (decide_eq_true (p := ((q.2.2.2.1) : Int) ≤ ((1073741824) : Int)) (by omega)) ?_)
      refine L_op rfl (X_pick (t := true) (v := (.bool (true))) rfl rfl ?_)
      refine L_op rfl (X_move (v := (.bool (true))) rfl ?_)
      refine L_gy (dj := 14) rfl rfl rfl (X_loadA (p := (ptr b1 (0))) (xs := ptC q) A41 rfl hB1.atAll rfl ?_)
      refine L_gy (dj := 14) rfl rfl rfl (X_fn (vs := [(.agg (ptC q).toArray)]) en62 rfl (CT.mono (c_meta q _) ?_))
      rintro _ w6 ⟨rfl, hu6⟩
      have hz6 := hu6.size
      replace hU := hU.trans (Ext.upd hu6)
      replace hB1 := hB1.ext hu6
      replace hB2 := hB2.ext hu6
      replace hB3 := hB3.ext hu6
      rcases Bool.eq_false_or_eq_true (decide (MetaP q)) with hc7 | hc7
      · rw [hc7]
        refine L_gy (dj := 14) rfl rfl rfl (X_move (v := (.bool (true))) rfl ?_)
        refine L_gy (dj := 17) rfl rfl rfl (X_fldP (b := b1) (o := 0) (r := 1) Fd41_1 rfl rfl ?_)
        refine L_gy (dj := 17) rfl rfl rfl (X_idxAP (len := 2) (sz := 1) (b := b1) (o := 1) (k := .i64) (i := 0) (r := 1) Tryd.underlying37 Z36 rfl rfl (by omega) (by omega) rfl ?_)
        refine L_gy (dj := 17) rfl rfl rfl (X_load (p := (ptr b1 (1))) (v := (.int .u16 (q.2.1))) T36 rfl (hB1.at1 rfl) ?_)
        refine L_gy (dj := 17) rfl rfl rfl (X_fldP (b := b1) (o := 0) (r := 1) Fd41_1 rfl rfl ?_)
        refine L_gy (dj := 17) rfl rfl rfl (X_idxAP (len := 2) (sz := 1) (b := b1) (o := 1) (k := .i64) (i := 1) (r := 2) Tryd.underlying37 Z36 rfl rfl (by omega) (by omega) rfl ?_)
        refine L_gy (dj := 17) rfl rfl rfl (X_load (p := (ptr b1 (2))) (v := (.int .u16 (q.2.2.1))) T36 rfl (hB1.at1 rfl) ?_)
        by_cases hc8 : (q.2.1 : Int) ≠ (q.2.2.1)
        · refine L_gy (dj := 17) rfl rfl rfl (X_cmp (k := .u16) (a := q.2.1) (b := q.2.2.1) (r := true) rfl rfl rfl (decide_eq_true (p := ((q.2.1) : Int) ≠ ((q.2.2.1) : Int)) (by omega)) ?_)
          refine L_gy (dj := 14) rfl rfl rfl (X_pick (t := true) (v := (.bool (true))) rfl rfl ?_)
          refine L_gy (dj := 14) rfl rfl rfl (X_move (v := (.bool (true))) rfl ?_)
          refine L_gn (dj := 26) (t := true) rfl rfl rfl rfl ?_
          refine L_gn (dj := 26) (t := true) rfl rfl rfl rfl ?_
          refine L_gn (dj := 26) (t := true) rfl rfl rfl rfl ?_
          refine L_gn (dj := 26) (t := true) rfl rfl rfl rfl ?_
          refine L_gu (dj := 30) rfl rfl rfl ?_
          refine L_gu (dj := 30) rfl rfl rfl ?_
          refine L_gu (dj := 30) rfl rfl rfl ?_
          refine L_gu (dj := 30) rfl rfl rfl ?_
          refine L_gn (dj := 26) (t := true) rfl rfl rfl rfl ?_
          refine L_gy (dj := 14) rfl rfl rfl (X_pick (t := true) (v := (.bool (true))) rfl rfl ?_)
          refine L_op rfl (X_pick (t := true) (v := (.bool (true))) rfl rfl ?_)
          refine L_op0 (X_store (b := b3) (o := 0) T4 rfl rfl rfl hB3 (by show (0 : Nat) < 1; decide) ?_)
          intro w9 hu9 hb9
          have hz9 := hu9.size
          replace hU := hU.trans (hu9.mono fun i _ h => by have h : i = b3 := h; show n0 ≤ i; omega)
          replace hB1 := hB1.upd hu9 fun h => by have h : b1 = b3 := h; omega
          replace hB2 := hB2.upd hu9 fun h => by have h : b2 = b3 := h; omega
          replace hB3 : Blk w9 b3 #[(.bool (true))] 4 := hb9
          refine L_nil ?_
          refine T_n ?_
          refine W_seq ?_
          refine W_label ?_
          refine T_n ?_
          refine W_seq ?_
          refine W_seq ?_
          refine W_reg ?_
          refine L_op rfl (X_loadA (p := (ptr b1 (0))) (xs := ptC q) A41 rfl hB1.atAll rfl ?_)
          obtain ⟨nb, hnb⟩ : ∃ n, n = w9.heap.size := ⟨_, rfl⟩
          refine L_op rfl (X_fn (vs := [(.agg (ptC q).toArray)]) en63 rfl (CT.mono (c_addresses q _) ?_))
          rintro _ w10 ⟨rfl, hK, hu10, hz10⟩
          rw [← hnb] at hK ⊢
          replace hU := hU.trans (Ext.upd hu10)
          replace hB1 := hB1.ext hu10
          replace hB2 := hB2.ext hu10
          replace hB3 := hB3.ext hu10
          refine L_nil ?_
          refine T_n ?_
          refine W_block ?_
          obtain ⟨nL, hnL⟩ : ∃ n, n = w10.heap.size := ⟨_, rfl⟩
          refine W_range (lb := [ptr nb 0]) (xs := (addrX q)) rfl en65 (c_addr1 q nb _ hq hK) (Upd.refl _ _) rfl (fun x hx => by unfold addrX at hx; obtain ⟨y, _, rfl⟩ := List.mem_map.1 hx; rfl) (fun b => b = b3 ∨ nL + 2 ≤ b) (fun b hb_ => ⟨fun h => by have h : b = nb := h; rcases hb_ with h0 | h0 <;> omega, by rcases hb_ with h0 | h0 <;> omega, by rcases hb_ with h0 | h0 <;> omega⟩) (fun b hb_ h => by have h : b = nb := h; omega) (fun b h => h.elim) (fun k W => ∃ g : Bool, (g = true ↔ accR q size k) ∧ Blk W b3 #[.bool g] 4 ∧ Blk W b2 #[.int .i64 size] 3 ∧ Upd (fun i => n0 ≤ i) w W) (fun k e W => e = .exit 0 ∧ k < (addrs q).length ∧ ¬ accR q size (k + 1) ∧ Blk W b3 #[.bool false] 4 ∧ Upd (fun i => n0 ≤ i) w W) (fun k W W2 hI hu => by obtain ⟨g, hg, hB3, hB2, hU⟩ := hI; exact ⟨g, hg, hB3.upd hu fun h => by { rcases h with h | h; (· exact h); (· omega) }, hB2.upd hu fun h => by { rcases h with h | h; (· exact h); (· omega) }, hU.trans (hu.mono fun i _ h => by { rcases h with h | h; (· exact h.elim); (· show n0 ≤ i; omega) })⟩) (fun k e W W2 hI hu => by obtain ⟨he, h1, h2, hB3, hU⟩ := hI; exact ⟨he, h1, h2, hB3.upd hu fun h => by { rcases h with h | h; (· exact h); (· omega) }, hU.trans (hu.mono fun i _ h => by { rcases h with h | h; (· exact h.elim); (· show n0 ≤ i; omega) })⟩) ?_ ?_ ?_ ?_
          · intro W hx_ hs_
            have hH : HeadP q := by have hk0_ : (q.1 = 1 ∨ q.1 = 2) := of_decide_eq_true hc7; show ((1 ≤ q.2.2.2.1 ∧ q.2.2.2.1 ≤ 1073741824) ∧ ((q.1 = 1 ∨ q.1 = 2) ∧ q.2.1 ≠ q.2.2.1 ∨ q.1 = 3 ∧ q.2.2.1 = 0)); omega
            exact ⟨true, ⟨fun h => ⟨hH, fun x hx => (by rw [List.take_zero] at hx; cases hx)⟩, fun h => rfl⟩, hB3.ext hx_, hB2.ext hx_, hU.trans (Ext.upd hx_)⟩
          · intro k x W hk_ hI_ hsz_ hlp_
            obtain ⟨g, hg, hB3, hB2, hU⟩ := hI_
            obtain ⟨a, ha, rfl⟩ := addrX_at hk_
            have hain := addrs_in hq ha
            have hst := accR_step (size := size) ha
            have hkl := (List.getElem?_eq_some_iff.1 ha).1
            have hD := Upd.refl (fun b => b = b3 ∨ nL + 2 ≤ b) W
            refine W_reg ?_
            refine L_op rfl (X_assign (v := (.int .i64 (a))) rfl ?_)
            refine L_nil ?_
            refine T_n ⟨hD, fun W2 hu2_ hlp2_ => ?_⟩
            have hsz2_ := hu2_.size
            replace hB3 := hB3.upd hu2_ fun h => by have h : b3 = nL + 1 := (by rw [hnL]; exact h); omega
            replace hB2 := hB2.upd hu2_ fun h => by have h : b2 = nL + 1 := (by rw [hnL]; exact h); omega
            replace hU := hU.trans (hu2_.mono fun i _ h => by have h : i = nL + 1 := (by rw [hnL]; exact h); show n0 ≤ i; omega)
            have hD := Upd.refl (fun b => b = b3 ∨ nL + 2 ≤ b) W2
            refine W_block ?_
            refine W_seq ?_
            refine W_reg ?_
            rcases Bool.eq_false_or_eq_true g with rfl | rfl
            · refine L_op rfl (X_load (p := (ptr b3 (0))) (v := (.bool (true))) T4 rfl (hB3.at1 rfl) ?_)
              refine L_op rfl (X_move (v := (.bool (true))) rfl ?_)
              refine L_gy (dj := 42) rfl rfl rfl (X_move (v := (.int .i64 (a))) rfl ?_)
              by_cases hc11 : (a : Int) ≥ (4)
              · refine L_gy (dj := 42) rfl rfl rfl (X_cmp (k := .i64) (a := a) (b := 4) (r := true) rfl rfl rfl (decide_eq_true (p := ((4) : Int) ≤ ((a) : Int)) (by omega)) ?_)
                refine L_op rfl (X_pick (t := true) (v := (.bool (true))) rfl rfl ?_)
                refine L_op rfl (X_move (v := (.bool (true))) rfl ?_)
                refine L_gy (dj := 46) rfl rfl rfl (X_move (v := (.int .i64 (a))) rfl ?_)
                refine L_gy (dj := 46) rfl rfl rfl (X_load (p := (ptr b2 (0))) (v := (.int .i64 (size))) T3 rfl (hB2.at1 rfl) ?_)
                by_cases hc12 : (a : Int) < (size)
                · refine L_gy (dj := 46) rfl rfl rfl (X_cmp (k := .i64) (a := a) (b := size) (r := true) rfl rfl rfl (decide_eq_true (p := ((a) : Int) < ((size) : Int)) (by omega)) ?_)
                  refine L_op rfl (X_pick (t := true) (v := (.bool (true))) rfl rfl ?_)
                  refine L_op0 (X_store (b := b3) (o := 0) T4 rfl rfl rfl hB3 (by show (0 : Nat) < 1; decide) ?_)
                  intro w13 hu13 hb13
                  have hz13 := hu13.size
                  replace hB2 := hB2.upd hu13 fun h => by have h : b2 = b3 := h; omega
                  replace hU := hU.trans (hu13.mono fun i _ h => by have h : i = b3 := h; show n0 ≤ i; omega)
                  replace hD := hD.trans (hu13.mono fun i _ h => by have h : i = b3 := h; show i = b3 ∨ nL + 2 ≤ i; omega)
                  replace hB3 : Blk w13 b3 #[(.bool (true))] 4 := hb13
                  refine L_nil ?_
                  refine T_n ?_
                  refine W_seq ?_
                  refine W_reg ?_
                  refine L_op rfl (X_load (p := (ptr b3 (0))) (v := (.bool (true))) T4 rfl (hB3.at1 rfl) ?_)
                  refine L_op rfl (X_not (b := true) (r := false) rfl rfl ?_)
                  refine L_nil ?_
                  refine T_n ?_
                  refine W_cf rfl ?_
                  refine W_skip ?_
                  refine B_n ?_
                  exact RQ_n hD ⟨true, ⟨fun _ => hst.2 ⟨hg.1 rfl, (by show 4 ≤ a ∧ a < size; omega)⟩, fun _ => rfl⟩, hB3, hB2, hU⟩
                · refine L_gy (dj := 46) rfl rfl rfl (X_cmp (k := .i64) (a := a) (b := size) (r := false) rfl rfl rfl (decide_eq_false (p := ((a) : Int) < ((size) : Int)) (by omega)) ?_)
                  refine L_op rfl (X_pick (t := true) (v := (.bool (false))) rfl rfl ?_)
                  refine L_op0 (X_store (b := b3) (o := 0) T4 rfl rfl rfl hB3 (by show (0 : Nat) < 1; decide) ?_)
                  intro w14 hu14 hb14
                  have hz14 := hu14.size
                  replace hB2 := hB2.upd hu14 fun h => by have h : b2 = b3 := h; omega
                  replace hU := hU.trans (hu14.mono fun i _ h => by have h : i = b3 := h; show n0 ≤ i; omega)
                  replace hD := hD.trans (hu14.mono fun i _ h => by have h : i = b3 := h; show i = b3 ∨ nL + 2 ≤ i; omega)
                  replace hB3 : Blk w14 b3 #[(.bool (false))] 4 := hb14
                  refine L_nil ?_
                  refine T_n ?_
                  refine W_seq ?_
                  refine W_reg ?_
                  refine L_op rfl (X_load (p := (ptr b3 (0))) (v := (.bool (false))) T4 rfl (hB3.at1 rfl) ?_)
                  refine L_op rfl (X_not (b := false) (r := true) rfl rfl ?_)
                  refine L_nil ?_
                  refine T_n ?_
                  refine W_ct rfl ?_
                  refine W_exit ?_
                  refine B_e rfl ?_
                  exact RQ_e hD ⟨rfl, hkl, fun h => (by have h1 := hst.1 h; have h2 : 4 ≤ a ∧ a < size := h1.2; omega), hB3, hU⟩
              · refine L_gy (dj := 42) rfl rfl rfl (X_cmp (k := .i64) (a := a) (b := 4) (r := false) rfl rfl rfl (decide_eq_false (p := ((4) : Int) ≤ ((a) : Int)) (by omega)) ?_)
                refine L_op rfl (X_pick (t := true) (v := (.bool (false))) rfl rfl ?_)
                refine L_op rfl (X_move (v := (.bool (false))) rfl ?_)
                refine L_gn (dj := 46) (t := false) rfl rfl rfl rfl ?_
                refine L_gn (dj := 46) (t := false) rfl rfl rfl rfl ?_
                refine L_gn (dj := 46) (t := false) rfl rfl rfl rfl ?_
                refine L_op rfl (X_pick (t := false) (v := (.bool (false))) rfl rfl ?_)
                refine L_op0 (X_store (b := b3) (o := 0) T4 rfl rfl rfl hB3 (by show (0 : Nat) < 1; decide) ?_)
                intro w15 hu15 hb15
                have hz15 := hu15.size
                replace hB2 := hB2.upd hu15 fun h => by have h : b2 = b3 := h; omega
                replace hU := hU.trans (hu15.mono fun i _ h => by have h : i = b3 := h; show n0 ≤ i; omega)
                replace hD := hD.trans (hu15.mono fun i _ h => by have h : i = b3 := h; show i = b3 ∨ nL + 2 ≤ i; omega)
                replace hB3 : Blk w15 b3 #[(.bool (false))] 4 := hb15
                refine L_nil ?_
                refine T_n ?_
                refine W_seq ?_
                refine W_reg ?_
                refine L_op rfl (X_load (p := (ptr b3 (0))) (v := (.bool (false))) T4 rfl (hB3.at1 rfl) ?_)
                refine L_op rfl (X_not (b := false) (r := true) rfl rfl ?_)
                refine L_nil ?_
                refine T_n ?_
                refine W_ct rfl ?_
                refine W_exit ?_
                refine B_e rfl ?_
                exact RQ_e hD ⟨rfl, hkl, fun h => (by have h1 := hst.1 h; have h2 : 4 ≤ a ∧ a < size := h1.2; omega), hB3, hU⟩
            · refine L_op rfl (X_load (p := (ptr b3 (0))) (v := (.bool (false))) T4 rfl (hB3.at1 rfl) ?_)
              refine L_op rfl (X_move (v := (.bool (false))) rfl ?_)
              refine L_gn (dj := 42) (t := false) rfl rfl rfl rfl ?_
              refine L_gn (dj := 42) (t := false) rfl rfl rfl rfl ?_
              refine L_op rfl (X_pick (t := false) (v := (.bool (false))) rfl rfl ?_)
              refine L_op rfl (X_move (v := (.bool (false))) rfl ?_)
              refine L_gn (dj := 46) (t := false) rfl rfl rfl rfl ?_
              refine L_gn (dj := 46) (t := false) rfl rfl rfl rfl ?_
              refine L_gn (dj := 46) (t := false) rfl rfl rfl rfl ?_
              refine L_op rfl (X_pick (t := false) (v := (.bool (false))) rfl rfl ?_)
              refine L_op0 (X_store (b := b3) (o := 0) T4 rfl rfl rfl hB3 (by show (0 : Nat) < 1; decide) ?_)
              intro w16 hu16 hb16
              have hz16 := hu16.size
              replace hB2 := hB2.upd hu16 fun h => by have h : b2 = b3 := h; omega
              replace hU := hU.trans (hu16.mono fun i _ h => by have h : i = b3 := h; show n0 ≤ i; omega)
              replace hD := hD.trans (hu16.mono fun i _ h => by have h : i = b3 := h; show i = b3 ∨ nL + 2 ≤ i; omega)
              replace hB3 : Blk w16 b3 #[(.bool (false))] 4 := hb16
              refine L_nil ?_
              refine T_n ?_
              refine W_seq ?_
              refine W_reg ?_
              refine L_op rfl (X_load (p := (ptr b3 (0))) (v := (.bool (false))) T4 rfl (hB3.at1 rfl) ?_)
              refine L_op rfl (X_not (b := false) (r := true) rfl rfl ?_)
              refine L_nil ?_
              refine T_n ?_
              refine W_ct rfl ?_
              refine W_exit ?_
              refine B_e rfl ?_
              exact RQ_e hD ⟨rfl, hkl, fun h => (by have h1 := hst.1 h; have h2 := hg.2 h1.1; cases h2), hB3, hU⟩
          · intro W hI_ hd_
            obtain ⟨g, hg, hB3, hB2, hU⟩ := hI_
            rw [addrX_len] at hg
            have hR : g = true ↔ RightP q size := hg.trans accR_all
            have hd : Dfd W nL := by rw [hnL]; exact hd_
            refine B_n ?_
            refine T_n ?_
            refine W_seq ?_
            refine W_reg ?_
            refine L_op rfl (X_load (p := (ptr b3 (0))) (v := (.bool (g))) T4 rfl (hB3.at1 rfl) ?_)
            refine L_op0 (X_storeSame T4 rfl rfl rfl hB3 rfl ?_)
            refine L_nil ?_
            refine T_n ?_
            refine W_ret ?_
            refine S_r ?_
            refine BQ_r (End_m (hnL ▸ hd) fun w9 hu9 => ?_)
            have hB9 := hB3.upd hu9 fun h => by have h : b3 = nL := (by rw [hnL]; exact h); omega
            exact End_1 Tryd.results49 (v := .bool g) (RV_1 T4 rfl (hB9.at1 rfl)) ⟨by rw [show decide (RightP q size) = g from (Bool.eq_iff_iff.2 ((decide_eq_true_iff).trans hR.symm))], (hU.trans (hu9.mono fun i _ h => by have h : i = nL := (by rw [hnL]; exact h); show n0 ≤ i; omega)).own hn0⟩
          · intro k e W hk_ hI_ hd_ he_
            obtain ⟨rfl, hkl, hno, hB3, hU⟩ := hI_
            have hR : false = true ↔ RightP q size := ⟨fun h => (by cases h), fun h => absurd (⟨(accR_all.2 h).1, fun x hx => (accR_all.2 h).2 x (by rw [List.take_length]; exact List.mem_of_mem_take hx)⟩ : accR q size (k + 1)) hno⟩
            have hd : Dfd W nL := by rw [hnL]; exact hd_
            refine B_x ?_
            refine T_n ?_
            refine W_seq ?_
            refine W_reg ?_
            refine L_op rfl (X_load (p := (ptr b3 (0))) (v := (.bool (false))) T4 rfl (hB3.at1 rfl) ?_)
            refine L_op0 (X_storeSame T4 rfl rfl rfl hB3 rfl ?_)
            refine L_nil ?_
            refine T_n ?_
            refine W_ret ?_
            refine S_r ?_
            refine BQ_r (End_m (hnL ▸ hd) fun w9 hu9 => ?_)
            have hB9 := hB3.upd hu9 fun h => by have h : b3 = nL := (by rw [hnL]; exact h); omega
            exact End_1 Tryd.results49 (v := .bool false) (RV_1 T4 rfl (hB9.at1 rfl)) ⟨by rw [show decide (RightP q size) = false from (Bool.eq_iff_iff.2 ((decide_eq_true_iff).trans hR.symm))], (hU.trans (hu9.mono fun i _ h => by have h : i = nL := (by rw [hnL]; exact h); show n0 ≤ i; omega)).own hn0⟩
        · refine L_gy (dj := 17) rfl rfl rfl (X_cmp (k := .u16) (a := q.2.1) (b := q.2.2.1) (r := false) rfl rfl rfl (decide_eq_false (p := ((q.2.1) : Int) ≠ ((q.2.2.1) : Int)) (by omega)) ?_)
          refine L_gy (dj := 14) rfl rfl rfl (X_pick (t := true) (v := (.bool (false))) rfl rfl ?_)
          refine L_gy (dj := 14) rfl rfl rfl (X_move (v := (.bool (false))) rfl ?_)
          refine L_gy (dj := 26) rfl rfl rfl (X_fldP (b := b1) (o := 0) (r := 0) Fd41_0 rfl rfl ?_)
          refine L_gy (dj := 26) rfl rfl rfl (X_load (p := (ptr b1 (0))) (v := (.int .u8 (q.1))) T5 rfl (hB1.at1 rfl) ?_)
          by_cases hc17 : (q.1 : Int) = (3)
          · refine L_gy (dj := 26) rfl rfl rfl (X_cmp (k := .u8) (a := q.1) (b := 3) (r := true) rfl rfl rfl (decide_eq_true (p := ((q.1) : Int) = ((3) : Int)) (by omega)) ?_)
            refine L_gy (dj := 26) rfl rfl rfl (X_move (v := (.bool (true))) rfl ?_)
            refine L_gy (dj := 30) rfl rfl rfl (X_fldP (b := b1) (o := 0) (r := 1) Fd41_1 rfl rfl ?_)
            refine L_gy (dj := 30) rfl rfl rfl (X_idxAP (len := 2) (sz := 1) (b := b1) (o := 1) (k := .i64) (i := 1) (r := 2) Tryd.underlying37 Z36 rfl rfl (by omega) (by omega) rfl ?_)
            refine L_gy (dj := 30) rfl rfl rfl (X_load (p := (ptr b1 (2))) (v := (.int .u16 (q.2.2.1))) T36 rfl (hB1.at1 rfl) ?_)
            by_cases hc18 : (q.2.2.1 : Int) = (0)
            · refine L_gy (dj := 30) rfl rfl rfl (X_cmp (k := .u16) (a := q.2.2.1) (b := 0) (r := true) rfl rfl rfl (decide_eq_true (p := ((q.2.2.1) : Int) = ((0) : Int)) (by omega)) ?_)
              refine L_gy (dj := 26) rfl rfl rfl (X_pick (t := true) (v := (.bool (true))) rfl rfl ?_)
              refine L_gy (dj := 14) rfl rfl rfl (X_pick (t := false) (v := (.bool (true))) rfl rfl ?_)
              refine L_op rfl (X_pick (t := true) (v := (.bool (true))) rfl rfl ?_)
              refine L_op0 (X_store (b := b3) (o := 0) T4 rfl rfl rfl hB3 (by show (0 : Nat) < 1; decide) ?_)
              intro w19 hu19 hb19
              have hz19 := hu19.size
              replace hU := hU.trans (hu19.mono fun i _ h => by have h : i = b3 := h; show n0 ≤ i; omega)
              replace hB1 := hB1.upd hu19 fun h => by have h : b1 = b3 := h; omega
              replace hB2 := hB2.upd hu19 fun h => by have h : b2 = b3 := h; omega
              replace hB3 : Blk w19 b3 #[(.bool (true))] 4 := hb19
              refine L_nil ?_
              refine T_n ?_
              refine W_seq ?_
              refine W_label ?_
              refine T_n ?_
              refine W_seq ?_
              refine W_seq ?_
              refine W_reg ?_
              refine L_op rfl (X_loadA (p := (ptr b1 (0))) (xs := ptC q) A41 rfl hB1.atAll rfl ?_)
              obtain ⟨nb, hnb⟩ : ∃ n, n = w19.heap.size := ⟨_, rfl⟩
              refine L_op rfl (X_fn (vs := [(.agg (ptC q).toArray)]) en63 rfl (CT.mono (c_addresses q _) ?_))
              rintro _ w20 ⟨rfl, hK, hu20, hz20⟩
              rw [← hnb] at hK ⊢
              replace hU := hU.trans (Ext.upd hu20)
              replace hB1 := hB1.ext hu20
              replace hB2 := hB2.ext hu20
              replace hB3 := hB3.ext hu20
              refine L_nil ?_
              refine T_n ?_
              refine W_block ?_
              obtain ⟨nL, hnL⟩ : ∃ n, n = w20.heap.size := ⟨_, rfl⟩
              refine W_range (lb := [ptr nb 0]) (xs := (addrX q)) rfl en65 (c_addr1 q nb _ hq hK) (Upd.refl _ _) rfl (fun x hx => by unfold addrX at hx; obtain ⟨y, _, rfl⟩ := List.mem_map.1 hx; rfl) (fun b => b = b3 ∨ nL + 2 ≤ b) (fun b hb_ => ⟨fun h => by have h : b = nb := h; rcases hb_ with h0 | h0 <;> omega, by rcases hb_ with h0 | h0 <;> omega, by rcases hb_ with h0 | h0 <;> omega⟩) (fun b hb_ h => by have h : b = nb := h; omega) (fun b h => h.elim) (fun k W => ∃ g : Bool, (g = true ↔ accR q size k) ∧ Blk W b3 #[.bool g] 4 ∧ Blk W b2 #[.int .i64 size] 3 ∧ Upd (fun i => n0 ≤ i) w W) (fun k e W => e = .exit 0 ∧ k < (addrs q).length ∧ ¬ accR q size (k + 1) ∧ Blk W b3 #[.bool false] 4 ∧ Upd (fun i => n0 ≤ i) w W) (fun k W W2 hI hu => by obtain ⟨g, hg, hB3, hB2, hU⟩ := hI; exact ⟨g, hg, hB3.upd hu fun h => by { rcases h with h | h; (· exact h); (· omega) }, hB2.upd hu fun h => by { rcases h with h | h; (· exact h); (· omega) }, hU.trans (hu.mono fun i _ h => by { rcases h with h | h; (· exact h.elim); (· show n0 ≤ i; omega) })⟩) (fun k e W W2 hI hu => by obtain ⟨he, h1, h2, hB3, hU⟩ := hI; exact ⟨he, h1, h2, hB3.upd hu fun h => by { rcases h with h | h; (· exact h); (· omega) }, hU.trans (hu.mono fun i _ h => by { rcases h with h | h; (· exact h.elim); (· show n0 ≤ i; omega) })⟩) ?_ ?_ ?_ ?_
              · intro W hx_ hs_
                have hH : HeadP q := by have hk0_ : (q.1 = 1 ∨ q.1 = 2) := of_decide_eq_true hc7; show ((1 ≤ q.2.2.2.1 ∧ q.2.2.2.1 ≤ 1073741824) ∧ ((q.1 = 1 ∨ q.1 = 2) ∧ q.2.1 ≠ q.2.2.1 ∨ q.1 = 3 ∧ q.2.2.1 = 0)); omega
                exact ⟨true, ⟨fun h => ⟨hH, fun x hx => (by rw [List.take_zero] at hx; cases hx)⟩, fun h => rfl⟩, hB3.ext hx_, hB2.ext hx_, hU.trans (Ext.upd hx_)⟩
              · intro k x W hk_ hI_ hsz_ hlp_
                obtain ⟨g, hg, hB3, hB2, hU⟩ := hI_
                obtain ⟨a, ha, rfl⟩ := addrX_at hk_
                have hain := addrs_in hq ha
                have hst := accR_step (size := size) ha
                have hkl := (List.getElem?_eq_some_iff.1 ha).1
                have hD := Upd.refl (fun b => b = b3 ∨ nL + 2 ≤ b) W
                refine W_reg ?_
                refine L_op rfl (X_assign (v := (.int .i64 (a))) rfl ?_)
                refine L_nil ?_
                refine T_n ⟨hD, fun W2 hu2_ hlp2_ => ?_⟩
                have hsz2_ := hu2_.size
                replace hB3 := hB3.upd hu2_ fun h => by have h : b3 = nL + 1 := (by rw [hnL]; exact h); omega
                replace hB2 := hB2.upd hu2_ fun h => by have h : b2 = nL + 1 := (by rw [hnL]; exact h); omega
                replace hU := hU.trans (hu2_.mono fun i _ h => by have h : i = nL + 1 := (by rw [hnL]; exact h); show n0 ≤ i; omega)
                have hD := Upd.refl (fun b => b = b3 ∨ nL + 2 ≤ b) W2
                refine W_block ?_
                refine W_seq ?_
                refine W_reg ?_
                rcases Bool.eq_false_or_eq_true g with rfl | rfl
                · refine L_op rfl (X_load (p := (ptr b3 (0))) (v := (.bool (true))) T4 rfl (hB3.at1 rfl) ?_)
                  refine L_op rfl (X_move (v := (.bool (true))) rfl ?_)
                  refine L_gy (dj := 42) rfl rfl rfl (X_move (v := (.int .i64 (a))) rfl ?_)
                  by_cases hc21 : (a : Int) ≥ (4)
                  · refine L_gy (dj := 42) rfl rfl rfl (X_cmp (k := .i64) (a := a) (b := 4) (r := true) rfl rfl rfl (decide_eq_true (p := ((4) : Int) ≤ ((a) : Int)) (by omega)) ?_)
                    refine L_op rfl (X_pick (t := true) (v := (.bool (true))) rfl rfl ?_)
                    refine L_op rfl (X_move (v := (.bool (true))) rfl ?_)
                    refine L_gy (dj := 46) rfl rfl rfl (X_move (v := (.int .i64 (a))) rfl ?_)
                    refine L_gy (dj := 46) rfl rfl rfl (X_load (p := (ptr b2 (0))) (v := (.int .i64 (size))) T3 rfl (hB2.at1 rfl) ?_)
                    by_cases hc22 : (a : Int) < (size)
                    · refine L_gy (dj := 46) rfl rfl rfl (X_cmp (k := .i64) (a := a) (b := size) (r := true) rfl rfl rfl (decide_eq_true (p := ((a) : Int) < ((size) : Int)) (by omega)) ?_)
                      refine L_op rfl (X_pick (t := true) (v := (.bool (true))) rfl rfl ?_)
                      refine L_op0 (X_store (b := b3) (o := 0) T4 rfl rfl rfl hB3 (by show (0 : Nat) < 1; decide) ?_)
                      intro w23 hu23 hb23
                      have hz23 := hu23.size
                      replace hB2 := hB2.upd hu23 fun h => by have h : b2 = b3 := h; omega
                      replace hU := hU.trans (hu23.mono fun i _ h => by have h : i = b3 := h; show n0 ≤ i; omega)
                      replace hD := hD.trans (hu23.mono fun i _ h => by have h : i = b3 := h; show i = b3 ∨ nL + 2 ≤ i; omega)
                      replace hB3 : Blk w23 b3 #[(.bool (true))] 4 := hb23
                      refine L_nil ?_
                      refine T_n ?_
                      refine W_seq ?_
                      refine W_reg ?_
                      refine L_op rfl (X_load (p := (ptr b3 (0))) (v := (.bool (true))) T4 rfl (hB3.at1 rfl) ?_)
                      refine L_op rfl (X_not (b := true) (r := false) rfl rfl ?_)
                      refine L_nil ?_
                      refine T_n ?_
                      refine W_cf rfl ?_
                      refine W_skip ?_
                      refine B_n ?_
                      exact RQ_n hD ⟨true, ⟨fun _ => hst.2 ⟨hg.1 rfl, (by show 4 ≤ a ∧ a < size; omega)⟩, fun _ => rfl⟩, hB3, hB2, hU⟩
                    · refine L_gy (dj := 46) rfl rfl rfl (X_cmp (k := .i64) (a := a) (b := size) (r := false) rfl rfl rfl (decide_eq_false (p := ((a) : Int) < ((size) : Int)) (by omega)) ?_)
                      refine L_op rfl (X_pick (t := true) (v := (.bool (false))) rfl rfl ?_)
                      refine L_op0 (X_store (b := b3) (o := 0) T4 rfl rfl rfl hB3 (by show (0 : Nat) < 1; decide) ?_)
                      intro w24 hu24 hb24
                      have hz24 := hu24.size
                      replace hB2 := hB2.upd hu24 fun h => by have h : b2 = b3 := h; omega
                      replace hU := hU.trans (hu24.mono fun i _ h => by have h : i = b3 := h; show n0 ≤ i; omega)
                      replace hD := hD.trans (hu24.mono fun i _ h => by have h : i = b3 := h; show i = b3 ∨ nL + 2 ≤ i; omega)
                      replace hB3 : Blk w24 b3 #[(.bool (false))] 4 := hb24
                      refine L_nil ?_
                      refine T_n ?_
                      refine W_seq ?_
                      refine W_reg ?_
                      refine L_op rfl (X_load (p := (ptr b3 (0))) (v := (.bool (false))) T4 rfl (hB3.at1 rfl) ?_)
                      refine L_op rfl (X_not (b := false) (r := true) rfl rfl ?_)
                      refine L_nil ?_
                      refine T_n ?_
                      refine W_ct rfl ?_
                      refine W_exit ?_
                      refine B_e rfl ?_
                      exact RQ_e hD ⟨rfl, hkl, fun h => (by have h1 := hst.1 h; have h2 : 4 ≤ a ∧ a < size := h1.2; omega), hB3, hU⟩
                  · refine L_gy (dj := 42) rfl rfl rfl (X_cmp (k := .i64) (a := a) (b := 4) (r := false) rfl rfl rfl (decide_eq_false (p := ((4) : Int) ≤ ((a) : Int)) (by omega)) ?_)
                    refine L_op rfl (X_pick (t := true) (v := (.bool (false))) rfl rfl ?_)
                    refine L_op rfl (X_move (v := (.bool (false))) rfl ?_)
                    refine L_gn (dj := 46) (t := false) rfl rfl rfl rfl ?_
                    refine L_gn (dj := 46) (t := false) rfl rfl rfl rfl ?_
                    refine L_gn (dj := 46) (t := false) rfl rfl rfl rfl ?_
                    refine L_op rfl (X_pick (t := false) (v := (.bool (false))) rfl rfl ?_)
                    refine L_op0 (X_store (b := b3) (o := 0) T4 rfl rfl rfl hB3 (by show (0 : Nat) < 1; decide) ?_)
                    intro w25 hu25 hb25
                    have hz25 := hu25.size
                    replace hB2 := hB2.upd hu25 fun h => by have h : b2 = b3 := h; omega
                    replace hU := hU.trans (hu25.mono fun i _ h => by have h : i = b3 := h; show n0 ≤ i; omega)
                    replace hD := hD.trans (hu25.mono fun i _ h => by have h : i = b3 := h; show i = b3 ∨ nL + 2 ≤ i; omega)
                    replace hB3 : Blk w25 b3 #[(.bool (false))] 4 := hb25
                    refine L_nil ?_
                    refine T_n ?_
                    refine W_seq ?_
                    refine W_reg ?_
                    refine L_op rfl (X_load (p := (ptr b3 (0))) (v := (.bool (false))) T4 rfl (hB3.at1 rfl) ?_)
                    refine L_op rfl (X_not (b := false) (r := true) rfl rfl ?_)
                    refine L_nil ?_
                    refine T_n ?_
                    refine W_ct rfl ?_
                    refine W_exit ?_
                    refine B_e rfl ?_
                    exact RQ_e hD ⟨rfl, hkl, fun h => (by have h1 := hst.1 h; have h2 : 4 ≤ a ∧ a < size := h1.2; omega), hB3, hU⟩
                · refine L_op rfl (X_load (p := (ptr b3 (0))) (v := (.bool (false))) T4 rfl (hB3.at1 rfl) ?_)
                  refine L_op rfl (X_move (v := (.bool (false))) rfl ?_)
                  refine L_gn (dj := 42) (t := false) rfl rfl rfl rfl ?_
                  refine L_gn (dj := 42) (t := false) rfl rfl rfl rfl ?_
                  refine L_op rfl (X_pick (t := false) (v := (.bool (false))) rfl rfl ?_)
                  refine L_op rfl (X_move (v := (.bool (false))) rfl ?_)
                  refine L_gn (dj := 46) (t := false) rfl rfl rfl rfl ?_
                  refine L_gn (dj := 46) (t := false) rfl rfl rfl rfl ?_
                  refine L_gn (dj := 46) (t := false) rfl rfl rfl rfl ?_
                  refine L_op rfl (X_pick (t := false) (v := (.bool (false))) rfl rfl ?_)
                  refine L_op0 (X_store (b := b3) (o := 0) T4 rfl rfl rfl hB3 (by show (0 : Nat) < 1; decide) ?_)
                  intro w26 hu26 hb26
                  have hz26 := hu26.size
                  replace hB2 := hB2.upd hu26 fun h => by have h : b2 = b3 := h; omega
                  replace hU := hU.trans (hu26.mono fun i _ h => by have h : i = b3 := h; show n0 ≤ i; omega)
                  replace hD := hD.trans (hu26.mono fun i _ h => by have h : i = b3 := h; show i = b3 ∨ nL + 2 ≤ i; omega)
                  replace hB3 : Blk w26 b3 #[(.bool (false))] 4 := hb26
                  refine L_nil ?_
                  refine T_n ?_
                  refine W_seq ?_
                  refine W_reg ?_
                  refine L_op rfl (X_load (p := (ptr b3 (0))) (v := (.bool (false))) T4 rfl (hB3.at1 rfl) ?_)
                  refine L_op rfl (X_not (b := false) (r := true) rfl rfl ?_)
                  refine L_nil ?_
                  refine T_n ?_
                  refine W_ct rfl ?_
                  refine W_exit ?_
                  refine B_e rfl ?_
                  exact RQ_e hD ⟨rfl, hkl, fun h => (by have h1 := hst.1 h; have h2 := hg.2 h1.1; cases h2), hB3, hU⟩
              · intro W hI_ hd_
                obtain ⟨g, hg, hB3, hB2, hU⟩ := hI_
                rw [addrX_len] at hg
                have hR : g = true ↔ RightP q size := hg.trans accR_all
                have hd : Dfd W nL := by rw [hnL]; exact hd_
                refine B_n ?_
                refine T_n ?_
                refine W_seq ?_
                refine W_reg ?_
                refine L_op rfl (X_load (p := (ptr b3 (0))) (v := (.bool (g))) T4 rfl (hB3.at1 rfl) ?_)
                refine L_op0 (X_storeSame T4 rfl rfl rfl hB3 rfl ?_)
                refine L_nil ?_
                refine T_n ?_
                refine W_ret ?_
                refine S_r ?_
                refine BQ_r (End_m (hnL ▸ hd) fun w9 hu9 => ?_)
                have hB9 := hB3.upd hu9 fun h => by have h : b3 = nL := (by rw [hnL]; exact h); omega
                exact End_1 Tryd.results49 (v := .bool g) (RV_1 T4 rfl (hB9.at1 rfl)) ⟨by rw [show decide (RightP q size) = g from (Bool.eq_iff_iff.2 ((decide_eq_true_iff).trans hR.symm))], (hU.trans (hu9.mono fun i _ h => by have h : i = nL := (by rw [hnL]; exact h); show n0 ≤ i; omega)).own hn0⟩
              · intro k e W hk_ hI_ hd_ he_
                obtain ⟨rfl, hkl, hno, hB3, hU⟩ := hI_
                have hR : false = true ↔ RightP q size := ⟨fun h => (by cases h), fun h => absurd (⟨(accR_all.2 h).1, fun x hx => (accR_all.2 h).2 x (by rw [List.take_length]; exact List.mem_of_mem_take hx)⟩ : accR q size (k + 1)) hno⟩
                have hd : Dfd W nL := by rw [hnL]; exact hd_
                refine B_x ?_
                refine T_n ?_
                refine W_seq ?_
                refine W_reg ?_
                refine L_op rfl (X_load (p := (ptr b3 (0))) (v := (.bool (false))) T4 rfl (hB3.at1 rfl) ?_)
                refine L_op0 (X_storeSame T4 rfl rfl rfl hB3 rfl ?_)
                refine L_nil ?_
                refine T_n ?_
                refine W_ret ?_
                refine S_r ?_
                refine BQ_r (End_m (hnL ▸ hd) fun w9 hu9 => ?_)
                have hB9 := hB3.upd hu9 fun h => by have h : b3 = nL := (by rw [hnL]; exact h); omega
                exact End_1 Tryd.results49 (v := .bool false) (RV_1 T4 rfl (hB9.at1 rfl)) ⟨by rw [show decide (RightP q size) = false from (Bool.eq_iff_iff.2 ((decide_eq_true_iff).trans hR.symm))], (hU.trans (hu9.mono fun i _ h => by have h : i = nL := (by rw [hnL]; exact h); show n0 ≤ i; omega)).own hn0⟩
            · refine L_gy (dj := 30) rfl rfl rfl (X_cmp (k := .u16) (a := q.2.2.1) (b := 0) (r := false) rfl rfl rfl (decide_eq_false (p := ((q.2.2.1) : Int) = ((0) : Int)) (by omega)) ?_)
              refine L_gy (dj := 26) rfl rfl rfl (X_pick (t := true) (v := (.bool (false))) rfl rfl ?_)
              refine L_gy (dj := 14) rfl rfl rfl (X_pick (t := false) (v := (.bool (false))) rfl rfl ?_)
              refine L_op rfl (X_pick (t := true) (v := (.bool (false))) rfl rfl ?_)
              refine L_op0 (X_store (b := b3) (o := 0) T4 rfl rfl rfl hB3 (by show (0 : Nat) < 1; decide) ?_)
              intro w27 hu27 hb27
              have hz27 := hu27.size
              replace hU := hU.trans (hu27.mono fun i _ h => by have h : i = b3 := h; show n0 ≤ i; omega)
              replace hB1 := hB1.upd hu27 fun h => by have h : b1 = b3 := h; omega
              replace hB2 := hB2.upd hu27 fun h => by have h : b2 = b3 := h; omega
              replace hB3 : Blk w27 b3 #[(.bool (false))] 4 := hb27
              refine L_nil ?_
              refine T_n ?_
              refine W_seq ?_
              refine W_label ?_
              refine T_n ?_
              refine W_seq ?_
              refine W_seq ?_
              refine W_reg ?_
              refine L_op rfl (X_loadA (p := (ptr b1 (0))) (xs := ptC q) A41 rfl hB1.atAll rfl ?_)
              obtain ⟨nb, hnb⟩ : ∃ n, n = w27.heap.size := ⟨_, rfl⟩
              refine L_op rfl (X_fn (vs := [(.agg (ptC q).toArray)]) en63 rfl (CT.mono (c_addresses q _) ?_))
              rintro _ w28 ⟨rfl, hK, hu28, hz28⟩
              rw [← hnb] at hK ⊢
              replace hU := hU.trans (Ext.upd hu28)
              replace hB1 := hB1.ext hu28
              replace hB2 := hB2.ext hu28
              replace hB3 := hB3.ext hu28
              refine L_nil ?_
              refine T_n ?_
              refine W_block ?_
              obtain ⟨nL, hnL⟩ : ∃ n, n = w28.heap.size := ⟨_, rfl⟩
              refine W_range (lb := [ptr nb 0]) (xs := (addrX q)) rfl en65 (c_addr1 q nb _ hq hK) (Upd.refl _ _) rfl (fun x hx => by unfold addrX at hx; obtain ⟨y, _, rfl⟩ := List.mem_map.1 hx; rfl) (fun b => b = b3 ∨ nL + 2 ≤ b) (fun b hb_ => ⟨fun h => by have h : b = nb := h; rcases hb_ with h0 | h0 <;> omega, by rcases hb_ with h0 | h0 <;> omega, by rcases hb_ with h0 | h0 <;> omega⟩) (fun b hb_ h => by have h : b = nb := h; omega) (fun b h => h.elim) (fun k W => ∃ g : Bool, (g = true ↔ accR q size k) ∧ Blk W b3 #[.bool g] 4 ∧ Blk W b2 #[.int .i64 size] 3 ∧ Upd (fun i => n0 ≤ i) w W) (fun k e W => e = .exit 0 ∧ k < (addrs q).length ∧ ¬ accR q size (k + 1) ∧ Blk W b3 #[.bool false] 4 ∧ Upd (fun i => n0 ≤ i) w W) (fun k W W2 hI hu => by obtain ⟨g, hg, hB3, hB2, hU⟩ := hI; exact ⟨g, hg, hB3.upd hu fun h => by { rcases h with h | h; (· exact h); (· omega) }, hB2.upd hu fun h => by { rcases h with h | h; (· exact h); (· omega) }, hU.trans (hu.mono fun i _ h => by { rcases h with h | h; (· exact h.elim); (· show n0 ≤ i; omega) })⟩) (fun k e W W2 hI hu => by obtain ⟨he, h1, h2, hB3, hU⟩ := hI; exact ⟨he, h1, h2, hB3.upd hu fun h => by { rcases h with h | h; (· exact h); (· omega) }, hU.trans (hu.mono fun i _ h => by { rcases h with h | h; (· exact h.elim); (· show n0 ≤ i; omega) })⟩) ?_ ?_ ?_ ?_
              · intro W hx_ hs_
                have hH : ¬ HeadP q := by have hk0_ : (q.1 = 1 ∨ q.1 = 2) := of_decide_eq_true hc7; show ¬ ((1 ≤ q.2.2.2.1 ∧ q.2.2.2.1 ≤ 1073741824) ∧ ((q.1 = 1 ∨ q.1 = 2) ∧ q.2.1 ≠ q.2.2.1 ∨ q.1 = 3 ∧ q.2.2.1 = 0)); omega
                exact ⟨false, ⟨fun h => (by cases h), fun h => absurd h.1 hH⟩, hB3.ext hx_, hB2.ext hx_, hU.trans (Ext.upd hx_)⟩
              · intro k x W hk_ hI_ hsz_ hlp_
                obtain ⟨g, hg, hB3, hB2, hU⟩ := hI_
                obtain ⟨a, ha, rfl⟩ := addrX_at hk_
                have hain := addrs_in hq ha
                have hst := accR_step (size := size) ha
                have hkl := (List.getElem?_eq_some_iff.1 ha).1
                have hD := Upd.refl (fun b => b = b3 ∨ nL + 2 ≤ b) W
                refine W_reg ?_
                refine L_op rfl (X_assign (v := (.int .i64 (a))) rfl ?_)
                refine L_nil ?_
                refine T_n ⟨hD, fun W2 hu2_ hlp2_ => ?_⟩
                have hsz2_ := hu2_.size
                replace hB3 := hB3.upd hu2_ fun h => by have h : b3 = nL + 1 := (by rw [hnL]; exact h); omega
                replace hB2 := hB2.upd hu2_ fun h => by have h : b2 = nL + 1 := (by rw [hnL]; exact h); omega
                replace hU := hU.trans (hu2_.mono fun i _ h => by have h : i = nL + 1 := (by rw [hnL]; exact h); show n0 ≤ i; omega)
                have hD := Upd.refl (fun b => b = b3 ∨ nL + 2 ≤ b) W2
                refine W_block ?_
                refine W_seq ?_
                refine W_reg ?_
                rcases Bool.eq_false_or_eq_true g with rfl | rfl
                · refine L_op rfl (X_load (p := (ptr b3 (0))) (v := (.bool (true))) T4 rfl (hB3.at1 rfl) ?_)
                  refine L_op rfl (X_move (v := (.bool (true))) rfl ?_)
                  refine L_gy (dj := 42) rfl rfl rfl (X_move (v := (.int .i64 (a))) rfl ?_)
                  by_cases hc29 : (a : Int) ≥ (4)
                  · refine L_gy (dj := 42) rfl rfl rfl (X_cmp (k := .i64) (a := a) (b := 4) (r := true) rfl rfl rfl (decide_eq_true (p := ((4) : Int) ≤ ((a) : Int)) (by omega)) ?_)
                    refine L_op rfl (X_pick (t := true) (v := (.bool (true))) rfl rfl ?_)
                    refine L_op rfl (X_move (v := (.bool (true))) rfl ?_)
                    refine L_gy (dj := 46) rfl rfl rfl (X_move (v := (.int .i64 (a))) rfl ?_)
                    refine L_gy (dj := 46) rfl rfl rfl (X_load (p := (ptr b2 (0))) (v := (.int .i64 (size))) T3 rfl (hB2.at1 rfl) ?_)
                    by_cases hc30 : (a : Int) < (size)
                    · refine L_gy (dj := 46) rfl rfl rfl (X_cmp (k := .i64) (a := a) (b := size) (r := true) rfl rfl rfl (decide_eq_true (p := ((a) : Int) < ((size) : Int)) (by omega)) ?_)
                      refine L_op rfl (X_pick (t := true) (v := (.bool (true))) rfl rfl ?_)
                      refine L_op0 (X_store (b := b3) (o := 0) T4 rfl rfl rfl hB3 (by show (0 : Nat) < 1; decide) ?_)
                      intro w31 hu31 hb31
                      have hz31 := hu31.size
                      replace hB2 := hB2.upd hu31 fun h => by have h : b2 = b3 := h; omega
                      replace hU := hU.trans (hu31.mono fun i _ h => by have h : i = b3 := h; show n0 ≤ i; omega)
                      replace hD := hD.trans (hu31.mono fun i _ h => by have h : i = b3 := h; show i = b3 ∨ nL + 2 ≤ i; omega)
                      replace hB3 : Blk w31 b3 #[(.bool (true))] 4 := hb31
                      refine L_nil ?_
                      refine T_n ?_
                      refine W_seq ?_
                      refine W_reg ?_
                      refine L_op rfl (X_load (p := (ptr b3 (0))) (v := (.bool (true))) T4 rfl (hB3.at1 rfl) ?_)
                      refine L_op rfl (X_not (b := true) (r := false) rfl rfl ?_)
                      refine L_nil ?_
                      refine T_n ?_
                      refine W_cf rfl ?_
                      refine W_skip ?_
                      refine B_n ?_
                      exact RQ_n hD ⟨true, ⟨fun _ => hst.2 ⟨hg.1 rfl, (by show 4 ≤ a ∧ a < size; omega)⟩, fun _ => rfl⟩, hB3, hB2, hU⟩
                    · refine L_gy (dj := 46) rfl rfl rfl (X_cmp (k := .i64) (a := a) (b := size) (r := false) rfl rfl rfl (decide_eq_false (p := ((a) : Int) < ((size) : Int)) (by omega)) ?_)
                      refine L_op rfl (X_pick (t := true) (v := (.bool (false))) rfl rfl ?_)
                      refine L_op0 (X_store (b := b3) (o := 0) T4 rfl rfl rfl hB3 (by show (0 : Nat) < 1; decide) ?_)
                      intro w32 hu32 hb32
                      have hz32 := hu32.size
                      replace hB2 := hB2.upd hu32 fun h => by have h : b2 = b3 := h; omega
                      replace hU := hU.trans (hu32.mono fun i _ h => by have h : i = b3 := h; show n0 ≤ i; omega)
                      replace hD := hD.trans (hu32.mono fun i _ h => by have h : i = b3 := h; show i = b3 ∨ nL + 2 ≤ i; omega)
                      replace hB3 : Blk w32 b3 #[(.bool (false))] 4 := hb32
                      refine L_nil ?_
                      refine T_n ?_
                      refine W_seq ?_
                      refine W_reg ?_
                      refine L_op rfl (X_load (p := (ptr b3 (0))) (v := (.bool (false))) T4 rfl (hB3.at1 rfl) ?_)
                      refine L_op rfl (X_not (b := false) (r := true) rfl rfl ?_)
                      refine L_nil ?_
                      refine T_n ?_
                      refine W_ct rfl ?_
                      refine W_exit ?_
                      refine B_e rfl ?_
                      exact RQ_e hD ⟨rfl, hkl, fun h => (by have h1 := hst.1 h; have h2 : 4 ≤ a ∧ a < size := h1.2; omega), hB3, hU⟩
                  · refine L_gy (dj := 42) rfl rfl rfl (X_cmp (k := .i64) (a := a) (b := 4) (r := false) rfl rfl rfl (decide_eq_false (p := ((4) : Int) ≤ ((a) : Int)) (by omega)) ?_)
                    refine L_op rfl (X_pick (t := true) (v := (.bool (false))) rfl rfl ?_)
                    refine L_op rfl (X_move (v := (.bool (false))) rfl ?_)
                    refine L_gn (dj := 46) (t := false) rfl rfl rfl rfl ?_
                    refine L_gn (dj := 46) (t := false) rfl rfl rfl rfl ?_
                    refine L_gn (dj := 46) (t := false) rfl rfl rfl rfl ?_
                    refine L_op rfl (X_pick (t := false) (v := (.bool (false))) rfl rfl ?_)
                    refine L_op0 (X_store (b := b3) (o := 0) T4 rfl rfl rfl hB3 (by show (0 : Nat) < 1; decide) ?_)
                    intro w33 hu33 hb33
                    have hz33 := hu33.size
                    replace hB2 := hB2.upd hu33 fun h => by have h : b2 = b3 := h; omega
                    replace hU := hU.trans (hu33.mono fun i _ h => by have h : i = b3 := h; show n0 ≤ i; omega)
                    replace hD := hD.trans (hu33.mono fun i _ h => by have h : i = b3 := h; show i = b3 ∨ nL + 2 ≤ i; omega)
                    replace hB3 : Blk w33 b3 #[(.bool (false))] 4 := hb33
                    refine L_nil ?_
                    refine T_n ?_
                    refine W_seq ?_
                    refine W_reg ?_
                    refine L_op rfl (X_load (p := (ptr b3 (0))) (v := (.bool (false))) T4 rfl (hB3.at1 rfl) ?_)
                    refine L_op rfl (X_not (b := false) (r := true) rfl rfl ?_)
                    refine L_nil ?_
                    refine T_n ?_
                    refine W_ct rfl ?_
                    refine W_exit ?_
                    refine B_e rfl ?_
                    exact RQ_e hD ⟨rfl, hkl, fun h => (by have h1 := hst.1 h; have h2 : 4 ≤ a ∧ a < size := h1.2; omega), hB3, hU⟩
                · refine L_op rfl (X_load (p := (ptr b3 (0))) (v := (.bool (false))) T4 rfl (hB3.at1 rfl) ?_)
                  refine L_op rfl (X_move (v := (.bool (false))) rfl ?_)
                  refine L_gn (dj := 42) (t := false) rfl rfl rfl rfl ?_
                  refine L_gn (dj := 42) (t := false) rfl rfl rfl rfl ?_
                  refine L_op rfl (X_pick (t := false) (v := (.bool (false))) rfl rfl ?_)
                  refine L_op rfl (X_move (v := (.bool (false))) rfl ?_)
                  refine L_gn (dj := 46) (t := false) rfl rfl rfl rfl ?_
                  refine L_gn (dj := 46) (t := false) rfl rfl rfl rfl ?_
                  refine L_gn (dj := 46) (t := false) rfl rfl rfl rfl ?_
                  refine L_op rfl (X_pick (t := false) (v := (.bool (false))) rfl rfl ?_)
                  refine L_op0 (X_store (b := b3) (o := 0) T4 rfl rfl rfl hB3 (by show (0 : Nat) < 1; decide) ?_)
                  intro w34 hu34 hb34
                  have hz34 := hu34.size
                  replace hB2 := hB2.upd hu34 fun h => by have h : b2 = b3 := h; omega
                  replace hU := hU.trans (hu34.mono fun i _ h => by have h : i = b3 := h; show n0 ≤ i; omega)
                  replace hD := hD.trans (hu34.mono fun i _ h => by have h : i = b3 := h; show i = b3 ∨ nL + 2 ≤ i; omega)
                  replace hB3 : Blk w34 b3 #[(.bool (false))] 4 := hb34
                  refine L_nil ?_
                  refine T_n ?_
                  refine W_seq ?_
                  refine W_reg ?_
                  refine L_op rfl (X_load (p := (ptr b3 (0))) (v := (.bool (false))) T4 rfl (hB3.at1 rfl) ?_)
                  refine L_op rfl (X_not (b := false) (r := true) rfl rfl ?_)
                  refine L_nil ?_
                  refine T_n ?_
                  refine W_ct rfl ?_
                  refine W_exit ?_
                  refine B_e rfl ?_
                  exact RQ_e hD ⟨rfl, hkl, fun h => (by have h1 := hst.1 h; have h2 := hg.2 h1.1; cases h2), hB3, hU⟩
              · intro W hI_ hd_
                obtain ⟨g, hg, hB3, hB2, hU⟩ := hI_
                rw [addrX_len] at hg
                have hR : g = true ↔ RightP q size := hg.trans accR_all
                have hd : Dfd W nL := by rw [hnL]; exact hd_
                refine B_n ?_
                refine T_n ?_
                refine W_seq ?_
                refine W_reg ?_
                refine L_op rfl (X_load (p := (ptr b3 (0))) (v := (.bool (g))) T4 rfl (hB3.at1 rfl) ?_)
                refine L_op0 (X_storeSame T4 rfl rfl rfl hB3 rfl ?_)
                refine L_nil ?_
                refine T_n ?_
                refine W_ret ?_
                refine S_r ?_
                refine BQ_r (End_m (hnL ▸ hd) fun w9 hu9 => ?_)
                have hB9 := hB3.upd hu9 fun h => by have h : b3 = nL := (by rw [hnL]; exact h); omega
                exact End_1 Tryd.results49 (v := .bool g) (RV_1 T4 rfl (hB9.at1 rfl)) ⟨by rw [show decide (RightP q size) = g from (Bool.eq_iff_iff.2 ((decide_eq_true_iff).trans hR.symm))], (hU.trans (hu9.mono fun i _ h => by have h : i = nL := (by rw [hnL]; exact h); show n0 ≤ i; omega)).own hn0⟩
              · intro k e W hk_ hI_ hd_ he_
                obtain ⟨rfl, hkl, hno, hB3, hU⟩ := hI_
                have hR : false = true ↔ RightP q size := ⟨fun h => (by cases h), fun h => absurd (⟨(accR_all.2 h).1, fun x hx => (accR_all.2 h).2 x (by rw [List.take_length]; exact List.mem_of_mem_take hx)⟩ : accR q size (k + 1)) hno⟩
                have hd : Dfd W nL := by rw [hnL]; exact hd_
                refine B_x ?_
                refine T_n ?_
                refine W_seq ?_
                refine W_reg ?_
                refine L_op rfl (X_load (p := (ptr b3 (0))) (v := (.bool (false))) T4 rfl (hB3.at1 rfl) ?_)
                refine L_op0 (X_storeSame T4 rfl rfl rfl hB3 rfl ?_)
                refine L_nil ?_
                refine T_n ?_
                refine W_ret ?_
                refine S_r ?_
                refine BQ_r (End_m (hnL ▸ hd) fun w9 hu9 => ?_)
                have hB9 := hB3.upd hu9 fun h => by have h : b3 = nL := (by rw [hnL]; exact h); omega
                exact End_1 Tryd.results49 (v := .bool false) (RV_1 T4 rfl (hB9.at1 rfl)) ⟨by rw [show decide (RightP q size) = false from (Bool.eq_iff_iff.2 ((decide_eq_true_iff).trans hR.symm))], (hU.trans (hu9.mono fun i _ h => by have h : i = nL := (by rw [hnL]; exact h); show n0 ≤ i; omega)).own hn0⟩
          · refine L_gy (dj := 26) rfl rfl rfl (X_cmp (k := .u8) (a := q.1) (b := 3) (r := false) rfl rfl rfl (decide_eq_false (p := ((q.1) : Int) = ((3) : Int)) (by omega)) ?_)
            refine L_gy (dj := 26) rfl rfl rfl (X_move (v := (.bool (false))) rfl ?_)
            refine L_gn (dj := 30) (t := false) rfl rfl rfl rfl ?_
            refine L_gn (dj := 30) (t := false) rfl rfl rfl rfl ?_
            refine L_gn (dj := 30) (t := false) rfl rfl rfl rfl ?_
            refine L_gn (dj := 30) (t := false) rfl rfl rfl rfl ?_
            refine L_gy (dj := 26) rfl rfl rfl (X_pick (t := false) (v := (.bool (false))) rfl rfl ?_)
            refine L_gy (dj := 14) rfl rfl rfl (X_pick (t := false) (v := (.bool (false))) rfl rfl ?_)
            refine L_op rfl (X_pick (t := true) (v := (.bool (false))) rfl rfl ?_)
            refine L_op0 (X_store (b := b3) (o := 0) T4 rfl rfl rfl hB3 (by show (0 : Nat) < 1; decide) ?_)
            intro w35 hu35 hb35
            have hz35 := hu35.size
            replace hU := hU.trans (hu35.mono fun i _ h => by have h : i = b3 := h; show n0 ≤ i; omega)
            replace hB1 := hB1.upd hu35 fun h => by have h : b1 = b3 := h; omega
            replace hB2 := hB2.upd hu35 fun h => by have h : b2 = b3 := h; omega
            replace hB3 : Blk w35 b3 #[(.bool (false))] 4 := hb35
            refine L_nil ?_
            refine T_n ?_
            refine W_seq ?_
            refine W_label ?_
            refine T_n ?_
            refine W_seq ?_
            refine W_seq ?_
            refine W_reg ?_
            refine L_op rfl (X_loadA (p := (ptr b1 (0))) (xs := ptC q) A41 rfl hB1.atAll rfl ?_)
            obtain ⟨nb, hnb⟩ : ∃ n, n = w35.heap.size := ⟨_, rfl⟩
            refine L_op rfl (X_fn (vs := [(.agg (ptC q).toArray)]) en63 rfl (CT.mono (c_addresses q _) ?_))
            rintro _ w36 ⟨rfl, hK, hu36, hz36⟩
            rw [← hnb] at hK ⊢
            replace hU := hU.trans (Ext.upd hu36)
            replace hB1 := hB1.ext hu36
            replace hB2 := hB2.ext hu36
            replace hB3 := hB3.ext hu36
            refine L_nil ?_
            refine T_n ?_
            refine W_block ?_
            obtain ⟨nL, hnL⟩ : ∃ n, n = w36.heap.size := ⟨_, rfl⟩
            refine W_range (lb := [ptr nb 0]) (xs := (addrX q)) rfl en65 (c_addr1 q nb _ hq hK) (Upd.refl _ _) rfl (fun x hx => by unfold addrX at hx; obtain ⟨y, _, rfl⟩ := List.mem_map.1 hx; rfl) (fun b => b = b3 ∨ nL + 2 ≤ b) (fun b hb_ => ⟨fun h => by have h : b = nb := h; rcases hb_ with h0 | h0 <;> omega, by rcases hb_ with h0 | h0 <;> omega, by rcases hb_ with h0 | h0 <;> omega⟩) (fun b hb_ h => by have h : b = nb := h; omega) (fun b h => h.elim) (fun k W => ∃ g : Bool, (g = true ↔ accR q size k) ∧ Blk W b3 #[.bool g] 4 ∧ Blk W b2 #[.int .i64 size] 3 ∧ Upd (fun i => n0 ≤ i) w W) (fun k e W => e = .exit 0 ∧ k < (addrs q).length ∧ ¬ accR q size (k + 1) ∧ Blk W b3 #[.bool false] 4 ∧ Upd (fun i => n0 ≤ i) w W) (fun k W W2 hI hu => by obtain ⟨g, hg, hB3, hB2, hU⟩ := hI; exact ⟨g, hg, hB3.upd hu fun h => by { rcases h with h | h; (· exact h); (· omega) }, hB2.upd hu fun h => by { rcases h with h | h; (· exact h); (· omega) }, hU.trans (hu.mono fun i _ h => by { rcases h with h | h; (· exact h.elim); (· show n0 ≤ i; omega) })⟩) (fun k e W W2 hI hu => by obtain ⟨he, h1, h2, hB3, hU⟩ := hI; exact ⟨he, h1, h2, hB3.upd hu fun h => by { rcases h with h | h; (· exact h); (· omega) }, hU.trans (hu.mono fun i _ h => by { rcases h with h | h; (· exact h.elim); (· show n0 ≤ i; omega) })⟩) ?_ ?_ ?_ ?_
            · intro W hx_ hs_
              have hH : ¬ HeadP q := by have hk0_ : (q.1 = 1 ∨ q.1 = 2) := of_decide_eq_true hc7; show ¬ ((1 ≤ q.2.2.2.1 ∧ q.2.2.2.1 ≤ 1073741824) ∧ ((q.1 = 1 ∨ q.1 = 2) ∧ q.2.1 ≠ q.2.2.1 ∨ q.1 = 3 ∧ q.2.2.1 = 0)); omega
              exact ⟨false, ⟨fun h => (by cases h), fun h => absurd h.1 hH⟩, hB3.ext hx_, hB2.ext hx_, hU.trans (Ext.upd hx_)⟩
            · intro k x W hk_ hI_ hsz_ hlp_
              obtain ⟨g, hg, hB3, hB2, hU⟩ := hI_
              obtain ⟨a, ha, rfl⟩ := addrX_at hk_
              have hain := addrs_in hq ha
              have hst := accR_step (size := size) ha
              have hkl := (List.getElem?_eq_some_iff.1 ha).1
              have hD := Upd.refl (fun b => b = b3 ∨ nL + 2 ≤ b) W
              refine W_reg ?_
              refine L_op rfl (X_assign (v := (.int .i64 (a))) rfl ?_)
              refine L_nil ?_
              refine T_n ⟨hD, fun W2 hu2_ hlp2_ => ?_⟩
              have hsz2_ := hu2_.size
              replace hB3 := hB3.upd hu2_ fun h => by have h : b3 = nL + 1 := (by rw [hnL]; exact h); omega
              replace hB2 := hB2.upd hu2_ fun h => by have h : b2 = nL + 1 := (by rw [hnL]; exact h); omega
              replace hU := hU.trans (hu2_.mono fun i _ h => by have h : i = nL + 1 := (by rw [hnL]; exact h); show n0 ≤ i; omega)
              have hD := Upd.refl (fun b => b = b3 ∨ nL + 2 ≤ b) W2
              refine W_block ?_
              refine W_seq ?_
              refine W_reg ?_
              rcases Bool.eq_false_or_eq_true g with rfl | rfl
              · refine L_op rfl (X_load (p := (ptr b3 (0))) (v := (.bool (true))) T4 rfl (hB3.at1 rfl) ?_)
                refine L_op rfl (X_move (v := (.bool (true))) rfl ?_)
                refine L_gy (dj := 42) rfl rfl rfl (X_move (v := (.int .i64 (a))) rfl ?_)
                by_cases hc37 : (a : Int) ≥ (4)
                · refine L_gy (dj := 42) rfl rfl rfl (X_cmp (k := .i64) (a := a) (b := 4) (r := true) rfl rfl rfl (decide_eq_true (p := ((4) : Int) ≤ ((a) : Int)) (by omega)) ?_)
                  refine L_op rfl (X_pick (t := true) (v := (.bool (true))) rfl rfl ?_)
                  refine L_op rfl (X_move (v := (.bool (true))) rfl ?_)
                  refine L_gy (dj := 46) rfl rfl rfl (X_move (v := (.int .i64 (a))) rfl ?_)
                  refine L_gy (dj := 46) rfl rfl rfl (X_load (p := (ptr b2 (0))) (v := (.int .i64 (size))) T3 rfl (hB2.at1 rfl) ?_)
                  by_cases hc38 : (a : Int) < (size)
                  · refine L_gy (dj := 46) rfl rfl rfl (X_cmp (k := .i64) (a := a) (b := size) (r := true) rfl rfl rfl (decide_eq_true (p := ((a) : Int) < ((size) : Int)) (by omega)) ?_)
                    refine L_op rfl (X_pick (t := true) (v := (.bool (true))) rfl rfl ?_)
                    refine L_op0 (X_store (b := b3) (o := 0) T4 rfl rfl rfl hB3 (by show (0 : Nat) < 1; decide) ?_)
                    intro w39 hu39 hb39
                    have hz39 := hu39.size
                    replace hB2 := hB2.upd hu39 fun h => by have h : b2 = b3 := h; omega
                    replace hU := hU.trans (hu39.mono fun i _ h => by have h : i = b3 := h; show n0 ≤ i; omega)
                    replace hD := hD.trans (hu39.mono fun i _ h => by have h : i = b3 := h; show i = b3 ∨ nL + 2 ≤ i; omega)
                    replace hB3 : Blk w39 b3 #[(.bool (true))] 4 := hb39
                    refine L_nil ?_
                    refine T_n ?_
                    refine W_seq ?_
                    refine W_reg ?_
                    refine L_op rfl (X_load (p := (ptr b3 (0))) (v := (.bool (true))) T4 rfl (hB3.at1 rfl) ?_)
                    refine L_op rfl (X_not (b := true) (r := false) rfl rfl ?_)
                    refine L_nil ?_
                    refine T_n ?_
                    refine W_cf rfl ?_
                    refine W_skip ?_
                    refine B_n ?_
                    exact RQ_n hD ⟨true, ⟨fun _ => hst.2 ⟨hg.1 rfl, (by show 4 ≤ a ∧ a < size; omega)⟩, fun _ => rfl⟩, hB3, hB2, hU⟩
                  · refine L_gy (dj := 46) rfl rfl rfl (X_cmp (k := .i64) (a := a) (b := size) (r := false) rfl rfl rfl (decide_eq_false (p := ((a) : Int) < ((size) : Int)) (by omega)) ?_)
                    refine L_op rfl (X_pick (t := true) (v := (.bool (false))) rfl rfl ?_)
                    refine L_op0 (X_store (b := b3) (o := 0) T4 rfl rfl rfl hB3 (by show (0 : Nat) < 1; decide) ?_)
                    intro w40 hu40 hb40
                    have hz40 := hu40.size
                    replace hB2 := hB2.upd hu40 fun h => by have h : b2 = b3 := h; omega
                    replace hU := hU.trans (hu40.mono fun i _ h => by have h : i = b3 := h; show n0 ≤ i; omega)
                    replace hD := hD.trans (hu40.mono fun i _ h => by have h : i = b3 := h; show i = b3 ∨ nL + 2 ≤ i; omega)
                    replace hB3 : Blk w40 b3 #[(.bool (false))] 4 := hb40
                    refine L_nil ?_
                    refine T_n ?_
                    refine W_seq ?_
                    refine W_reg ?_
                    refine L_op rfl (X_load (p := (ptr b3 (0))) (v := (.bool (false))) T4 rfl (hB3.at1 rfl) ?_)
                    refine L_op rfl (X_not (b := false) (r := true) rfl rfl ?_)
                    refine L_nil ?_
                    refine T_n ?_
                    refine W_ct rfl ?_
                    refine W_exit ?_
                    refine B_e rfl ?_
                    exact RQ_e hD ⟨rfl, hkl, fun h => (by have h1 := hst.1 h; have h2 : 4 ≤ a ∧ a < size := h1.2; omega), hB3, hU⟩
                · refine L_gy (dj := 42) rfl rfl rfl (X_cmp (k := .i64) (a := a) (b := 4) (r := false) rfl rfl rfl (decide_eq_false (p := ((4) : Int) ≤ ((a) : Int)) (by omega)) ?_)
                  refine L_op rfl (X_pick (t := true) (v := (.bool (false))) rfl rfl ?_)
                  refine L_op rfl (X_move (v := (.bool (false))) rfl ?_)
                  refine L_gn (dj := 46) (t := false) rfl rfl rfl rfl ?_
                  refine L_gn (dj := 46) (t := false) rfl rfl rfl rfl ?_
                  refine L_gn (dj := 46) (t := false) rfl rfl rfl rfl ?_
                  refine L_op rfl (X_pick (t := false) (v := (.bool (false))) rfl rfl ?_)
                  refine L_op0 (X_store (b := b3) (o := 0) T4 rfl rfl rfl hB3 (by show (0 : Nat) < 1; decide) ?_)
                  intro w41 hu41 hb41
                  have hz41 := hu41.size
                  replace hB2 := hB2.upd hu41 fun h => by have h : b2 = b3 := h; omega
                  replace hU := hU.trans (hu41.mono fun i _ h => by have h : i = b3 := h; show n0 ≤ i; omega)
                  replace hD := hD.trans (hu41.mono fun i _ h => by have h : i = b3 := h; show i = b3 ∨ nL + 2 ≤ i; omega)
                  replace hB3 : Blk w41 b3 #[(.bool (false))] 4 := hb41
                  refine L_nil ?_
                  refine T_n ?_
                  refine W_seq ?_
                  refine W_reg ?_
                  refine L_op rfl (X_load (p := (ptr b3 (0))) (v := (.bool (false))) T4 rfl (hB3.at1 rfl) ?_)
                  refine L_op rfl (X_not (b := false) (r := true) rfl rfl ?_)
                  refine L_nil ?_
                  refine T_n ?_
                  refine W_ct rfl ?_
                  refine W_exit ?_
                  refine B_e rfl ?_
                  exact RQ_e hD ⟨rfl, hkl, fun h => (by have h1 := hst.1 h; have h2 : 4 ≤ a ∧ a < size := h1.2; omega), hB3, hU⟩
              · refine L_op rfl (X_load (p := (ptr b3 (0))) (v := (.bool (false))) T4 rfl (hB3.at1 rfl) ?_)
                refine L_op rfl (X_move (v := (.bool (false))) rfl ?_)
                refine L_gn (dj := 42) (t := false) rfl rfl rfl rfl ?_
                refine L_gn (dj := 42) (t := false) rfl rfl rfl rfl ?_
                refine L_op rfl (X_pick (t := false) (v := (.bool (false))) rfl rfl ?_)
                refine L_op rfl (X_move (v := (.bool (false))) rfl ?_)
                refine L_gn (dj := 46) (t := false) rfl rfl rfl rfl ?_
                refine L_gn (dj := 46) (t := false) rfl rfl rfl rfl ?_
                refine L_gn (dj := 46) (t := false) rfl rfl rfl rfl ?_
                refine L_op rfl (X_pick (t := false) (v := (.bool (false))) rfl rfl ?_)
                refine L_op0 (X_store (b := b3) (o := 0) T4 rfl rfl rfl hB3 (by show (0 : Nat) < 1; decide) ?_)
                intro w42 hu42 hb42
                have hz42 := hu42.size
                replace hB2 := hB2.upd hu42 fun h => by have h : b2 = b3 := h; omega
                replace hU := hU.trans (hu42.mono fun i _ h => by have h : i = b3 := h; show n0 ≤ i; omega)
                replace hD := hD.trans (hu42.mono fun i _ h => by have h : i = b3 := h; show i = b3 ∨ nL + 2 ≤ i; omega)
                replace hB3 : Blk w42 b3 #[(.bool (false))] 4 := hb42
                refine L_nil ?_
                refine T_n ?_
                refine W_seq ?_
                refine W_reg ?_
                refine L_op rfl (X_load (p := (ptr b3 (0))) (v := (.bool (false))) T4 rfl (hB3.at1 rfl) ?_)
                refine L_op rfl (X_not (b := false) (r := true) rfl rfl ?_)
                refine L_nil ?_
                refine T_n ?_
                refine W_ct rfl ?_
                refine W_exit ?_
                refine B_e rfl ?_
                exact RQ_e hD ⟨rfl, hkl, fun h => (by have h1 := hst.1 h; have h2 := hg.2 h1.1; cases h2), hB3, hU⟩
            · intro W hI_ hd_
              obtain ⟨g, hg, hB3, hB2, hU⟩ := hI_
              rw [addrX_len] at hg
              have hR : g = true ↔ RightP q size := hg.trans accR_all
              have hd : Dfd W nL := by rw [hnL]; exact hd_
              refine B_n ?_
              refine T_n ?_
              refine W_seq ?_
              refine W_reg ?_
              refine L_op rfl (X_load (p := (ptr b3 (0))) (v := (.bool (g))) T4 rfl (hB3.at1 rfl) ?_)
              refine L_op0 (X_storeSame T4 rfl rfl rfl hB3 rfl ?_)
              refine L_nil ?_
              refine T_n ?_
              refine W_ret ?_
              refine S_r ?_
              refine BQ_r (End_m (hnL ▸ hd) fun w9 hu9 => ?_)
              have hB9 := hB3.upd hu9 fun h => by have h : b3 = nL := (by rw [hnL]; exact h); omega
              exact End_1 Tryd.results49 (v := .bool g) (RV_1 T4 rfl (hB9.at1 rfl)) ⟨by rw [show decide (RightP q size) = g from (Bool.eq_iff_iff.2 ((decide_eq_true_iff).trans hR.symm))], (hU.trans (hu9.mono fun i _ h => by have h : i = nL := (by rw [hnL]; exact h); show n0 ≤ i; omega)).own hn0⟩
            · intro k e W hk_ hI_ hd_ he_
              obtain ⟨rfl, hkl, hno, hB3, hU⟩ := hI_
              have hR : false = true ↔ RightP q size := ⟨fun h => (by cases h), fun h => absurd (⟨(accR_all.2 h).1, fun x hx => (accR_all.2 h).2 x (by rw [List.take_length]; exact List.mem_of_mem_take hx)⟩ : accR q size (k + 1)) hno⟩
              have hd : Dfd W nL := by rw [hnL]; exact hd_
              refine B_x ?_
              refine T_n ?_
              refine W_seq ?_
              refine W_reg ?_
              refine L_op rfl (X_load (p := (ptr b3 (0))) (v := (.bool (false))) T4 rfl (hB3.at1 rfl) ?_)
              refine L_op0 (X_storeSame T4 rfl rfl rfl hB3 rfl ?_)
              refine L_nil ?_
              refine T_n ?_
              refine W_ret ?_
              refine S_r ?_
              refine BQ_r (End_m (hnL ▸ hd) fun w9 hu9 => ?_)
              have hB9 := hB3.upd hu9 fun h => by have h : b3 = nL := (by rw [hnL]; exact h); omega
              exact End_1 Tryd.results49 (v := .bool false) (RV_1 T4 rfl (hB9.at1 rfl)) ⟨by rw [show decide (RightP q size) = false from (Bool.eq_iff_iff.2 ((decide_eq_true_iff).trans hR.symm))], (hU.trans (hu9.mono fun i _ h => by have h : i = nL := (by rw [hnL]; exact h); show n0 ≤ i; omega)).own hn0⟩
      · rw [hc7]
        refine L_gy (dj := 14) rfl rfl rfl (X_move (v := (.bool (false))) rfl ?_)
        refine L_gn (dj := 17) (t := false) rfl rfl rfl rfl ?_
        refine L_gn (dj := 17) (t := false) rfl rfl rfl rfl ?_
        refine L_gn (dj := 17) (t := false) rfl rfl rfl rfl ?_
        refine L_gn (dj := 17) (t := false) rfl rfl rfl rfl ?_
        refine L_gn (dj := 17) (t := false) rfl rfl rfl rfl ?_
        refine L_gn (dj := 17) (t := false) rfl rfl rfl rfl ?_
        refine L_gn (dj := 17) (t := false) rfl rfl rfl rfl ?_
        refine L_gy (dj := 14) rfl rfl rfl (X_pick (t := false) (v := (.bool (false))) rfl rfl ?_)
        refine L_gy (dj := 14) rfl rfl rfl (X_move (v := (.bool (false))) rfl ?_)
        refine L_gy (dj := 26) rfl rfl rfl (X_fldP (b := b1) (o := 0) (r := 0) Fd41_0 rfl rfl ?_)
        refine L_gy (dj := 26) rfl rfl rfl (X_load (p := (ptr b1 (0))) (v := (.int .u8 (q.1))) T5 rfl (hB1.at1 rfl) ?_)
        by_cases hc43 : (q.1 : Int) = (3)
        · refine L_gy (dj := 26) rfl rfl rfl (X_cmp (k := .u8) (a := q.1) (b := 3) (r := true) rfl rfl rfl (decide_eq_true (p := ((q.1) : Int) = ((3) : Int)) (by omega)) ?_)
          refine L_gy (dj := 26) rfl rfl rfl (X_move (v := (.bool (true))) rfl ?_)
          refine L_gy (dj := 30) rfl rfl rfl (X_fldP (b := b1) (o := 0) (r := 1) Fd41_1 rfl rfl ?_)
          refine L_gy (dj := 30) rfl rfl rfl (X_idxAP (len := 2) (sz := 1) (b := b1) (o := 1) (k := .i64) (i := 1) (r := 2) Tryd.underlying37 Z36 rfl rfl (by omega) (by omega) rfl ?_)
          refine L_gy (dj := 30) rfl rfl rfl (X_load (p := (ptr b1 (2))) (v := (.int .u16 (q.2.2.1))) T36 rfl (hB1.at1 rfl) ?_)
          by_cases hc44 : (q.2.2.1 : Int) = (0)
          · refine L_gy (dj := 30) rfl rfl rfl (X_cmp (k := .u16) (a := q.2.2.1) (b := 0) (r := true) rfl rfl rfl (decide_eq_true (p := ((q.2.2.1) : Int) = ((0) : Int)) (by omega)) ?_)
            refine L_gy (dj := 26) rfl rfl rfl (X_pick (t := true) (v := (.bool (true))) rfl rfl ?_)
            refine L_gy (dj := 14) rfl rfl rfl (X_pick (t := false) (v := (.bool (true))) rfl rfl ?_)
            refine L_op rfl (X_pick (t := true) (v := (.bool (true))) rfl rfl ?_)
            refine L_op0 (X_store (b := b3) (o := 0) T4 rfl rfl rfl hB3 (by show (0 : Nat) < 1; decide) ?_)
            intro w45 hu45 hb45
            have hz45 := hu45.size
            replace hU := hU.trans (hu45.mono fun i _ h => by have h : i = b3 := h; show n0 ≤ i; omega)
            replace hB1 := hB1.upd hu45 fun h => by have h : b1 = b3 := h; omega
            replace hB2 := hB2.upd hu45 fun h => by have h : b2 = b3 := h; omega
            replace hB3 : Blk w45 b3 #[(.bool (true))] 4 := hb45
            refine L_nil ?_
            refine T_n ?_
            refine W_seq ?_
            refine W_label ?_
            refine T_n ?_
            refine W_seq ?_
            refine W_seq ?_
            refine W_reg ?_
            refine L_op rfl (X_loadA (p := (ptr b1 (0))) (xs := ptC q) A41 rfl hB1.atAll rfl ?_)
            obtain ⟨nb, hnb⟩ : ∃ n, n = w45.heap.size := ⟨_, rfl⟩
            refine L_op rfl (X_fn (vs := [(.agg (ptC q).toArray)]) en63 rfl (CT.mono (c_addresses q _) ?_))
            rintro _ w46 ⟨rfl, hK, hu46, hz46⟩
            rw [← hnb] at hK ⊢
            replace hU := hU.trans (Ext.upd hu46)
            replace hB1 := hB1.ext hu46
            replace hB2 := hB2.ext hu46
            replace hB3 := hB3.ext hu46
            refine L_nil ?_
            refine T_n ?_
            refine W_block ?_
            obtain ⟨nL, hnL⟩ : ∃ n, n = w46.heap.size := ⟨_, rfl⟩
            refine W_range (lb := [ptr nb 0]) (xs := (addrX q)) rfl en65 (c_addr1 q nb _ hq hK) (Upd.refl _ _) rfl (fun x hx => by unfold addrX at hx; obtain ⟨y, _, rfl⟩ := List.mem_map.1 hx; rfl) (fun b => b = b3 ∨ nL + 2 ≤ b) (fun b hb_ => ⟨fun h => by have h : b = nb := h; rcases hb_ with h0 | h0 <;> omega, by rcases hb_ with h0 | h0 <;> omega, by rcases hb_ with h0 | h0 <;> omega⟩) (fun b hb_ h => by have h : b = nb := h; omega) (fun b h => h.elim) (fun k W => ∃ g : Bool, (g = true ↔ accR q size k) ∧ Blk W b3 #[.bool g] 4 ∧ Blk W b2 #[.int .i64 size] 3 ∧ Upd (fun i => n0 ≤ i) w W) (fun k e W => e = .exit 0 ∧ k < (addrs q).length ∧ ¬ accR q size (k + 1) ∧ Blk W b3 #[.bool false] 4 ∧ Upd (fun i => n0 ≤ i) w W) (fun k W W2 hI hu => by obtain ⟨g, hg, hB3, hB2, hU⟩ := hI; exact ⟨g, hg, hB3.upd hu fun h => by { rcases h with h | h; (· exact h); (· omega) }, hB2.upd hu fun h => by { rcases h with h | h; (· exact h); (· omega) }, hU.trans (hu.mono fun i _ h => by { rcases h with h | h; (· exact h.elim); (· show n0 ≤ i; omega) })⟩) (fun k e W W2 hI hu => by obtain ⟨he, h1, h2, hB3, hU⟩ := hI; exact ⟨he, h1, h2, hB3.upd hu fun h => by { rcases h with h | h; (· exact h); (· omega) }, hU.trans (hu.mono fun i _ h => by { rcases h with h | h; (· exact h.elim); (· show n0 ≤ i; omega) })⟩) ?_ ?_ ?_ ?_
            · intro W hx_ hs_
              have hH : HeadP q := by have hk0_ : ¬ (q.1 = 1 ∨ q.1 = 2) := of_decide_eq_false hc7; show ((1 ≤ q.2.2.2.1 ∧ q.2.2.2.1 ≤ 1073741824) ∧ ((q.1 = 1 ∨ q.1 = 2) ∧ q.2.1 ≠ q.2.2.1 ∨ q.1 = 3 ∧ q.2.2.1 = 0)); omega
              exact ⟨true, ⟨fun h => ⟨hH, fun x hx => (by rw [List.take_zero] at hx; cases hx)⟩, fun h => rfl⟩, hB3.ext hx_, hB2.ext hx_, hU.trans (Ext.upd hx_)⟩
            · intro k x W hk_ hI_ hsz_ hlp_
              obtain ⟨g, hg, hB3, hB2, hU⟩ := hI_
              obtain ⟨a, ha, rfl⟩ := addrX_at hk_
              have hain := addrs_in hq ha
              have hst := accR_step (size := size) ha
              have hkl := (List.getElem?_eq_some_iff.1 ha).1
              have hD := Upd.refl (fun b => b = b3 ∨ nL + 2 ≤ b) W
              refine W_reg ?_
              refine L_op rfl (X_assign (v := (.int .i64 (a))) rfl ?_)
              refine L_nil ?_
              refine T_n ⟨hD, fun W2 hu2_ hlp2_ => ?_⟩
              have hsz2_ := hu2_.size
              replace hB3 := hB3.upd hu2_ fun h => by have h : b3 = nL + 1 := (by rw [hnL]; exact h); omega
              replace hB2 := hB2.upd hu2_ fun h => by have h : b2 = nL + 1 := (by rw [hnL]; exact h); omega
              replace hU := hU.trans (hu2_.mono fun i _ h => by have h : i = nL + 1 := (by rw [hnL]; exact h); show n0 ≤ i; omega)
              have hD := Upd.refl (fun b => b = b3 ∨ nL + 2 ≤ b) W2
              refine W_block ?_
              refine W_seq ?_
              refine W_reg ?_
              rcases Bool.eq_false_or_eq_true g with rfl | rfl
              · refine L_op rfl (X_load (p := (ptr b3 (0))) (v := (.bool (true))) T4 rfl (hB3.at1 rfl) ?_)
                refine L_op rfl (X_move (v := (.bool (true))) rfl ?_)
                refine L_gy (dj := 42) rfl rfl rfl (X_move (v := (.int .i64 (a))) rfl ?_)
                by_cases hc47 : (a : Int) ≥ (4)
                · refine L_gy (dj := 42) rfl rfl rfl (X_cmp (k := .i64) (a := a) (b := 4) (r := true) rfl rfl rfl (decide_eq_true (p := ((4) : Int) ≤ ((a) : Int)) (by omega)) ?_)
                  refine L_op rfl (X_pick (t := true) (v := (.bool (true))) rfl rfl ?_)
                  refine L_op rfl (X_move (v := (.bool (true))) rfl ?_)
                  refine L_gy (dj := 46) rfl rfl rfl (X_move (v := (.int .i64 (a))) rfl ?_)
                  refine L_gy (dj := 46) rfl rfl rfl (X_load (p := (ptr b2 (0))) (v := (.int .i64 (size))) T3 rfl (hB2.at1 rfl) ?_)
                  by_cases hc48 : (a : Int) < (size)
                  · refine L_gy (dj := 46) rfl rfl rfl (X_cmp (k := .i64) (a := a) (b := size) (r := true) rfl rfl rfl (decide_eq_true (p := ((a) : Int) < ((size) : Int)) (by omega)) ?_)
                    refine L_op rfl (X_pick (t := true) (v := (.bool (true))) rfl rfl ?_)
                    refine L_op0 (X_store (b := b3) (o := 0) T4 rfl rfl rfl hB3 (by show (0 : Nat) < 1; decide) ?_)
                    intro w49 hu49 hb49
                    have hz49 := hu49.size
                    replace hB2 := hB2.upd hu49 fun h => by have h : b2 = b3 := h; omega
                    replace hU := hU.trans (hu49.mono fun i _ h => by have h : i = b3 := h; show n0 ≤ i; omega)
                    replace hD := hD.trans (hu49.mono fun i _ h => by have h : i = b3 := h; show i = b3 ∨ nL + 2 ≤ i; omega)
                    replace hB3 : Blk w49 b3 #[(.bool (true))] 4 := hb49
                    refine L_nil ?_
                    refine T_n ?_
                    refine W_seq ?_
                    refine W_reg ?_
                    refine L_op rfl (X_load (p := (ptr b3 (0))) (v := (.bool (true))) T4 rfl (hB3.at1 rfl) ?_)
                    refine L_op rfl (X_not (b := true) (r := false) rfl rfl ?_)
                    refine L_nil ?_
                    refine T_n ?_
                    refine W_cf rfl ?_
                    refine W_skip ?_
                    refine B_n ?_
                    exact RQ_n hD ⟨true, ⟨fun _ => hst.2 ⟨hg.1 rfl, (by show 4 ≤ a ∧ a < size; omega)⟩, fun _ => rfl⟩, hB3, hB2, hU⟩
                  · refine L_gy (dj := 46) rfl rfl rfl (X_cmp (k := .i64) (a := a) (b := size) (r := false) rfl rfl rfl (decide_eq_false (p := ((a) : Int) < ((size) : Int)) (by omega)) ?_)
                    refine L_op rfl (X_pick (t := true) (v := (.bool (false))) rfl rfl ?_)
                    refine L_op0 (X_store (b := b3) (o := 0) T4 rfl rfl rfl hB3 (by show (0 : Nat) < 1; decide) ?_)
                    intro w50 hu50 hb50
                    have hz50 := hu50.size
                    replace hB2 := hB2.upd hu50 fun h => by have h : b2 = b3 := h; omega
                    replace hU := hU.trans (hu50.mono fun i _ h => by have h : i = b3 := h; show n0 ≤ i; omega)
                    replace hD := hD.trans (hu50.mono fun i _ h => by have h : i = b3 := h; show i = b3 ∨ nL + 2 ≤ i; omega)
                    replace hB3 : Blk w50 b3 #[(.bool (false))] 4 := hb50
                    refine L_nil ?_
                    refine T_n ?_
                    refine W_seq ?_
                    refine W_reg ?_
                    refine L_op rfl (X_load (p := (ptr b3 (0))) (v := (.bool (false))) T4 rfl (hB3.at1 rfl) ?_)
                    refine L_op rfl (X_not (b := false) (r := true) rfl rfl ?_)
                    refine L_nil ?_
                    refine T_n ?_
                    refine W_ct rfl ?_
                    refine W_exit ?_
                    refine B_e rfl ?_
                    exact RQ_e hD ⟨rfl, hkl, fun h => (by have h1 := hst.1 h; have h2 : 4 ≤ a ∧ a < size := h1.2; omega), hB3, hU⟩
                · refine L_gy (dj := 42) rfl rfl rfl (X_cmp (k := .i64) (a := a) (b := 4) (r := false) rfl rfl rfl (decide_eq_false (p := ((4) : Int) ≤ ((a) : Int)) (by omega)) ?_)
                  refine L_op rfl (X_pick (t := true) (v := (.bool (false))) rfl rfl ?_)
                  refine L_op rfl (X_move (v := (.bool (false))) rfl ?_)
                  refine L_gn (dj := 46) (t := false) rfl rfl rfl rfl ?_
                  refine L_gn (dj := 46) (t := false) rfl rfl rfl rfl ?_
                  refine L_gn (dj := 46) (t := false) rfl rfl rfl rfl ?_
                  refine L_op rfl (X_pick (t := false) (v := (.bool (false))) rfl rfl ?_)
                  refine L_op0 (X_store (b := b3) (o := 0) T4 rfl rfl rfl hB3 (by show (0 : Nat) < 1; decide) ?_)
                  intro w51 hu51 hb51
                  have hz51 := hu51.size
                  replace hB2 := hB2.upd hu51 fun h => by have h : b2 = b3 := h; omega
                  replace hU := hU.trans (hu51.mono fun i _ h => by have h : i = b3 := h; show n0 ≤ i; omega)
                  replace hD := hD.trans (hu51.mono fun i _ h => by have h : i = b3 := h; show i = b3 ∨ nL + 2 ≤ i; omega)
                  replace hB3 : Blk w51 b3 #[(.bool (false))] 4 := hb51
                  refine L_nil ?_
                  refine T_n ?_
                  refine W_seq ?_
                  refine W_reg ?_
                  refine L_op rfl (X_load (p := (ptr b3 (0))) (v := (.bool (false))) T4 rfl (hB3.at1 rfl) ?_)
                  refine L_op rfl (X_not (b := false) (r := true) rfl rfl ?_)
                  refine L_nil ?_
                  refine T_n ?_
                  refine W_ct rfl ?_
                  refine W_exit ?_
                  refine B_e rfl ?_
                  exact RQ_e hD ⟨rfl, hkl, fun h => (by have h1 := hst.1 h; have h2 : 4 ≤ a ∧ a < size := h1.2; omega), hB3, hU⟩
              · refine L_op rfl (X_load (p := (ptr b3 (0))) (v := (.bool (false))) T4 rfl (hB3.at1 rfl) ?_)
                refine L_op rfl (X_move (v := (.bool (false))) rfl ?_)
                refine L_gn (dj := 42) (t := false) rfl rfl rfl rfl ?_
                refine L_gn (dj := 42) (t := false) rfl rfl rfl rfl ?_
                refine L_op rfl (X_pick (t := false) (v := (.bool (false))) rfl rfl ?_)
                refine L_op rfl (X_move (v := (.bool (false))) rfl ?_)
                refine L_gn (dj := 46) (t := false) rfl rfl rfl rfl ?_
                refine L_gn (dj := 46) (t := false) rfl rfl rfl rfl ?_
                refine L_gn (dj := 46) (t := false) rfl rfl rfl rfl ?_
                refine L_op rfl (X_pick (t := false) (v := (.bool (false))) rfl rfl ?_)
                refine L_op0 (X_store (b := b3) (o := 0) T4 rfl rfl rfl hB3 (by show (0 : Nat) < 1; decide) ?_)
                intro w52 hu52 hb52
                have hz52 := hu52.size
                replace hB2 := hB2.upd hu52 fun h => by have h : b2 = b3 := h; omega
                replace hU := hU.trans (hu52.mono fun i _ h => by have h : i = b3 := h; show n0 ≤ i; omega)
                replace hD := hD.trans (hu52.mono fun i _ h => by have h : i = b3 := h; show i = b3 ∨ nL + 2 ≤ i; omega)
                replace hB3 : Blk w52 b3 #[(.bool (false))] 4 := hb52
                refine L_nil ?_
                refine T_n ?_
                refine W_seq ?_
                refine W_reg ?_
                refine L_op rfl (X_load (p := (ptr b3 (0))) (v := (.bool (false))) T4 rfl (hB3.at1 rfl) ?_)
                refine L_op rfl (X_not (b := false) (r := true) rfl rfl ?_)
                refine L_nil ?_
                refine T_n ?_
                refine W_ct rfl ?_
                refine W_exit ?_
                refine B_e rfl ?_
                exact RQ_e hD ⟨rfl, hkl, fun h => (by have h1 := hst.1 h; have h2 := hg.2 h1.1; cases h2), hB3, hU⟩
            · intro W hI_ hd_
              obtain ⟨g, hg, hB3, hB2, hU⟩ := hI_
              rw [addrX_len] at hg
              have hR : g = true ↔ RightP q size := hg.trans accR_all
              have hd : Dfd W nL := by rw [hnL]; exact hd_
              refine B_n ?_
              refine T_n ?_
              refine W_seq ?_
              refine W_reg ?_
              refine L_op rfl (X_load (p := (ptr b3 (0))) (v := (.bool (g))) T4 rfl (hB3.at1 rfl) ?_)
              refine L_op0 (X_storeSame T4 rfl rfl rfl hB3 rfl ?_)
              refine L_nil ?_
              refine T_n ?_
              refine W_ret ?_
              refine S_r ?_
              refine BQ_r (End_m (hnL ▸ hd) fun w9 hu9 => ?_)
              have hB9 := hB3.upd hu9 fun h => by have h : b3 = nL := (by rw [hnL]; exact h); omega
              exact End_1 Tryd.results49 (v := .bool g) (RV_1 T4 rfl (hB9.at1 rfl)) ⟨by rw [show decide (RightP q size) = g from (Bool.eq_iff_iff.2 ((decide_eq_true_iff).trans hR.symm))], (hU.trans (hu9.mono fun i _ h => by have h : i = nL := (by rw [hnL]; exact h); show n0 ≤ i; omega)).own hn0⟩
            · intro k e W hk_ hI_ hd_ he_
              obtain ⟨rfl, hkl, hno, hB3, hU⟩ := hI_
              have hR : false = true ↔ RightP q size := ⟨fun h => (by cases h), fun h => absurd (⟨(accR_all.2 h).1, fun x hx => (accR_all.2 h).2 x (by rw [List.take_length]; exact List.mem_of_mem_take hx)⟩ : accR q size (k + 1)) hno⟩
              have hd : Dfd W nL := by rw [hnL]; exact hd_
              refine B_x ?_
              refine T_n ?_
              refine W_seq ?_
              refine W_reg ?_
              refine L_op rfl (X_load (p := (ptr b3 (0))) (v := (.bool (false))) T4 rfl (hB3.at1 rfl) ?_)
              refine L_op0 (X_storeSame T4 rfl rfl rfl hB3 rfl ?_)
              refine L_nil ?_
              refine T_n ?_
              refine W_ret ?_
              refine S_r ?_
              refine BQ_r (End_m (hnL ▸ hd) fun w9 hu9 => ?_)
              have hB9 := hB3.upd hu9 fun h => by have h : b3 = nL := (by rw [hnL]; exact h); omega
              exact End_1 Tryd.results49 (v := .bool false) (RV_1 T4 rfl (hB9.at1 rfl)) ⟨by rw [show decide (RightP q size) = false from (Bool.eq_iff_iff.2 ((decide_eq_true_iff).trans hR.symm))], (hU.trans (hu9.mono fun i _ h => by have h : i = nL := (by rw [hnL]; exact h); show n0 ≤ i; omega)).own hn0⟩
          · refine L_gy (dj := 30) rfl rfl rfl (X_cmp (k := .u16) (a := q.2.2.1) (b := 0) (r := false) rfl rfl rfl (decide_eq_false (p := ((q.2.2.1) : Int) = ((0) : Int)) (by omega)) ?_)
            refine L_gy (dj := 26) rfl rfl rfl (X_pick (t := true) (v := (.bool (false))) rfl rfl ?_)
            refine L_gy (dj := 14) rfl rfl rfl (X_pick (t := false) (v := (.bool (false))) rfl rfl ?_)
            refine L_op rfl (X_pick (t := true) (v := (.bool (false))) rfl rfl ?_)
            refine L_op0 (X_store (b := b3) (o := 0) T4 rfl rfl rfl hB3 (by show (0 : Nat) < 1; decide) ?_)
            intro w53 hu53 hb53
            have hz53 := hu53.size
            replace hU := hU.trans (hu53.mono fun i _ h => by have h : i = b3 := h; show n0 ≤ i; omega)
            replace hB1 := hB1.upd hu53 fun h => by have h : b1 = b3 := h; omega
            replace hB2 := hB2.upd hu53 fun h => by have h : b2 = b3 := h; omega
            replace hB3 : Blk w53 b3 #[(.bool (false))] 4 := hb53
            refine L_nil ?_
            refine T_n ?_
            refine W_seq ?_
            refine W_label ?_
            refine T_n ?_
            refine W_seq ?_
            refine W_seq ?_
            refine W_reg ?_
            refine L_op rfl (X_loadA (p := (ptr b1 (0))) (xs := ptC q) A41 rfl hB1.atAll rfl ?_)
            obtain ⟨nb, hnb⟩ : ∃ n, n = w53.heap.size := ⟨_, rfl⟩
            refine L_op rfl (X_fn (vs := [(.agg (ptC q).toArray)]) en63 rfl (CT.mono (c_addresses q _) ?_))
            rintro _ w54 ⟨rfl, hK, hu54, hz54⟩
            rw [← hnb] at hK ⊢
            replace hU := hU.trans (Ext.upd hu54)
            replace hB1 := hB1.ext hu54
            replace hB2 := hB2.ext hu54
            replace hB3 := hB3.ext hu54
            refine L_nil ?_
            refine T_n ?_
            refine W_block ?_
            obtain ⟨nL, hnL⟩ : ∃ n, n = w54.heap.size := ⟨_, rfl⟩
            refine W_range (lb := [ptr nb 0]) (xs := (addrX q)) rfl en65 (c_addr1 q nb _ hq hK) (Upd.refl _ _) rfl (fun x hx => by unfold addrX at hx; obtain ⟨y, _, rfl⟩ := List.mem_map.1 hx; rfl) (fun b => b = b3 ∨ nL + 2 ≤ b) (fun b hb_ => ⟨fun h => by have h : b = nb := h; rcases hb_ with h0 | h0 <;> omega, by rcases hb_ with h0 | h0 <;> omega, by rcases hb_ with h0 | h0 <;> omega⟩) (fun b hb_ h => by have h : b = nb := h; omega) (fun b h => h.elim) (fun k W => ∃ g : Bool, (g = true ↔ accR q size k) ∧ Blk W b3 #[.bool g] 4 ∧ Blk W b2 #[.int .i64 size] 3 ∧ Upd (fun i => n0 ≤ i) w W) (fun k e W => e = .exit 0 ∧ k < (addrs q).length ∧ ¬ accR q size (k + 1) ∧ Blk W b3 #[.bool false] 4 ∧ Upd (fun i => n0 ≤ i) w W) (fun k W W2 hI hu => by obtain ⟨g, hg, hB3, hB2, hU⟩ := hI; exact ⟨g, hg, hB3.upd hu fun h => by { rcases h with h | h; (· exact h); (· omega) }, hB2.upd hu fun h => by { rcases h with h | h; (· exact h); (· omega) }, hU.trans (hu.mono fun i _ h => by { rcases h with h | h; (· exact h.elim); (· show n0 ≤ i; omega) })⟩) (fun k e W W2 hI hu => by obtain ⟨he, h1, h2, hB3, hU⟩ := hI; exact ⟨he, h1, h2, hB3.upd hu fun h => by { rcases h with h | h; (· exact h); (· omega) }, hU.trans (hu.mono fun i _ h => by { rcases h with h | h; (· exact h.elim); (· show n0 ≤ i; omega) })⟩) ?_ ?_ ?_ ?_
            · intro W hx_ hs_
              have hH : ¬ HeadP q := by have hk0_ : ¬ (q.1 = 1 ∨ q.1 = 2) := of_decide_eq_false hc7; show ¬ ((1 ≤ q.2.2.2.1 ∧ q.2.2.2.1 ≤ 1073741824) ∧ ((q.1 = 1 ∨ q.1 = 2) ∧ q.2.1 ≠ q.2.2.1 ∨ q.1 = 3 ∧ q.2.2.1 = 0)); omega
              exact ⟨false, ⟨fun h => (by cases h), fun h => absurd h.1 hH⟩, hB3.ext hx_, hB2.ext hx_, hU.trans (Ext.upd hx_)⟩
            · intro k x W hk_ hI_ hsz_ hlp_
              obtain ⟨g, hg, hB3, hB2, hU⟩ := hI_
              obtain ⟨a, ha, rfl⟩ := addrX_at hk_
              have hain := addrs_in hq ha
              have hst := accR_step (size := size) ha
              have hkl := (List.getElem?_eq_some_iff.1 ha).1
              have hD := Upd.refl (fun b => b = b3 ∨ nL + 2 ≤ b) W
              refine W_reg ?_
              refine L_op rfl (X_assign (v := (.int .i64 (a))) rfl ?_)
              refine L_nil ?_
              refine T_n ⟨hD, fun W2 hu2_ hlp2_ => ?_⟩
              have hsz2_ := hu2_.size
              replace hB3 := hB3.upd hu2_ fun h => by have h : b3 = nL + 1 := (by rw [hnL]; exact h); omega
              replace hB2 := hB2.upd hu2_ fun h => by have h : b2 = nL + 1 := (by rw [hnL]; exact h); omega
              replace hU := hU.trans (hu2_.mono fun i _ h => by have h : i = nL + 1 := (by rw [hnL]; exact h); show n0 ≤ i; omega)
              have hD := Upd.refl (fun b => b = b3 ∨ nL + 2 ≤ b) W2
              refine W_block ?_
              refine W_seq ?_
              refine W_reg ?_
              rcases Bool.eq_false_or_eq_true g with rfl | rfl
              · refine L_op rfl (X_load (p := (ptr b3 (0))) (v := (.bool (true))) T4 rfl (hB3.at1 rfl) ?_)
                refine L_op rfl (X_move (v := (.bool (true))) rfl ?_)
                refine L_gy (dj := 42) rfl rfl rfl (X_move (v := (.int .i64 (a))) rfl ?_)
                by_cases hc55 : (a : Int) ≥ (4)
                · refine L_gy (dj := 42) rfl rfl rfl (X_cmp (k := .i64) (a := a) (b := 4) (r := true) rfl rfl rfl (decide_eq_true (p := ((4) : Int) ≤ ((a) : Int)) (by omega)) ?_)
                  refine L_op rfl (X_pick (t := true) (v := (.bool (true))) rfl rfl ?_)
                  refine L_op rfl (X_move (v := (.bool (true))) rfl ?_)
                  refine L_gy (dj := 46) rfl rfl rfl (X_move (v := (.int .i64 (a))) rfl ?_)
                  refine L_gy (dj := 46) rfl rfl rfl (X_load (p := (ptr b2 (0))) (v := (.int .i64 (size))) T3 rfl (hB2.at1 rfl) ?_)
                  by_cases hc56 : (a : Int) < (size)
                  · refine L_gy (dj := 46) rfl rfl rfl (X_cmp (k := .i64) (a := a) (b := size) (r := true) rfl rfl rfl (decide_eq_true (p := ((a) : Int) < ((size) : Int)) (by omega)) ?_)
                    refine L_op rfl (X_pick (t := true) (v := (.bool (true))) rfl rfl ?_)
                    refine L_op0 (X_store (b := b3) (o := 0) T4 rfl rfl rfl hB3 (by show (0 : Nat) < 1; decide) ?_)
                    intro w57 hu57 hb57
                    have hz57 := hu57.size
                    replace hB2 := hB2.upd hu57 fun h => by have h : b2 = b3 := h; omega
                    replace hU := hU.trans (hu57.mono fun i _ h => by have h : i = b3 := h; show n0 ≤ i; omega)
                    replace hD := hD.trans (hu57.mono fun i _ h => by have h : i = b3 := h; show i = b3 ∨ nL + 2 ≤ i; omega)
                    replace hB3 : Blk w57 b3 #[(.bool (true))] 4 := hb57
                    refine L_nil ?_
                    refine T_n ?_
                    refine W_seq ?_
                    refine W_reg ?_
                    refine L_op rfl (X_load (p := (ptr b3 (0))) (v := (.bool (true))) T4 rfl (hB3.at1 rfl) ?_)
                    refine L_op rfl (X_not (b := true) (r := false) rfl rfl ?_)
                    refine L_nil ?_
                    refine T_n ?_
                    refine W_cf rfl ?_
                    refine W_skip ?_
                    refine B_n ?_
                    exact RQ_n hD ⟨true, ⟨fun _ => hst.2 ⟨hg.1 rfl, (by show 4 ≤ a ∧ a < size; omega)⟩, fun _ => rfl⟩, hB3, hB2, hU⟩
                  · refine L_gy (dj := 46) rfl rfl rfl (X_cmp (k := .i64) (a := a) (b := size) (r := false) rfl rfl rfl (decide_eq_false (p := ((a) : Int) < ((size) : Int)) (by omega)) ?_)
                    refine L_op rfl (X_pick (t := true) (v := (.bool (false))) rfl rfl ?_)
                    refine L_op0 (X_store (b := b3) (o := 0) T4 rfl rfl rfl hB3 (by show (0 : Nat) < 1; decide) ?_)
                    intro w58 hu58 hb58
                    have hz58 := hu58.size
                    replace hB2 := hB2.upd hu58 fun h => by have h : b2 = b3 := h; omega
                    replace hU := hU.trans (hu58.mono fun i _ h => by have h : i = b3 := h; show n0 ≤ i; omega)
                    replace hD := hD.trans (hu58.mono fun i _ h => by have h : i = b3 := h; show i = b3 ∨ nL + 2 ≤ i; omega)
                    replace hB3 : Blk w58 b3 #[(.bool (false))] 4 := hb58
                    refine L_nil ?_
                    refine T_n ?_
                    refine W_seq ?_
                    refine W_reg ?_
                    refine L_op rfl (X_load (p := (ptr b3 (0))) (v := (.bool (false))) T4 rfl (hB3.at1 rfl) ?_)
                    refine L_op rfl (X_not (b := false) (r := true) rfl rfl ?_)
                    refine L_nil ?_
                    refine T_n ?_
                    refine W_ct rfl ?_
                    refine W_exit ?_
                    refine B_e rfl ?_
                    exact RQ_e hD ⟨rfl, hkl, fun h => (by have h1 := hst.1 h; have h2 : 4 ≤ a ∧ a < size := h1.2; omega), hB3, hU⟩
                · refine L_gy (dj := 42) rfl rfl rfl (X_cmp (k := .i64) (a := a) (b := 4) (r := false) rfl rfl rfl (decide_eq_false (p := ((4) : Int) ≤ ((a) : Int)) (by omega)) ?_)
                  refine L_op rfl (X_pick (t := true) (v := (.bool (false))) rfl rfl ?_)
                  refine L_op rfl (X_move (v := (.bool (false))) rfl ?_)
                  refine L_gn (dj := 46) (t := false) rfl rfl rfl rfl ?_
                  refine L_gn (dj := 46) (t := false) rfl rfl rfl rfl ?_
                  refine L_gn (dj := 46) (t := false) rfl rfl rfl rfl ?_
                  refine L_op rfl (X_pick (t := false) (v := (.bool (false))) rfl rfl ?_)
                  refine L_op0 (X_store (b := b3) (o := 0) T4 rfl rfl rfl hB3 (by show (0 : Nat) < 1; decide) ?_)
                  intro w59 hu59 hb59
                  have hz59 := hu59.size
                  replace hB2 := hB2.upd hu59 fun h => by have h : b2 = b3 := h; omega
                  replace hU := hU.trans (hu59.mono fun i _ h => by have h : i = b3 := h; show n0 ≤ i; omega)
                  replace hD := hD.trans (hu59.mono fun i _ h => by have h : i = b3 := h; show i = b3 ∨ nL + 2 ≤ i; omega)
                  replace hB3 : Blk w59 b3 #[(.bool (false))] 4 := hb59
                  refine L_nil ?_
                  refine T_n ?_
                  refine W_seq ?_
                  refine W_reg ?_
                  refine L_op rfl (X_load (p := (ptr b3 (0))) (v := (.bool (false))) T4 rfl (hB3.at1 rfl) ?_)
                  refine L_op rfl (X_not (b := false) (r := true) rfl rfl ?_)
                  refine L_nil ?_
                  refine T_n ?_
                  refine W_ct rfl ?_
                  refine W_exit ?_
                  refine B_e rfl ?_
                  exact RQ_e hD ⟨rfl, hkl, fun h => (by have h1 := hst.1 h; have h2 : 4 ≤ a ∧ a < size := h1.2; omega), hB3, hU⟩
              · refine L_op rfl (X_load (p := (ptr b3 (0))) (v := (.bool (false))) T4 rfl (hB3.at1 rfl) ?_)
                refine L_op rfl (X_move (v := (.bool (false))) rfl ?_)
                refine L_gn (dj := 42) (t := false) rfl rfl rfl rfl ?_
                refine L_gn (dj := 42) (t := false) rfl rfl rfl rfl ?_
                refine L_op rfl (X_pick (t := false) (v := (.bool (false))) rfl rfl ?_)
                refine L_op rfl (X_move (v := (.bool (false))) rfl ?_)
                refine L_gn (dj := 46) (t := false) rfl rfl rfl rfl ?_
                refine L_gn (dj := 46) (t := false) rfl rfl rfl rfl ?_
                refine L_gn (dj := 46) (t := false) rfl rfl rfl rfl ?_
                refine L_op rfl (X_pick (t := false) (v := (.bool (false))) rfl rfl ?_)
                refine L_op0 (X_store (b := b3) (o := 0) T4 rfl rfl rfl hB3 (by show (0 : Nat) < 1; decide) ?_)
                intro w60 hu60 hb60
                have hz60 := hu60.size
                replace hB2 := hB2.upd hu60 fun h => by have h : b2 = b3 := h; omega
                replace hU := hU.trans (hu60.mono fun i _ h => by have h : i = b3 := h; show n0 ≤ i; omega)
                replace hD := hD.trans (hu60.mono fun i _ h => by have h : i = b3 := h; show i = b3 ∨ nL + 2 ≤ i; omega)
                replace hB3 : Blk w60 b3 #[(.bool (false))] 4 := hb60
                refine L_nil ?_
                refine T_n ?_
                refine W_seq ?_
                refine W_reg ?_
                refine L_op rfl (X_load (p := (ptr b3 (0))) (v := (.bool (false))) T4 rfl (hB3.at1 rfl) ?_)
                refine L_op rfl (X_not (b := false) (r := true) rfl rfl ?_)
                refine L_nil ?_
                refine T_n ?_
                refine W_ct rfl ?_
                refine W_exit ?_
                refine B_e rfl ?_
                exact RQ_e hD ⟨rfl, hkl, fun h => (by have h1 := hst.1 h; have h2 := hg.2 h1.1; cases h2), hB3, hU⟩
            · intro W hI_ hd_
              obtain ⟨g, hg, hB3, hB2, hU⟩ := hI_
              rw [addrX_len] at hg
              have hR : g = true ↔ RightP q size := hg.trans accR_all
              have hd : Dfd W nL := by rw [hnL]; exact hd_
              refine B_n ?_
              refine T_n ?_
              refine W_seq ?_
              refine W_reg ?_
              refine L_op rfl (X_load (p := (ptr b3 (0))) (v := (.bool (g))) T4 rfl (hB3.at1 rfl) ?_)
              refine L_op0 (X_storeSame T4 rfl rfl rfl hB3 rfl ?_)
              refine L_nil ?_
              refine T_n ?_
              refine W_ret ?_
              refine S_r ?_
              refine BQ_r (End_m (hnL ▸ hd) fun w9 hu9 => ?_)
              have hB9 := hB3.upd hu9 fun h => by have h : b3 = nL := (by rw [hnL]; exact h); omega
              exact End_1 Tryd.results49 (v := .bool g) (RV_1 T4 rfl (hB9.at1 rfl)) ⟨by rw [show decide (RightP q size) = g from (Bool.eq_iff_iff.2 ((decide_eq_true_iff).trans hR.symm))], (hU.trans (hu9.mono fun i _ h => by have h : i = nL := (by rw [hnL]; exact h); show n0 ≤ i; omega)).own hn0⟩
            · intro k e W hk_ hI_ hd_ he_
              obtain ⟨rfl, hkl, hno, hB3, hU⟩ := hI_
              have hR : false = true ↔ RightP q size := ⟨fun h => (by cases h), fun h => absurd (⟨(accR_all.2 h).1, fun x hx => (accR_all.2 h).2 x (by rw [List.take_length]; exact List.mem_of_mem_take hx)⟩ : accR q size (k + 1)) hno⟩
              have hd : Dfd W nL := by rw [hnL]; exact hd_
              refine B_x ?_
              refine T_n ?_
              refine W_seq ?_
              refine W_reg ?_
              refine L_op rfl (X_load (p := (ptr b3 (0))) (v := (.bool (false))) T4 rfl (hB3.at1 rfl) ?_)
              refine L_op0 (X_storeSame T4 rfl rfl rfl hB3 rfl ?_)
              refine L_nil ?_
              refine T_n ?_
              refine W_ret ?_
              refine S_r ?_
              refine BQ_r (End_m (hnL ▸ hd) fun w9 hu9 => ?_)
              have hB9 := hB3.upd hu9 fun h => by have h : b3 = nL := (by rw [hnL]; exact h); omega
              exact End_1 Tryd.results49 (v := .bool false) (RV_1 T4 rfl (hB9.at1 rfl)) ⟨by rw [show decide (RightP q size) = false from (Bool.eq_iff_iff.2 ((decide_eq_true_iff).trans hR.symm))], (hU.trans (hu9.mono fun i _ h => by have h : i = nL := (by rw [hnL]; exact h); show n0 ≤ i; omega)).own hn0⟩
        · refine L_gy (dj := 26) rfl rfl rfl (X_cmp (k := .u8) (a := q.1) (b := 3) (r := false) rfl rfl rfl (decide_eq_false (p := ((q.1) : Int) = ((3) : Int)) (by omega)) ?_)
          refine L_gy (dj := 26) rfl rfl rfl (X_move (v := (.bool (false))) rfl ?_)
          refine L_gn (dj := 30) (t := false) rfl rfl rfl rfl ?_
          refine L_gn (dj := 30) (t := false) rfl rfl rfl rfl ?_
          refine L_gn (dj := 30) (t := false) rfl rfl rfl rfl ?_
          refine L_gn (dj := 30) (t := false) rfl rfl rfl rfl ?_
          refine L_gy (dj := 26) rfl rfl rfl (X_pick (t := false) (v := (.bool (false))) rfl rfl ?_)
          refine L_gy (dj := 14) rfl rfl rfl (X_pick (t := false) (v := (.bool (false))) rfl rfl ?_)
          refine L_op rfl (X_pick (t := true) (v := (.bool (false))) rfl rfl ?_)
          refine L_op0 (X_store (b := b3) (o := 0) T4 rfl rfl rfl hB3 (by show (0 : Nat) < 1; decide) ?_)
          intro w61 hu61 hb61
          have hz61 := hu61.size
          replace hU := hU.trans (hu61.mono fun i _ h => by have h : i = b3 := h; show n0 ≤ i; omega)
          replace hB1 := hB1.upd hu61 fun h => by have h : b1 = b3 := h; omega
          replace hB2 := hB2.upd hu61 fun h => by have h : b2 = b3 := h; omega
          replace hB3 : Blk w61 b3 #[(.bool (false))] 4 := hb61
          refine L_nil ?_
          refine T_n ?_
          refine W_seq ?_
          refine W_label ?_
          refine T_n ?_
          refine W_seq ?_
          refine W_seq ?_
          refine W_reg ?_
          refine L_op rfl (X_loadA (p := (ptr b1 (0))) (xs := ptC q) A41 rfl hB1.atAll rfl ?_)
          obtain ⟨nb, hnb⟩ : ∃ n, n = w61.heap.size := ⟨_, rfl⟩
          refine L_op rfl (X_fn (vs := [(.agg (ptC q).toArray)]) en63 rfl (CT.mono (c_addresses q _) ?_))
          rintro _ w62 ⟨rfl, hK, hu62, hz62⟩
          rw [← hnb] at hK ⊢
          replace hU := hU.trans (Ext.upd hu62)
          replace hB1 := hB1.ext hu62
          replace hB2 := hB2.ext hu62
          replace hB3 := hB3.ext hu62
          refine L_nil ?_
          refine T_n ?_
          refine W_block ?_
          obtain ⟨nL, hnL⟩ : ∃ n, n = w62.heap.size := ⟨_, rfl⟩
          refine W_range (lb := [ptr nb 0]) (xs := (addrX q)) rfl en65 (c_addr1 q nb _ hq hK) (Upd.refl _ _) rfl (fun x hx => by unfold addrX at hx; obtain ⟨y, _, rfl⟩ := List.mem_map.1 hx; rfl) (fun b => b = b3 ∨ nL + 2 ≤ b) (fun b hb_ => ⟨fun h => by have h : b = nb := h; rcases hb_ with h0 | h0 <;> omega, by rcases hb_ with h0 | h0 <;> omega, by rcases hb_ with h0 | h0 <;> omega⟩) (fun b hb_ h => by have h : b = nb := h; omega) (fun b h => h.elim) (fun k W => ∃ g : Bool, (g = true ↔ accR q size k) ∧ Blk W b3 #[.bool g] 4 ∧ Blk W b2 #[.int .i64 size] 3 ∧ Upd (fun i => n0 ≤ i) w W) (fun k e W => e = .exit 0 ∧ k < (addrs q).length ∧ ¬ accR q size (k + 1) ∧ Blk W b3 #[.bool false] 4 ∧ Upd (fun i => n0 ≤ i) w W) (fun k W W2 hI hu => by obtain ⟨g, hg, hB3, hB2, hU⟩ := hI; exact ⟨g, hg, hB3.upd hu fun h => by { rcases h with h | h; (· exact h); (· omega) }, hB2.upd hu fun h => by { rcases h with h | h; (· exact h); (· omega) }, hU.trans (hu.mono fun i _ h => by { rcases h with h | h; (· exact h.elim); (· show n0 ≤ i; omega) })⟩) (fun k e W W2 hI hu => by obtain ⟨he, h1, h2, hB3, hU⟩ := hI; exact ⟨he, h1, h2, hB3.upd hu fun h => by { rcases h with h | h; (· exact h); (· omega) }, hU.trans (hu.mono fun i _ h => by { rcases h with h | h; (· exact h.elim); (· show n0 ≤ i; omega) })⟩) ?_ ?_ ?_ ?_
          · intro W hx_ hs_
            have hH : ¬ HeadP q := by have hk0_ : ¬ (q.1 = 1 ∨ q.1 = 2) := of_decide_eq_false hc7; show ¬ ((1 ≤ q.2.2.2.1 ∧ q.2.2.2.1 ≤ 1073741824) ∧ ((q.1 = 1 ∨ q.1 = 2) ∧ q.2.1 ≠ q.2.2.1 ∨ q.1 = 3 ∧ q.2.2.1 = 0)); omega
            exact ⟨false, ⟨fun h => (by cases h), fun h => absurd h.1 hH⟩, hB3.ext hx_, hB2.ext hx_, hU.trans (Ext.upd hx_)⟩
          · intro k x W hk_ hI_ hsz_ hlp_
            obtain ⟨g, hg, hB3, hB2, hU⟩ := hI_
            obtain ⟨a, ha, rfl⟩ := addrX_at hk_
            have hain := addrs_in hq ha
            have hst := accR_step (size := size) ha
            have hkl := (List.getElem?_eq_some_iff.1 ha).1
            have hD := Upd.refl (fun b => b = b3 ∨ nL + 2 ≤ b) W
            refine W_reg ?_
            refine L_op rfl (X_assign (v := (.int .i64 (a))) rfl ?_)
            refine L_nil ?_
            refine T_n ⟨hD, fun W2 hu2_ hlp2_ => ?_⟩
            have hsz2_ := hu2_.size
            replace hB3 := hB3.upd hu2_ fun h => by have h : b3 = nL + 1 := (by rw [hnL]; exact h); omega
            replace hB2 := hB2.upd hu2_ fun h => by have h : b2 = nL + 1 := (by rw [hnL]; exact h); omega
            replace hU := hU.trans (hu2_.mono fun i _ h => by have h : i = nL + 1 := (by rw [hnL]; exact h); show n0 ≤ i; omega)
            have hD := Upd.refl (fun b => b = b3 ∨ nL + 2 ≤ b) W2
            refine W_block ?_
            refine W_seq ?_
            refine W_reg ?_
            rcases Bool.eq_false_or_eq_true g with rfl | rfl
            · refine L_op rfl (X_load (p := (ptr b3 (0))) (v := (.bool (true))) T4 rfl (hB3.at1 rfl) ?_)
              refine L_op rfl (X_move (v := (.bool (true))) rfl ?_)
              refine L_gy (dj := 42) rfl rfl rfl (X_move (v := (.int .i64 (a))) rfl ?_)
              by_cases hc63 : (a : Int) ≥ (4)
              · refine L_gy (dj := 42) rfl rfl rfl (X_cmp (k := .i64) (a := a) (b := 4) (r := true) rfl rfl rfl (decide_eq_true (p := ((4) : Int) ≤ ((a) : Int)) (by omega)) ?_)
                refine L_op rfl (X_pick (t := true) (v := (.bool (true))) rfl rfl ?_)
                refine L_op rfl (X_move (v := (.bool (true))) rfl ?_)
                refine L_gy (dj := 46) rfl rfl rfl (X_move (v := (.int .i64 (a))) rfl ?_)
                refine L_gy (dj := 46) rfl rfl rfl (X_load (p := (ptr b2 (0))) (v := (.int .i64 (size))) T3 rfl (hB2.at1 rfl) ?_)
                by_cases hc64 : (a : Int) < (size)
                · refine L_gy (dj := 46) rfl rfl rfl (X_cmp (k := .i64) (a := a) (b := size) (r := true) rfl rfl rfl (decide_eq_true (p := ((a) : Int) < ((size) : Int)) (by omega)) ?_)
                  refine L_op rfl (X_pick (t := true) (v := (.bool (true))) rfl rfl ?_)
                  refine L_op0 (X_store (b := b3) (o := 0) T4 rfl rfl rfl hB3 (by show (0 : Nat) < 1; decide) ?_)
                  intro w65 hu65 hb65
                  have hz65 := hu65.size
                  replace hB2 := hB2.upd hu65 fun h => by have h : b2 = b3 := h; omega
                  replace hU := hU.trans (hu65.mono fun i _ h => by have h : i = b3 := h; show n0 ≤ i; omega)
                  replace hD := hD.trans (hu65.mono fun i _ h => by have h : i = b3 := h; show i = b3 ∨ nL + 2 ≤ i; omega)
                  replace hB3 : Blk w65 b3 #[(.bool (true))] 4 := hb65
                  refine L_nil ?_
                  refine T_n ?_
                  refine W_seq ?_
                  refine W_reg ?_
                  refine L_op rfl (X_load (p := (ptr b3 (0))) (v := (.bool (true))) T4 rfl (hB3.at1 rfl) ?_)
                  refine L_op rfl (X_not (b := true) (r := false) rfl rfl ?_)
                  refine L_nil ?_
                  refine T_n ?_
                  refine W_cf rfl ?_
                  refine W_skip ?_
                  refine B_n ?_
                  exact RQ_n hD ⟨true, ⟨fun _ => hst.2 ⟨hg.1 rfl, (by show 4 ≤ a ∧ a < size; omega)⟩, fun _ => rfl⟩, hB3, hB2, hU⟩
                · refine L_gy (dj := 46) rfl rfl rfl (X_cmp (k := .i64) (a := a) (b := size) (r := false) rfl rfl rfl (decide_eq_false (p := ((a) : Int) < ((size) : Int)) (by omega)) ?_)
                  refine L_op rfl (X_pick (t := true) (v := (.bool (false))) rfl rfl ?_)
                  refine L_op0 (X_store (b := b3) (o := 0) T4 rfl rfl rfl hB3 (by show (0 : Nat) < 1; decide) ?_)
                  intro w66 hu66 hb66
                  have hz66 := hu66.size
                  replace hB2 := hB2.upd hu66 fun h => by have h : b2 = b3 := h; omega
                  replace hU := hU.trans (hu66.mono fun i _ h => by have h : i = b3 := h; show n0 ≤ i; omega)
                  replace hD := hD.trans (hu66.mono fun i _ h => by have h : i = b3 := h; show i = b3 ∨ nL + 2 ≤ i; omega)
                  replace hB3 : Blk w66 b3 #[(.bool (false))] 4 := hb66
                  refine L_nil ?_
                  refine T_n ?_
                  refine W_seq ?_
                  refine W_reg ?_
                  refine L_op rfl (X_load (p := (ptr b3 (0))) (v := (.bool (false))) T4 rfl (hB3.at1 rfl) ?_)
                  refine L_op rfl (X_not (b := false) (r := true) rfl rfl ?_)
                  refine L_nil ?_
                  refine T_n ?_
                  refine W_ct rfl ?_
                  refine W_exit ?_
                  refine B_e rfl ?_
                  exact RQ_e hD ⟨rfl, hkl, fun h => (by have h1 := hst.1 h; have h2 : 4 ≤ a ∧ a < size := h1.2; omega), hB3, hU⟩
              · refine L_gy (dj := 42) rfl rfl rfl (X_cmp (k := .i64) (a := a) (b := 4) (r := false) rfl rfl rfl (decide_eq_false (p := ((4) : Int) ≤ ((a) : Int)) (by omega)) ?_)
                refine L_op rfl (X_pick (t := true) (v := (.bool (false))) rfl rfl ?_)
                refine L_op rfl (X_move (v := (.bool (false))) rfl ?_)
                refine L_gn (dj := 46) (t := false) rfl rfl rfl rfl ?_
                refine L_gn (dj := 46) (t := false) rfl rfl rfl rfl ?_
                refine L_gn (dj := 46) (t := false) rfl rfl rfl rfl ?_
                refine L_op rfl (X_pick (t := false) (v := (.bool (false))) rfl rfl ?_)
                refine L_op0 (X_store (b := b3) (o := 0) T4 rfl rfl rfl hB3 (by show (0 : Nat) < 1; decide) ?_)
                intro w67 hu67 hb67
                have hz67 := hu67.size
                replace hB2 := hB2.upd hu67 fun h => by have h : b2 = b3 := h; omega
                replace hU := hU.trans (hu67.mono fun i _ h => by have h : i = b3 := h; show n0 ≤ i; omega)
                replace hD := hD.trans (hu67.mono fun i _ h => by have h : i = b3 := h; show i = b3 ∨ nL + 2 ≤ i; omega)
                replace hB3 : Blk w67 b3 #[(.bool (false))] 4 := hb67
                refine L_nil ?_
                refine T_n ?_
                refine W_seq ?_
                refine W_reg ?_
                refine L_op rfl (X_load (p := (ptr b3 (0))) (v := (.bool (false))) T4 rfl (hB3.at1 rfl) ?_)
                refine L_op rfl (X_not (b := false) (r := true) rfl rfl ?_)
                refine L_nil ?_
                refine T_n ?_
                refine W_ct rfl ?_
                refine W_exit ?_
                refine B_e rfl ?_
                exact RQ_e hD ⟨rfl, hkl, fun h => (by have h1 := hst.1 h; have h2 : 4 ≤ a ∧ a < size := h1.2; omega), hB3, hU⟩
            · refine L_op rfl (X_load (p := (ptr b3 (0))) (v := (.bool (false))) T4 rfl (hB3.at1 rfl) ?_)
              refine L_op rfl (X_move (v := (.bool (false))) rfl ?_)
              refine L_gn (dj := 42) (t := false) rfl rfl rfl rfl ?_
              refine L_gn (dj := 42) (t := false) rfl rfl rfl rfl ?_
              refine L_op rfl (X_pick (t := false) (v := (.bool (false))) rfl rfl ?_)
              refine L_op rfl (X_move (v := (.bool (false))) rfl ?_)
              refine L_gn (dj := 46) (t := false) rfl rfl rfl rfl ?_
              refine L_gn (dj := 46) (t := false) rfl rfl rfl rfl ?_
              refine L_gn (dj := 46) (t := false) rfl rfl rfl rfl ?_
              refine L_op rfl (X_pick (t := false) (v := (.bool (false))) rfl rfl ?_)
              refine L_op0 (X_store (b := b3) (o := 0) T4 rfl rfl rfl hB3 (by show (0 : Nat) < 1; decide) ?_)
              intro w68 hu68 hb68
              have hz68 := hu68.size
              replace hB2 := hB2.upd hu68 fun h => by have h : b2 = b3 := h; omega
              replace hU := hU.trans (hu68.mono fun i _ h => by have h : i = b3 := h; show n0 ≤ i; omega)
              replace hD := hD.trans (hu68.mono fun i _ h => by have h : i = b3 := h; show i = b3 ∨ nL + 2 ≤ i; omega)
              replace hB3 : Blk w68 b3 #[(.bool (false))] 4 := hb68
              refine L_nil ?_
              refine T_n ?_
              refine W_seq ?_
              refine W_reg ?_
              refine L_op rfl (X_load (p := (ptr b3 (0))) (v := (.bool (false))) T4 rfl (hB3.at1 rfl) ?_)
              refine L_op rfl (X_not (b := false) (r := true) rfl rfl ?_)
              refine L_nil ?_
              refine T_n ?_
              refine W_ct rfl ?_
              refine W_exit ?_
              refine B_e rfl ?_
              exact RQ_e hD ⟨rfl, hkl, fun h => (by have h1 := hst.1 h; have h2 := hg.2 h1.1; cases h2), hB3, hU⟩
          · intro W hI_ hd_
            obtain ⟨g, hg, hB3, hB2, hU⟩ := hI_
            rw [addrX_len] at hg
            have hR : g = true ↔ RightP q size := hg.trans accR_all
            have hd : Dfd W nL := by rw [hnL]; exact hd_
            refine B_n ?_
            refine T_n ?_
            refine W_seq ?_
            refine W_reg ?_
            refine L_op rfl (X_load (p := (ptr b3 (0))) (v := (.bool (g))) T4 rfl (hB3.at1 rfl) ?_)
            refine L_op0 (X_storeSame T4 rfl rfl rfl hB3 rfl ?_)
            refine L_nil ?_
            refine T_n ?_
            refine W_ret ?_
            refine S_r ?_
            refine BQ_r (End_m (hnL ▸ hd) fun w9 hu9 => ?_)
            have hB9 := hB3.upd hu9 fun h => by have h : b3 = nL := (by rw [hnL]; exact h); omega
            exact End_1 Tryd.results49 (v := .bool g) (RV_1 T4 rfl (hB9.at1 rfl)) ⟨by rw [show decide (RightP q size) = g from (Bool.eq_iff_iff.2 ((decide_eq_true_iff).trans hR.symm))], (hU.trans (hu9.mono fun i _ h => by have h : i = nL := (by rw [hnL]; exact h); show n0 ≤ i; omega)).own hn0⟩
          · intro k e W hk_ hI_ hd_ he_
            obtain ⟨rfl, hkl, hno, hB3, hU⟩ := hI_
            have hR : false = true ↔ RightP q size := ⟨fun h => (by cases h), fun h => absurd (⟨(accR_all.2 h).1, fun x hx => (accR_all.2 h).2 x (by rw [List.take_length]; exact List.mem_of_mem_take hx)⟩ : accR q size (k + 1)) hno⟩
            have hd : Dfd W nL := by rw [hnL]; exact hd_
            refine B_x ?_
            refine T_n ?_
            refine W_seq ?_
            refine W_reg ?_
            refine L_op rfl (X_load (p := (ptr b3 (0))) (v := (.bool (false))) T4 rfl (hB3.at1 rfl) ?_)
            refine L_op0 (X_storeSame T4 rfl rfl rfl hB3 rfl ?_)
            refine L_nil ?_
            refine T_n ?_
            refine W_ret ?_
            refine S_r ?_
            refine BQ_r (End_m (hnL ▸ hd) fun w9 hu9 => ?_)
            have hB9 := hB3.upd hu9 fun h => by have h : b3 = nL := (by rw [hnL]; exact h); omega
            exact End_1 Tryd.results49 (v := .bool false) (RV_1 T4 rfl (hB9.at1 rfl)) ⟨by rw [show decide (RightP q size) = false from (Bool.eq_iff_iff.2 ((decide_eq_true_iff).trans hR.symm))], (hU.trans (hu9.mono fun i _ h => by have h : i = nL := (by rw [hnL]; exact h); show n0 ≤ i; omega)).own hn0⟩
    · refine L_gy (dj := 9) rfl rfl rfl (X_cmp (k := .u32) (a := q.2.2.2.1) (b := 1073741824) (r := false) rfl rfl rfl (decide_eq_false (p := ((q.2.2.2.1) : Int) ≤ ((1073741824) : Int)) (by omega)) ?_)
      refine L_op rfl (X_pick (t := true) (v := (.bool (false))) rfl rfl ?_)
      refine L_op rfl (X_move (v := (.bool (false))) rfl ?_)
      refine L_gn (dj := 14) (t := false) rfl rfl rfl rfl ?_
      refine L_gn (dj := 14) (t := false) rfl rfl rfl rfl ?_
      refine L_gn (dj := 14) (t := false) rfl rfl rfl rfl ?_
      refine L_gu (dj := 17) rfl rfl rfl ?_
      refine L_gu (dj := 17) rfl rfl rfl ?_
      refine L_gu (dj := 17) rfl rfl rfl ?_
      refine L_gu (dj := 17) rfl rfl rfl ?_
      refine L_gu (dj := 17) rfl rfl rfl ?_
      refine L_gu (dj := 17) rfl rfl rfl ?_
      refine L_gu (dj := 17) rfl rfl rfl ?_
      refine L_gn (dj := 14) (t := false) rfl rfl rfl rfl ?_
      refine L_gn (dj := 14) (t := false) rfl rfl rfl rfl ?_
      refine L_gu (dj := 26) rfl rfl rfl ?_
      refine L_gu (dj := 26) rfl rfl rfl ?_
      refine L_gu (dj := 26) rfl rfl rfl ?_
      refine L_gu (dj := 26) rfl rfl rfl ?_
      refine L_gu (dj := 30) rfl rfl rfl ?_
      refine L_gu (dj := 30) rfl rfl rfl ?_
      refine L_gu (dj := 30) rfl rfl rfl ?_
      refine L_gu (dj := 30) rfl rfl rfl ?_
      refine L_gu (dj := 26) rfl rfl rfl ?_
      refine L_gn (dj := 14) (t := false) rfl rfl rfl rfl ?_
      refine L_op rfl (X_pick (t := false) (v := (.bool (false))) rfl rfl ?_)
      refine L_op0 (X_store (b := b3) (o := 0) T4 rfl rfl rfl hB3 (by show (0 : Nat) < 1; decide) ?_)
      intro w69 hu69 hb69
      have hz69 := hu69.size
      replace hU := hU.trans (hu69.mono fun i _ h => by have h : i = b3 := h; show n0 ≤ i; omega)
      replace hB1 := hB1.upd hu69 fun h => by have h : b1 = b3 := h; omega
      replace hB2 := hB2.upd hu69 fun h => by have h : b2 = b3 := h; omega
      replace hB3 : Blk w69 b3 #[(.bool (false))] 4 := hb69
      refine L_nil ?_
      refine T_n ?_
      refine W_seq ?_
      refine W_label ?_
      refine T_n ?_
      refine W_seq ?_
      refine W_seq ?_
      refine W_reg ?_
      refine L_op rfl (X_loadA (p := (ptr b1 (0))) (xs := ptC q) A41 rfl hB1.atAll rfl ?_)
      obtain ⟨nb, hnb⟩ : ∃ n, n = w69.heap.size := ⟨_, rfl⟩
      refine L_op rfl (X_fn (vs := [(.agg (ptC q).toArray)]) en63 rfl (CT.mono (c_addresses q _) ?_))
      rintro _ w70 ⟨rfl, hK, hu70, hz70⟩
      rw [← hnb] at hK ⊢
      replace hU := hU.trans (Ext.upd hu70)
      replace hB1 := hB1.ext hu70
      replace hB2 := hB2.ext hu70
      replace hB3 := hB3.ext hu70
      refine L_nil ?_
      refine T_n ?_
      refine W_block ?_
      obtain ⟨nL, hnL⟩ : ∃ n, n = w70.heap.size := ⟨_, rfl⟩
      refine W_range (lb := [ptr nb 0]) (xs := (addrX q)) rfl en65 (c_addr1 q nb _ hq hK) (Upd.refl _ _) rfl (fun x hx => by unfold addrX at hx; obtain ⟨y, _, rfl⟩ := List.mem_map.1 hx; rfl) (fun b => b = b3 ∨ nL + 2 ≤ b) (fun b hb_ => ⟨fun h => by have h : b = nb := h; rcases hb_ with h0 | h0 <;> omega, by rcases hb_ with h0 | h0 <;> omega, by rcases hb_ with h0 | h0 <;> omega⟩) (fun b hb_ h => by have h : b = nb := h; omega) (fun b h => h.elim) (fun k W => ∃ g : Bool, (g = true ↔ accR q size k) ∧ Blk W b3 #[.bool g] 4 ∧ Blk W b2 #[.int .i64 size] 3 ∧ Upd (fun i => n0 ≤ i) w W) (fun k e W => e = .exit 0 ∧ k < (addrs q).length ∧ ¬ accR q size (k + 1) ∧ Blk W b3 #[.bool false] 4 ∧ Upd (fun i => n0 ≤ i) w W) (fun k W W2 hI hu => by obtain ⟨g, hg, hB3, hB2, hU⟩ := hI; exact ⟨g, hg, hB3.upd hu fun h => by { rcases h with h | h; (· exact h); (· omega) }, hB2.upd hu fun h => by { rcases h with h | h; (· exact h); (· omega) }, hU.trans (hu.mono fun i _ h => by { rcases h with h | h; (· exact h.elim); (· show n0 ≤ i; omega) })⟩) (fun k e W W2 hI hu => by obtain ⟨he, h1, h2, hB3, hU⟩ := hI; exact ⟨he, h1, h2, hB3.upd hu fun h => by { rcases h with h | h; (· exact h); (· omega) }, hU.trans (hu.mono fun i _ h => by { rcases h with h | h; (· exact h.elim); (· show n0 ≤ i; omega) })⟩) ?_ ?_ ?_ ?_
      · intro W hx_ hs_
        have hH : ¬ HeadP q := by skip; show ¬ ((1 ≤ q.2.2.2.1 ∧ q.2.2.2.1 ≤ 1073741824) ∧ ((q.1 = 1 ∨ q.1 = 2) ∧ q.2.1 ≠ q.2.2.1 ∨ q.1 = 3 ∧ q.2.2.1 = 0)); omega
        exact ⟨false, ⟨fun h => (by cases h), fun h => absurd h.1 hH⟩, hB3.ext hx_, hB2.ext hx_, hU.trans (Ext.upd hx_)⟩
      · intro k x W hk_ hI_ hsz_ hlp_
        obtain ⟨g, hg, hB3, hB2, hU⟩ := hI_
        obtain ⟨a, ha, rfl⟩ := addrX_at hk_
        have hain := addrs_in hq ha
        have hst := accR_step (size := size) ha
        have hkl := (List.getElem?_eq_some_iff.1 ha).1
        have hD := Upd.refl (fun b => b = b3 ∨ nL + 2 ≤ b) W
        refine W_reg ?_
        refine L_op rfl (X_assign (v := (.int .i64 (a))) rfl ?_)
        refine L_nil ?_
        refine T_n ⟨hD, fun W2 hu2_ hlp2_ => ?_⟩
        have hsz2_ := hu2_.size
        replace hB3 := hB3.upd hu2_ fun h => by have h : b3 = nL + 1 := (by rw [hnL]; exact h); omega
        replace hB2 := hB2.upd hu2_ fun h => by have h : b2 = nL + 1 := (by rw [hnL]; exact h); omega
        replace hU := hU.trans (hu2_.mono fun i _ h => by have h : i = nL + 1 := (by rw [hnL]; exact h); show n0 ≤ i; omega)
        have hD := Upd.refl (fun b => b = b3 ∨ nL + 2 ≤ b) W2
        refine W_block ?_
        refine W_seq ?_
        refine W_reg ?_
        rcases Bool.eq_false_or_eq_true g with rfl | rfl
        · refine L_op rfl (X_load (p := (ptr b3 (0))) (v := (.bool (true))) T4 rfl (hB3.at1 rfl) ?_)
          refine L_op rfl (X_move (v := (.bool (true))) rfl ?_)
          refine L_gy (dj := 42) rfl rfl rfl (X_move (v := (.int .i64 (a))) rfl ?_)
          by_cases hc71 : (a : Int) ≥ (4)
          · refine L_gy (dj := 42) rfl rfl rfl (X_cmp (k := .i64) (a := a) (b := 4) (r := true) rfl rfl rfl (decide_eq_true (p := ((4) : Int) ≤ ((a) : Int)) (by omega)) ?_)
            refine L_op rfl (X_pick (t := true) (v := (.bool (true))) rfl rfl ?_)
            refine L_op rfl (X_move (v := (.bool (true))) rfl ?_)
            refine L_gy (dj := 46) rfl rfl rfl (X_move (v := (.int .i64 (a))) rfl ?_)
            refine L_gy (dj := 46) rfl rfl rfl (X_load (p := (ptr b2 (0))) (v := (.int .i64 (size))) T3 rfl (hB2.at1 rfl) ?_)
            by_cases hc72 : (a : Int) < (size)
            · refine L_gy (dj := 46) rfl rfl rfl (X_cmp (k := .i64) (a := a) (b := size) (r := true) rfl rfl rfl (decide_eq_true (p := ((a) : Int) < ((size) : Int)) (by omega)) ?_)
              refine L_op rfl (X_pick (t := true) (v := (.bool (true))) rfl rfl ?_)
              refine L_op0 (X_store (b := b3) (o := 0) T4 rfl rfl rfl hB3 (by show (0 : Nat) < 1; decide) ?_)
              intro w73 hu73 hb73
              have hz73 := hu73.size
              replace hB2 := hB2.upd hu73 fun h => by have h : b2 = b3 := h; omega
              replace hU := hU.trans (hu73.mono fun i _ h => by have h : i = b3 := h; show n0 ≤ i; omega)
              replace hD := hD.trans (hu73.mono fun i _ h => by have h : i = b3 := h; show i = b3 ∨ nL + 2 ≤ i; omega)
              replace hB3 : Blk w73 b3 #[(.bool (true))] 4 := hb73
              refine L_nil ?_
              refine T_n ?_
              refine W_seq ?_
              refine W_reg ?_
              refine L_op rfl (X_load (p := (ptr b3 (0))) (v := (.bool (true))) T4 rfl (hB3.at1 rfl) ?_)
              refine L_op rfl (X_not (b := true) (r := false) rfl rfl ?_)
              refine L_nil ?_
              refine T_n ?_
              refine W_cf rfl ?_
              refine W_skip ?_
              refine B_n ?_
              exact RQ_n hD ⟨true, ⟨fun _ => hst.2 ⟨hg.1 rfl, (by show 4 ≤ a ∧ a < size; omega)⟩, fun _ => rfl⟩, hB3, hB2, hU⟩
            · refine L_gy (dj := 46) rfl rfl rfl (X_cmp (k := .i64) (a := a) (b := size) (r := false) rfl rfl rfl (decide_eq_false (p := ((a) : Int) < ((size) : Int)) (by omega)) ?_)
              refine L_op rfl (X_pick (t := true) (v := (.bool (false))) rfl rfl ?_)
              refine L_op0 (X_store (b := b3) (o := 0) T4 rfl rfl rfl hB3 (by show (0 : Nat) < 1; decide) ?_)
              intro w74 hu74 hb74
              have hz74 := hu74.size
              replace hB2 := hB2.upd hu74 fun h => by have h : b2 = b3 := h; omega
              replace hU := hU.trans (hu74.mono fun i _ h => by have h : i = b3 := h; show n0 ≤ i; omega)
              replace hD := hD.trans (hu74.mono fun i _ h => by have h : i = b3 := h; show i = b3 ∨ nL + 2 ≤ i; omega)
              replace hB3 : Blk w74 b3 #[(.bool (false))] 4 := hb74
              refine L_nil ?_
              refine T_n ?_
              refine W_seq ?_
              refine W_reg ?_
              refine L_op rfl (X_load (p := (ptr b3 (0))) (v := (.bool (false))) T4 rfl (hB3.at1 rfl) ?_)
              refine L_op rfl (X_not (b := false) (r := true) rfl rfl ?_)
              refine L_nil ?_
              refine T_n ?_
              refine W_ct rfl ?_
              refine W_exit ?_
              refine B_e rfl ?_
              exact RQ_e hD ⟨rfl, hkl, fun h => (by have h1 := hst.1 h; have h2 : 4 ≤ a ∧ a < size := h1.2; omega), hB3, hU⟩
          · refine L_gy (dj := 42) rfl rfl rfl (X_cmp (k := .i64) (a := a) (b := 4) (r := false) rfl rfl rfl (decide_eq_false (p := ((4) : Int) ≤ ((a) : Int)) (by omega)) ?_)
            refine L_op rfl (X_pick (t := true) (v := (.bool (false))) rfl rfl ?_)
            refine L_op rfl (X_move (v := (.bool (false))) rfl ?_)
            refine L_gn (dj := 46) (t := false) rfl rfl rfl rfl ?_
            refine L_gn (dj := 46) (t := false) rfl rfl rfl rfl ?_
            refine L_gn (dj := 46) (t := false) rfl rfl rfl rfl ?_
            refine L_op rfl (X_pick (t := false) (v := (.bool (false))) rfl rfl ?_)
            refine L_op0 (X_store (b := b3) (o := 0) T4 rfl rfl rfl hB3 (by show (0 : Nat) < 1; decide) ?_)
            intro w75 hu75 hb75
            have hz75 := hu75.size
            replace hB2 := hB2.upd hu75 fun h => by have h : b2 = b3 := h; omega
            replace hU := hU.trans (hu75.mono fun i _ h => by have h : i = b3 := h; show n0 ≤ i; omega)
            replace hD := hD.trans (hu75.mono fun i _ h => by have h : i = b3 := h; show i = b3 ∨ nL + 2 ≤ i; omega)
            replace hB3 : Blk w75 b3 #[(.bool (false))] 4 := hb75
            refine L_nil ?_
            refine T_n ?_
            refine W_seq ?_
            refine W_reg ?_
            refine L_op rfl (X_load (p := (ptr b3 (0))) (v := (.bool (false))) T4 rfl (hB3.at1 rfl) ?_)
            refine L_op rfl (X_not (b := false) (r := true) rfl rfl ?_)
            refine L_nil ?_
            refine T_n ?_
            refine W_ct rfl ?_
            refine W_exit ?_
            refine B_e rfl ?_
            exact RQ_e hD ⟨rfl, hkl, fun h => (by have h1 := hst.1 h; have h2 : 4 ≤ a ∧ a < size := h1.2; omega), hB3, hU⟩
        · refine L_op rfl (X_load (p := (ptr b3 (0))) (v := (.bool (false))) T4 rfl (hB3.at1 rfl) ?_)
          refine L_op rfl (X_move (v := (.bool (false))) rfl ?_)
          refine L_gn (dj := 42) (t := false) rfl rfl rfl rfl ?_
          refine L_gn (dj := 42) (t := false) rfl rfl rfl rfl ?_
          refine L_op rfl (X_pick (t := false) (v := (.bool (false))) rfl rfl ?_)
          refine L_op rfl (X_move (v := (.bool (false))) rfl ?_)
          refine L_gn (dj := 46) (t := false) rfl rfl rfl rfl ?_
          refine L_gn (dj := 46) (t := false) rfl rfl rfl rfl ?_
          refine L_gn (dj := 46) (t := false) rfl rfl rfl rfl ?_
          refine L_op rfl (X_pick (t := false) (v := (.bool (false))) rfl rfl ?_)
          refine L_op0 (X_store (b := b3) (o := 0) T4 rfl rfl rfl hB3 (by show (0 : Nat) < 1; decide) ?_)
          intro w76 hu76 hb76
          have hz76 := hu76.size
          replace hB2 := hB2.upd hu76 fun h => by have h : b2 = b3 := h; omega
          replace hU := hU.trans (hu76.mono fun i _ h => by have h : i = b3 := h; show n0 ≤ i; omega)
          replace hD := hD.trans (hu76.mono fun i _ h => by have h : i = b3 := h; show i = b3 ∨ nL + 2 ≤ i; omega)
          replace hB3 : Blk w76 b3 #[(.bool (false))] 4 := hb76
          refine L_nil ?_
          refine T_n ?_
          refine W_seq ?_
          refine W_reg ?_
          refine L_op rfl (X_load (p := (ptr b3 (0))) (v := (.bool (false))) T4 rfl (hB3.at1 rfl) ?_)
          refine L_op rfl (X_not (b := false) (r := true) rfl rfl ?_)
          refine L_nil ?_
          refine T_n ?_
          refine W_ct rfl ?_
          refine W_exit ?_
          refine B_e rfl ?_
          exact RQ_e hD ⟨rfl, hkl, fun h => (by have h1 := hst.1 h; have h2 := hg.2 h1.1; cases h2), hB3, hU⟩
      · intro W hI_ hd_
        obtain ⟨g, hg, hB3, hB2, hU⟩ := hI_
        rw [addrX_len] at hg
        have hR : g = true ↔ RightP q size := hg.trans accR_all
        have hd : Dfd W nL := by rw [hnL]; exact hd_
        refine B_n ?_
        refine T_n ?_
        refine W_seq ?_
        refine W_reg ?_
        refine L_op rfl (X_load (p := (ptr b3 (0))) (v := (.bool (g))) T4 rfl (hB3.at1 rfl) ?_)
        refine L_op0 (X_storeSame T4 rfl rfl rfl hB3 rfl ?_)
        refine L_nil ?_
        refine T_n ?_
        refine W_ret ?_
        refine S_r ?_
        refine BQ_r (End_m (hnL ▸ hd) fun w9 hu9 => ?_)
        have hB9 := hB3.upd hu9 fun h => by have h : b3 = nL := (by rw [hnL]; exact h); omega
        exact End_1 Tryd.results49 (v := .bool g) (RV_1 T4 rfl (hB9.at1 rfl)) ⟨by rw [show decide (RightP q size) = g from (Bool.eq_iff_iff.2 ((decide_eq_true_iff).trans hR.symm))], (hU.trans (hu9.mono fun i _ h => by have h : i = nL := (by rw [hnL]; exact h); show n0 ≤ i; omega)).own hn0⟩
      · intro k e W hk_ hI_ hd_ he_
        obtain ⟨rfl, hkl, hno, hB3, hU⟩ := hI_
        have hR : false = true ↔ RightP q size := ⟨fun h => (by cases h), fun h => absurd (⟨(accR_all.2 h).1, fun x hx => (accR_all.2 h).2 x (by rw [List.take_length]; exact List.mem_of_mem_take hx)⟩ : accR q size (k + 1)) hno⟩
        have hd : Dfd W nL := by rw [hnL]; exact hd_
        refine B_x ?_
        refine T_n ?_
        refine W_seq ?_
        refine W_reg ?_
        refine L_op rfl (X_load (p := (ptr b3 (0))) (v := (.bool (false))) T4 rfl (hB3.at1 rfl) ?_)
        refine L_op0 (X_storeSame T4 rfl rfl rfl hB3 rfl ?_)
        refine L_nil ?_
        refine T_n ?_
        refine W_ret ?_
        refine S_r ?_
        refine BQ_r (End_m (hnL ▸ hd) fun w9 hu9 => ?_)
        have hB9 := hB3.upd hu9 fun h => by have h : b3 = nL := (by rw [hnL]; exact h); omega
        exact End_1 Tryd.results49 (v := .bool false) (RV_1 T4 rfl (hB9.at1 rfl)) ⟨by rw [show decide (RightP q size) = false from (Bool.eq_iff_iff.2 ((decide_eq_true_iff).trans hR.symm))], (hU.trans (hu9.mono fun i _ h => by have h : i = nL := (by rw [hnL]; exact h); show n0 ≤ i; omega)).own hn0⟩
  · refine L_op rfl (X_cmp (k := .u32) (a := q.2.2.2.1) (b := 1) (r := false) rfl rfl rfl (decide_eq_false (p := ((1) : Int) ≤ ((q.2.2.2.1) : Int)) (by omega)) ?_)
    refine L_op rfl (X_move (v := (.bool (false))) rfl ?_)
    refine L_gn (dj := 9) (t := false) rfl rfl rfl rfl ?_
    refine L_gn (dj := 9) (t := false) rfl rfl rfl rfl ?_
    refine L_gn (dj := 9) (t := false) rfl rfl rfl rfl ?_
    refine L_op rfl (X_pick (t := false) (v := (.bool (false))) rfl rfl ?_)
    refine L_op rfl (X_move (v := (.bool (false))) rfl ?_)
    refine L_gn (dj := 14) (t := false) rfl rfl rfl rfl ?_
    refine L_gn (dj := 14) (t := false) rfl rfl rfl rfl ?_
    refine L_gn (dj := 14) (t := false) rfl rfl rfl rfl ?_
    refine L_gu (dj := 17) rfl rfl rfl ?_
    refine L_gu (dj := 17) rfl rfl rfl ?_
    refine L_gu (dj := 17) rfl rfl rfl ?_
    refine L_gu (dj := 17) rfl rfl rfl ?_
    refine L_gu (dj := 17) rfl rfl rfl ?_
    refine L_gu (dj := 17) rfl rfl rfl ?_
    refine L_gu (dj := 17) rfl rfl rfl ?_
    refine L_gn (dj := 14) (t := false) rfl rfl rfl rfl ?_
    refine L_gn (dj := 14) (t := false) rfl rfl rfl rfl ?_
    refine L_gu (dj := 26) rfl rfl rfl ?_
    refine L_gu (dj := 26) rfl rfl rfl ?_
    refine L_gu (dj := 26) rfl rfl rfl ?_
    refine L_gu (dj := 26) rfl rfl rfl ?_
    refine L_gu (dj := 30) rfl rfl rfl ?_
    refine L_gu (dj := 30) rfl rfl rfl ?_
    refine L_gu (dj := 30) rfl rfl rfl ?_
    refine L_gu (dj := 30) rfl rfl rfl ?_
    refine L_gu (dj := 26) rfl rfl rfl ?_
    refine L_gn (dj := 14) (t := false) rfl rfl rfl rfl ?_
    refine L_op rfl (X_pick (t := false) (v := (.bool (false))) rfl rfl ?_)
    refine L_op0 (X_store (b := b3) (o := 0) T4 rfl rfl rfl hB3 (by show (0 : Nat) < 1; decide) ?_)
    intro w77 hu77 hb77
    have hz77 := hu77.size
    replace hU := hU.trans (hu77.mono fun i _ h => by have h : i = b3 := h; show n0 ≤ i; omega)
    replace hB1 := hB1.upd hu77 fun h => by have h : b1 = b3 := h; omega
    replace hB2 := hB2.upd hu77 fun h => by have h : b2 = b3 := h; omega
    replace hB3 : Blk w77 b3 #[(.bool (false))] 4 := hb77
    refine L_nil ?_
    refine T_n ?_
    refine W_seq ?_
    refine W_label ?_
    refine T_n ?_
    refine W_seq ?_
    refine W_seq ?_
    refine W_reg ?_
    refine L_op rfl (X_loadA (p := (ptr b1 (0))) (xs := ptC q) A41 rfl hB1.atAll rfl ?_)
    obtain ⟨nb, hnb⟩ : ∃ n, n = w77.heap.size := ⟨_, rfl⟩
    refine L_op rfl (X_fn (vs := [(.agg (ptC q).toArray)]) en63 rfl (CT.mono (c_addresses q _) ?_))
    rintro _ w78 ⟨rfl, hK, hu78, hz78⟩
    rw [← hnb] at hK ⊢
    replace hU := hU.trans (Ext.upd hu78)
    replace hB1 := hB1.ext hu78
    replace hB2 := hB2.ext hu78
    replace hB3 := hB3.ext hu78
    refine L_nil ?_
    refine T_n ?_
    refine W_block ?_
    obtain ⟨nL, hnL⟩ : ∃ n, n = w78.heap.size := ⟨_, rfl⟩
    refine W_range (lb := [ptr nb 0]) (xs := (addrX q)) rfl en65 (c_addr1 q nb _ hq hK) (Upd.refl _ _) rfl (fun x hx => by unfold addrX at hx; obtain ⟨y, _, rfl⟩ := List.mem_map.1 hx; rfl) (fun b => b = b3 ∨ nL + 2 ≤ b) (fun b hb_ => ⟨fun h => by have h : b = nb := h; rcases hb_ with h0 | h0 <;> omega, by rcases hb_ with h0 | h0 <;> omega, by rcases hb_ with h0 | h0 <;> omega⟩) (fun b hb_ h => by have h : b = nb := h; omega) (fun b h => h.elim) (fun k W => ∃ g : Bool, (g = true ↔ accR q size k) ∧ Blk W b3 #[.bool g] 4 ∧ Blk W b2 #[.int .i64 size] 3 ∧ Upd (fun i => n0 ≤ i) w W) (fun k e W => e = .exit 0 ∧ k < (addrs q).length ∧ ¬ accR q size (k + 1) ∧ Blk W b3 #[.bool false] 4 ∧ Upd (fun i => n0 ≤ i) w W) (fun k W W2 hI hu => by obtain ⟨g, hg, hB3, hB2, hU⟩ := hI; exact ⟨g, hg, hB3.upd hu fun h => by { rcases h with h | h; (· exact h); (· omega) }, hB2.upd hu fun h => by { rcases h with h | h; (· exact h); (· omega) }, hU.trans (hu.mono fun i _ h => by { rcases h with h | h; (· exact h.elim); (· show n0 ≤ i; omega) })⟩) (fun k e W W2 hI hu => by obtain ⟨he, h1, h2, hB3, hU⟩ := hI; exact ⟨he, h1, h2, hB3.upd hu fun h => by { rcases h with h | h; (· exact h); (· omega) }, hU.trans (hu.mono fun i _ h => by { rcases h with h | h; (· exact h.elim); (· show n0 ≤ i; omega) })⟩) ?_ ?_ ?_ ?_
    · intro W hx_ hs_
      have hH : ¬ HeadP q := by skip; show ¬ ((1 ≤ q.2.2.2.1 ∧ q.2.2.2.1 ≤ 1073741824) ∧ ((q.1 = 1 ∨ q.1 = 2) ∧ q.2.1 ≠ q.2.2.1 ∨ q.1 = 3 ∧ q.2.2.1 = 0)); omega
      exact ⟨false, ⟨fun h => (by cases h), fun h => absurd h.1 hH⟩, hB3.ext hx_, hB2.ext hx_, hU.trans (Ext.upd hx_)⟩
    · intro k x W hk_ hI_ hsz_ hlp_
      obtain ⟨g, hg, hB3, hB2, hU⟩ := hI_
      obtain ⟨a, ha, rfl⟩ := addrX_at hk_
      have hain := addrs_in hq ha
      have hst := accR_step (size := size) ha
      have hkl := (List.getElem?_eq_some_iff.1 ha).1
      have hD := Upd.refl (fun b => b = b3 ∨ nL + 2 ≤ b) W
      refine W_reg ?_
      refine L_op rfl (X_assign (v := (.int .i64 (a))) rfl ?_)
      refine L_nil ?_
      refine T_n ⟨hD, fun W2 hu2_ hlp2_ => ?_⟩
      have hsz2_ := hu2_.size
      replace hB3 := hB3.upd hu2_ fun h => by have h : b3 = nL + 1 := (by rw [hnL]; exact h); omega
      replace hB2 := hB2.upd hu2_ fun h => by have h : b2 = nL + 1 := (by rw [hnL]; exact h); omega
      replace hU := hU.trans (hu2_.mono fun i _ h => by have h : i = nL + 1 := (by rw [hnL]; exact h); show n0 ≤ i; omega)
      have hD := Upd.refl (fun b => b = b3 ∨ nL + 2 ≤ b) W2
      refine W_block ?_
      refine W_seq ?_
      refine W_reg ?_
      rcases Bool.eq_false_or_eq_true g with rfl | rfl
      · refine L_op rfl (X_load (p := (ptr b3 (0))) (v := (.bool (true))) T4 rfl (hB3.at1 rfl) ?_)
        refine L_op rfl (X_move (v := (.bool (true))) rfl ?_)
        refine L_gy (dj := 42) rfl rfl rfl (X_move (v := (.int .i64 (a))) rfl ?_)
        by_cases hc79 : (a : Int) ≥ (4)
        · refine L_gy (dj := 42) rfl rfl rfl (X_cmp (k := .i64) (a := a) (b := 4) (r := true) rfl rfl rfl (decide_eq_true (p := ((4) : Int) ≤ ((a) : Int)) (by omega)) ?_)
          refine L_op rfl (X_pick (t := true) (v := (.bool (true))) rfl rfl ?_)
          refine L_op rfl (X_move (v := (.bool (true))) rfl ?_)
          refine L_gy (dj := 46) rfl rfl rfl (X_move (v := (.int .i64 (a))) rfl ?_)
          refine L_gy (dj := 46) rfl rfl rfl (X_load (p := (ptr b2 (0))) (v := (.int .i64 (size))) T3 rfl (hB2.at1 rfl) ?_)
          by_cases hc80 : (a : Int) < (size)
          · refine L_gy (dj := 46) rfl rfl rfl (X_cmp (k := .i64) (a := a) (b := size) (r := true) rfl rfl rfl (decide_eq_true (p := ((a) : Int) < ((size) : Int)) (by omega)) ?_)
            refine L_op rfl (X_pick (t := true) (v := (.bool (true))) rfl rfl ?_)
            refine L_op0 (X_store (b := b3) (o := 0) T4 rfl rfl rfl hB3 (by show (0 : Nat) < 1; decide) ?_)
            intro w81 hu81 hb81
            have hz81 := hu81.size
            replace hB2 := hB2.upd hu81 fun h => by have h : b2 = b3 := h; omega
            replace hU := hU.trans (hu81.mono fun i _ h => by have h : i = b3 := h; show n0 ≤ i; omega)
            replace hD := hD.trans (hu81.mono fun i _ h => by have h : i = b3 := h; show i = b3 ∨ nL + 2 ≤ i; omega)
            replace hB3 : Blk w81 b3 #[(.bool (true))] 4 := hb81
            refine L_nil ?_
            refine T_n ?_
            refine W_seq ?_
            refine W_reg ?_
            refine L_op rfl (X_load (p := (ptr b3 (0))) (v := (.bool (true))) T4 rfl (hB3.at1 rfl) ?_)
            refine L_op rfl (X_not (b := true) (r := false) rfl rfl ?_)
            refine L_nil ?_
            refine T_n ?_
            refine W_cf rfl ?_
            refine W_skip ?_
            refine B_n ?_
            exact RQ_n hD ⟨true, ⟨fun _ => hst.2 ⟨hg.1 rfl, (by show 4 ≤ a ∧ a < size; omega)⟩, fun _ => rfl⟩, hB3, hB2, hU⟩
          · refine L_gy (dj := 46) rfl rfl rfl (X_cmp (k := .i64) (a := a) (b := size) (r := false) rfl rfl rfl (decide_eq_false (p := ((a) : Int) < ((size) : Int)) (by omega)) ?_)
            refine L_op rfl (X_pick (t := true) (v := (.bool (false))) rfl rfl ?_)
            refine L_op0 (X_store (b := b3) (o := 0) T4 rfl rfl rfl hB3 (by show (0 : Nat) < 1; decide) ?_)
            intro w82 hu82 hb82
            have hz82 := hu82.size
            replace hB2 := hB2.upd hu82 fun h => by have h : b2 = b3 := h; omega
            replace hU := hU.trans (hu82.mono fun i _ h => by have h : i = b3 := h; show n0 ≤ i; omega)
            replace hD := hD.trans (hu82.mono fun i _ h => by have h : i = b3 := h; show i = b3 ∨ nL + 2 ≤ i; omega)
            replace hB3 : Blk w82 b3 #[(.bool (false))] 4 := hb82
            refine L_nil ?_
            refine T_n ?_
            refine W_seq ?_
            refine W_reg ?_
            refine L_op rfl (X_load (p := (ptr b3 (0))) (v := (.bool (false))) T4 rfl (hB3.at1 rfl) ?_)
            refine L_op rfl (X_not (b := false) (r := true) rfl rfl ?_)
            refine L_nil ?_
            refine T_n ?_
            refine W_ct rfl ?_
            refine W_exit ?_
            refine B_e rfl ?_
            exact RQ_e hD ⟨rfl, hkl, fun h => (by have h1 := hst.1 h; have h2 : 4 ≤ a ∧ a < size := h1.2; omega), hB3, hU⟩
        · refine L_gy (dj := 42) rfl rfl rfl (X_cmp (k := .i64) (a := a) (b := 4) (r := false) rfl rfl rfl (decide_eq_false (p := ((4) : Int) ≤ ((a) : Int)) (by omega)) ?_)
          refine L_op rfl (X_pick (t := true) (v := (.bool (false))) rfl rfl ?_)
          refine L_op rfl (X_move (v := (.bool (false))) rfl ?_)
          refine L_gn (dj := 46) (t := false) rfl rfl rfl rfl ?_
          refine L_gn (dj := 46) (t := false) rfl rfl rfl rfl ?_
          refine L_gn (dj := 46) (t := false) rfl rfl rfl rfl ?_
          refine L_op rfl (X_pick (t := false) (v := (.bool (false))) rfl rfl ?_)
          refine L_op0 (X_store (b := b3) (o := 0) T4 rfl rfl rfl hB3 (by show (0 : Nat) < 1; decide) ?_)
          intro w83 hu83 hb83
          have hz83 := hu83.size
          replace hB2 := hB2.upd hu83 fun h => by have h : b2 = b3 := h; omega
          replace hU := hU.trans (hu83.mono fun i _ h => by have h : i = b3 := h; show n0 ≤ i; omega)
          replace hD := hD.trans (hu83.mono fun i _ h => by have h : i = b3 := h; show i = b3 ∨ nL + 2 ≤ i; omega)
          replace hB3 : Blk w83 b3 #[(.bool (false))] 4 := hb83
          refine L_nil ?_
          refine T_n ?_
          refine W_seq ?_
          refine W_reg ?_
          refine L_op rfl (X_load (p := (ptr b3 (0))) (v := (.bool (false))) T4 rfl (hB3.at1 rfl) ?_)
          refine L_op rfl (X_not (b := false) (r := true) rfl rfl ?_)
          refine L_nil ?_
          refine T_n ?_
          refine W_ct rfl ?_
          refine W_exit ?_
          refine B_e rfl ?_
          exact RQ_e hD ⟨rfl, hkl, fun h => (by have h1 := hst.1 h; have h2 : 4 ≤ a ∧ a < size := h1.2; omega), hB3, hU⟩
      · refine L_op rfl (X_load (p := (ptr b3 (0))) (v := (.bool (false))) T4 rfl (hB3.at1 rfl) ?_)
        refine L_op rfl (X_move (v := (.bool (false))) rfl ?_)
        refine L_gn (dj := 42) (t := false) rfl rfl rfl rfl ?_
        refine L_gn (dj := 42) (t := false) rfl rfl rfl rfl ?_
        refine L_op rfl (X_pick (t := false) (v := (.bool (false))) rfl rfl ?_)
        refine L_op rfl (X_move (v := (.bool (false))) rfl ?_)
        refine L_gn (dj := 46) (t := false) rfl rfl rfl rfl ?_
        refine L_gn (dj := 46) (t := false) rfl rfl rfl rfl ?_
        refine L_gn (dj := 46) (t := false) rfl rfl rfl rfl ?_
        refine L_op rfl (X_pick (t := false) (v := (.bool (false))) rfl rfl ?_)
        refine L_op0 (X_store (b := b3) (o := 0) T4 rfl rfl rfl hB3 (by show (0 : Nat) < 1; decide) ?_)
        intro w84 hu84 hb84
        have hz84 := hu84.size
        replace hB2 := hB2.upd hu84 fun h => by have h : b2 = b3 := h; omega
        replace hU := hU.trans (hu84.mono fun i _ h => by have h : i = b3 := h; show n0 ≤ i; omega)
        replace hD := hD.trans (hu84.mono fun i _ h => by have h : i = b3 := h; show i = b3 ∨ nL + 2 ≤ i; omega)
        replace hB3 : Blk w84 b3 #[(.bool (false))] 4 := hb84
        refine L_nil ?_
        refine T_n ?_
        refine W_seq ?_
        refine W_reg ?_
        refine L_op rfl (X_load (p := (ptr b3 (0))) (v := (.bool (false))) T4 rfl (hB3.at1 rfl) ?_)
        refine L_op rfl (X_not (b := false) (r := true) rfl rfl ?_)
        refine L_nil ?_
        refine T_n ?_
        refine W_ct rfl ?_
        refine W_exit ?_
        refine B_e rfl ?_
        exact RQ_e hD ⟨rfl, hkl, fun h => (by have h1 := hst.1 h; have h2 := hg.2 h1.1; cases h2), hB3, hU⟩
    · intro W hI_ hd_
      obtain ⟨g, hg, hB3, hB2, hU⟩ := hI_
      rw [addrX_len] at hg
      have hR : g = true ↔ RightP q size := hg.trans accR_all
      have hd : Dfd W nL := by rw [hnL]; exact hd_
      refine B_n ?_
      refine T_n ?_
      refine W_seq ?_
      refine W_reg ?_
      refine L_op rfl (X_load (p := (ptr b3 (0))) (v := (.bool (g))) T4 rfl (hB3.at1 rfl) ?_)
      refine L_op0 (X_storeSame T4 rfl rfl rfl hB3 rfl ?_)
      refine L_nil ?_
      refine T_n ?_
      refine W_ret ?_
      refine S_r ?_
      refine BQ_r (End_m (hnL ▸ hd) fun w9 hu9 => ?_)
      have hB9 := hB3.upd hu9 fun h => by have h : b3 = nL := (by rw [hnL]; exact h); omega
      exact End_1 Tryd.results49 (v := .bool g) (RV_1 T4 rfl (hB9.at1 rfl)) ⟨by rw [show decide (RightP q size) = g from (Bool.eq_iff_iff.2 ((decide_eq_true_iff).trans hR.symm))], (hU.trans (hu9.mono fun i _ h => by have h : i = nL := (by rw [hnL]; exact h); show n0 ≤ i; omega)).own hn0⟩
    · intro k e W hk_ hI_ hd_ he_
      obtain ⟨rfl, hkl, hno, hB3, hU⟩ := hI_
      have hR : false = true ↔ RightP q size := ⟨fun h => (by cases h), fun h => absurd (⟨(accR_all.2 h).1, fun x hx => (accR_all.2 h).2 x (by rw [List.take_length]; exact List.mem_of_mem_take hx)⟩ : accR q size (k + 1)) hno⟩
      have hd : Dfd W nL := by rw [hnL]; exact hd_
      refine B_x ?_
      refine T_n ?_
      refine W_seq ?_
      refine W_reg ?_
      refine L_op rfl (X_load (p := (ptr b3 (0))) (v := (.bool (false))) T4 rfl (hB3.at1 rfl) ?_)
      refine L_op0 (X_storeSame T4 rfl rfl rfl hB3 rfl ?_)
      refine L_nil ?_
      refine T_n ?_
      refine W_ret ?_
      refine S_r ?_
      refine BQ_r (End_m (hnL ▸ hd) fun w9 hu9 => ?_)
      have hB9 := hB3.upd hu9 fun h => by have h : b3 = nL := (by rw [hnL]; exact h); omega
      exact End_1 Tryd.results49 (v := .bool false) (RV_1 T4 rfl (hB9.at1 rfl)) ⟨by rw [show decide (RightP q size) = false from (Bool.eq_iff_iff.2 ((decide_eq_true_iff).trans hR.symm))], (hU.trans (hu9.mono fun i _ h => by have h : i = nL := (by rw [hnL]; exact h); show n0 ≤ i; omega)).own hn0⟩
end Go.Proofs.YtmddmghgkkjbiaaDoor
