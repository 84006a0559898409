/-
  The contracts of pointers. (Printed by wip/gen/t08c.py of this repo.)
-/
import Derived.Test.YtmggaahkfidfaaaDoorPackB
namespace Go.Proofs.YtmggaahkfidfaaaDoor
open Go Go.SL Go.Proofs
set_option linter.unusedVariables false

/-- the numbers of a pointer are of their kinds -/
def PtOk (q : Pt) : Prop := (0 ≤ q.1 ∧ q.1 < 256) ∧ (0 ≤ q.2.1 ∧ q.2.1 < 65536) ∧ (0 ≤ q.2.2.1 ∧ q.2.2.1 < 65536) ∧ (0 ≤ q.2.2.2.1 ∧ q.2.2.2.1 < 4294967296) ∧ (0 ≤ q.2.2.2.2 ∧ q.2.2.2.2 < 18446744073709551616)
abbrev MetaP (q : Pt) : Prop := q.1 = 1 ∨ q.1 = 2
abbrev PlaceP (n : Int) (size : Int) : Prop := 4 ≤ n ∧ n < size
abbrev HeadP (q : Pt) : Prop := (1 ≤ q.2.2.2.1 ∧ q.2.2.2.1 ≤ 1073741824) ∧ (MetaP q ∧ q.2.1 ≠ q.2.2.1 ∨ q.1 = 3 ∧ q.2.2.1 = 0)
/-- a pointer's addresses -/
def addrs (q : Pt) : List Int := if MetaP q then [q.2.1, q.2.2.1] else if q.1 = 3 then [q.2.1] else []
abbrev RightP (q : Pt) (size : Int) : Prop := HeadP q ∧ PlaceP q.2.1 size ∧ (MetaP q → PlaceP q.2.2.1 size)
def addrX (q : Pt) : List (List Value) := (addrs q).map fun a => [.int .i64 a]
theorem addrs_meta {q : Pt} (h : MetaP q) : addrs q = [q.2.1, q.2.2.1] := if_pos h
theorem addrs_chain {q : Pt} (h : ¬ MetaP q) (h3 : q.1 = 3) : addrs q = [q.2.1] := (if_neg h).trans (if_pos h3)
theorem addrs_none {q : Pt} (h : ¬ MetaP q) (h3 : q.1 ≠ 3) : addrs q = [] := (if_neg h).trans (if_neg h3)
def accR (q : Pt) (size : Int) (k : Nat) : Prop := HeadP q ∧ ∀ x ∈ (addrs q).take k, PlaceP x size
theorem accR_step {q : Pt} {size : Int} {k : Nat} {a : Int} (h : (addrs q)[k]? = some a) : accR q size (k + 1) ↔ accR q size k ∧ PlaceP a size := by
  unfold accR
  rw [List.take_add_one, h]
  simp only [List.mem_append, Option.toList_some, List.mem_singleton]
  constructor
  · rintro ⟨h1, h2⟩
    exact ⟨⟨h1, fun x hx => h2 x (.inl hx)⟩, h2 a (.inr rfl)⟩
  · rintro ⟨⟨h1, h2⟩, h3⟩
    exact ⟨h1, fun x hx => hx.elim (h2 x) fun e => by rw [e]; exact h3⟩
theorem accR_all {q : Pt} {size : Int} : accR q size (addrs q).length ↔ RightP q size := by
  unfold accR
  rw [List.take_length]
  by_cases hm : MetaP q
  · rw [addrs_meta hm]
    simp only [List.mem_cons, List.not_mem_nil, or_false, forall_eq_or_imp, forall_eq]
    exact ⟨fun ⟨h1, h2, h3⟩ => ⟨h1, h2, fun _ => h3⟩, fun ⟨h1, h2, h3⟩ => ⟨h1, h2, h3 hm⟩⟩
  · by_cases h3 : q.1 = 3
    · rw [addrs_chain hm h3]
      simp only [List.mem_singleton, forall_eq]
      exact ⟨fun ⟨h1, h2⟩ => ⟨h1, h2, fun h => absurd h hm⟩, fun ⟨h1, h2, _⟩ => ⟨h1, h2⟩⟩
    · exact ⟨fun ⟨h1, _⟩ => by rcases h1.2 with h | h <;> omega, fun ⟨h1, _⟩ => by rcases h1.2 with h | h <;> omega⟩
theorem addrX_len (q : Pt) : (addrX q).length = (addrs q).length := by unfold addrX; rw [List.length_map]
theorem addrX_at {q : Pt} {k : Nat} {x : List Value} (h : (addrX q)[k]? = some x) : ∃ a, (addrs q)[k]? = some a ∧ x = [.int .i64 a] := by
  unfold addrX at h
  rw [List.getElem?_map] at h
  cases ha : (addrs q)[k]? with
  | none => rw [ha] at h; cases h
  | some a => rw [ha] at h; cases h; exact ⟨a, rfl, rfl⟩
theorem addrs_in {q : Pt} (hq : PtOk q) {k : Nat} {a : Int} (h : (addrs q)[k]? = some a) : 0 ≤ a ∧ a < 65536 := by
  have hm := List.mem_of_getElem? h
  obtain ⟨_, h1, h2, _⟩ := hq
  unfold addrs at hm
  split at hm
  · simp only [List.mem_cons, List.not_mem_nil, or_false] at hm
    omega
  · split at hm
    · simp only [List.mem_singleton] at hm; omega
    · cases hm
theorem wrap_i64 {a : Int} (h0 : 0 ≤ a) (h1 : a < 9223372036854775808) : IntKind.i64.wrap a = a := by
  have e : (2 : Int) ^ 64 = 18446744073709551616 := by decide
  have e2 : (2 : Int) ^ 63 = 9223372036854775808 := by decide
  simp only [IntKind.wrap, IntKind.signed, IntKind.bits, Nat.reduceSub, e, e2, Bool.true_and]
  rw [show a % 18446744073709551616 = a by omega, if_neg (by simp only [decide_eq_true_eq]; omega)]
theorem wrap_u64 {a : Int} (h0 : 0 ≤ a) (h1 : a < 18446744073709551616) : IntKind.u64.wrap a = a := by
  have e : (2 : Int) ^ 64 = 18446744073709551616 := by decide
  simp only [IntKind.wrap, IntKind.signed, IntKind.bits, e, Bool.false_and, Bool.false_eq_true, if_false]
  omega
theorem u28 : Tryd.prog.underlying 28 = some (.struct (Tryd.prog.fieldsOf 28)) := by kernel_rfl

theorem c_meta (q : Pt) (w : World) : CT Tryd.prog 33 #[(.agg (ptC q).toArray)] w fun v w' => v = .bool (decide (MetaP q)) ∧ Ext w w' := by
  obtain ⟨n0, hn0⟩ : ∃ n, n = w.heap.size := ⟨_, rfl⟩
  have hU : Upd (fun i => n0 ≤ i) w w := Upd.refl _ _
  refine CT_of Tryd.func33 rfl rfl rfl ?_
  refine W_seq ?_
  refine W_reg ?_
  refine L_op rfl (X_box (v := (.agg (ptC q).toArray)) (c := ((ptC q)).toArray) rfl rfl ?_)
  intro b1 w1 hn1
  have hbn1 := hn1.num; have hbs1 := hn1.size
  replace hU := hU.trans (Ext.upd hn1.ext)
  have hB1 := hn1.blk
  refine L_op rfl (X_assign (v := (.bool (false))) rfl ?_)
  refine L_nil ?_
  refine T_n ?_
  refine W_seq ?_
  refine W_reg ?_
  refine L_op rfl (X_fldP (b := b1) (o := 0) (r := 0) Fd28_0 rfl rfl ?_)
  refine L_op rfl (X_load (p := (ptr b1 (0))) (v := (.int .u8 (q.1))) T5 rfl (hB1.at1 rfl) ?_)
  by_cases hc2 : (q.1 : Int) = (1)
  · refine L_op rfl (X_cmp (k := .u8) (a := q.1) (b := 1) (r := true) rfl rfl rfl (decide_eq_true (p := ((q.1) : Int) = ((1) : Int)) (by omega)) ?_)
    refine L_op rfl (X_move (v := (.bool (true))) rfl ?_)
    refine L_gn (dj := 6) (t := true) rfl rfl rfl rfl ?_
    refine L_gn (dj := 6) (t := true) rfl rfl rfl rfl ?_
    refine L_gn (dj := 6) (t := true) rfl rfl rfl rfl ?_
    refine L_op rfl (X_pick (t := true) (v := (.bool (true))) rfl rfl ?_)
    refine L_op rfl (X_assign (v := (.bool (true))) rfl ?_)
    refine L_nil ?_
    refine T_n ?_
    refine W_ret ?_
    exact BQ_r (End_1 Tryd.results33 (v := .bool true) rfl ⟨by rw [decide_eq_true (p := MetaP q) (by unfold MetaP; omega)], hU.own hn0⟩)
  · refine L_op rfl (X_cmp (k := .u8) (a := q.1) (b := 1) (r := false) rfl rfl rfl (decide_eq_false (p := ((q.1) : Int) = ((1) : Int)) (by omega)) ?_)
    refine L_op rfl (X_move (v := (.bool (false))) rfl ?_)
    refine L_gy (dj := 6) rfl rfl rfl (X_fldP (b := b1) (o := 0) (r := 0) Fd28_0 rfl rfl ?_)
    refine L_gy (dj := 6) rfl rfl rfl (X_load (p := (ptr b1 (0))) (v := (.int .u8 (q.1))) T5 rfl (hB1.at1 rfl) ?_)
    by_cases hc3 : (q.1 : Int) = (2)
    · refine L_gy (dj := 6) rfl rfl rfl (X_cmp (k := .u8) (a := q.1) (b := 2) (r := true) rfl rfl rfl (decide_eq_true (p := ((q.1) : Int) = ((2) : Int)) (by omega)) ?_)
      refine L_op rfl (X_pick (t := false) (v := (.bool (true))) rfl rfl ?_)
      refine L_op rfl (X_assign (v := (.bool (true))) rfl ?_)
      refine L_nil ?_
      refine T_n ?_
      refine W_ret ?_
      exact BQ_r (End_1 Tryd.results33 (v := .bool true) rfl ⟨by rw [decide_eq_true (p := MetaP q) (by unfold MetaP; omega)], hU.own hn0⟩)
    · refine L_gy (dj := 6) rfl rfl rfl (X_cmp (k := .u8) (a := q.1) (b := 2) (r := false) rfl rfl rfl (decide_eq_false (p := ((q.1) : Int) = ((2) : Int)) (by omega)) ?_)
      refine L_op rfl (X_pick (t := false) (v := (.bool (false))) rfl rfl ?_)
      refine L_op rfl (X_assign (v := (.bool (false))) rfl ?_)
      refine L_nil ?_
      refine T_n ?_
      refine W_ret ?_
      exact BQ_r (End_1 Tryd.results33 (v := .bool false) rfl ⟨by rw [decide_eq_false (p := MetaP q) (by unfold MetaP; omega)], hU.own hn0⟩)

theorem c_metaR (q : Pt) (w : World) : CT Tryd.prog 22 #[(.agg (ptC q).toArray)] w fun v w' => v = .bool (decide (MetaP q)) ∧ Ext w w' := by
  obtain ⟨n0, hn0⟩ : ∃ n, n = w.heap.size := ⟨_, rfl⟩
  have hU : Upd (fun i => n0 ≤ i) w w := Upd.refl _ _
  refine CT_of Tryd.func22 rfl rfl rfl ?_
  refine W_seq ?_
  refine W_reg ?_
  refine L_op rfl (X_box (v := (.agg (ptC q).toArray)) (c := ((ptC q)).toArray) rfl rfl ?_)
  intro b1 w1 hn1
  have hbn1 := hn1.num; have hbs1 := hn1.size
  replace hU := hU.trans (Ext.upd hn1.ext)
  have hB1 := hn1.blk
  refine L_op rfl (X_assign (v := (.bool (false))) rfl ?_)
  refine L_nil ?_
  refine T_n ?_
  refine W_seq ?_
  refine W_reg ?_
  refine L_op rfl (X_fldP (b := b1) (o := 0) (r := 0) Fd28_0 rfl rfl ?_)
  refine L_op rfl (X_load (p := (ptr b1 (0))) (v := (.int .u8 (q.1))) T5 rfl (hB1.at1 rfl) ?_)
  by_cases hc2 : (q.1 : Int) = (1)
  · refine L_op rfl (X_cmp (k := .u8) (a := q.1) (b := 1) (r := true) rfl rfl rfl (decide_eq_true (p := ((q.1) : Int) = ((1) : Int)) (by omega)) ?_)
    refine L_op rfl (X_move (v := (.bool (true))) rfl ?_)
    refine L_gn (dj := 6) (t := true) rfl rfl rfl rfl ?_
    refine L_gn (dj := 6) (t := true) rfl rfl rfl rfl ?_
    refine L_gn (dj := 6) (t := true) rfl rfl rfl rfl ?_
    refine L_op rfl (X_pick (t := true) (v := (.bool (true))) rfl rfl ?_)
    refine L_op rfl (X_assign (v := (.bool (true))) rfl ?_)
    refine L_nil ?_
    refine T_n ?_
    refine W_ret ?_
    exact BQ_r (End_1 Tryd.results22 (v := .bool true) rfl ⟨by rw [decide_eq_true (p := MetaP q) (by unfold MetaP; omega)], hU.own hn0⟩)
  · refine L_op rfl (X_cmp (k := .u8) (a := q.1) (b := 1) (r := false) rfl rfl rfl (decide_eq_false (p := ((q.1) : Int) = ((1) : Int)) (by omega)) ?_)
    refine L_op rfl (X_move (v := (.bool (false))) rfl ?_)
    refine L_gy (dj := 6) rfl rfl rfl (X_fldP (b := b1) (o := 0) (r := 0) Fd28_0 rfl rfl ?_)
    refine L_gy (dj := 6) rfl rfl rfl (X_load (p := (ptr b1 (0))) (v := (.int .u8 (q.1))) T5 rfl (hB1.at1 rfl) ?_)
    by_cases hc3 : (q.1 : Int) = (2)
    · refine L_gy (dj := 6) rfl rfl rfl (X_cmp (k := .u8) (a := q.1) (b := 2) (r := true) rfl rfl rfl (decide_eq_true (p := ((q.1) : Int) = ((2) : Int)) (by omega)) ?_)
      refine L_op rfl (X_pick (t := false) (v := (.bool (true))) rfl rfl ?_)
      refine L_op rfl (X_assign (v := (.bool (true))) rfl ?_)
      refine L_nil ?_
      refine T_n ?_
      refine W_ret ?_
      exact BQ_r (End_1 Tryd.results22 (v := .bool true) rfl ⟨by rw [decide_eq_true (p := MetaP q) (by unfold MetaP; omega)], hU.own hn0⟩)
    · refine L_gy (dj := 6) rfl rfl rfl (X_cmp (k := .u8) (a := q.1) (b := 2) (r := false) rfl rfl rfl (decide_eq_false (p := ((q.1) : Int) = ((2) : Int)) (by omega)) ?_)
      refine L_op rfl (X_pick (t := false) (v := (.bool (false))) rfl rfl ?_)
      refine L_op rfl (X_assign (v := (.bool (false))) rfl ?_)
      refine L_nil ?_
      refine T_n ?_
      refine W_ret ?_
      exact BQ_r (End_1 Tryd.results22 (v := .bool false) rfl ⟨by rw [decide_eq_false (p := MetaP q) (by unfold MetaP; omega)], hU.own hn0⟩)

theorem c_place (n size : Int) (w : World) (h0 : 0 ≤ n) (h1 : n < 65536) : CT Tryd.prog 21 #[(.int .u16 (n)), (.int .i64 (size))] w fun v w' => v = .bool (decide (PlaceP n size)) ∧ w = w' := by
  refine CT_of Tryd.func21 rfl rfl rfl ?_
  refine W_seq ?_
  refine W_reg ?_
  refine L_op rfl (X_assign (v := (.bool (false))) rfl ?_)
  refine L_nil ?_
  refine T_n ?_
  refine W_seq ?_
  refine W_reg ?_
  refine L_op rfl (X_move (v := (.int .u16 (n))) rfl ?_)
  refine L_op rfl (X_convInt (k := .u16) (a := n) (r := n) (by rw [Tryd.underlying23]; rfl) Tryd.underlying3 rfl (wrap_i64 (by omega) (by omega)) ?_)
  by_cases hc1 : (n : Int) ≥ (4)
  · refine L_op rfl (X_cmp (k := .i64) (a := n) (b := 4) (r := true) rfl rfl rfl (decide_eq_true (p := ((4) : Int) ≤ ((n) : Int)) (by omega)) ?_)
    refine L_op rfl (X_move (v := (.bool (true))) rfl ?_)
    refine L_gy (dj := 8) rfl rfl rfl (X_move (v := (.int .u16 (n))) rfl ?_)
    refine L_gy (dj := 8) rfl rfl rfl (X_convInt (k := .u16) (a := n) (r := n) (by rw [Tryd.underlying23]; rfl) Tryd.underlying3 rfl (wrap_i64 (by omega) (by omega)) ?_)
    refine L_gy (dj := 8) rfl rfl rfl (X_move (v := (.int .i64 (size))) rfl ?_)
    by_cases hc2 : (n : Int) < (size)
    · refine L_gy (dj := 8) rfl rfl rfl (X_cmp (k := .i64) (a := n) (b := size) (r := true) rfl rfl rfl (decide_eq_true (p := ((n) : Int) < ((size) : Int)) (by omega)) ?_)
      refine L_op rfl (X_pick (t := true) (v := (.bool (true))) rfl rfl ?_)
      refine L_op rfl (X_assign (v := (.bool (true))) rfl ?_)
      refine L_nil ?_
      refine T_n ?_
      refine W_ret ?_
      exact BQ_r (End_1 Tryd.results21 (v := .bool true) rfl ⟨by rw [decide_eq_true (p := PlaceP n size) (by unfold PlaceP; omega)], rfl⟩)
    · refine L_gy (dj := 8) rfl rfl rfl (X_cmp (k := .i64) (a := n) (b := size) (r := false) rfl rfl rfl (decide_eq_false (p := ((n) : Int) < ((size) : Int)) (by omega)) ?_)
      refine L_op rfl (X_pick (t := true) (v := (.bool (false))) rfl rfl ?_)
      refine L_op rfl (X_assign (v := (.bool (false))) rfl ?_)
      refine L_nil ?_
      refine T_n ?_
      refine W_ret ?_
      exact BQ_r (End_1 Tryd.results21 (v := .bool false) rfl ⟨by rw [decide_eq_false (p := PlaceP n size) (by unfold PlaceP; omega)], rfl⟩)
  · refine L_op rfl (X_cmp (k := .i64) (a := n) (b := 4) (r := false) rfl rfl rfl (decide_eq_false (p := ((4) : Int) ≤ ((n) : Int)) (by omega)) ?_)
    refine L_op rfl (X_move (v := (.bool (false))) rfl ?_)
    refine L_gn (dj := 8) (t := false) rfl rfl rfl rfl ?_
    refine L_gn (dj := 8) (t := false) rfl rfl rfl rfl ?_
    refine L_gn (dj := 8) (t := false) rfl rfl rfl rfl ?_
    refine L_gn (dj := 8) (t := false) rfl rfl rfl rfl ?_
    refine L_op rfl (X_pick (t := false) (v := (.bool (false))) rfl rfl ?_)
    refine L_op rfl (X_assign (v := (.bool (false))) rfl ?_)
    refine L_nil ?_
    refine T_n ?_
    refine W_ret ?_
    exact BQ_r (End_1 Tryd.results21 (v := .bool false) rfl ⟨by rw [decide_eq_false (p := PlaceP n size) (by unfold PlaceP; omega)], rfl⟩)

theorem c_rightR (q : Pt) (size : Int) (w : World) (hq : PtOk q) : CT Tryd.prog 9 #[(.agg (ptC q).toArray), (.int .i64 (size))] w fun v w' => v = .bool (decide (RightP q size)) ∧ Ext w w' := by
  obtain ⟨n0, hn0⟩ : ∃ n, n = w.heap.size := ⟨_, rfl⟩
  have hU : Upd (fun i => n0 ≤ i) w w := Upd.refl _ _
  obtain ⟨hq1, hq2, hq3, hq4, hq5⟩ := hq
  refine CT_of Tryd.func9 rfl rfl rfl ?_
  refine W_seq ?_
  refine W_reg ?_
  refine L_op rfl (X_box (v := (.agg (ptC q).toArray)) (c := ((ptC q)).toArray) rfl rfl ?_)
  intro b1 w1 hn1
  have hbn1 := hn1.num; have hbs1 := hn1.size
  replace hU := hU.trans (Ext.upd hn1.ext)
  have hB1 := hn1.blk
  refine L_op rfl (X_assign (v := (.bool (false))) rfl ?_)
  refine L_nil ?_
  refine T_n ?_
  refine W_seq ?_
  refine W_seq ?_
  refine W_reg ?_
  refine L_op rfl (X_fldP (b := b1) (o := 0) (r := 3) Fd28_2 rfl rfl ?_)
  refine L_op rfl (X_load (p := (ptr b1 (3))) (v := (.int .u32 (q.2.2.2.1))) T25 rfl (hB1.at1 rfl) ?_)
  by_cases hc2 : (q.2.2.2.1 : Int) < (1)
  · refine L_op rfl (X_cmp (k := .u32) (a := q.2.2.2.1) (b := 1) (r := true) rfl rfl rfl (decide_eq_true (p := ((q.2.2.2.1) : Int) < ((1) : Int)) (by omega)) ?_)
    refine L_op rfl (X_move (v := (.bool (true))) rfl ?_)
    refine L_gn (dj := 8) (t := true) rfl rfl rfl rfl ?_
    refine L_gn (dj := 8) (t := true) rfl rfl rfl rfl ?_
    refine L_gn (dj := 8) (t := true) rfl rfl rfl rfl ?_
    refine L_op rfl (X_pick (t := true) (v := (.bool (true))) rfl rfl ?_)
    refine L_op rfl (X_move (v := (.bool (true))) rfl ?_)
    refine L_gn (dj := 13) (t := true) rfl rfl rfl rfl ?_
    refine L_gn (dj := 13) (t := true) rfl rfl rfl rfl ?_
    refine L_gn (dj := 13) (t := true) rfl rfl rfl rfl ?_
    refine L_gn (dj := 13) (t := true) rfl rfl rfl rfl ?_
    refine L_gn (dj := 13) (t := true) rfl rfl rfl rfl ?_
    refine L_gn (dj := 13) (t := true) rfl rfl rfl rfl ?_
    refine L_op rfl (X_pick (t := true) (v := (.bool (true))) rfl rfl ?_)
    refine L_nil ?_
    refine T_n ?_
    refine W_ct rfl ?_
    refine W_seq ?_
    refine W_reg ?_
    refine L_op rfl (X_assign (v := (.bool (false))) rfl ?_)
    refine L_nil ?_
    refine T_n ?_
    refine W_ret ?_
    refine T_r ?_
    exact BQ_r (End_1 Tryd.results9 (v := .bool false) rfl ⟨by rw [decide_eq_false (p := RightP q size) (by skip; show ¬ (((1 ≤ q.2.2.2.1 ∧ q.2.2.2.1 ≤ 1073741824) ∧ ((q.1 = 1 ∨ q.1 = 2) ∧ q.2.1 ≠ q.2.2.1 ∨ q.1 = 3 ∧ q.2.2.1 = 0)) ∧ (4 ≤ q.2.1 ∧ q.2.1 < size) ∧ ((q.1 = 1 ∨ q.1 = 2) → (4 ≤ q.2.2.1 ∧ q.2.2.1 < size))); omega)], hU.own hn0⟩)
  · refine L_op rfl (X_cmp (k := .u32) (a := q.2.2.2.1) (b := 1) (r := false) rfl rfl rfl (decide_eq_false (p := ((q.2.2.2.1) : Int) < ((1) : Int)) (by omega)) ?_)
    refine L_op rfl (X_move (v := (.bool (false))) rfl ?_)
    refine L_gy (dj := 8) rfl rfl rfl (X_fldP (b := b1) (o := 0) (r := 3) Fd28_2 rfl rfl ?_)
    refine L_gy (dj := 8) rfl rfl rfl (X_load (p := (ptr b1 (3))) (v := (.int .u32 (q.2.2.2.1))) T25 rfl (hB1.at1 rfl) ?_)
    by_cases hc3 : (q.2.2.2.1 : Int) > (1073741824)
    · refine L_gy (dj := 8) rfl rfl rfl (X_cmp (k := .u32) (a := q.2.2.2.1) (b := 1073741824) (r := true) rfl rfl rfl (decide_eq_true (p := ((1073741824) : Int) < ((q.2.2.2.1) : Int)) (by omega)) ?_)
      refine L_op rfl (X_pick (t := false) (v := (.bool (true))) rfl rfl ?_)
      refine L_op rfl (X_move (v := (.bool (true))) rfl ?_)
      refine L_gn (dj := 13) (t := true) rfl rfl rfl rfl ?_
      refine L_gn (dj := 13) (t := true) rfl rfl rfl rfl ?_
      refine L_gn (dj := 13) (t := true) rfl rfl rfl rfl ?_
      refine L_gn (dj := 13) (t := true) rfl rfl rfl rfl ?_
      refine L_gn (dj := 13) (t := true) rfl rfl rfl rfl ?_
      refine L_gn (dj := 13) (t := true) rfl rfl rfl rfl ?_
      refine L_op rfl (X_pick (t := true) (v := (.bool (true))) rfl rfl ?_)
      refine L_nil ?_
      refine T_n ?_
      refine W_ct rfl ?_
      refine W_seq ?_
      refine W_reg ?_
      refine L_op rfl (X_assign (v := (.bool (false))) rfl ?_)
      refine L_nil ?_
      refine T_n ?_
      refine W_ret ?_
      refine T_r ?_
      exact BQ_r (End_1 Tryd.results9 (v := .bool false) rfl ⟨by rw [decide_eq_false (p := RightP q size) (by skip; show ¬ (((1 ≤ q.2.2.2.1 ∧ q.2.2.2.1 ≤ 1073741824) ∧ ((q.1 = 1 ∨ q.1 = 2) ∧ q.2.1 ≠ q.2.2.1 ∨ q.1 = 3 ∧ q.2.2.1 = 0)) ∧ (4 ≤ q.2.1 ∧ q.2.1 < size) ∧ ((q.1 = 1 ∨ q.1 = 2) → (4 ≤ q.2.2.1 ∧ q.2.2.1 < size))); omega)], hU.own hn0⟩)
    · refine L_gy (dj := 8) rfl rfl rfl (X_cmp (k := .u32) (a := q.2.2.2.1) (b := 1073741824) (r := false) rfl rfl rfl (decide_eq_false (p := ((1073741824) : Int) < ((q.2.2.2.1) : Int)) (by omega)) ?_)
      refine L_op rfl (X_pick (t := false) (v := (.bool (false))) rfl rfl ?_)
      refine L_op rfl (X_move (v := (.bool (false))) rfl ?_)
      refine L_gy (dj := 13) rfl rfl rfl (X_fldP (b := b1) (o := 0) (r := 1) Fd28_1 rfl rfl ?_)
      refine L_gy (dj := 13) rfl rfl rfl (X_idxAP (len := 2) (sz := 1) (b := b1) (o := 1) (k := .i64) (i := 0) (r := 1) Tryd.underlying24 Z23 rfl rfl (by omega) (by omega) rfl ?_)
      refine L_gy (dj := 13) rfl rfl rfl (X_load (p := (ptr b1 (1))) (v := (.int .u16 (q.2.1))) T23 rfl (hB1.at1 rfl) ?_)
      refine L_gy (dj := 13) rfl rfl rfl (X_move (v := (.int .i64 (size))) rfl ?_)
      refine L_gy (dj := 13) rfl rfl rfl (X_fn (vs := [(.int .u16 (q.2.1)), (.int .i64 (size))]) en21 rfl (CT.mono (c_place _ _ _ (by omega) (by omega)) ?_))
      rintro _ _ ⟨rfl, rfl⟩
      rcases Bool.eq_false_or_eq_true (decide (PlaceP q.2.1 size)) with hc4 | hc4
      · rw [hc4]
        refine L_gy (dj := 13) rfl rfl rfl (X_not (b := true) (r := false) rfl rfl ?_)
        refine L_op rfl (X_pick (t := false) (v := (.bool (false))) rfl rfl ?_)
        refine L_nil ?_
        refine T_n ?_
        refine W_cf rfl ?_
        refine W_skip ?_
        refine T_n ?_
        refine W_seq ?_
        refine W_seq ?_
        refine W_reg ?_
        refine L_op rfl (X_loadA (p := (ptr b1 (0))) (xs := ptC q) A28 rfl hB1.atAll rfl ?_)
        refine L_op rfl (X_fn (vs := [(.agg (ptC q).toArray)]) en22 rfl (CT.mono (c_metaR q _) ?_))
        rintro _ w5 ⟨rfl, hu5⟩
        have hz5 := hu5.size
        replace hU := hU.trans (Ext.upd hu5)
        replace hB1 := hB1.ext hu5
        rcases Bool.eq_false_or_eq_true (decide (MetaP q)) with hc6 | hc6
        · rw [hc6]
          refine L_nil ?_
          refine T_n ?_
          refine W_ct rfl ?_
          refine W_seq ?_
          refine W_reg ?_
          refine L_op rfl (X_fldP (b := b1) (o := 0) (r := 1) Fd28_1 rfl rfl ?_)
          refine L_op rfl (X_idxAP (len := 2) (sz := 1) (b := b1) (o := 1) (k := .i64) (i := 1) (r := 2) Tryd.underlying24 Z23 rfl rfl (by omega) (by omega) rfl ?_)
          refine L_op rfl (X_load (p := (ptr b1 (2))) (v := (.int .u16 (q.2.2.1))) T23 rfl (hB1.at1 rfl) ?_)
          refine L_op rfl (X_move (v := (.int .i64 (size))) rfl ?_)
          refine L_op rfl (X_fn (vs := [(.int .u16 (q.2.2.1)), (.int .i64 (size))]) en21 rfl (CT.mono (c_place _ _ _ (by omega) (by omega)) ?_))
          rintro _ _ ⟨rfl, rfl⟩
          rcases Bool.eq_false_or_eq_true (decide (PlaceP q.2.2.1 size)) with hc7 | hc7
          · rw [hc7]
            refine L_op rfl (X_move (v := (.bool (true))) rfl ?_)
            refine L_gy (dj := 28) rfl rfl rfl (X_fldP (b := b1) (o := 0) (r := 1) Fd28_1 rfl rfl ?_)
            refine L_gy (dj := 28) rfl rfl rfl (X_idxAP (len := 2) (sz := 1) (b := b1) (o := 1) (k := .i64) (i := 0) (r := 1) Tryd.underlying24 Z23 rfl rfl (by omega) (by omega) rfl ?_)
            refine L_gy (dj := 28) rfl rfl rfl (X_load (p := (ptr b1 (1))) (v := (.int .u16 (q.2.1))) T23 rfl (hB1.at1 rfl) ?_)
            refine L_gy (dj := 28) rfl rfl rfl (X_fldP (b := b1) (o := 0) (r := 1) Fd28_1 rfl rfl ?_)
            refine L_gy (dj := 28) rfl rfl rfl (X_idxAP (len := 2) (sz := 1) (b := b1) (o := 1) (k := .i64) (i := 1) (r := 2) Tryd.underlying24 Z23 rfl rfl (by omega) (by omega) rfl ?_)
            refine L_gy (dj := 28) rfl rfl rfl (X_load (p := (ptr b1 (2))) (v := (.int .u16 (q.2.2.1))) T23 rfl (hB1.at1 rfl) ?_)
            by_cases hc8 : (q.2.1 : Int) ≠ (q.2.2.1)
            · refine L_gy (dj := 28) rfl rfl rfl (X_cmp (k := .u16) (a := q.2.1) (b := q.2.2.1) (r := true) rfl rfl rfl (decide_eq_true (p := ((q.2.1) : Int) ≠ ((q.2.2.1) : Int)) (by omega)) ?_)
              refine L_op rfl (X_pick (t := true) (v := (.bool (true))) rfl rfl ?_)
              refine L_op rfl (X_assign (v := (.bool (true))) rfl ?_)
              refine L_nil ?_
              refine T_n ?_
              refine W_ret ?_
              refine T_r ?_
              exact BQ_r (End_1 Tryd.results9 (v := .bool true) rfl ⟨by rw [decide_eq_true (p := RightP q size) (by have hk0_ : (4 ≤ q.2.1 ∧ q.2.1 < size) := of_decide_eq_true hc4; have hk1_ : (q.1 = 1 ∨ q.1 = 2) := of_decide_eq_true hc6; have hk2_ : (4 ≤ q.2.2.1 ∧ q.2.2.1 < size) := of_decide_eq_true hc7; show (((1 ≤ q.2.2.2.1 ∧ q.2.2.2.1 ≤ 1073741824) ∧ ((q.1 = 1 ∨ q.1 = 2) ∧ q.2.1 ≠ q.2.2.1 ∨ q.1 = 3 ∧ q.2.2.1 = 0)) ∧ (4 ≤ q.2.1 ∧ q.2.1 < size) ∧ ((q.1 = 1 ∨ q.1 = 2) → (4 ≤ q.2.2.1 ∧ q.2.2.1 < size))); omega)], hU.own hn0⟩)
            · refine L_gy (dj := 28) rfl rfl rfl (X_cmp (k := .u16) (a := q.2.1) (b := q.2.2.1) (r := false) rfl rfl rfl (decide_eq_false (p := ((q.2.1) : Int) ≠ ((q.2.2.1) : Int)) (by omega)) ?_)
              refine L_op rfl (X_pick (t := true) (v := (.bool (false))) rfl rfl ?_)
              refine L_op rfl (X_assign (v := (.bool (false))) rfl ?_)
              refine L_nil ?_
              refine T_n ?_
              refine W_ret ?_
              refine T_r ?_
              exact BQ_r (End_1 Tryd.results9 (v := .bool false) rfl ⟨by rw [decide_eq_false (p := RightP q size) (by have hk0_ : (4 ≤ q.2.1 ∧ q.2.1 < size) := of_decide_eq_true hc4; have hk1_ : (q.1 = 1 ∨ q.1 = 2) := of_decide_eq_true hc6; have hk2_ : (4 ≤ q.2.2.1 ∧ q.2.2.1 < size) := of_decide_eq_true hc7; show ¬ (((1 ≤ q.2.2.2.1 ∧ q.2.2.2.1 ≤ 1073741824) ∧ ((q.1 = 1 ∨ q.1 = 2) ∧ q.2.1 ≠ q.2.2.1 ∨ q.1 = 3 ∧ q.2.2.1 = 0)) ∧ (4 ≤ q.2.1 ∧ q.2.1 < size) ∧ ((q.1 = 1 ∨ q.1 = 2) → (4 ≤ q.2.2.1 ∧ q.2.2.1 < size))); omega)], hU.own hn0⟩)
          · rw [hc7]
            refine L_op rfl (X_move (v := (.bool (false))) rfl ?_)
            refine L_gn (dj := 28) (t := false) rfl rfl rfl rfl ?_
            refine L_gn (dj := 28) (t := false) rfl rfl rfl rfl ?_
            refine L_gn (dj := 28) (t := false) rfl rfl rfl rfl ?_
            refine L_gn (dj := 28) (t := false) rfl rfl rfl rfl ?_
            refine L_gn (dj := 28) (t := false) rfl rfl rfl rfl ?_
            refine L_gn (dj := 28) (t := false) rfl rfl rfl rfl ?_
            refine L_gn (dj := 28) (t := false) rfl rfl rfl rfl ?_
            refine L_op rfl (X_pick (t := false) (v := (.bool (false))) rfl rfl ?_)
            refine L_op rfl (X_assign (v := (.bool (false))) rfl ?_)
            refine L_nil ?_
            refine T_n ?_
            refine W_ret ?_
            refine T_r ?_
            exact BQ_r (End_1 Tryd.results9 (v := .bool false) rfl ⟨by rw [decide_eq_false (p := RightP q size) (by have hk0_ : (4 ≤ q.2.1 ∧ q.2.1 < size) := of_decide_eq_true hc4; have hk1_ : (q.1 = 1 ∨ q.1 = 2) := of_decide_eq_true hc6; have hk2_ : ¬ (4 ≤ q.2.2.1 ∧ q.2.2.1 < size) := of_decide_eq_false hc7; show ¬ (((1 ≤ q.2.2.2.1 ∧ q.2.2.2.1 ≤ 1073741824) ∧ ((q.1 = 1 ∨ q.1 = 2) ∧ q.2.1 ≠ q.2.2.1 ∨ q.1 = 3 ∧ q.2.2.1 = 0)) ∧ (4 ≤ q.2.1 ∧ q.2.1 < size) ∧ ((q.1 = 1 ∨ q.1 = 2) → (4 ≤ q.2.2.1 ∧ q.2.2.1 < size))); omega)], hU.own hn0⟩)
        · rw [hc6]
          refine L_nil ?_
          refine T_n ?_
          refine W_cf rfl ?_
          refine W_skip ?_
          refine T_n ?_
          refine W_seq ?_
          refine W_reg ?_
          refine L_op rfl (X_fldP (b := b1) (o := 0) (r := 0) Fd28_0 rfl rfl ?_)
          refine L_op rfl (X_load (p := (ptr b1 (0))) (v := (.int .u8 (q.1))) T5 rfl (hB1.at1 rfl) ?_)
          by_cases hc9 : (q.1 : Int) = (3)
          · refine L_op rfl (X_cmp (k := .u8) (a := q.1) (b := 3) (r := true) rfl rfl rfl (decide_eq_true (p := ((q.1) : Int) = ((3) : Int)) (by omega)) ?_)
            refine L_op rfl (X_move (v := (.bool (true))) rfl ?_)
            refine L_gy (dj := 40) rfl rfl rfl (X_fldP (b := b1) (o := 0) (r := 1) Fd28_1 rfl rfl ?_)
            refine L_gy (dj := 40) rfl rfl rfl (X_idxAP (len := 2) (sz := 1) (b := b1) (o := 1) (k := .i64) (i := 1) (r := 2) Tryd.underlying24 Z23 rfl rfl (by omega) (by omega) rfl ?_)
            refine L_gy (dj := 40) rfl rfl rfl (X_load (p := (ptr b1 (2))) (v := (.int .u16 (q.2.2.1))) T23 rfl (hB1.at1 rfl) ?_)
            by_cases hc10 : (q.2.2.1 : Int) = (0)
            · refine L_gy (dj := 40) rfl rfl rfl (X_cmp (k := .u16) (a := q.2.2.1) (b := 0) (r := true) rfl rfl rfl (decide_eq_true (p := ((q.2.2.1) : Int) = ((0) : Int)) (by omega)) ?_)
              refine L_op rfl (X_pick (t := true) (v := (.bool (true))) rfl rfl ?_)
              refine L_op rfl (X_assign (v := (.bool (true))) rfl ?_)
              refine L_nil ?_
              refine T_n ?_
              refine W_ret ?_
              exact BQ_r (End_1 Tryd.results9 (v := .bool true) rfl ⟨by rw [decide_eq_true (p := RightP q size) (by have hk0_ : (4 ≤ q.2.1 ∧ q.2.1 < size) := of_decide_eq_true hc4; have hk1_ : ¬ (q.1 = 1 ∨ q.1 = 2) := of_decide_eq_false hc6; show (((1 ≤ q.2.2.2.1 ∧ q.2.2.2.1 ≤ 1073741824) ∧ ((q.1 = 1 ∨ q.1 = 2) ∧ q.2.1 ≠ q.2.2.1 ∨ q.1 = 3 ∧ q.2.2.1 = 0)) ∧ (4 ≤ q.2.1 ∧ q.2.1 < size) ∧ ((q.1 = 1 ∨ q.1 = 2) → (4 ≤ q.2.2.1 ∧ q.2.2.1 < size))); omega)], hU.own hn0⟩)
            · refine L_gy (dj := 40) rfl rfl rfl (X_cmp (k := .u16) (a := q.2.2.1) (b := 0) (r := false) rfl rfl rfl (decide_eq_false (p := ((q.2.2.1) : Int) = ((0) : Int)) (by omega)) ?_)
              refine L_op rfl (X_pick (t := true) (v := (.bool (false))) rfl rfl ?_)
              refine L_op rfl (X_assign (v := (.bool (false))) rfl ?_)
              refine L_nil ?_
              refine T_n ?_
              refine W_ret ?_
              exact BQ_r (End_1 Tryd.results9 (v := .bool false) rfl ⟨by rw [decide_eq_false (p := RightP q size) (by have hk0_ : (4 ≤ q.2.1 ∧ q.2.1 < size) := of_decide_eq_true hc4; have hk1_ : ¬ (q.1 = 1 ∨ q.1 = 2) := of_decide_eq_false hc6; show ¬ (((1 ≤ q.2.2.2.1 ∧ q.2.2.2.1 ≤ 1073741824) ∧ ((q.1 = 1 ∨ q.1 = 2) ∧ q.2.1 ≠ q.2.2.1 ∨ q.1 = 3 ∧ q.2.2.1 = 0)) ∧ (4 ≤ q.2.1 ∧ q.2.1 < size) ∧ ((q.1 = 1 ∨ q.1 = 2) → (4 ≤ q.2.2.1 ∧ q.2.2.1 < size))); omega)], hU.own hn0⟩)
          · refine L_op rfl (X_cmp (k := .u8) (a := q.1) (b := 3) (r := false) rfl rfl rfl (decide_eq_false (p := ((q.1) : Int) = ((3) : Int)) (by omega)) ?_)
            refine L_op rfl (X_move (v := (.bool (false))) rfl ?_)
            refine L_gn (dj := 40) (t := false) rfl rfl rfl rfl ?_
            refine L_gn (dj := 40) (t := false) rfl rfl rfl rfl ?_
            refine L_gn (dj := 40) (t := false) rfl rfl rfl rfl ?_
            refine L_gn (dj := 40) (t := false) rfl rfl rfl rfl ?_
            refine L_op rfl (X_pick (t := false) (v := (.bool (false))) rfl rfl ?_)
            refine L_op rfl (X_assign (v := (.bool (false))) rfl ?_)
            refine L_nil ?_
            refine T_n ?_
            refine W_ret ?_
            exact BQ_r (End_1 Tryd.results9 (v := .bool false) rfl ⟨by rw [decide_eq_false (p := RightP q size) (by have hk0_ : (4 ≤ q.2.1 ∧ q.2.1 < size) := of_decide_eq_true hc4; have hk1_ : ¬ (q.1 = 1 ∨ q.1 = 2) := of_decide_eq_false hc6; show ¬ (((1 ≤ q.2.2.2.1 ∧ q.2.2.2.1 ≤ 1073741824) ∧ ((q.1 = 1 ∨ q.1 = 2) ∧ q.2.1 ≠ q.2.2.1 ∨ q.1 = 3 ∧ q.2.2.1 = 0)) ∧ (4 ≤ q.2.1 ∧ q.2.1 < size) ∧ ((q.1 = 1 ∨ q.1 = 2) → (4 ≤ q.2.2.1 ∧ q.2.2.1 < size))); omega)], hU.own hn0⟩)
      · rw [hc4]
        refine L_gy (dj := 13) rfl rfl rfl (X_not (b := false) (r := true) rfl rfl ?_)
        refine L_op rfl (X_pick (t := false) (v := (.bool (true))) rfl rfl ?_)
        refine L_nil ?_
        refine T_n ?_
        refine W_ct rfl ?_
        refine W_seq ?_
        refine W_reg ?_
        refine L_op rfl (X_assign (v := (.bool (false))) rfl ?_)
        refine L_nil ?_
        refine T_n ?_
        refine W_ret ?_
        refine T_r ?_
        exact BQ_r (End_1 Tryd.results9 (v := .bool false) rfl ⟨by rw [decide_eq_false (p := RightP q size) (by have hk0_ : ¬ (4 ≤ q.2.1 ∧ q.2.1 < size) := of_decide_eq_false hc4; show ¬ (((1 ≤ q.2.2.2.1 ∧ q.2.2.2.1 ≤ 1073741824) ∧ ((q.1 = 1 ∨ q.1 = 2) ∧ q.2.1 ≠ q.2.2.1 ∨ q.1 = 3 ∧ q.2.2.1 = 0)) ∧ (4 ≤ q.2.1 ∧ q.2.1 < size) ∧ ((q.1 = 1 ∨ q.1 = 2) → (4 ≤ q.2.2.1 ∧ q.2.2.1 < size))); omega)], hU.own hn0⟩)

theorem c_addresses (q : Pt) (w : World) : CT Tryd.prog 34 #[(.agg (ptC q).toArray)] w fun v w' => v = .func (.func 44) #[] #[ptr w.heap.size 0] ∧ Blk w' w.heap.size (ptC q).toArray 28 ∧ Ext w w' ∧ w'.heap.size = w.heap.size + 1 := by
  obtain ⟨n0, hn0⟩ : ∃ n, n = w.heap.size := ⟨_, rfl⟩
  have hU : Upd (fun i => n0 ≤ i) w w := Upd.refl _ _
  refine CT_of Tryd.func34 rfl rfl rfl ?_
  refine W_seq ?_
  refine W_reg ?_
  refine L_op rfl (X_box (v := (.agg (ptC q).toArray)) (c := ((ptC q)).toArray) rfl rfl ?_)
  intro b1 w1 hn1
  have hbn1 := hn1.num; have hbs1 := hn1.size
  replace hU := hU.trans (Ext.upd hn1.ext)
  have hB1 := hn1.blk
  refine L_op rfl (X_assign (v := .nilFunc) rfl ?_)
  refine L_nil ?_
  refine T_n ?_
  refine W_seq ?_
  refine W_reg ?_
  refine L_op rfl (X_makeFunc (vs := [(ptr b1 (0))]) rfl ?_)
  refine L_op rfl (X_assign (v := (.func (.func 44) #[] #[(ptr b1 (0))])) rfl ?_)
  refine L_nil ?_
  refine T_n ?_
  refine W_ret ?_
  exact BQ_r (End_1 Tryd.results34 (v := .func (.func 44) #[] #[ptr b1 0]) rfl ⟨by rw [hbn1], hbn1 ▸ hB1, hU.own hn0, by omega⟩)

set_option maxHeartbeats 1000000 in
theorem c_addr1 (q : Pt) (b1 : Nat) (w : World) (hq : PtOk q) (hB : Blk w b1 (ptC q).toArray 28) : IterC Tryd.prog 44 [ptr b1 0] (addrX q) w (fun b => b = b1) (fun _ => False) := by
  intro l J Jx W Db hu0 hDb hJs hJxs hy hJ
  replace hB : Blk W b1 (ptC q).toArray 28 := hB.upd hu0 fun h => h rfl
  obtain ⟨hq1, hq2, hq3, hq4, hq5⟩ := hq
  show CT Tryd.prog 44 #[.func (.yield l) #[] #[], ptr b1 0] W _
  refine CT_of Tryd.func44 rfl rfl rfl ?_
  refine W_seq ?_
  refine W_seq ?_
  refine W_reg ?_
  refine L_op rfl (X_loadA (p := (ptr b1 (0))) (xs := ptC q) A28 rfl hB.atAll rfl ?_)
  refine L_op rfl (X_fn (vs := [(.agg (ptC q).toArray)]) en33 rfl (CT.mono (c_meta q _) ?_))
  rintro _ w1 ⟨rfl, hu1⟩
  replace hB := hB.ext hu1
  replace hJ := hJs _ _ _ hJ (Ext.upd hu1)
  rcases Bool.eq_false_or_eq_true (decide (MetaP q)) with hc2 | hc2
  · rw [hc2]
    have hadr := addrs_meta (of_decide_eq_true hc2)
    refine L_op rfl (X_not (b := true) (r := false) rfl rfl ?_)
    refine L_op rfl (X_move (v := (.bool (false))) rfl ?_)
    refine L_gn (dj := 6) (t := false) rfl rfl rfl rfl ?_
    refine L_gn (dj := 6) (t := false) rfl rfl rfl rfl ?_
    refine L_gn (dj := 6) (t := false) rfl rfl rfl rfl ?_
    refine L_op rfl (X_pick (t := false) (v := (.bool (false))) rfl rfl ?_)
    refine L_op rfl (X_move (v := (.bool (false))) rfl ?_)
    refine L_gy (dj := 11) rfl rfl rfl (X_move (v := (.func (.yield l) #[] #[])) rfl ?_)
    refine L_gy (dj := 11) rfl rfl rfl (X_fldP (b := b1) (o := 0) (r := 1) Fd28_1 rfl rfl ?_)
    refine L_gy (dj := 11) rfl rfl rfl (X_idxAP (len := 2) (sz := 1) (b := b1) (o := 1) (k := .i64) (i := 0) (r := 1) Tryd.underlying24 Z23 rfl rfl (by omega) (by omega) rfl ?_)
    refine L_gy (dj := 11) rfl rfl rfl (X_load (p := (ptr b1 (1))) (v := (.int .u16 (q.2.1))) T23 rfl (hB.at1 rfl) ?_)
    refine L_gy (dj := 11) rfl rfl rfl (X_convInt (k := .u16) (a := q.2.1) (r := q.2.1) (by rw [Tryd.underlying23]; rfl) Tryd.underlying3 rfl (wrap_i64 (by omega) (by omega)) ?_)
    refine L_gy (dj := 11) rfl rfl rfl (X_yield (vs := [.int .i64 q.2.1]) rfl rfl (YieldC.mono (hy 0 _ _ (by unfold addrX; rw [hadr]; rfl) hJ) ?_))
    rintro _ W2 (⟨rfl, hJ, huy0⟩ | ⟨rfl, hJx⟩)
    · replace hB := hB.upd huy0 fun h => hDb _ h rfl
      refine L_gy (dj := 11) rfl rfl rfl (X_not (b := true) (r := false) rfl rfl ?_)
      refine L_op rfl (X_pick (t := false) (v := (.bool (false))) rfl rfl ?_)
      refine L_nil ?_
      refine T_n ?_
      refine W_cf rfl ?_
      refine W_skip ?_
      refine T_n ?_
      refine W_seq ?_
      refine W_reg ?_
      refine L_op rfl (X_loadA (p := (ptr b1 (0))) (xs := ptC q) A28 rfl hB.atAll rfl ?_)
      refine L_op rfl (X_fn (vs := [(.agg (ptC q).toArray)]) en33 rfl (CT.mono (c_meta q _) ?_))
      rintro _ w3 ⟨rfl, hu3⟩
      replace hB := hB.ext hu3
      replace hJ := hJs _ _ _ hJ (Ext.upd hu3)
      rw [show (decide (MetaP q)) = true from hc2]
      refine L_nil ?_
      refine T_n ?_
      refine W_ct rfl ?_
      refine W_reg ?_
      refine L_op rfl (X_move (v := (.func (.yield l) #[] #[])) rfl ?_)
      refine L_op rfl (X_fldP (b := b1) (o := 0) (r := 1) Fd28_1 rfl rfl ?_)
      refine L_op rfl (X_idxAP (len := 2) (sz := 1) (b := b1) (o := 1) (k := .i64) (i := 1) (r := 2) Tryd.underlying24 Z23 rfl rfl (by omega) (by omega) rfl ?_)
      refine L_op rfl (X_load (p := (ptr b1 (2))) (v := (.int .u16 (q.2.2.1))) T23 rfl (hB.at1 rfl) ?_)
      refine L_op rfl (X_convInt (k := .u16) (a := q.2.2.1) (r := q.2.2.1) (by rw [Tryd.underlying23]; rfl) Tryd.underlying3 rfl (wrap_i64 (by omega) (by omega)) ?_)
      refine L_op rfl (X_yield (vs := [.int .i64 q.2.2.1]) rfl rfl (YieldC.mono (hy 1 _ _ (by unfold addrX; rw [hadr]; rfl) hJ) ?_))
      rintro _ W3 (⟨rfl, hJ, huy1⟩ | ⟨rfl, hJx⟩)
      · replace hB := hB.upd huy1 fun h => hDb _ h rfl
        refine L_nil ?_
        exact BQ_n (End_0 Tryd.results44 (.inl (by rw [addrX_len, hadr]; exact hJ)))
      · refine L_nil ?_
        exact BQ_n (End_0 Tryd.results44 (.inr ⟨1, by rw [addrX_len, hadr]; simp, hJx⟩))
    · refine L_gy (dj := 11) rfl rfl rfl (X_not (b := false) (r := true) rfl rfl ?_)
      refine L_op rfl (X_pick (t := false) (v := (.bool (true))) rfl rfl ?_)
      refine L_nil ?_
      refine T_n ?_
      refine W_ct rfl ?_
      refine W_ret ?_
      refine T_r ?_
      exact BQ_r (End_0 Tryd.results44 (.inr ⟨0, by rw [addrX_len, hadr]; simp, hJx⟩))
  · rw [hc2]
    refine L_op rfl (X_not (b := false) (r := true) rfl rfl ?_)
    refine L_op rfl (X_move (v := (.bool (true))) rfl ?_)
    refine L_gy (dj := 6) rfl rfl rfl (X_fldP (b := b1) (o := 0) (r := 0) Fd28_0 rfl rfl ?_)
    refine L_gy (dj := 6) rfl rfl rfl (X_load (p := (ptr b1 (0))) (v := (.int .u8 (q.1))) T5 rfl (hB.at1 rfl) ?_)
    by_cases hc4 : (q.1 : Int) ≠ (3)
    · refine L_gy (dj := 6) rfl rfl rfl (X_cmp (k := .u8) (a := q.1) (b := 3) (r := true) rfl rfl rfl (decide_eq_true (p := ((q.1) : Int) ≠ ((3) : Int)) (by omega)) ?_)
      have hadr := addrs_none (of_decide_eq_false hc2) hc4
      refine L_op rfl (X_pick (t := true) (v := (.bool (true))) rfl rfl ?_)
      refine L_op rfl (X_move (v := (.bool (true))) rfl ?_)
      refine L_gn (dj := 11) (t := true) rfl rfl rfl rfl ?_
      refine L_gn (dj := 11) (t := true) rfl rfl rfl rfl ?_
      refine L_gn (dj := 11) (t := true) rfl rfl rfl rfl ?_
      refine L_gn (dj := 11) (t := true) rfl rfl rfl rfl ?_
      refine L_gn (dj := 11) (t := true) rfl rfl rfl rfl ?_
      refine L_gn (dj := 11) (t := true) rfl rfl rfl rfl ?_
      refine L_gn (dj := 11) (t := true) rfl rfl rfl rfl ?_
      refine L_op rfl (X_pick (t := true) (v := (.bool (true))) rfl rfl ?_)
      refine L_nil ?_
      refine T_n ?_
      refine W_ct rfl ?_
      refine W_ret ?_
      refine T_r ?_
      exact BQ_r (End_0 Tryd.results44 (.inl (by rw [addrX_len, hadr]; exact hJ)))
    · refine L_gy (dj := 6) rfl rfl rfl (X_cmp (k := .u8) (a := q.1) (b := 3) (r := false) rfl rfl rfl (decide_eq_false (p := ((q.1) : Int) ≠ ((3) : Int)) (by omega)) ?_)
      have hadr := addrs_chain (of_decide_eq_false hc2) (by omega)
      refine L_op rfl (X_pick (t := true) (v := (.bool (false))) rfl rfl ?_)
      refine L_op rfl (X_move (v := (.bool (false))) rfl ?_)
      refine L_gy (dj := 11) rfl rfl rfl (X_move (v := (.func (.yield l) #[] #[])) rfl ?_)
      refine L_gy (dj := 11) rfl rfl rfl (X_fldP (b := b1) (o := 0) (r := 1) Fd28_1 rfl rfl ?_)
      refine L_gy (dj := 11) rfl rfl rfl (X_idxAP (len := 2) (sz := 1) (b := b1) (o := 1) (k := .i64) (i := 0) (r := 1) Tryd.underlying24 Z23 rfl rfl (by omega) (by omega) rfl ?_)
      refine L_gy (dj := 11) rfl rfl rfl (X_load (p := (ptr b1 (1))) (v := (.int .u16 (q.2.1))) T23 rfl (hB.at1 rfl) ?_)
      refine L_gy (dj := 11) rfl rfl rfl (X_convInt (k := .u16) (a := q.2.1) (r := q.2.1) (by rw [Tryd.underlying23]; rfl) Tryd.underlying3 rfl (wrap_i64 (by omega) (by omega)) ?_)
      refine L_gy (dj := 11) rfl rfl rfl (X_yield (vs := [.int .i64 q.2.1]) rfl rfl (YieldC.mono (hy 0 _ _ (by unfold addrX; rw [hadr]; rfl) hJ) ?_))
      rintro _ W2 (⟨rfl, hJ, huy0⟩ | ⟨rfl, hJx⟩)
      · replace hB := hB.upd huy0 fun h => hDb _ h rfl
        refine L_gy (dj := 11) rfl rfl rfl (X_not (b := true) (r := false) rfl rfl ?_)
        refine L_op rfl (X_pick (t := false) (v := (.bool (false))) rfl rfl ?_)
        refine L_nil ?_
        refine T_n ?_
        refine W_cf rfl ?_
        refine W_skip ?_
        refine T_n ?_
        refine W_seq ?_
        refine W_reg ?_
        refine L_op rfl (X_loadA (p := (ptr b1 (0))) (xs := ptC q) A28 rfl hB.atAll rfl ?_)
        refine L_op rfl (X_fn (vs := [(.agg (ptC q).toArray)]) en33 rfl (CT.mono (c_meta q _) ?_))
        rintro _ w5 ⟨rfl, hu5⟩
        replace hB := hB.ext hu5
        replace hJ := hJs _ _ _ hJ (Ext.upd hu5)
        rw [show (decide (MetaP q)) = false from hc2]
        refine L_nil ?_
        refine T_n ?_
        refine W_cf rfl ?_
        refine W_skip ?_
        exact BQ_n (End_0 Tryd.results44 (.inl (by rw [addrX_len, hadr]; exact hJ)))
      · refine L_gy (dj := 11) rfl rfl rfl (X_not (b := false) (r := true) rfl rfl ?_)
        refine L_op rfl (X_pick (t := false) (v := (.bool (true))) rfl rfl ?_)
        refine L_nil ?_
        refine T_n ?_
        refine W_ct rfl ?_
        refine W_ret ?_
        refine T_r ?_
        exact BQ_r (End_0 Tryd.results44 (.inr ⟨0, by rw [addrX_len, hadr]; simp, hJx⟩))
end Go.Proofs.YtmggaahkfidfaaaDoor
