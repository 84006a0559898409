/-
  The model: what is told. (Printed by wip/gen/t31g.py of this repo.)
-/
import Derived.Test.YthncpmablodbjaaDoorMapsF
import Derived.Test.YthncpmablodbjaaDoorBaseMP
import Derived.Test.YthncpmablodbjaaDoorBaseWR
import Derived.Test.YthncpmablodbjaaDoorBaseUN
namespace Go.Proofs.YthncpmablodbjaaDoor
open Go Go.SL Go.Proofs
set_option linter.unusedVariables false

/-- a model's cells, told by a function -/
def cellsM (c : Nat → Value) : List Value := [c 0, c 1, c 2, c 3, c 4, c 5, c 6, c 7, c 8, c 9, c 10, c 11, c 12, c 13, c 14, c 15, c 16, c 17, c 18, c 19, c 20, c 21, c 22, c 23, c 24, c 25, c 26, c 27, c 28, c 29, c 30, c 31, c 32, c 33, c 34, c 35, c 36, c 37, c 38, c 39, c 40, c 41, c 42, c 43, c 44, c 45, c 46, c 47, c 48, c 49, c 50, c 51, c 52, c 53, c 54, c 55, c 56, c 57, c 58, c 59, c 60, c 61, c 62, c 63, c 64, c 65, c 66, c 67, c 68, c 69, c 70, c 71, c 72, c 73, c 74, c 75, c 76]
def updM (c : Nat → Value) (k : Nat) (v : Value) : Nat → Value := fun j => cond (Nat.beq j k) v (c j)
def OneM (c : Nat → Value) : Prop := ∀ k, (c k).oneCell' = true
theorem OneM.upd {c : Nat → Value} (h : OneM c) {v : Value} (hv : v.oneCell' = true) (k : Nat) : OneM (updM c k v) := fun j => by
  show (cond (Nat.beq j k) v (c j)).oneCell' = true
  cases Nat.beq j k with
  | true => exact hv
  | false => exact h j
theorem OneM.all {c : Nat → Value} (h : OneM c) : ∀ u ∈ cellsM c, u.oneCell' = true := by
  intro u hu
  unfold cellsM at hu
  simp only [List.mem_cons, List.not_mem_nil, or_false] at hu
  rcases hu with rfl | rfl | rfl | rfl | rfl | rfl | rfl | rfl | rfl | rfl | rfl | rfl | rfl | rfl | rfl | rfl | rfl | rfl | rfl | rfl | rfl | rfl | rfl | rfl | rfl | rfl | rfl | rfl | rfl | rfl | rfl | rfl | rfl | rfl | rfl | rfl | rfl | rfl | rfl | rfl | rfl | rfl | rfl | rfl | rfl | rfl | rfl | rfl | rfl | rfl | rfl | rfl | rfl | rfl | rfl | rfl | rfl | rfl | rfl | rfl | rfl | rfl | rfl | rfl | rfl | rfl | rfl | rfl | rfl | rfl | rfl | rfl | rfl | rfl | rfl | rfl | rfl <;> exact h _
theorem mAt {w : World} {b : Nat} {c : Nat → Value} {t : TypeId} (h : Blk w b (cellsM c).toArray t) (o : Nat) {ys : List Value} (hy : ((cellsM c).drop o).take ys.length = ys) : At w (ptr b o) ys :=
  h.at_ o ys fun j u hj => by
    rw [← hy, List.getElem?_take] at hj
    split at hj
    · rw [List.getElem?_drop] at hj; simpa using hj
    · cases hj
/-- a deed -/
structure Opr where
  k : Int
  a : Int
  b : Int
  kv : Value
  m : B
  xv : Value
  x : B
structure Opr.R (w : World) (lo hi : Nat) (o : Opr) : Prop where
  k : BRd w lo hi (o.kv, o.m)
  x : BRd w lo hi (o.xv, o.x)
  lk : o.m.length ≤ 140737488355328
  lx : o.x.length ≤ 140737488355328
theorem Opr.R.ext {w w' : World} {lo hi : Nat} {x : Opr} (h : x.R w lo hi) (hu : Ext w w') : x.R w' lo hi := ⟨h.k.ext hu, h.x.ext hu, h.lk, h.lx⟩
theorem Opr.R.upd {w w' : World} {D : Nat → Prop} {lo hi : Nat} {x : Opr} (h : x.R w lo hi) (hu : Upd D w w') (hd : ∀ b, lo ≤ b → b < hi → ¬ D b) : x.R w' lo hi := ⟨h.k.upd hu hd, h.x.upd hu hd, h.lk, h.lx⟩
theorem Opr.R.mono {w : World} {lo hi lo' hi' : Nat} {x : Opr} (h : x.R w lo hi) (h1 : lo' ≤ lo) (h2 : hi ≤ hi') : x.R w lo' hi' := ⟨h.k.mono h1 h2, h.x.mono h1 h2, h.lk, h.lx⟩
/-- an answer -/
structure Ans where
  e : Int
  t : Bool
  kv : Value
  m : B
  xv : Value
  x : B
  n : Int
structure Ans.R (w : World) (lo hi : Nat) (a : Ans) : Prop where
  k : BRd w lo hi (a.kv, a.m)
  x : BRd w lo hi (a.xv, a.x)
theorem Ans.R.ext {w w' : World} {lo hi : Nat} {x : Ans} (h : x.R w lo hi) (hu : Ext w w') : x.R w' lo hi := ⟨h.k.ext hu, h.x.ext hu⟩
theorem Ans.R.upd {w w' : World} {D : Nat → Prop} {lo hi : Nat} {x : Ans} (h : x.R w lo hi) (hu : Upd D w w') (hd : ∀ b, lo ≤ b → b < hi → ¬ D b) : x.R w' lo hi := ⟨h.k.upd hu hd, h.x.upd hu hd⟩
theorem Ans.R.mono {w : World} {lo hi lo' hi' : Nat} {x : Ans} (h : x.R w lo hi) (h1 : lo' ≤ lo) (h2 : hi ≤ hi') : x.R w lo' hi' := ⟨h.k.mono h1 h2, h.x.mono h1 h2⟩
def toldD (a : Ans) (t : Bool) (m x : B) (n : Int) : Bool := (a.t == t) && scmp .eql a.m m && scmp .eql a.x x && decide (a.n = n)
def bareD (a : Ans) : Bool := !a.t && decide (a.m.length = 0) && decide (a.x.length = 0)
def namedD (x : Opr) : Bool := decide (1 ≤ x.m.length) && decide (x.m.length ≤ 8)
def putsD (x : Opr) : Bool := namedD x && decide (x.x.length ≤ 600)

theorem c_told (a : Ans) (t : Bool) (kv : Value) (m : B) (xv : Value) (y : B) (n : Int) (w : World) (lo up : Nat) (hup : up ≤ w.heap.size) (ha : a.R w lo up) (hk : BRd w lo up (kv, m)) (hx : BRd w lo up (xv, y)) : CT Tryd.prog 64 #[(.agg #[(.int .i64 (a.e)), (.bool (a.t)), a.kv, a.xv, (.int .i64 (a.n))]), (.bool (t)), kv, xv, (.int .i64 (n))] w fun v w' => v = .bool (toldD a t m y n) ∧ Ext w w' := by
  obtain ⟨n0, hn0⟩ : ∃ n, n = w.heap.size := ⟨_, rfl⟩
  have hU : Upd (fun i => n0 ≤ i) w w := Upd.refl _ _
  rw [← hn0] at hup
  refine CT_of Tryd.func64 rfl rfl rfl ?_
  refine W_seq ?_
  refine W_reg ?_
  refine L_op rfl (X_box (v := (.agg #[(.int .i64 (a.e)), (.bool (a.t)), a.kv, a.xv, (.int .i64 (a.n))])) (c := ([(.int .i64 (a.e)), (.bool (a.t)), a.kv, a.xv, (.int .i64 (a.n))]).toArray) rfl rfl ?_)
  intro b1 w1 hn1
  have hbn1 := hn1.num; have hbs1 := hn1.size
  replace ha := ha.ext hn1.ext
  replace hk := hk.ext hn1.ext
  replace hx := hx.ext hn1.ext
  replace hU := hU.trans (Ext.upd hn1.ext)
  have hB1 := hn1.blk
  refine L_op rfl (X_assign (v := (.bool (false))) rfl ?_)
  refine L_nil ?_
  refine T_n ?_
  refine W_seq ?_
  refine W_reg ?_
  refine L_op rfl (X_fldP (b := b1) (o := 0) (r := 1) Fd48_1 rfl rfl ?_)
  refine L_op rfl (X_load (p := (ptr b1 (1))) (v := (.bool (a.t))) T4 rfl (hB1.at1 rfl) ?_)
  refine L_op rfl (X_move (v := (.bool (t))) rfl ?_)
  rcases Bool.eq_false_or_eq_true ((a.t == t)) with hc2 | hc2
  · refine L_op rfl (X_cmpBool (a := a.t) (b := t) (r := true) Tryd.underlying4 rfl rfl (.inl ⟨rfl, hc2⟩) ?_)
    refine L_op rfl (X_move (v := (.bool (true))) rfl ?_)
    refine L_gy (dj := 15) rfl rfl rfl (X_fldP (b := b1) (o := 0) (r := 2) Fd48_2 rfl rfl ?_)
    refine L_gy (dj := 15) rfl rfl rfl (X_load (p := (ptr b1 (2))) (v := a.kv) T23 rfl (hB1.at1 rfl) ?_)
    refine L_gy (dj := 15) rfl rfl rfl (X_str (v := a.kv) (l := a.m) Tryd.underlying23 Tryd.underlying5 Tryd.underlying9 rfl ha.k.1 ?_)
    refine L_gy (dj := 15) rfl rfl rfl (X_move (v := kv) rfl ?_)
    refine L_gy (dj := 15) rfl rfl rfl (X_str (v := kv) (l := m) Tryd.underlying23 Tryd.underlying5 Tryd.underlying9 rfl hk.1 ?_)
    rcases Bool.eq_false_or_eq_true (scmp .eql (a.m) (m)) with hc3 | hc3
    · refine L_gy (dj := 15) rfl rfl rfl (X_scmp (a := a.m) (b := m) (r := true) rfl rfl rfl hc3 ?_)
      refine L_op rfl (X_pick (t := true) (v := (.bool (true))) rfl rfl ?_)
      refine L_op rfl (X_move (v := (.bool (true))) rfl ?_)
      refine L_gy (dj := 23) rfl rfl rfl (X_fldP (b := b1) (o := 0) (r := 3) Fd48_3 rfl rfl ?_)
      refine L_gy (dj := 23) rfl rfl rfl (X_load (p := (ptr b1 (3))) (v := a.xv) T23 rfl (hB1.at1 rfl) ?_)
      refine L_gy (dj := 23) rfl rfl rfl (X_str (v := a.xv) (l := a.x) Tryd.underlying23 Tryd.underlying5 Tryd.underlying9 rfl ha.x.1 ?_)
      refine L_gy (dj := 23) rfl rfl rfl (X_move (v := xv) rfl ?_)
      refine L_gy (dj := 23) rfl rfl rfl (X_str (v := xv) (l := y) Tryd.underlying23 Tryd.underlying5 Tryd.underlying9 rfl hx.1 ?_)
      rcases Bool.eq_false_or_eq_true (scmp .eql (a.x) (y)) with hc4 | hc4
      · refine L_gy (dj := 23) rfl rfl rfl (X_scmp (a := a.x) (b := y) (r := true) rfl rfl rfl hc4 ?_)
        refine L_op rfl (X_pick (t := true) (v := (.bool (true))) rfl rfl ?_)
        refine L_op rfl (X_move (v := (.bool (true))) rfl ?_)
        refine L_gy (dj := 31) rfl rfl rfl (X_fldP (b := b1) (o := 0) (r := 4) Fd48_4 rfl rfl ?_)
        refine L_gy (dj := 31) rfl rfl rfl (X_load (p := (ptr b1 (4))) (v := (.int .i64 (a.n))) T3 rfl (hB1.at1 rfl) ?_)
        refine L_gy (dj := 31) rfl rfl rfl (X_move (v := (.int .i64 (n))) rfl ?_)
        by_cases hc5 : (a.n : Int) = (n)
        · refine L_gy (dj := 31) rfl rfl rfl (X_cmp (k := .i64) (a := a.n) (b := n) (r := true) rfl rfl rfl (decide_eq_true (p := ((a.n) : Int) = ((n) : Int)) (by omega)) ?_)
          have hc5_ := decide_eq_true (p := a.n = n) (by omega)
          refine L_op rfl (X_pick (t := true) (v := (.bool (true))) rfl rfl ?_)
          refine L_op rfl (X_assign (v := (.bool (true))) rfl ?_)
          refine L_nil ?_
          refine T_n ?_
          refine W_ret ?_
          exact BQ_r (End_1 Tryd.results64 (v := .bool true) rfl ⟨by rw [show toldD a t m y n = true from by unfold toldD; rw [hc2, hc3, hc4, hc5_] <;> rfl], hU.own hn0⟩)
        · refine L_gy (dj := 31) rfl rfl rfl (X_cmp (k := .i64) (a := a.n) (b := n) (r := false) rfl rfl rfl (decide_eq_false (p := ((a.n) : Int) = ((n) : Int)) (by omega)) ?_)
          have hc5_ := decide_eq_false (p := a.n = n) (by omega)
          refine L_op rfl (X_pick (t := true) (v := (.bool (false))) rfl rfl ?_)
          refine L_op rfl (X_assign (v := (.bool (false))) rfl ?_)
          refine L_nil ?_
          refine T_n ?_
          refine W_ret ?_
          exact BQ_r (End_1 Tryd.results64 (v := .bool false) rfl ⟨by rw [show toldD a t m y n = false from by unfold toldD; rw [hc2, hc3, hc4, hc5_] <;> rfl], hU.own hn0⟩)
      · refine L_gy (dj := 23) rfl rfl rfl (X_scmp (a := a.x) (b := y) (r := false) rfl rfl rfl hc4 ?_)
        refine L_op rfl (X_pick (t := true) (v := (.bool (false))) rfl rfl ?_)
        refine L_op rfl (X_move (v := (.bool (false))) rfl ?_)
        refine L_gn (dj := 31) (t := false) rfl rfl rfl rfl ?_
        refine L_gn (dj := 31) (t := false) rfl rfl rfl rfl ?_
        refine L_gn (dj := 31) (t := false) rfl rfl rfl rfl ?_
        refine L_gn (dj := 31) (t := false) rfl rfl rfl rfl ?_
        refine L_op rfl (X_pick (t := false) (v := (.bool (false))) rfl rfl ?_)
        refine L_op rfl (X_assign (v := (.bool (false))) rfl ?_)
        refine L_nil ?_
        refine T_n ?_
        refine W_ret ?_
        exact BQ_r (End_1 Tryd.results64 (v := .bool false) rfl ⟨by rw [show toldD a t m y n = false from by unfold toldD; rw [hc2, hc3, hc4] <;> rfl], hU.own hn0⟩)
    · refine L_gy (dj := 15) rfl rfl rfl (X_scmp (a := a.m) (b := m) (r := false) rfl rfl rfl hc3 ?_)
      refine L_op rfl (X_pick (t := true) (v := (.bool (false))) rfl rfl ?_)
      refine L_op rfl (X_move (v := (.bool (false))) rfl ?_)
      refine L_gn (dj := 23) (t := false) rfl rfl rfl rfl ?_
      refine L_gn (dj := 23) (t := false) rfl rfl rfl rfl ?_
      refine L_gn (dj := 23) (t := false) rfl rfl rfl rfl ?_
      refine L_gn (dj := 23) (t := false) rfl rfl rfl rfl ?_
      refine L_gn (dj := 23) (t := false) rfl rfl rfl rfl ?_
      refine L_gn (dj := 23) (t := false) rfl rfl rfl rfl ?_
      refine L_op rfl (X_pick (t := false) (v := (.bool (false))) rfl rfl ?_)
      refine L_op rfl (X_move (v := (.bool (false))) rfl ?_)
      refine L_gn (dj := 31) (t := false) rfl rfl rfl rfl ?_
      refine L_gn (dj := 31) (t := false) rfl rfl rfl rfl ?_
      refine L_gn (dj := 31) (t := false) rfl rfl rfl rfl ?_
      refine L_gn (dj := 31) (t := false) rfl rfl rfl rfl ?_
      refine L_op rfl (X_pick (t := false) (v := (.bool (false))) rfl rfl ?_)
      refine L_op rfl (X_assign (v := (.bool (false))) rfl ?_)
      refine L_nil ?_
      refine T_n ?_
      refine W_ret ?_
      exact BQ_r (End_1 Tryd.results64 (v := .bool false) rfl ⟨by rw [show toldD a t m y n = false from by unfold toldD; rw [hc2, hc3] <;> rfl], hU.own hn0⟩)
  · refine L_op rfl (X_cmpBool (a := a.t) (b := t) (r := false) Tryd.underlying4 rfl rfl (.inl ⟨rfl, hc2⟩) ?_)
    refine L_op rfl (X_move (v := (.bool (false))) rfl ?_)
    refine L_gn (dj := 15) (t := false) rfl rfl rfl rfl ?_
    refine L_gn (dj := 15) (t := false) rfl rfl rfl rfl ?_
    refine L_gn (dj := 15) (t := false) rfl rfl rfl rfl ?_
    refine L_gn (dj := 15) (t := false) rfl rfl rfl rfl ?_
    refine L_gn (dj := 15) (t := false) rfl rfl rfl rfl ?_
    refine L_gn (dj := 15) (t := false) rfl rfl rfl rfl ?_
    refine L_op rfl (X_pick (t := false) (v := (.bool (false))) rfl rfl ?_)
    refine L_op rfl (X_move (v := (.bool (false))) rfl ?_)
    refine L_gn (dj := 23) (t := false) rfl rfl rfl rfl ?_
    refine L_gn (dj := 23) (t := false) rfl rfl rfl rfl ?_
    refine L_gn (dj := 23) (t := false) rfl rfl rfl rfl ?_
    refine L_gn (dj := 23) (t := false) rfl rfl rfl rfl ?_
    refine L_gn (dj := 23) (t := false) rfl rfl rfl rfl ?_
    refine L_gn (dj := 23) (t := false) rfl rfl rfl rfl ?_
    refine L_op rfl (X_pick (t := false) (v := (.bool (false))) rfl rfl ?_)
    refine L_op rfl (X_move (v := (.bool (false))) rfl ?_)
    refine L_gn (dj := 31) (t := false) rfl rfl rfl rfl ?_
    refine L_gn (dj := 31) (t := false) rfl rfl rfl rfl ?_
    refine L_gn (dj := 31) (t := false) rfl rfl rfl rfl ?_
    refine L_gn (dj := 31) (t := false) rfl rfl rfl rfl ?_
    refine L_op rfl (X_pick (t := false) (v := (.bool (false))) rfl rfl ?_)
    refine L_op rfl (X_assign (v := (.bool (false))) rfl ?_)
    refine L_nil ?_
    refine T_n ?_
    refine W_ret ?_
    exact BQ_r (End_1 Tryd.results64 (v := .bool false) rfl ⟨by rw [show toldD a t m y n = false from by unfold toldD; rw [hc2] <;> rfl], hU.own hn0⟩)

theorem c_bare (a : Ans) (w : World) (lo up : Nat) (hup : up ≤ w.heap.size) (ha : a.R w lo up) : CT Tryd.prog 25 #[(.agg #[(.int .i64 (a.e)), (.bool (a.t)), a.kv, a.xv, (.int .i64 (a.n))])] w fun v w' => v = .bool (bareD a) ∧ Ext w w' := by
  obtain ⟨n0, hn0⟩ : ∃ n, n = w.heap.size := ⟨_, rfl⟩
  have hU : Upd (fun i => n0 ≤ i) w w := Upd.refl _ _
  rw [← hn0] at hup
  refine CT_of Tryd.func25 rfl rfl rfl ?_
  refine W_seq ?_
  refine W_reg ?_
  refine L_op rfl (X_box (v := (.agg #[(.int .i64 (a.e)), (.bool (a.t)), a.kv, a.xv, (.int .i64 (a.n))])) (c := ([(.int .i64 (a.e)), (.bool (a.t)), a.kv, a.xv, (.int .i64 (a.n))]).toArray) rfl rfl ?_)
  intro b1 w1 hn1
  have hbn1 := hn1.num; have hbs1 := hn1.size
  replace ha := ha.ext hn1.ext
  replace hU := hU.trans (Ext.upd hn1.ext)
  have hB1 := hn1.blk
  refine L_op rfl (X_assign (v := (.bool (false))) rfl ?_)
  refine L_nil ?_
  refine T_n ?_
  refine W_seq ?_
  refine W_reg ?_
  refine L_op rfl (X_fldP (b := b1) (o := 0) (r := 1) Fd48_1 rfl rfl ?_)
  refine L_op rfl (X_load (p := (ptr b1 (1))) (v := (.bool (a.t))) T4 rfl (hB1.at1 rfl) ?_)
  rcases Bool.eq_false_or_eq_true (a.t) with hb2 | hb2
  · rw [hb2]
    refine L_op rfl (X_not (b := true) (r := false) rfl rfl ?_)
    refine L_op rfl (X_move (v := (.bool (false))) rfl ?_)
    refine L_gn (dj := 6) (t := false) rfl rfl rfl rfl ?_
    refine L_gn (dj := 6) (t := false) rfl rfl rfl rfl ?_
    refine L_gn (dj := 6) (t := false) rfl rfl rfl rfl ?_
    refine L_gn (dj := 6) (t := false) rfl rfl rfl rfl ?_
    refine L_op rfl (X_pick (t := false) (v := (.bool (false))) rfl rfl ?_)
    refine L_op rfl (X_move (v := (.bool (false))) rfl ?_)
    refine L_gn (dj := 12) (t := false) rfl rfl rfl rfl ?_
    refine L_gn (dj := 12) (t := false) rfl rfl rfl rfl ?_
    refine L_gn (dj := 12) (t := false) rfl rfl rfl rfl ?_
    refine L_gn (dj := 12) (t := false) rfl rfl rfl rfl ?_
    refine L_op rfl (X_pick (t := false) (v := (.bool (false))) rfl rfl ?_)
    refine L_op rfl (X_assign (v := (.bool (false))) rfl ?_)
    refine L_nil ?_
    refine T_n ?_
    refine W_ret ?_
    exact BQ_r (End_1 Tryd.results25 (v := .bool false) rfl ⟨by rw [show bareD a = false from by unfold bareD; rw [hb2] <;> rfl], hU.own hn0⟩)
  · rw [hb2]
    refine L_op rfl (X_not (b := false) (r := true) rfl rfl ?_)
    refine L_op rfl (X_move (v := (.bool (true))) rfl ?_)
    refine L_gy (dj := 6) rfl rfl rfl (X_fldP (b := b1) (o := 0) (r := 2) Fd48_2 rfl rfl ?_)
    refine L_gy (dj := 6) rfl rfl rfl (X_load (p := (ptr b1 (2))) (v := a.kv) T23 rfl (hB1.at1 rfl) ?_)
    refine L_gy (dj := 6) rfl rfl rfl (X_len (v := a.kv) (n := a.m.length) Tryd.underlying23 rfl ha.k.1.sv ?_)
    by_cases hc3 : (((a.m.length : Nat) : Int) : Int) = (0)
    · refine L_gy (dj := 6) rfl rfl rfl (X_cmp (k := .i64) (a := ((a.m.length : Nat) : Int)) (b := 0) (r := true) rfl rfl rfl (decide_eq_true (p := ((((a.m.length : Nat) : Int)) : Int) = ((0) : Int)) (by omega)) ?_)
      have hc3_ := decide_eq_true (p := a.m.length = 0) (by omega)
      refine L_op rfl (X_pick (t := true) (v := (.bool (true))) rfl rfl ?_)
      refine L_op rfl (X_move (v := (.bool (true))) rfl ?_)
      refine L_gy (dj := 12) rfl rfl rfl (X_fldP (b := b1) (o := 0) (r := 3) Fd48_3 rfl rfl ?_)
      refine L_gy (dj := 12) rfl rfl rfl (X_load (p := (ptr b1 (3))) (v := a.xv) T23 rfl (hB1.at1 rfl) ?_)
      refine L_gy (dj := 12) rfl rfl rfl (X_len (v := a.xv) (n := a.x.length) Tryd.underlying23 rfl ha.x.1.sv ?_)
      by_cases hc4 : (((a.x.length : Nat) : Int) : Int) = (0)
      · refine L_gy (dj := 12) rfl rfl rfl (X_cmp (k := .i64) (a := ((a.x.length : Nat) : Int)) (b := 0) (r := true) rfl rfl rfl (decide_eq_true (p := ((((a.x.length : Nat) : Int)) : Int) = ((0) : Int)) (by omega)) ?_)
        have hc4_ := decide_eq_true (p := a.x.length = 0) (by omega)
        refine L_op rfl (X_pick (t := true) (v := (.bool (true))) rfl rfl ?_)
        refine L_op rfl (X_assign (v := (.bool (true))) rfl ?_)
        refine L_nil ?_
        refine T_n ?_
        refine W_ret ?_
        exact BQ_r (End_1 Tryd.results25 (v := .bool true) rfl ⟨by rw [show bareD a = true from by unfold bareD; rw [hb2, hc3_, hc4_] <;> rfl], hU.own hn0⟩)
      · refine L_gy (dj := 12) rfl rfl rfl (X_cmp (k := .i64) (a := ((a.x.length : Nat) : Int)) (b := 0) (r := false) rfl rfl rfl (decide_eq_false (p := ((((a.x.length : Nat) : Int)) : Int) = ((0) : Int)) (by omega)) ?_)
        have hc4_ := decide_eq_false (p := a.x.length = 0) (by omega)
        refine L_op rfl (X_pick (t := true) (v := (.bool (false))) rfl rfl ?_)
        refine L_op rfl (X_assign (v := (.bool (false))) rfl ?_)
        refine L_nil ?_
        refine T_n ?_
        refine W_ret ?_
        exact BQ_r (End_1 Tryd.results25 (v := .bool false) rfl ⟨by rw [show bareD a = false from by unfold bareD; rw [hb2, hc3_, hc4_] <;> rfl], hU.own hn0⟩)
    · refine L_gy (dj := 6) rfl rfl rfl (X_cmp (k := .i64) (a := ((a.m.length : Nat) : Int)) (b := 0) (r := false) rfl rfl rfl (decide_eq_false (p := ((((a.m.length : Nat) : Int)) : Int) = ((0) : Int)) (by omega)) ?_)
      have hc3_ := decide_eq_false (p := a.m.length = 0) (by omega)
      refine L_op rfl (X_pick (t := true) (v := (.bool (false))) rfl rfl ?_)
      refine L_op rfl (X_move (v := (.bool (false))) rfl ?_)
      refine L_gn (dj := 12) (t := false) rfl rfl rfl rfl ?_
      refine L_gn (dj := 12) (t := false) rfl rfl rfl rfl ?_
      refine L_gn (dj := 12) (t := false) rfl rfl rfl rfl ?_
      refine L_gn (dj := 12) (t := false) rfl rfl rfl rfl ?_
      refine L_op rfl (X_pick (t := false) (v := (.bool (false))) rfl rfl ?_)
      refine L_op rfl (X_assign (v := (.bool (false))) rfl ?_)
      refine L_nil ?_
      refine T_n ?_
      refine W_ret ?_
      exact BQ_r (End_1 Tryd.results25 (v := .bool false) rfl ⟨by rw [show bareD a = false from by unfold bareD; rw [hb2, hc3_] <;> rfl], hU.own hn0⟩)

theorem c_named (x : Opr) (w : World) (lo up : Nat) (hup : up ≤ w.heap.size) (hq : x.R w lo up) : CT Tryd.prog 29 #[(.agg #[(.int .u8 (x.k)), (.int .i64 (x.a)), (.int .i64 (x.b)), x.kv, x.xv])] w fun v w' => v = .bool (namedD x) ∧ Ext w w' := by
  obtain ⟨n0, hn0⟩ : ∃ n, n = w.heap.size := ⟨_, rfl⟩
  have hU : Upd (fun i => n0 ≤ i) w w := Upd.refl _ _
  rw [← hn0] at hup
  refine CT_of Tryd.func29 rfl rfl rfl ?_
  refine W_seq ?_
  refine W_reg ?_
  refine L_op rfl (X_box (v := (.agg #[(.int .u8 (x.k)), (.int .i64 (x.a)), (.int .i64 (x.b)), x.kv, x.xv])) (c := ([(.int .u8 (x.k)), (.int .i64 (x.a)), (.int .i64 (x.b)), x.kv, x.xv]).toArray) rfl rfl ?_)
  intro b1 w1 hn1
  have hbn1 := hn1.num; have hbs1 := hn1.size
  replace hq := hq.ext hn1.ext
  replace hU := hU.trans (Ext.upd hn1.ext)
  have hB1 := hn1.blk
  refine L_op rfl (X_assign (v := (.bool (false))) rfl ?_)
  refine L_nil ?_
  refine T_n ?_
  refine W_seq ?_
  refine W_reg ?_
  refine L_op rfl (X_fldP (b := b1) (o := 0) (r := 3) Fd43_3 rfl rfl ?_)
  refine L_op rfl (X_load (p := (ptr b1 (3))) (v := x.kv) T23 rfl (hB1.at1 rfl) ?_)
  refine L_op rfl (X_len (v := x.kv) (n := x.m.length) Tryd.underlying23 rfl hq.k.1.sv ?_)
  by_cases hc2 : (((x.m.length : Nat) : Int) : Int) ≥ (1)
  · refine L_op rfl (X_cmp (k := .i64) (a := ((x.m.length : Nat) : Int)) (b := 1) (r := true) rfl rfl rfl (decide_eq_true (p := ((1) : Int) ≤ ((((x.m.length : Nat) : Int)) : Int)) (by omega)) ?_)
    have hc2_ := decide_eq_true (p := 1 ≤ x.m.length) (by omega)
    refine L_op rfl (X_move (v := (.bool (true))) rfl ?_)
    refine L_gy (dj := 7) rfl rfl rfl (X_fldP (b := b1) (o := 0) (r := 3) Fd43_3 rfl rfl ?_)
    refine L_gy (dj := 7) rfl rfl rfl (X_load (p := (ptr b1 (3))) (v := x.kv) T23 rfl (hB1.at1 rfl) ?_)
    refine L_gy (dj := 7) rfl rfl rfl (X_len (v := x.kv) (n := x.m.length) Tryd.underlying23 rfl hq.k.1.sv ?_)
    by_cases hc3 : (((x.m.length : Nat) : Int) : Int) ≤ (8)
    · refine L_gy (dj := 7) rfl rfl rfl (X_cmp (k := .i64) (a := ((x.m.length : Nat) : Int)) (b := 8) (r := true) rfl rfl rfl (decide_eq_true (p := ((((x.m.length : Nat) : Int)) : Int) ≤ ((8) : Int)) (by omega)) ?_)
      have hc3_ := decide_eq_true (p := x.m.length ≤ 8) (by omega)
      refine L_op rfl (X_pick (t := true) (v := (.bool (true))) rfl rfl ?_)
      refine L_op rfl (X_assign (v := (.bool (true))) rfl ?_)
      refine L_nil ?_
      refine T_n ?_
      refine W_ret ?_
      exact BQ_r (End_1 Tryd.results29 (v := .bool true) rfl ⟨by rw [show namedD x = true from by unfold namedD; rw [hc2_, hc3_] <;> rfl], hU.own hn0⟩)
    · refine L_gy (dj := 7) rfl rfl rfl (X_cmp (k := .i64) (a := ((x.m.length : Nat) : Int)) (b := 8) (r := false) rfl rfl rfl (decide_eq_false (p := ((((x.m.length : Nat) : Int)) : Int) ≤ ((8) : Int)) (by omega)) ?_)
      have hc3_ := decide_eq_false (p := x.m.length ≤ 8) (by omega)
      refine L_op rfl (X_pick (t := true) (v := (.bool (false))) rfl rfl ?_)
      refine L_op rfl (X_assign (v := (.bool (false))) rfl ?_)
      refine L_nil ?_
      refine T_n ?_
      refine W_ret ?_
      exact BQ_r (End_1 Tryd.results29 (v := .bool false) rfl ⟨by rw [show namedD x = false from by unfold namedD; rw [hc2_, hc3_] <;> rfl], hU.own hn0⟩)
  · refine L_op rfl (X_cmp (k := .i64) (a := ((x.m.length : Nat) : Int)) (b := 1) (r := false) rfl rfl rfl (decide_eq_false (p := ((1) : Int) ≤ ((((x.m.length : Nat) : Int)) : Int)) (by omega)) ?_)
    have hc2_ := decide_eq_false (p := 1 ≤ x.m.length) (by omega)
    refine L_op rfl (X_move (v := (.bool (false))) rfl ?_)
    refine L_gn (dj := 7) (t := false) rfl rfl rfl rfl ?_
    refine L_gn (dj := 7) (t := false) rfl rfl rfl rfl ?_
    refine L_gn (dj := 7) (t := false) rfl rfl rfl rfl ?_
    refine L_gn (dj := 7) (t := false) rfl rfl rfl rfl ?_
    refine L_op rfl (X_pick (t := false) (v := (.bool (false))) rfl rfl ?_)
    refine L_op rfl (X_assign (v := (.bool (false))) rfl ?_)
    refine L_nil ?_
    refine T_n ?_
    refine W_ret ?_
    exact BQ_r (End_1 Tryd.results29 (v := .bool false) rfl ⟨by rw [show namedD x = false from by unfold namedD; rw [hc2_] <;> rfl], hU.own hn0⟩)

theorem c_puts (x : Opr) (w : World) (lo up : Nat) (hup : up ≤ w.heap.size) (hq : x.R w lo up) : CT Tryd.prog 19 #[(.agg #[(.int .u8 (x.k)), (.int .i64 (x.a)), (.int .i64 (x.b)), x.kv, x.xv])] w fun v w' => v = .bool (putsD x) ∧ Ext w w' := by
  obtain ⟨n0, hn0⟩ : ∃ n, n = w.heap.size := ⟨_, rfl⟩
  have hU : Upd (fun i => n0 ≤ i) w w := Upd.refl _ _
  rw [← hn0] at hup
  refine CT_of Tryd.func19 rfl rfl rfl ?_
  refine W_seq ?_
  refine W_reg ?_
  refine L_op rfl (X_box (v := (.agg #[(.int .u8 (x.k)), (.int .i64 (x.a)), (.int .i64 (x.b)), x.kv, x.xv])) (c := ([(.int .u8 (x.k)), (.int .i64 (x.a)), (.int .i64 (x.b)), x.kv, x.xv]).toArray) rfl rfl ?_)
  intro b1 w1 hn1
  have hbn1 := hn1.num; have hbs1 := hn1.size
  replace hq := hq.ext hn1.ext
  replace hU := hU.trans (Ext.upd hn1.ext)
  have hB1 := hn1.blk
  refine L_op rfl (X_assign (v := (.bool (false))) rfl ?_)
  refine L_nil ?_
  refine T_n ?_
  refine W_seq ?_
  refine W_reg ?_
  refine L_op rfl (X_loadA (p := (ptr b1 (0))) (xs := [(.int .u8 (x.k)), (.int .i64 (x.a)), (.int .i64 (x.b)), x.kv, x.xv]) A43 rfl hB1.atAll rfl ?_)
  have hcr_ := c_named x w1 lo up (by omega) hq
  refine L_op rfl (X_fn (vs := [(.agg ([(.int .u8 (x.k)), (.int .i64 (x.a)), (.int .i64 (x.b)), x.kv, x.xv]).toArray)]) en29 rfl ?_)
  refine CT.mono hcr_ ?_
  clear hcr_
  rintro _ w2 ⟨rfl, hu2⟩
  have hz2 := hu2.size
  replace hq := hq.ext hu2
  replace hU := hU.trans (Ext.upd hu2)
  replace hB1 := hB1.ext hu2
  rcases Bool.eq_false_or_eq_true (namedD x) with hc3 | hc3
  · rw [hc3]
    refine L_op rfl (X_move (v := (.bool (true))) rfl ?_)
    refine L_gy (dj := 5) rfl rfl rfl (X_fldP (b := b1) (o := 0) (r := 4) Fd43_4 rfl rfl ?_)
    refine L_gy (dj := 5) rfl rfl rfl (X_load (p := (ptr b1 (4))) (v := x.xv) T23 rfl (hB1.at1 rfl) ?_)
    refine L_gy (dj := 5) rfl rfl rfl (X_len (v := x.xv) (n := x.x.length) Tryd.underlying23 rfl hq.x.1.sv ?_)
    by_cases hc4 : (((x.x.length : Nat) : Int) : Int) ≤ (600)
    · refine L_gy (dj := 5) rfl rfl rfl (X_cmp (k := .i64) (a := ((x.x.length : Nat) : Int)) (b := 600) (r := true) rfl rfl rfl (decide_eq_true (p := ((((x.x.length : Nat) : Int)) : Int) ≤ ((600) : Int)) (by omega)) ?_)
      have hc4_ := decide_eq_true (p := x.x.length ≤ 600) (by omega)
      refine L_op rfl (X_pick (t := true) (v := (.bool (true))) rfl rfl ?_)
      refine L_op rfl (X_assign (v := (.bool (true))) rfl ?_)
      refine L_nil ?_
      refine T_n ?_
      refine W_ret ?_
      exact BQ_r (End_1 Tryd.results19 (v := .bool true) rfl ⟨by rw [show putsD x = true from by unfold putsD; rw [hc3, hc4_] <;> rfl], hU.own hn0⟩)
    · refine L_gy (dj := 5) rfl rfl rfl (X_cmp (k := .i64) (a := ((x.x.length : Nat) : Int)) (b := 600) (r := false) rfl rfl rfl (decide_eq_false (p := ((((x.x.length : Nat) : Int)) : Int) ≤ ((600) : Int)) (by omega)) ?_)
      have hc4_ := decide_eq_false (p := x.x.length ≤ 600) (by omega)
      refine L_op rfl (X_pick (t := true) (v := (.bool (false))) rfl rfl ?_)
      refine L_op rfl (X_assign (v := (.bool (false))) rfl ?_)
      refine L_nil ?_
      refine T_n ?_
      refine W_ret ?_
      exact BQ_r (End_1 Tryd.results19 (v := .bool false) rfl ⟨by rw [show putsD x = false from by unfold putsD; rw [hc3, hc4_] <;> rfl], hU.own hn0⟩)
  · rw [hc3]
    refine L_op rfl (X_move (v := (.bool (false))) rfl ?_)
    refine L_gn (dj := 5) (t := false) rfl rfl rfl rfl ?_
    refine L_gn (dj := 5) (t := false) rfl rfl rfl rfl ?_
    refine L_gn (dj := 5) (t := false) rfl rfl rfl rfl ?_
    refine L_gn (dj := 5) (t := false) rfl rfl rfl rfl ?_
    refine L_op rfl (X_pick (t := false) (v := (.bool (false))) rfl rfl ?_)
    refine L_op rfl (X_assign (v := (.bool (false))) rfl ?_)
    refine L_nil ?_
    refine T_n ?_
    refine W_ret ?_
    exact BQ_r (End_1 Tryd.results19 (v := .bool false) rfl ⟨by rw [show putsD x = false from by unfold putsD; rw [hc3] <;> rfl], hU.own hn0⟩)
end Go.Proofs.YthncpmablodbjaaDoor
