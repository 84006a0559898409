/-
 Spaces; which may be. (Printed by wip/gen/t13.py of this repo.)
-/
import Derived.Test.YtmaikcnjgkoghaaHead
import Derived.Test.YtmaikcnjgkoghaaBaseR
namespace Go.Proofs.Ytmaikcnjgkoghaa
open Go Go.SL Go.Proofs
set_option linter.unusedVariables false

abbrev La := Int × Int
def LBo : Lay Bool where
 cel b := [.bool b]
 sub _ := []
 sz := 1
 len _ := rfl
 one _ _ u hu := by rw [List.mem_singleton.1 hu]; rfl
def LL : Lay La where
 cel x := [.int .i64 x.1, .int .u32 x.2]
 sub _ := []
 sz := 2
 len _ := rfl
 one _ _ u hu := by simp only [List.mem_cons, List.not_mem_nil, or_false] at hu; rcases hu with rfl | rfl <;> rfl
structure Sp where
 (sz : Int) (uv lv : Value) (us : List Bool) (ls : List La)
def Sp.Rd (w : World) (lo hi : Nat) (s : Sp) : Prop := NRd LBo w lo hi s.uv s.us ∧ NRd LL w lo hi s.lv s.ls
theorem Sp.Rd.upd {w w' : World} {D : Nat → Prop} {s : Sp} {lo hi : Nat} (h : s.Rd w lo hi) (hu : Upd D w w') (hd : ∀ b, lo ≤ b → b < hi → ¬ D b) : s.Rd w' lo hi := ⟨h.1.upd hu hd, h.2.upd hu hd⟩
theorem Sp.Rd.ext {w w' : World} {s : Sp} {lo hi : Nat} (h : s.Rd w lo hi) (hu : Ext w w') : s.Rd w' lo hi := h.upd hu fun _ _ _ hx => hx
theorem Sp.Rd.mono {w : World} {s : Sp} {lo hi lo' hi' : Nat} (h : s.Rd w lo hi) (h1 : lo' ≤ lo) (h2 : hi ≤ hi') : s.Rd w lo' hi' := ⟨h.1.mono h1 h2, h.2.mono h1 h2⟩
section
variable {w : World} {lo hi : Nat} {v : Value}
theorem bat {es : List Bool} (h : NRd LBo w lo hi v es) {i : Int} {k : Nat} {e : Bool} (hik : i.toNat = k) (he : es[k]? = some e) : At w (pof v (i.toNat * 1)) [.bool e] := by
 subst hik; exact h.cell (j := 0) he rfl
theorem lat {es : List La} (h : NRd LL w lo hi v es) {i : Int} {k : Nat} {e : La} (hik : i.toNat = k) (he : es[k]? = some e) : At w (pof v (i.toNat * 2 + 0)) [.int .i64 e.1] := by
 subst hik; exact h.cell (j := 0) he rfl
theorem ltx {es : List La} (h : NRd LL w lo hi v es) {i : Int} {k : Nat} {e : La} (hik : i.toNat = k) (he : es[k]? = some e) : At w (pof v (i.toNat * 2 + 1)) [.int .u32 e.2] := by
 subst hik; exact h.cell (j := 1) he rfl
theorem lall {es : List La} (h : NRd LL w lo hi v es) {i : Int} {k : Nat} {e : La} (hik : i.toNat = k) (he : es[k]? = some e) : At w (pof v (i.toNat * 2)) [.int .i64 e.1, .int .u32 e.2] := by
 subst hik
 have h1 := h.cells (i := i.toNat) (j := 0) (us := [.int .i64 e.1, .int .u32 e.2]) he fun k u hk => by rw [Nat.zero_add]; exact hk
 exact h1
end
/-! which spaces may be -/
def InL (us : List Bool) (ls : List La) (k : Nat) : Prop := ∀ (j : Nat) (x : La), j < k → ls[j]? = some x → 4 ≤ x.1 ∧ x.1 < us.length ∧ us[x.1.toNat]? = some true ∧ ∀ y : La, 0 < j → ls[j - 1]? = some y → y.1 < x.1
def HeadS (sz : Int) (us : List Bool) : Prop := (32 ≤ sz ∧ sz ≤ 256 ∧ (us.length : Int) = sz) ∧ ∀ j, j < 4 → us[j]? = some true
def MayS (sz : Int) (us : List Bool) (ls : List La) : Prop := HeadS sz us ∧ InL us ls ls.length
theorem inL_0 {us : List Bool} {ls : List La} : InL us ls 0 := fun j _ h => absurd h (Nat.not_lt_zero j)
def befS (ls : List La) (i : Nat) : Int := if i = 0 then 3 else (ls.getD (i - 1) (0, 0)).1
theorem befS_0 (ls : List La) : befS ls 0 = 3 := rfl
theorem befS_s {ls : List La} {i : Nat} {x : La} (h : ls[i]? = some x) : befS ls (i + 1) = x.1 := by
 unfold befS
 rw [if_neg (Nat.succ_ne_zero i), Nat.add_sub_cancel, List.getD_eq_getElem?_getD, h]; rfl
theorem befS_p {ls : List La} {i : Nat} {y : La} (h0 : 0 < i) (h : ls[i - 1]? = some y) : befS ls i = y.1 := by
 have := befS_s h
 rwa [Nat.sub_add_cancel h0] at this
theorem bef4 {us : List Bool} {ls : List La} {k : Nat} (h : InL us ls k) (hk : k ≤ ls.length) : 3 ≤ befS ls k := by
 rcases Nat.eq_zero_or_pos k with rfl | h0
 ·exact Int.le_refl _
 ·obtain ⟨y, hy⟩ : ∃ y, ls[k - 1]? = some y := ⟨_, List.getElem?_eq_getElem (by omega)⟩
  rw [befS_p h0 hy]
  have := (h (k - 1) y (by omega) hy).1
  omega
theorem inL_step {us : List Bool} {ls : List La} {k : Nat} {x : La} (hx : ls[k]? = some x) : InL us ls (k + 1) ↔ InL us ls k ∧ befS ls k < x.1 ∧ 4 ≤ x.1 ∧ x.1 < us.length ∧ us[x.1.toNat]? = some true := by
 have hk := (List.getElem?_eq_some_iff.1 hx).1
 constructor
 ·intro h
  have h0 : InL us ls k := fun j y hj => h j y (by omega)
  obtain ⟨h1, h2, h3, h4⟩ := h k x (by omega) hx
  refine ⟨h0, ?_, h1, h2, h3⟩
  rcases Nat.eq_zero_or_pos k with rfl | hp
  ·rw [befS_0]; omega
  ·obtain ⟨y, hy⟩ : ∃ y, ls[k - 1]? = some y := ⟨_, List.getElem?_eq_getElem (by omega)⟩
   rw [befS_p hp hy]; exact h4 y hp hy
 ·rintro ⟨h0, h1, h2, h3, h4⟩ j y hj hy
  rcases Nat.lt_or_ge j k with h | h
  ·exact h0 j y h hy
  ·obtain rfl : j = k := by omega
   rw [hx] at hy; cases hy
   exact ⟨h2, h3, h4, fun z hp hz => by rw [← befS_p hp hz]; exact h1⟩

theorem c_great (s : Sp) (w : World) (lo up : Nat) (hs : s.Rd w lo up) : CT Try.prog 6 #[(.agg #[(.int .i64 (s.sz)), s.uv, s.lv])] w fun v w' => (∃ g, v = .bool g ∧ (g = true ↔ 300 < s.us.length ∨ 300 < s.ls.length)) ∧ Ext w w' := by
 obtain ⟨n0, hn0⟩ : ∃ n, n = w.heap.size := ⟨_, rfl⟩
 have hU : Upd (fun i => n0 ≤ i) w w := Upd.refl _ _
 have hul := hs.1.sv.len; have hll := hs.2.sv.len
 refine CT_of Try.func6 rfl rfl rfl ?_
 refine W_seq ?_
 refine W_reg ?_
 refine L_op rfl (X_box (v := (.agg #[(.int .i64 (s.sz)), s.uv, s.lv])) (c := ([(.int .i64 (s.sz)), s.uv, s.lv]).toArray) rfl rfl ?_)
 intro b1 w1 hn1
 have hbn1 := hn1.num; have hbs1 := hn1.size
 replace hs := hs.ext hn1.ext
 replace hU := hU.trans (Ext.upd hn1.ext)
 have hB1 := hn1.blk
 refine L_op rfl (X_assign (v := (.bool (false))) rfl ?_)
 refine L_nil ?_
 refine T_n ?_
 refine W_seq ?_
 refine W_reg ?_
 refine L_op rfl (X_fldP (b := b1) (o := 0) (r := 1) Fd25_1 rfl rfl ?_)
 refine L_op rfl (X_load (p := (ptr b1 (1))) (v := s.uv) T22 rfl (hB1.at1 rfl) ?_)
 refine L_op rfl (X_len (v := s.uv) (n := s.us.length) Try.underlying22 rfl hs.1.sv ?_)
 by_cases hc2 : (((s.us.length : Nat) : Int) : Int) > (300)
 ·refine L_op rfl (X_cmp (k := .i64) (a := ((s.us.length : Nat) : Int)) (b := 300) (r := true) rfl rfl rfl (decide_eq_true (p := ((300) : Int) < ((((s.us.length : Nat) : Int)) : Int)) (by omega)) ?_)
  refine L_op rfl (X_move (v := (.bool (true))) rfl ?_)
  refine L_gn (dj := 7) (t := true) rfl rfl rfl rfl ?_
  refine L_gn (dj := 7) (t := true) rfl rfl rfl rfl ?_
  refine L_gn (dj := 7) (t := true) rfl rfl rfl rfl ?_
  refine L_gn (dj := 7) (t := true) rfl rfl rfl rfl ?_
  refine L_op rfl (X_pick (t := true) (v := (.bool (true))) rfl rfl ?_)
  refine L_op rfl (X_assign (v := (.bool (true))) rfl ?_)
  refine L_nil ?_
  refine T_n ?_
  refine W_ret ?_
  exact BQ_r (End_1 Try.results6 (v := .bool true) rfl ⟨⟨true, rfl, ⟨fun _ => by omega, fun _ => rfl⟩⟩, hU.own hn0⟩)
 ·refine L_op rfl (X_cmp (k := .i64) (a := ((s.us.length : Nat) : Int)) (b := 300) (r := false) rfl rfl rfl (decide_eq_false (p := ((300) : Int) < ((((s.us.length : Nat) : Int)) : Int)) (by omega)) ?_)
  refine L_op rfl (X_move (v := (.bool (false))) rfl ?_)
  refine L_gy (dj := 7) rfl rfl rfl (X_fldP (b := b1) (o := 0) (r := 2) Fd25_2 rfl rfl ?_)
  refine L_gy (dj := 7) rfl rfl rfl (X_load (p := (ptr b1 (2))) (v := s.lv) T23 rfl (hB1.at1 rfl) ?_)
  refine L_gy (dj := 7) rfl rfl rfl (X_len (v := s.lv) (n := s.ls.length) Try.underlying23 rfl hs.2.sv ?_)
  by_cases hc3 : (((s.ls.length : Nat) : Int) : Int) > (300)
  ·refine L_gy (dj := 7) rfl rfl rfl (X_cmp (k := .i64) (a := ((s.ls.length : Nat) : Int)) (b := 300) (r := true) rfl rfl rfl (decide_eq_true (p := ((300) : Int) < ((((s.ls.length : Nat) : Int)) : Int)) (by omega)) ?_)
   refine L_op rfl (X_pick (t := false) (v := (.bool (true))) rfl rfl ?_)
   refine L_op rfl (X_assign (v := (.bool (true))) rfl ?_)
   refine L_nil ?_
   refine T_n ?_
   refine W_ret ?_
   exact BQ_r (End_1 Try.results6 (v := .bool true) rfl ⟨⟨true, rfl, ⟨fun _ => by omega, fun _ => rfl⟩⟩, hU.own hn0⟩)
  ·refine L_gy (dj := 7) rfl rfl rfl (X_cmp (k := .i64) (a := ((s.ls.length : Nat) : Int)) (b := 300) (r := false) rfl rfl rfl (decide_eq_false (p := ((300) : Int) < ((((s.ls.length : Nat) : Int)) : Int)) (by omega)) ?_)
   refine L_op rfl (X_pick (t := false) (v := (.bool (false))) rfl rfl ?_)
   refine L_op rfl (X_assign (v := (.bool (false))) rfl ?_)
   refine L_nil ?_
   refine T_n ?_
   refine W_ret ?_
   exact BQ_r (End_1 Try.results6 (v := .bool false) rfl ⟨⟨false, rfl, ⟨fun h => (by cases h), fun h => (by omega)⟩⟩, hU.own hn0⟩)

theorem c_mayR (s : Sp) (w : World) (lo up : Nat) (hs : s.Rd w lo up) : CT Try.prog 7 #[(.agg #[(.int .i64 (s.sz)), s.uv, s.lv])] w fun v w' => (∃ g, v = .bool g ∧ (g = true ↔ MayS s.sz s.us s.ls)) ∧ Ext w w' := by
 obtain ⟨n0, hn0⟩ : ∃ n, n = w.heap.size := ⟨_, rfl⟩
 have hU : Upd (fun i => n0 ≤ i) w w := Upd.refl _ _
 have hul := hs.1.sv.len; have hll := hs.2.sv.len
 refine CT_of Try.func7 rfl rfl rfl ?_
 refine W_seq ?_
 refine W_reg ?_
 refine L_op rfl (X_box (v := (.agg #[(.int .i64 (s.sz)), s.uv, s.lv])) (c := ([(.int .i64 (s.sz)), s.uv, s.lv]).toArray) rfl rfl ?_)
 intro b1 w1 hn1
 have hbn1 := hn1.num; have hbs1 := hn1.size
 replace hs := hs.ext hn1.ext
 replace hU := hU.trans (Ext.upd hn1.ext)
 have hB1 := hn1.blk
 refine L_op rfl (X_assign (v := (.bool (false))) rfl ?_)
 refine L_nil ?_
 refine T_n ?_
 refine W_seq ?_
 refine W_seq ?_
 refine W_reg ?_
 refine L_op rfl (X_fldP (b := b1) (o := 0) (r := 0) Fd25_0 rfl rfl ?_)
 refine L_op rfl (X_load (p := (ptr b1 (0))) (v := (.int .i64 (s.sz))) T3 rfl (hB1.at1 rfl) ?_)
 by_cases hc2 : (s.sz : Int) < (32)
 ·refine L_op rfl (X_cmp (k := .i64) (a := s.sz) (b := 32) (r := true) rfl rfl rfl (decide_eq_true (p := ((s.sz) : Int) < ((32) : Int)) (by omega)) ?_)
  refine L_op rfl (X_move (v := (.bool (true))) rfl ?_)
  refine L_gn (dj := 9) (t := true) rfl rfl rfl rfl ?_
  refine L_gn (dj := 9) (t := true) rfl rfl rfl rfl ?_
  refine L_gn (dj := 9) (t := true) rfl rfl rfl rfl ?_
  refine L_op rfl (X_pick (t := true) (v := (.bool (true))) rfl rfl ?_)
  refine L_op rfl (X_move (v := (.bool (true))) rfl ?_)
  refine L_gn (dj := 14) (t := true) rfl rfl rfl rfl ?_
  refine L_gn (dj := 14) (t := true) rfl rfl rfl rfl ?_
  refine L_gn (dj := 14) (t := true) rfl rfl rfl rfl ?_
  refine L_gn (dj := 14) (t := true) rfl rfl rfl rfl ?_
  refine L_gn (dj := 14) (t := true) rfl rfl rfl rfl ?_
  refine L_gn (dj := 14) (t := true) rfl rfl rfl rfl ?_
  refine L_op rfl (X_pick (t := true) (v := (.bool (true))) rfl rfl ?_)
  refine L_nil ?_
  refine T_n ?_
  refine W_ct rfl ?_
  refine W_seq ?_
  refine W_reg ?_
  refine L_op rfl (X_assign (v := (.bool (false))) rfl ?_)
  refine L_nil ?_
  refine T_n ?_
  refine W_ret ?_
  refine T_r ?_
  exact BQ_r (End_1 Try.results7 (v := .bool false) rfl ⟨⟨false, rfl, ⟨fun h_ => (by cases h_), fun h_ => (by have h1_ := h_.1.1; omega)⟩⟩, hU.own hn0⟩)
 ·refine L_op rfl (X_cmp (k := .i64) (a := s.sz) (b := 32) (r := false) rfl rfl rfl (decide_eq_false (p := ((s.sz) : Int) < ((32) : Int)) (by omega)) ?_)
  refine L_op rfl (X_move (v := (.bool (false))) rfl ?_)
  refine L_gy (dj := 9) rfl rfl rfl (X_fldP (b := b1) (o := 0) (r := 0) Fd25_0 rfl rfl ?_)
  refine L_gy (dj := 9) rfl rfl rfl (X_load (p := (ptr b1 (0))) (v := (.int .i64 (s.sz))) T3 rfl (hB1.at1 rfl) ?_)
  by_cases hc3 : (s.sz : Int) > (256)
  ·refine L_gy (dj := 9) rfl rfl rfl (X_cmp (k := .i64) (a := s.sz) (b := 256) (r := true) rfl rfl rfl (decide_eq_true (p := ((256) : Int) < ((s.sz) : Int)) (by omega)) ?_)
   refine L_op rfl (X_pick (t := false) (v := (.bool (true))) rfl rfl ?_)
   refine L_op rfl (X_move (v := (.bool (true))) rfl ?_)
   refine L_gn (dj := 14) (t := true) rfl rfl rfl rfl ?_
   refine L_gn (dj := 14) (t := true) rfl rfl rfl rfl ?_
   refine L_gn (dj := 14) (t := true) rfl rfl rfl rfl ?_
   refine L_gn (dj := 14) (t := true) rfl rfl rfl rfl ?_
   refine L_gn (dj := 14) (t := true) rfl rfl rfl rfl ?_
   refine L_gn (dj := 14) (t := true) rfl rfl rfl rfl ?_
   refine L_op rfl (X_pick (t := true) (v := (.bool (true))) rfl rfl ?_)
   refine L_nil ?_
   refine T_n ?_
   refine W_ct rfl ?_
   refine W_seq ?_
   refine W_reg ?_
   refine L_op rfl (X_assign (v := (.bool (false))) rfl ?_)
   refine L_nil ?_
   refine T_n ?_
   refine W_ret ?_
   refine T_r ?_
   exact BQ_r (End_1 Try.results7 (v := .bool false) rfl ⟨⟨false, rfl, ⟨fun h_ => (by cases h_), fun h_ => (by have h1_ := h_.1.1; omega)⟩⟩, hU.own hn0⟩)
  ·refine L_gy (dj := 9) rfl rfl rfl (X_cmp (k := .i64) (a := s.sz) (b := 256) (r := false) rfl rfl rfl (decide_eq_false (p := ((256) : Int) < ((s.sz) : Int)) (by omega)) ?_)
   refine L_op rfl (X_pick (t := false) (v := (.bool (false))) rfl rfl ?_)
   refine L_op rfl (X_move (v := (.bool (false))) rfl ?_)
   refine L_gy (dj := 14) rfl rfl rfl (X_fldP (b := b1) (o := 0) (r := 1) Fd25_1 rfl rfl ?_)
   refine L_gy (dj := 14) rfl rfl rfl (X_load (p := (ptr b1 (1))) (v := s.uv) T22 rfl (hB1.at1 rfl) ?_)
   refine L_gy (dj := 14) rfl rfl rfl (X_len (v := s.uv) (n := s.us.length) Try.underlying22 rfl hs.1.sv ?_)
   refine L_gy (dj := 14) rfl rfl rfl (X_fldP (b := b1) (o := 0) (r := 0) Fd25_0 rfl rfl ?_)
   refine L_gy (dj := 14) rfl rfl rfl (X_load (p := (ptr b1 (0))) (v := (.int .i64 (s.sz))) T3 rfl (hB1.at1 rfl) ?_)
   by_cases hc4 : (((s.us.length : Nat) : Int) : Int) ≠ (s.sz)
   ·refine L_gy (dj := 14) rfl rfl rfl (X_cmp (k := .i64) (a := ((s.us.length : Nat) : Int)) (b := s.sz) (r := true) rfl rfl rfl (decide_eq_true (p := ((((s.us.length : Nat) : Int)) : Int) ≠ ((s.sz) : Int)) (by omega)) ?_)
    refine L_op rfl (X_pick (t := false) (v := (.bool (true))) rfl rfl ?_)
    refine L_nil ?_
    refine T_n ?_
    refine W_ct rfl ?_
    refine W_seq ?_
    refine W_reg ?_
    refine L_op rfl (X_assign (v := (.bool (false))) rfl ?_)
    refine L_nil ?_
    refine T_n ?_
    refine W_ret ?_
    refine T_r ?_
    exact BQ_r (End_1 Try.results7 (v := .bool false) rfl ⟨⟨false, rfl, ⟨fun h_ => (by cases h_), fun h_ => (by have h1_ := h_.1.1; omega)⟩⟩, hU.own hn0⟩)
   ·refine L_gy (dj := 14) rfl rfl rfl (X_cmp (k := .i64) (a := ((s.us.length : Nat) : Int)) (b := s.sz) (r := false) rfl rfl rfl (decide_eq_false (p := ((((s.us.length : Nat) : Int)) : Int) ≠ ((s.sz) : Int)) (by omega)) ?_)
    refine L_op rfl (X_pick (t := false) (v := (.bool (false))) rfl rfl ?_)
    refine L_nil ?_
    refine T_n ?_
    refine W_cf rfl ?_
    refine W_skip ?_
    refine T_n ?_
    refine W_seq ?_
    refine W_seq ?_
    refine W_reg ?_
    refine L_op rfl (X_assign (v := (.int .i64 (0))) rfl ?_)
    refine L_nil ?_
    refine T_n ?_
    refine W_block ?_
    refine W_loop (α := Nat) [2, 3, 22, 23, 24, 25, 26, 27, 28, 29, 30, 31] (fun i => [(3, (.int .i64 (((i : Nat) : Int))))]) (fun i w_ => i ≤ 4 ∧ (∀ j, j < i → s.us[j]? = some true) ∧ w1 = w_) (fun i => 4 - i) ⟨rfl, 0, ⟨Nat.zero_le _, fun j h => absurd h (Nat.not_lt_zero j), rfl⟩, Out.refl _ _, ⟨rfl, trivial⟩⟩ ?_
    rintro i w5 _ ⟨hi4, hfo, rfl⟩
    refine W_seq ?_
    refine W_seq ?_
    refine W_reg ?_
    refine L_op rfl (X_move (v := (.int .i64 (((i : Nat) : Int)))) rfl ?_)
    by_cases hc6 : (((i : Nat) : Int) : Int) < (4)
    ·refine L_op rfl (X_cmp (k := .i64) (a := ((i : Nat) : Int)) (b := 4) (r := true) rfl rfl rfl (decide_eq_true (p := ((((i : Nat) : Int)) : Int) < ((4) : Int)) (by omega)) ?_)
     refine L_nil ?_
     refine T_n ?_
     refine W_ct rfl ?_
     refine W_skip ?_
     refine T_n ?_
     refine W_seq ?_
     refine W_block ?_
     refine W_seq ?_
     refine W_reg ?_
     refine L_op rfl (X_fldP (b := b1) (o := 0) (r := 1) Fd25_1 rfl rfl ?_)
     refine L_op rfl (X_load (p := (ptr b1 (1))) (v := s.uv) T22 rfl (hB1.at1 rfl) ?_)
     refine L_op rfl (X_move (v := (.int .i64 (((i : Nat) : Int)))) rfl ?_)
     refine L_op rfl (X_idx (v := s.uv) (n := s.us.length) (k := .i64) (i := ((i : Nat) : Int)) S22 rfl hs.1.sv rfl (by omega) (by omega) ?_)
     obtain ⟨bi, hbi⟩ : ∃ b, s.us[i]? = some b := ⟨_, List.getElem?_eq_getElem (by omega)⟩
     rcases Bool.eq_false_or_eq_true bi with rfl | rfl
     ·refine L_op rfl (X_load (p := (pof s.uv ((((i : Nat) : Int) : Int).toNat * 1))) (v := .bool true) T4 rfl (bat hs.1 (Int.toNat_natCast _) hbi) ?_)
      refine L_op rfl (X_not (b := true) (r := false) rfl rfl ?_)
      refine L_nil ?_
      refine T_n ?_
      refine W_cf rfl ?_
      refine W_skip ?_
      refine B_n ?_
      refine T_n ?_
      refine W_reg ?_
      refine L_op rfl (X_move (v := (.int .i64 (((i : Nat) : Int)))) rfl ?_)
      refine L_op rfl (X_arith (k := .i64) (a := ((i : Nat) : Int)) (b := 1) (r := ((i + 1 : Nat) : Int)) rfl rfl rfl (iadd64 (by omega) (by omega) (by omega)) ?_)
      refine L_op rfl (X_assign (v := (.int .i64 (((i + 1 : Nat) : Int)))) rfl ?_)
      refine L_nil ?_
      refine T_n ?_
      exact ⟨rfl, i + 1, ⟨⟨by omega, fun j hj => (Nat.lt_or_ge j i).elim (hfo j) fun h1 => by obtain rfl : j = i := by { omega }; exact hbi, rfl⟩, (by show 4 - (i + 1) < 4 - i; omega)⟩, (Out.mk rfl), ⟨rfl, trivial⟩⟩
     ·refine L_op rfl (X_load (p := (pof s.uv ((((i : Nat) : Int) : Int).toNat * 1))) (v := .bool false) T4 rfl (bat hs.1 (Int.toNat_natCast _) hbi) ?_)
      refine L_op rfl (X_not (b := false) (r := true) rfl rfl ?_)
      refine L_nil ?_
      refine T_n ?_
      refine W_ct rfl ?_
      refine W_seq ?_
      refine W_reg ?_
      refine L_op rfl (X_assign (v := (.bool (false))) rfl ?_)
      refine L_nil ?_
      refine T_n ?_
      refine W_ret ?_
      refine B_r ?_
      refine T_r ?_
      refine T_r ?_
      refine B_r ?_
      refine T_r ?_
      exact BQ_r (End_1 Try.results7 (v := .bool false) rfl ⟨⟨false, rfl, ⟨fun h_ => (by cases h_), fun h_ => (by have h1_ := h_.1.2 i (by omega); rw [hbi] at h1_; cases h1_)⟩⟩, hU.own hn0⟩)
    ·refine L_op rfl (X_cmp (k := .i64) (a := ((i : Nat) : Int)) (b := 4) (r := false) rfl rfl rfl (decide_eq_false (p := ((((i : Nat) : Int)) : Int) < ((4) : Int)) (by omega)) ?_)
     have hfour : ∀ j, j < 4 → s.us[j]? = some true := fun j hj => hfo j (by omega)
     refine L_nil ?_
     refine T_n ?_
     refine W_cf rfl ?_
     refine W_exit ?_
     refine T_e ?_
     refine T_e ?_
     refine B_x ?_
     refine T_n ?_
     refine W_seq ?_
     refine W_seq ?_
     refine W_reg ?_
     refine L_op rfl (X_assign (v := (.int .i64 (0))) rfl ?_)
     refine L_nil ?_
     refine T_n ?_
     refine W_block ?_
     refine W_loop (α := Nat) [2, 4, 5, 32, 33, 34, 35, 36, 37, 38, 39, 40, 41, 42, 43, 44, 45, 46, 47, 48, 49, 50, 51, 52, 53, 54, 55, 56, 57, 58, 59, 60, 61, 62, 63, 64, 65, 66, 67, 68, 69, 70, 71, 72, 73, 74, 75] (fun i => [(4, (.int .i64 (((i : Nat) : Int))))]) (fun i w_ => i ≤ s.ls.length ∧ InL s.us s.ls i ∧ w1 = w_) (fun i => s.ls.length - i) ⟨rfl, 0, ⟨Nat.zero_le _, inL_0, rfl⟩, Out.refl _ _, ⟨rfl, trivial⟩⟩ ?_
     rintro i w7 _ ⟨hil, hin, rfl⟩
     refine W_seq ?_
     refine W_seq ?_
     refine W_reg ?_
     refine L_op rfl (X_move (v := (.int .i64 (((i : Nat) : Int)))) rfl ?_)
     refine L_op rfl (X_fldP (b := b1) (o := 0) (r := 2) Fd25_2 rfl rfl ?_)
     refine L_op rfl (X_load (p := (ptr b1 (2))) (v := s.lv) T23 rfl (hB1.at1 rfl) ?_)
     refine L_op rfl (X_len (v := s.lv) (n := s.ls.length) Try.underlying23 rfl hs.2.sv ?_)
     by_cases hc8 : (((i : Nat) : Int) : Int) < (((s.ls.length : Nat) : Int))
     ·refine L_op rfl (X_cmp (k := .i64) (a := ((i : Nat) : Int)) (b := ((s.ls.length : Nat) : Int)) (r := true) rfl rfl rfl (decide_eq_true (p := ((((i : Nat) : Int)) : Int) < ((((s.ls.length : Nat) : Int)) : Int)) (by omega)) ?_)
      obtain ⟨x, hx⟩ : ∃ x, s.ls[i]? = some x := ⟨_, List.getElem?_eq_getElem (by omega)⟩
      have hst := inL_step (us := s.us) hx
      have hbf := bef4 hin hil
      refine L_nil ?_
      refine T_n ?_
      refine W_ct rfl ?_
      refine W_skip ?_
      refine T_n ?_
      refine W_seq ?_
      refine W_block ?_
      refine W_seq ?_
      refine W_reg ?_
      refine L_op rfl (X_fldP (b := b1) (o := 0) (r := 2) Fd25_2 rfl rfl ?_)
      refine L_op rfl (X_load (p := (ptr b1 (2))) (v := s.lv) T23 rfl (hB1.at1 rfl) ?_)
      refine L_op rfl (X_move (v := (.int .i64 (((i : Nat) : Int)))) rfl ?_)
      refine L_op rfl (X_idx (v := s.lv) (n := s.ls.length) (k := .i64) (i := ((i : Nat) : Int)) S23 rfl hs.2.sv rfl (by omega) (by omega) ?_)
      refine L_op rfl (X_fldS (v := s.lv) (o := (((i : Nat) : Int) : Int).toNat * 2) Fd44_0 rfl hs.2.sv (by omega) ?_)
      refine L_op rfl (X_load (p := (pof s.lv ((((i : Nat) : Int) : Int).toNat * 2 + 0))) (v := .int .i64 x.1) T3 rfl (lat hs.2 (Int.toNat_natCast _) hx) ?_)
      refine L_op rfl (X_assign (v := (.int .i64 (x.1))) rfl ?_)
      refine L_nil ?_
      refine T_n ?_
      refine W_seq ?_
      refine W_reg ?_
      refine L_op rfl (X_move (v := (.int .i64 (x.1))) rfl ?_)
      by_cases hc9 : (x.1 : Int) < (4)
      ·refine L_op rfl (X_cmp (k := .i64) (a := x.1) (b := 4) (r := true) rfl rfl rfl (decide_eq_true (p := ((x.1) : Int) < ((4) : Int)) (by omega)) ?_)
       refine L_op rfl (X_move (v := (.bool (true))) rfl ?_)
       refine L_gn (dj := 47) (t := true) rfl rfl rfl rfl ?_
       refine L_gn (dj := 47) (t := true) rfl rfl rfl rfl ?_
       refine L_gn (dj := 47) (t := true) rfl rfl rfl rfl ?_
       refine L_gn (dj := 47) (t := true) rfl rfl rfl rfl ?_
       refine L_op rfl (X_pick (t := true) (v := (.bool (true))) rfl rfl ?_)
       refine L_op rfl (X_move (v := (.bool (true))) rfl ?_)
       refine L_gn (dj := 53) (t := true) rfl rfl rfl rfl ?_
       refine L_gn (dj := 53) (t := true) rfl rfl rfl rfl ?_
       refine L_gn (dj := 53) (t := true) rfl rfl rfl rfl ?_
       refine L_gn (dj := 53) (t := true) rfl rfl rfl rfl ?_
       refine L_gn (dj := 53) (t := true) rfl rfl rfl rfl ?_
       refine L_gn (dj := 53) (t := true) rfl rfl rfl rfl ?_
       refine L_op rfl (X_pick (t := true) (v := (.bool (true))) rfl rfl ?_)
       refine L_op rfl (X_move (v := (.bool (true))) rfl ?_)
       refine L_gn (dj := 61) (t := true) rfl rfl rfl rfl ?_
       refine L_gn (dj := 61) (t := true) rfl rfl rfl rfl ?_
       refine L_gn (dj := 61) (t := true) rfl rfl rfl rfl ?_
       refine L_gu (dj := 64) rfl rfl rfl ?_
       refine L_gu (dj := 64) rfl rfl rfl ?_
       refine L_gu (dj := 64) rfl rfl rfl ?_
       refine L_gu (dj := 64) rfl rfl rfl ?_
       refine L_gu (dj := 64) rfl rfl rfl ?_
       refine L_gu (dj := 64) rfl rfl rfl ?_
       refine L_gu (dj := 64) rfl rfl rfl ?_
       refine L_gu (dj := 64) rfl rfl rfl ?_
       refine L_gu (dj := 64) rfl rfl rfl ?_
       refine L_gn (dj := 61) (t := true) rfl rfl rfl rfl ?_
       refine L_op rfl (X_pick (t := true) (v := (.bool (true))) rfl rfl ?_)
       refine L_nil ?_
       refine T_n ?_
       refine W_ct rfl ?_
       refine W_seq ?_
       refine W_reg ?_
       refine L_op rfl (X_assign (v := (.bool (false))) rfl ?_)
       refine L_nil ?_
       refine T_n ?_
       refine W_ret ?_
       refine B_r ?_
       refine T_r ?_
       refine T_r ?_
       refine B_r ?_
       refine T_r ?_
       exact BQ_r (End_1 Try.results7 (v := .bool false) rfl ⟨⟨false, rfl, ⟨fun h_ => (by cases h_), fun h_ => (by have h1_ := (hst.1 (fun j y hj => h_.2 j y (by omega))).2; omega)⟩⟩, hU.own hn0⟩)
      ·refine L_op rfl (X_cmp (k := .i64) (a := x.1) (b := 4) (r := false) rfl rfl rfl (decide_eq_false (p := ((x.1) : Int) < ((4) : Int)) (by omega)) ?_)
       refine L_op rfl (X_move (v := (.bool (false))) rfl ?_)
       refine L_gy (dj := 47) rfl rfl rfl (X_move (v := (.int .i64 (x.1))) rfl ?_)
       refine L_gy (dj := 47) rfl rfl rfl (X_fldP (b := b1) (o := 0) (r := 0) Fd25_0 rfl rfl ?_)
       refine L_gy (dj := 47) rfl rfl rfl (X_load (p := (ptr b1 (0))) (v := (.int .i64 (s.sz))) T3 rfl (hB1.at1 rfl) ?_)
       by_cases hc10 : (x.1 : Int) ≥ (s.sz)
       ·refine L_gy (dj := 47) rfl rfl rfl (X_cmp (k := .i64) (a := x.1) (b := s.sz) (r := true) rfl rfl rfl (decide_eq_true (p := ((s.sz) : Int) ≤ ((x.1) : Int)) (by omega)) ?_)
        refine L_op rfl (X_pick (t := false) (v := (.bool (true))) rfl rfl ?_)
        refine L_op rfl (X_move (v := (.bool (true))) rfl ?_)
        refine L_gn (dj := 53) (t := true) rfl rfl rfl rfl ?_
        refine L_gn (dj := 53) (t := true) rfl rfl rfl rfl ?_
        refine L_gn (dj := 53) (t := true) rfl rfl rfl rfl ?_
        refine L_gn (dj := 53) (t := true) rfl rfl rfl rfl ?_
        refine L_gn (dj := 53) (t := true) rfl rfl rfl rfl ?_
        refine L_gn (dj := 53) (t := true) rfl rfl rfl rfl ?_
        refine L_op rfl (X_pick (t := true) (v := (.bool (true))) rfl rfl ?_)
        refine L_op rfl (X_move (v := (.bool (true))) rfl ?_)
        refine L_gn (dj := 61) (t := true) rfl rfl rfl rfl ?_
        refine L_gn (dj := 61) (t := true) rfl rfl rfl rfl ?_
        refine L_gn (dj := 61) (t := true) rfl rfl rfl rfl ?_
        refine L_gu (dj := 64) rfl rfl rfl ?_
        refine L_gu (dj := 64) rfl rfl rfl ?_
        refine L_gu (dj := 64) rfl rfl rfl ?_
        refine L_gu (dj := 64) rfl rfl rfl ?_
        refine L_gu (dj := 64) rfl rfl rfl ?_
        refine L_gu (dj := 64) rfl rfl rfl ?_
        refine L_gu (dj := 64) rfl rfl rfl ?_
        refine L_gu (dj := 64) rfl rfl rfl ?_
        refine L_gu (dj := 64) rfl rfl rfl ?_
        refine L_gn (dj := 61) (t := true) rfl rfl rfl rfl ?_
        refine L_op rfl (X_pick (t := true) (v := (.bool (true))) rfl rfl ?_)
        refine L_nil ?_
        refine T_n ?_
        refine W_ct rfl ?_
        refine W_seq ?_
        refine W_reg ?_
        refine L_op rfl (X_assign (v := (.bool (false))) rfl ?_)
        refine L_nil ?_
        refine T_n ?_
        refine W_ret ?_
        refine B_r ?_
        refine T_r ?_
        refine T_r ?_
        refine B_r ?_
        refine T_r ?_
        exact BQ_r (End_1 Try.results7 (v := .bool false) rfl ⟨⟨false, rfl, ⟨fun h_ => (by cases h_), fun h_ => (by have h1_ := (hst.1 (fun j y hj => h_.2 j y (by omega))).2; omega)⟩⟩, hU.own hn0⟩)
       ·refine L_gy (dj := 47) rfl rfl rfl (X_cmp (k := .i64) (a := x.1) (b := s.sz) (r := false) rfl rfl rfl (decide_eq_false (p := ((s.sz) : Int) ≤ ((x.1) : Int)) (by omega)) ?_)
        refine L_op rfl (X_pick (t := false) (v := (.bool (false))) rfl rfl ?_)
        refine L_op rfl (X_move (v := (.bool (false))) rfl ?_)
        refine L_gy (dj := 53) rfl rfl rfl (X_fldP (b := b1) (o := 0) (r := 1) Fd25_1 rfl rfl ?_)
        refine L_gy (dj := 53) rfl rfl rfl (X_load (p := (ptr b1 (1))) (v := s.uv) T22 rfl (hB1.at1 rfl) ?_)
        refine L_gy (dj := 53) rfl rfl rfl (X_move (v := (.int .i64 (x.1))) rfl ?_)
        refine L_gy (dj := 53) rfl rfl rfl (X_idx (v := s.uv) (n := s.us.length) (k := .i64) (i := x.1) S22 rfl hs.1.sv rfl (by omega) (by omega) ?_)
        obtain ⟨bx, hbx⟩ : ∃ b, s.us[x.1.toNat]? = some b := ⟨_, List.getElem?_eq_getElem (by omega)⟩
        rcases Bool.eq_false_or_eq_true bx with rfl | rfl
        ·refine L_gy (dj := 53) rfl rfl rfl (X_load (p := (pof s.uv ((x.1 : Int).toNat * 1))) (v := .bool true) T4 rfl (bat hs.1 rfl hbx) ?_)
         refine L_gy (dj := 53) rfl rfl rfl (X_not (b := true) (r := false) rfl rfl ?_)
         refine L_op rfl (X_pick (t := false) (v := (.bool (false))) rfl rfl ?_)
         refine L_op rfl (X_move (v := (.bool (false))) rfl ?_)
         refine L_gy (dj := 61) rfl rfl rfl (X_move (v := (.int .i64 (((i : Nat) : Int)))) rfl ?_)
         by_cases hc11 : (((i : Nat) : Int) : Int) > (0)
         ·refine L_gy (dj := 61) rfl rfl rfl (X_cmp (k := .i64) (a := ((i : Nat) : Int)) (b := 0) (r := true) rfl rfl rfl (decide_eq_true (p := ((0) : Int) < ((((i : Nat) : Int)) : Int)) (by omega)) ?_)
          refine L_gy (dj := 61) rfl rfl rfl (X_move (v := (.bool (true))) rfl ?_)
          refine L_gy (dj := 64) rfl rfl rfl (X_fldP (b := b1) (o := 0) (r := 2) Fd25_2 rfl rfl ?_)
          refine L_gy (dj := 64) rfl rfl rfl (X_load (p := (ptr b1 (2))) (v := s.lv) T23 rfl (hB1.at1 rfl) ?_)
          refine L_gy (dj := 64) rfl rfl rfl (X_move (v := (.int .i64 (((i : Nat) : Int)))) rfl ?_)
          refine L_gy (dj := 64) rfl rfl rfl (X_arith (k := .i64) (a := ((i : Nat) : Int)) (b := 1) (r := ((i - 1 : Nat) : Int)) rfl rfl rfl (isub64 (by omega) (by omega) (by omega)) ?_)
          refine L_gy (dj := 64) rfl rfl rfl (X_idx (v := s.lv) (n := s.ls.length) (k := .i64) (i := ((i - 1 : Nat) : Int)) S23 rfl hs.2.sv rfl (by omega) (by omega) ?_)
          refine L_gy (dj := 64) rfl rfl rfl (X_fldS (v := s.lv) (o := (((i - 1 : Nat) : Int) : Int).toNat * 2) Fd44_0 rfl hs.2.sv (by omega) ?_)
          obtain ⟨y, hy⟩ : ∃ y, s.ls[i - 1]? = some y := ⟨_, List.getElem?_eq_getElem (by omega)⟩
          have hby := befS_p (by omega) hy
          refine L_gy (dj := 64) rfl rfl rfl (X_load (p := (pof s.lv ((((i - 1 : Nat) : Int) : Int).toNat * 2 + 0))) (v := .int .i64 y.1) T3 rfl (lat hs.2 (by omega) hy) ?_)
          refine L_gy (dj := 64) rfl rfl rfl (X_move (v := (.int .i64 (x.1))) rfl ?_)
          by_cases hc12 : (y.1 : Int) ≥ (x.1)
          ·refine L_gy (dj := 64) rfl rfl rfl (X_cmp (k := .i64) (a := y.1) (b := x.1) (r := true) rfl rfl rfl (decide_eq_true (p := ((x.1) : Int) ≤ ((y.1) : Int)) (by omega)) ?_)
           refine L_gy (dj := 61) rfl rfl rfl (X_pick (t := true) (v := (.bool (true))) rfl rfl ?_)
           refine L_op rfl (X_pick (t := false) (v := (.bool (true))) rfl rfl ?_)
           refine L_nil ?_
           refine T_n ?_
           refine W_ct rfl ?_
           refine W_seq ?_
           refine W_reg ?_
           refine L_op rfl (X_assign (v := (.bool (false))) rfl ?_)
           refine L_nil ?_
           refine T_n ?_
           refine W_ret ?_
           refine B_r ?_
           refine T_r ?_
           refine T_r ?_
           refine B_r ?_
           refine T_r ?_
           exact BQ_r (End_1 Try.results7 (v := .bool false) rfl ⟨⟨false, rfl, ⟨fun h_ => (by cases h_), fun h_ => (by have h1_ := (hst.1 (fun j y hj => h_.2 j y (by omega))).2; omega)⟩⟩, hU.own hn0⟩)
          ·refine L_gy (dj := 64) rfl rfl rfl (X_cmp (k := .i64) (a := y.1) (b := x.1) (r := false) rfl rfl rfl (decide_eq_false (p := ((x.1) : Int) ≤ ((y.1) : Int)) (by omega)) ?_)
           refine L_gy (dj := 61) rfl rfl rfl (X_pick (t := true) (v := (.bool (false))) rfl rfl ?_)
           refine L_op rfl (X_pick (t := false) (v := (.bool (false))) rfl rfl ?_)
           refine L_nil ?_
           refine T_n ?_
           refine W_cf rfl ?_
           refine W_skip ?_
           refine B_n ?_
           refine T_n ?_
           refine W_reg ?_
           refine L_op rfl (X_move (v := (.int .i64 (((i : Nat) : Int)))) rfl ?_)
           refine L_op rfl (X_arith (k := .i64) (a := ((i : Nat) : Int)) (b := 1) (r := ((i + 1 : Nat) : Int)) rfl rfl rfl (iadd64 (by omega) (by omega) (by omega)) ?_)
           refine L_op rfl (X_assign (v := (.int .i64 (((i + 1 : Nat) : Int)))) rfl ?_)
           refine L_nil ?_
           refine T_n ?_
           exact ⟨rfl, i + 1, ⟨⟨by omega, hst.2 ⟨hin, by omega, by omega, by omega, hbx⟩, rfl⟩, (by show s.ls.length - (i + 1) < s.ls.length - i; omega)⟩, (Out.mk rfl), ⟨rfl, trivial⟩⟩
         ·refine L_gy (dj := 61) rfl rfl rfl (X_cmp (k := .i64) (a := ((i : Nat) : Int)) (b := 0) (r := false) rfl rfl rfl (decide_eq_false (p := ((0) : Int) < ((((i : Nat) : Int)) : Int)) (by omega)) ?_)
          have hb0 : befS s.ls i = 3 := by rw [show i = 0 by omega]; rfl
          refine L_gy (dj := 61) rfl rfl rfl (X_move (v := (.bool (false))) rfl ?_)
          refine L_gn (dj := 64) (t := false) rfl rfl rfl rfl ?_
          refine L_gn (dj := 64) (t := false) rfl rfl rfl rfl ?_
          refine L_gn (dj := 64) (t := false) rfl rfl rfl rfl ?_
          refine L_gn (dj := 64) (t := false) rfl rfl rfl rfl ?_
          refine L_gn (dj := 64) (t := false) rfl rfl rfl rfl ?_
          refine L_gn (dj := 64) (t := false) rfl rfl rfl rfl ?_
          refine L_gn (dj := 64) (t := false) rfl rfl rfl rfl ?_
          refine L_gn (dj := 64) (t := false) rfl rfl rfl rfl ?_
          refine L_gn (dj := 64) (t := false) rfl rfl rfl rfl ?_
          refine L_gy (dj := 61) rfl rfl rfl (X_pick (t := false) (v := (.bool (false))) rfl rfl ?_)
          refine L_op rfl (X_pick (t := false) (v := (.bool (false))) rfl rfl ?_)
          refine L_nil ?_
          refine T_n ?_
          refine W_cf rfl ?_
          refine W_skip ?_
          refine B_n ?_
          refine T_n ?_
          refine W_reg ?_
          refine L_op rfl (X_move (v := (.int .i64 (((i : Nat) : Int)))) rfl ?_)
          refine L_op rfl (X_arith (k := .i64) (a := ((i : Nat) : Int)) (b := 1) (r := ((i + 1 : Nat) : Int)) rfl rfl rfl (iadd64 (by omega) (by omega) (by omega)) ?_)
          refine L_op rfl (X_assign (v := (.int .i64 (((i + 1 : Nat) : Int)))) rfl ?_)
          refine L_nil ?_
          refine T_n ?_
          exact ⟨rfl, i + 1, ⟨⟨by omega, hst.2 ⟨hin, by omega, by omega, by omega, hbx⟩, rfl⟩, (by show s.ls.length - (i + 1) < s.ls.length - i; omega)⟩, (Out.mk rfl), ⟨rfl, trivial⟩⟩
        ·refine L_gy (dj := 53) rfl rfl rfl (X_load (p := (pof s.uv ((x.1 : Int).toNat * 1))) (v := .bool false) T4 rfl (bat hs.1 rfl hbx) ?_)
         refine L_gy (dj := 53) rfl rfl rfl (X_not (b := false) (r := true) rfl rfl ?_)
         refine L_op rfl (X_pick (t := false) (v := (.bool (true))) rfl rfl ?_)
         refine L_op rfl (X_move (v := (.bool (true))) rfl ?_)
         refine L_gn (dj := 61) (t := true) rfl rfl rfl rfl ?_
         refine L_gn (dj := 61) (t := true) rfl rfl rfl rfl ?_
         refine L_gn (dj := 61) (t := true) rfl rfl rfl rfl ?_
         refine L_gu (dj := 64) rfl rfl rfl ?_
         refine L_gu (dj := 64) rfl rfl rfl ?_
         refine L_gu (dj := 64) rfl rfl rfl ?_
         refine L_gu (dj := 64) rfl rfl rfl ?_
         refine L_gu (dj := 64) rfl rfl rfl ?_
         refine L_gu (dj := 64) rfl rfl rfl ?_
         refine L_gu (dj := 64) rfl rfl rfl ?_
         refine L_gu (dj := 64) rfl rfl rfl ?_
         refine L_gu (dj := 64) rfl rfl rfl ?_
         refine L_gn (dj := 61) (t := true) rfl rfl rfl rfl ?_
         refine L_op rfl (X_pick (t := true) (v := (.bool (true))) rfl rfl ?_)
         refine L_nil ?_
         refine T_n ?_
         refine W_ct rfl ?_
         refine W_seq ?_
         refine W_reg ?_
         refine L_op rfl (X_assign (v := (.bool (false))) rfl ?_)
         refine L_nil ?_
         refine T_n ?_
         refine W_ret ?_
         refine B_r ?_
         refine T_r ?_
         refine T_r ?_
         refine B_r ?_
         refine T_r ?_
         exact BQ_r (End_1 Try.results7 (v := .bool false) rfl ⟨⟨false, rfl, ⟨fun h_ => (by cases h_), fun h_ => (by have h1_ := (hst.1 (fun j y hj => h_.2 j y (by omega))).2; rw [hbx] at h1_; cases h1_.2.2.2)⟩⟩, hU.own hn0⟩)
     ·refine L_op rfl (X_cmp (k := .i64) (a := ((i : Nat) : Int)) (b := ((s.ls.length : Nat) : Int)) (r := false) rfl rfl rfl (decide_eq_false (p := ((((i : Nat) : Int)) : Int) < ((((s.ls.length : Nat) : Int)) : Int)) (by omega)) ?_)
      replace hin : InL s.us s.ls s.ls.length := by rw [show s.ls.length = i by omega]; exact hin
      refine L_nil ?_
      refine T_n ?_
      refine W_cf rfl ?_
      refine W_exit ?_
      refine T_e ?_
      refine T_e ?_
      refine B_x ?_
      refine T_n ?_
      refine W_seq ?_
      refine W_reg ?_
      refine L_op rfl (X_assign (v := (.bool (true))) rfl ?_)
      refine L_nil ?_
      refine T_n ?_
      refine W_ret ?_
      exact BQ_r (End_1 Try.results7 (v := .bool true) rfl ⟨⟨true, rfl, ⟨fun _ => ⟨⟨⟨by omega, by omega, by omega⟩, hfour⟩, hin⟩, fun _ => rfl⟩⟩, hU.own hn0⟩)
end Go.Proofs.Ytmaikcnjgkoghaa
