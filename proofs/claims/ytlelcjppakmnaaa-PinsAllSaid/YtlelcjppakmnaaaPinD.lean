/-
  More contracts of chapter 14: all commits. (Printed by wip/gen/t14d.py of this repo.)
-/
import Derived.Test.YtlelcjppakmnaaaPinC
import Derived.Test.YtlelcjppakmnaaaBaseQ
namespace Go.Proofs.Ytlelcjppakmnaaa
open Go Go.SL Go.Proofs
set_option linter.unusedVariables false

theorem u8_i64 (b : UInt8) : IntKind.i64.wrap ((b.toNat : Nat) : Int) = ((b.toNat : Nat) : Int) := i64_wrap (by omega) (by have := b.toNat_lt; omega)

set_option maxRecDepth 20000 in
theorem c_len64 (x : Nat) (w : World) (hx : x ≤ 12) : CT Try.prog 34 #[(.int .u64 (((x : Nat) : Int)))] w fun v w' => (∃ r : Int, v = .int .i64 r) ∧ w = w' := by
  refine CT_of Try.func34 rfl rfl rfl ?_
  refine W_seq ?_
  refine W_reg ?_
  refine L_op rfl (X_assign (v := (.int .i64 (0))) rfl ?_)
  refine L_nil ?_
  refine T_n ?_
  refine W_seq ?_
  refine W_seq ?_
  refine W_reg ?_
  refine L_op rfl (X_move (v := (.int .u64 (((x : Nat) : Int)))) rfl ?_)
  refine L_op rfl (X_cmp (k := .u64) (a := ((x : Nat) : Int)) (b := 4294967296) (r := false) rfl rfl rfl (decide_eq_false (p := ((4294967296) : Int) ≤ ((((x : Nat) : Int)) : Int)) (by omega)) ?_)
  refine L_nil ?_
  refine T_n ?_
  refine W_cf rfl ?_
  refine W_skip ?_
  refine T_n ?_
  refine W_seq ?_
  refine W_seq ?_
  refine W_reg ?_
  refine L_op rfl (X_move (v := (.int .u64 (((x : Nat) : Int)))) rfl ?_)
  refine L_op rfl (X_cmp (k := .u64) (a := ((x : Nat) : Int)) (b := 65536) (r := false) rfl rfl rfl (decide_eq_false (p := ((65536) : Int) ≤ ((((x : Nat) : Int)) : Int)) (by omega)) ?_)
  refine L_nil ?_
  refine T_n ?_
  refine W_cf rfl ?_
  refine W_skip ?_
  refine T_n ?_
  refine W_seq ?_
  refine W_seq ?_
  refine W_reg ?_
  refine L_op rfl (X_move (v := (.int .u64 (((x : Nat) : Int)))) rfl ?_)
  refine L_op rfl (X_cmp (k := .u64) (a := ((x : Nat) : Int)) (b := 256) (r := false) rfl rfl rfl (decide_eq_false (p := ((256) : Int) ≤ ((((x : Nat) : Int)) : Int)) (by omega)) ?_)
  refine L_nil ?_
  refine T_n ?_
  refine W_cf rfl ?_
  refine W_skip ?_
  refine T_n ?_
  refine W_seq ?_
  refine W_reg ?_
  refine L_op rfl (X_move (v := (.int .i64 (0))) rfl ?_)
  refine L_op rfl (X_move (v := (.int .u64 (((x : Nat) : Int)))) rfl ?_)
  refine L_op rfl (X_convInt (k := .u64) (a := ((x : Nat) : Int)) (r := ((x : Nat) : Int)) (by rw [Try.underlying70]; rfl) Try.underlying5 rfl (u8_wrap_nat (by omega)) ?_)
  refine L_op rfl (X_strAtE (i := x) rfl rfl (show x < 256 by omega) (fun bb => ?_) Try.underlying9)
  refine L_op rfl (X_convInt (k := .u8) (a := ((bb.toNat : Nat) : Int)) (r := ((bb.toNat : Nat) : Int)) (by rw [Try.underlying5]; rfl) Try.underlying3 rfl (u8_i64 bb) ?_)
  refine L_op rfl (X_arith (k := .i64) (a := 0) (b := ((bb.toNat : Nat) : Int)) (r := ((bb.toNat : Nat) : Int)) rfl rfl rfl (iadd64 (by omega) (by omega) (by have := bb.toNat_lt; omega)) ?_)
  refine L_op rfl (X_assign (v := (.int .i64 (((bb.toNat : Nat) : Int)))) rfl ?_)
  refine L_nil ?_
  refine T_n ?_
  refine W_ret ?_
  exact BQ_r (End_1 Try.results34 (v := .int .i64 ((bb.toNat : Nat) : Int)) rfl ⟨⟨_, rfl⟩, rfl⟩)

theorem c_blen (x : Nat) (w : World) (hx : x ≤ 12) : CT Try.prog 23 #[(.int .u64 (((x : Nat) : Int)))] w fun v w' => (∃ r : Int, v = .int .i64 r) ∧ w = w' := by
  refine CT_of Try.func23 rfl rfl rfl ?_
  refine W_seq ?_
  refine W_reg ?_
  refine L_op rfl (X_assign (v := (.int .i64 (0))) rfl ?_)
  refine L_nil ?_
  refine T_n ?_
  refine W_seq ?_
  refine W_cf rfl ?_
  refine W_skip ?_
  refine T_n ?_
  refine W_seq ?_
  refine W_reg ?_
  refine L_op rfl (X_move (v := (.int .u64 (((x : Nat) : Int)))) rfl ?_)
  refine L_op rfl (X_fn (vs := [(.int .u64 (((x : Nat) : Int)))]) en34 rfl (CT.mono (c_len64 x _ hx) ?_))
  rintro _ _ ⟨⟨r, rfl⟩, rfl⟩
  refine L_op rfl (X_assign (v := (.int .i64 (r))) rfl ?_)
  refine L_nil ?_
  refine T_n ?_
  refine W_ret ?_
  exact BQ_r (End_1 Try.results23 (v := .int .i64 r) rfl ⟨⟨_, rfl⟩, rfl⟩)

theorem c_pdq (s : Value) (zs : List Int) (r : Int) (w : World) (B : Nat) (hO : Own w B 23 1 s zs.length (zs.map u32V)) (hl : zs.length ≤ 12) : CT Try.prog 22 #[s, (.int .i64 (0)), (.int .i64 (((zs.length : Nat) : Int))), (.int .i64 (r))] w fun v w' => v = .tuple #[] ∧ ∃ ys : List Int, ys.Perm zs ∧ ys.Pairwise (· ≤ ·) ∧ Own w' B 23 1 s zs.length (ys.map u32V) ∧ Upd (fun i => obk s = some i) w w' := by
  have hsv := hO.sv
  refine CT_of Try.func22 rfl rfl rfl ?_
  refine W_seq ?_
  refine W_reg ?_
  refine L_op rfl (X_assign (v := (.bool (true))) rfl ?_)
  refine L_nil ?_
  refine T_n ?_
  refine W_seq ?_
  refine W_reg ?_
  refine L_op rfl (X_assign (v := (.bool (true))) rfl ?_)
  refine L_nil ?_
  refine T_n ?_
  refine W_block ?_
  refine W_loop (α := Unit) [1, 2, 3, 8, 9, 10, 11, 12, 13, 14, 15, 16, 17, 18, 19, 20, 21, 22, 23, 24, 25, 26, 27, 28, 29, 30, 31, 32, 33, 34, 35, 36, 37, 38, 39, 40, 41, 42, 43, 44, 45, 46, 47, 48, 49, 50, 51, 52, 53, 54, 55, 56, 57, 58, 59, 60, 61, 62, 63, 64, 65, 66, 67, 68, 69, 70, 71, 72, 73, 74, 75, 76, 77, 78, 79, 80, 81, 82, 83, 84, 85, 86, 87, 88, 89, 90, 91, 92, 93, 94, 95, 96, 97, 98, 99, 100, 101, 102, 103, 104, 105, 106, 107, 108, 109, 110, 111, 112, 113, 114, 115, 116, 117, 118, 119, 120, 121, 122, 123, 124, 125, 126, 127, 128, 129, 130, 131, 132, 133] (fun _u => [(1, (.int .i64 (0))), (2, (.int .i64 (((zs.length : Nat) : Int)))), (3, (.int .i64 (r)))]) (fun _u w_ => w = w_) (fun _u => 0) ⟨rfl, (), rfl, Out.refl _ _, ⟨rfl, rfl, rfl, trivial⟩⟩ ?_
  rintro _u w1 _ rfl
  refine W_block ?_
  refine W_seq ?_
  refine W_reg ?_
  refine L_op rfl (X_move (v := (.int .i64 (((zs.length : Nat) : Int)))) rfl ?_)
  refine L_op rfl (X_move (v := (.int .i64 (0))) rfl ?_)
  refine L_op rfl (X_arith (k := .i64) (a := ((zs.length : Nat) : Int)) (b := 0) (r := ((zs.length : Nat) : Int)) rfl rfl rfl (isub64 (by omega) (by omega) (by omega)) ?_)
  refine L_op rfl (X_assign (v := (.int .i64 (((zs.length : Nat) : Int)))) rfl ?_)
  refine L_nil ?_
  refine T_n ?_
  refine W_seq ?_
  refine W_seq ?_
  refine W_reg ?_
  refine L_op rfl (X_move (v := (.int .i64 (((zs.length : Nat) : Int)))) rfl ?_)
  refine L_op rfl (X_cmp (k := .i64) (a := ((zs.length : Nat) : Int)) (b := 12) (r := true) rfl rfl rfl (decide_eq_true (p := ((((zs.length : Nat) : Int)) : Int) ≤ ((12) : Int)) (by omega)) ?_)
  refine L_nil ?_
  refine T_n ?_
  refine W_ct rfl ?_
  refine W_seq ?_
  refine W_reg ?_
  refine L_op rfl (X_move (v := s) rfl ?_)
  refine L_op rfl (X_move (v := (.int .i64 (0))) rfl ?_)
  refine L_op rfl (X_move (v := (.int .i64 (((zs.length : Nat) : Int)))) rfl ?_)
  refine L_op rfl (X_fn (vs := [s, (.int .i64 (0)), (.int .i64 (((zs.length : Nat) : Int)))]) en24 rfl (CT.mono (c_insort s zs _ B hO hl) ?_))
  rintro _ w9 ⟨rfl, ys, hpe, hpw, hO9, hV9⟩
  refine L_nil ?_
  refine T_n ?_
  refine W_ret ?_
  refine T_r ?_
  refine B_r ?_
  refine T_r ?_
  refine B_r ?_
  exact BQ_r (End_0 Try.results22 ⟨rfl, ys, hpe, hpw, hO9, hV9⟩)

theorem c_sort (s : Value) (zs : List Int) (w : World) (B : Nat) (hO : Own w B 23 1 s zs.length (zs.map u32V)) (hl : zs.length ≤ 12) : CT Try.prog 19 #[s] w fun v w' => v = .tuple #[] ∧ ∃ ys : List Int, ys.Perm zs ∧ ys.Pairwise (· ≤ ·) ∧ Own w' B 23 1 s zs.length (ys.map u32V) ∧ Upd (fun i => obk s = some i) w w' := by
  have hsv := hO.sv
  refine CT_of Try.func19 rfl rfl rfl ?_
  refine W_seq ?_
  refine W_reg ?_
  refine L_op rfl (X_move (v := s) rfl ?_)
  refine L_op rfl (X_len (v := s) (n := zs.length) Try.underlying27 rfl hsv ?_)
  refine L_op rfl (X_assign (v := (.int .i64 (((zs.length : Nat) : Int)))) rfl ?_)
  refine L_nil ?_
  refine T_n ?_
  refine W_reg ?_
  refine L_op rfl (X_move (v := s) rfl ?_)
  refine L_op rfl (X_move (v := (.int .i64 (((zs.length : Nat) : Int)))) rfl ?_)
  refine L_op rfl (X_move (v := (.int .i64 (((zs.length : Nat) : Int)))) rfl ?_)
  refine L_op rfl (X_convInt (k := .i64) (a := ((zs.length : Nat) : Int)) (r := ((zs.length : Nat) : Int)) (by rw [Try.underlying3]; rfl) Try.underlying59 rfl (u64_wrap (by omega) (by omega)) ?_)
  refine L_op rfl (X_fn (vs := [(.int .u64 (((zs.length : Nat) : Int)))]) en23 rfl (CT.mono (c_blen zs.length _ hl) ?_))
  rintro _ _ ⟨⟨r, rfl⟩, rfl⟩
  refine L_op rfl (X_fn (vs := [s, (.int .i64 (0)), (.int .i64 (((zs.length : Nat) : Int))), (.int .i64 (r))]) en22 rfl (CT.mono (c_pdq s zs r _ B hO hl) ?_))
  rintro _ w9 ⟨rfl, ys, hpe, hpw, hO9, hV9⟩
  refine L_nil ?_
  exact BQ_n (End_0 Try.results19 ⟨rfl, ys, hpe, hpw, hO9, hV9⟩)

theorem c_sorted (b x1 : Nat) (on : List Bool) (tx : List Int) (w : World) (hX : Blk w x1 #[(.slice (some ⟨b, 0, none⟩) 8 8), (.slice (some ⟨b, 8, none⟩) 8 8)] 48) (hP : Blk w b (pinC on tx).toArray 26) (hon : on.length = 8) (htx : tx.length = 8) : CT Try.prog 13 #[(.func (.func 20) #[] #[ptr x1 0])] w fun v w' => ∃ ys : List Int, ys.Perm (openL on tx) ∧ ys.Pairwise (· ≤ ·) ∧ ys.length ≤ 8 ∧ Own w' w.heap.size 23 1 v ys.length (ys.map u32V) ∧ Ext w w' := by
  obtain ⟨n0, hn0⟩ : ∃ n, n = w.heap.size := ⟨_, rfl⟩
  have hU : Upd (fun i => n0 ≤ i) w w := Upd.refl _ _
  refine CT_of Try.func13 rfl rfl rfl ?_
  refine W_seq ?_
  refine W_reg ?_
  refine L_op rfl (X_assign (v := (.slice none 0 0)) rfl ?_)
  refine L_nil ?_
  refine T_n ?_
  refine W_seq ?_
  refine W_reg ?_
  refine L_op rfl (X_move (v := (.func (.func 20) #[] #[ptr x1 0])) rfl ?_)
  refine L_op rfl (X_fn (vs := [(.func (.func 20) #[] #[ptr x1 0])]) en18 rfl (CT.mono (c_collect b x1 on tx _ hX hP hon htx) ?_))
  rintro u w8 ⟨hO, hu8⟩
  have hl8 : (openL on tx).length ≤ 8 := by rw [open_len (by omega)]; have := List.countP_le_length (p := id) (l := on); omega
  replace hU := hU.trans (Ext.upd hu8)
  have hsv := hO.sv
  refine L_op rfl (X_assign (v := u) rfl ?_)
  refine L_nil ?_
  refine T_n ?_
  refine W_seq ?_
  refine W_reg ?_
  refine L_op rfl (X_move (v := u) rfl ?_)
  refine L_op rfl (X_fn (vs := [u]) en19 rfl (CT.mono (c_sort u (openL on tx) _ _ hO (by omega)) ?_))
  rintro _ w9 ⟨rfl, ys, hpe, hpw, hO9, hV9⟩
  have hob := fun i (hi : obk u = some i) => (hO.lt hi).1
  replace hU := hU.trans (hV9.mono fun i _ h => by have := hob i h; show n0 ≤ i; omega)
  refine L_nil ?_
  refine T_n ?_
  refine W_seq ?_
  refine W_reg ?_
  refine L_op rfl (X_move (v := u) rfl ?_)
  refine L_op rfl (X_assign (v := u) rfl ?_)
  refine L_nil ?_
  refine T_n ?_
  refine W_ret ?_
  exact BQ_r (End_1 Try.results13 (v := u) rfl ⟨ys, hpe, hpw, by rw [hpe.length_eq]; exact hl8, (hO9.more (by omega)).eq hpe.length_eq.symm rfl, hU.own hn0⟩)

def compK (bs : List Int) : Nat → List Int
  | 0 => []
  | k + 1 => if k ≠ 0 ∧ bs[k]? = bs[k - 1]? then compK bs k else compK bs k ++ (bs[k]?).toList
def compI (bs : List Int) : List Int := compK bs bs.length
theorem compK_hit {bs : List Int} {k : Nat} {a : Int} (h0 : 0 < k) (ha : bs[k]? = some a) (hb : bs[k - 1]? = some a) : compK bs (k + 1) = compK bs k := if_pos ⟨by omega, ha.trans hb.symm⟩
theorem compK_miss {bs : List Int} {k : Nat} {a b : Int} (ha : bs[k]? = some a) (hb : bs[k - 1]? = some b) (h : a ≠ b) : compK bs (k + 1) = compK bs k ++ [a] := by
  refine (if_neg fun h1 => h ?_).trans (by rw [ha]; rfl)
  have h2 := h1.2
  rw [ha, hb] at h2
  cases h2; rfl
theorem compK_one {bs : List Int} (h : 1 ≤ bs.length) : compK bs 1 = bs.take 1 := by
  obtain ⟨a, r, rfl⟩ : ∃ a r, bs = a :: r := by
    cases bs with
    | nil => cases h
    | cons a r => exact ⟨a, r, rfl⟩
  rfl
theorem compI_small {bs : List Int} (h : bs.length < 2) : compI bs = bs := by
  cases bs with
  | nil => rfl
  | cons a r =>
    cases r with
    | nil => rfl
    | cons b r => simp only [List.length_cons] at h; omega
theorem compK_take {bs : List Int} {i : Nat} {a : Int} (ha : bs[i]? = some a) (h : compK bs (i + 1) = compK bs i ++ [a]) (h2 : compK bs i = bs.take i) : compK bs (i + 1) = bs.take (i + 1) := by
  rw [h, h2, List.take_add_one, ha]; rfl
/-- of a row in order: what is told rises, has all that there is, and begins with the first one -/
theorem comp_law {bs : List Int} (hp : bs.Pairwise (· ≤ ·)) : ∀ k, k ≤ bs.length → (compK bs k).Pairwise (· < ·) ∧ (∀ z, z ∈ compK bs k ↔ z ∈ bs.take k) := by
  intro k
  induction k with
  | zero => intro _; exact ⟨List.Pairwise.nil, fun z => by rw [List.take_zero]; rfl⟩
  | succ k ih =>
    intro hk
    obtain ⟨h1, h2⟩ := ih (by omega)
    obtain ⟨a, ha⟩ : ∃ a, bs[k]? = some a := ⟨_, List.getElem?_eq_getElem (by omega)⟩
    have ht : bs.take (k + 1) = bs.take k ++ [a] := by rw [List.take_add_one, ha]; rfl
    have hmono : ∀ (i j : Nat) (x y : Int), i ≤ j → bs[i]? = some x → bs[j]? = some y → x ≤ y := by
      intro i j x y hij hx hy
      obtain ⟨l1, rfl⟩ := List.getElem?_eq_some_iff.1 hx
      obtain ⟨l2, rfl⟩ := List.getElem?_eq_some_iff.1 hy
      rcases Nat.lt_or_ge i j with h3 | h3
      · exact (List.pairwise_iff_getElem.1 hp) i j l1 l2 h3
      · obtain rfl : i = j := by omega
        exact Int.le_refl _
    by_cases hb : k ≠ 0 ∧ bs[k]? = bs[k - 1]?
    · have e : compK bs (k + 1) = compK bs k := if_pos hb
      rw [e, ht]
      refine ⟨h1, fun z => (h2 z).trans ⟨fun h => List.mem_append_left _ h, fun h => (List.mem_append.1 h).elim id fun h => ?_⟩⟩
      have hz : z = a := by simpa using h
      subst hz
      have h4 : bs[k - 1]? = some z := by rw [← hb.2]; exact ha
      exact List.mem_of_getElem? (i := k - 1) (by rw [List.getElem?_take_of_lt (by omega)]; exact h4)
    · have e : compK bs (k + 1) = compK bs k ++ [a] := (if_neg hb).trans (by rw [ha]; rfl)
      rw [e, ht]
      refine ⟨List.pairwise_append.2 ⟨h1, List.pairwise_singleton _ _, fun x hx y hy => ?_⟩, fun z => by rw [List.mem_append, List.mem_append, h2 z]⟩
      have hy' : y = a := by simpa using hy
      subst hy'
      have hx2 := (h2 x).1 hx
      obtain ⟨j, hj, hxj⟩ := List.getElem_of_mem hx2
      rw [List.length_take] at hj
      rw [List.getElem_take] at hxj
      have hxj' : bs[j]? = some x := by rw [List.getElem?_eq_getElem (by omega), hxj]
      have hk0 : k ≠ 0 := by omega
      obtain ⟨c, hc⟩ : ∃ c, bs[k - 1]? = some c := ⟨_, List.getElem?_eq_getElem (by omega)⟩
      have h5 := hmono j (k - 1) x c (by omega) hxj' hc
      have h6 := hmono (k - 1) k c y (by omega) hc ha
      have h7 : y ≠ c := fun e => hb ⟨hk0, by rw [ha, hc, e]⟩
      omega
def LU : Lay Int where
  cel n := [.int .u32 n]
  sub _ := []
  sz := 1
  len _ := rfl
  one n _ u hu := by
    have : u = .int .u32 n := by simpa using hu
    subst this; rfl
theorem liF (bs : List Int) : bs.flatMap LU.cel = bs.map u32V := by
  induction bs with
  | nil => rfl
  | cons a r ih => rw [List.flatMap_cons, ih]; rfl
theorem liTake (bs : List Int) (i : Nat) : (bs.flatMap LU.cel).take i = (bs.take i).flatMap LU.cel := by rw [liF, liF, List.map_take]
theorem liSet (bs : List Int) (i : Nat) (a : Int) : (bs.flatMap LU.cel).set i (.int .u32 a) = (bs.set i a).flatMap LU.cel := by rw [liF, liF, List.map_set]; rfl
theorem take_set_succ {xs : List Int} {i : Nat} {a : Int} (hi : i < xs.length) : (xs.set i a).take (i + 1) = xs.take i ++ [a] := by
  rw [List.take_add_one, List.getElem?_set_self hi]
  congr 1
  apply List.ext_getElem?
  intro j
  simp only [List.getElem?_take, List.getElem?_set]
  grind
theorem iat {w : World} {lo hi : Nat} {v : Value} {es : List Int} (h : NRd LU w lo hi v es) {i : Int} {k : Nat} {e : Int} (hik : i.toNat = k) (he : es[k]? = some e) : At w (pof v (i.toNat * 1)) [.int .u32 e] := by
  subst hik
  exact h.cells (L := LU) (j := 0) he fun j u hj => by rw [Nat.zero_add]; exact hj

theorem obk_cut0 {v : Value} {k n : Nat} (h : SV v n) : obk (cutv v 1 0 k) = obk v := by
  obtain ⟨a, c, rfl, _⟩ := h
  rw [cutv_zero']
  cases a <;> cases c <;> rfl

theorem c_compact (s : Value) (bs : List Int) (w : World) (lo up : Nat) (hN : NOwn LU w 23 5 lo up s bs) : CT Try.prog 12 #[s] w fun v w' => ∃ ds, NOwn LU w' 23 5 lo up v ds ∧ ds = compI bs ∧ (∀ b, obk v = some b → obk s = some b) ∧ Upd (fun b => obk s = some b) w w' := by
  have hmx := hN.1.sv.len
  have hsv := hN.1.sv
  have hbd := hN.2.1
  have hU := Upd.refl (fun b => obk s = some b) w
  refine CT_of Try.func12 rfl rfl rfl ?_
  refine W_seq ?_
  refine W_reg ?_
  refine L_op rfl (X_assign (v := (.slice none 0 0)) rfl ?_)
  refine L_nil ?_
  refine T_n ?_
  refine W_seq ?_
  refine W_seq ?_
  refine W_reg ?_
  refine L_op rfl (X_move (v := s) rfl ?_)
  refine L_op rfl (X_len (v := s) (n := bs.length) Try.underlying27 rfl hsv ?_)
  by_cases hc1 : (((bs.length : Nat) : Int) : Int) < (2)
  · refine L_op rfl (X_cmp (k := .i64) (a := ((bs.length : Nat) : Int)) (b := 2) (r := true) rfl rfl rfl (decide_eq_true (p := ((((bs.length : Nat) : Int)) : Int) < ((2) : Int)) (by omega)) ?_)
    refine L_nil ?_
    refine T_n ?_
    refine W_ct rfl ?_
    refine W_seq ?_
    refine W_reg ?_
    refine L_op rfl (X_move (v := s) rfl ?_)
    refine L_op rfl (X_assign (v := s) rfl ?_)
    refine L_nil ?_
    refine T_n ?_
    refine W_ret ?_
    refine T_r ?_
    exact BQ_r (End_1 Try.results12 (v := s) rfl ⟨bs, hN, (compI_small (by omega)).symm, fun _ h => h, Upd.refl _ _⟩)
  · refine L_op rfl (X_cmp (k := .i64) (a := ((bs.length : Nat) : Int)) (b := 2) (r := false) rfl rfl rfl (decide_eq_false (p := ((((bs.length : Nat) : Int)) : Int) < ((2) : Int)) (by omega)) ?_)
    refine L_nil ?_
    refine T_n ?_
    refine W_cf rfl ?_
    refine W_skip ?_
    refine T_n ?_
    refine W_seq ?_
    refine W_seq ?_
    refine W_reg ?_
    refine L_op rfl (X_assign (v := (.int .i64 (1))) rfl ?_)
    refine L_nil ?_
    refine T_n ?_
    refine W_block ?_
    refine W_loop (α := Nat) [2, 3, 4, 5, 10, 11, 12, 13, 14, 15, 16, 17, 18, 19, 20, 21, 22, 23, 24, 25, 26, 27, 28, 29, 30, 31, 32, 33, 34, 35, 36, 37, 38, 39, 40, 41, 42, 43, 44, 45, 46, 47, 48, 49, 50, 51, 52, 53, 54, 55, 56, 57, 58, 59] (fun i => [(3, (.int .i64 (((i : Nat) : Int))))]) (fun i w_ => NOwn LU w_ 23 5 lo up s bs ∧ Upd (fun b => obk s = some b) w w_ ∧ i ≤ bs.length ∧ 1 ≤ i ∧ compK bs i = bs.take i) (fun i => bs.length - i) ⟨rfl, 1, ⟨hN, hU, by omega, Nat.le_refl _, compK_one (by omega)⟩, Out.refl _ _, ⟨rfl, trivial⟩⟩ ?_
    rintro i w2 _ ⟨hN, hU, hil_, hi1, hci⟩
    refine W_seq ?_
    refine W_seq ?_
    refine W_reg ?_
    refine L_op rfl (X_move (v := (.int .i64 (((i : Nat) : Int)))) rfl ?_)
    refine L_op rfl (X_move (v := s) rfl ?_)
    refine L_op rfl (X_len (v := s) (n := bs.length) Try.underlying27 rfl hsv ?_)
    by_cases hc3 : (((i : Nat) : Int) : Int) < (((bs.length : Nat) : Int))
    · refine L_op rfl (X_cmp (k := .i64) (a := ((i : Nat) : Int)) (b := ((bs.length : Nat) : Int)) (r := true) rfl rfl rfl (decide_eq_true (p := ((((i : Nat) : Int)) : Int) < ((((bs.length : Nat) : Int)) : Int)) (by omega)) ?_)
      have hi : i < bs.length := by omega
      obtain ⟨a, hai⟩ : ∃ a, bs[i]? = some a := ⟨_, List.getElem?_eq_getElem hi⟩
      obtain ⟨a0, ha0⟩ : ∃ a, bs[i - 1]? = some a := ⟨_, List.getElem?_eq_getElem (by omega)⟩
      refine L_nil ?_
      refine T_n ?_
      refine W_ct rfl ?_
      refine W_skip ?_
      refine T_n ?_
      refine W_seq ?_
      refine W_block ?_
      refine W_seq ?_
      rcases Bool.eq_false_or_eq_true (decide (a = a0)) with hs4 | hs4
      · refine W_draw 9 [[], [], [0, 1], [0, 1, 2], [], [], [5], [4, 5, 6], [4, 5, 6, 7], [0, 1, 2, 3, 4, 5, 6, 7, 8]] mixed (by kernel_rfl) ?_
        refine ⟨.det (fun val => s), ⟨fun _ _ hv => rfl, fun _ _ _ _ _ => trivial⟩, fun val h_ W hx he => ⟨trivial, ?_⟩, ?_⟩
        · replace hx := (Upd.drew _ _).trans hx
          replace hN := hN.ext hx
          have hE := Upd.refl (fun _ => False) W
          refine id (X_move (v := s) rfl ?_)
          exact ⟨hE, rfl⟩
        refine ⟨.det (fun val => (.int .i64 (((i : Nat) : Int)))), ⟨fun _ _ hv => rfl, fun _ _ _ _ _ => trivial⟩, fun val h_ W hx he => ⟨trivial, ?_⟩, ?_⟩
        · replace hx := (Upd.drew _ _).trans hx
          replace hN := hN.ext hx
          have hE := Upd.refl (fun _ => False) W
          refine id (X_move (v := (.int .i64 (((i : Nat) : Int)))) rfl ?_)
          exact ⟨hE, rfl⟩
        refine ⟨.det (fun val => (pof s ((((i : Nat) : Int)).toNat * 1))), ⟨fun _ _ hv => rfl, fun _ _ _ _ _ => trivial⟩, fun val h_ W hx he => ⟨trivial, ?_⟩, ?_⟩
        · replace hx := (Upd.drew _ _).trans hx
          replace hN := hN.ext hx
          have hE := Upd.refl (fun _ => False) W
          refine id (X_idx (v := s) (n := bs.length) (k := .i64) (i := ((i : Nat) : Int)) S27 rfl hsv rfl (by omega) (by omega) ?_)
          exact ⟨hE, rfl⟩
        refine ⟨.det (fun val => (.int .u32 (a))), ⟨fun _ _ hv => rfl, fun _ _ _ _ _ => trivial⟩, fun val h_ W hx he => ⟨trivial, ?_⟩, ?_⟩
        · replace hx := (Upd.drew _ _).trans hx
          replace hN := hN.ext hx
          have hE := Upd.refl (fun _ => False) W
          refine id (X_load (v := .int .u32 a) T23 rfl (iat hN.rd (Int.toNat_natCast _) hai) ?_)
          exact ⟨hE, rfl⟩
        refine ⟨.det (fun val => s), ⟨fun _ _ hv => rfl, fun _ _ _ _ _ => trivial⟩, fun val h_ W hx he => ⟨trivial, ?_⟩, ?_⟩
        · replace hx := (Upd.drew _ _).trans hx
          replace hN := hN.ext hx
          have hE := Upd.refl (fun _ => False) W
          refine id (X_move (v := s) rfl ?_)
          exact ⟨hE, rfl⟩
        refine ⟨.det (fun val => (.int .i64 (((i : Nat) : Int)))), ⟨fun _ _ hv => rfl, fun _ _ _ _ _ => trivial⟩, fun val h_ W hx he => ⟨trivial, ?_⟩, ?_⟩
        · replace hx := (Upd.drew _ _).trans hx
          replace hN := hN.ext hx
          have hE := Upd.refl (fun _ => False) W
          refine id (X_move (v := (.int .i64 (((i : Nat) : Int)))) rfl ?_)
          exact ⟨hE, rfl⟩
        refine ⟨.det (fun val => (.int .i64 (((i - 1 : Nat) : Int)))), ⟨fun _ _ hv => rfl, fun _ _ _ _ _ => trivial⟩, fun val h_ W hx he => ⟨trivial, ?_⟩, ?_⟩
        · replace hx := (Upd.drew _ _).trans hx
          replace hN := hN.ext hx
          have hE := Upd.refl (fun _ => False) W
          refine id (X_arith (k := .i64) (a := ((i : Nat) : Int)) (b := 1) (r := ((i - 1 : Nat) : Int)) rfl rfl rfl (isub64 (by omega) (by omega) (by omega)) ?_)
          exact ⟨hE, rfl⟩
        refine ⟨.det (fun val => (pof s ((((i - 1 : Nat) : Int)).toNat * 1))), ⟨fun _ _ hv => rfl, fun _ _ _ _ _ => trivial⟩, fun val h_ W hx he => ⟨trivial, ?_⟩, ?_⟩
        · replace hx := (Upd.drew _ _).trans hx
          replace hN := hN.ext hx
          have hE := Upd.refl (fun _ => False) W
          refine id (X_idx (v := s) (n := bs.length) (k := .i64) (i := ((i - 1 : Nat) : Int)) S27 rfl hsv rfl (by omega) (by omega) ?_)
          exact ⟨hE, rfl⟩
        refine ⟨.det (fun val => (.int .u32 (a0))), ⟨fun _ _ hv => rfl, fun _ _ _ _ _ => trivial⟩, fun val h_ W hx he => ⟨trivial, ?_⟩, ?_⟩
        · replace hx := (Upd.drew _ _).trans hx
          replace hN := hN.ext hx
          have hE := Upd.refl (fun _ => False) W
          refine id (X_load (v := .int .u32 a0) T23 rfl (iat hN.rd (Int.toNat_natCast _) ha0) ?_)
          exact ⟨hE, rfl⟩
        intro val W5 hx5 he5
        replace hx5 := (Upd.drew _ _).trans hx5
        have hz5 := hx5.size
        replace hN := hN.ext hx5
        replace hU := hU.trans (Ext.upd hx5)
        refine L_op rfl (X_cmp (k := .u32) (a := a) (b := a0) (r := true) rfl rfl rfl (decide_eq_true (p := ((a) : Int) = ((a0) : Int)) (by have h_ := of_decide_eq_true hs4; omega)) ?_)
        refine L_nil ?_
        refine T_n ?_
        refine W_ct rfl ?_
        refine W_seq ?_
        refine W_reg ?_
        refine L_op rfl (X_move (v := s) rfl ?_)
        refine L_op rfl (X_move (v := (.int .i64 (((i : Nat) : Int)))) rfl ?_)
        have hlen0 : i < bs.length := hi
        refine L_op rfl (X_slice (n := bs.length) (l := i) (h' := bs.length) (kl := .i64) (kh := .i64) S27 rfl hsv rfl rfl (by omega) (by omega) ?_)
        refine L_op rfl (X_assign (v := (cutv s 1 i bs.length)) rfl ?_)
        refine L_nil ?_
        refine T_n ?_
        refine W_seq ?_
        refine W_seq ?_
        refine W_reg ?_
        have hs_ := hs4
        obtain ⟨i0, rfl⟩ : ∃ n, n = i := ⟨_, rfl⟩
        have hsv2_ : SV (cutv s 1 i0 bs.length) (bs.length - i0) := by have h := (hN.rd.cut (l := i0) (h := bs.length) (by omega) (Nat.le_refl _)).sv; rwa [show ((bs.drop i0).take (bs.length - i0)).length = bs.length - i0 from by rw [List.length_take, List.length_drop]; omega] at h
        refine L_op rfl (X_assign (v := (.int .i64 (1))) rfl ?_)
        refine L_nil ?_
        refine T_n ?_
        refine W_block ?_
        refine W_loop (α := Nat × Nat × List Int) [3, 5, 29, 30, 31, 32, 33, 34, 35, 36, 37, 38, 39, 40, 41, 42, 43, 44, 45, 46, 47, 48, 49, 50, 51, 52, 53] (fun ⟨i, k, xs⟩ => [(3, (.int .i64 (((i : Nat) : Int)))), (5, (.int .i64 (((k : Nat) : Int))))]) (fun ⟨i, k, xs⟩ w_ => i < i0 + k ∧ i0 + k ≤ bs.length ∧ 1 ≤ k ∧ xs.length = bs.length ∧ xs.take i = compK bs (i0 + k) ∧ (compK bs (i0 + k)).length = i ∧ (∀ m, i0 + k - 1 ≤ m → xs[m]? = bs[m]?) ∧ NOwn LU w_ 23 5 lo up s xs ∧ Upd (fun b => obk s = some b) w w_) (fun ⟨i, k, xs⟩ => bs.length - (i0 + k)) ⟨rfl, (i0, 1, bs), ⟨Nat.lt_succ_self _, hi, Nat.le_refl _, rfl, by rw [compK_hit hi1 hai (by rw [ha0, of_decide_eq_true hs_]), hci], by rw [compK_hit hi1 hai (by rw [ha0, of_decide_eq_true hs_]), hci, List.length_take]; omega, fun _ _ => rfl, hN, hU⟩, Out.refl _ _, ⟨rfl, rfl, trivial⟩⟩ ?_
        rintro ⟨i, k, xs⟩ w6 _ ⟨hik, hkl, hk1, hxs, hxi, hil, hrest, hN, hU⟩
        have hsvx := hN.1.sv
        refine W_seq ?_
        refine W_seq ?_
        refine W_reg ?_
        refine L_op rfl (X_move (v := (.int .i64 (((k : Nat) : Int)))) rfl ?_)
        refine L_op rfl (X_move (v := (cutv s 1 i0 bs.length)) rfl ?_)
        refine L_op rfl (X_len (v := (cutv s 1 i0 bs.length)) (n := (bs.length - i0)) Try.underlying27 rfl hsv2_ ?_)
        by_cases hc7 : (((k : Nat) : Int) : Int) < ((((bs.length - i0) : Nat) : Int))
        · refine L_op rfl (X_cmp (k := .i64) (a := ((k : Nat) : Int)) (b := (((bs.length - i0) : Nat) : Int)) (r := true) rfl rfl rfl (decide_eq_true (p := ((((k : Nat) : Int)) : Int) < (((((bs.length - i0) : Nat) : Int)) : Int)) (by omega)) ?_)
          have hj : i0 + k < bs.length := by omega
          obtain ⟨b, hbj⟩ : ∃ a, bs[i0 + k]? = some a := ⟨_, List.getElem?_eq_getElem hj⟩
          obtain ⟨b0, hb0⟩ : ∃ a, bs[i0 + k - 1]? = some a := ⟨_, List.getElem?_eq_getElem (by omega)⟩
          have hR := hN.rd.cut (l := i0) (h := bs.length) (by omega) (by rw [hxs]; exact Nat.le_refl _)
          rw [show LU.sz = 1 from rfl] at hR
          have hcl : ((xs.drop i0).take (bs.length - i0)).length = bs.length - i0 := by rw [List.length_take, List.length_drop]; omega
          have hsv2 := hR.sv
          rw [hcl] at hsv2
          have hat : ∀ m, i0 + k - 1 ≤ m → m < bs.length → ((xs.drop i0).take (bs.length - i0))[m - i0]? = bs[m]? := fun m h1 h2 => by rw [List.getElem?_take, if_pos (by omega), List.getElem?_drop, show i0 + (m - i0) = m by omega]; exact hrest m h1
          have hbj2 : ((xs.drop i0).take (bs.length - i0))[k]? = some b := by rw [← hbj, ← hat (i0 + k) (by omega) hj, show i0 + k - i0 = k by omega]
          have hb02 : ((xs.drop i0).take (bs.length - i0))[k - 1]? = some b0 := by rw [← hb0, ← hat (i0 + k - 1) (by omega) (by omega), show i0 + k - 1 - i0 = k - 1 by omega]
          refine L_nil ?_
          refine T_n ?_
          refine W_ct rfl ?_
          refine W_skip ?_
          refine T_n ?_
          refine W_seq ?_
          refine W_block ?_
          refine W_seq ?_
          rcases Bool.eq_false_or_eq_true (decide (b = b0)) with hs8 | hs8
          · refine W_draw 9 [[], [], [0, 1], [0, 1, 2], [], [], [5], [4, 5, 6], [4, 5, 6, 7], [0, 1, 2, 3, 4, 5, 6, 7, 8]] mixed (by kernel_rfl) ?_
            refine ⟨.det (fun val => (cutv s 1 i0 bs.length)), ⟨fun _ _ hv => rfl, fun _ _ _ _ _ => trivial⟩, fun val h_ W hx he => ⟨trivial, ?_⟩, ?_⟩
            · replace hx := (Upd.drew _ _).trans hx
              replace hN := hN.ext hx
              replace hR := hR.ext hx
              have hE := Upd.refl (fun _ => False) W
              refine id (X_move (v := (cutv s 1 i0 bs.length)) rfl ?_)
              exact ⟨hE, rfl⟩
            refine ⟨.det (fun val => (.int .i64 (((k : Nat) : Int)))), ⟨fun _ _ hv => rfl, fun _ _ _ _ _ => trivial⟩, fun val h_ W hx he => ⟨trivial, ?_⟩, ?_⟩
            · replace hx := (Upd.drew _ _).trans hx
              replace hN := hN.ext hx
              replace hR := hR.ext hx
              have hE := Upd.refl (fun _ => False) W
              refine id (X_move (v := (.int .i64 (((k : Nat) : Int)))) rfl ?_)
              exact ⟨hE, rfl⟩
            refine ⟨.det (fun val => (pof (cutv s 1 i0 bs.length) ((((k : Nat) : Int)).toNat * 1))), ⟨fun _ _ hv => rfl, fun _ _ _ _ _ => trivial⟩, fun val h_ W hx he => ⟨trivial, ?_⟩, ?_⟩
            · replace hx := (Upd.drew _ _).trans hx
              replace hN := hN.ext hx
              replace hR := hR.ext hx
              have hE := Upd.refl (fun _ => False) W
              refine id (X_idx (v := (cutv s 1 i0 bs.length)) (n := (bs.length - i0)) (k := .i64) (i := ((k : Nat) : Int)) S27 rfl hsv2 rfl (by omega) (by omega) ?_)
              exact ⟨hE, rfl⟩
            refine ⟨.det (fun val => (.int .u32 (b))), ⟨fun _ _ hv => rfl, fun _ _ _ _ _ => trivial⟩, fun val h_ W hx he => ⟨trivial, ?_⟩, ?_⟩
            · replace hx := (Upd.drew _ _).trans hx
              replace hN := hN.ext hx
              replace hR := hR.ext hx
              have hE := Upd.refl (fun _ => False) W
              refine id (X_load (v := .int .u32 b) T23 rfl (iat hR (Int.toNat_natCast _) hbj2) ?_)
              exact ⟨hE, rfl⟩
            refine ⟨.det (fun val => (cutv s 1 i0 bs.length)), ⟨fun _ _ hv => rfl, fun _ _ _ _ _ => trivial⟩, fun val h_ W hx he => ⟨trivial, ?_⟩, ?_⟩
            · replace hx := (Upd.drew _ _).trans hx
              replace hN := hN.ext hx
              replace hR := hR.ext hx
              have hE := Upd.refl (fun _ => False) W
              refine id (X_move (v := (cutv s 1 i0 bs.length)) rfl ?_)
              exact ⟨hE, rfl⟩
            refine ⟨.det (fun val => (.int .i64 (((k : Nat) : Int)))), ⟨fun _ _ hv => rfl, fun _ _ _ _ _ => trivial⟩, fun val h_ W hx he => ⟨trivial, ?_⟩, ?_⟩
            · replace hx := (Upd.drew _ _).trans hx
              replace hN := hN.ext hx
              replace hR := hR.ext hx
              have hE := Upd.refl (fun _ => False) W
              refine id (X_move (v := (.int .i64 (((k : Nat) : Int)))) rfl ?_)
              exact ⟨hE, rfl⟩
            refine ⟨.det (fun val => (.int .i64 (((k - 1 : Nat) : Int)))), ⟨fun _ _ hv => rfl, fun _ _ _ _ _ => trivial⟩, fun val h_ W hx he => ⟨trivial, ?_⟩, ?_⟩
            · replace hx := (Upd.drew _ _).trans hx
              replace hN := hN.ext hx
              replace hR := hR.ext hx
              have hE := Upd.refl (fun _ => False) W
              refine id (X_arith (k := .i64) (a := ((k : Nat) : Int)) (b := 1) (r := ((k - 1 : Nat) : Int)) rfl rfl rfl (isub64 (by omega) (by omega) (by omega)) ?_)
              exact ⟨hE, rfl⟩
            refine ⟨.det (fun val => (pof (cutv s 1 i0 bs.length) ((((k - 1 : Nat) : Int)).toNat * 1))), ⟨fun _ _ hv => rfl, fun _ _ _ _ _ => trivial⟩, fun val h_ W hx he => ⟨trivial, ?_⟩, ?_⟩
            · replace hx := (Upd.drew _ _).trans hx
              replace hN := hN.ext hx
              replace hR := hR.ext hx
              have hE := Upd.refl (fun _ => False) W
              refine id (X_idx (v := (cutv s 1 i0 bs.length)) (n := (bs.length - i0)) (k := .i64) (i := ((k - 1 : Nat) : Int)) S27 rfl hsv2 rfl (by omega) (by omega) ?_)
              exact ⟨hE, rfl⟩
            refine ⟨.det (fun val => (.int .u32 (b0))), ⟨fun _ _ hv => rfl, fun _ _ _ _ _ => trivial⟩, fun val h_ W hx he => ⟨trivial, ?_⟩, ?_⟩
            · replace hx := (Upd.drew _ _).trans hx
              replace hN := hN.ext hx
              replace hR := hR.ext hx
              have hE := Upd.refl (fun _ => False) W
              refine id (X_load (v := .int .u32 b0) T23 rfl (iat hR (Int.toNat_natCast _) hb02) ?_)
              exact ⟨hE, rfl⟩
            intro val W9 hx9 he9
            replace hx9 := (Upd.drew _ _).trans hx9
            have hz9 := hx9.size
            replace hN := hN.ext hx9
            replace hU := hU.trans (Ext.upd hx9)
            replace hR := hR.ext hx9
            refine L_op rfl (X_cmp (k := .u32) (a := b) (b := b0) (r := false) rfl rfl rfl (decide_eq_false (p := ((b) : Int) ≠ ((b0) : Int)) (fun h => h (of_decide_eq_true hs8))) ?_)
            refine L_nil ?_
            refine T_n ?_
            refine W_cf rfl ?_
            refine W_skip ?_
            refine B_n ?_
            refine T_n ?_
            refine W_reg ?_
            refine L_op rfl (X_move (v := (.int .i64 (((k : Nat) : Int)))) rfl ?_)
            refine L_op rfl (X_arith (k := .i64) (a := ((k : Nat) : Int)) (b := 1) (r := ((k + 1 : Nat) : Int)) rfl rfl rfl (iadd64 (by omega) (by omega) (by omega)) ?_)
            refine L_op rfl (X_assign (v := (.int .i64 (((k + 1 : Nat) : Int)))) rfl ?_)
            refine L_nil ?_
            refine T_n ?_
            exact ⟨rfl, ⟨i, k + 1, xs⟩, ⟨⟨by omega, by omega, by omega, hxs, by rw [← Nat.add_assoc, compK_hit (by omega) hbj (by rw [hb0, of_decide_eq_true hs8])]; exact hxi, by rw [← Nat.add_assoc, compK_hit (by omega) hbj (by rw [hb0, of_decide_eq_true hs8])]; exact hil, fun m hm => hrest m (by omega), hN, hU⟩, (by show bs.length - (i0 + (k + 1)) < bs.length - (i0 + k); omega)⟩, (Out.mk rfl), ⟨rfl, rfl, trivial⟩⟩
          · refine W_draw 9 [[], [], [0, 1], [0, 1, 2], [], [], [5], [4, 5, 6], [4, 5, 6, 7], [0, 1, 2, 3, 4, 5, 6, 7, 8]] mixed (by kernel_rfl) ?_
            refine ⟨.det (fun val => (cutv s 1 i0 bs.length)), ⟨fun _ _ hv => rfl, fun _ _ _ _ _ => trivial⟩, fun val h_ W hx he => ⟨trivial, ?_⟩, ?_⟩
            · replace hx := (Upd.drew _ _).trans hx
              replace hN := hN.ext hx
              replace hR := hR.ext hx
              have hE := Upd.refl (fun _ => False) W
              refine id (X_move (v := (cutv s 1 i0 bs.length)) rfl ?_)
              exact ⟨hE, rfl⟩
            refine ⟨.det (fun val => (.int .i64 (((k : Nat) : Int)))), ⟨fun _ _ hv => rfl, fun _ _ _ _ _ => trivial⟩, fun val h_ W hx he => ⟨trivial, ?_⟩, ?_⟩
            · replace hx := (Upd.drew _ _).trans hx
              replace hN := hN.ext hx
              replace hR := hR.ext hx
              have hE := Upd.refl (fun _ => False) W
              refine id (X_move (v := (.int .i64 (((k : Nat) : Int)))) rfl ?_)
              exact ⟨hE, rfl⟩
            refine ⟨.det (fun val => (pof (cutv s 1 i0 bs.length) ((((k : Nat) : Int)).toNat * 1))), ⟨fun _ _ hv => rfl, fun _ _ _ _ _ => trivial⟩, fun val h_ W hx he => ⟨trivial, ?_⟩, ?_⟩
            · replace hx := (Upd.drew _ _).trans hx
              replace hN := hN.ext hx
              replace hR := hR.ext hx
              have hE := Upd.refl (fun _ => False) W
              refine id (X_idx (v := (cutv s 1 i0 bs.length)) (n := (bs.length - i0)) (k := .i64) (i := ((k : Nat) : Int)) S27 rfl hsv2 rfl (by omega) (by omega) ?_)
              exact ⟨hE, rfl⟩
            refine ⟨.det (fun val => (.int .u32 (b))), ⟨fun _ _ hv => rfl, fun _ _ _ _ _ => trivial⟩, fun val h_ W hx he => ⟨trivial, ?_⟩, ?_⟩
            · replace hx := (Upd.drew _ _).trans hx
              replace hN := hN.ext hx
              replace hR := hR.ext hx
              have hE := Upd.refl (fun _ => False) W
              refine id (X_load (v := .int .u32 b) T23 rfl (iat hR (Int.toNat_natCast _) hbj2) ?_)
              exact ⟨hE, rfl⟩
            refine ⟨.det (fun val => (cutv s 1 i0 bs.length)), ⟨fun _ _ hv => rfl, fun _ _ _ _ _ => trivial⟩, fun val h_ W hx he => ⟨trivial, ?_⟩, ?_⟩
            · replace hx := (Upd.drew _ _).trans hx
              replace hN := hN.ext hx
              replace hR := hR.ext hx
              have hE := Upd.refl (fun _ => False) W
              refine id (X_move (v := (cutv s 1 i0 bs.length)) rfl ?_)
              exact ⟨hE, rfl⟩
            refine ⟨.det (fun val => (.int .i64 (((k : Nat) : Int)))), ⟨fun _ _ hv => rfl, fun _ _ _ _ _ => trivial⟩, fun val h_ W hx he => ⟨trivial, ?_⟩, ?_⟩
            · replace hx := (Upd.drew _ _).trans hx
              replace hN := hN.ext hx
              replace hR := hR.ext hx
              have hE := Upd.refl (fun _ => False) W
              refine id (X_move (v := (.int .i64 (((k : Nat) : Int)))) rfl ?_)
              exact ⟨hE, rfl⟩
            refine ⟨.det (fun val => (.int .i64 (((k - 1 : Nat) : Int)))), ⟨fun _ _ hv => rfl, fun _ _ _ _ _ => trivial⟩, fun val h_ W hx he => ⟨trivial, ?_⟩, ?_⟩
            · replace hx := (Upd.drew _ _).trans hx
              replace hN := hN.ext hx
              replace hR := hR.ext hx
              have hE := Upd.refl (fun _ => False) W
              refine id (X_arith (k := .i64) (a := ((k : Nat) : Int)) (b := 1) (r := ((k - 1 : Nat) : Int)) rfl rfl rfl (isub64 (by omega) (by omega) (by omega)) ?_)
              exact ⟨hE, rfl⟩
            refine ⟨.det (fun val => (pof (cutv s 1 i0 bs.length) ((((k - 1 : Nat) : Int)).toNat * 1))), ⟨fun _ _ hv => rfl, fun _ _ _ _ _ => trivial⟩, fun val h_ W hx he => ⟨trivial, ?_⟩, ?_⟩
            · replace hx := (Upd.drew _ _).trans hx
              replace hN := hN.ext hx
              replace hR := hR.ext hx
              have hE := Upd.refl (fun _ => False) W
              refine id (X_idx (v := (cutv s 1 i0 bs.length)) (n := (bs.length - i0)) (k := .i64) (i := ((k - 1 : Nat) : Int)) S27 rfl hsv2 rfl (by omega) (by omega) ?_)
              exact ⟨hE, rfl⟩
            refine ⟨.det (fun val => (.int .u32 (b0))), ⟨fun _ _ hv => rfl, fun _ _ _ _ _ => trivial⟩, fun val h_ W hx he => ⟨trivial, ?_⟩, ?_⟩
            · replace hx := (Upd.drew _ _).trans hx
              replace hN := hN.ext hx
              replace hR := hR.ext hx
              have hE := Upd.refl (fun _ => False) W
              refine id (X_load (v := .int .u32 b0) T23 rfl (iat hR (Int.toNat_natCast _) hb02) ?_)
              exact ⟨hE, rfl⟩
            intro val W10 hx10 he10
            replace hx10 := (Upd.drew _ _).trans hx10
            have hz10 := hx10.size
            replace hN := hN.ext hx10
            replace hU := hU.trans (Ext.upd hx10)
            replace hR := hR.ext hx10
            refine L_op rfl (X_cmp (k := .u32) (a := b) (b := b0) (r := true) rfl rfl rfl (decide_eq_true (p := ((b) : Int) ≠ ((b0) : Int)) (of_decide_eq_false hs8)) ?_)
            refine L_nil ?_
            refine T_n ?_
            refine W_ct rfl ?_
            refine W_seq ?_
            refine W_reg ?_
            refine L_op rfl (X_move (v := s) rfl ?_)
            refine L_op rfl (X_move (v := (.int .i64 (((i : Nat) : Int)))) rfl ?_)
            refine L_op rfl (X_move (v := (cutv s 1 i0 bs.length)) rfl ?_)
            refine L_op rfl (X_move (v := (.int .i64 (((k : Nat) : Int)))) rfl ?_)
            refine L_op rfl (X_idx (v := (cutv s 1 i0 bs.length)) (n := (bs.length - i0)) (k := .i64) (i := ((k : Nat) : Int)) S27 rfl hsv2 rfl (by omega) (by omega) ?_)
            refine L_op rfl (X_load (v := .int .u32 b) T23 rfl (iat hR (Int.toNat_natCast _) hbj2) ?_)
            refine L_op rfl (X_idx (v := s) (n := bs.length) (k := .i64) (i := ((i : Nat) : Int)) S27 rfl hsv rfl (by omega) (by omega) ?_)
            refine L_op0 (X_storeOwnC (i := ((i : Nat) : Int).toNat * 1) (v := s) (u := .int .u32 b) T23 hN.1 (by show _ < xs.length * 1; omega) rfl rfl rfl ?_)
            intro w5 hO5 hu5
            have hz5 := hu5.size
            rw [show ((i : Nat) : Int).toNat * 1 = i by omega, liSet] at hO5
            have hN5 : NOwn LU w5 23 5 lo up s (xs.set i b) := NOwn.of (fun _ => rfl) (hO5.eq (by rw [List.length_set]) rfl) hbd
            replace hU := hU.trans hu5
            replace hN := hN5
            refine L_nil ?_
            refine T_n ?_
            refine W_reg ?_
            refine L_op rfl (X_move (v := (.int .i64 (((i : Nat) : Int)))) rfl ?_)
            refine L_op rfl (X_arith (k := .i64) (a := ((i : Nat) : Int)) (b := 1) (r := ((i + 1 : Nat) : Int)) rfl rfl rfl (iadd64 (by omega) (by omega) (by omega)) ?_)
            refine L_op rfl (X_assign (v := (.int .i64 (((i + 1 : Nat) : Int)))) rfl ?_)
            refine L_nil ?_
            refine B_n ?_
            refine T_n ?_
            refine W_reg ?_
            refine L_op rfl (X_move (v := (.int .i64 (((k : Nat) : Int)))) rfl ?_)
            refine L_op rfl (X_arith (k := .i64) (a := ((k : Nat) : Int)) (b := 1) (r := ((k + 1 : Nat) : Int)) rfl rfl rfl (iadd64 (by omega) (by omega) (by omega)) ?_)
            refine L_op rfl (X_assign (v := (.int .i64 (((k + 1 : Nat) : Int)))) rfl ?_)
            refine L_nil ?_
            refine T_n ?_
            exact ⟨rfl, ⟨i + 1, k + 1, xs.set i b⟩, ⟨⟨by omega, by omega, by omega, by rw [List.length_set]; exact hxs, by rw [take_set_succ (by omega), hxi, ← Nat.add_assoc, compK_miss hbj hb0 (of_decide_eq_false hs8)], by (rw [← Nat.add_assoc, compK_miss hbj hb0 (of_decide_eq_false hs8), List.length_append, hil]; rfl), fun m hm => by rw [List.getElem?_set_ne (by omega)]; exact hrest m (by omega), hN, hU⟩, (by show bs.length - (i0 + (k + 1)) < bs.length - (i0 + k); omega)⟩, (Out.mk rfl), ⟨rfl, rfl, trivial⟩⟩
        · refine L_op rfl (X_cmp (k := .i64) (a := ((k : Nat) : Int)) (b := (((bs.length - i0) : Nat) : Int)) (r := false) rfl rfl rfl (decide_eq_false (p := ((((k : Nat) : Int)) : Int) < (((((bs.length - i0) : Nat) : Int)) : Int)) (by omega)) ?_)
          refine L_nil ?_
          refine T_n ?_
          refine W_cf rfl ?_
          refine W_exit ?_
          refine T_e ?_
          refine T_e ?_
          refine B_x ?_
          refine T_n ?_
          refine W_seq ?_
          refine W_reg ?_
          refine L_op rfl (X_move (v := s) rfl ?_)
          refine L_op rfl (X_move (v := (.int .i64 (((i : Nat) : Int)))) rfl ?_)
          refine L_op rfl (X_slice (n := bs.length) (l := i) (h' := bs.length) (kl := .i64) (kh := .i64) S27 rfl hsv rfl rfl (by omega) (by omega) ?_)
          have hO := hN.1
          rw [hxs] at hO
          refine L_op0 (X_clearTail (z := .int .u32 0) (v := s) S27 rfl rfl hO (i := i) (by omega) rfl ?_)
          intro w8 ys hO8 hys hu8
          rw [liTake] at hys
          replace hU := hU.trans hu8
          refine L_nil ?_
          refine T_n ?_
          refine W_seq ?_
          refine W_reg ?_
          refine L_op rfl (X_move (v := s) rfl ?_)
          refine L_op rfl (X_move (v := (.int .i64 (((i : Nat) : Int)))) rfl ?_)
          refine L_op rfl (X_slice (n := bs.length) (l := 0) (h' := i) (kl := .i64) (kh := .i64) S27 rfl hsv rfl rfl (by omega) (by omega) ?_)
          refine L_op rfl (X_assign (v := (cutv s 1 0 i)) rfl ?_)
          refine L_nil ?_
          refine T_n ?_
          refine W_ret ?_
          refine B_r ?_
          refine T_r ?_
          refine T_r ?_
          refine B_r ?_
          refine T_r ?_
          have hjl : i0 + k = bs.length := by omega
          rw [hjl] at hxi hil
          have hO9 := hO8.cut0 (k := i) (by omega)
          rw [Nat.mul_one, hys, hxi] at hO9
          exact BQ_r (End_1 Try.results12 (v := cutv s 1 0 i) rfl ⟨compI bs, NOwn.of (fun _ => rfl) (hO9.eq hil.symm rfl) (fun b hb => hbd b (by rwa [obk_cut0 hsv] at hb)), rfl, fun b hb => by rwa [obk_cut0 hsv] at hb, hU⟩)
      · refine W_draw 9 [[], [], [0, 1], [0, 1, 2], [], [], [5], [4, 5, 6], [4, 5, 6, 7], [0, 1, 2, 3, 4, 5, 6, 7, 8]] mixed (by kernel_rfl) ?_
        refine ⟨.det (fun val => s), ⟨fun _ _ hv => rfl, fun _ _ _ _ _ => trivial⟩, fun val h_ W hx he => ⟨trivial, ?_⟩, ?_⟩
        · replace hx := (Upd.drew _ _).trans hx
          replace hN := hN.ext hx
          have hE := Upd.refl (fun _ => False) W
          refine id (X_move (v := s) rfl ?_)
          exact ⟨hE, rfl⟩
        refine ⟨.det (fun val => (.int .i64 (((i : Nat) : Int)))), ⟨fun _ _ hv => rfl, fun _ _ _ _ _ => trivial⟩, fun val h_ W hx he => ⟨trivial, ?_⟩, ?_⟩
        · replace hx := (Upd.drew _ _).trans hx
          replace hN := hN.ext hx
          have hE := Upd.refl (fun _ => False) W
          refine id (X_move (v := (.int .i64 (((i : Nat) : Int)))) rfl ?_)
          exact ⟨hE, rfl⟩
        refine ⟨.det (fun val => (pof s ((((i : Nat) : Int)).toNat * 1))), ⟨fun _ _ hv => rfl, fun _ _ _ _ _ => trivial⟩, fun val h_ W hx he => ⟨trivial, ?_⟩, ?_⟩
        · replace hx := (Upd.drew _ _).trans hx
          replace hN := hN.ext hx
          have hE := Upd.refl (fun _ => False) W
          refine id (X_idx (v := s) (n := bs.length) (k := .i64) (i := ((i : Nat) : Int)) S27 rfl hsv rfl (by omega) (by omega) ?_)
          exact ⟨hE, rfl⟩
        refine ⟨.det (fun val => (.int .u32 (a))), ⟨fun _ _ hv => rfl, fun _ _ _ _ _ => trivial⟩, fun val h_ W hx he => ⟨trivial, ?_⟩, ?_⟩
        · replace hx := (Upd.drew _ _).trans hx
          replace hN := hN.ext hx
          have hE := Upd.refl (fun _ => False) W
          refine id (X_load (v := .int .u32 a) T23 rfl (iat hN.rd (Int.toNat_natCast _) hai) ?_)
          exact ⟨hE, rfl⟩
        refine ⟨.det (fun val => s), ⟨fun _ _ hv => rfl, fun _ _ _ _ _ => trivial⟩, fun val h_ W hx he => ⟨trivial, ?_⟩, ?_⟩
        · replace hx := (Upd.drew _ _).trans hx
          replace hN := hN.ext hx
          have hE := Upd.refl (fun _ => False) W
          refine id (X_move (v := s) rfl ?_)
          exact ⟨hE, rfl⟩
        refine ⟨.det (fun val => (.int .i64 (((i : Nat) : Int)))), ⟨fun _ _ hv => rfl, fun _ _ _ _ _ => trivial⟩, fun val h_ W hx he => ⟨trivial, ?_⟩, ?_⟩
        · replace hx := (Upd.drew _ _).trans hx
          replace hN := hN.ext hx
          have hE := Upd.refl (fun _ => False) W
          refine id (X_move (v := (.int .i64 (((i : Nat) : Int)))) rfl ?_)
          exact ⟨hE, rfl⟩
        refine ⟨.det (fun val => (.int .i64 (((i - 1 : Nat) : Int)))), ⟨fun _ _ hv => rfl, fun _ _ _ _ _ => trivial⟩, fun val h_ W hx he => ⟨trivial, ?_⟩, ?_⟩
        · replace hx := (Upd.drew _ _).trans hx
          replace hN := hN.ext hx
          have hE := Upd.refl (fun _ => False) W
          refine id (X_arith (k := .i64) (a := ((i : Nat) : Int)) (b := 1) (r := ((i - 1 : Nat) : Int)) rfl rfl rfl (isub64 (by omega) (by omega) (by omega)) ?_)
          exact ⟨hE, rfl⟩
        refine ⟨.det (fun val => (pof s ((((i - 1 : Nat) : Int)).toNat * 1))), ⟨fun _ _ hv => rfl, fun _ _ _ _ _ => trivial⟩, fun val h_ W hx he => ⟨trivial, ?_⟩, ?_⟩
        · replace hx := (Upd.drew _ _).trans hx
          replace hN := hN.ext hx
          have hE := Upd.refl (fun _ => False) W
          refine id (X_idx (v := s) (n := bs.length) (k := .i64) (i := ((i - 1 : Nat) : Int)) S27 rfl hsv rfl (by omega) (by omega) ?_)
          exact ⟨hE, rfl⟩
        refine ⟨.det (fun val => (.int .u32 (a0))), ⟨fun _ _ hv => rfl, fun _ _ _ _ _ => trivial⟩, fun val h_ W hx he => ⟨trivial, ?_⟩, ?_⟩
        · replace hx := (Upd.drew _ _).trans hx
          replace hN := hN.ext hx
          have hE := Upd.refl (fun _ => False) W
          refine id (X_load (v := .int .u32 a0) T23 rfl (iat hN.rd (Int.toNat_natCast _) ha0) ?_)
          exact ⟨hE, rfl⟩
        intro val W11 hx11 he11
        replace hx11 := (Upd.drew _ _).trans hx11
        have hz11 := hx11.size
        replace hN := hN.ext hx11
        replace hU := hU.trans (Ext.upd hx11)
        refine L_op rfl (X_cmp (k := .u32) (a := a) (b := a0) (r := false) rfl rfl rfl (decide_eq_false (p := ((a) : Int) = ((a0) : Int)) (by have h_ := of_decide_eq_false hs4; omega)) ?_)
        refine L_nil ?_
        refine T_n ?_
        refine W_cf rfl ?_
        refine W_skip ?_
        refine B_n ?_
        refine T_n ?_
        refine W_reg ?_
        refine L_op rfl (X_move (v := (.int .i64 (((i : Nat) : Int)))) rfl ?_)
        refine L_op rfl (X_arith (k := .i64) (a := ((i : Nat) : Int)) (b := 1) (r := ((i + 1 : Nat) : Int)) rfl rfl rfl (iadd64 (by omega) (by omega) (by omega)) ?_)
        refine L_op rfl (X_assign (v := (.int .i64 (((i + 1 : Nat) : Int)))) rfl ?_)
        refine L_nil ?_
        refine T_n ?_
        exact ⟨rfl, i + 1, ⟨⟨hN, hU, by omega, by omega, compK_take hai (compK_miss hai ha0 (of_decide_eq_false hs4)) hci⟩, (by show bs.length - (i + 1) < bs.length - i; omega)⟩, (Out.mk rfl), ⟨rfl, trivial⟩⟩
    · refine L_op rfl (X_cmp (k := .i64) (a := ((i : Nat) : Int)) (b := ((bs.length : Nat) : Int)) (r := false) rfl rfl rfl (decide_eq_false (p := ((((i : Nat) : Int)) : Int) < ((((bs.length : Nat) : Int)) : Int)) (by omega)) ?_)
      refine L_nil ?_
      refine T_n ?_
      refine W_cf rfl ?_
      refine W_exit ?_
      refine T_e ?_
      refine T_e ?_
      refine B_x ?_
      refine T_n ?_
      refine W_seq ?_
      refine W_reg ?_
      refine L_op rfl (X_move (v := s) rfl ?_)
      refine L_op rfl (X_assign (v := s) rfl ?_)
      refine L_nil ?_
      refine T_n ?_
      refine W_ret ?_
      exact BQ_r (End_1 Try.results12 (v := s) rfl ⟨bs, hN, by obtain rfl : i = bs.length := by { omega }; exact ((by rw [List.take_length] at hci; exact hci) : compK bs bs.length = bs).symm, fun _ h => h, hU⟩)

theorem compK_le (bs : List Int) : ∀ k, (compK bs k).length ≤ k
  | 0 => Nat.le_refl _
  | k + 1 => by
    have := compK_le bs k
    unfold compK
    split
    · omega
    · rw [List.length_append]
      cases bs[k]? <;> simp <;> omega

theorem c_allP (on : List Bool) (tx : List Int) (w : World) (hon : on.length = 8) (htx : tx.length = 8) : CT Try.prog 5 #[(.agg (pinC on tx).toArray)] w fun v w' => ∃ zs : List Int, zs.Pairwise (· < ·) ∧ (∀ z, z ∈ zs ↔ z ∈ openL on tx) ∧ zs.length ≤ 8 ∧ Own w' w.heap.size 23 1 v zs.length (zs.map u32V) ∧ Ext w w' := by
  obtain ⟨n0, hn0⟩ : ∃ n, n = w.heap.size := ⟨_, rfl⟩
  have hU : Upd (fun i => n0 ≤ i) w w := Upd.refl _ _
  refine CT_of Try.func5 rfl rfl rfl ?_
  refine W_seq ?_
  refine W_reg ?_
  refine L_op rfl (X_box (v := (.agg (pinC on tx).toArray)) (c := ((pinC on tx)).toArray) rfl rfl ?_)
  intro b1 w1 hn1
  have hbn1 := hn1.num; have hbs1 := hn1.size
  replace hU := hU.trans (Ext.upd hn1.ext)
  have hB1 := hn1.blk
  refine L_op rfl (X_assign (v := (.slice none 0 0)) rfl ?_)
  refine L_nil ?_
  refine T_n ?_
  refine W_seq ?_
  refine W_reg ?_
  refine L_op rfl (X_fn (vs := [(ptr b1 (0))]) en14 rfl (CT.mono (c_of b1 _) ?_))
  rintro _ w2 ⟨rfl, hu2⟩
  have hz2 := hu2.size
  replace hU := hU.trans (Ext.upd hu2)
  replace hB1 := hB1.ext hu2
  obtain ⟨x1, hx1_⟩ : ∃ n, n = w2.heap.size := ⟨_, rfl⟩
  refine L_op rfl (X_fn (vs := [(.agg #[(.slice (some ⟨b1, 0, none⟩) 8 8), (.slice (some ⟨b1, 8, none⟩) 8 8)])]) en15 rfl (CT.mono (c_all b1 _) ?_))
  rintro _ w3 ⟨rfl, hX, hu3, hz3⟩
  rw [← hx1_] at hX ⊢
  replace hU := hU.trans (Ext.upd hu3)
  replace hB1 := hB1.ext hu3
  obtain ⟨s9, hs9⟩ : ∃ n, n = w3.heap.size := ⟨_, rfl⟩
  refine L_op rfl (X_fn (vs := [(.func (.func 20) #[] #[ptr x1 0])]) en13 rfl (CT.mono (c_sorted b1 x1 on tx _ hX hB1 hon htx) ?_))
  rintro u w8 ⟨ys, hpe, hpw, hyl, hO, hu8⟩
  have hz8 := hu8.size
  rw [← hs9] at hO
  replace hU := hU.trans (Ext.upd hu8)
  replace hB1 := hB1.ext hu8
  obtain ⟨u9, hu9_⟩ : ∃ n, n = w8.heap.size := ⟨_, rfl⟩
  have hN9 : NOwn LU w8 23 5 s9 u9 u ys := NOwn.of (fun _ => rfl) (hO.eq rfl (liF _).symm) (fun b hb => by have := (hO.lt hb).2; omega)
  refine L_op rfl (X_fn (vs := [u]) en12 rfl (CT.mono (c_compact u ys _ s9 u9 hN9) ?_))
  rintro v10 w10 ⟨ds, hN10, hds, hob, hu10⟩
  have hz10 := hu10.size
  have hob9 := fun b (hb : obk u = some b) => (hN9.1.lt hb).1
  replace hU := hU.trans (hu10.mono fun i _ h => by have := hob9 i h; show n0 ≤ i; omega)
  refine L_op rfl (X_assign (v := v10) rfl ?_)
  refine L_nil ?_
  refine T_n ?_
  refine W_ret ?_
  have hlaw := comp_law hpw ys.length (Nat.le_refl _)
  have hds2 : ds = compK ys ys.length := hds
  have hcl : (compK ys ys.length).length ≤ ys.length := compK_le ys _
  exact BQ_r (End_1 Try.results5 (v := v10) rfl ⟨ds, by rw [hds2]; exact hlaw.1, fun z => by rw [hds2]; exact (hlaw.2 z).trans (by rw [List.take_of_length_le (Nat.le_refl _)]; exact hpe.mem_iff), by rw [hds2]; omega, (hN10.1.more (by omega)).eq rfl (liF _), hU.own hn0⟩)

theorem c_oldest (on : List Bool) (tx : List Int) (w : World) (hon : on.length = 8) (htx : tx.length = 8) : CT Try.prog 6 #[(.agg (pinC on tx).toArray)] w fun v w' => ∃ (zs : List Int) (x : Int) (g : Bool), v = .tuple #[u32V x, .bool g] ∧ zs.Pairwise (· < ·) ∧ (∀ z, z ∈ zs ↔ z ∈ openL on tx) ∧ (g = decide (0 < zs.length)) ∧ (zs[0]? = some x ∨ (zs = [] ∧ x = 0)) ∧ Ext w w' := by
  obtain ⟨n0, hn0⟩ : ∃ n, n = w.heap.size := ⟨_, rfl⟩
  have hU : Upd (fun i => n0 ≤ i) w w := Upd.refl _ _
  refine CT_of Try.func6 rfl rfl rfl ?_
  refine W_seq ?_
  refine W_reg ?_
  refine L_op rfl (X_box (v := (.agg (pinC on tx).toArray)) (c := ((pinC on tx)).toArray) rfl rfl ?_)
  intro b1 w1 hn1
  have hbn1 := hn1.num; have hbs1 := hn1.size
  replace hU := hU.trans (Ext.upd hn1.ext)
  have hB1 := hn1.blk
  refine L_op rfl (X_assign (v := (.int .u32 (0))) rfl ?_)
  refine L_op rfl (X_assign (v := (.bool (false))) rfl ?_)
  refine L_nil ?_
  refine T_n ?_
  refine W_seq ?_
  refine W_seq ?_
  refine W_reg ?_
  refine L_op rfl (X_loadA (p := (ptr b1 (0))) (xs := (pinC on tx)) A26 rfl hB1.atAll (pinC_len hon htx) ?_)
  refine L_op rfl (X_fn (vs := [(.agg (pinC on tx).toArray)]) en5 rfl (CT.mono (c_allP on tx _ hon htx) ?_))
  rintro u w2 ⟨zs, hpw, hme, hzl, hO, hu2⟩
  have hz2 := hu2.size
  replace hU := hU.trans (Ext.upd hu2)
  replace hB1 := hB1.ext hu2
  have hO_b : ∀ b, obk u = some b → b < w2.heap.size := fun b hb => (hO.lt hb).2
  refine L_op rfl (X_assign (v := u) rfl ?_)
  refine L_nil ?_
  refine T_n ?_
  refine W_seq ?_
  refine W_reg ?_
  refine L_op rfl (X_move (v := u) rfl ?_)
  refine L_op rfl (X_len (v := u) (n := zs.length) Try.underlying27 rfl hO.sv ?_)
  by_cases hc3 : (((zs.length : Nat) : Int) : Int) > (0)
  · refine L_op rfl (X_cmp (k := .i64) (a := ((zs.length : Nat) : Int)) (b := 0) (r := true) rfl rfl rfl (decide_eq_true (p := ((0) : Int) < ((((zs.length : Nat) : Int)) : Int)) (by omega)) ?_)
    refine L_nil ?_
    refine T_n ?_
    refine W_ct rfl ?_
    refine W_seq ?_
    refine W_reg ?_
    refine L_op rfl (X_move (v := u) rfl ?_)
    refine L_op rfl (X_idx (v := u) (n := zs.length) (k := .i64) (i := 0) S27 rfl hO.sv rfl (by omega) (by omega) ?_)
    obtain ⟨x, hx⟩ : ∃ x, zs[0]? = some x := ⟨_, List.getElem?_eq_getElem (by omega)⟩
    refine L_op rfl (X_load (v := u32V x) T23 rfl (hO.rd.cell (by rw [show (0 : Int).toNat * 1 = 0 by omega, List.getElem?_map, hx]; rfl)) ?_)
    refine L_op rfl (X_assign (v := (u32V x)) rfl ?_)
    refine L_op rfl (X_assign (v := (.bool (true))) rfl ?_)
    refine L_nil ?_
    refine T_n ?_
    refine W_ret ?_
    refine T_r ?_
    exact BQ_r (End_2 Try.results6 (v1 := u32V x) (v2 := .bool true) rfl rfl ⟨zs, x, true, rfl, hpw, hme, (decide_eq_true (by omega)).symm, .inl hx, hU.own hn0⟩)
  · refine L_op rfl (X_cmp (k := .i64) (a := ((zs.length : Nat) : Int)) (b := 0) (r := false) rfl rfl rfl (decide_eq_false (p := ((0) : Int) < ((((zs.length : Nat) : Int)) : Int)) (by omega)) ?_)
    refine L_nil ?_
    refine T_n ?_
    refine W_cf rfl ?_
    refine W_skip ?_
    refine T_n ?_
    refine W_seq ?_
    refine W_reg ?_
    refine L_op rfl (X_assign (v := (.int .u32 (0))) rfl ?_)
    refine L_op rfl (X_assign (v := (.bool (false))) rfl ?_)
    refine L_nil ?_
    refine T_n ?_
    refine W_ret ?_
    exact BQ_r (End_2 Try.results6 (v1 := u32V 0) (v2 := .bool false) rfl rfl ⟨zs, 0, false, rfl, hpw, hme, (decide_eq_false (by omega)).symm, .inr ⟨List.eq_nil_of_length_eq_zero (by omega), rfl⟩, hU.own hn0⟩)
end Go.Proofs.Ytlelcjppakmnaaa
