/-
 Spaces: how many may be taken; where a page stands. (Printed by wip/gen/t13e.py of this repo.)
-/
import Derived.Test.YtmaikcnjgkoghaaSpD
import Derived.Test.YtmaikcnjgkoghaaBaseS
namespace Go.Proofs.Ytmaikcnjgkoghaa
open Go Go.SL Go.Proofs
set_option linter.unusedVariables false

theorem opL_le {sz : Int} {us : List Bool} {ls : List La} {u : Int} {ps : List Int} : (opL sz us ls u ps).length ≤ us.length := by
 unfold opL
 split
 ·exact Nat.le_trans (List.length_filter_le _ _) (by rw [List.length_range]; exact Nat.le_refl _)
 ·exact Nat.zero_le _
theorem fdiv_2 {x m : Nat} (h : m = x / 2) : Int.fdiv ((x : Nat) : Int) (2 ^ min (Int.toNat 1) IntKind.u64.bits) = ((m : Nat) : Int) := by
 have e : (2 : Int) ^ min (Int.toNat 1) IntKind.u64.bits = 2 := by decide
 rw [e, Int.fdiv_eq_ediv_of_nonneg _ (by decide), h]
 omega

theorem c_left (s : Sp) (u : Int) (pv : Value) (ps : List Int) (w : World) (lo up lo2 up2 : Nat) (hup : up ≤ w.heap.size) (hup2 : up2 ≤ w.heap.size) (hok : s.Ok) (hu0_ : 0 ≤ u) (hu1_ : u < 4294967296) (hs : s.Rd w lo up) (hp : NRd LU w lo2 up2 pv ps) : CT Try.prog 12 #[(.agg #[(.int .i64 (s.sz)), s.uv, s.lv]), (.int .u32 (u)), pv] w fun v w' => v = .int .i64 (((opL s.sz s.us s.ls u ps).length : Nat) : Int) ∧ Ext w w' := by
 obtain ⟨n0, hn0⟩ : ∃ n, n = w.heap.size := ⟨_, rfl⟩
 have hU : Upd (fun i => n0 ≤ i) w w := Upd.refl _ _
 have hul := hs.1.sv.len; have hll := hs.2.sv.len
 rw [← hn0] at hup hup2
 refine CT_of Try.func12 rfl rfl rfl ?_
 refine W_seq ?_
 refine W_reg ?_
 refine L_op rfl (X_box (v := (.agg #[(.int .i64 (s.sz)), s.uv, s.lv])) (c := ([(.int .i64 (s.sz)), s.uv, s.lv]).toArray) rfl rfl ?_)
 intro b1 w1 hn1
 have hbn1 := hn1.num; have hbs1 := hn1.size
 replace hs := hs.ext hn1.ext
 replace hU := hU.trans (Ext.upd hn1.ext)
 replace hp := hp.ext hn1.ext
 have hB1 := hn1.blk
 refine L_op rfl (X_alloc (z := (.int .i64 (0))) (c := #[(.int .i64 (0))]) Zv3 rfl ?_)
 intro b2 w2 hn2
 have hbn2 := hn2.num; have hbs2 := hn2.size
 replace hs := hs.ext hn2.ext
 replace hU := hU.trans (Ext.upd hn2.ext)
 replace hp := hp.ext hn2.ext
 replace hB1 := hB1.ext hn2.ext
 have hB2 := hn2.blk
 refine L_nil ?_
 refine T_n ?_
 refine W_seq ?_
 refine W_seq ?_
 refine W_reg ?_
 refine L_op rfl (X_loadA (p := (ptr b1 (0))) (xs := [(.int .i64 (s.sz)), s.uv, s.lv]) A25 rfl hB1.atAll rfl ?_)
 refine L_op rfl (X_move (v := (.int .u32 (u))) rfl ?_)
 refine L_op rfl (X_move (v := pv) rfl ?_)
 obtain ⟨nb, hnb⟩ : ∃ n, n = w2.heap.size := ⟨_, rfl⟩
 have hcr_ := c_open s u pv ps w2 lo up lo2 up2 hs hp
 refine L_op rfl (X_fn (vs := [(.agg ([(.int .i64 (s.sz)), s.uv, s.lv]).toArray), (.int .u32 (u)), pv]) en22 rfl ?_)
 refine CT.mono hcr_ ?_
 clear hcr_
 rintro _ w3 ⟨rfl, hK1, hK2, hK3, hu3, hz3⟩
 rw [← hnb] at hK1 hK2 hK3 ⊢
 replace hs := hs.ext hu3
 replace hU := hU.trans (Ext.upd hu3)
 replace hp := hp.ext hu3
 replace hB1 := hB1.ext hu3
 replace hB2 := hB2.ext hu3
 refine L_nil ?_
 refine T_n ?_
 refine W_block ?_
 obtain ⟨nL, hnL⟩ : ∃ n, n = w3.heap.size := ⟨_, rfl⟩
 refine W_rangeS (lb := [ptr nb 0, ptr (nb + 1) 0, ptr (nb + 2) 0]) (xs := (opX s.sz s.us s.ls u ps)) rfl en30 (c_open1 s u pv ps nb (nb + 1) (nb + 2) _ lo up lo2 up2 (by omega) (by omega) hok hu0_ hu1_ hK1 hK2 hK3 hs hp) (Upd.refl _ _) rfl (fun x hx => by unfold opX at hx; obtain ⟨y, _, rfl⟩ := List.mem_map.1 hx; rfl) (fun b => b = b2) (fun b hb => ⟨fun h2 => by have h2 : b = nb ∨ b = nb + 1 ∨ b = nb + 2 ∨ (lo ≤ b ∧ b < up) ∨ (lo2 ≤ b ∧ b < up2) := h2; have hb : b = b2 := hb; rcases h2 with h2 | h2 | h2 | h2 | h2 <;> omega, by have hb : b = b2 := hb; omega⟩) (fun b h h2 => by have h2 : b = nb ∨ b = nb + 1 ∨ b = nb + 2 ∨ (lo ≤ b ∧ b < up) ∨ (lo2 ≤ b ∧ b < up2) := h2; rcases h2 with h2 | h2 | h2 | h2 | h2 <;> omega) (fun k W => Blk W b2 #[.int .i64 ((k : Nat) : Int)] 3 ∧ Upd (fun i => n0 ≤ i) w W) (fun k e W => False) (fun k W W2 hI hu => by obtain ⟨hB2, hU⟩ := hI; exact ⟨hB2.upd hu fun h => by { rcases h with h | h <;> omega }, hU.trans (hu.mono fun i _ h => by { show n0 ≤ i; rcases h with h | h <;> omega })⟩) (fun _ _ _ _ h _ => h) ?_ ?_ ?_ ?_
 ·intro W hx_ hs_
  exact ⟨hB2.ext hx_, hU.trans (Ext.upd hx_)⟩
 ·intro k x W hk_ hI_ hsz_ hlp_
  obtain ⟨hB2, hU⟩ := hI_
  obtain ⟨n, hn, rfl⟩ := opX_in hk_
  have hkl := (List.getElem?_eq_some_iff.1 hn).1
  have hle := opL_le (sz := s.sz) (us := s.us) (ls := s.ls) (u := u) (ps := ps)
  have hD := Upd.refl (fun b => b = b2) W
  refine W_skip ?_
  refine T_n ⟨hD, fun W2 hu2_ hlp2_ => ?_⟩
  have hsz2_ := hu2_.size
  replace hB2 := hB2.upd hu2_ fun h => by have h : b2 = nL + 1 := (by rw [hnL]; exact h); omega
  replace hU := hU.trans (hu2_.mono fun i _ h => by have h : i = nL + 1 := (by rw [hnL]; exact h); show n0 ≤ i; omega)
  have hD := Upd.refl (fun b => b = b2) W2
  refine W_block ?_
  refine W_reg ?_
  refine L_op rfl (X_load (p := (ptr b2 (0))) (v := (.int .i64 (((k : Nat) : Int)))) T3 rfl (hB2.at1 rfl) ?_)
  refine L_op rfl (X_arith (k := .i64) (a := ((k : Nat) : Int)) (b := 1) (r := ((k + 1 : Nat) : Int)) rfl rfl rfl (iadd64 (by omega) (by omega) (by omega)) ?_)
  refine L_op0 (X_store (b := b2) (o := 0) T3 rfl rfl rfl hB2 (by show (0 : Nat) < 1; decide) ?_)
  intro w4 hu4 hb4
  have hz4 := hu4.size
  replace hU := hU.trans (hu4.mono fun i _ h => by have h : i = b2 := h; show n0 ≤ i; omega)
  replace hD := hD.comp hu4 (fun _ _ h => h) fun i hi h => by have h : i = b2 := h; show i = b2; omega
  replace hB2 : Blk w4 b2 #[(.int .i64 (((k + 1 : Nat) : Int)))] 3 := hb4
  refine L_nil ?_
  refine B_n ?_
  exact RQ_n hD ⟨hB2, hU⟩
 ·intro W hI_ hd_
  obtain ⟨hB2, hU⟩ := hI_
  rw [opX_len] at hB2
  have hd : Dfd W nL := by rw [hnL]; exact hd_
  refine B_n ?_
  refine T_n ?_
  refine W_seq ?_
  refine W_reg ?_
  refine L_op rfl (X_load (p := (ptr b2 (0))) (v := (.int .i64 ((((opL s.sz s.us s.ls u ps).length : Nat) : Int)))) T3 rfl (hB2.at1 rfl) ?_)
  refine L_op0 (X_store (b := b2) (o := 0) T3 rfl rfl rfl hB2 (by show (0 : Nat) < 1; decide) ?_)
  intro w5 hu5 hb5
  have hz5 := hu5.size
  replace hU := hU.trans (hu5.mono fun i _ h => by have h : i = b2 := h; show n0 ≤ i; omega)
  replace hd := hd.upd hu5 fun h => by have h : nL = b2 := h; omega
  replace hB2 : Blk w5 b2 #[(.int .i64 ((((opL s.sz s.us s.ls u ps).length : Nat) : Int)))] 3 := hb5
  refine L_nil ?_
  refine T_n ?_
  refine W_ret ?_
  refine BQ_r (End_m (hnL ▸ hd) fun w9 hu9 => ?_)
  have hB9 := hB2.upd hu9 fun h => by have h : b2 = nL := (by rw [hnL]; exact h); omega
  exact End_1 Try.results12 (v := .int .i64 (((opL s.sz s.us s.ls u ps).length : Nat) : Int)) (RV_1 T3 rfl (hB9.at1 rfl)) ⟨rfl, (hU.trans (hu9.mono fun i _ h => by have h : i = nL := (by rw [hnL]; exact h); show n0 ≤ i; omega)).own hn0⟩
 ·intro k e W hk_ hI_ hd_ he_
  exact hI_.elim

theorem c_cmp26 (x : La) (n : Int) (w : World) (h0 : 0 ≤ x.1 ∧ x.1 ≤ 1000) (h1 : 0 ≤ n ∧ n ≤ 1000) : CT Try.prog 26 #[(.agg #[(.int .i64 (x.1)), (.int .u32 (x.2))]), (.int .i64 (n))] w fun v w' => v = .int .i64 (x.1 - n) ∧ Ext w w' := by
 obtain ⟨n0, hn0⟩ : ∃ n, n = w.heap.size := ⟨_, rfl⟩
 have hU : Upd (fun i => n0 ≤ i) w w := Upd.refl _ _
 refine CT_of Try.func26 rfl rfl rfl ?_
 refine W_seq ?_
 refine W_reg ?_
 refine L_op rfl (X_box (v := (.agg #[(.int .i64 (x.1)), (.int .u32 (x.2))])) (c := ([(.int .i64 (x.1)), (.int .u32 (x.2))]).toArray) rfl rfl ?_)
 intro b1 w1 hn1
 have hbn1 := hn1.num; have hbs1 := hn1.size
 replace hU := hU.trans (Ext.upd hn1.ext)
 have hB1 := hn1.blk
 refine L_op rfl (X_assign (v := (.int .i64 (0))) rfl ?_)
 refine L_nil ?_
 refine T_n ?_
 refine W_seq ?_
 refine W_reg ?_
 refine L_op rfl (X_fldP (b := b1) (o := 0) (r := 0) Fd44_0 rfl rfl ?_)
 refine L_op rfl (X_load (p := (ptr b1 (0))) (v := (.int .i64 (x.1))) T3 rfl (hB1.at1 rfl) ?_)
 refine L_op rfl (X_move (v := (.int .i64 (n))) rfl ?_)
 refine L_op rfl (X_arith (k := .i64) (a := x.1) (b := n) (r := (x.1 - n)) rfl rfl rfl (isub64 rfl (by omega) (by omega)) ?_)
 refine L_op rfl (X_assign (v := (.int .i64 ((x.1 - n)))) rfl ?_)
 refine L_nil ?_
 refine T_n ?_
 refine W_ret ?_
 exact BQ_r (End_1 Try.results26 (v := .int .i64 (x.1 - n)) rfl ⟨rfl, hU.own hn0⟩)

/-- rising places, small -/
def RiseL (ls : List La) : Prop := (∀ x ∈ ls, 0 ≤ x.1 ∧ x.1 ≤ 1000) ∧ ∀ (j k : Nat) (x y : La), j < k → ls[j]? = some x → ls[k]? = some y → x.1 < y.1
def PosL (ls : List La) (n : Int) (k : Nat) : Prop := k ≤ ls.length ∧ (∀ (j : Nat) (x : La), j < k → ls[j]? = some x → x.1 < n) ∧ ∀ (j : Nat) (x : La), k ≤ j → ls[j]? = some x → n ≤ x.1

theorem wrap_i64 {a : Int} (h0 : 0 ≤ a) (h1 : a < 9223372036854775808) : IntKind.i64.wrap a = a := by
 have e : (2 : Int) ^ 64 = 18446744073709551616 := by decide
 have e2 : (2 : Int) ^ 63 = 9223372036854775808 := by decide
 simp only [IntKind.wrap, IntKind.signed, IntKind.bits, Nat.reduceSub, e, e2, Bool.true_and]
 rw [show a % 18446744073709551616 = a by omega, if_neg (by simp only [decide_eq_true_eq]; omega)]

theorem pos_any {ls : List La} {n : Int} {k : Nat} {x : La} (hx : ls[k]? = some x) (h : x.1 = n) : (ls.any fun x => decide (x.1 = n)) = true := List.any_eq_true.2 ⟨x, List.mem_of_getElem? hx, by simpa using h⟩
theorem pos_none {ls : List La} {n : Int} (h : ∀ (j : Nat) (x : La), ls[j]? = some x → x.1 ≠ n) : (ls.any fun x => decide (x.1 = n)) = false := by
 rw [List.any_eq_false]
 intro x hx
 obtain ⟨j, hj, rfl⟩ := List.getElem_of_mem hx
 simpa using h j _ (List.getElem?_eq_getElem hj)

theorem rise_len {ls : List La} (h : RiseL ls) : ls.length ≤ 1001 := by
 have h1 : ∀ k, k < ls.length → ∀ x, ls[k]? = some x → (k : Int) ≤ x.1 := by
  intro k
  induction k with
  | zero => intro _ x hx; have := (h.1 x (List.mem_of_getElem? hx)).1; omega
  | succ k ih =>
   intro hk x hx
   obtain ⟨y, hy⟩ : ∃ y, ls[k]? = some y := ⟨_, List.getElem?_eq_getElem (by omega)⟩
   have h2 := ih (by omega) y hy
   have h3 := h.2 k (k + 1) y x (by omega) hy hx
   omega
 rcases Nat.eq_zero_or_pos ls.length with h0 | h0
 ·omega
 ·obtain ⟨x, hx⟩ : ∃ x, ls[ls.length - 1]? = some x := ⟨_, List.getElem?_eq_getElem (by omega)⟩
  have h2 := h1 _ (by omega) x hx
  have h3 := (h.1 x (List.mem_of_getElem? hx)).2
  omega

theorem c_bsf (u : Value) (ls : List La) (n : Int) (w : World) (lo up : Nat) (hl : NRd LL w lo up u ls) (hri : RiseL ls) (hn : 0 ≤ n ∧ n ≤ 1000) : CT Try.prog 25 #[u, (.int .i64 (n)), (.func (.func 26) #[] #[])] w fun v w' => ∃ k : Nat, v = .tuple #[.int .i64 ((k : Nat) : Int), .bool (ls.any fun x => decide (x.1 = n))] ∧ PosL ls n k ∧ Ext w w' := by
 obtain ⟨n0, hn0⟩ : ∃ n, n = w.heap.size := ⟨_, rfl⟩
 have hU : Upd (fun i => n0 ≤ i) w w := Upd.refl _ _
 have hmx := hl.sv.len
 have hml : ls.length ≤ 1001 := rise_len hri
 refine CT_of Try.func25 rfl rfl rfl ?_
 refine W_seq ?_
 refine W_reg ?_
 refine L_op rfl (X_assign (v := (.int .i64 (0))) rfl ?_)
 refine L_op rfl (X_assign (v := (.bool (false))) rfl ?_)
 refine L_nil ?_
 refine T_n ?_
 refine W_seq ?_
 refine W_reg ?_
 refine L_op rfl (X_move (v := u) rfl ?_)
 refine L_op rfl (X_len (v := u) (n := ls.length) Try.underlying23 rfl hl.sv ?_)
 refine L_op rfl (X_assign (v := (.int .i64 (((ls.length : Nat) : Int)))) rfl ?_)
 refine L_nil ?_
 refine T_n ?_
 refine W_seq ?_
 refine W_reg ?_
 refine L_op rfl (X_move (v := (.int .i64 (((ls.length : Nat) : Int)))) rfl ?_)
 refine L_op rfl (X_assign (v := (.int .i64 (0))) rfl ?_)
 refine L_op rfl (X_assign (v := (.int .i64 (((ls.length : Nat) : Int)))) rfl ?_)
 refine L_nil ?_
 refine T_n ?_
 refine W_seq ?_
 refine W_block ?_
 refine W_loop (α := Nat × Nat) [9, 10, 11, 15, 16, 17, 18, 19, 20, 21, 22, 23, 24, 25, 26, 27, 28, 29, 30, 31, 32, 33, 34] (fun ⟨l_, h_⟩ => [(9, (.int .i64 (((l_ : Nat) : Int)))), (10, (.int .i64 (((h_ : Nat) : Int))))]) (fun ⟨l_, h_⟩ w_ => l_ ≤ h_ ∧ h_ ≤ ls.length ∧ (∀ (j : Nat) (x : La), j < l_ → ls[j]? = some x → x.1 < n) ∧ (∀ (j : Nat) (x : La), h_ ≤ j → ls[j]? = some x → n ≤ x.1) ∧ NRd LL w_ lo up u ls ∧ Upd (fun i => n0 ≤ i) w w_) (fun ⟨l_, h_⟩ => h_ - l_) ⟨rfl, (0, ls.length), ⟨Nat.zero_le _, Nat.le_refl _, fun j _ h => absurd h (Nat.not_lt_zero j), fun j y h hy => by have := (List.getElem?_eq_some_iff.1 hy).1; omega, hl, hU⟩, Out.refl _ _, ⟨rfl, rfl, trivial⟩⟩ ?_
 rintro ⟨l_, h_⟩ w1 _ ⟨hlh, hhl, hlo, hhi, hl, hU⟩
 have hsz_ := hU.size
 refine W_seq ?_
 refine W_seq ?_
 refine W_reg ?_
 refine L_op rfl (X_move (v := (.int .i64 (((l_ : Nat) : Int)))) rfl ?_)
 refine L_op rfl (X_move (v := (.int .i64 (((h_ : Nat) : Int)))) rfl ?_)
 by_cases hc2 : (((l_ : Nat) : Int) : Int) < (((h_ : Nat) : Int))
 ·refine L_op rfl (X_cmp (k := .i64) (a := ((l_ : Nat) : Int)) (b := ((h_ : Nat) : Int)) (r := true) rfl rfl rfl (decide_eq_true (p := ((((l_ : Nat) : Int)) : Int) < ((((h_ : Nat) : Int)) : Int)) (by omega)) ?_)
  refine L_nil ?_
  refine T_n ?_
  refine W_ct rfl ?_
  refine W_skip ?_
  refine T_n ?_
  refine W_block ?_
  refine W_seq ?_
  refine W_reg ?_
  refine L_op rfl (X_move (v := (.int .i64 (((l_ : Nat) : Int)))) rfl ?_)
  refine L_op rfl (X_move (v := (.int .i64 (((h_ : Nat) : Int)))) rfl ?_)
  obtain ⟨m, hm⟩ : ∃ m, m = (l_ + h_) / 2 := ⟨_, rfl⟩
  refine L_op rfl (X_arith (k := .i64) (a := ((l_ : Nat) : Int)) (b := ((h_ : Nat) : Int)) (r := ((l_ + h_ : Nat) : Int)) rfl rfl rfl (iadd64 (by omega) (by omega) (by omega)) ?_)
  refine L_op rfl (X_convInt (k := .i64) (a := ((l_ + h_ : Nat) : Int)) (r := ((l_ + h_ : Nat) : Int)) (by rw [Try.underlying3]; rfl) Try.underlying70 rfl (wrap_u64 (by omega) (by omega)) ?_)
  refine L_op rfl (X_shift (k := .u64) (yk := .u64) (a := ((l_ + h_ : Nat) : Int)) (b := 1) (r := ((m : Nat) : Int)) (.inr ⟨rfl, fdiv_2 hm⟩) (by omega) rfl rfl ?_)
  refine L_op rfl (X_convInt (k := .u64) (a := ((m : Nat) : Int)) (r := ((m : Nat) : Int)) (by rw [Try.underlying70]; rfl) Try.underlying3 rfl (wrap_i64 (by omega) (by omega)) ?_)
  refine L_op rfl (X_assign (v := (.int .i64 (((m : Nat) : Int)))) rfl ?_)
  refine L_nil ?_
  refine T_n ?_
  refine W_seq ?_
  refine W_reg ?_
  refine L_op rfl (X_move (v := (.func (.func 26) #[] #[])) rfl ?_)
  refine L_op rfl (X_move (v := u) rfl ?_)
  refine L_op rfl (X_move (v := (.int .i64 (((m : Nat) : Int)))) rfl ?_)
  refine L_op rfl (X_idx (v := u) (n := ls.length) (k := .i64) (i := ((m : Nat) : Int)) S23 rfl hl.sv rfl (by omega) (by omega) ?_)
  obtain ⟨x, hx⟩ : ∃ x, ls[m]? = some x := ⟨_, List.getElem?_eq_getElem (by omega)⟩
  refine L_op rfl (X_loadA (p := (pof u ((((m : Nat) : Int) : Int).toNat * 2))) (xs := [(.int .i64 (x.1)), (.int .u32 (x.2))]) A44 rfl (lall hl (Int.toNat_natCast _) hx) rfl ?_)
  refine L_op rfl (X_move (v := (.int .i64 (n))) rfl ?_)
  have hxm := hri.1 x (List.mem_of_getElem? hx)
  have hcr_ := c_cmp26 x n w1 hxm hn
  refine L_op rfl (X_cl (vs := [(.agg #[(.int .i64 (x.1)), (.int .u32 (x.2))]), (.int .i64 (n))]) (cap := []) en26 rfl rfl ?_)
  refine CT.mono hcr_ ?_
  clear hcr_
  rintro _ w3 ⟨rfl, hu3⟩
  have hz3 := hu3.size
  replace hl := hl.ext hu3
  replace hU := hU.trans (Ext.upd hu3)
  by_cases hc4 : ((x.1 - n) : Int) < (0)
  ·refine L_op rfl (X_cmp (k := .i64) (a := (x.1 - n)) (b := 0) (r := true) rfl rfl rfl (decide_eq_true (p := (((x.1 - n)) : Int) < ((0) : Int)) (by omega)) ?_)
   refine L_nil ?_
   refine T_n ?_
   refine W_ct rfl ?_
   refine W_reg ?_
   refine L_op rfl (X_move (v := (.int .i64 (((m : Nat) : Int)))) rfl ?_)
   refine L_op rfl (X_arith (k := .i64) (a := ((m : Nat) : Int)) (b := 1) (r := ((m + 1 : Nat) : Int)) rfl rfl rfl (iadd64 (by omega) (by omega) (by omega)) ?_)
   refine L_op rfl (X_assign (v := (.int .i64 (((m + 1 : Nat) : Int)))) rfl ?_)
   refine L_nil ?_
   refine B_n ?_
   refine T_n ?_
   exact ⟨rfl, (m + 1, h_), ⟨⟨by omega, hhl, fun j y hj hy => (Nat.lt_or_ge j m).elim (fun h1 => by have := hri.2 j m y x h1 hy hx; omega) fun h1 => by obtain rfl : j = m := by { omega }; rw [hx] at hy; cases hy; omega, hhi, hl, hU⟩, (by show h_ - (m + 1) < h_ - l_; omega)⟩, (Out.mk rfl), ⟨rfl, rfl, trivial⟩⟩
  ·refine L_op rfl (X_cmp (k := .i64) (a := (x.1 - n)) (b := 0) (r := false) rfl rfl rfl (decide_eq_false (p := (((x.1 - n)) : Int) < ((0) : Int)) (by omega)) ?_)
   refine L_nil ?_
   refine T_n ?_
   refine W_cf rfl ?_
   refine W_reg ?_
   refine L_op rfl (X_move (v := (.int .i64 (((m : Nat) : Int)))) rfl ?_)
   refine L_op rfl (X_assign (v := (.int .i64 (((m : Nat) : Int)))) rfl ?_)
   refine L_nil ?_
   refine B_n ?_
   refine T_n ?_
   exact ⟨rfl, (l_, m), ⟨⟨by omega, by omega, hlo, fun j y hj hy => (Nat.lt_or_ge m j).elim (fun h1 => by have := hri.2 m j x y h1 hx hy; omega) fun h1 => by obtain rfl : j = m := by { omega }; rw [hx] at hy; cases hy; omega, hl, hU⟩, (by show m - l_ < h_ - l_; omega)⟩, (Out.mk rfl), ⟨rfl, rfl, trivial⟩⟩
 ·refine L_op rfl (X_cmp (k := .i64) (a := ((l_ : Nat) : Int)) (b := ((h_ : Nat) : Int)) (r := false) rfl rfl rfl (decide_eq_false (p := ((((l_ : Nat) : Int)) : Int) < ((((h_ : Nat) : Int)) : Int)) (by omega)) ?_)
  refine L_nil ?_
  refine T_n ?_
  refine W_cf rfl ?_
  refine W_exit ?_
  refine T_e ?_
  refine T_e ?_
  refine B_x ?_
  refine T_n ?_
  refine W_seq ?_
  refine W_reg ?_
  refine L_op rfl (X_move (v := (.int .i64 (((l_ : Nat) : Int)))) rfl ?_)
  refine L_op rfl (X_move (v := (.int .i64 (((l_ : Nat) : Int)))) rfl ?_)
  refine L_op rfl (X_move (v := (.int .i64 (((ls.length : Nat) : Int)))) rfl ?_)
  by_cases hc5 : (((l_ : Nat) : Int) : Int) < (((ls.length : Nat) : Int))
  ·refine L_op rfl (X_cmp (k := .i64) (a := ((l_ : Nat) : Int)) (b := ((ls.length : Nat) : Int)) (r := true) rfl rfl rfl (decide_eq_true (p := ((((l_ : Nat) : Int)) : Int) < ((((ls.length : Nat) : Int)) : Int)) (by omega)) ?_)
   refine L_op rfl (X_move (v := (.bool (true))) rfl ?_)
   refine L_gy (dj := 39) rfl rfl rfl (X_move (v := (.func (.func 26) #[] #[])) rfl ?_)
   refine L_gy (dj := 39) rfl rfl rfl (X_move (v := u) rfl ?_)
   refine L_gy (dj := 39) rfl rfl rfl (X_move (v := (.int .i64 (((l_ : Nat) : Int)))) rfl ?_)
   refine L_gy (dj := 39) rfl rfl rfl (X_idx (v := u) (n := ls.length) (k := .i64) (i := ((l_ : Nat) : Int)) S23 rfl hl.sv rfl (by omega) (by omega) ?_)
   obtain ⟨x, hx⟩ : ∃ x, ls[l_]? = some x := ⟨_, List.getElem?_eq_getElem (by omega)⟩
   refine L_gy (dj := 39) rfl rfl rfl (X_loadA (p := (pof u ((((l_ : Nat) : Int) : Int).toNat * 2))) (xs := [(.int .i64 (x.1)), (.int .u32 (x.2))]) A44 rfl (lall hl (Int.toNat_natCast _) hx) rfl ?_)
   refine L_gy (dj := 39) rfl rfl rfl (X_move (v := (.int .i64 (n))) rfl ?_)
   have hxm := hri.1 x (List.mem_of_getElem? hx)
   have hcr_ := c_cmp26 x n w1 hxm hn
   refine L_gy (dj := 39) rfl rfl rfl (X_cl (vs := [(.agg #[(.int .i64 (x.1)), (.int .u32 (x.2))]), (.int .i64 (n))]) (cap := []) en26 rfl rfl ?_)
   refine CT.mono hcr_ ?_
   clear hcr_
   rintro _ w6 ⟨rfl, hu6⟩
   have hz6 := hu6.size
   replace hl := hl.ext hu6
   replace hU := hU.trans (Ext.upd hu6)
   by_cases hc7 : ((x.1 - n) : Int) = (0)
   ·refine L_gy (dj := 39) rfl rfl rfl (X_cmp (k := .i64) (a := (x.1 - n)) (b := 0) (r := true) rfl rfl rfl (decide_eq_true (p := (((x.1 - n)) : Int) = ((0) : Int)) (by omega)) ?_)
    refine L_op rfl (X_pick (t := true) (v := (.bool (true))) rfl rfl ?_)
    refine L_op rfl (X_assign (v := (.int .i64 (((l_ : Nat) : Int)))) rfl ?_)
    refine L_op rfl (X_assign (v := (.bool (true))) rfl ?_)
    refine L_nil ?_
    refine T_n ?_
    refine W_ret ?_
    have hany : (ls.any fun x => decide (x.1 = n)) = true := pos_any hx (by omega)
    exact BQ_r (End_2 Try.results25 (v1 := .int .i64 ((l_ : Nat) : Int)) (v2 := .bool true) rfl rfl ⟨l_, by rw [hany], ⟨by omega, hlo, fun j y hj hy => hhi j y (by omega) hy⟩, hU.own hn0⟩)
   ·refine L_gy (dj := 39) rfl rfl rfl (X_cmp (k := .i64) (a := (x.1 - n)) (b := 0) (r := false) rfl rfl rfl (decide_eq_false (p := (((x.1 - n)) : Int) = ((0) : Int)) (by omega)) ?_)
    refine L_op rfl (X_pick (t := true) (v := (.bool (false))) rfl rfl ?_)
    refine L_op rfl (X_assign (v := (.int .i64 (((l_ : Nat) : Int)))) rfl ?_)
    refine L_op rfl (X_assign (v := (.bool (false))) rfl ?_)
    refine L_nil ?_
    refine T_n ?_
    refine W_ret ?_
    have hany : (ls.any fun x => decide (x.1 = n)) = false := pos_none fun j y hy => (Nat.lt_trichotomy j l_).elim (fun h1 => by have := hlo j y h1 hy; omega) fun h1 => h1.elim (fun h1 => by subst h1; rw [hx] at hy; cases hy; omega) fun h1 => by have := hri.2 l_ j x y h1 hx hy; have := hhi l_ x (by omega) hx; omega
    exact BQ_r (End_2 Try.results25 (v1 := .int .i64 ((l_ : Nat) : Int)) (v2 := .bool false) rfl rfl ⟨l_, by rw [hany], ⟨by omega, hlo, fun j y hj hy => hhi j y (by omega) hy⟩, hU.own hn0⟩)
  ·refine L_op rfl (X_cmp (k := .i64) (a := ((l_ : Nat) : Int)) (b := ((ls.length : Nat) : Int)) (r := false) rfl rfl rfl (decide_eq_false (p := ((((l_ : Nat) : Int)) : Int) < ((((ls.length : Nat) : Int)) : Int)) (by omega)) ?_)
   refine L_op rfl (X_move (v := (.bool (false))) rfl ?_)
   refine L_gn (dj := 39) (t := false) rfl rfl rfl rfl ?_
   refine L_gn (dj := 39) (t := false) rfl rfl rfl rfl ?_
   refine L_gn (dj := 39) (t := false) rfl rfl rfl rfl ?_
   refine L_gn (dj := 39) (t := false) rfl rfl rfl rfl ?_
   refine L_gn (dj := 39) (t := false) rfl rfl rfl rfl ?_
   refine L_gn (dj := 39) (t := false) rfl rfl rfl rfl ?_
   refine L_gn (dj := 39) (t := false) rfl rfl rfl rfl ?_
   refine L_gn (dj := 39) (t := false) rfl rfl rfl rfl ?_
   refine L_op rfl (X_pick (t := false) (v := (.bool (false))) rfl rfl ?_)
   refine L_op rfl (X_assign (v := (.int .i64 (((l_ : Nat) : Int)))) rfl ?_)
   refine L_op rfl (X_assign (v := (.bool (false))) rfl ?_)
   refine L_nil ?_
   refine T_n ?_
   refine W_ret ?_
   have hany : (ls.any fun x => decide (x.1 = n)) = false := pos_none fun j y hy => by have h1 := (List.getElem?_eq_some_iff.1 hy).1; have := hlo j y (by omega) hy; omega
   exact BQ_r (End_2 Try.results25 (v1 := .int .i64 ((l_ : Nat) : Int)) (v2 := .bool false) rfl rfl ⟨l_, by rw [hany], ⟨by omega, hlo, fun j y hj hy => hhi j y (by omega) hy⟩, hU.own hn0⟩)
end Go.Proofs.Ytmaikcnjgkoghaa
