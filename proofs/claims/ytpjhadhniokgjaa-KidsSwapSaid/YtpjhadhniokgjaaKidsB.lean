/-
  More contracts of chapter 16: comparing, backward. (Printed by wip/gen/t16b.py of this repo.)
-/
import Derived.Test.YtpjhadhniokgjaaKids
namespace Go.Proofs.Ytpjhadhniokgjaa
open Go Go.SL Go.Proofs

theorem ext27 : Extern.find Try.f27 = some Extern.BytealgCompare.compare := by kernel_rfl
theorem extn27 : Extern.findNext Try.f27 = none := by kernel_rfl

theorem c_compare (a b : Value) (l m : List UInt8) (w : World) (ha : Rd w 1 a l.length (l.map byteV)) (hb : Rd w 1 b m.length (m.map byteV)) : CT Try.prog 22 #[a, b] w fun v w' => v = .int .i64 (cmpB l m) ∧ w = w' := by
  refine CT_of Try.func22 rfl rfl rfl ?_
  refine W_seq ?_
  refine W_reg ?_
  refine L_op rfl (X_assign (v := (.int .i64 (0))) rfl ?_)
  refine L_nil ?_
  refine T_n ?_
  refine W_seq ?_
  refine W_reg ?_
  refine L_op rfl (X_move (v := a) rfl ?_)
  refine L_op rfl (X_move (v := b) rfl ?_)
  refine L_op rfl (X_ext (vs := [a, b]) Try.func27 rfl rfl extn27 ext27 rfl (compare_run ha hb) ?_)
  refine L_op rfl (X_assign (v := (.int .i64 (cmpB l m))) rfl ?_)
  refine L_nil ?_
  refine T_n ?_
  refine W_ret ?_
  exact BQ_r (End_1 Try.results22 (v := .int .i64 (cmpB l m)) rfl ⟨rfl, rfl⟩)

theorem c_backward (s : Value) (es : List KE) (w : World) (lo hi : Nat) (hs : NRd LK w lo hi s es) : CT Try.prog 21 #[s] w fun v w' => v = .func (.func 26) #[] #[ptr w.heap.size 0] ∧ Blk w' w.heap.size #[s] 22 ∧ Ext w w' ∧ w'.heap.size = w.heap.size + 1 := by
  obtain ⟨n0, hn0⟩ : ∃ n, n = w.heap.size := ⟨_, rfl⟩
  have hU : Upd (fun i => n0 ≤ i) w w := Upd.refl _ _
  refine CT_of Try.func21 rfl rfl rfl ?_
  refine W_seq ?_
  refine W_reg ?_
  refine L_op rfl (X_box (v := s) (c := #[s]) rfl (hs.sv.cells) ?_)
  intro b1 w1 hn1
  have hbn1 := hn1.num; have hbs1 := hn1.size
  replace hs := hs.ext hn1.ext
  replace hU := hU.trans (Ext.upd hn1.ext)
  have hB1 := hn1.blk
  refine L_op rfl (X_assign (v := .nilFunc) rfl ?_)
  refine L_nil ?_
  refine T_n ?_
  refine W_seq ?_
  refine W_reg ?_
  refine L_op rfl (X_makeFunc (vs := [ptr b1 0]) rfl ?_)
  refine L_op rfl (X_assign (v := (.func (.func 26) #[] #[ptr b1 0])) rfl ?_)
  refine L_nil ?_
  refine T_n ?_
  refine W_ret ?_
  exact BQ_r (End_1 Try.results21 (v := .func (.func 26) #[] #[ptr b1 0]) rfl ⟨by rw [hbn1], hbn1 ▸ hB1, hU.own hn0, hbs1⟩)

def kidV (e : KE) : Value := .agg (e.1 :: ptC e.2.2).toArray
def kZ : KE := (.slice none 0 0, [], (0, 0, 0, 0, 0))
def backX (es : List KE) : List (List Value) := (List.range es.length).map fun k => [.int .i64 ((es.length - 1 - k : Nat) : Int), kidV (es.getD (es.length - 1 - k) kZ)]
theorem backX_length (es : List KE) : (backX es).length = es.length := by unfold backX; rw [List.length_map, List.length_range]
theorem backX_at {es : List KE} {k : Nat} (hk : k < es.length) : (backX es)[k]? = some [.int .i64 ((es.length - 1 - k : Nat) : Int), kidV (es.getD (es.length - 1 - k) kZ)] := by
  unfold backX
  rw [List.getElem?_map, List.getElem?_range hk]; rfl
theorem getD_at {es : List KE} {i : Nat} (hi : i < es.length) : es[i]? = some (es.getD i kZ) := by rw [List.getD_eq_getElem?_getD, List.getElem?_eq_getElem hi]; rfl

theorem c_back1 (s : Value) (es : List KE) (b1 : Nat) (w : World) (lo hi : Nat) (hB : Blk w b1 #[s] 22) (hs : NRd LK w lo hi s es) :
    IterC Try.prog 26 [ptr b1 0] (backX es) w (fun b => b = b1 ∨ (lo ≤ b ∧ b < hi)) (fun _ => False) := by
  intro lp J Jx W Db hu0 hDb hJs hJxs hy hJ0
  have hmx := hs.sv.len
  replace hB := hB.upd hu0 fun h => h (.inl rfl)
  replace hs := hs.upd hu0 fun i h1 h2 h => h (.inr ⟨h1, h2⟩)
  show CT Try.prog 26 #[.func (.yield lp) #[] #[], ptr b1 0] W _
  refine CT_of Try.func26 rfl rfl rfl ?_
  refine W_seq ?_
  refine W_reg ?_
  refine L_op rfl (X_load (p := (ptr b1 (0))) (v := s) T22 rfl (hB.at1 rfl) ?_)
  refine L_op rfl (X_len (v := s) (n := es.length) Try.underlying22 rfl hs.sv ?_)
  refine L_op rfl (X_arith (k := .i64) (a := ((es.length : Nat) : Int)) (b := 1) (r := ((es.length : Nat) : Int) - 1) rfl rfl rfl (isub64 rfl (by omega) (by omega)) ?_)
  refine L_op rfl (X_assign (v := (.int .i64 (((es.length : Nat) : Int) - 1))) rfl ?_)
  refine L_nil ?_
  refine T_n ?_
  refine W_block ?_
  refine W_loop (α := Nat) [3, 7, 8, 9, 10, 11, 12, 13, 14, 15, 16, 17, 18] (fun k => [(3, (.int .i64 (((es.length : Nat) : Int) - 1 - ((k : Nat) : Int))))]) (fun k w_ => k ≤ es.length ∧ J k w_ ∧ Blk w_ b1 #[s] 22 ∧ NRd LK w_ lo hi s es) (fun k => es.length - k) ⟨rfl, 0, ⟨Nat.zero_le _, hJ0, hB, hs⟩, Out.refl _ _, ⟨(by show Value.int .i64 (((es.length : Nat) : Int) - 1) = .int .i64 (((es.length : Nat) : Int) - 1 - ((0 : Nat) : Int)); congr 1; omega), trivial⟩⟩ ?_
  rintro k w1 _ ⟨hkl, hJ, hB, hs⟩
  refine W_seq ?_
  refine W_seq ?_
  refine W_reg ?_
  refine L_op rfl (X_move (v := (.int .i64 (((es.length : Nat) : Int) - 1 - ((k : Nat) : Int)))) rfl ?_)
  by_cases hc2 : (((es.length : Nat) : Int) - 1 - ((k : Nat) : Int) : Int) ≥ (0)
  · refine L_op rfl (X_cmp (k := .i64) (a := ((es.length : Nat) : Int) - 1 - ((k : Nat) : Int)) (b := 0) (r := true) rfl rfl rfl (decide_eq_true (p := ((0) : Int) ≤ ((((es.length : Nat) : Int) - 1 - ((k : Nat) : Int)) : Int)) (by omega)) ?_)
    have hk : k < es.length := by omega
    have hke : ((es.length : Nat) : Int) - 1 - ((k : Nat) : Int) = ((es.length - 1 - k : Nat) : Int) := by omega
    refine L_nil ?_
    refine T_n ?_
    refine W_ct rfl ?_
    refine W_skip ?_
    refine T_n ?_
    refine W_seq ?_
    refine W_block ?_
    refine W_seq ?_
    refine W_reg ?_
    refine L_op rfl (X_move (v := (.func (.yield lp) #[] #[])) rfl ?_)
    refine L_op rfl (X_move (v := .int .i64 ((es.length - 1 - k : Nat) : Int)) (by rw [← hke]; rfl) ?_)
    refine L_op rfl (X_load (p := (ptr b1 (0))) (v := s) T22 rfl (hB.at1 rfl) ?_)
    refine L_op rfl (X_move (v := (.int .i64 (((es.length : Nat) : Int) - 1 - ((k : Nat) : Int)))) rfl ?_)
    refine L_op rfl (X_idx (v := s) (n := es.length) (k := .i64) (i := ((es.length : Nat) : Int) - 1 - ((k : Nat) : Int)) S22 rfl hs.sv rfl (by omega) (by omega) ?_)
    refine L_op rfl (X_loadA (xs := (es.getD (es.length - 1 - k) kZ).1 :: ptC (es.getD (es.length - 1 - k) kZ).2.2) A39 rfl (kall hs (k := es.length - 1 - k) (by omega) (getD_at (by omega))) rfl ?_)
    refine L_op rfl (X_yield (vs := [.int .i64 ((es.length - 1 - k : Nat) : Int), kidV (es.getD (es.length - 1 - k) kZ)]) rfl rfl (YieldC.mono (hy k _ _ (backX_at hk) hJ) ?_))
    rintro _ W2 (⟨rfl, hJ2, hu⟩ | ⟨rfl, hJx⟩)
    · replace hB := hB.upd hu fun h => hDb _ h (.inl rfl)
      replace hs := hs.upd hu fun i h1 h2 h => hDb _ h (.inr ⟨h1, h2⟩)
      refine L_op rfl (X_not (b := true) (r := false) rfl rfl ?_)
      refine L_nil ?_
      refine T_n ?_
      refine W_cf rfl ?_
      refine W_skip ?_
      refine B_n ?_
      refine T_n ?_
      refine W_reg ?_
      refine L_op rfl (X_move (v := (.int .i64 (((es.length : Nat) : Int) - 1 - ((k : Nat) : Int)))) rfl ?_)
      refine L_op rfl (X_arith (k := .i64) (a := ((es.length : Nat) : Int) - 1 - ((k : Nat) : Int)) (b := 1) (r := ((es.length : Nat) : Int) - 1 - ((k + 1 : Nat) : Int)) rfl rfl rfl (isub64 (by omega) (by omega) (by omega)) ?_)
      refine L_op rfl (X_assign (v := (.int .i64 (((es.length : Nat) : Int) - 1 - ((k + 1 : Nat) : Int)))) rfl ?_)
      refine L_nil ?_
      refine T_n ?_
      exact ⟨rfl, k + 1, ⟨⟨hk, hJ2, hB, hs⟩, (by show es.length - (k + 1) < es.length - k; omega)⟩, (Out.mk rfl), ⟨rfl, trivial⟩⟩
    · refine L_op rfl (X_not (b := false) (r := true) rfl rfl ?_)
      refine L_nil ?_
      refine T_n ?_
      refine W_ct rfl ?_
      refine W_ret ?_
      refine B_r ?_
      refine T_r ?_
      refine T_r ?_
      refine B_r ?_
      exact BQ_r (End_0 Try.results26 (.inr ⟨k, by rw [backX_length]; omega, hJx⟩))
  · refine L_op rfl (X_cmp (k := .i64) (a := ((es.length : Nat) : Int) - 1 - ((k : Nat) : Int)) (b := 0) (r := false) rfl rfl rfl (decide_eq_false (p := ((0) : Int) ≤ ((((es.length : Nat) : Int) - 1 - ((k : Nat) : Int)) : Int)) (by omega)) ?_)
    refine L_nil ?_
    refine T_n ?_
    refine W_cf rfl ?_
    refine W_exit ?_
    refine T_e ?_
    refine T_e ?_
    refine B_x ?_
    obtain rfl : k = es.length := by omega
    exact BQ_n (End_0 Try.results26 (.inl (by rw [backX_length]; exact hJ)))

def FindSpec (es : List KE) (m : List UInt8) (at_ : Nat) : Prop :=
  (∃ e, es[at_]? = some e ∧ cmpB e.2.1 m ≤ 0 ∧ ∀ (j : Nat) (e' : KE), at_ < j → es[j]? = some e' → 0 < cmpB e'.2.1 m) ∨ (at_ = 0 ∧ ∀ (j : Nat) (e' : KE), es[j]? = some e' → 0 < cmpB e'.2.1 m)

theorem c_find (l key : Value) (es : List KE) (m : List UInt8) (w : World) (lo hi : Nat) (hhi : hi ≤ w.heap.size) (hl : NRd LK w lo hi l es) (hk : Rd w 1 key m.length (m.map byteV)) : CT Try.prog 14 #[l, key] w fun v w' => (∃ at_ : Nat, v = .int .i64 ((at_ : Nat) : Int) ∧ FindSpec es m at_) ∧ Ext w w' := by
  obtain ⟨n0, hn0⟩ : ∃ n, n = w.heap.size := ⟨_, rfl⟩
  have hU : Upd (fun i => n0 ≤ i) w w := Upd.refl _ _
  have hk_b : ∀ i, rbk key = some i → i < n0 := by rw [hn0]; exact fun i hi => hk.bound (by decide) hi
  rw [← hn0] at hhi
  have hl0 := hl
  have hk0 := hk
  have hmx := hl.sv.len
  refine CT_of Try.func14 rfl rfl rfl ?_
  refine W_seq ?_
  refine W_reg ?_
  refine L_op rfl (X_box (v := key) (c := #[key]) rfl (hk.sv.cells) ?_)
  intro b1 w1 hn1
  have hbn1 := hn1.num; have hbs1 := hn1.size
  replace hk := hk.ext hn1.ext
  replace hU := hU.trans (Ext.upd hn1.ext)
  replace hl := hl.ext hn1.ext
  have hB1 := hn1.blk
  refine L_op rfl (X_alloc (z := (.int .i64 (0))) (c := #[(.int .i64 (0))]) Zv3 rfl ?_)
  intro b2 w2 hn2
  have hbn2 := hn2.num; have hbs2 := hn2.size
  replace hk := hk.ext hn2.ext
  replace hU := hU.trans (Ext.upd hn2.ext)
  replace hl := hl.ext hn2.ext
  replace hB1 := hB1.ext hn2.ext
  have hB2 := hn2.blk
  refine L_nil ?_
  refine T_n ?_
  refine W_scopeQ ?_
  refine W_seq ?_
  refine W_label ?_
  refine T_n ?_
  refine W_seq ?_
  refine W_seq ?_
  refine W_reg ?_
  refine L_op rfl (X_move (v := l) rfl ?_)
  refine L_op rfl (X_fn (vs := [l]) en21 rfl (CT.mono (c_backward _ es _ lo hi hl) ?_))
  rintro _ w3 ⟨rfl, hK, hu3, hz3⟩
  obtain ⟨nb, hnb⟩ : ∃ n, n = w2.heap.size := ⟨_, rfl⟩
  rw [← hnb] at hK ⊢
  replace hk := hk.ext hu3
  replace hU := hU.trans (Ext.upd hu3)
  replace hl := hl.ext hu3
  replace hB1 := hB1.ext hu3
  replace hB2 := hB2.ext hu3
  refine L_nil ?_
  refine T_n ?_
  refine W_block ?_
  obtain ⟨nL, hnL⟩ : ∃ n, n = w3.heap.size := ⟨_, rfl⟩
  refine W_range (lb := [ptr nb 0]) (xs := (backX es)) rfl en26 (c_back1 _ es nb _ lo hi hK hl) (Upd.refl _ _) rfl (fun x hx => by unfold backX at hx; obtain ⟨y, _, rfl⟩ := List.mem_map.1 hx; rfl) (fun b => b = b2 ∨ nL + 2 ≤ b) (fun b hb_ => ⟨fun h => by rcases hb_ with h0 | h0 <;> rcases h with h | h <;> omega, by rcases hb_ with h0 | h0 <;> omega, by rcases hb_ with h0 | h0 <;> omega⟩) (fun b hb_ h => by rcases h with h | h <;> omega) (fun b h => h.elim) (fun k W => ∃ at_ : Nat, (at_ = es.length - k ∨ (k = 0 ∧ at_ = 0)) ∧ Blk W b2 #[.int .i64 ((at_ : Nat) : Int)] 3 ∧ Blk W b1 #[key] 23 ∧ (∀ (j : Nat) (e_ : KE), es.length - k ≤ j → es[j]? = some e_ → 0 < cmpB e_.2.1 m) ∧ Upd (fun i => n0 ≤ i) w W) (fun k e W => e = .exit 0 ∧ Blk W b2 #[.int .i64 ((es.length - 1 - k : Nat) : Int)] 3 ∧ (∃ a, es[es.length - 1 - k]? = some a ∧ cmpB a.2.1 m ≤ 0) ∧ (∀ (j : Nat) (e_ : KE), es.length - k ≤ j → es[j]? = some e_ → 0 < cmpB e_.2.1 m) ∧ Upd (fun i => n0 ≤ i) w W) (fun k W W2 hI hu => by obtain ⟨at_, hat, hB2, hB1, hgt, hU⟩ := hI; exact ⟨at_, hat, hB2.upd hu fun h => by { rcases h with h | h; (· exact h); (· omega) }, hB1.upd hu fun h => by { rcases h with h | h; (· exact h); (· omega) }, hgt, hU.trans (hu.mono fun i _ h => by { rcases h with h | h; (· exact h.elim); (· show n0 ≤ i; omega) })⟩) (fun k e W W2 hI hu => by obtain ⟨he, hB2, ha, hgt, hU⟩ := hI; exact ⟨he, hB2.upd hu fun h => by { rcases h with h | h; (· exact h); (· omega) }, ha, hgt, hU.trans (hu.mono fun i _ h => by { rcases h with h | h; (· exact h.elim); (· show n0 ≤ i; omega) })⟩) ?_ ?_ ?_ ?_
  · intro W hx_ hs_
    exact ⟨0, .inr ⟨rfl, rfl⟩, hB2.ext hx_, hB1.ext hx_, fun j e_ hj he_ => by have := (List.getElem?_eq_some_iff.1 he_).1; omega, hU.trans (Ext.upd hx_)⟩
  · intro k x W hk_ hI_ hsz_ hlp_
    obtain ⟨at_, hat, hB2, hB1, hgt, hU⟩ := hI_
    have hkW : k < es.length := by rw [← backX_length]; exact (List.getElem?_eq_some_iff.1 hk_).1
    rw [backX_at hkW] at hk_; cases hk_
    have hae : es[es.length - 1 - k]? = some (es.getD (es.length - 1 - k) kZ) := getD_at (by omega)
    have hl := hl0.upd hU fun i h1 h2 h => by have h : n0 ≤ i := h; omega
    have hk := hk0.old (by decide) (hn0 ▸ hU)
    have hD := Upd.refl (fun b => b = b2 ∨ nL + 2 ≤ b) W
    refine W_seq ?_
    refine W_reg ?_
    refine L_op rfl (X_assign (v := (.int .i64 (((es.length - 1 - k : Nat) : Int)))) rfl ?_)
    refine L_nil ?_
    refine T_n ?_
    refine W_reg ?_
    refine L_op rfl (X_alloc (z := (.agg #[(.slice none 0 0), (.int .u8 (0)), (.int .u16 (0)), (.int .u16 (0)), (.int .u32 (0)), (.int .u64 (0))])) (c := #[(.slice none 0 0), (.int .u8 (0)), (.int .u16 (0)), (.int .u16 (0)), (.int .u32 (0)), (.int .u64 (0))]) Zv39 rfl ?_)
    intro b3 w3 hn3
    have hbn3 := hn3.num; have hbs3 := hn3.size
    replace hB2 := hB2.ext hn3.ext
    replace hB1 := hB1.ext hn3.ext
    replace hl := hl.ext hn3.ext
    replace hk := hk.ext hn3.ext
    replace hU := hU.trans (Ext.upd hn3.ext)
    replace hD := hD.trans (Ext.upd hn3.ext)
    have hB3 := hn3.blk
    refine L_op0 (X_storeW (b := b3) (ys := (es.getD (es.length - 1 - k) kZ).1 :: ptC (es.getD (es.length - 1 - k) kZ).2.2) A39 rfl rfl (kone hl hae) rfl hB3 rfl ?_)
    intro w4 hu4 hb4
    have hz4 := hu4.size
    replace hB2 := hB2.upd hu4 fun h => by have h : b2 = b3 := h; omega
    replace hB1 := hB1.upd hu4 fun h => by have h : b1 = b3 := h; omega
    replace hl := hl.upd hu4 fun i h1 h2 h => by have h : i = b3 := h; omega
    replace hk := hk.upd hu4 fun i hi h => by have hi := hk_b _ hi; have h : i = b3 := h; omega
    replace hU := hU.trans (hu4.mono fun i _ h => by have h : i = b3 := h; show n0 ≤ i; omega)
    replace hD := hD.trans (hu4.mono fun i _ h => by have h : i = b3 := h; show i = b2 ∨ nL + 2 ≤ i; omega)
    replace hB3 := hb4
    refine L_nil ?_
    refine T_n ⟨hD, fun W2 hu2_ hlp2_ => ?_⟩
    have hsz2_ := hu2_.size
    replace hB2 := hB2.upd hu2_ fun h => by have h : b2 = nL + 1 := (by rw [hnL]; exact h); omega
    replace hB1 := hB1.upd hu2_ fun h => by have h : b1 = nL + 1 := (by rw [hnL]; exact h); omega
    replace hl := hl.upd hu2_ fun i h1 h2 h => by have h : i = nL + 1 := (by rw [hnL]; exact h); omega
    replace hk := hk.upd hu2_ fun i hi h => by have hi := hk_b _ hi; have h : i = nL + 1 := (by rw [hnL]; exact h); omega
    replace hU := hU.trans (hu2_.mono fun i _ h => by have h : i = nL + 1 := (by rw [hnL]; exact h); show n0 ≤ i; omega)
    replace hB3 := hB3.upd hu2_ fun h => by have h : b3 = nL + 1 := (by rw [hnL]; exact h); omega
    have hD := Upd.refl (fun b => b = b2 ∨ nL + 2 ≤ b) W2
    refine W_block ?_
    refine W_seq ?_
    refine W_reg ?_
    refine L_op rfl (X_move (v := (.int .i64 (((es.length - 1 - k : Nat) : Int)))) rfl ?_)
    refine L_op0 (X_store (b := b2) (o := 0) T3 rfl rfl rfl hB2 (by show (0 : Nat) < 1; decide) ?_)
    intro w5 hu5 hb5
    have hz5 := hu5.size
    replace hB1 := hB1.upd hu5 fun h => by have h : b1 = b2 := h; omega
    replace hl := hl.upd hu5 fun i h1 h2 h => by have h : i = b2 := h; omega
    replace hk := hk.upd hu5 fun i hi h => by have hi := hk_b _ hi; have h : i = b2 := h; omega
    replace hU := hU.trans (hu5.mono fun i _ h => by have h : i = b2 := h; show n0 ≤ i; omega)
    replace hB3 := hB3.upd hu5 fun h => by have h : b3 = b2 := h; omega
    replace hD := hD.trans (hu5.mono fun i _ h => by have h : i = b2 := h; show i = b2 ∨ nL + 2 ≤ i; omega)
    replace hB2 : Blk w5 b2 #[(.int .i64 (((es.length - 1 - k : Nat) : Int)))] 3 := hb5
    refine L_nil ?_
    refine T_n ?_
    refine W_seq ?_
    refine W_reg ?_
    refine L_op rfl (X_fldP (b := b3) (o := 0) (r := 0) Fd39_0 rfl rfl ?_)
    refine L_op rfl (X_load (p := (ptr b3 (0))) (v := (es.getD (es.length - 1 - k) kZ).1) T23 rfl (hB3.at1 rfl) ?_)
    refine L_op rfl (X_load (p := (ptr b1 (0))) (v := key) T23 rfl (hB1.at1 rfl) ?_)
    refine L_op rfl (X_fn (vs := [(es.getD (es.length - 1 - k) kZ).1, key]) en22 rfl (CT.mono (c_compare _ _ (es.getD (es.length - 1 - k) kZ).2.1 m _ (krd hl hae) hk) ?_))
    rintro _ _ ⟨rfl, rfl⟩
    by_cases hc6 : (cmpB (es.getD (es.length - 1 - k) kZ).2.1 m : Int) ≤ (0)
    · refine L_op rfl (X_cmp (k := .i64) (a := cmpB (es.getD (es.length - 1 - k) kZ).2.1 m) (b := 0) (r := true) rfl rfl rfl (decide_eq_true (p := ((cmpB (es.getD (es.length - 1 - k) kZ).2.1 m) : Int) ≤ ((0) : Int)) (by omega)) ?_)
      refine L_nil ?_
      refine T_n ?_
      refine W_ct rfl ?_
      refine W_exit ?_
      refine B_e rfl ?_
      exact RQ_e hD ⟨rfl, hB2, ⟨_, hae, by omega⟩, hgt, hU⟩
    · refine L_op rfl (X_cmp (k := .i64) (a := cmpB (es.getD (es.length - 1 - k) kZ).2.1 m) (b := 0) (r := false) rfl rfl rfl (decide_eq_false (p := ((cmpB (es.getD (es.length - 1 - k) kZ).2.1 m) : Int) ≤ ((0) : Int)) (by omega)) ?_)
      refine L_nil ?_
      refine T_n ?_
      refine W_cf rfl ?_
      refine W_skip ?_
      refine B_n ?_
      exact RQ_n hD ⟨es.length - 1 - k, .inl (by omega), hB2, hB1, fun j e_ hj he_ => (Nat.lt_or_ge j (es.length - k)).elim (fun h1 => by obtain rfl : j = es.length - 1 - k := by { omega }; rw [hae] at he_; cases he_; omega) fun h1 => hgt j e_ h1 he_, hU⟩
  · intro W hI_ hd_
    obtain ⟨at_, hat, hB2, hB1, hgt, hU⟩ := hI_
    rw [backX_length] at hat hgt
    have hd : Dfd W nL := by rw [hnL]; exact hd_
    obtain rfl : at_ = 0 := by omega
    have hF : FindSpec es m 0 := .inr ⟨rfl, fun j e_ he_ => hgt j e_ (by omega) he_⟩
    refine B_n ?_
    refine T_n ?_
    refine W_seq ?_
    refine W_reg ?_
    refine L_op rfl (X_load (p := (ptr b2 (0))) (v := (.int .i64 (0))) T3 rfl (hB2.at1 rfl) ?_)
    refine L_op0 (X_storeSame T3 rfl rfl rfl hB2 rfl ?_)
    refine L_nil ?_
    refine T_n ?_
    refine W_ret ?_
    refine S_r ?_
    refine BQ_r (End_m (hnL ▸ hd) fun w9 hu9 => ?_)
    have hB9 := hB2.upd hu9 fun h => by have h : b2 = nL := (by rw [hnL]; exact h); omega
    exact End_1 Try.results14 (v := .int .i64 ((0 : Nat) : Int)) (RV_1 T3 rfl (hB9.at1 rfl)) ⟨⟨_, rfl, hF⟩, (hU.trans (hu9.mono fun i _ h => by have h : i = nL := (by rw [hnL]; exact h); show n0 ≤ i; omega)).own hn0⟩
  · intro k e W hk_ hI_ hd_ he_
    obtain ⟨rfl, hB2, ⟨a, haa, hle⟩, hgt, hU⟩ := hI_
    have hd : Dfd W nL := by rw [hnL]; exact hd_
    have hF : FindSpec es m (es.length - 1 - k) := .inl ⟨a, haa, hle, fun j e_ hj he_ => hgt j e_ (by omega) he_⟩
    refine B_x ?_
    refine T_n ?_
    refine W_seq ?_
    refine W_reg ?_
    refine L_op rfl (X_load (p := (ptr b2 (0))) (v := (.int .i64 (((es.length - 1 - k : Nat) : Int)))) T3 rfl (hB2.at1 rfl) ?_)
    refine L_op0 (X_storeSame T3 rfl rfl rfl hB2 rfl ?_)
    refine L_nil ?_
    refine T_n ?_
    refine W_ret ?_
    refine S_r ?_
    refine BQ_r (End_m (hnL ▸ hd) fun w9 hu9 => ?_)
    have hB9 := hB2.upd hu9 fun h => by have h : b2 = nL := (by rw [hnL]; exact h); omega
    exact End_1 Try.results14 (v := .int .i64 (((es.length - 1 - k) : Nat) : Int)) (RV_1 T3 rfl (hB9.at1 rfl)) ⟨⟨_, rfl, hF⟩, (hU.trans (hu9.mono fun i _ h => by have h : i = nL := (by rw [hnL]; exact h); show n0 ≤ i; omega)).own hn0⟩
end Go.Proofs.Ytpjhadhniokgjaa
