/-
  More contracts of chapter 03: the writes at a place. (Printed by wip/gen/t03c.py of this repo.)
-/
import Derived.Test.YthongcaijgfojaaDiskB
namespace Go.Proofs.Ythongcaijgfojaa
open Go Go.SL Go.Proofs
set_option linter.unusedVariables false

theorem zc28_eq : zc28 = (List.replicate 256 (0 : UInt8)).map byteV := by rw [List.map_replicate]; rfl
theorem built28z : Try.prog.built 28 [] = some zc28.toArray := by kernel_rfl
theorem built28 : Try.prog.built 28 [] = some ((List.replicate 256 (0 : UInt8)).map byteV).toArray := by rw [built28z, zc28_eq]
def pageV (p : Pg) : Value := .agg (p.1.map byteV).toArray
def wZ : Wr := (0, default)
def wrV (e : Wr) : Value := .agg (LW.cel e).toArray
def backW (cs : List Wr) : List (List Value) := (List.range cs.length).map fun k => [.int .i64 ((cs.length - 1 - k : Nat) : Int), wrV (cs.getD (cs.length - 1 - k) wZ)]
theorem backW_length (cs : List Wr) : (backW cs).length = cs.length := by unfold backW; rw [List.length_map, List.length_range]
theorem backW_at {cs : List Wr} {k : Nat} (hk : k < cs.length) : (backW cs)[k]? = some [.int .i64 ((cs.length - 1 - k : Nat) : Int), wrV (cs.getD (cs.length - 1 - k) wZ)] := by
  unfold backW
  rw [List.getElem?_map, List.getElem?_range hk]; rfl
theorem wgetD {cs : List Wr} {i : Nat} (hi : i < cs.length) : cs[i]? = some (cs.getD i wZ) := by rw [List.getD_eq_getElem?_getD, List.getElem?_eq_getElem hi]; rfl
/-- the pages written at a place, the last one first -/
def hitsW (cs : List Wr) (n : Int) : List Pg := (cs.reverse.filter fun e => decide (e.1 = n)).map (·.2)
def hitsX (cs : List Wr) (n : Int) : List (List Value) := (hitsW cs n).map fun p => [pageV p]
theorem hitsX_length (cs : List Wr) (n : Int) : (hitsX cs n).length = (hitsW cs n).length := List.length_map _
def cntW (cs : List Wr) (n : Int) (k : Nat) : Nat := ((cs.reverse.take k).filter fun e => decide (e.1 = n)).length
theorem rev_at {cs : List Wr} {k : Nat} {e : Wr} (hk : k < cs.length) (he : cs[cs.length - 1 - k]? = some e) : cs.reverse[k]? = some e := by rw [List.getElem?_reverse hk]; exact he
theorem cntW_hit {cs : List Wr} {n : Int} {k : Nat} {e : Wr} (hk : k < cs.length) (he : cs[cs.length - 1 - k]? = some e) (h : e.1 = n) : cntW cs n (k + 1) = cntW cs n k + 1 := by
  unfold cntW
  rw [List.take_add_one, rev_at hk he, List.filter_append, List.length_append]
  simp [h]
theorem cntW_miss {cs : List Wr} {n : Int} {k : Nat} {e : Wr} (hk : k < cs.length) (he : cs[cs.length - 1 - k]? = some e) (h : ¬ e.1 = n) : cntW cs n (k + 1) = cntW cs n k := by
  unfold cntW
  rw [List.take_add_one, rev_at hk he, List.filter_append, List.length_append]
  simp [h]
theorem hits_at {cs : List Wr} {n : Int} {k : Nat} {e : Wr} (hk : k < cs.length) (he : cs[cs.length - 1 - k]? = some e) (h : e.1 = n) : (hitsX cs n)[cntW cs n k]? = some [pageV e.2] := by
  have h1 := rev_at hk he
  have hlt := (List.getElem?_eq_some_iff.1 h1).1
  have e1 : cs.reverse = cs.reverse.take k ++ e :: cs.reverse.drop (k + 1) := by
    have h2 := (List.getElem?_eq_some_iff.1 h1).2
    rw [← h2, ← List.drop_eq_getElem_cons hlt, List.take_append_drop]
  unfold hitsX hitsW
  rw [e1, List.filter_append, List.map_append, List.map_append, List.getElem?_append_right (by rw [List.length_map, List.length_map]; exact Nat.le_refl _), List.length_map, List.length_map]
  have h3 : cntW cs n k - ((cs.reverse.take k).filter fun e => decide (e.1 = n)).length = 0 := Nat.sub_self _
  rw [h3]
  simp [h]
theorem cntW_all (cs : List Wr) (n : Int) : cntW cs n cs.length = (hitsW cs n).length := by
  unfold cntW hitsW
  rw [List.length_map, List.take_of_length_le (by rw [List.length_reverse]; exact Nat.le_refl _)]
theorem cntW_lt {cs : List Wr} {n : Int} {k : Nat} {e : Wr} (hk : k < cs.length) (he : cs[cs.length - 1 - k]? = some e) (h : e.1 = n) : cntW cs n k < (hitsX cs n).length := (List.getElem?_eq_some_iff.1 (hits_at hk he h)).1

theorem c_backward (s : Value) (cs : List Wr) (w : World) (lo up : Nat) (hs : NRd LW w lo up s cs) : CT Try.prog 43 #[s] w fun v w' => v = .func (.func 48) #[] #[ptr w.heap.size 0] ∧ Blk w' w.heap.size #[s] 23 ∧ Ext w w' ∧ w'.heap.size = w.heap.size + 1 := by
  obtain ⟨n0, hn0⟩ : ∃ n, n = w.heap.size := ⟨_, rfl⟩
  have hU : Upd (fun i => n0 ≤ i) w w := Upd.refl _ _
  refine CT_of Try.func43 rfl rfl rfl ?_
  refine W_seq ?_
  refine W_reg ?_
  refine L_op rfl (X_box (v := s) (c := #[s]) rfl (hs.sv.cells) ?_)
  intro b1 w1 hn1
  have hbn1 := hn1.num; have hbs1 := hn1.size
  replace hs := hs.ext hn1.ext
  replace hU := hU.trans (Ext.upd hn1.ext)
  have hB1 := hn1.blk
  refine L_op rfl (X_assign (v := .nilFunc) rfl ?_)
  refine L_nil ?_
  refine T_n ?_
  refine W_seq ?_
  refine W_reg ?_
  refine L_op rfl (X_makeFunc (vs := [ptr b1 0]) rfl ?_)
  refine L_op rfl (X_assign (v := (.func (.func 48) #[] #[ptr b1 0])) rfl ?_)
  refine L_nil ?_
  refine T_n ?_
  refine W_ret ?_
  exact BQ_r (End_1 Try.results43 (v := .func (.func 48) #[] #[ptr b1 0]) rfl ⟨by rw [hbn1], hbn1 ▸ hB1, hU.own hn0, hbs1⟩)

theorem c_back1 (s : Value) (cs : List Wr) (b1 : Nat) (w : World) (lo up : Nat) (hB : Blk w b1 #[s] 23) (hs : NRd LW w lo up s cs) :
    IterC Try.prog 48 [ptr b1 0] (backW cs) w (fun b => b = b1 ∨ (lo ≤ b ∧ b < up)) (fun _ => False) := by
  intro lp J Jx W Db hu0 hDb hJs hJxs hy hJ0
  have hmx := hs.sv.len
  replace hB := hB.upd hu0 fun h => h (.inl rfl)
  replace hs := hs.upd hu0 fun i h1 h2 h => h (.inr ⟨h1, h2⟩)
  show CT Try.prog 48 #[.func (.yield lp) #[] #[], ptr b1 0] W _
  refine CT_of Try.func48 rfl rfl rfl ?_
  refine W_seq ?_
  refine W_reg ?_
  refine L_op rfl (X_load (p := (ptr b1 (0))) (v := s) T23 rfl (hB.at1 rfl) ?_)
  refine L_op rfl (X_len (v := s) (n := cs.length) Try.underlying23 rfl hs.sv ?_)
  refine L_op rfl (X_arith (k := .i64) (a := ((cs.length : Nat) : Int)) (b := 1) (r := ((cs.length : Nat) : Int) - 1) rfl rfl rfl (isub64 rfl (by omega) (by omega)) ?_)
  refine L_op rfl (X_assign (v := (.int .i64 (((cs.length : Nat) : Int) - 1))) rfl ?_)
  refine L_nil ?_
  refine T_n ?_
  refine W_block ?_
  refine W_loop (α := Nat) [3, 7, 8, 9, 10, 11, 12, 13, 14, 15, 16, 17, 18] (fun k => [(3, (.int .i64 (((cs.length : Nat) : Int) - 1 - ((k : Nat) : Int))))]) (fun k w_ => k ≤ cs.length ∧ J k w_ ∧ Blk w_ b1 #[s] 23 ∧ NRd LW w_ lo up s cs) (fun k => cs.length - k) ⟨rfl, 0, ⟨Nat.zero_le _, hJ0, hB, hs⟩, Out.refl _ _, ⟨(by show Value.int .i64 (((cs.length : Nat) : Int) - 1) = .int .i64 (((cs.length : Nat) : Int) - 1 - ((0 : Nat) : Int)); congr 1; omega), trivial⟩⟩ ?_
  rintro k w1 _ ⟨hkl, hJ, hB, hs⟩
  refine W_seq ?_
  refine W_seq ?_
  refine W_reg ?_
  refine L_op rfl (X_move (v := (.int .i64 (((cs.length : Nat) : Int) - 1 - ((k : Nat) : Int)))) rfl ?_)
  by_cases hc2 : (((cs.length : Nat) : Int) - 1 - ((k : Nat) : Int) : Int) ≥ (0)
  · refine L_op rfl (X_cmp (k := .i64) (a := ((cs.length : Nat) : Int) - 1 - ((k : Nat) : Int)) (b := 0) (r := true) rfl rfl rfl (decide_eq_true (p := ((0) : Int) ≤ ((((cs.length : Nat) : Int) - 1 - ((k : Nat) : Int)) : Int)) (by omega)) ?_)
    have hk : k < cs.length := by omega
    have hke : ((cs.length : Nat) : Int) - 1 - ((k : Nat) : Int) = ((cs.length - 1 - k : Nat) : Int) := by omega
    refine L_nil ?_
    refine T_n ?_
    refine W_ct rfl ?_
    refine W_skip ?_
    refine T_n ?_
    refine W_seq ?_
    refine W_block ?_
    refine W_seq ?_
    refine W_reg ?_
    refine L_op rfl (X_move (v := (.func (.yield lp) #[] #[])) rfl ?_)
    refine L_op rfl (X_move (v := .int .i64 ((cs.length - 1 - k : Nat) : Int)) (by rw [← hke]; rfl) ?_)
    refine L_op rfl (X_load (p := (ptr b1 (0))) (v := s) T23 rfl (hB.at1 rfl) ?_)
    refine L_op rfl (X_move (v := (.int .i64 (((cs.length : Nat) : Int) - 1 - ((k : Nat) : Int)))) rfl ?_)
    refine L_op rfl (X_idx (v := s) (n := cs.length) (k := .i64) (i := ((cs.length : Nat) : Int) - 1 - ((k : Nat) : Int)) S23 rfl hs.sv rfl (by omega) (by omega) ?_)
    refine L_op rfl (X_loadA (xs := LW.cel (cs.getD (cs.length - 1 - k) wZ)) A43 rfl (wall hs (k := cs.length - 1 - k) (by omega) (wgetD (by omega))) (LW.len _) ?_)
    refine L_op rfl (X_yield (vs := [.int .i64 ((cs.length - 1 - k : Nat) : Int), wrV (cs.getD (cs.length - 1 - k) wZ)]) rfl rfl (YieldC.mono (hy k _ _ (backW_at hk) hJ) ?_))
    rintro _ W2 (⟨rfl, hJ2, hu⟩ | ⟨rfl, hJx⟩)
    · replace hB := hB.upd hu fun h => hDb _ h (.inl rfl)
      replace hs := hs.upd hu fun i h1 h2 h => hDb _ h (.inr ⟨h1, h2⟩)
      refine L_op rfl (X_not (b := true) (r := false) rfl rfl ?_)
      refine L_nil ?_
      refine T_n ?_
      refine W_cf rfl ?_
      refine W_skip ?_
      refine B_n ?_
      refine T_n ?_
      refine W_reg ?_
      refine L_op rfl (X_move (v := (.int .i64 (((cs.length : Nat) : Int) - 1 - ((k : Nat) : Int)))) rfl ?_)
      refine L_op rfl (X_arith (k := .i64) (a := ((cs.length : Nat) : Int) - 1 - ((k : Nat) : Int)) (b := 1) (r := ((cs.length : Nat) : Int) - 1 - ((k + 1 : Nat) : Int)) rfl rfl rfl (isub64 (by omega) (by omega) (by omega)) ?_)
      refine L_op rfl (X_assign (v := (.int .i64 (((cs.length : Nat) : Int) - 1 - ((k + 1 : Nat) : Int)))) rfl ?_)
      refine L_nil ?_
      refine T_n ?_
      exact ⟨rfl, k + 1, ⟨⟨hk, hJ2, hB, hs⟩, (by show cs.length - (k + 1) < cs.length - k; omega)⟩, (Out.mk rfl), ⟨rfl, trivial⟩⟩
    · refine L_op rfl (X_not (b := false) (r := true) rfl rfl ?_)
      refine L_nil ?_
      refine T_n ?_
      refine W_ct rfl ?_
      refine W_ret ?_
      refine B_r ?_
      refine T_r ?_
      refine T_r ?_
      refine B_r ?_
      exact BQ_r (End_0 Try.results48 (.inr ⟨k, by rw [backW_length]; omega, hJx⟩))
  · refine L_op rfl (X_cmp (k := .i64) (a := ((cs.length : Nat) : Int) - 1 - ((k : Nat) : Int)) (b := 0) (r := false) rfl rfl rfl (decide_eq_false (p := ((0) : Int) ≤ ((((cs.length : Nat) : Int) - 1 - ((k : Nat) : Int)) : Int)) (by omega)) ?_)
    refine L_nil ?_
    refine T_n ?_
    refine W_cf rfl ?_
    refine W_exit ?_
    refine T_e ?_
    refine T_e ?_
    refine B_x ?_
    obtain rfl : k = cs.length := by omega
    exact BQ_n (End_0 Try.results48 (.inl (by rw [backW_length]; exact hJ)))

theorem c_last (pv cv bv : Value) (ps : List Pg) (cs : List Wr) (bs : List Int) (off : Bool) (n : Int) (w : World) (lo up : Nat) (hp : NRd LP w lo up pv ps) (hc : NRd LW w lo up cv cs) (hb : NRd LI w lo up bv bs) : CT Try.prog 29 #[(.agg #[pv, cv, bv, (.bool (off))]), (.int .i64 (n))] w fun v w' => v = .func (.func 42) #[] #[ptr w.heap.size 0, ptr (w.heap.size + 1) 0] ∧ Blk w' w.heap.size #[pv, cv, bv, .bool off] 26 ∧ Blk w' (w.heap.size + 1) #[.int .i64 n] 3 ∧ Ext w w' ∧ w'.heap.size = w.heap.size + 2 := by
  obtain ⟨n0, hn0⟩ : ∃ n, n = w.heap.size := ⟨_, rfl⟩
  have hU : Upd (fun i => n0 ≤ i) w w := Upd.refl _ _
  refine CT_of Try.func29 rfl rfl rfl ?_
  refine W_seq ?_
  refine W_reg ?_
  refine L_op rfl (X_box (v := (.agg #[pv, cv, bv, (.bool (off))])) (c := ([pv, cv, bv, (.bool (off))]).toArray) rfl rfl ?_)
  intro b1 w1 hn1
  have hbn1 := hn1.num; have hbs1 := hn1.size
  replace hp := hp.ext hn1.ext
  replace hc := hc.ext hn1.ext
  replace hb := hb.ext hn1.ext
  replace hU := hU.trans (Ext.upd hn1.ext)
  have hB1 := hn1.blk
  refine L_op rfl (X_box (v := (.int .i64 (n))) (c := #[(.int .i64 (n))]) rfl rfl ?_)
  intro b2 w2 hn2
  have hbn2 := hn2.num; have hbs2 := hn2.size
  replace hp := hp.ext hn2.ext
  replace hc := hc.ext hn2.ext
  replace hb := hb.ext hn2.ext
  replace hU := hU.trans (Ext.upd hn2.ext)
  replace hB1 := hB1.ext hn2.ext
  have hB2 := hn2.blk
  refine L_op rfl (X_assign (v := .nilFunc) rfl ?_)
  refine L_nil ?_
  refine T_n ?_
  refine W_seq ?_
  refine W_reg ?_
  refine L_op rfl (X_makeFunc (vs := [ptr b1 0, ptr b2 0]) rfl ?_)
  refine L_op rfl (X_assign (v := (.func (.func 42) #[] #[ptr b1 0, ptr b2 0])) rfl ?_)
  refine L_nil ?_
  refine T_n ?_
  refine W_ret ?_
  have e2 : b2 = w.heap.size + 1 := by omega
  exact BQ_r (End_1 Try.results29 (v := .func (.func 42) #[] #[ptr b1 0, ptr b2 0]) rfl ⟨by rw [hbn1, e2], hbn1 ▸ hB1, e2 ▸ hB2, hU.own hn0, by omega⟩)

theorem c_last1 (pv cv bv : Value) (cs : List Wr) (off : Bool) (n : Int) (x1 x2 : Nat) (w : World) (lo up : Nat) (hup : up ≤ w.heap.size) (hX1 : Blk w x1 #[pv, cv, bv, .bool off] 26) (hX2 : Blk w x2 #[.int .i64 n] 3) (hc : NRd LW w lo up cv cs) :
    IterS Try.prog 42 [ptr x1 0, ptr x2 0] (hitsX cs n) w (fun b => b = x1 ∨ b = x2 ∨ (lo ≤ b ∧ b < up)) := by
  intro lp J Jx W Db hu0 hDb hJs hJxs hy hJ0
  have hW0 := hu0.size
  have hx1 := hX1.lt
  have hx2 := hX2.lt
  have hmx := hc.sv.len
  replace hX1 := hX1.upd hu0 fun h => h (.inl rfl)
  replace hX2 := hX2.upd hu0 fun h => h (.inr (.inl rfl))
  replace hc := hc.upd hu0 fun i h1 h2 h => h (.inr (.inr ⟨h1, h2⟩))
  obtain ⟨n0, hn0⟩ : ∃ n, n = W.heap.size := ⟨_, rfl⟩
  rw [← hn0] at hDb hJs hJxs hW0
  have hU := Upd.refl (fun i => n0 ≤ i) W
  show CT Try.prog 42 #[.func (.yield lp) #[] #[], ptr x1 0, ptr x2 0] W _
  refine CT_of Try.func42 rfl rfl rfl ?_
  refine W_seq ?_
  refine W_reg ?_
  refine L_op rfl (X_box (v := (.func (.yield lp) #[] #[])) (c := #[(.func (.yield lp) #[] #[])]) rfl rfl ?_)
  intro b1 w1 hn1
  have hbn1 := hn1.num; have hbs1 := hn1.size
  replace hX1 := hX1.ext hn1.ext
  replace hX2 := hX2.ext hn1.ext
  replace hc := hc.ext hn1.ext
  replace hU := hU.trans (Ext.upd hn1.ext)
  have hB1 := hn1.blk
  refine L_nil ?_
  refine T_n ?_
  refine W_seq ?_
  refine W_reg ?_
  refine L_op rfl (X_fldP (b := x1) (o := 0) (r := 1) Fd26_1 rfl rfl ?_)
  refine L_op rfl (X_load (p := (ptr x1 (1))) (v := cv) T23 rfl (hX1.at1 rfl) ?_)
  refine L_op rfl (X_fn (vs := [cv]) en43 rfl (CT.mono (c_backward cv cs _ lo up hc) ?_))
  rintro _ w3 ⟨rfl, hK, hu3, hz3⟩
  obtain ⟨nb, hnb⟩ : ∃ n, n = w1.heap.size := ⟨_, rfl⟩
  rw [← hnb] at hK ⊢
  replace hX1 := hX1.ext hu3
  replace hX2 := hX2.ext hu3
  replace hc := hc.ext hu3
  replace hU := hU.trans (Ext.upd hu3)
  replace hB1 := hB1.ext hu3
  have hb3 := hB1.lt
  refine L_nil ?_
  refine T_n ?_
  refine W_block ?_
  obtain ⟨nL, hnL⟩ : ∃ n, n = w3.heap.size := ⟨_, rfl⟩
  refine W_range (lb := [ptr nb 0]) (xs := (backW cs)) rfl en48 (c_back1 _ cs nb _ lo up hK hc) (Upd.refl _ _) rfl (fun x hx => by unfold backW at hx; obtain ⟨y, _, rfl⟩ := List.mem_map.1 hx; rfl) (fun b => Db b) (fun b hb_ => ⟨fun h => by have h1 := hDb b hb_; rcases h with h | h; (· omega); (· exact h1.1 (.inr (.inr h))), by have h1 := hDb b hb_; omega, by have h1 := hDb b hb_; omega⟩) (fun b hb_ h => by rcases h with h | h <;> omega) (fun b h => h.elim) (fun k W => J (cntW cs n k) W ∧ Blk W b1 #[.func (.yield lp) #[] #[]] 64 ∧ Blk W x1 #[pv, cv, bv, .bool off] 26 ∧ Blk W x2 #[.int .i64 n] 3 ∧ NRd LW W lo up cv cs) (fun k e W => e = .ret ∧ ∃ k, k < (hitsX cs n).length ∧ Jx k W) (fun k W W2 hI hu => by obtain ⟨hJ, h3, h1, h2, hc⟩ := hI; exact ⟨hJs _ _ _ hJ (hu.mono fun i _ h => by { rcases h with h | h; (· exact h.elim); (· show n0 ≤ i; omega) }), h3.upd hu fun h => by { rcases h with h | h; (· exact h); (· omega) }, h1.upd hu fun h => by { rcases h with h | h; (· exact h); (· omega) }, h2.upd hu fun h => by { rcases h with h | h; (· exact h); (· omega) }, hc.upd hu fun i h1 h2 => fun h => by { rcases h with h | h; (· exact h); (· omega) }⟩) (fun k e W W2 hI hu => by obtain ⟨he, kx, hkx, hJx⟩ := hI; exact ⟨he, kx, hkx, hJxs _ _ _ hJx (hu.mono fun i _ h => by { rcases h with h | h; (· exact h.elim); (· show n0 ≤ i; omega) })⟩) ?_ ?_ ?_ ?_
  · intro W hx_ hs_
    exact ⟨hJs _ _ _ hJ0 (hU.trans (Ext.upd hx_)), hB1.ext hx_, hX1.ext hx_, hX2.ext hx_, hc.ext hx_⟩
  · intro k x W hk_ hI_ hsz_ hlp_
    obtain ⟨hJ, hB1, hX1, hX2, hc⟩ := hI_
    have hkW : k < cs.length := by rw [← backW_length]; exact (List.getElem?_eq_some_iff.1 hk_).1
    rw [backW_at hkW] at hk_; cases hk_
    have hae : cs[cs.length - 1 - k]? = some (cs.getD (cs.length - 1 - k) wZ) := wgetD (by omega)
    have hUr := Upd.refl (fun i => n0 ≤ i) W
    have hD := Upd.refl (fun b => Db b) W
    refine W_reg ?_
    refine L_op rfl (X_alloc (z := zv43) (c := zc43.toArray) Zv43 rfl ?_)
    intro b2 w2 hn2
    have hbn2 := hn2.num; have hbs2 := hn2.size
    replace hB1 := hB1.ext hn2.ext
    replace hX1 := hX1.ext hn2.ext
    replace hX2 := hX2.ext hn2.ext
    replace hc := hc.ext hn2.ext
    replace hUr := hUr.trans (Ext.upd hn2.ext)
    replace hD := hD.trans (Ext.upd hn2.ext)
    have hB2 := hn2.blk
    refine L_op0 (X_storeW (b := b2) (ys := LW.cel (cs.getD (cs.length - 1 - k) wZ)) A43 rfl rfl (LW.one (cs.getD (cs.length - 1 - k) wZ) (fun _ h => by cases h)) (LW.len (cs.getD (cs.length - 1 - k) wZ)) hB2 zc43_size ?_)
    intro w3 hu3 hb3
    have hz3 := hu3.size
    replace hB1 := hB1.upd hu3 fun h => by have h : b1 = b2 := h; omega
    replace hX1 := hX1.upd hu3 fun h => by have h : x1 = b2 := h; omega
    replace hX2 := hX2.upd hu3 fun h => by have h : x2 = b2 := h; omega
    replace hc := hc.upd hu3 fun i h1 h2 h => by have h : i = b2 := h; omega
    replace hUr := hUr.trans (hu3.mono fun i _ h => by have h : i = b2 := h; show n0 ≤ i; omega)
    replace hD := hD.comp hu3 (fun _ _ h => h) fun i hi h => by have h : i = b2 := h; show Db i; omega
    replace hB2 := hb3
    refine L_nil ?_
    refine T_n ⟨hD, fun W2 hu2_ hlp2_ => ?_⟩
    have hsz2_ := hu2_.size
    replace hB1 := hB1.upd hu2_ fun h => by have h : b1 = nL + 1 := (by rw [hnL]; exact h); omega
    replace hX1 := hX1.upd hu2_ fun h => by have h : x1 = nL + 1 := (by rw [hnL]; exact h); omega
    replace hX2 := hX2.upd hu2_ fun h => by have h : x2 = nL + 1 := (by rw [hnL]; exact h); omega
    replace hc := hc.upd hu2_ fun i h1 h2 h => by have h : i = nL + 1 := (by rw [hnL]; exact h); omega
    replace hUr := hUr.trans (hu2_.mono fun i _ h => by have h : i = nL + 1 := (by rw [hnL]; exact h); show n0 ≤ i; omega)
    replace hB2 := hB2.upd hu2_ fun h => by have h : b2 = nL + 1 := (by rw [hnL]; exact h); omega
    have hD := Upd.refl (fun b => Db b) W2
    refine W_block ?_
    refine W_seq ?_
    refine W_reg ?_
    refine L_op rfl (X_fldP (b := b2) (o := 0) (r := 0) Fd43_0 rfl rfl ?_)
    refine L_op rfl (X_load (p := (ptr b2 (0))) (v := .int .i64 (cs.getD (cs.length - 1 - k) wZ).1) T3 rfl (hB2.at1 rfl) ?_)
    refine L_op rfl (X_load (p := (ptr x2 (0))) (v := (.int .i64 (n))) T3 rfl (hX2.at1 rfl) ?_)
    by_cases hc4 : ((cs.getD (cs.length - 1 - k) wZ).1 : Int) = (n)
    · refine L_op rfl (X_cmp (k := .i64) (a := (cs.getD (cs.length - 1 - k) wZ).1) (b := n) (r := true) rfl rfl rfl (decide_eq_true (p := (((cs.getD (cs.length - 1 - k) wZ).1) : Int) = ((n) : Int)) (by omega)) ?_)
      refine L_op rfl (X_move (v := (.bool (true))) rfl ?_)
      refine L_gy (dj := 15) rfl rfl rfl (X_load (p := (ptr b1 (0))) (v := (.func (.yield lp) #[] #[])) T64 rfl (hB1.at1 rfl) ?_)
      refine L_gy (dj := 15) rfl rfl rfl (X_fldP (b := b2) (o := 0) (r := 1) Fd43_1 rfl rfl ?_)
      refine L_gy (dj := 15) rfl rfl rfl (X_loadA (xs := (cs.getD (cs.length - 1 - k) wZ).2.1.map byteV) A28 rfl (hB2.at_ 1 ((cs.getD (cs.length - 1 - k) wZ).2.1.map byteV) (fun j u hj => by rw [Nat.add_comm]; simpa [LW] using hj)) (by rw [List.length_map]; exact (cs.getD (cs.length - 1 - k) wZ).2.2) ?_)
      have hat : (cs.getD (cs.length - 1 - k) wZ).1 = n := hc4
      replace hJ := hJs _ _ _ hJ hUr
      refine L_gy (dj := 15) rfl rfl rfl (X_yield (vs := [pageV (cs.getD (cs.length - 1 - k) wZ).2]) rfl rfl (YieldC.mono (hy (cntW cs n k) _ _ (hits_at hkW hae hat) hJ) ?_))
      rintro _ W5 (⟨rfl, hJ2, hu5⟩ | ⟨rfl, hJx, hu5⟩)
      · have hD5 := hD.trans hu5
        replace hB1 := hB1.upd hu5 fun h => by have h1 := hDb _ h; omega
        replace hX1 := hX1.upd hu5 fun h => (hDb _ h).1 (.inl rfl)
        replace hX2 := hX2.upd hu5 fun h => (hDb _ h).1 (.inr (.inl rfl))
        replace hc := hc.upd hu5 fun i h1 h2 h => (hDb _ h).1 (.inr (.inr ⟨h1, h2⟩))
        rw [← cntW_hit hkW hae hat] at hJ2
        refine L_gy (dj := 15) rfl rfl rfl (X_not (b := true) (r := false) rfl rfl ?_)
        refine L_op rfl (X_pick (t := true) (v := (.bool (false))) rfl rfl ?_)
        refine L_nil ?_
        refine T_n ?_
        refine W_cf rfl ?_
        refine W_skip ?_
        refine B_n ?_
        exact RQ_n hD5 ⟨hJ2, hB1, hX1, hX2, hc⟩
      · have hD5 := hD.trans hu5
        refine L_gy (dj := 15) rfl rfl rfl (X_not (b := false) (r := true) rfl rfl ?_)
        refine L_op rfl (X_pick (t := true) (v := (.bool (true))) rfl rfl ?_)
        refine L_nil ?_
        refine T_n ?_
        refine W_ct rfl ?_
        refine W_ret ?_
        refine B_r ?_
        exact RQ_r hD5 ⟨rfl, cntW cs n k, cntW_lt hkW hae hat, hJx⟩
    · refine L_op rfl (X_cmp (k := .i64) (a := (cs.getD (cs.length - 1 - k) wZ).1) (b := n) (r := false) rfl rfl rfl (decide_eq_false (p := (((cs.getD (cs.length - 1 - k) wZ).1) : Int) = ((n) : Int)) (by omega)) ?_)
      refine L_op rfl (X_move (v := (.bool (false))) rfl ?_)
      refine L_gn (dj := 15) (t := false) rfl rfl rfl rfl ?_
      refine L_gn (dj := 15) (t := false) rfl rfl rfl rfl ?_
      refine L_gn (dj := 15) (t := false) rfl rfl rfl rfl ?_
      refine L_gn (dj := 15) (t := false) rfl rfl rfl rfl ?_
      refine L_gn (dj := 15) (t := false) rfl rfl rfl rfl ?_
      refine L_op rfl (X_pick (t := false) (v := (.bool (false))) rfl rfl ?_)
      refine L_nil ?_
      refine T_n ?_
      refine W_cf rfl ?_
      refine W_skip ?_
      refine B_n ?_
      have hJ2 := hJs _ _ _ hJ hUr
      rw [← cntW_miss hkW hae hc4] at hJ2
      exact RQ_n hD ⟨hJ2, hB1, hX1, hX2, hc⟩
  · intro W hI_ hd_
    obtain ⟨hJ, _, _, _, _⟩ := hI_
    rw [backW_length, cntW_all, ← hitsX_length] at hJ
    have hd : Dfd W nL := by rw [hnL]; exact hd_
    refine B_n ?_
    refine BQ_n (End_m (hnL ▸ hd) fun w9 hu9 => ?_)
    exact End_0 Try.results42 (.inl (hJs _ _ _ hJ (hu9.mono fun i _ h => by have h : i = nL := (by rw [hnL]; exact h); show n0 ≤ i; omega)))
  · intro k e W hk_ hI_ hd_ he_
    obtain ⟨rfl, kx, hkx, hJx⟩ := hI_
    have hd : Dfd W nL := by rw [hnL]; exact hd_
    refine B_r ?_
    refine BQ_r (End_m (hnL ▸ hd) fun w9 hu9 => ?_)
    exact End_0 Try.results42 (.inr ⟨kx, hkx, hJxs _ _ _ hJx (hu9.mono fun i _ h => by have h : i = nL := (by rw [hnL]; exact h); show n0 ≤ i; omega)⟩)

theorem built43z (parts : List (Nat × Value)) : Try.prog.built 43 parts = Instr.fill (([(0, 1), (1, 256)] : List (Nat × Nat)).toArray[·]?) zc43.toArray parts := by kernel_rfl
theorem fill_fold : ∀ (vs : List Value) (k off : Nat) (cells : Array Value), off + k + vs.length ≤ cells.size →
    ((vs.zipIdx k).foldl (fun (cs : Array Value) (x : Value × Nat) => cs.setIfInBounds (off + x.2) x.1) cells).toList = cells.toList.take (off + k) ++ vs ++ cells.toList.drop (off + k + vs.length)
  | [], k, off, cells, _ => by simp
  | v :: vs, k, off, cells, h => by
    simp only [List.zipIdx_cons, List.foldl_cons]
    rw [fill_fold vs (k + 1) off (cells.setIfInBounds (off + k) v) (by simp at h ⊢; omega)]
    apply List.ext_getElem?
    intro j
    simp only [Array.toList_setIfInBounds, List.getElem?_append, List.getElem?_take, List.getElem?_drop, List.getElem?_set, List.length_append, List.length_take, List.length_set, Array.length_toList, List.length_cons]
    simp only [List.length_cons] at h
    have : cells.toList.length = cells.size := Array.length_toList
    grind
theorem built43 (n : Int) (p : Pg) : Try.prog.built 43 [(0, .int .i64 n), (1, pageV p)] = some (LW.cel (n, p)).toArray := by
  rw [built43z]
  have hz : zc43.toArray.size = 257 := zc43_size
  have hpl : (p.1.map byteV).length = 256 := by rw [List.length_map]; exact p.2
  have h1 : (Value.int IntKind.i64 n).cells = #[.int .i64 n] := rfl
  have h2 : (pageV p).cells = (p.1.map byteV).toArray := rfl
  simp only [Instr.fill, h1, h2]
  have hz2 : zc43.length = 257 := by simpa using hz
  simp [hz, hpl]
  refine ⟨by omega, ?_⟩
  apply Array.ext'
  rw [fill_fold _ 0 1 _ (by simp [hz2, p.2])]
  obtain ⟨a, r, hr⟩ : ∃ a r, zc43 = a :: r := by
    cases h : zc43 with
    | nil => rw [h] at hz2; cases hz2
    | cons a r => exact ⟨a, r, rfl⟩
  have hr2 : r.length = 256 := by rw [hr] at hz2; simpa using hz2
  rw [hr]
  simp [LW, p.2, hr2]

end Go.Proofs.Ythongcaijgfojaa
