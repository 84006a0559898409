/-
  The walk of FlawBad. (Printed by wip/gen/t04n.py of this repo.)
-/
import Derived.Test.YtfmgjkchhajpmaaDkH
import Derived.Test.YtfmgjkchhajpmaaDkF
namespace Go.Proofs.Ytfmgjkchhajpmaa
open Go Go.SL Go.Proofs
set_option linter.unusedVariables false

theorem hits_head {cs : List Wr} {n : Int} {k : Nat} {e : Wr} (hk : k < cs.length) (he : cs[cs.length - 1 - k]? = some e) (h : e.1 = n) (h0 : cntW cs n k = 0) : (hitsW cs n)[0]? = some e.2 := by
  have h1 := rev_at hk he
  have hlt := (List.getElem?_eq_some_iff.1 h1).1
  have e1 : cs.reverse = cs.reverse.take k ++ e :: cs.reverse.drop (k + 1) := by
    have h2 := (List.getElem?_eq_some_iff.1 h1).2
    rw [← h2, ← List.drop_eq_getElem_cons hlt, List.take_append_drop]
  have h2 : (cs.reverse.take k).filter (fun e => decide (e.1 = n)) = [] := List.eq_nil_of_length_eq_zero h0
  unfold hitsW
  rw [e1, List.filter_append, h2]
  simp [h]
theorem hits_none {cs : List Wr} {n : Int} (h : cntW cs n cs.length = 0) : hitsW cs n = [] := by
  rw [cntW_all] at h
  exact List.eq_nil_of_length_eq_zero h
theorem no_mem {bs : List Int} {n : Int} (h : ∀ (j : Nat) (a : Int), j < bs.length → bs[j]? = some a → a ≠ n) : n ∉ bs := fun hm => by
  obtain ⟨j, hj, he⟩ := List.getElem_of_mem hm
  exact h j _ hj (List.getElem?_eq_getElem hj) he

theorem c_readR (pv cv bv : Value) (ps : List Pg) (cs : List Wr) (bs : List Int) (off : Bool) (n : Int) (w : World) (lo up : Nat) (hup : up ≤ w.heap.size) (hp : NRd LP w lo up pv ps) (hc : NRd LW w lo up cv cs) (hb : NRd LI w lo up bv bs) : CT Try.prog 16 #[(.agg #[pv, cv, bv, (.bool (off))]), (.int .i64 (n))] w fun v w' => v = .tuple #[pageV (readE ps cs bs off n).1, .int .i64 (readE ps cs bs off n).2] ∧ Ext w w' := by
  obtain ⟨n0, hn0⟩ : ∃ n, n = w.heap.size := ⟨_, rfl⟩
  have hU : Upd (fun i => n0 ≤ i) w w := Upd.refl _ _
  have hpl := hp.sv.len
  have hcl := hc.sv.len
  have hbl := hb.sv.len
  rw [← hn0] at hup
  refine CT_of Try.func16 rfl rfl rfl ?_
  refine W_seq ?_
  refine W_reg ?_
  refine L_op rfl (X_box (v := (.agg #[pv, cv, bv, (.bool (off))])) (c := ([pv, cv, bv, (.bool (off))]).toArray) rfl rfl ?_)
  intro b1 w1 hn1
  have hbn1 := hn1.num; have hbs1 := hn1.size
  replace hp := hp.ext hn1.ext
  replace hc := hc.ext hn1.ext
  replace hb := hb.ext hn1.ext
  replace hU := hU.trans (Ext.upd hn1.ext)
  have hB1 := hn1.blk
  refine L_op rfl (X_alloc (z := zv33) (c := zc33.toArray) Zv33 rfl ?_)
  intro b2 w2 hn2
  have hbn2 := hn2.num; have hbs2 := hn2.size
  replace hp := hp.ext hn2.ext
  replace hc := hc.ext hn2.ext
  replace hb := hb.ext hn2.ext
  replace hU := hU.trans (Ext.upd hn2.ext)
  replace hB1 := hB1.ext hn2.ext
  have hB2 := hn2.blk
  rw [zc33_eq] at hB2
  refine L_op rfl (X_assign (v := (.int .i64 (0))) rfl ?_)
  refine L_nil ?_
  refine T_n ?_
  refine W_seq ?_
  refine W_reg ?_
  refine L_op rfl (X_loadA (p := (ptr b1 (0))) (xs := [pv, cv, bv, (.bool (off))]) A26 rfl hB1.atAll rfl ?_)
  refine L_op rfl (X_move (v := (.int .i64 (n))) rfl ?_)
  refine L_op rfl (X_fn (vs := [(.agg ([pv, cv, bv, (.bool (off))]).toArray), (.int .i64 (n))]) en31 rfl (CT.mono (c_atR pv cv bv ps cs bs off n _ lo up (by omega) hp hc hb) ?_))
  rintro _ w3 ⟨rfl, hu3⟩
  have hz3 := hu3.size
  replace hp := hp.ext hu3
  replace hc := hc.ext hu3
  replace hb := hb.ext hu3
  replace hU := hU.trans (Ext.upd hu3)
  replace hB1 := hB1.ext hu3
  replace hB2 := hB2.ext hu3
  refine L_op rfl (X_assign (v := (.int .i64 ((askE ps.length cs bs off n)))) rfl ?_)
  refine L_nil ?_
  refine T_n ?_
  refine W_seq ?_
  refine W_seq ?_
  refine W_reg ?_
  refine L_op rfl (X_move (v := (.int .i64 ((askE ps.length cs bs off n)))) rfl ?_)
  by_cases hc4 : ((askE ps.length cs bs off n) : Int) ≠ (0)
  · refine L_op rfl (X_cmp (k := .i64) (a := (askE ps.length cs bs off n)) (b := 0) (r := true) rfl rfl rfl (decide_eq_true (p := (((askE ps.length cs bs off n)) : Int) ≠ ((0) : Int)) (by omega)) ?_)
    refine L_nil ?_
    refine T_n ?_
    refine W_ct rfl ?_
    refine W_seq ?_
    refine W_reg ?_
    refine L_op rfl (X_build built33 ?_)
    refine L_op rfl (X_move (v := (.int .i64 ((askE ps.length cs bs off n)))) rfl ?_)
    refine L_op0 (X_storeW (b := b2) (ys := (((List.replicate 256 (0 : UInt8))).map byteV)) A33 rfl rfl (byteV_one _) (by rw [List.length_map]; exact List.length_replicate) hB2 (by rw [List.size_toArray]; exact (by rw [List.length_map]; exact List.length_replicate)) ?_)
    intro w5 hu5 hb5
    have hz5 := hu5.size
    replace hp := hp.upd hu5 fun i h1 h2 h => by have h : i = b2 := h; omega
    replace hc := hc.upd hu5 fun i h1 h2 h => by have h : i = b2 := h; omega
    replace hb := hb.upd hu5 fun i h1 h2 h => by have h : i = b2 := h; omega
    replace hU := hU.trans (hu5.mono fun i _ h => by have h : i = b2 := h; show n0 ≤ i; omega)
    replace hB1 := hB1.upd hu5 fun h => by have h : b1 = b2 := h; omega
    replace hB2 := hb5
    refine L_op rfl (X_assign (v := (.int .i64 ((askE ps.length cs bs off n)))) rfl ?_)
    refine L_nil ?_
    refine T_n ?_
    refine W_ret ?_
    refine T_r ?_
    rw [readE_bad hc4]
    exact BQ_r (End_2 Try.results16 (v1 := pageV default) (RV_A A33 rfl hB2.atAll (by rw [List.length_map]; exact List.length_replicate)) (v2 := .int .i64 (askE ps.length cs bs off n)) rfl ⟨rfl, hU.own hn0⟩)
  · refine L_op rfl (X_cmp (k := .i64) (a := (askE ps.length cs bs off n)) (b := 0) (r := false) rfl rfl rfl (decide_eq_false (p := (((askE ps.length cs bs off n)) : Int) ≠ ((0) : Int)) (by omega)) ?_)
    have hq0 : (askE ps.length cs bs off n) = 0 := by omega
    have hz0 := askE_zero hq0
    refine L_nil ?_
    refine T_n ?_
    refine W_cf rfl ?_
    refine W_skip ?_
    refine T_n ?_
    refine W_seq ?_
    refine W_seq ?_
    refine W_reg ?_
    refine L_op rfl (X_fldP (b := b1) (o := 0) (r := 1) Fd26_1 rfl rfl ?_)
    refine L_op rfl (X_load (p := (ptr b1 (1))) (v := cv) T23 rfl (hB1.at1 rfl) ?_)
    refine L_op rfl (X_len (v := cv) (n := cs.length) Try.underlying23 rfl hc.sv ?_)
    refine L_op rfl (X_arith (k := .i64) (a := ((cs.length : Nat) : Int)) (b := 1) (r := ((cs.length : Nat) : Int) - 1) rfl rfl rfl (isub64 rfl (by omega) (by omega)) ?_)
    refine L_op rfl (X_assign (v := (.int .i64 (((cs.length : Nat) : Int) - 1))) rfl ?_)
    refine L_nil ?_
    refine T_n ?_
    refine W_block ?_
    refine W_loop (α := Nat) [5, 7, 20, 21, 22, 23, 24, 25, 26, 27, 28, 29, 30, 31, 32, 33, 34, 35, 36, 37] (fun k => [(7, (.int .i64 (((cs.length : Nat) : Int) - 1 - ((k : Nat) : Int))))]) (fun k w_ => k ≤ cs.length ∧ cntW cs n k = 0 ∧ NRd LP w_ lo up pv ps ∧ NRd LW w_ lo up cv cs ∧ NRd LI w_ lo up bv bs ∧ Blk w_ b1 #[pv, cv, bv, .bool off] 26 ∧ Blk w_ b2 ((List.replicate 256 (0 : UInt8)).map byteV).toArray 33 ∧ Upd (fun i => n0 ≤ i) w w_) (fun k => cs.length - k) ⟨rfl, 0, ⟨Nat.zero_le _, rfl, hp, hc, hb, hB1, hB2, hU⟩, Out.refl _ _, ⟨(by show Value.int .i64 (((cs.length : Nat) : Int) - 1) = .int .i64 (((cs.length : Nat) : Int) - 1 - ((0 : Nat) : Int)); congr 1; omega), trivial⟩⟩ ?_
    rintro k w6 _ ⟨hkl, hz, hp, hc, hb, hB1, hB2, hU⟩
    have hsz_ := hU.size
    refine W_seq ?_
    refine W_seq ?_
    refine W_reg ?_
    refine L_op rfl (X_move (v := (.int .i64 (((cs.length : Nat) : Int) - 1 - ((k : Nat) : Int)))) rfl ?_)
    by_cases hc7 : (((cs.length : Nat) : Int) - 1 - ((k : Nat) : Int) : Int) ≥ (0)
    · refine L_op rfl (X_cmp (k := .i64) (a := ((cs.length : Nat) : Int) - 1 - ((k : Nat) : Int)) (b := 0) (r := true) rfl rfl rfl (decide_eq_true (p := ((0) : Int) ≤ ((((cs.length : Nat) : Int) - 1 - ((k : Nat) : Int)) : Int)) (by omega)) ?_)
      have hk : k < cs.length := by omega
      obtain ⟨e, hei⟩ : ∃ e, cs[cs.length - 1 - k]? = some e := ⟨_, List.getElem?_eq_getElem (by omega)⟩
      refine L_nil ?_
      refine T_n ?_
      refine W_ct rfl ?_
      refine W_skip ?_
      refine T_n ?_
      refine W_seq ?_
      refine W_block ?_
      refine W_seq ?_
      refine W_reg ?_
      refine L_op rfl (X_fldP (b := b1) (o := 0) (r := 1) Fd26_1 rfl rfl ?_)
      refine L_op rfl (X_load (p := (ptr b1 (1))) (v := cv) T23 rfl (hB1.at1 rfl) ?_)
      refine L_op rfl (X_move (v := (.int .i64 (((cs.length : Nat) : Int) - 1 - ((k : Nat) : Int)))) rfl ?_)
      refine L_op rfl (X_idx (v := cv) (n := cs.length) (k := .i64) (i := ((cs.length : Nat) : Int) - 1 - ((k : Nat) : Int)) S23 rfl hc.sv rfl (by omega) (by omega) ?_)
      refine L_op rfl (X_fldS (v := cv) (o := (((cs.length : Nat) : Int) - 1 - ((k : Nat) : Int) : Int).toNat * 257) Fd35_0 rfl hc.sv (by omega) ?_)
      refine L_op rfl (X_load (v := .int .i64 e.1) T3 rfl (wat hc (by omega) hei) ?_)
      refine L_op rfl (X_move (v := (.int .i64 (n))) rfl ?_)
      by_cases hc8 : (e.1 : Int) = (n)
      · refine L_op rfl (X_cmp (k := .i64) (a := e.1) (b := n) (r := true) rfl rfl rfl (decide_eq_true (p := ((e.1) : Int) = ((n) : Int)) (by omega)) ?_)
        refine L_nil ?_
        refine T_n ?_
        refine W_ct rfl ?_
        refine W_seq ?_
        refine W_reg ?_
        refine L_op rfl (X_fldP (b := b1) (o := 0) (r := 1) Fd26_1 rfl rfl ?_)
        refine L_op rfl (X_load (p := (ptr b1 (1))) (v := cv) T23 rfl (hB1.at1 rfl) ?_)
        refine L_op rfl (X_move (v := (.int .i64 (((cs.length : Nat) : Int) - 1 - ((k : Nat) : Int)))) rfl ?_)
        refine L_op rfl (X_idx (v := cv) (n := cs.length) (k := .i64) (i := ((cs.length : Nat) : Int) - 1 - ((k : Nat) : Int)) S23 rfl hc.sv rfl (by omega) (by omega) ?_)
        refine L_op rfl (X_fldS (v := cv) (o := (((cs.length : Nat) : Int) - 1 - ((k : Nat) : Int) : Int).toNat * 257) Fd35_1 rfl hc.sv (by omega) ?_)
        refine L_op rfl (X_loadA (xs := e.2.1.map byteV) A33 rfl (wdata hc (k := cs.length - 1 - k) (by omega) hei) (by rw [List.length_map]; exact e.2.2) ?_)
        refine L_op0 (X_storeW (b := b2) (ys := ((e.2.1).map byteV)) A33 rfl rfl (byteV_one _) (by rw [List.length_map]; exact e.2.2) hB2 (by rw [List.size_toArray]; exact (by rw [List.length_map]; exact List.length_replicate)) ?_)
        intro w9 hu9 hb9
        have hz9 := hu9.size
        replace hp := hp.upd hu9 fun i h1 h2 h => by have h : i = b2 := h; omega
        replace hc := hc.upd hu9 fun i h1 h2 h => by have h : i = b2 := h; omega
        replace hb := hb.upd hu9 fun i h1 h2 h => by have h : i = b2 := h; omega
        replace hB1 := hB1.upd hu9 fun h => by have h : b1 = b2 := h; omega
        replace hU := hU.trans (hu9.mono fun i _ h => by have h : i = b2 := h; show n0 ≤ i; omega)
        replace hB2 := hb9
        refine L_op rfl (X_assign (v := (.int .i64 (0))) rfl ?_)
        refine L_nil ?_
        refine T_n ?_
        refine W_ret ?_
        refine B_r ?_
        refine T_r ?_
        refine T_r ?_
        refine B_r ?_
        refine T_r ?_
        rw [readE_ok hq0, readD_hit (hits_head hk hei (by omega) hz)]
        exact BQ_r (End_2 Try.results16 (v1 := pageV e.2) (RV_A A33 rfl hB2.atAll (by rw [List.length_map]; exact e.2.2)) (v2 := .int .i64 0) rfl ⟨rfl, hU.own hn0⟩)
      · refine L_op rfl (X_cmp (k := .i64) (a := e.1) (b := n) (r := false) rfl rfl rfl (decide_eq_false (p := ((e.1) : Int) = ((n) : Int)) (by omega)) ?_)
        refine L_nil ?_
        refine T_n ?_
        refine W_cf rfl ?_
        refine W_skip ?_
        refine B_n ?_
        refine T_n ?_
        refine W_reg ?_
        refine L_op rfl (X_move (v := (.int .i64 (((cs.length : Nat) : Int) - 1 - ((k : Nat) : Int)))) rfl ?_)
        refine L_op rfl (X_arith (k := .i64) (a := ((cs.length : Nat) : Int) - 1 - ((k : Nat) : Int)) (b := 1) (r := ((cs.length : Nat) : Int) - 1 - ((k + 1 : Nat) : Int)) rfl rfl rfl (isub64 (by omega) (by omega) (by omega)) ?_)
        refine L_op rfl (X_assign (v := (.int .i64 (((cs.length : Nat) : Int) - 1 - ((k + 1 : Nat) : Int)))) rfl ?_)
        refine L_nil ?_
        refine T_n ?_
        exact ⟨rfl, k + 1, ⟨⟨hk, by rw [cntW_miss hk hei (by omega)]; exact hz, hp, hc, hb, hB1, hB2, hU⟩, (by show cs.length - (k + 1) < cs.length - k; omega)⟩, (Out.mk rfl), ⟨rfl, trivial⟩⟩
    · refine L_op rfl (X_cmp (k := .i64) (a := ((cs.length : Nat) : Int) - 1 - ((k : Nat) : Int)) (b := 0) (r := false) rfl rfl rfl (decide_eq_false (p := ((0) : Int) ≤ ((((cs.length : Nat) : Int) - 1 - ((k : Nat) : Int)) : Int)) (by omega)) ?_)
      obtain rfl : k = cs.length := by omega
      have hnil := hits_none hz
      refine L_nil ?_
      refine T_n ?_
      refine W_cf rfl ?_
      refine W_exit ?_
      refine T_e ?_
      refine T_e ?_
      refine B_x ?_
      refine T_n ?_
      refine W_seq ?_
      refine W_seq ?_
      refine W_reg ?_
      refine L_op rfl (X_assign (v := (.int .i64 (0))) rfl ?_)
      refine L_nil ?_
      refine T_n ?_
      refine W_block ?_
      refine W_loop (α := Nat) [5, 8, 38, 39, 40, 41, 42, 43, 44, 45, 46, 47, 48, 49, 50, 51, 52] (fun i => [(8, (.int .i64 (((i : Nat) : Int))))]) (fun i w_ => i ≤ bs.length ∧ (∀ (j : Nat) (a : Int), j < i → bs[j]? = some a → a ≠ n) ∧ NRd LP w_ lo up pv ps ∧ NRd LW w_ lo up cv cs ∧ NRd LI w_ lo up bv bs ∧ Blk w_ b1 #[pv, cv, bv, .bool off] 26 ∧ Blk w_ b2 ((List.replicate 256 (0 : UInt8)).map byteV).toArray 33 ∧ Upd (fun i => n0 ≤ i) w w_) (fun i => bs.length - i) ⟨rfl, 0, ⟨Nat.zero_le _, fun j a h => absurd h (Nat.not_lt_zero j), hp, hc, hb, hB1, hB2, hU⟩, Out.refl _ _, ⟨rfl, trivial⟩⟩ ?_
      rintro i w10 _ ⟨hil, hzb, hp, hc, hb, hB1, hB2, hU⟩
      have hsz_ := hU.size
      refine W_seq ?_
      refine W_seq ?_
      refine W_reg ?_
      refine L_op rfl (X_move (v := (.int .i64 (((i : Nat) : Int)))) rfl ?_)
      refine L_op rfl (X_fldP (b := b1) (o := 0) (r := 2) Fd26_2 rfl rfl ?_)
      refine L_op rfl (X_load (p := (ptr b1 (2))) (v := bv) T24 rfl (hB1.at1 rfl) ?_)
      refine L_op rfl (X_len (v := bv) (n := bs.length) Try.underlying24 rfl hb.sv ?_)
      by_cases hc11 : (((i : Nat) : Int) : Int) < (((bs.length : Nat) : Int))
      · refine L_op rfl (X_cmp (k := .i64) (a := ((i : Nat) : Int)) (b := ((bs.length : Nat) : Int)) (r := true) rfl rfl rfl (decide_eq_true (p := ((((i : Nat) : Int)) : Int) < ((((bs.length : Nat) : Int)) : Int)) (by omega)) ?_)
        have hi : i < bs.length := by omega
        obtain ⟨a, hai⟩ : ∃ a, bs[i]? = some a := ⟨_, List.getElem?_eq_getElem hi⟩
        refine L_nil ?_
        refine T_n ?_
        refine W_ct rfl ?_
        refine W_skip ?_
        refine T_n ?_
        refine W_seq ?_
        refine W_block ?_
        refine W_seq ?_
        refine W_reg ?_
        refine L_op rfl (X_fldP (b := b1) (o := 0) (r := 2) Fd26_2 rfl rfl ?_)
        refine L_op rfl (X_load (p := (ptr b1 (2))) (v := bv) T24 rfl (hB1.at1 rfl) ?_)
        refine L_op rfl (X_move (v := (.int .i64 (((i : Nat) : Int)))) rfl ?_)
        refine L_op rfl (X_idx (v := bv) (n := bs.length) (k := .i64) (i := ((i : Nat) : Int)) S24 rfl hb.sv rfl (by omega) (by omega) ?_)
        refine L_op rfl (X_load (v := .int .i64 a) T3 rfl (iat hb (Int.toNat_natCast _) hai) ?_)
        refine L_op rfl (X_move (v := (.int .i64 (n))) rfl ?_)
        by_cases hc12 : (a : Int) = (n)
        · refine L_op rfl (X_cmp (k := .i64) (a := a) (b := n) (r := true) rfl rfl rfl (decide_eq_true (p := ((a) : Int) = ((n) : Int)) (by omega)) ?_)
          refine L_nil ?_
          refine T_n ?_
          refine W_ct rfl ?_
          refine W_seq ?_
          refine W_reg ?_
          refine L_op rfl (X_build built33 ?_)
          refine L_op0 (X_storeW (b := b2) (ys := (((List.replicate 256 (0 : UInt8))).map byteV)) A33 rfl rfl (byteV_one _) (by rw [List.length_map]; exact List.length_replicate) hB2 (by rw [List.size_toArray]; exact (by rw [List.length_map]; exact List.length_replicate)) ?_)
          intro w13 hu13 hb13
          have hz13 := hu13.size
          replace hp := hp.upd hu13 fun i h1 h2 h => by have h : i = b2 := h; omega
          replace hc := hc.upd hu13 fun i h1 h2 h => by have h : i = b2 := h; omega
          replace hb := hb.upd hu13 fun i h1 h2 h => by have h : i = b2 := h; omega
          replace hB1 := hB1.upd hu13 fun h => by have h : b1 = b2 := h; omega
          replace hU := hU.trans (hu13.mono fun i _ h => by have h : i = b2 := h; show n0 ≤ i; omega)
          replace hB2 := hb13
          refine L_op rfl (X_assign (v := (.int .i64 (31))) rfl ?_)
          refine L_nil ?_
          refine T_n ?_
          refine W_ret ?_
          refine B_r ?_
          refine T_r ?_
          refine T_r ?_
          refine B_r ?_
          refine T_r ?_
          rw [readE_ok hq0, readD_bad hnil (by rw [show n = a by omega]; exact List.mem_of_getElem? hai)]
          exact BQ_r (End_2 Try.results16 (v1 := pageV default) (RV_A A33 rfl hB2.atAll (by rw [List.length_map]; exact List.length_replicate)) (v2 := .int .i64 31) rfl ⟨rfl, hU.own hn0⟩)
        · refine L_op rfl (X_cmp (k := .i64) (a := a) (b := n) (r := false) rfl rfl rfl (decide_eq_false (p := ((a) : Int) = ((n) : Int)) (by omega)) ?_)
          refine L_nil ?_
          refine T_n ?_
          refine W_cf rfl ?_
          refine W_skip ?_
          refine B_n ?_
          refine T_n ?_
          refine W_reg ?_
          refine L_op rfl (X_move (v := (.int .i64 (((i : Nat) : Int)))) rfl ?_)
          refine L_op rfl (X_arith (k := .i64) (a := ((i : Nat) : Int)) (b := 1) (r := ((i + 1 : Nat) : Int)) rfl rfl rfl (iadd64 (by omega) (by omega) (by omega)) ?_)
          refine L_op rfl (X_assign (v := (.int .i64 (((i + 1 : Nat) : Int)))) rfl ?_)
          refine L_nil ?_
          refine T_n ?_
          exact ⟨rfl, i + 1, ⟨⟨hi, fun j a2 h1 h2 => (Nat.lt_or_ge j i).elim (fun h3 => hzb j a2 h3 h2) fun h3 => (by obtain rfl : j = i := by { omega }; rw [hai] at h2; cases h2; omega), hp, hc, hb, hB1, hB2, hU⟩, (by show bs.length - (i + 1) < bs.length - i; omega)⟩, (Out.mk rfl), ⟨rfl, trivial⟩⟩
      · refine L_op rfl (X_cmp (k := .i64) (a := ((i : Nat) : Int)) (b := ((bs.length : Nat) : Int)) (r := false) rfl rfl rfl (decide_eq_false (p := ((((i : Nat) : Int)) : Int) < ((((bs.length : Nat) : Int)) : Int)) (by omega)) ?_)
        refine L_nil ?_
        refine T_n ?_
        refine W_cf rfl ?_
        refine W_exit ?_
        refine T_e ?_
        refine T_e ?_
        refine B_x ?_
        refine T_n ?_
        refine W_seq ?_
        refine W_reg ?_
        refine L_op rfl (X_fldP (b := b1) (o := 0) (r := 0) Fd26_0 rfl rfl ?_)
        refine L_op rfl (X_load (p := (ptr b1 (0))) (v := pv) T22 rfl (hB1.at1 rfl) ?_)
        refine L_op rfl (X_move (v := (.int .i64 (n))) rfl ?_)
        refine L_op rfl (X_idx (v := pv) (n := ps.length) (k := .i64) (i := n) S22 rfl hp.sv rfl (by omega) (by omega) ?_)
        obtain ⟨p_, hp_⟩ : ∃ p, ps[n.toNat]? = some p := ⟨_, List.getElem?_eq_getElem (by omega)⟩
        refine L_op rfl (X_loadA (xs := p_.1.map byteV) A33 rfl (pall hp rfl hp_) (by rw [List.length_map]; exact p_.2) ?_)
        refine L_op0 (X_storeW (b := b2) (ys := ((p_.1).map byteV)) A33 rfl rfl (byteV_one _) (by rw [List.length_map]; exact p_.2) hB2 (by rw [List.size_toArray]; exact (by rw [List.length_map]; exact List.length_replicate)) ?_)
        intro w14 hu14 hb14
        have hz14 := hu14.size
        replace hp := hp.upd hu14 fun i h1 h2 h => by have h : i = b2 := h; omega
        replace hc := hc.upd hu14 fun i h1 h2 h => by have h : i = b2 := h; omega
        replace hb := hb.upd hu14 fun i h1 h2 h => by have h : i = b2 := h; omega
        replace hB1 := hB1.upd hu14 fun h => by have h : b1 = b2 := h; omega
        replace hU := hU.trans (hu14.mono fun i _ h => by have h : i = b2 := h; show n0 ≤ i; omega)
        replace hB2 := hb14
        refine L_op rfl (X_assign (v := (.int .i64 (0))) rfl ?_)
        refine L_nil ?_
        refine T_n ?_
        refine W_ret ?_
        rw [readE_ok hq0, readD_page hnil (no_mem fun j a h1 h2 => hzb j a (by omega) h2) hp_]
        exact BQ_r (End_2 Try.results16 (v1 := pageV p_) (RV_A A33 rfl hB2.atAll (by rw [List.length_map]; exact p_.2)) (v2 := .int .i64 0) rfl ⟨rfl, hU.own hn0⟩)

theorem c_writeR (pv cv bv : Value) (ps : List Pg) (cs : List Wr) (bs : List Int) (off : Bool) (n : Int) (p : Pg) (w : World) (lo up : Nat) (hup : up ≤ w.heap.size) (hp : NRd LP w lo up pv ps) (hc : NRd LW w lo up cv cs) (hb : NRd LI w lo up bv bs) (hpL : ps.length ≤ 1048576) (hcL : cs.length ≤ 1048576) (hbL : bs.length ≤ 1048576) : CT Try.prog 17 #[(.agg #[pv, cv, bv, (.bool (off))]), (.int .i64 (n)), (pageV p)] w fun v w' => ∃ p2 c2 i2, v = .tuple #[.agg #[p2, c2, i2, .bool off], .int .i64 (wrE ps.length cs bs off n)] ∧ NOwn LP w' 33 5 w.heap.size w'.heap.size p2 ps ∧ NOwn LW w' 35 5 w.heap.size w'.heap.size c2 (writeC ps.length cs bs off n p) ∧ NOwn LI w' 3 5 w.heap.size w'.heap.size i2 bs ∧ Ext w w' := by
  obtain ⟨n0, hn0⟩ : ∃ n, n = w.heap.size := ⟨_, rfl⟩
  have hU : Upd (fun i => n0 ≤ i) w w := Upd.refl _ _
  have hpl := hp.sv.len
  have hcl := hc.sv.len
  have hbl := hb.sv.len
  rw [← hn0] at hup
  refine CT_of Try.func17 rfl rfl rfl ?_
  refine W_seq ?_
  refine W_reg ?_
  refine L_op rfl (X_box (v := (.agg #[pv, cv, bv, (.bool (off))])) (c := ([pv, cv, bv, (.bool (off))]).toArray) rfl rfl ?_)
  intro b1 w1 hn1
  have hbn1 := hn1.num; have hbs1 := hn1.size
  replace hp := hp.ext hn1.ext
  replace hc := hc.ext hn1.ext
  replace hb := hb.ext hn1.ext
  replace hU := hU.trans (Ext.upd hn1.ext)
  have hB1 := hn1.blk
  refine L_op rfl (X_box (v := (pageV p)) (c := ((p.1).map byteV).toArray) rfl rfl ?_)
  intro b2 w2 hn2
  have hbn2 := hn2.num; have hbs2 := hn2.size
  replace hp := hp.ext hn2.ext
  replace hc := hc.ext hn2.ext
  replace hb := hb.ext hn2.ext
  replace hU := hU.trans (Ext.upd hn2.ext)
  replace hB1 := hB1.ext hn2.ext
  have hB2 := hn2.blk
  refine L_op rfl (X_alloc (z := (.agg #[(.slice none 0 0), (.slice none 0 0), (.slice none 0 0), (.bool (false))])) (c := #[(.slice none 0 0), (.slice none 0 0), (.slice none 0 0), (.bool (false))]) Zv26 rfl ?_)
  intro b3 w3 hn3
  have hbn3 := hn3.num; have hbs3 := hn3.size
  replace hp := hp.ext hn3.ext
  replace hc := hc.ext hn3.ext
  replace hb := hb.ext hn3.ext
  replace hU := hU.trans (Ext.upd hn3.ext)
  replace hB1 := hB1.ext hn3.ext
  replace hB2 := hB2.ext hn3.ext
  have hB3 := hn3.blk
  refine L_op rfl (X_assign (v := (.int .i64 (0))) rfl ?_)
  refine L_nil ?_
  refine T_n ?_
  refine W_seq ?_
  refine W_reg ?_
  refine L_op rfl (X_loadA (p := (ptr b1 (0))) (xs := [pv, cv, bv, (.bool (off))]) A26 rfl hB1.atAll rfl ?_)
  refine L_op rfl (X_move (v := (.int .i64 (n))) rfl ?_)
  refine L_op rfl (X_fn (vs := [(.agg ([pv, cv, bv, (.bool (off))]).toArray), (.int .i64 (n))]) en31 rfl (CT.mono (c_atR pv cv bv ps cs bs off n _ lo up (by omega) hp hc hb) ?_))
  rintro _ w4 ⟨rfl, hu4⟩
  have hz4 := hu4.size
  replace hp := hp.ext hu4
  replace hc := hc.ext hu4
  replace hb := hb.ext hu4
  replace hU := hU.trans (Ext.upd hu4)
  replace hB1 := hB1.ext hu4
  replace hB2 := hB2.ext hu4
  replace hB3 := hB3.ext hu4
  have hm2k : askE ps.length cs bs off n = 0 → cs.length ≤ 2000 := fun h => (askE_zero h).1.1.2.2.1
  refine L_op rfl (X_assign (v := (.int .i64 ((askE ps.length cs bs off n)))) rfl ?_)
  refine L_nil ?_
  refine T_n ?_
  refine W_cut (α := Int) [8, 13, 14, 15, 16, 17, 18, 19, 20] (fun e1 => [(8, (.int .i64 (e1)))]) (fun e1 w_ => e1 = wrE ps.length cs bs off n ∧ w4 = w_) ?_ ?_
  · refine W_seq ?_
    refine W_reg ?_
    refine L_op rfl (X_move (v := (.int .i64 ((askE ps.length cs bs off n)))) rfl ?_)
    by_cases hc6 : ((askE ps.length cs bs off n) : Int) = (0)
    · refine L_op rfl (X_cmp (k := .i64) (a := (askE ps.length cs bs off n)) (b := 0) (r := true) rfl rfl rfl (decide_eq_true (p := (((askE ps.length cs bs off n)) : Int) = ((0) : Int)) (by omega)) ?_)
      refine L_op rfl (X_move (v := (.bool (true))) rfl ?_)
      refine L_gy (dj := 15) rfl rfl rfl (X_fldP (b := b1) (o := 0) (r := 1) Fd26_1 rfl rfl ?_)
      refine L_gy (dj := 15) rfl rfl rfl (X_load (p := (ptr b1 (1))) (v := cv) T23 rfl (hB1.at1 rfl) ?_)
      refine L_gy (dj := 15) rfl rfl rfl (X_len (v := cv) (n := cs.length) Try.underlying23 rfl hc.sv ?_)
      by_cases hc7 : (((cs.length : Nat) : Int) : Int) = (2000)
      · refine L_gy (dj := 15) rfl rfl rfl (X_cmp (k := .i64) (a := ((cs.length : Nat) : Int)) (b := 2000) (r := true) rfl rfl rfl (decide_eq_true (p := ((((cs.length : Nat) : Int)) : Int) = ((2000) : Int)) (by omega)) ?_)
        refine L_op rfl (X_pick (t := true) (v := (.bool (true))) rfl rfl ?_)
        refine L_nil ?_
        refine T_n ?_
        refine W_ct rfl ?_
        refine W_reg ?_
        refine L_op rfl (X_assign (v := (.int .i64 (32))) rfl ?_)
        refine L_nil ?_
        refine T_n ?_
        exact ⟨rfl, 32, ⟨(wrE_full (by omega) (by omega)).symm, rfl⟩, (Out.suf rfl rfl), ⟨rfl, trivial⟩⟩
      · refine L_gy (dj := 15) rfl rfl rfl (X_cmp (k := .i64) (a := ((cs.length : Nat) : Int)) (b := 2000) (r := false) rfl rfl rfl (decide_eq_false (p := ((((cs.length : Nat) : Int)) : Int) = ((2000) : Int)) (by omega)) ?_)
        refine L_op rfl (X_pick (t := true) (v := (.bool (false))) rfl rfl ?_)
        refine L_nil ?_
        refine T_n ?_
        refine W_cf rfl ?_
        refine W_skip ?_
        refine T_n ?_
        exact ⟨rfl, (askE ps.length cs bs off n), ⟨(wrE_ask (by omega)).symm, rfl⟩, (Out.suf rfl rfl), ⟨rfl, trivial⟩⟩
    · refine L_op rfl (X_cmp (k := .i64) (a := (askE ps.length cs bs off n)) (b := 0) (r := false) rfl rfl rfl (decide_eq_false (p := (((askE ps.length cs bs off n)) : Int) = ((0) : Int)) (by omega)) ?_)
      refine L_op rfl (X_move (v := (.bool (false))) rfl ?_)
      refine L_gn (dj := 15) (t := false) rfl rfl rfl rfl ?_
      refine L_gn (dj := 15) (t := false) rfl rfl rfl rfl ?_
      refine L_gn (dj := 15) (t := false) rfl rfl rfl rfl ?_
      refine L_gn (dj := 15) (t := false) rfl rfl rfl rfl ?_
      refine L_op rfl (X_pick (t := false) (v := (.bool (false))) rfl rfl ?_)
      refine L_nil ?_
      refine T_n ?_
      refine W_cf rfl ?_
      refine W_skip ?_
      refine T_n ?_
      exact ⟨rfl, (askE ps.length cs bs off n), ⟨(wrE_ask (by omega)).symm, rfl⟩, (Out.suf rfl rfl), ⟨rfl, trivial⟩⟩
  · rintro e1 _ _ ⟨he1, rfl⟩
    refine W_seq ?_
    refine W_reg ?_
    refine L_op rfl (X_loadA (p := (ptr b1 (0))) (xs := [pv, cv, bv, (.bool (off))]) A26 rfl hB1.atAll rfl ?_)
    obtain ⟨s0, hs0⟩ : ∃ n, n = w4.heap.size := ⟨_, rfl⟩
    refine L_op rfl (X_fn (vs := [(.agg ([pv, cv, bv, (.bool (off))]).toArray)]) en30 rfl (CT.mono (c_copyR pv cv bv ps cs bs off _ lo up (by omega) hp hc hb hpL hcL hbL) ?_))
    rintro _ w8 ⟨p_2, c_2, i_2, rfl, hP2, hC2, hI2, hu8⟩
    have hz8 := hu8.size
    rw [← hs0] at hP2 hC2 hI2
    obtain ⟨us0, hus0_⟩ : ∃ n, n = w8.heap.size := ⟨_, rfl⟩
    rw [← hus0_] at hP2 hC2 hI2
    replace hp := hp.ext hu8
    replace hc := hc.ext hu8
    replace hb := hb.ext hu8
    replace hU := hU.trans (Ext.upd hu8)
    replace hB1 := hB1.ext hu8
    replace hB2 := hB2.ext hu8
    replace hB3 := hB3.ext hu8
    refine L_op rfl (X_alloc (z := (.agg #[(.slice none 0 0), (.slice none 0 0), (.slice none 0 0), (.bool (false))])) (c := #[(.slice none 0 0), (.slice none 0 0), (.slice none 0 0), (.bool (false))]) Zv26 rfl ?_)
    intro b9 w9 hn9
    have hbn9 := hn9.num; have hbs9 := hn9.size
    replace hp := hp.ext hn9.ext
    replace hc := hc.ext hn9.ext
    replace hb := hb.ext hn9.ext
    replace hU := hU.trans (Ext.upd hn9.ext)
    replace hB1 := hB1.ext hn9.ext
    replace hB2 := hB2.ext hn9.ext
    replace hB3 := hB3.ext hn9.ext
    replace hP2 := hP2.ext hn9.ext
    replace hC2 := hC2.ext hn9.ext
    replace hI2 := hI2.ext hn9.ext
    have hB9 := hn9.blk
    refine L_op0 (X_storeW (b := b9) (ys := [p_2, c_2, i_2, (.bool (off))]) A26 rfl rfl (List.forall_mem_cons.2 ⟨(hP2.1.sv.one), (List.forall_mem_cons.2 ⟨(hC2.1.sv.one), (List.forall_mem_cons.2 ⟨(hI2.1.sv.one), (List.forall_mem_cons.2 ⟨rfl, (fun _ h => by cases h)⟩)⟩)⟩)⟩) rfl hB9 rfl ?_)
    intro w10 hu10 hb10
    have hz10 := hu10.size
    replace hp := hp.upd hu10 fun i h1 h2 h => by have h : i = b9 := h; omega
    replace hc := hc.upd hu10 fun i h1 h2 h => by have h : i = b9 := h; omega
    replace hb := hb.upd hu10 fun i h1 h2 h => by have h : i = b9 := h; omega
    replace hU := hU.trans (hu10.mono fun i _ h => by have h : i = b9 := h; show n0 ≤ i; omega)
    replace hB1 := hB1.upd hu10 fun h => by have h : b1 = b9 := h; omega
    replace hB2 := hB2.upd hu10 fun h => by have h : b2 = b9 := h; omega
    replace hB3 := hB3.upd hu10 fun h => by have h : b3 = b9 := h; omega
    replace hP2 := hP2.upd hu10 fun i h1 h2 h => by have h : i = b9 := h; omega
    replace hC2 := hC2.upd hu10 fun i h1 h2 h => by have h : i = b9 := h; omega
    replace hI2 := hI2.upd hu10 fun i h1 h2 h => by have h : i = b9 := h; omega
    replace hB9 : Blk w10 b9 #[p_2, c_2, i_2, (.bool (off))] 26 := hb10
    refine L_nil ?_
    refine T_n ?_
    refine W_seq ?_
    refine W_seq ?_
    refine W_reg ?_
    refine L_op rfl (X_move (v := (.int .i64 (e1))) rfl ?_)
    by_cases hc11 : (e1 : Int) = (0)
    · refine L_op rfl (X_cmp (k := .i64) (a := e1) (b := 0) (r := true) rfl rfl rfl (decide_eq_true (p := ((e1) : Int) = ((0) : Int)) (by omega)) ?_)
      refine L_nil ?_
      refine T_n ?_
      refine W_ct rfl ?_
      refine W_reg ?_
      refine L_op rfl (X_fldP (b := b9) (o := 0) (r := 1) Fd26_1 rfl rfl ?_)
      refine L_op rfl (X_load (p := (ptr b9 (1))) (v := c_2) T23 rfl (hB9.at1 rfl) ?_)
      refine L_op rfl (X_move (v := (.int .i64 (n))) rfl ?_)
      refine L_op rfl (X_loadA (p := (ptr b2 (0))) (xs := ((p.1).map byteV)) A33 rfl hB2.atAll (by rw [List.length_map]; exact p.2) ?_)
      refine L_op rfl (X_build (built35 n p) ?_)
      refine L_op rfl (X_buildSliceL (vs := [wrV (n, p)]) (c := LW.cel (n, p)) S23 (by decide) rfl rfl (List.forall_mem_cons.2 ⟨wr_size _, fun _ h => by cases h⟩) (List.append_nil _) ?_)
      intro bl wl hnl
      have hbnl := hnl.num; have hbsl := hnl.size
      replace hp := hp.ext hnl.ext
      replace hc := hc.ext hnl.ext
      replace hb := hb.ext hnl.ext
      replace hU := hU.trans (Ext.upd hnl.ext)
      replace hB1 := hB1.ext hnl.ext
      replace hB2 := hB2.ext hnl.ext
      replace hB3 := hB3.ext hnl.ext
      replace hP2 := hP2.ext hnl.ext
      replace hC2 := hC2.ext hnl.ext
      replace hI2 := hI2.ext hnl.ext
      replace hB9 := hB9.ext hnl.ext
      have hBl := hnl.blk
      refine L_op rfl (X_append (B := s0) (n := cs.length) (s := c_2) (x := .slice (some ⟨bl, 0, none⟩) 1 1) S23 ⟨_, Try.underlying23⟩ rfl rfl hC2.1 (m := 1) (ys := LW.cel (n, p)) (hBl.rd (o := 0) (n := 1) (c := 1) (sz := 257) (by decide) (by decide) (by rw [LW.len]; rfl) (fun j u hj => by rw [Nat.zero_add]; simpa using hj)) (LW.one (n, p) (fun _ h => by cases h)) (by unfold maxLen; omega) (by omega) (by omega) ?_)
      intro v5 w5 hO5 hu5 ho5
      have hC2b := hC2.2.1
      have hz5 := hu5.size
      have hC5 : NOwn LW w5 35 5 s0 w5.heap.size v5 (cs ++ [(n, p)]) := NOwn.of (fun _ => rfl) (hO5.eq (by rw [List.length_append]; rfl) (by rw [List.flatMap_append]; simp)) fun b hb => (hO5.lt hb).2
      replace hP2 := NOwn.upd' (fun _ => rfl) hP2 hu5 fun b h1 h2 => absurd (hP2.1.types hC2.1 h1 h2) (by decide)
      replace hI2 := NOwn.upd' (fun _ => rfl) hI2 hu5 fun b h1 h2 => absurd (hI2.1.types hC2.1 h1 h2) (by decide)
      replace hp := hp.upd hu5 fun i h1 h2 h => by have h1_ := hC2.1.lt h; have h2_ := hC2.2.1 _ h; omega
      replace hc := hc.upd hu5 fun i h1 h2 h => by have h1_ := hC2.1.lt h; have h2_ := hC2.2.1 _ h; omega
      replace hb := hb.upd hu5 fun i h1 h2 h => by have h1_ := hC2.1.lt h; have h2_ := hC2.2.1 _ h; omega
      replace hU := hU.trans (hu5.mono fun i _ h => by have h1_ := hC2.1.lt h; have h2_ := hC2.2.1 _ h; show n0 ≤ i; omega)
      replace hB1 := hB1.upd hu5 fun h => by have h1_ := hC2.1.lt h; have h2_ := hC2.2.1 _ h; omega
      replace hB2 := hB2.upd hu5 fun h => by have h1_ := hC2.1.lt h; have h2_ := hC2.2.1 _ h; omega
      replace hB3 := hB3.upd hu5 fun h => by have h1_ := hC2.1.lt h; have h2_ := hC2.2.1 _ h; omega
      replace hB9 := hB9.upd hu5 fun h => by have h1_ := hC2.1.lt h; have h2_ := hC2.2.1 _ h; omega
      obtain ⟨u5, hu5_⟩ : ∃ n, n = w5.heap.size := ⟨_, rfl⟩
      rw [← hu5_] at hC5
      refine L_op rfl (X_fldP (b := b9) (o := 0) (r := 1) Fd26_1 rfl rfl ?_)
      refine L_op0 (X_store (b := b9) (o := 1) T23 rfl rfl (hC5.1.sv.one) hB9 (by show (1 : Nat) < 4; decide) ?_)
      intro w12 hu12 hb12
      have hz12 := hu12.size
      replace hp := hp.upd hu12 fun i h1 h2 h => by have h : i = b9 := h; omega
      replace hc := hc.upd hu12 fun i h1 h2 h => by have h : i = b9 := h; omega
      replace hb := hb.upd hu12 fun i h1 h2 h => by have h : i = b9 := h; omega
      replace hU := hU.trans (hu12.mono fun i _ h => by have h : i = b9 := h; show n0 ≤ i; omega)
      replace hB1 := hB1.upd hu12 fun h => by have h : b1 = b9 := h; omega
      replace hB2 := hB2.upd hu12 fun h => by have h : b2 = b9 := h; omega
      replace hB3 := hB3.upd hu12 fun h => by have h : b3 = b9 := h; omega
      replace hP2 := hP2.upd hu12 fun i h1 h2 h => by have h : i = b9 := h; omega
      replace hI2 := hI2.upd hu12 fun i h1 h2 h => by have h : i = b9 := h; omega
      replace hC5 := NOwn.upd' (fun _ => rfl) hC5 hu12 fun b hb h => by have h3 := ho5 b hb; have h4 := (hC5.1.lt hb).1; have h : b = b9 := h; rcases h3 with h3 | h3; (· have := hC2b b h3; omega); (· omega)
      replace hB9 : Blk w12 b9 #[p_2, v5, i_2, (.bool (off))] 26 := hb12
      refine L_nil ?_
      refine T_n ?_
      refine W_seq ?_
      refine W_reg ?_
      refine L_op rfl (X_loadA (p := (ptr b9 (0))) (xs := [p_2, v5, i_2, (.bool (off))]) A26 rfl hB9.atAll rfl ?_)
      refine L_op rfl (X_move (v := (.int .i64 (e1))) rfl ?_)
      refine L_op0 (X_storeW (b := b3) (ys := [p_2, v5, i_2, (.bool (off))]) A26 rfl rfl (List.forall_mem_cons.2 ⟨(hP2.1.sv.one), (List.forall_mem_cons.2 ⟨(hC5.1.sv.one), (List.forall_mem_cons.2 ⟨(hI2.1.sv.one), (List.forall_mem_cons.2 ⟨rfl, (fun _ h => by cases h)⟩)⟩)⟩)⟩) rfl hB3 rfl ?_)
      intro w13 hu13 hb13
      have hz13 := hu13.size
      replace hp := hp.upd hu13 fun i h1 h2 h => by have h : i = b3 := h; omega
      replace hc := hc.upd hu13 fun i h1 h2 h => by have h : i = b3 := h; omega
      replace hb := hb.upd hu13 fun i h1 h2 h => by have h : i = b3 := h; omega
      replace hU := hU.trans (hu13.mono fun i _ h => by have h : i = b3 := h; show n0 ≤ i; omega)
      replace hB1 := hB1.upd hu13 fun h => by have h : b1 = b3 := h; omega
      replace hB2 := hB2.upd hu13 fun h => by have h : b2 = b3 := h; omega
      replace hP2 := hP2.upd hu13 fun i h1 h2 h => by have h : i = b3 := h; omega
      replace hI2 := hI2.upd hu13 fun i h1 h2 h => by have h : i = b3 := h; omega
      replace hC5 := NOwn.upd' (fun _ => rfl) hC5 hu13 fun b hb h => by have h3 := ho5 b hb; have h4 := (hC5.1.lt hb).1; have h : b = b3 := h; rcases h3 with h3 | h3; (· have := hC2b b h3; omega); (· omega)
      replace hB9 := hB9.upd hu13 fun h => by have h : b9 = b3 := h; omega
      replace hB3 : Blk w13 b3 #[p_2, v5, i_2, (.bool (off))] 26 := hb13
      refine L_op rfl (X_assign (v := (.int .i64 (e1))) rfl ?_)
      refine L_nil ?_
      refine T_n ?_
      refine W_ret ?_
      exact BQ_r (End_2 Try.results17 (RV_A A26 rfl hB3.atAll rfl) (v2 := .int .i64 e1) rfl ⟨_, _, _, by rw [he1], hP2.mono (by omega) (by omega), by unfold writeC; rw [← he1, if_pos (by omega)]; exact hC5.mono (by omega) (by omega), hI2.mono (by omega) (by omega), hU.own hn0⟩)
    · refine L_op rfl (X_cmp (k := .i64) (a := e1) (b := 0) (r := false) rfl rfl rfl (decide_eq_false (p := ((e1) : Int) = ((0) : Int)) (by omega)) ?_)
      refine L_nil ?_
      refine T_n ?_
      refine W_cf rfl ?_
      refine W_skip ?_
      refine T_n ?_
      refine W_seq ?_
      refine W_reg ?_
      refine L_op rfl (X_loadA (p := (ptr b9 (0))) (xs := [p_2, c_2, i_2, (.bool (off))]) A26 rfl hB9.atAll rfl ?_)
      refine L_op rfl (X_move (v := (.int .i64 (e1))) rfl ?_)
      refine L_op0 (X_storeW (b := b3) (ys := [p_2, c_2, i_2, (.bool (off))]) A26 rfl rfl (List.forall_mem_cons.2 ⟨(hP2.1.sv.one), (List.forall_mem_cons.2 ⟨(hC2.1.sv.one), (List.forall_mem_cons.2 ⟨(hI2.1.sv.one), (List.forall_mem_cons.2 ⟨rfl, (fun _ h => by cases h)⟩)⟩)⟩)⟩) rfl hB3 rfl ?_)
      intro w14 hu14 hb14
      have hz14 := hu14.size
      replace hp := hp.upd hu14 fun i h1 h2 h => by have h : i = b3 := h; omega
      replace hc := hc.upd hu14 fun i h1 h2 h => by have h : i = b3 := h; omega
      replace hb := hb.upd hu14 fun i h1 h2 h => by have h : i = b3 := h; omega
      replace hU := hU.trans (hu14.mono fun i _ h => by have h : i = b3 := h; show n0 ≤ i; omega)
      replace hB1 := hB1.upd hu14 fun h => by have h : b1 = b3 := h; omega
      replace hB2 := hB2.upd hu14 fun h => by have h : b2 = b3 := h; omega
      replace hP2 := hP2.upd hu14 fun i h1 h2 h => by have h : i = b3 := h; omega
      replace hC2 := hC2.upd hu14 fun i h1 h2 h => by have h : i = b3 := h; omega
      replace hI2 := hI2.upd hu14 fun i h1 h2 h => by have h : i = b3 := h; omega
      replace hB9 := hB9.upd hu14 fun h => by have h : b9 = b3 := h; omega
      replace hB3 : Blk w14 b3 #[p_2, c_2, i_2, (.bool (off))] 26 := hb14
      refine L_op rfl (X_assign (v := (.int .i64 (e1))) rfl ?_)
      refine L_nil ?_
      refine T_n ?_
      refine W_ret ?_
      exact BQ_r (End_2 Try.results17 (RV_A A26 rfl hB3.atAll rfl) (v2 := .int .i64 e1) rfl ⟨_, _, _, by rw [he1], hP2.mono (by omega) (by omega), by unfold writeC; rw [← he1, if_neg (by omega)]; exact hC2.mono (by omega) (by omega), hI2.mono (by omega) (by omega), hU.own hn0⟩)

theorem tmod_lo {a : Int} {n : Nat} (h : 0 < n) : -(n : Int) < a.tmod n ∧ a.tmod n < n := by
  refine ⟨?_, Int.tmod_lt_of_pos a (by omega)⟩
  rcases Int.le_total 0 a with h1 | h1
  · have := Int.tmod_nonneg (n : Int) h1; omega
  · have h2 := Int.tmod_lt_of_pos (-a) (show (0 : Int) < n by omega)
    rw [Int.neg_tmod] at h2
    omega
theorem may_pw {np : Nat} {bs : List Int} (h : InB np bs bs.length) : bs.Pairwise (· < ·) := rise_pw fun j a b h1 h2 => (h (j + 1) b (List.getElem?_eq_some_iff.1 h2).1 h2).2.2 a (by omega) h1
theorem pw_may {np : Nat} {bs : List Int} (h : bs.Pairwise (· < ·)) (h2 : ∀ a ∈ bs, 0 ≤ a ∧ a < np) : InB np bs bs.length := fun j a _ ha => ⟨(h2 a (List.mem_of_getElem? ha)).1, (h2 a (List.mem_of_getElem? ha)).2, fun b h0 hb => by
  obtain ⟨h3, rfl⟩ := List.getElem?_eq_some_iff.1 ha
  obtain ⟨h4, rfl⟩ := List.getElem?_eq_some_iff.1 hb
  exact (List.pairwise_iff_getElem.1 h) _ _ _ _ (by omega)⟩
theorem keep_mem {bs : List Int} {n x : Int} : x ∈ keepI bs n ↔ x ∈ bs ∧ x ≠ n := by unfold keepI; rw [List.mem_filter]; simp
theorem read_bad {ps : List Pg} {bs : List Int} {n : Int} (hm : MayD ps.length [] bs false) (h0 : 0 ≤ n) (h1 : n < ps.length) (hb : n ∈ bs) : readE ps [] bs false n = (default, 31) := by
  rw [readE_ok (askE_ok hm h0 h1 rfl)]; exact readD_bad rfl hb
theorem read_page {ps : List Pg} {bs : List Int} {n : Int} {q : Pg} (hm : MayD ps.length [] bs false) (h0 : 0 ≤ n) (h1 : n < ps.length) (hb : n ∉ bs) (hq : ps[n.toNat]? = some q) : readE ps [] bs false n = (q, 0) := by
  rw [readE_ok (askE_ok hm h0 h1 rfl)]; exact readD_page rfl hb hq
theorem mayN {np : Nat} {bs : List Int} (h1 : 32 ≤ np) (h2 : np ≤ 256) (hb : InB np bs bs.length) : MayD np [] bs false := ⟨⟨h1, h2, Nat.zero_le _, fun h => by cases h⟩, fun j c hj => absurd hj (Nat.not_lt_zero j), hb⟩
theorem write_one {np : Nat} {bs : List Int} {n : Int} {p : Pg} (hm : MayD np [] bs false) (h0 : 0 ≤ n) (h1 : n < np) : wrE np [] bs false n = 0 ∧ writeC np [] bs false n p = [(n, p)] := by
  have h2 := askE_ok hm h0 h1 rfl
  have h3 : wrE np [] bs false n = 0 := (wrE_ask (fun h => absurd h.2 (by decide))).trans h2
  exact ⟨h3, if_pos h3⟩
theorem crash_one (ps : List Pg) (bs : List Int) (n : Int) (p : Pg) (y : UInt8) (h0 : 0 ≤ n) (h1 : n < ps.length) : (y.toNat % 3 = 0 → crSt ps bs [(n, p)] [y] 1 = (ps, bs)) ∧ (y.toNat % 3 ≠ 0 → ∃ q : Pg, crSt ps bs [(n, p)] [y] 1 = (ps.set n.toNat q, keepI bs n)) := by
  have hk : pkN [y] 0 = y.toNat % 3 := pkN_in rfl
  constructor
  · intro h
    exact crSt_skip (ps := ps) (bs := bs) (cs := [(n, p)]) (ls := [y]) (k := 0) (e := (n, p)) rfl (.inl (by rw [hk]; exact h))
  · intro h
    exact ⟨_, crSt_do (ps := ps) (bs := bs) (cs := [(n, p)]) (ls := [y]) (k := 0) (e := (n, p)) (qs := ps) (as_ := bs) rfl rfl rfl (by
      rw [hk]
      rintro (h | h | h)
      · exact absurd h (by assumption)
      · exact absurd (show n < 0 from h) (by omega)
      · exact absurd (show (ps.length : Int) ≤ n from h) (by omega)) rfl⟩

theorem pw_bound : ∀ {n : Nat} {bs : List Int}, bs.Pairwise (· < ·) → (∀ a ∈ bs, 0 ≤ a ∧ a < (n : Int)) → bs.length ≤ n
  | 0, [], _, _ => Nat.le_refl _
  | 0, a :: r, _, h => by have := h a List.mem_cons_self; omega
  | n + 1, bs, hp, h => by
    have h1 : (keepI bs n).length ≤ n := pw_bound (hp.filter _) fun a ha => by
      have h2 := keep_mem.1 ha
      have := h a h2.1
      omega
    have h3 : bs.length ≤ (keepI bs n).length + 1 := by
      have h4 : ∀ {l : List Int}, l.Pairwise (· < ·) → l.length ≤ (keepI l n).length + 1 := by
        intro l
        induction l with
        | nil => intro _; exact Nat.zero_le _
        | cons x r ih =>
          intro hl
          obtain ⟨l1, l2⟩ := List.pairwise_cons.1 hl
          by_cases hx : x = (n : Int)
          · have : keepI r n = r := keepI_all fun j a hj e => by have := l1 a (List.mem_of_getElem? hj); omega
            have e2 : keepI (x :: r) n = r := by
              unfold keepI
              rw [List.filter_cons_of_neg (by simpa using hx)]; exact this
            rw [e2]; exact Nat.le_refl _
          · have e2 : keepI (x :: r) n = x :: keepI r n := by
              unfold keepI
              rw [List.filter_cons_of_pos (by simpa using hx)]
            rw [e2]
            have := ih l2
            simp only [List.length_cons]; omega
      exact h4 hp
    omega

set_option maxRecDepth 10000 in
set_option maxHeartbeats 2000000 in
theorem c_flawBad (pv cv bv : Value) (ps : List Pg) (cs : List Wr) (bs : List Int) (off : Bool) (m : Int) (p : Pg) (y : UInt8) (w : World) (hp : NRd LP w 0 w.heap.size pv ps) (hc : NRd LW w 0 w.heap.size cv cs) (hb : NRd LI w 0 w.heap.size bv bs) : CT Try.prog 5 #[(.agg #[pv, cv, bv, (.bool (off))]), (.int .i64 (m)), (pageV p), (byteV y)] w fun v w' => v = .bool true ∧ Ext w w' := by
  obtain ⟨n0, hn0⟩ : ∃ n, n = w.heap.size := ⟨_, rfl⟩
  have hU : Upd (fun i => n0 ≤ i) w w := Upd.refl _ _
  have hpl := hp.sv.len
  have hcl := hc.sv.len
  have hbl := hb.sv.len
  rw [← hn0] at hp hc hb
  refine CT_of Try.func5 rfl rfl rfl ?_
  refine W_seq ?_
  refine W_reg ?_
  refine L_op rfl (X_box (v := (.agg #[pv, cv, bv, (.bool (off))])) (c := ([pv, cv, bv, (.bool (off))]).toArray) rfl rfl ?_)
  intro b1 w1 hn1
  have hbn1 := hn1.num; have hbs1 := hn1.size
  replace hp := hp.ext hn1.ext
  replace hc := hc.ext hn1.ext
  replace hb := hb.ext hn1.ext
  replace hU := hU.trans (Ext.upd hn1.ext)
  have hB1 := hn1.blk
  refine L_op rfl (X_box (v := (pageV p)) (c := ((p.1).map byteV).toArray) rfl rfl ?_)
  intro b2 w2 hn2
  have hbn2 := hn2.num; have hbs2 := hn2.size
  replace hp := hp.ext hn2.ext
  replace hc := hc.ext hn2.ext
  replace hb := hb.ext hn2.ext
  replace hU := hU.trans (Ext.upd hn2.ext)
  replace hB1 := hB1.ext hn2.ext
  have hB2 := hn2.blk
  refine L_op rfl (X_assign (v := (.bool (false))) rfl ?_)
  refine L_nil ?_
  refine T_n ?_
  refine W_seq ?_
  refine W_seq ?_
  refine W_reg ?_
  refine L_op rfl (X_loadA (p := (ptr b1 (0))) (xs := [pv, cv, bv, (.bool (off))]) A26 rfl hB1.atAll rfl ?_)
  refine L_op rfl (X_fn (vs := [(.agg ([pv, cv, bv, (.bool (off))]).toArray)]) en14 rfl (CT.mono (c_mayR pv cv bv ps cs bs off _ 0 n0 hp hc hb) ?_))
  rintro _ w3 ⟨⟨g_, rfl, hg_⟩, hu3⟩
  have hz3 := hu3.size
  replace hp := hp.ext hu3
  replace hc := hc.ext hu3
  replace hb := hb.ext hu3
  replace hU := hU.trans (Ext.upd hu3)
  replace hB1 := hB1.ext hu3
  replace hB2 := hB2.ext hu3
  rcases Bool.eq_false_or_eq_true (g_) with hc4 | hc4
  · rw [hc4]
    refine L_op rfl (X_not (b := true) (r := false) rfl rfl ?_)
    refine L_op rfl (X_move (v := (.bool (false))) rfl ?_)
    refine L_gy (dj := 24) rfl rfl rfl (X_fldP (b := b1) (o := 0) (r := 3) Fd26_3 rfl rfl ?_)
    rcases Bool.eq_false_or_eq_true off with ho5 | ho5
    · refine L_gy (dj := 24) rfl rfl rfl (X_load (p := (ptr b1 (3))) (v := .bool true) T4 rfl (hB1.at1 (by rw [ho5]; rfl)) ?_)
      refine L_op rfl (X_pick (t := false) (v := (.bool (true))) rfl rfl ?_)
      refine L_op rfl (X_move (v := (.bool (true))) rfl ?_)
      refine L_gn (dj := 28) (t := true) rfl rfl rfl rfl ?_
      refine L_gn (dj := 28) (t := true) rfl rfl rfl rfl ?_
      refine L_gn (dj := 28) (t := true) rfl rfl rfl rfl ?_
      refine L_gn (dj := 28) (t := true) rfl rfl rfl rfl ?_
      refine L_op rfl (X_pick (t := true) (v := (.bool (true))) rfl rfl ?_)
      refine L_nil ?_
      refine T_n ?_
      refine W_ct rfl ?_
      refine W_seq ?_
      refine W_reg ?_
      refine L_op rfl (X_fn (vs := []) en8 rfl (CT.mono (c_wakes4 _) ?_))
      rintro vb6 w6 ⟨hvb6, hu6⟩
      have hz6 := hu6.size
      replace hp := hp.ext hu6
      replace hc := hc.ext hu6
      replace hb := hb.ext hu6
      replace hU := hU.trans (Ext.upd hu6)
      replace hB1 := hB1.ext hu6
      replace hB2 := hB2.ext hu6
      subst hvb6
      refine L_op rfl (X_assign (v := (.bool (true))) rfl ?_)
      refine L_nil ?_
      refine T_n ?_
      refine W_ret ?_
      refine T_r ?_
      exact BQ_r (End_1 Try.results5 (v := .bool true) rfl ⟨rfl, hU.own hn0⟩)
    · refine L_gy (dj := 24) rfl rfl rfl (X_load (p := (ptr b1 (3))) (v := .bool false) T4 rfl (hB1.at1 (by rw [ho5]; rfl)) ?_)
      refine L_op rfl (X_pick (t := false) (v := (.bool (false))) rfl rfl ?_)
      refine L_op rfl (X_move (v := (.bool (false))) rfl ?_)
      refine L_gy (dj := 28) rfl rfl rfl (X_fldP (b := b1) (o := 0) (r := 1) Fd26_1 rfl rfl ?_)
      refine L_gy (dj := 28) rfl rfl rfl (X_load (p := (ptr b1 (1))) (v := cv) T23 rfl (hB1.at1 rfl) ?_)
      refine L_gy (dj := 28) rfl rfl rfl (X_len (v := cv) (n := cs.length) Try.underlying23 rfl hc.sv ?_)
      by_cases hc7 : (((cs.length : Nat) : Int) : Int) > (0)
      · refine L_gy (dj := 28) rfl rfl rfl (X_cmp (k := .i64) (a := ((cs.length : Nat) : Int)) (b := 0) (r := true) rfl rfl rfl (decide_eq_true (p := ((0) : Int) < ((((cs.length : Nat) : Int)) : Int)) (by omega)) ?_)
        refine L_op rfl (X_pick (t := false) (v := (.bool (true))) rfl rfl ?_)
        refine L_nil ?_
        refine T_n ?_
        refine W_ct rfl ?_
        refine W_seq ?_
        refine W_reg ?_
        refine L_op rfl (X_fn (vs := []) en8 rfl (CT.mono (c_wakes4 _) ?_))
        rintro vb8 w8 ⟨hvb8, hu8⟩
        have hz8 := hu8.size
        replace hp := hp.ext hu8
        replace hc := hc.ext hu8
        replace hb := hb.ext hu8
        replace hU := hU.trans (Ext.upd hu8)
        replace hB1 := hB1.ext hu8
        replace hB2 := hB2.ext hu8
        subst hvb8
        refine L_op rfl (X_assign (v := (.bool (true))) rfl ?_)
        refine L_nil ?_
        refine T_n ?_
        refine W_ret ?_
        refine T_r ?_
        exact BQ_r (End_1 Try.results5 (v := .bool true) rfl ⟨rfl, hU.own hn0⟩)
      · refine L_gy (dj := 28) rfl rfl rfl (X_cmp (k := .i64) (a := ((cs.length : Nat) : Int)) (b := 0) (r := false) rfl rfl rfl (decide_eq_false (p := ((0) : Int) < ((((cs.length : Nat) : Int)) : Int)) (by omega)) ?_)
        refine L_op rfl (X_pick (t := false) (v := (.bool (false))) rfl rfl ?_)
        refine L_nil ?_
        refine T_n ?_
        refine W_cf rfl ?_
        refine W_skip ?_
        refine T_n ?_
        refine W_seq ?_
        obtain ⟨⟨hN1, hN2, _, _⟩, _, hIB⟩ := hg_.1 hc4
        have hof := ho5
        subst hof
        have hcn : cs = [] := List.eq_nil_of_length_eq_zero (by omega)
        subst hcn
        have hpw := may_pw hIB
        have hbl2 : bs.length ≤ ps.length := by exact pw_bound hpw (fun a ha => by obtain ⟨j, hj, rfl⟩ := List.getElem_of_mem ha; have h := hIB j _ hj (List.getElem?_eq_getElem hj); omega)
        obtain ⟨q, hq⟩ : ∃ q, q = m.tmod ((ps.length : Nat) : Int) := ⟨_, rfl⟩
        have hql := tmod_lo (a := m) (n := ps.length) (by omega)
        rw [← hq] at hql
        obtain ⟨A, hA0⟩ : ∃ A : Nat, ((A : Nat) : Int) = (q + ((ps.length : Nat) : Int)) % ((ps.length : Nat) : Int) := ⟨((q + ((ps.length : Nat) : Int)) % ((ps.length : Nat) : Int)).toNat, Int.toNat_of_nonneg (Int.emod_nonneg _ (by omega))⟩
        have hAl : A < ps.length := by have h := Int.emod_lt_of_pos (q + ((ps.length : Nat) : Int)) (show (0 : Int) < ((ps.length : Nat) : Int) by omega); rw [← hA0] at h; omega
        have hin : ∀ a ∈ bs, 0 ≤ a ∧ a < (ps.length : Int) := fun a ha => by obtain ⟨j, hj, rfl⟩ := List.getElem_of_mem ha; have h := hIB j _ hj (List.getElem?_eq_getElem hj); omega
        refine W_draw 12 [[], [], [1], [1, 2], [0, 1, 2, 3], [], [5], [5, 6], [0, 1, 2, 3, 4, 5, 6, 7], [], [9], [9, 10], [0, 1, 2, 3, 4, 5, 6, 7, 8, 9, 10, 11], [0, 1, 2, 3, 4, 5, 6, 7, 8, 9, 10, 11, 12]] mixed (by kernel_rfl) ?_
        refine ⟨.det (fun val => (.int .i64 (m))), ⟨fun _ _ hv => rfl, fun _ _ _ _ _ => trivial⟩, fun val h_ W hx he => ⟨trivial, ?_⟩, ?_⟩
        · replace hx := (Upd.drew _ _).trans hx
          replace hp := hp.ext hx
          replace hc := hc.ext hx
          replace hb := hb.ext hx
          replace hB1 := hB1.ext hx
          replace hB2 := hB2.ext hx
          have hE := Upd.refl (fun _ => False) W
          refine id (X_move (v := (.int .i64 (m))) rfl ?_)
          exact ⟨hE, rfl⟩
        refine ⟨.det (fun val => (ptr b1 (0))), ⟨fun _ _ hv => rfl, fun _ _ _ _ _ => trivial⟩, fun val h_ W hx he => ⟨trivial, ?_⟩, ?_⟩
        · replace hx := (Upd.drew _ _).trans hx
          replace hp := hp.ext hx
          replace hc := hc.ext hx
          replace hb := hb.ext hx
          replace hB1 := hB1.ext hx
          replace hB2 := hB2.ext hx
          have hE := Upd.refl (fun _ => False) W
          refine id (X_fldP (b := b1) (o := 0) (r := 0) Fd26_0 rfl rfl ?_)
          exact ⟨hE, rfl⟩
        refine ⟨.det (fun val => pv), ⟨fun _ _ hv => rfl, fun _ _ _ _ _ => trivial⟩, fun val h_ W hx he => ⟨trivial, ?_⟩, ?_⟩
        · replace hx := (Upd.drew _ _).trans hx
          replace hp := hp.ext hx
          replace hc := hc.ext hx
          replace hb := hb.ext hx
          replace hB1 := hB1.ext hx
          replace hB2 := hB2.ext hx
          have hE := Upd.refl (fun _ => False) W
          refine id (X_load (p := (ptr b1 (0))) (v := pv) T22 rfl (hB1.at1 rfl) ?_)
          exact ⟨hE, rfl⟩
        refine ⟨.det (fun val => (.int .i64 (((ps.length : Nat) : Int)))), ⟨fun _ _ hv => rfl, fun _ _ _ _ _ => trivial⟩, fun val h_ W hx he => ⟨trivial, ?_⟩, ?_⟩
        · replace hx := (Upd.drew _ _).trans hx
          replace hp := hp.ext hx
          replace hc := hc.ext hx
          replace hb := hb.ext hx
          replace hB1 := hB1.ext hx
          replace hB2 := hB2.ext hx
          have hE := Upd.refl (fun _ => False) W
          refine id (X_len (v := pv) (n := ps.length) Try.underlying22 rfl hp.sv ?_)
          exact ⟨hE, rfl⟩
        refine ⟨.det (fun val => (.int .i64 (q))), ⟨fun _ _ hv => rfl, fun _ _ _ _ _ => trivial⟩, fun val h_ W hx he => ⟨trivial, ?_⟩, ?_⟩
        · replace hx := (Upd.drew _ _).trans hx
          replace hp := hp.ext hx
          replace hc := hc.ext hx
          replace hb := hb.ext hx
          replace hB1 := hB1.ext hx
          replace hB2 := hB2.ext hx
          have hE := Upd.refl (fun _ => False) W
          refine id (X_arith (k := .i64) (a := m) (b := ((ps.length : Nat) : Int)) (r := q) (decide_eq_true (by omega)) rfl rfl hq.symm ?_)
          exact ⟨hE, rfl⟩
        refine ⟨.det (fun val => (ptr b1 (0))), ⟨fun _ _ hv => rfl, fun _ _ _ _ _ => trivial⟩, fun val h_ W hx he => ⟨trivial, ?_⟩, ?_⟩
        · replace hx := (Upd.drew _ _).trans hx
          replace hp := hp.ext hx
          replace hc := hc.ext hx
          replace hb := hb.ext hx
          replace hB1 := hB1.ext hx
          replace hB2 := hB2.ext hx
          have hE := Upd.refl (fun _ => False) W
          refine id (X_fldP (b := b1) (o := 0) (r := 0) Fd26_0 rfl rfl ?_)
          exact ⟨hE, rfl⟩
        refine ⟨.det (fun val => pv), ⟨fun _ _ hv => rfl, fun _ _ _ _ _ => trivial⟩, fun val h_ W hx he => ⟨trivial, ?_⟩, ?_⟩
        · replace hx := (Upd.drew _ _).trans hx
          replace hp := hp.ext hx
          replace hc := hc.ext hx
          replace hb := hb.ext hx
          replace hB1 := hB1.ext hx
          replace hB2 := hB2.ext hx
          have hE := Upd.refl (fun _ => False) W
          refine id (X_load (p := (ptr b1 (0))) (v := pv) T22 rfl (hB1.at1 rfl) ?_)
          exact ⟨hE, rfl⟩
        refine ⟨.det (fun val => (.int .i64 (((ps.length : Nat) : Int)))), ⟨fun _ _ hv => rfl, fun _ _ _ _ _ => trivial⟩, fun val h_ W hx he => ⟨trivial, ?_⟩, ?_⟩
        · replace hx := (Upd.drew _ _).trans hx
          replace hp := hp.ext hx
          replace hc := hc.ext hx
          replace hb := hb.ext hx
          replace hB1 := hB1.ext hx
          replace hB2 := hB2.ext hx
          have hE := Upd.refl (fun _ => False) W
          refine id (X_len (v := pv) (n := ps.length) Try.underlying22 rfl hp.sv ?_)
          exact ⟨hE, rfl⟩
        refine ⟨.det (fun val => (.int .i64 (q + ((ps.length : Nat) : Int)))), ⟨fun _ _ hv => rfl, fun _ _ _ _ _ => trivial⟩, fun val h_ W hx he => ⟨trivial, ?_⟩, ?_⟩
        · replace hx := (Upd.drew _ _).trans hx
          replace hp := hp.ext hx
          replace hc := hc.ext hx
          replace hb := hb.ext hx
          replace hB1 := hB1.ext hx
          replace hB2 := hB2.ext hx
          have hE := Upd.refl (fun _ => False) W
          refine id (X_arith (k := .i64) (a := q) (b := ((ps.length : Nat) : Int)) (r := q + ((ps.length : Nat) : Int)) rfl rfl rfl (iadd64 rfl (by omega) (by omega)) ?_)
          exact ⟨hE, rfl⟩
        refine ⟨.det (fun val => (ptr b1 (0))), ⟨fun _ _ hv => rfl, fun _ _ _ _ _ => trivial⟩, fun val h_ W hx he => ⟨trivial, ?_⟩, ?_⟩
        · replace hx := (Upd.drew _ _).trans hx
          replace hp := hp.ext hx
          replace hc := hc.ext hx
          replace hb := hb.ext hx
          replace hB1 := hB1.ext hx
          replace hB2 := hB2.ext hx
          have hE := Upd.refl (fun _ => False) W
          refine id (X_fldP (b := b1) (o := 0) (r := 0) Fd26_0 rfl rfl ?_)
          exact ⟨hE, rfl⟩
        refine ⟨.det (fun val => pv), ⟨fun _ _ hv => rfl, fun _ _ _ _ _ => trivial⟩, fun val h_ W hx he => ⟨trivial, ?_⟩, ?_⟩
        · replace hx := (Upd.drew _ _).trans hx
          replace hp := hp.ext hx
          replace hc := hc.ext hx
          replace hb := hb.ext hx
          replace hB1 := hB1.ext hx
          replace hB2 := hB2.ext hx
          have hE := Upd.refl (fun _ => False) W
          refine id (X_load (p := (ptr b1 (0))) (v := pv) T22 rfl (hB1.at1 rfl) ?_)
          exact ⟨hE, rfl⟩
        refine ⟨.det (fun val => (.int .i64 (((ps.length : Nat) : Int)))), ⟨fun _ _ hv => rfl, fun _ _ _ _ _ => trivial⟩, fun val h_ W hx he => ⟨trivial, ?_⟩, ?_⟩
        · replace hx := (Upd.drew _ _).trans hx
          replace hp := hp.ext hx
          replace hc := hc.ext hx
          replace hb := hb.ext hx
          replace hB1 := hB1.ext hx
          replace hB2 := hB2.ext hx
          have hE := Upd.refl (fun _ => False) W
          refine id (X_len (v := pv) (n := ps.length) Try.underlying22 rfl hp.sv ?_)
          exact ⟨hE, rfl⟩
        intro val W9 hx9 he9
        replace hx9 := (Upd.drew _ _).trans hx9
        have hz9 := hx9.size
        replace hp := hp.ext hx9
        replace hc := hc.ext hx9
        replace hb := hb.ext hx9
        replace hU := hU.trans (Ext.upd hx9)
        replace hB1 := hB1.ext hx9
        replace hB2 := hB2.ext hx9
        refine L_op rfl (X_arith (k := .i64) (a := q + ((ps.length : Nat) : Int)) (b := ((ps.length : Nat) : Int)) (r := ((A : Nat) : Int)) (decide_eq_true (by omega)) rfl rfl (irem64 (by omega) hA0) ?_)
        refine L_op rfl (X_assign (v := (.int .i64 (((A : Nat) : Int)))) rfl ?_)
        refine L_nil ?_
        refine T_n ?_
        refine W_seq ?_
        refine W_reg ?_
        refine L_op rfl (X_loadA (p := (ptr b1 (0))) (xs := [pv, cv, bv, (.bool (false))]) A26 rfl hB1.atAll rfl ?_)
        refine L_op rfl (X_move (v := (.int .i64 (((A : Nat) : Int)))) rfl ?_)
        obtain ⟨s_s, hs_s⟩ : ∃ n, n = W9.heap.size := ⟨_, rfl⟩
        refine L_op rfl (X_fn (vs := [(.agg ([pv, cv, bv, (.bool (false))]).toArray), (.int .i64 (((A : Nat) : Int)))]) en15 rfl (CT.mono (c_spoil pv cv bv ps [] bs false ((A : Nat) : Int) _ 0 n0 (by omega) hp hc hb (by omega) (by decide) (by omega) hpw) ?_))
        rintro _ w10 ⟨p_s, c_s, i_s, q_s, e_s, rfl, hPs, hCs, hIs, hoks, _, hu10⟩
        have hz10 := hu10.size
        replace hp := hp.ext hu10
        replace hc := hc.ext hu10
        replace hb := hb.ext hu10
        replace hU := hU.trans (Ext.upd hu10)
        replace hB1 := hB1.ext hu10
        replace hB2 := hB2.ext hu10
        obtain ⟨u_s, hu_s⟩ : ∃ n, n = w10.heap.size := ⟨_, rfl⟩
        rw [← hs_s, ← hu_s] at hPs hCs hIs
        obtain ⟨h1_, hws, hms, hls⟩ := hoks ⟨by omega, by omega⟩
        subst h1_
        refine L_op rfl (X_move (v := (.tuple #[(.agg #[p_s, c_s, i_s, (.bool (false))]), (.int .i64 (0))])) rfl ?_)
        refine L_op rfl (X_extract (l := [(.agg #[p_s, c_s, i_s, (.bool (false))]), (.int .i64 (0))]) (v := (.agg #[p_s, c_s, i_s, (.bool (false))])) rfl rfl ?_)
        refine L_op rfl (X_extract (l := [(.agg #[p_s, c_s, i_s, (.bool (false))]), (.int .i64 (0))]) (v := (.int .i64 (0))) rfl rfl ?_)
        refine L_op rfl (X_alloc (z := (.agg #[(.slice none 0 0), (.slice none 0 0), (.slice none 0 0), (.bool (false))])) (c := #[(.slice none 0 0), (.slice none 0 0), (.slice none 0 0), (.bool (false))]) Zv26 rfl ?_)
        intro b11 w11 hn11
        have hbn11 := hn11.num; have hbs11 := hn11.size
        replace hp := hp.ext hn11.ext
        replace hc := hc.ext hn11.ext
        replace hb := hb.ext hn11.ext
        replace hU := hU.trans (Ext.upd hn11.ext)
        replace hB1 := hB1.ext hn11.ext
        replace hB2 := hB2.ext hn11.ext
        replace hPs := hPs.ext hn11.ext
        replace hCs := hCs.ext hn11.ext
        replace hIs := hIs.ext hn11.ext
        have hB11 := hn11.blk
        refine L_op0 (X_storeW (b := b11) (ys := [p_s, c_s, i_s, (.bool (false))]) A26 rfl rfl (List.forall_mem_cons.2 ⟨(hPs.1.sv.one), (List.forall_mem_cons.2 ⟨(hCs.1.sv.one), (List.forall_mem_cons.2 ⟨(hIs.1.sv.one), (List.forall_mem_cons.2 ⟨rfl, (fun _ h => by cases h)⟩)⟩)⟩)⟩) rfl hB11 rfl ?_)
        intro w12 hu12 hb12
        have hz12 := hu12.size
        replace hp := hp.upd hu12 fun i h1 h2 h => by have h : i = b11 := h; omega
        replace hc := hc.upd hu12 fun i h1 h2 h => by have h : i = b11 := h; omega
        replace hb := hb.upd hu12 fun i h1 h2 h => by have h : i = b11 := h; omega
        replace hU := hU.trans (hu12.mono fun i _ h => by have h : i = b11 := h; show n0 ≤ i; omega)
        replace hB1 := hB1.upd hu12 fun h => by have h : b1 = b11 := h; omega
        replace hB2 := hB2.upd hu12 fun h => by have h : b2 = b11 := h; omega
        replace hPs := hPs.upd hu12 fun i h1 h2 h => by have h : i = b11 := h; omega
        replace hCs := hCs.upd hu12 fun i h1 h2 h => by have h : i = b11 := h; omega
        replace hIs := hIs.upd hu12 fun i h1 h2 h => by have h : i = b11 := h; omega
        replace hB11 : Blk w12 b11 #[p_s, c_s, i_s, (.bool (false))] 26 := hb12
        refine L_op rfl (X_assign (v := (.int .i64 (0))) rfl ?_)
        refine L_nil ?_
        refine T_n ?_
        refine W_seq ?_
        refine W_reg ?_
        refine L_op rfl (X_loadA (p := (ptr b11 (0))) (xs := [p_s, c_s, i_s, (.bool (false))]) A26 rfl hB11.atAll rfl ?_)
        refine L_op rfl (X_move (v := (.int .i64 (((A : Nat) : Int)))) rfl ?_)
        obtain ⟨s_t, hs_t⟩ : ∃ n, n = w12.heap.size := ⟨_, rfl⟩
        refine L_op rfl (X_fn (vs := [(.agg ([p_s, c_s, i_s, (.bool (false))]).toArray), (.int .i64 (((A : Nat) : Int)))]) en15 rfl (CT.mono (c_spoil p_s c_s i_s ps [] q_s false ((A : Nat) : Int) _ s_s u_s (by omega) hPs.rd hCs.rd hIs.rd (by omega) (by decide) (by omega) hws) ?_))
        rintro _ w13 ⟨p_t, c_t, i_t, q_t, e_t, rfl, hPt, hCt, hIt, hokt, _, hu13⟩
        have hz13 := hu13.size
        replace hp := hp.ext hu13
        replace hc := hc.ext hu13
        replace hb := hb.ext hu13
        replace hU := hU.trans (Ext.upd hu13)
        replace hB1 := hB1.ext hu13
        replace hB2 := hB2.ext hu13
        replace hPs := hPs.ext hu13
        replace hCs := hCs.ext hu13
        replace hIs := hIs.ext hu13
        replace hB11 := hB11.ext hu13
        obtain ⟨u_t, hu_t⟩ : ∃ n, n = w13.heap.size := ⟨_, rfl⟩
        rw [← hs_t, ← hu_t] at hPt hCt hIt
        obtain ⟨h1_, hwt, hmt, hlt⟩ := hokt ⟨by omega, by omega⟩
        subst h1_
        refine L_op rfl (X_move (v := (.tuple #[(.agg #[p_t, c_t, i_t, (.bool (false))]), (.int .i64 (0))])) rfl ?_)
        refine L_op rfl (X_extract (l := [(.agg #[p_t, c_t, i_t, (.bool (false))]), (.int .i64 (0))]) (v := (.agg #[p_t, c_t, i_t, (.bool (false))])) rfl rfl ?_)
        refine L_op rfl (X_extract (l := [(.agg #[p_t, c_t, i_t, (.bool (false))]), (.int .i64 (0))]) (v := (.int .i64 (0))) rfl rfl ?_)
        refine L_op rfl (X_alloc (z := (.agg #[(.slice none 0 0), (.slice none 0 0), (.slice none 0 0), (.bool (false))])) (c := #[(.slice none 0 0), (.slice none 0 0), (.slice none 0 0), (.bool (false))]) Zv26 rfl ?_)
        intro b14 w14 hn14
        have hbn14 := hn14.num; have hbs14 := hn14.size
        replace hp := hp.ext hn14.ext
        replace hc := hc.ext hn14.ext
        replace hb := hb.ext hn14.ext
        replace hU := hU.trans (Ext.upd hn14.ext)
        replace hB1 := hB1.ext hn14.ext
        replace hB2 := hB2.ext hn14.ext
        replace hPs := hPs.ext hn14.ext
        replace hCs := hCs.ext hn14.ext
        replace hIs := hIs.ext hn14.ext
        replace hB11 := hB11.ext hn14.ext
        replace hPt := hPt.ext hn14.ext
        replace hCt := hCt.ext hn14.ext
        replace hIt := hIt.ext hn14.ext
        have hB14 := hn14.blk
        refine L_op0 (X_storeW (b := b14) (ys := [p_t, c_t, i_t, (.bool (false))]) A26 rfl rfl (List.forall_mem_cons.2 ⟨(hPt.1.sv.one), (List.forall_mem_cons.2 ⟨(hCt.1.sv.one), (List.forall_mem_cons.2 ⟨(hIt.1.sv.one), (List.forall_mem_cons.2 ⟨rfl, (fun _ h => by cases h)⟩)⟩)⟩)⟩) rfl hB14 rfl ?_)
        intro w15 hu15 hb15
        have hz15 := hu15.size
        replace hp := hp.upd hu15 fun i h1 h2 h => by have h : i = b14 := h; omega
        replace hc := hc.upd hu15 fun i h1 h2 h => by have h : i = b14 := h; omega
        replace hb := hb.upd hu15 fun i h1 h2 h => by have h : i = b14 := h; omega
        replace hU := hU.trans (hu15.mono fun i _ h => by have h : i = b14 := h; show n0 ≤ i; omega)
        replace hB1 := hB1.upd hu15 fun h => by have h : b1 = b14 := h; omega
        replace hB2 := hB2.upd hu15 fun h => by have h : b2 = b14 := h; omega
        replace hPs := hPs.upd hu15 fun i h1 h2 h => by have h : i = b14 := h; omega
        replace hCs := hCs.upd hu15 fun i h1 h2 h => by have h : i = b14 := h; omega
        replace hIs := hIs.upd hu15 fun i h1 h2 h => by have h : i = b14 := h; omega
        replace hB11 := hB11.upd hu15 fun h => by have h : b11 = b14 := h; omega
        replace hPt := hPt.upd hu15 fun i h1 h2 h => by have h : i = b14 := h; omega
        replace hCt := hCt.upd hu15 fun i h1 h2 h => by have h : i = b14 := h; omega
        replace hIt := hIt.upd hu15 fun i h1 h2 h => by have h : i = b14 := h; omega
        replace hB14 : Blk w15 b14 #[p_t, c_t, i_t, (.bool (false))] 26 := hb15
        refine L_op rfl (X_assign (v := (.int .i64 (0))) rfl ?_)
        refine L_nil ?_
        refine T_n ?_
        refine W_seq ?_
        refine W_seq ?_
        have hst : q_s = q_t := incr_ext hws hwt fun y => ⟨fun h => (hmt y).2 (.inl h), fun h => ((hmt y).1 h).elim id fun h => (hms y).2 (.inr h)⟩
        refine W_reg ?_
        refine L_op rfl (X_move (v := (.int .i64 (0))) rfl ?_)
        refine L_op rfl (X_cmp (k := .i64) (a := 0) (b := 0) (r := false) rfl rfl rfl rfl ?_)
        refine L_op rfl (X_move (v := (.bool (false))) rfl ?_)
        refine L_gy (dj := 62) rfl rfl rfl (X_move (v := (.int .i64 (0))) rfl ?_)
        refine L_gy (dj := 62) rfl rfl rfl (X_cmp (k := .i64) (a := 0) (b := 0) (r := false) rfl rfl rfl rfl ?_)
        refine L_op rfl (X_pick (t := false) (v := (.bool (false))) rfl rfl ?_)
        refine L_op rfl (X_move (v := (.bool (false))) rfl ?_)
        refine L_gy (dj := 66) rfl rfl rfl (X_loadA (p := (ptr b11 (0))) (xs := [p_s, c_s, i_s, (.bool (false))]) A26 rfl hB11.atAll rfl ?_)
        refine L_gy (dj := 66) rfl rfl rfl (X_loadA (p := (ptr b14 (0))) (xs := [p_t, c_t, i_t, (.bool (false))]) A26 rfl hB14.atAll rfl ?_)
        refine L_gy (dj := 66) rfl rfl rfl (X_fn (vs := [(.agg ([p_s, c_s, i_s, (.bool (false))]).toArray), (.agg ([p_t, c_t, i_t, (.bool (false))]).toArray)]) en11 rfl (CT.mono (c_same4 p_s c_s i_s ps [] q_s false p_t c_t i_t ps [] q_t false _ s_s u_s s_t u_t hPs.rd hCs.rd hIs.rd hPt.rd hCt.rd hIt.rd) ?_))
        rintro _ w16 ⟨⟨g16, rfl, hg16⟩, hu16⟩
        have hz16 := hu16.size
        replace hp := hp.ext hu16
        replace hc := hc.ext hu16
        replace hb := hb.ext hu16
        replace hU := hU.trans (Ext.upd hu16)
        replace hB1 := hB1.ext hu16
        replace hB2 := hB2.ext hu16
        replace hPs := hPs.ext hu16
        replace hCs := hCs.ext hu16
        replace hIs := hIs.ext hu16
        replace hB11 := hB11.ext hu16
        replace hPt := hPt.ext hu16
        replace hCt := hCt.ext hu16
        replace hIt := hIt.ext hu16
        replace hB14 := hB14.ext hu16
        obtain rfl : g16 = true := hg16.2 ⟨rfl, rfl, hst, rfl⟩
        refine L_gy (dj := 66) rfl rfl rfl (X_not (b := true) (r := false) rfl rfl ?_)
        refine L_op rfl (X_pick (t := false) (v := (.bool (false))) rfl rfl ?_)
        refine L_nil ?_
        refine T_n ?_
        refine W_cf rfl ?_
        refine W_skip ?_
        refine T_n ?_
        refine W_seq ?_
        refine W_seq ?_
        refine W_reg ?_
        refine L_op rfl (X_assign (v := (.int .i64 (1))) rfl ?_)
        refine L_nil ?_
        refine T_n ?_
        refine W_block ?_
        have hbSl0 := hB11.lt; have hbPl0 := hB2.lt
        refine W_loop (α := Nat) [8, 13, 72, 73, 74, 75, 76, 77, 78, 79, 80, 81, 82, 83, 84, 85, 86, 87, 88, 89, 90] (fun i => [(13, (.int .i64 (((i : Nat) : Int))))]) (fun i w_ => 1 ≤ i ∧ NOwn LP w_ 33 5 s_s u_s p_s ps ∧ NOwn LW w_ 35 5 s_s u_s c_s ([] : List Wr) ∧ NOwn LI w_ 3 5 s_s u_s i_s q_s ∧ Blk w_ b11 #[p_s, c_s, i_s, .bool false] 26 ∧ Blk w_ b2 (p.1.map byteV).toArray 33 ∧ Upd (fun i => n0 ≤ i) w w_ ∧ u_s ≤ w_.heap.size) (fun i => q_s.length - i) ⟨rfl, 1, ⟨Nat.le_refl _, hPs, hCs, hIs, hB11, hB2, hU, by omega⟩, Out.refl _ _, ⟨rfl, trivial⟩⟩ ?_
        rintro i w17 _ ⟨hi1, hPs, hCs, hIs, hB11, hB2, hU, husw⟩
        have hsz_ := hU.size
        have hbSl := hB11.lt; have hbPl := hB2.lt
        refine W_seq ?_
        refine W_seq ?_
        refine W_reg ?_
        refine L_op rfl (X_move (v := (.int .i64 (((i : Nat) : Int)))) rfl ?_)
        refine L_op rfl (X_fldP (b := b11) (o := 0) (r := 2) Fd26_2 rfl rfl ?_)
        refine L_op rfl (X_load (p := (ptr b11 (2))) (v := i_s) T24 rfl (hB11.at1 rfl) ?_)
        refine L_op rfl (X_len (v := i_s) (n := (q_s).length) Try.underlying24 rfl hIs.1.sv ?_)
        by_cases hc18 : (((i : Nat) : Int) : Int) < ((((q_s).length : Nat) : Int))
        · refine L_op rfl (X_cmp (k := .i64) (a := ((i : Nat) : Int)) (b := (((q_s).length : Nat) : Int)) (r := true) rfl rfl rfl (decide_eq_true (p := ((((i : Nat) : Int)) : Int) < (((((q_s).length : Nat) : Int)) : Int)) (by omega)) ?_)
          have hi : i < q_s.length := by omega
          obtain ⟨a, hai⟩ : ∃ a, q_s[i - 1]? = some a := ⟨_, List.getElem?_eq_getElem (by omega)⟩
          obtain ⟨b, hbi⟩ : ∃ b, q_s[i]? = some b := ⟨_, List.getElem?_eq_getElem hi⟩
          have hab := pw_next hws hai hbi (by omega)
          refine L_nil ?_
          refine T_n ?_
          refine W_ct rfl ?_
          refine W_skip ?_
          refine T_n ?_
          refine W_seq ?_
          refine W_block ?_
          refine W_seq ?_
          refine W_draw 11 [[], [0], [], [2], [0, 1, 2, 3], [0, 1, 2, 3, 4], [], [6], [], [6, 7, 8], [6, 7, 8, 9], [0, 1, 2, 3, 4, 5, 6, 7, 8, 9, 10]] mixed (by kernel_rfl) ?_
          refine ⟨.det (fun val => (ptr b11 (2))), ⟨fun _ _ hv => rfl, fun _ _ _ _ _ => trivial⟩, fun val h_ W hx he => ⟨trivial, ?_⟩, ?_⟩
          · replace hx := (Upd.drew _ _).trans hx
            replace hPs := hPs.ext hx
            replace hCs := hCs.ext hx
            replace hIs := hIs.ext hx
            replace hB11 := hB11.ext hx
            replace hB2 := hB2.ext hx
            have hE := Upd.refl (fun _ => False) W
            refine id (X_fldP (b := b11) (o := 0) (r := 2) Fd26_2 rfl rfl ?_)
            exact ⟨hE, rfl⟩
          refine ⟨.det (fun val => i_s), ⟨fun _ _ hv => rfl, fun _ _ _ _ _ => trivial⟩, fun val h_ W hx he => ⟨trivial, ?_⟩, ?_⟩
          · replace hx := (Upd.drew _ _).trans hx
            replace hPs := hPs.ext hx
            replace hCs := hCs.ext hx
            replace hIs := hIs.ext hx
            replace hB11 := hB11.ext hx
            replace hB2 := hB2.ext hx
            have hE := Upd.refl (fun _ => False) W
            refine id (X_load (p := (ptr b11 (2))) (v := i_s) T24 rfl (hB11.at1 rfl) ?_)
            exact ⟨hE, rfl⟩
          refine ⟨.det (fun val => (.int .i64 (((i : Nat) : Int)))), ⟨fun _ _ hv => rfl, fun _ _ _ _ _ => trivial⟩, fun val h_ W hx he => ⟨trivial, ?_⟩, ?_⟩
          · replace hx := (Upd.drew _ _).trans hx
            replace hPs := hPs.ext hx
            replace hCs := hCs.ext hx
            replace hIs := hIs.ext hx
            replace hB11 := hB11.ext hx
            replace hB2 := hB2.ext hx
            have hE := Upd.refl (fun _ => False) W
            refine id (X_move (v := (.int .i64 (((i : Nat) : Int)))) rfl ?_)
            exact ⟨hE, rfl⟩
          refine ⟨.det (fun val => (.int .i64 (((i - 1 : Nat) : Int)))), ⟨fun _ _ hv => rfl, fun _ _ _ _ _ => trivial⟩, fun val h_ W hx he => ⟨trivial, ?_⟩, ?_⟩
          · replace hx := (Upd.drew _ _).trans hx
            replace hPs := hPs.ext hx
            replace hCs := hCs.ext hx
            replace hIs := hIs.ext hx
            replace hB11 := hB11.ext hx
            replace hB2 := hB2.ext hx
            have hE := Upd.refl (fun _ => False) W
            refine id (X_arith (k := .i64) (a := ((i : Nat) : Int)) (b := 1) (r := ((i - 1 : Nat) : Int)) rfl rfl rfl (isub64 (by omega) (by omega) (by omega)) ?_)
            exact ⟨hE, rfl⟩
          refine ⟨.det (fun val => (pof i_s ((((i - 1 : Nat) : Int) : Int).toNat * 1))), ⟨fun _ _ hv => rfl, fun _ _ _ _ _ => trivial⟩, fun val h_ W hx he => ⟨trivial, ?_⟩, ?_⟩
          · replace hx := (Upd.drew _ _).trans hx
            replace hPs := hPs.ext hx
            replace hCs := hCs.ext hx
            replace hIs := hIs.ext hx
            replace hB11 := hB11.ext hx
            replace hB2 := hB2.ext hx
            have hE := Upd.refl (fun _ => False) W
            refine id (X_idx (v := i_s) (n := (q_s).length) (k := .i64) (i := ((i - 1 : Nat) : Int)) S24 rfl hIs.1.sv rfl (by omega) (by omega) ?_)
            exact ⟨hE, rfl⟩
          refine ⟨.det (fun val => (.int .i64 (a))), ⟨fun _ _ hv => rfl, fun _ _ _ _ _ => trivial⟩, fun val h_ W hx he => ⟨trivial, ?_⟩, ?_⟩
          · replace hx := (Upd.drew _ _).trans hx
            replace hPs := hPs.ext hx
            replace hCs := hCs.ext hx
            replace hIs := hIs.ext hx
            replace hB11 := hB11.ext hx
            replace hB2 := hB2.ext hx
            have hE := Upd.refl (fun _ => False) W
            refine id (X_load (v := .int .i64 a) T3 rfl (iat hIs.rd (Int.toNat_natCast _) hai) ?_)
            exact ⟨hE, rfl⟩
          refine ⟨.det (fun val => (ptr b11 (2))), ⟨fun _ _ hv => rfl, fun _ _ _ _ _ => trivial⟩, fun val h_ W hx he => ⟨trivial, ?_⟩, ?_⟩
          · replace hx := (Upd.drew _ _).trans hx
            replace hPs := hPs.ext hx
            replace hCs := hCs.ext hx
            replace hIs := hIs.ext hx
            replace hB11 := hB11.ext hx
            replace hB2 := hB2.ext hx
            have hE := Upd.refl (fun _ => False) W
            refine id (X_fldP (b := b11) (o := 0) (r := 2) Fd26_2 rfl rfl ?_)
            exact ⟨hE, rfl⟩
          refine ⟨.det (fun val => i_s), ⟨fun _ _ hv => rfl, fun _ _ _ _ _ => trivial⟩, fun val h_ W hx he => ⟨trivial, ?_⟩, ?_⟩
          · replace hx := (Upd.drew _ _).trans hx
            replace hPs := hPs.ext hx
            replace hCs := hCs.ext hx
            replace hIs := hIs.ext hx
            replace hB11 := hB11.ext hx
            replace hB2 := hB2.ext hx
            have hE := Upd.refl (fun _ => False) W
            refine id (X_load (p := (ptr b11 (2))) (v := i_s) T24 rfl (hB11.at1 rfl) ?_)
            exact ⟨hE, rfl⟩
          refine ⟨.det (fun val => (.int .i64 (((i : Nat) : Int)))), ⟨fun _ _ hv => rfl, fun _ _ _ _ _ => trivial⟩, fun val h_ W hx he => ⟨trivial, ?_⟩, ?_⟩
          · replace hx := (Upd.drew _ _).trans hx
            replace hPs := hPs.ext hx
            replace hCs := hCs.ext hx
            replace hIs := hIs.ext hx
            replace hB11 := hB11.ext hx
            replace hB2 := hB2.ext hx
            have hE := Upd.refl (fun _ => False) W
            refine id (X_move (v := (.int .i64 (((i : Nat) : Int)))) rfl ?_)
            exact ⟨hE, rfl⟩
          refine ⟨.det (fun val => (pof i_s ((((i : Nat) : Int) : Int).toNat * 1))), ⟨fun _ _ hv => rfl, fun _ _ _ _ _ => trivial⟩, fun val h_ W hx he => ⟨trivial, ?_⟩, ?_⟩
          · replace hx := (Upd.drew _ _).trans hx
            replace hPs := hPs.ext hx
            replace hCs := hCs.ext hx
            replace hIs := hIs.ext hx
            replace hB11 := hB11.ext hx
            replace hB2 := hB2.ext hx
            have hE := Upd.refl (fun _ => False) W
            refine id (X_idx (v := i_s) (n := (q_s).length) (k := .i64) (i := ((i : Nat) : Int)) S24 rfl hIs.1.sv rfl (by omega) (by omega) ?_)
            exact ⟨hE, rfl⟩
          refine ⟨.det (fun val => (.int .i64 (b))), ⟨fun _ _ hv => rfl, fun _ _ _ _ _ => trivial⟩, fun val h_ W hx he => ⟨trivial, ?_⟩, ?_⟩
          · replace hx := (Upd.drew _ _).trans hx
            replace hPs := hPs.ext hx
            replace hCs := hCs.ext hx
            replace hIs := hIs.ext hx
            replace hB11 := hB11.ext hx
            replace hB2 := hB2.ext hx
            have hE := Upd.refl (fun _ => False) W
            refine id (X_load (v := .int .i64 b) T3 rfl (iat hIs.rd (Int.toNat_natCast _) hbi) ?_)
            exact ⟨hE, rfl⟩
          intro val W19 hx19 he19
          replace hx19 := (Upd.drew _ _).trans hx19
          have hz19 := hx19.size
          replace hPs := hPs.ext hx19
          replace hCs := hCs.ext hx19
          replace hIs := hIs.ext hx19
          replace hB11 := hB11.ext hx19
          replace hB2 := hB2.ext hx19
          replace hU := hU.trans (Ext.upd hx19)
          refine L_op rfl (X_cmp (k := .i64) (a := a) (b := b) (r := false) rfl rfl rfl (decide_eq_false (p := ((b) : Int) ≤ ((a) : Int)) (by omega)) ?_)
          refine L_nil ?_
          refine T_n ?_
          refine W_cf rfl ?_
          refine W_skip ?_
          refine B_n ?_
          refine T_n ?_
          refine W_reg ?_
          refine L_op rfl (X_move (v := (.int .i64 (((i : Nat) : Int)))) rfl ?_)
          refine L_op rfl (X_arith (k := .i64) (a := ((i : Nat) : Int)) (b := 1) (r := ((i + 1 : Nat) : Int)) rfl rfl rfl (iadd64 (by omega) (by omega) (by omega)) ?_)
          refine L_op rfl (X_assign (v := (.int .i64 (((i + 1 : Nat) : Int)))) rfl ?_)
          refine L_nil ?_
          refine T_n ?_
          exact ⟨rfl, i + 1, ⟨⟨by omega, hPs, hCs, hIs, hB11, hB2, hU, by omega⟩, (by show q_s.length - (i + 1) < q_s.length - i; omega)⟩, (Out.mk rfl), ⟨rfl, trivial⟩⟩
        · refine L_op rfl (X_cmp (k := .i64) (a := ((i : Nat) : Int)) (b := (((q_s).length : Nat) : Int)) (r := false) rfl rfl rfl (decide_eq_false (p := ((((i : Nat) : Int)) : Int) < (((((q_s).length : Nat) : Int)) : Int)) (by omega)) ?_)
          have hinS : ∀ a ∈ q_s, 0 ≤ a ∧ a < (ps.length : Int) := fun a ha => ((hms a).1 ha).elim (hin a) fun h => by omega
          have hmS := mayN (np := ps.length) hN1 hN2 (pw_may hws hinS)
          have hAS : ((A : Nat) : Int) ∈ q_s := (hms _).2 (.inr rfl)
          have hre := read_bad hmS (by omega) (by omega) hAS
          have hwo := write_one (p := p) hmS (show (0 : Int) ≤ ((A : Nat) : Int) by omega) (by omega)
          have hcr := crash_one ps q_s ((A : Nat) : Int) p y (by omega) (by omega)
          refine L_nil ?_
          refine T_n ?_
          refine W_cf rfl ?_
          refine W_exit ?_
          refine T_e ?_
          refine T_e ?_
          refine B_x ?_
          refine T_n ?_
          refine W_seq ?_
          refine W_reg ?_
          refine L_op rfl (X_loadA (p := (ptr b11 (0))) (xs := [p_s, c_s, i_s, (.bool (false))]) A26 rfl hB11.atAll rfl ?_)
          refine L_op rfl (X_move (v := (.int .i64 (((A : Nat) : Int)))) rfl ?_)
          refine L_op rfl (X_fn (vs := [(.agg ([p_s, c_s, i_s, (.bool (false))]).toArray), (.int .i64 (((A : Nat) : Int)))]) en16 rfl (CT.mono (c_readR p_s c_s i_s ps [] q_s false ((A : Nat) : Int) _ s_s u_s (by omega) hPs.rd hCs.rd hIs.rd) ?_))
          rintro _ w20 ⟨rfl, hu20⟩
          have hz20 := hu20.size
          replace hPs := hPs.ext hu20
          replace hCs := hCs.ext hu20
          replace hIs := hIs.ext hu20
          replace hB11 := hB11.ext hu20
          replace hB2 := hB2.ext hu20
          replace hU := hU.trans (Ext.upd hu20)
          rw [hre]
          refine L_op rfl (X_move (v := (.tuple #[(pageV (default : Pg)), (.int .i64 (31))])) rfl ?_)
          refine L_op rfl (X_extract (l := [(pageV (default : Pg)), (.int .i64 (31))]) (v := (pageV (default : Pg))) rfl rfl ?_)
          refine L_op rfl (X_extract (l := [(pageV (default : Pg)), (.int .i64 (31))]) (v := (.int .i64 (31))) rfl rfl ?_)
          refine L_op rfl (X_alloc (z := zv33) (c := zc33.toArray) Zv33 rfl ?_)
          intro b21 w21 hn21
          have hbn21 := hn21.num; have hbs21 := hn21.size
          replace hPs := hPs.ext hn21.ext
          replace hCs := hCs.ext hn21.ext
          replace hIs := hIs.ext hn21.ext
          replace hB11 := hB11.ext hn21.ext
          replace hB2 := hB2.ext hn21.ext
          replace hU := hU.trans (Ext.upd hn21.ext)
          have hB21 := hn21.blk
          rw [zc33_eq] at hB21
          refine L_op0 (X_storeW (b := b21) (ys := (((default : Pg).1).map byteV)) A33 rfl rfl (byteV_one _) (by rw [List.length_map]; exact (default : Pg).2) hB21 (by rw [List.size_toArray]; exact (by rw [List.length_map]; exact List.length_replicate)) ?_)
          intro w22 hu22 hb22
          have hz22 := hu22.size
          replace hPs := hPs.upd hu22 fun i h1 h2 h => by have h : i = b21 := h; omega
          replace hCs := hCs.upd hu22 fun i h1 h2 h => by have h : i = b21 := h; omega
          replace hIs := hIs.upd hu22 fun i h1 h2 h => by have h : i = b21 := h; omega
          replace hB11 := hB11.upd hu22 fun h => by have h : b11 = b21 := h; omega
          replace hB2 := hB2.upd hu22 fun h => by have h : b2 = b21 := h; omega
          replace hU := hU.trans (hu22.mono fun i _ h => by have h : i = b21 := h; show n0 ≤ i; omega)
          replace hB21 := hb22
          refine L_op rfl (X_assign (v := (.int .i64 (31))) rfl ?_)
          refine L_nil ?_
          refine T_n ?_
          refine W_seq ?_
          refine W_reg ?_
          refine L_op rfl (X_loadA (p := (ptr b11 (0))) (xs := [p_s, c_s, i_s, (.bool (false))]) A26 rfl hB11.atAll rfl ?_)
          refine L_op rfl (X_move (v := (.int .i64 (((A : Nat) : Int)))) rfl ?_)
          refine L_op rfl (X_loadA (p := (ptr b2 (0))) (xs := ((p.1).map byteV)) A33 rfl hB2.atAll (by rw [List.length_map]; exact p.2) ?_)
          obtain ⟨s_w, hs_w⟩ : ∃ n, n = w22.heap.size := ⟨_, rfl⟩
          refine L_op rfl (X_fn (vs := [(.agg ([p_s, c_s, i_s, (.bool (false))]).toArray), (.int .i64 (((A : Nat) : Int))), (.agg (((p.1).map byteV)).toArray)]) en17 rfl (CT.mono (c_writeR p_s c_s i_s ps [] q_s false ((A : Nat) : Int) p _ s_s u_s (by omega) hPs.rd hCs.rd hIs.rd (by omega) (by decide) (by omega)) ?_))
          rintro _ w23 ⟨p_w, c_w, i_w, rfl, hPw, hCw, hIw, hu23⟩
          have hz23 := hu23.size
          replace hPs := hPs.ext hu23
          replace hCs := hCs.ext hu23
          replace hIs := hIs.ext hu23
          replace hB11 := hB11.ext hu23
          replace hB2 := hB2.ext hu23
          replace hU := hU.trans (Ext.upd hu23)
          replace hB21 := hB21.ext hu23
          rw [hwo.1]
          rw [hwo.2] at hCw
          obtain ⟨u_w, hu_w⟩ : ∃ n, n = w23.heap.size := ⟨_, rfl⟩
          rw [← hs_w, ← hu_w] at hPw hCw hIw
          refine L_op rfl (X_move (v := (.tuple #[(.agg #[p_w, c_w, i_w, (.bool (false))]), (.int .i64 (0))])) rfl ?_)
          refine L_op rfl (X_extract (l := [(.agg #[p_w, c_w, i_w, (.bool (false))]), (.int .i64 (0))]) (v := (.agg #[p_w, c_w, i_w, (.bool (false))])) rfl rfl ?_)
          refine L_op rfl (X_extract (l := [(.agg #[p_w, c_w, i_w, (.bool (false))]), (.int .i64 (0))]) (v := (.int .i64 (0))) rfl rfl ?_)
          refine L_op rfl (X_alloc (z := (.agg #[(.slice none 0 0), (.slice none 0 0), (.slice none 0 0), (.bool (false))])) (c := #[(.slice none 0 0), (.slice none 0 0), (.slice none 0 0), (.bool (false))]) Zv26 rfl ?_)
          intro b24 w24 hn24
          have hbn24 := hn24.num; have hbs24 := hn24.size
          replace hPs := hPs.ext hn24.ext
          replace hCs := hCs.ext hn24.ext
          replace hIs := hIs.ext hn24.ext
          replace hB11 := hB11.ext hn24.ext
          replace hB2 := hB2.ext hn24.ext
          replace hU := hU.trans (Ext.upd hn24.ext)
          replace hB21 := hB21.ext hn24.ext
          replace hPw := hPw.ext hn24.ext
          replace hCw := hCw.ext hn24.ext
          replace hIw := hIw.ext hn24.ext
          have hB24 := hn24.blk
          refine L_op0 (X_storeW (b := b24) (ys := [p_w, c_w, i_w, (.bool (false))]) A26 rfl rfl (List.forall_mem_cons.2 ⟨(hPw.1.sv.one), (List.forall_mem_cons.2 ⟨(hCw.1.sv.one), (List.forall_mem_cons.2 ⟨(hIw.1.sv.one), (List.forall_mem_cons.2 ⟨rfl, (fun _ h => by cases h)⟩)⟩)⟩)⟩) rfl hB24 rfl ?_)
          intro w25 hu25 hb25
          have hz25 := hu25.size
          replace hPs := hPs.upd hu25 fun i h1 h2 h => by have h : i = b24 := h; omega
          replace hCs := hCs.upd hu25 fun i h1 h2 h => by have h : i = b24 := h; omega
          replace hIs := hIs.upd hu25 fun i h1 h2 h => by have h : i = b24 := h; omega
          replace hB11 := hB11.upd hu25 fun h => by have h : b11 = b24 := h; omega
          replace hB2 := hB2.upd hu25 fun h => by have h : b2 = b24 := h; omega
          replace hU := hU.trans (hu25.mono fun i _ h => by have h : i = b24 := h; show n0 ≤ i; omega)
          replace hB21 := hB21.upd hu25 fun h => by have h : b21 = b24 := h; omega
          replace hPw := hPw.upd hu25 fun i h1 h2 h => by have h : i = b24 := h; omega
          replace hCw := hCw.upd hu25 fun i h1 h2 h => by have h : i = b24 := h; omega
          replace hIw := hIw.upd hu25 fun i h1 h2 h => by have h : i = b24 := h; omega
          replace hB24 : Blk w25 b24 #[p_w, c_w, i_w, (.bool (false))] 26 := hb25
          refine L_op rfl (X_assign (v := (.int .i64 (0))) rfl ?_)
          refine L_nil ?_
          refine T_n ?_
          refine W_seq ?_
          refine W_reg ?_
          rcases Nat.eq_zero_or_pos (y.toNat % 3) with h3 | h3
          · have hcs := hcr.1 h3
            obtain ⟨qs, hqs⟩ : ∃ x, x = ps := ⟨_, rfl⟩
            obtain ⟨as_, has⟩ : ∃ x, x = q_s := ⟨_, rfl⟩
            have hql2 : ps.length = ps.length := rfl
            refine L_op rfl (X_loadA (p := (ptr b24 (0))) (xs := [p_w, c_w, i_w, (.bool (false))]) A26 rfl hB24.atAll rfl ?_)
            refine L_op rfl (X_move (v := (byteV y)) rfl ?_)
            refine L_op rfl (X_buildSlice1 (vs := [(byteV y)]) S27 (by decide) rfl rfl (List.forall_mem_cons.2 ⟨rfl, (fun _ h => by cases h)⟩) ?_)
            intro b26 w26 hn26
            have hbn26 := hn26.num; have hbs26 := hn26.size
            replace hPs := hPs.ext hn26.ext
            replace hCs := hCs.ext hn26.ext
            replace hIs := hIs.ext hn26.ext
            replace hB11 := hB11.ext hn26.ext
            replace hB2 := hB2.ext hn26.ext
            replace hU := hU.trans (Ext.upd hn26.ext)
            replace hB21 := hB21.ext hn26.ext
            replace hPw := hPw.ext hn26.ext
            replace hCw := hCw.ext hn26.ext
            replace hIw := hIw.ext hn26.ext
            replace hB24 := hB24.ext hn26.ext
            have hB26 := hn26.blk
            have hlr : Rd w26 1 (.slice (some ⟨b26, 0, none⟩) 1 1) ([y]).length ([y].map byteV) := hB26.rd (o := 0) (n := 1) (c := 1) (sz := 1) (by decide) (by decide) rfl (fun j u hj => by rw [Nat.zero_add]; simpa [byteV] using hj)
            obtain ⟨s_x, hs_x⟩ : ∃ n, n = w26.heap.size := ⟨_, rfl⟩
            have hcr_ := c_crash p_w c_w i_w ps [(((A : Nat) : Int), p)] q_s false (.slice (some ⟨b26, 0, none⟩) 1 1) [y] w26 s_w u_w (by omega) hPw.rd hCw.rd hIw.rd hlr (by omega) (by show (1 : Nat) ≤ 1048576; decide) (by omega)
            refine L_op rfl (X_fn (vs := [(.agg ([p_w, c_w, i_w, (.bool (false))]).toArray), (.slice (some ⟨b26, 0, none⟩) 1 1)]) en9 rfl ?_)
            refine CT.mono hcr_ ?_
            clear hcr_
            rintro _ w27 ⟨p_x, i_x, rfl, hPx, hIx, hu27⟩
            have hz27 := hu27.size
            replace hPs := hPs.ext hu27
            replace hCs := hCs.ext hu27
            replace hIs := hIs.ext hu27
            replace hB11 := hB11.ext hu27
            replace hB2 := hB2.ext hu27
            replace hU := hU.trans (Ext.upd hu27)
            replace hB21 := hB21.ext hu27
            replace hPw := hPw.ext hu27
            replace hCw := hCw.ext hu27
            replace hIw := hIw.ext hu27
            replace hB24 := hB24.ext hu27
            replace hB26 := hB26.ext hu27
            rw [show ([(((A : Nat) : Int), p)] : List Wr).length = 1 from rfl, hcs] at hPx hIx
            obtain ⟨u_x, hu_x⟩ : ∃ n, n = w27.heap.size := ⟨_, rfl⟩
            rw [← hs_x, ← hu_x] at hPx hIx
            replace hPx : NOwn LP w27 33 5 s_x u_x p_x ps := hPx
            replace hIx : NOwn LI w27 3 5 s_x u_x i_x q_s := hIx
            refine L_op rfl (X_alloc (z := (.agg #[(.slice none 0 0), (.slice none 0 0), (.slice none 0 0), (.bool (false))])) (c := #[(.slice none 0 0), (.slice none 0 0), (.slice none 0 0), (.bool (false))]) Zv26 rfl ?_)
            intro b28 w28 hn28
            have hbn28 := hn28.num; have hbs28 := hn28.size
            replace hPs := hPs.ext hn28.ext
            replace hCs := hCs.ext hn28.ext
            replace hIs := hIs.ext hn28.ext
            replace hB11 := hB11.ext hn28.ext
            replace hB2 := hB2.ext hn28.ext
            replace hU := hU.trans (Ext.upd hn28.ext)
            replace hB21 := hB21.ext hn28.ext
            replace hPw := hPw.ext hn28.ext
            replace hCw := hCw.ext hn28.ext
            replace hIw := hIw.ext hn28.ext
            replace hB24 := hB24.ext hn28.ext
            replace hB26 := hB26.ext hn28.ext
            replace hPx := hPx.ext hn28.ext
            replace hIx := hIx.ext hn28.ext
            have hB28 := hn28.blk
            refine L_op0 (X_storeW (b := b28) (ys := [p_x, (.slice none 0 0), i_x, (.bool (false))]) A26 rfl rfl (List.forall_mem_cons.2 ⟨(hPx.1.sv.one), (List.forall_mem_cons.2 ⟨rfl, (List.forall_mem_cons.2 ⟨(hIx.1.sv.one), (List.forall_mem_cons.2 ⟨rfl, (fun _ h => by cases h)⟩)⟩)⟩)⟩) rfl hB28 rfl ?_)
            intro w29 hu29 hb29
            have hz29 := hu29.size
            replace hPs := hPs.upd hu29 fun i h1 h2 h => by have h : i = b28 := h; omega
            replace hCs := hCs.upd hu29 fun i h1 h2 h => by have h : i = b28 := h; omega
            replace hIs := hIs.upd hu29 fun i h1 h2 h => by have h : i = b28 := h; omega
            replace hB11 := hB11.upd hu29 fun h => by have h : b11 = b28 := h; omega
            replace hB2 := hB2.upd hu29 fun h => by have h : b2 = b28 := h; omega
            replace hU := hU.trans (hu29.mono fun i _ h => by have h : i = b28 := h; show n0 ≤ i; omega)
            replace hB21 := hB21.upd hu29 fun h => by have h : b21 = b28 := h; omega
            replace hPw := hPw.upd hu29 fun i h1 h2 h => by have h : i = b28 := h; omega
            replace hCw := hCw.upd hu29 fun i h1 h2 h => by have h : i = b28 := h; omega
            replace hIw := hIw.upd hu29 fun i h1 h2 h => by have h : i = b28 := h; omega
            replace hB24 := hB24.upd hu29 fun h => by have h : b24 = b28 := h; omega
            replace hB26 := hB26.upd hu29 fun h => by have h : b26 = b28 := h; omega
            replace hPx := hPx.upd hu29 fun i h1 h2 h => by have h : i = b28 := h; omega
            replace hIx := hIx.upd hu29 fun i h1 h2 h => by have h : i = b28 := h; omega
            replace hB28 : Blk w29 b28 #[p_x, (.slice none 0 0), i_x, (.bool (false))] 26 := hb29
            refine L_nil ?_
            refine T_n ?_
            refine W_seq ?_
            refine W_reg ?_
            refine L_op rfl (X_loadA (p := (ptr b28 (0))) (xs := [p_x, (.slice none 0 0), i_x, (.bool (false))]) A26 rfl hB28.atAll rfl ?_)
            refine L_op rfl (X_move (v := (.int .i64 (((A : Nat) : Int)))) rfl ?_)
            refine L_op rfl (X_fn (vs := [(.agg ([p_x, (.slice none 0 0), i_x, (.bool (false))]).toArray), (.int .i64 (((A : Nat) : Int)))]) en16 rfl (CT.mono (c_readR p_x (.slice none 0 0) i_x ps [] q_s false ((A : Nat) : Int) _ s_x u_x (by omega) hPx.rd (NRd.nil _ _ _) hIx.rd) ?_))
            rintro _ w30 ⟨rfl, hu30⟩
            have hz30 := hu30.size
            replace hPs := hPs.ext hu30
            replace hCs := hCs.ext hu30
            replace hIs := hIs.ext hu30
            replace hB11 := hB11.ext hu30
            replace hB2 := hB2.ext hu30
            replace hU := hU.trans (Ext.upd hu30)
            replace hB21 := hB21.ext hu30
            replace hPw := hPw.ext hu30
            replace hCw := hCw.ext hu30
            replace hIw := hIw.ext hu30
            replace hB24 := hB24.ext hu30
            replace hB26 := hB26.ext hu30
            replace hPx := hPx.ext hu30
            replace hIx := hIx.ext hu30
            replace hB28 := hB28.ext hu30
            rw [hre]
            refine L_op rfl (X_move (v := (.tuple #[(pageV (default : Pg)), (.int .i64 (31))])) rfl ?_)
            refine L_op rfl (X_extract (l := [(pageV (default : Pg)), (.int .i64 (31))]) (v := (pageV (default : Pg))) rfl rfl ?_)
            refine L_op rfl (X_extract (l := [(pageV (default : Pg)), (.int .i64 (31))]) (v := (.int .i64 (31))) rfl rfl ?_)
            refine L_op rfl (X_alloc (z := zv33) (c := zc33.toArray) Zv33 rfl ?_)
            intro b31 w31 hn31
            have hbn31 := hn31.num; have hbs31 := hn31.size
            replace hPs := hPs.ext hn31.ext
            replace hCs := hCs.ext hn31.ext
            replace hIs := hIs.ext hn31.ext
            replace hB11 := hB11.ext hn31.ext
            replace hB2 := hB2.ext hn31.ext
            replace hU := hU.trans (Ext.upd hn31.ext)
            replace hB21 := hB21.ext hn31.ext
            replace hPw := hPw.ext hn31.ext
            replace hCw := hCw.ext hn31.ext
            replace hIw := hIw.ext hn31.ext
            replace hB24 := hB24.ext hn31.ext
            replace hB26 := hB26.ext hn31.ext
            replace hPx := hPx.ext hn31.ext
            replace hIx := hIx.ext hn31.ext
            replace hB28 := hB28.ext hn31.ext
            have hB31 := hn31.blk
            rw [zc33_eq] at hB31
            refine L_op0 (X_storeW (b := b31) (ys := (((default : Pg).1).map byteV)) A33 rfl rfl (byteV_one _) (by rw [List.length_map]; exact (default : Pg).2) hB31 (by rw [List.size_toArray]; exact (by rw [List.length_map]; exact List.length_replicate)) ?_)
            intro w32 hu32 hb32
            have hz32 := hu32.size
            replace hPs := hPs.upd hu32 fun i h1 h2 h => by have h : i = b31 := h; omega
            replace hCs := hCs.upd hu32 fun i h1 h2 h => by have h : i = b31 := h; omega
            replace hIs := hIs.upd hu32 fun i h1 h2 h => by have h : i = b31 := h; omega
            replace hB11 := hB11.upd hu32 fun h => by have h : b11 = b31 := h; omega
            replace hB2 := hB2.upd hu32 fun h => by have h : b2 = b31 := h; omega
            replace hU := hU.trans (hu32.mono fun i _ h => by have h : i = b31 := h; show n0 ≤ i; omega)
            replace hB21 := hB21.upd hu32 fun h => by have h : b21 = b31 := h; omega
            replace hPw := hPw.upd hu32 fun i h1 h2 h => by have h : i = b31 := h; omega
            replace hCw := hCw.upd hu32 fun i h1 h2 h => by have h : i = b31 := h; omega
            replace hIw := hIw.upd hu32 fun i h1 h2 h => by have h : i = b31 := h; omega
            replace hB24 := hB24.upd hu32 fun h => by have h : b24 = b31 := h; omega
            replace hB26 := hB26.upd hu32 fun h => by have h : b26 = b31 := h; omega
            replace hPx := hPx.upd hu32 fun i h1 h2 h => by have h : i = b31 := h; omega
            replace hIx := hIx.upd hu32 fun i h1 h2 h => by have h : i = b31 := h; omega
            replace hB28 := hB28.upd hu32 fun h => by have h : b28 = b31 := h; omega
            replace hB31 := hb32
            refine L_op rfl (X_assign (v := (.int .i64 (31))) rfl ?_)
            refine L_nil ?_
            refine T_n ?_
            refine W_seq ?_
            refine W_reg ?_
            refine L_op rfl (X_move (v := (.int .i64 (31))) rfl ?_)
            refine L_op rfl (X_cmp (k := .i64) (a := 31) (b := 31) (r := true) rfl rfl rfl rfl ?_)
            refine L_op rfl (X_move (v := (.bool (true))) rfl ?_)
            refine L_gy (dj := 116) rfl rfl rfl (X_move (v := (.int .i64 (0))) rfl ?_)
            refine L_gy (dj := 116) rfl rfl rfl (X_cmp (k := .i64) (a := 0) (b := 0) (r := true) rfl rfl rfl rfl ?_)
            refine L_op rfl (X_pick (t := true) (v := (.bool (true))) rfl rfl ?_)
            refine L_op rfl (X_move (v := (.bool (true))) rfl ?_)
            refine L_gy (dj := 120) rfl rfl rfl (X_move (v := (.int .i64 (31))) rfl ?_)
            refine L_gy (dj := 120) rfl rfl rfl (X_cmp (k := .i64) (a := 31) (b := 0) (r := false) rfl rfl rfl rfl ?_)
            refine L_gy (dj := 120) rfl rfl rfl (X_move (v := (byteV y)) rfl ?_)
            refine L_gy (dj := 120) rfl rfl rfl (X_arith (k := .u8) (a := ((y.toNat : Nat) : Int)) (b := 3) (r := ((y.toNat % 3 : Nat) : Int)) rfl rfl rfl (u8_rem y 3) ?_)
            refine L_gy (dj := 120) rfl rfl rfl (X_cmp (k := .u8) (a := ((y.toNat % 3 : Nat) : Int)) (b := 0) (r := false) rfl rfl rfl (decide_eq_false (p := (((y.toNat % 3 : Nat) : Int) ≠ 0)) (by omega)) ?_)
            refine L_gy (dj := 120) rfl rfl rfl (X_cmpBool (a := false) (b := false) (r := true) Try.underlying4 rfl rfl (.inl ⟨rfl, rfl⟩) ?_)
            refine L_op rfl (X_pick (t := true) (v := (.bool (true))) rfl rfl ?_)
            refine L_op rfl (X_move (v := (.bool (true))) rfl ?_)
            refine L_gy (dj := 128) rfl rfl rfl (X_fn (vs := []) en8 rfl (CT.mono (c_wakes4 _) ?_))
            rintro vb33 w33 ⟨hvb33, hu33⟩
            have hz33 := hu33.size
            replace hPs := hPs.ext hu33
            replace hCs := hCs.ext hu33
            replace hIs := hIs.ext hu33
            replace hB11 := hB11.ext hu33
            replace hB2 := hB2.ext hu33
            replace hU := hU.trans (Ext.upd hu33)
            replace hB21 := hB21.ext hu33
            replace hPw := hPw.ext hu33
            replace hCw := hCw.ext hu33
            replace hIw := hIw.ext hu33
            replace hB24 := hB24.ext hu33
            replace hB26 := hB26.ext hu33
            replace hPx := hPx.ext hu33
            replace hIx := hIx.ext hu33
            replace hB28 := hB28.ext hu33
            replace hB31 := hB31.ext hu33
            subst hvb33
            refine L_op rfl (X_pick (t := true) (v := (.bool (true))) rfl rfl ?_)
            refine L_op rfl (X_assign (v := (.bool (true))) rfl ?_)
            refine L_nil ?_
            refine T_n ?_
            refine W_ret ?_
            exact BQ_r (End_1 Try.results5 (v := .bool true) rfl ⟨rfl, hU.own hn0⟩)
          · obtain ⟨qz, hcs⟩ := hcr.2 (by omega)
            refine L_op rfl (X_loadA (p := (ptr b24 (0))) (xs := [p_w, c_w, i_w, (.bool (false))]) A26 rfl hB24.atAll rfl ?_)
            refine L_op rfl (X_move (v := (byteV y)) rfl ?_)
            refine L_op rfl (X_buildSlice1 (vs := [(byteV y)]) S27 (by decide) rfl rfl (List.forall_mem_cons.2 ⟨rfl, (fun _ h => by cases h)⟩) ?_)
            intro b34 w34 hn34
            have hbn34 := hn34.num; have hbs34 := hn34.size
            replace hPs := hPs.ext hn34.ext
            replace hCs := hCs.ext hn34.ext
            replace hIs := hIs.ext hn34.ext
            replace hB11 := hB11.ext hn34.ext
            replace hB2 := hB2.ext hn34.ext
            replace hU := hU.trans (Ext.upd hn34.ext)
            replace hB21 := hB21.ext hn34.ext
            replace hPw := hPw.ext hn34.ext
            replace hCw := hCw.ext hn34.ext
            replace hIw := hIw.ext hn34.ext
            replace hB24 := hB24.ext hn34.ext
            have hB34 := hn34.blk
            have hlr : Rd w34 1 (.slice (some ⟨b34, 0, none⟩) 1 1) ([y]).length ([y].map byteV) := hB34.rd (o := 0) (n := 1) (c := 1) (sz := 1) (by decide) (by decide) rfl (fun j u hj => by rw [Nat.zero_add]; simpa [byteV] using hj)
            obtain ⟨s_x, hs_x⟩ : ∃ n, n = w34.heap.size := ⟨_, rfl⟩
            have hcr_ := c_crash p_w c_w i_w ps [(((A : Nat) : Int), p)] q_s false (.slice (some ⟨b34, 0, none⟩) 1 1) [y] w34 s_w u_w (by omega) hPw.rd hCw.rd hIw.rd hlr (by omega) (by show (1 : Nat) ≤ 1048576; decide) (by omega)
            refine L_op rfl (X_fn (vs := [(.agg ([p_w, c_w, i_w, (.bool (false))]).toArray), (.slice (some ⟨b34, 0, none⟩) 1 1)]) en9 rfl ?_)
            refine CT.mono hcr_ ?_
            clear hcr_
            rintro _ w35 ⟨p_x, i_x, rfl, hPx, hIx, hu35⟩
            have hz35 := hu35.size
            replace hPs := hPs.ext hu35
            replace hCs := hCs.ext hu35
            replace hIs := hIs.ext hu35
            replace hB11 := hB11.ext hu35
            replace hB2 := hB2.ext hu35
            replace hU := hU.trans (Ext.upd hu35)
            replace hB21 := hB21.ext hu35
            replace hPw := hPw.ext hu35
            replace hCw := hCw.ext hu35
            replace hIw := hIw.ext hu35
            replace hB24 := hB24.ext hu35
            replace hB34 := hB34.ext hu35
            rw [show ([(((A : Nat) : Int), p)] : List Wr).length = 1 from rfl, hcs] at hPx hIx
            obtain ⟨u_x, hu_x⟩ : ∃ n, n = w35.heap.size := ⟨_, rfl⟩
            rw [← hs_x, ← hu_x] at hPx hIx
            replace hPx : NOwn LP w35 33 5 s_x u_x p_x (ps.set (((A : Nat) : Int)).toNat qz) := hPx
            replace hIx : NOwn LI w35 3 5 s_x u_x i_x (keepI q_s ((A : Nat) : Int)) := hIx
            have hlz : (ps.set (((A : Nat) : Int)).toNat qz).length = ps.length := List.length_set
            have hmX := mayN (np := (ps.set (((A : Nat) : Int)).toNat qz).length) (bs := keepI q_s ((A : Nat) : Int)) (by omega) (by omega) (pw_may (hws.filter _) fun a ha => by have h := hinS a (keep_mem.1 ha).1; omega)
            have hre2 := read_page hmX (show (0 : Int) ≤ ((A : Nat) : Int) by omega) (by omega) (fun h => (keep_mem.1 h).2 rfl) (List.getElem?_set_self (by omega))
            refine L_op rfl (X_alloc (z := (.agg #[(.slice none 0 0), (.slice none 0 0), (.slice none 0 0), (.bool (false))])) (c := #[(.slice none 0 0), (.slice none 0 0), (.slice none 0 0), (.bool (false))]) Zv26 rfl ?_)
            intro b36 w36 hn36
            have hbn36 := hn36.num; have hbs36 := hn36.size
            replace hPs := hPs.ext hn36.ext
            replace hCs := hCs.ext hn36.ext
            replace hIs := hIs.ext hn36.ext
            replace hB11 := hB11.ext hn36.ext
            replace hB2 := hB2.ext hn36.ext
            replace hU := hU.trans (Ext.upd hn36.ext)
            replace hB21 := hB21.ext hn36.ext
            replace hPw := hPw.ext hn36.ext
            replace hCw := hCw.ext hn36.ext
            replace hIw := hIw.ext hn36.ext
            replace hB24 := hB24.ext hn36.ext
            replace hB34 := hB34.ext hn36.ext
            replace hPx := hPx.ext hn36.ext
            replace hIx := hIx.ext hn36.ext
            have hB36 := hn36.blk
            refine L_op0 (X_storeW (b := b36) (ys := [p_x, (.slice none 0 0), i_x, (.bool (false))]) A26 rfl rfl (List.forall_mem_cons.2 ⟨(hPx.1.sv.one), (List.forall_mem_cons.2 ⟨rfl, (List.forall_mem_cons.2 ⟨(hIx.1.sv.one), (List.forall_mem_cons.2 ⟨rfl, (fun _ h => by cases h)⟩)⟩)⟩)⟩) rfl hB36 rfl ?_)
            intro w37 hu37 hb37
            have hz37 := hu37.size
            replace hPs := hPs.upd hu37 fun i h1 h2 h => by have h : i = b36 := h; omega
            replace hCs := hCs.upd hu37 fun i h1 h2 h => by have h : i = b36 := h; omega
            replace hIs := hIs.upd hu37 fun i h1 h2 h => by have h : i = b36 := h; omega
            replace hB11 := hB11.upd hu37 fun h => by have h : b11 = b36 := h; omega
            replace hB2 := hB2.upd hu37 fun h => by have h : b2 = b36 := h; omega
            replace hU := hU.trans (hu37.mono fun i _ h => by have h : i = b36 := h; show n0 ≤ i; omega)
            replace hB21 := hB21.upd hu37 fun h => by have h : b21 = b36 := h; omega
            replace hPw := hPw.upd hu37 fun i h1 h2 h => by have h : i = b36 := h; omega
            replace hCw := hCw.upd hu37 fun i h1 h2 h => by have h : i = b36 := h; omega
            replace hIw := hIw.upd hu37 fun i h1 h2 h => by have h : i = b36 := h; omega
            replace hB24 := hB24.upd hu37 fun h => by have h : b24 = b36 := h; omega
            replace hB34 := hB34.upd hu37 fun h => by have h : b34 = b36 := h; omega
            replace hPx := hPx.upd hu37 fun i h1 h2 h => by have h : i = b36 := h; omega
            replace hIx := hIx.upd hu37 fun i h1 h2 h => by have h : i = b36 := h; omega
            replace hB36 : Blk w37 b36 #[p_x, (.slice none 0 0), i_x, (.bool (false))] 26 := hb37
            refine L_nil ?_
            refine T_n ?_
            refine W_seq ?_
            refine W_reg ?_
            refine L_op rfl (X_loadA (p := (ptr b36 (0))) (xs := [p_x, (.slice none 0 0), i_x, (.bool (false))]) A26 rfl hB36.atAll rfl ?_)
            refine L_op rfl (X_move (v := (.int .i64 (((A : Nat) : Int)))) rfl ?_)
            refine L_op rfl (X_fn (vs := [(.agg ([p_x, (.slice none 0 0), i_x, (.bool (false))]).toArray), (.int .i64 (((A : Nat) : Int)))]) en16 rfl (CT.mono (c_readR p_x (.slice none 0 0) i_x (ps.set (((A : Nat) : Int)).toNat qz) [] (keepI q_s ((A : Nat) : Int)) false ((A : Nat) : Int) _ s_x u_x (by omega) hPx.rd (NRd.nil _ _ _) hIx.rd) ?_))
            rintro _ w38 ⟨rfl, hu38⟩
            have hz38 := hu38.size
            replace hPs := hPs.ext hu38
            replace hCs := hCs.ext hu38
            replace hIs := hIs.ext hu38
            replace hB11 := hB11.ext hu38
            replace hB2 := hB2.ext hu38
            replace hU := hU.trans (Ext.upd hu38)
            replace hB21 := hB21.ext hu38
            replace hPw := hPw.ext hu38
            replace hCw := hCw.ext hu38
            replace hIw := hIw.ext hu38
            replace hB24 := hB24.ext hu38
            replace hB34 := hB34.ext hu38
            replace hPx := hPx.ext hu38
            replace hIx := hIx.ext hu38
            replace hB36 := hB36.ext hu38
            rw [hre2]
            refine L_op rfl (X_move (v := (.tuple #[(pageV qz), (.int .i64 (0))])) rfl ?_)
            refine L_op rfl (X_extract (l := [(pageV qz), (.int .i64 (0))]) (v := (pageV qz)) rfl rfl ?_)
            refine L_op rfl (X_extract (l := [(pageV qz), (.int .i64 (0))]) (v := (.int .i64 (0))) rfl rfl ?_)
            refine L_op rfl (X_alloc (z := zv33) (c := zc33.toArray) Zv33 rfl ?_)
            intro b39 w39 hn39
            have hbn39 := hn39.num; have hbs39 := hn39.size
            replace hPs := hPs.ext hn39.ext
            replace hCs := hCs.ext hn39.ext
            replace hIs := hIs.ext hn39.ext
            replace hB11 := hB11.ext hn39.ext
            replace hB2 := hB2.ext hn39.ext
            replace hU := hU.trans (Ext.upd hn39.ext)
            replace hB21 := hB21.ext hn39.ext
            replace hPw := hPw.ext hn39.ext
            replace hCw := hCw.ext hn39.ext
            replace hIw := hIw.ext hn39.ext
            replace hB24 := hB24.ext hn39.ext
            replace hB34 := hB34.ext hn39.ext
            replace hPx := hPx.ext hn39.ext
            replace hIx := hIx.ext hn39.ext
            replace hB36 := hB36.ext hn39.ext
            have hB39 := hn39.blk
            rw [zc33_eq] at hB39
            refine L_op0 (X_storeW (b := b39) (ys := ((qz.1).map byteV)) A33 rfl rfl (byteV_one _) (by rw [List.length_map]; exact qz.2) hB39 (by rw [List.size_toArray]; exact (by rw [List.length_map]; exact List.length_replicate)) ?_)
            intro w40 hu40 hb40
            have hz40 := hu40.size
            replace hPs := hPs.upd hu40 fun i h1 h2 h => by have h : i = b39 := h; omega
            replace hCs := hCs.upd hu40 fun i h1 h2 h => by have h : i = b39 := h; omega
            replace hIs := hIs.upd hu40 fun i h1 h2 h => by have h : i = b39 := h; omega
            replace hB11 := hB11.upd hu40 fun h => by have h : b11 = b39 := h; omega
            replace hB2 := hB2.upd hu40 fun h => by have h : b2 = b39 := h; omega
            replace hU := hU.trans (hu40.mono fun i _ h => by have h : i = b39 := h; show n0 ≤ i; omega)
            replace hB21 := hB21.upd hu40 fun h => by have h : b21 = b39 := h; omega
            replace hPw := hPw.upd hu40 fun i h1 h2 h => by have h : i = b39 := h; omega
            replace hCw := hCw.upd hu40 fun i h1 h2 h => by have h : i = b39 := h; omega
            replace hIw := hIw.upd hu40 fun i h1 h2 h => by have h : i = b39 := h; omega
            replace hB24 := hB24.upd hu40 fun h => by have h : b24 = b39 := h; omega
            replace hB34 := hB34.upd hu40 fun h => by have h : b34 = b39 := h; omega
            replace hPx := hPx.upd hu40 fun i h1 h2 h => by have h : i = b39 := h; omega
            replace hIx := hIx.upd hu40 fun i h1 h2 h => by have h : i = b39 := h; omega
            replace hB36 := hB36.upd hu40 fun h => by have h : b36 = b39 := h; omega
            replace hB39 := hb40
            refine L_op rfl (X_assign (v := (.int .i64 (0))) rfl ?_)
            refine L_nil ?_
            refine T_n ?_
            refine W_seq ?_
            refine W_reg ?_
            refine L_op rfl (X_move (v := (.int .i64 (31))) rfl ?_)
            refine L_op rfl (X_cmp (k := .i64) (a := 31) (b := 31) (r := true) rfl rfl rfl rfl ?_)
            refine L_op rfl (X_move (v := (.bool (true))) rfl ?_)
            refine L_gy (dj := 116) rfl rfl rfl (X_move (v := (.int .i64 (0))) rfl ?_)
            refine L_gy (dj := 116) rfl rfl rfl (X_cmp (k := .i64) (a := 0) (b := 0) (r := true) rfl rfl rfl rfl ?_)
            refine L_op rfl (X_pick (t := true) (v := (.bool (true))) rfl rfl ?_)
            refine L_op rfl (X_move (v := (.bool (true))) rfl ?_)
            refine L_gy (dj := 120) rfl rfl rfl (X_move (v := (.int .i64 (0))) rfl ?_)
            refine L_gy (dj := 120) rfl rfl rfl (X_cmp (k := .i64) (a := 0) (b := 0) (r := true) rfl rfl rfl rfl ?_)
            refine L_gy (dj := 120) rfl rfl rfl (X_move (v := (byteV y)) rfl ?_)
            refine L_gy (dj := 120) rfl rfl rfl (X_arith (k := .u8) (a := ((y.toNat : Nat) : Int)) (b := 3) (r := ((y.toNat % 3 : Nat) : Int)) rfl rfl rfl (u8_rem y 3) ?_)
            refine L_gy (dj := 120) rfl rfl rfl (X_cmp (k := .u8) (a := ((y.toNat % 3 : Nat) : Int)) (b := 0) (r := true) rfl rfl rfl (decide_eq_true (p := (((y.toNat % 3 : Nat) : Int) ≠ 0)) (by omega)) ?_)
            refine L_gy (dj := 120) rfl rfl rfl (X_cmpBool (a := true) (b := true) (r := true) Try.underlying4 rfl rfl (.inl ⟨rfl, rfl⟩) ?_)
            refine L_op rfl (X_pick (t := true) (v := (.bool (true))) rfl rfl ?_)
            refine L_op rfl (X_move (v := (.bool (true))) rfl ?_)
            refine L_gy (dj := 128) rfl rfl rfl (X_fn (vs := []) en8 rfl (CT.mono (c_wakes4 _) ?_))
            rintro vb41 w41 ⟨hvb41, hu41⟩
            have hz41 := hu41.size
            replace hPs := hPs.ext hu41
            replace hCs := hCs.ext hu41
            replace hIs := hIs.ext hu41
            replace hB11 := hB11.ext hu41
            replace hB2 := hB2.ext hu41
            replace hU := hU.trans (Ext.upd hu41)
            replace hB21 := hB21.ext hu41
            replace hPw := hPw.ext hu41
            replace hCw := hCw.ext hu41
            replace hIw := hIw.ext hu41
            replace hB24 := hB24.ext hu41
            replace hB34 := hB34.ext hu41
            replace hPx := hPx.ext hu41
            replace hIx := hIx.ext hu41
            replace hB36 := hB36.ext hu41
            replace hB39 := hB39.ext hu41
            subst hvb41
            refine L_op rfl (X_pick (t := true) (v := (.bool (true))) rfl rfl ?_)
            refine L_op rfl (X_assign (v := (.bool (true))) rfl ?_)
            refine L_nil ?_
            refine T_n ?_
            refine W_ret ?_
            exact BQ_r (End_1 Try.results5 (v := .bool true) rfl ⟨rfl, hU.own hn0⟩)
  · rw [hc4]
    refine L_op rfl (X_not (b := false) (r := true) rfl rfl ?_)
    refine L_op rfl (X_move (v := (.bool (true))) rfl ?_)
    refine L_gn (dj := 24) (t := true) rfl rfl rfl rfl ?_
    refine L_gn (dj := 24) (t := true) rfl rfl rfl rfl ?_
    refine L_op rfl (X_pick (t := true) (v := (.bool (true))) rfl rfl ?_)
    refine L_op rfl (X_move (v := (.bool (true))) rfl ?_)
    refine L_gn (dj := 28) (t := true) rfl rfl rfl rfl ?_
    refine L_gn (dj := 28) (t := true) rfl rfl rfl rfl ?_
    refine L_gn (dj := 28) (t := true) rfl rfl rfl rfl ?_
    refine L_gn (dj := 28) (t := true) rfl rfl rfl rfl ?_
    refine L_op rfl (X_pick (t := true) (v := (.bool (true))) rfl rfl ?_)
    refine L_nil ?_
    refine T_n ?_
    refine W_ct rfl ?_
    refine W_seq ?_
    refine W_reg ?_
    refine L_op rfl (X_fn (vs := []) en8 rfl (CT.mono (c_wakes4 _) ?_))
    rintro vb42 w42 ⟨hvb42, hu42⟩
    have hz42 := hu42.size
    replace hp := hp.ext hu42
    replace hc := hc.ext hu42
    replace hb := hb.ext hu42
    replace hU := hU.trans (Ext.upd hu42)
    replace hB1 := hB1.ext hu42
    replace hB2 := hB2.ext hu42
    subst hvb42
    refine L_op rfl (X_assign (v := (.bool (true))) rfl ?_)
    refine L_nil ?_
    refine T_n ?_
    refine W_ret ?_
    refine T_r ?_
    exact BQ_r (End_1 Try.results5 (v := .bool true) rfl ⟨rfl, hU.own hn0⟩)
end Go.Proofs.Ytfmgjkchhajpmaa
