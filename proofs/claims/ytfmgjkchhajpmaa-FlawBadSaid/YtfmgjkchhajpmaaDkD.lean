/-
  Contracts of chapter 04: crashes. (Printed by wip/gen/t04d.py of this repo.)
-/
import Derived.Test.YtfmgjkchhajpmaaDkC
namespace Go.Proofs.Ytfmgjkchhajpmaa
open Go Go.SL Go.Proofs
set_option linter.unusedVariables false

def crStep (cs : List Wr) (ls : List UInt8) (st : List Pg × List Int) (i : Nat) : List Pg × List Int :=
  if pkN ls i = 0 ∨ (cs.getD i wZ).1 < 0 ∨ (st.1.length : Int) ≤ (cs.getD i wZ).1 then st
  else (st.1.set (cs.getD i wZ).1.toNat (if pkN ls i = 2 then halfP (st.1.getD (cs.getD i wZ).1.toNat default) (cs.getD i wZ).2 else (cs.getD i wZ).2), keepI st.2 (cs.getD i wZ).1)
def crSt (ps : List Pg) (bs : List Int) (cs : List Wr) (ls : List UInt8) : Nat → List Pg × List Int
  | 0 => (ps, bs)
  | k + 1 => crStep cs ls (crSt ps bs cs ls k) k
theorem crSt_length (ps : List Pg) (bs : List Int) (cs : List Wr) (ls : List UInt8) : ∀ k, (crSt ps bs cs ls k).1.length = ps.length
  | 0 => rfl
  | k + 1 => by
    show (crStep cs ls (crSt ps bs cs ls k) k).1.length = _
    unfold crStep
    split
    · exact crSt_length ps bs cs ls k
    · rw [List.length_set]; exact crSt_length ps bs cs ls k
theorem crSt_le (ps : List Pg) (bs : List Int) (cs : List Wr) (ls : List UInt8) : ∀ k, (crSt ps bs cs ls k).2.length ≤ bs.length
  | 0 => Nat.le_refl _
  | k + 1 => by
    show (crStep cs ls (crSt ps bs cs ls k) k).2.length ≤ _
    unfold crStep
    split
    · exact crSt_le ps bs cs ls k
    · exact Nat.le_trans (keepI_le _ _) (crSt_le ps bs cs ls k)
theorem crSt_skip {ps : List Pg} {bs : List Int} {cs : List Wr} {ls : List UInt8} {k : Nat} {e : Wr} (he : e = cs.getD k wZ) (h : pkN ls k = 0 ∨ e.1 < 0 ∨ (ps.length : Int) ≤ e.1) : crSt ps bs cs ls (k + 1) = crSt ps bs cs ls k := by
  subst he
  show crStep cs ls (crSt ps bs cs ls k) k = _
  unfold crStep
  rw [crSt_length]
  exact if_pos h
theorem crSt_do {ps : List Pg} {bs : List Int} {cs : List Wr} {ls : List UInt8} {k : Nat} {e : Wr} {qs : List Pg} {as_ : List Int} (he : e = cs.getD k wZ) (hq : qs = (crSt ps bs cs ls k).1) (ha : as_ = (crSt ps bs cs ls k).2) (h : ¬ (pkN ls k = 0 ∨ e.1 < 0 ∨ (ps.length : Int) ≤ e.1)) {p : Pg} (hp : (if pkN ls k = 2 then halfP (qs.getD e.1.toNat default) e.2 else e.2) = p) :
    crSt ps bs cs ls (k + 1) = (qs.set e.1.toNat p, keepI as_ e.1) := by
  subst he hq ha hp
  show crStep cs ls (crSt ps bs cs ls k) k = _
  unfold crStep
  rw [if_neg (by rw [crSt_length]; exact h)]
theorem wr_put (e : Wr) (q : Pg) : ((LW.cel e).toArray.toList.take 1 ++ q.1.map byteV ++ (LW.cel e).toArray.toList.drop (1 + (q.1.map byteV).length)).toArray = (LW.cel (e.1, q)).toArray := by
  have h1 : (q.1.map byteV).length = 256 := by rw [List.length_map]; exact q.2
  have h2 : (e.2.1.map byteV).length = 256 := by rw [List.length_map]; exact e.2.2
  rw [h1]
  show (List.take 1 (Value.int .i64 e.1 :: e.2.1.map byteV) ++ q.1.map byteV ++ List.drop (1 + 256) (Value.int .i64 e.1 :: e.2.1.map byteV)).toArray = (Value.int .i64 e.1 :: q.1.map byteV).toArray
  rw [show 1 + 256 = 256 + 1 from rfl, List.drop_succ_cons, List.drop_eq_nil_of_le (by omega)]
  simp

theorem c_crash (pv cv bv : Value) (ps : List Pg) (cs : List Wr) (bs : List Int) (off : Bool) (lv : Value) (ls : List UInt8) (w : World) (lo up : Nat) (hup : up ≤ w.heap.size) (hp : NRd LP w lo up pv ps) (hc : NRd LW w lo up cv cs) (hb : NRd LI w lo up bv bs) (hl : Rd w 1 lv ls.length (ls.map byteV)) (hpL : ps.length ≤ 1048576) (hcL : cs.length ≤ 1048576) (hbL : bs.length ≤ 1048576) : CT Try.prog 9 #[(.agg #[pv, cv, bv, (.bool (off))]), lv] w fun v w' => ∃ p2 i2, v = .agg #[p2, .slice none 0 0, i2, .bool off] ∧ NOwn LP w' 33 5 w.heap.size w'.heap.size p2 (crSt ps bs cs ls cs.length).1 ∧ NOwn LI w' 3 5 w.heap.size w'.heap.size i2 (crSt ps bs cs ls cs.length).2 ∧ Ext w w' := by
  obtain ⟨n0, hn0⟩ : ∃ n, n = w.heap.size := ⟨_, rfl⟩
  have hU : Upd (fun i => n0 ≤ i) w w := Upd.refl _ _
  have hpl := hp.sv.len
  have hcl := hc.sv.len
  have hbl := hb.sv.len
  rw [← hn0] at hup
  have hlb : ∀ i, rbk lv = some i → i < n0 := by rw [hn0]; exact fun i hi => hl.bound (by decide) hi
  refine CT_of Try.func9 rfl rfl rfl ?_
  refine W_seq ?_
  refine W_reg ?_
  refine L_op rfl (X_box (v := (.agg #[pv, cv, bv, (.bool (off))])) (c := ([pv, cv, bv, (.bool (off))]).toArray) rfl rfl ?_)
  intro b1 w1 hn1
  have hbn1 := hn1.num; have hbs1 := hn1.size
  replace hp := hp.ext hn1.ext
  replace hc := hc.ext hn1.ext
  replace hb := hb.ext hn1.ext
  replace hl := hl.ext hn1.ext
  replace hU := hU.trans (Ext.upd hn1.ext)
  have hB1 := hn1.blk
  refine L_op rfl (X_alloc (z := (.agg #[(.slice none 0 0), (.slice none 0 0), (.slice none 0 0), (.bool (false))])) (c := #[(.slice none 0 0), (.slice none 0 0), (.slice none 0 0), (.bool (false))]) Zv26 rfl ?_)
  intro b2 w2 hn2
  have hbn2 := hn2.num; have hbs2 := hn2.size
  replace hp := hp.ext hn2.ext
  replace hc := hc.ext hn2.ext
  replace hb := hb.ext hn2.ext
  replace hl := hl.ext hn2.ext
  replace hU := hU.trans (Ext.upd hn2.ext)
  replace hB1 := hB1.ext hn2.ext
  have hB2 := hn2.blk
  refine L_nil ?_
  refine T_n ?_
  refine W_scopeQ ?_
  refine W_seq ?_
  refine W_reg ?_
  refine L_op rfl (X_loadA (p := (ptr b1 (0))) (xs := [pv, cv, bv, (.bool (off))]) A26 rfl hB1.atAll rfl ?_)
  obtain ⟨s0, hs0⟩ : ∃ n, n = w2.heap.size := ⟨_, rfl⟩
  refine L_op rfl (X_fn (vs := [(.agg ([pv, cv, bv, (.bool (off))]).toArray)]) en25 rfl (CT.mono (c_own pv cv bv ps cs bs off _ lo up (by omega) hp hc hb hpL hcL hbL) ?_))
  rintro _ w3 ⟨p_2, c_2, i_2, rfl, hP2, hC2, hI2, hu3⟩
  have hz3 := hu3.size
  rw [← hs0] at hP2 hC2 hI2
  obtain ⟨us0, hus0_⟩ : ∃ n, n = w3.heap.size := ⟨_, rfl⟩
  rw [← hus0_] at hP2 hC2 hI2
  replace hp := hp.ext hu3
  replace hc := hc.ext hu3
  replace hb := hb.ext hu3
  replace hl := hl.ext hu3
  replace hU := hU.trans (Ext.upd hu3)
  replace hB1 := hB1.ext hu3
  replace hB2 := hB2.ext hu3
  refine L_op0 (X_storeW (b := b1) (ys := [p_2, c_2, i_2, (.bool (off))]) A26 rfl rfl (List.forall_mem_cons.2 ⟨(hP2.1.sv.one), (List.forall_mem_cons.2 ⟨(hC2.1.sv.one), (List.forall_mem_cons.2 ⟨(hI2.1.sv.one), (List.forall_mem_cons.2 ⟨rfl, (fun _ h => by cases h)⟩)⟩)⟩)⟩) rfl hB1 rfl ?_)
  intro w4 hu4 hb4
  have hz4 := hu4.size
  replace hp := hp.upd hu4 fun i h1 h2 h => by have h : i = b1 := h; omega
  replace hc := hc.upd hu4 fun i h1 h2 h => by have h : i = b1 := h; omega
  replace hb := hb.upd hu4 fun i h1 h2 h => by have h : i = b1 := h; omega
  replace hl := hl.upd hu4 fun i hi h => by have hi := hlb _ hi; have h : i = b1 := h; omega
  replace hU := hU.trans (hu4.mono fun i _ h => by have h : i = b1 := h; show n0 ≤ i; omega)
  replace hB2 := hB2.upd hu4 fun h => by have h : b2 = b1 := h; omega
  replace hP2 := hP2.upd hu4 fun i h1 h2 h => by have h : i = b1 := h; omega
  replace hC2 := hC2.upd hu4 fun i h1 h2 h => by have h : i = b1 := h; omega
  replace hI2 := hI2.upd hu4 fun i h1 h2 h => by have h : i = b1 := h; omega
  replace hB1 : Blk w4 b1 #[p_2, c_2, i_2, (.bool (off))] 26 := hb4
  refine L_nil ?_
  refine T_n ?_
  refine W_seq ?_
  refine W_label ?_
  refine T_n ?_
  refine W_seq ?_
  refine W_seq ?_
  refine W_reg ?_
  refine L_op rfl (X_fldP (b := b1) (o := 0) (r := 1) Fd26_1 rfl rfl ?_)
  refine L_op rfl (X_load (p := (ptr b1 (1))) (v := c_2) T23 rfl (hB1.at1 rfl) ?_)
  refine L_op rfl (X_move (v := lv) rfl ?_)
  obtain ⟨x1, hx1_⟩ : ∃ n, n = w4.heap.size := ⟨_, rfl⟩
  refine L_op rfl (X_fn (vs := [c_2, lv]) en26 rfl (CT.mono (c_picked c_2 lv cs ls _ hC2.1.rd hl) ?_))
  rintro _ w5 ⟨rfl, hX1, hX2, hu5, hz5⟩
  rw [← hx1_] at hX1 hX2 ⊢
  replace hp := hp.ext hu5
  replace hc := hc.ext hu5
  replace hb := hb.ext hu5
  replace hl := hl.ext hu5
  replace hU := hU.trans (Ext.upd hu5)
  replace hB2 := hB2.ext hu5
  replace hP2 := hP2.ext hu5
  replace hC2 := hC2.ext hu5
  replace hI2 := hI2.ext hu5
  replace hB1 := hB1.ext hu5
  have hb1l := hB1.lt; have hb2l := hB2.lt; have hx1l := hX1.lt; have hx2l := hX2.lt
  refine L_nil ?_
  refine T_n ?_
  refine W_block ?_
  obtain ⟨nL, hnL⟩ : ∃ n, n = w5.heap.size := ⟨_, rfl⟩
  refine W_rangeJ (lb := [ptr x1 0, ptr (x1 + 1) 0]) (xs := (pickX cs ls)) rfl en40 (c_picked1 c_2 lv cs ls x1 (x1 + 1)) rfl (fun x hx => by unfold pickX at hx; obtain ⟨y, _, rfl⟩ := List.mem_map.1 hx; rfl) (fun b => b = b1 ∨ (s0 ≤ b ∧ b < us0) ∨ nL + 2 ≤ b) (fun b hb_ => ⟨by rcases hb_ with h | h | h <;> omega, by rcases hb_ with h | h | h <;> omega⟩) (fun b h => h.elim) (fun k W => NOwn LP W 33 5 s0 us0 p_2 (crSt ps bs cs ls k).1 ∧ NOwn LW W 35 5 s0 us0 c_2 cs ∧ (∃ i_3, NOwn LI W 3 5 s0 us0 i_3 (crSt ps bs cs ls k).2 ∧ Blk W b1 #[p_2, c_2, i_3, .bool off] 26) ∧ Blk W b2 #[.slice none 0 0, .slice none 0 0, .slice none 0 0, .bool false] 26 ∧ Blk W x1 #[c_2] 23 ∧ Blk W (x1 + 1) #[lv] 27 ∧ Rd W 1 lv ls.length (ls.map byteV) ∧ Upd (fun i => n0 ≤ i) w W ∧ us0 ≤ W.heap.size) (fun k e W => False) (fun k W h => ⟨h.2.2.2.2.1, h.2.2.2.2.2.1, h.2.1.1.rd, h.2.2.2.2.2.2.1⟩) (fun k W W2 hI hu => by obtain ⟨hP, hC, ⟨i_3, hI3, h1⟩, h2, h3, h4, hl, hU, hs⟩ := hI; exact ⟨hP.upd hu fun i h1 h2 => fun h => by { rcases h with h | h; (· exact h); (· omega) }, hC.upd hu fun i h1 h2 => fun h => by { rcases h with h | h; (· exact h); (· omega) }, ⟨i_3, hI3.upd hu fun i h1 h2 => fun h => by { rcases h with h | h; (· exact h); (· omega) }, h1.upd hu fun h => by { rcases h with h | h; (· exact h); (· omega) }⟩, h2.upd hu fun h => by { rcases h with h | h; (· exact h); (· omega) }, h3.upd hu fun h => by { rcases h with h | h; (· exact h); (· omega) }, h4.upd hu fun h => by { rcases h with h | h; (· exact h); (· omega) }, hl.upd hu fun i hi => by have hi := hlb _ hi; exact fun h => by { rcases h with h | h; (· exact h); (· omega) }, hU.trans (hu.mono fun i _ h => by { rcases h with h | h; (· exact h.elim); (· show n0 ≤ i; omega) }), Nat.le_trans hs hu.size⟩) (fun k e W W2 hI hu => hI) ?_ ?_ ?_ ?_
  · intro W hx_ hs_
    exact ⟨hP2.ext hx_, hC2.ext hx_, ⟨i_2, hI2.ext hx_, hB1.ext hx_⟩, hB2.ext hx_, hX1.ext hx_, hX2.ext hx_, hl.ext hx_, hU.trans (Ext.upd hx_), by omega⟩
  · intro k x W hk_ hI_ hsz_ hlp_
    obtain ⟨hP2, hC2, ⟨i_3, hI2, hB1⟩, hB2, hX1, hX2, hl, hU, husw⟩ := hI_
    have hkW : k < cs.length := by rw [← pickX_length cs ls]; exact (List.getElem?_eq_some_iff.1 hk_).1
    rw [pickX_at hkW] at hk_; cases hk_
    obtain ⟨e, he⟩ : ∃ e, e = cs.getD k wZ := ⟨_, rfl⟩
    rw [← he]
    obtain ⟨qs, hqs⟩ : ∃ x, x = (crSt ps bs cs ls k).1 := ⟨_, rfl⟩
    obtain ⟨as_, has⟩ : ∃ x, x = (crSt ps bs cs ls k).2 := ⟨_, rfl⟩
    rw [← hqs] at hP2; rw [← has] at hI2
    have hql : qs.length = ps.length := by rw [hqs]; exact crSt_length _ _ _ _ _
    have hal_ : as_.length ≤ bs.length := by rw [has]; exact crSt_le _ _ _ _ _
    have hD := Upd.refl (fun b => b = b1 ∨ (s0 ≤ b ∧ b < us0) ∨ nL + 2 ≤ b) W
    refine W_seq ?_
    refine W_reg ?_
    refine L_op rfl (X_assign (v := (.int .u8 (((pkN ls k : Nat) : Int)))) rfl ?_)
    refine L_nil ?_
    refine T_n ?_
    refine W_reg ?_
    refine L_op rfl (X_alloc (z := zv35) (c := zc35.toArray) Zv35 rfl ?_)
    intro b6 w6 hn6
    have hbn6 := hn6.num; have hbs6 := hn6.size
    replace hP2 := hP2.ext hn6.ext
    replace hC2 := hC2.ext hn6.ext
    replace hI2 := hI2.ext hn6.ext
    replace hB1 := hB1.ext hn6.ext
    replace hB2 := hB2.ext hn6.ext
    replace hX1 := hX1.ext hn6.ext
    replace hX2 := hX2.ext hn6.ext
    replace hl := hl.ext hn6.ext
    replace hU := hU.trans (Ext.upd hn6.ext)
    replace hD := hD.trans (Ext.upd hn6.ext)
    have hB6 := hn6.blk
    refine L_op0 (X_storeW (b := b6) (ys := LW.cel e) A35 rfl rfl (LW.one e (fun _ h => by cases h)) (LW.len e) hB6 zc35_size ?_)
    intro w7 hu7 hb7
    have hz7 := hu7.size
    replace hP2 := hP2.upd hu7 fun i h1 h2 h => by have h : i = b6 := h; omega
    replace hC2 := hC2.upd hu7 fun i h1 h2 h => by have h : i = b6 := h; omega
    replace hI2 := hI2.upd hu7 fun i h1 h2 h => by have h : i = b6 := h; omega
    replace hB1 := hB1.upd hu7 fun h => by have h : b1 = b6 := h; omega
    replace hB2 := hB2.upd hu7 fun h => by have h : b2 = b6 := h; omega
    replace hX1 := hX1.upd hu7 fun h => by have h : x1 = b6 := h; omega
    replace hX2 := hX2.upd hu7 fun h => by have h : (x1 + 1) = b6 := h; omega
    replace hl := hl.upd hu7 fun i hi h => by have hi := hlb _ hi; have h : i = b6 := h; omega
    replace hU := hU.trans (hu7.mono fun i _ h => by have h : i = b6 := h; show n0 ≤ i; omega)
    replace hD := hD.trans (hu7.mono fun i _ h => by have h : i = b6 := h; show i = b1 ∨ (s0 ≤ i ∧ i < us0) ∨ nL + 2 ≤ i; omega)
    replace hB6 := hb7
    refine L_nil ?_
    refine T_n ⟨hD, fun W2 hu2_ hlp2_ => ?_⟩
    have hsz2_ := hu2_.size
    replace hP2 := hP2.upd hu2_ fun i h1 h2 h => by have h : i = nL + 1 := (by rw [hnL]; exact h); omega
    replace hC2 := hC2.upd hu2_ fun i h1 h2 h => by have h : i = nL + 1 := (by rw [hnL]; exact h); omega
    replace hI2 := hI2.upd hu2_ fun i h1 h2 h => by have h : i = nL + 1 := (by rw [hnL]; exact h); omega
    replace hB1 := hB1.upd hu2_ fun h => by have h : b1 = nL + 1 := (by rw [hnL]; exact h); omega
    replace hB2 := hB2.upd hu2_ fun h => by have h : b2 = nL + 1 := (by rw [hnL]; exact h); omega
    replace hX1 := hX1.upd hu2_ fun h => by have h : x1 = nL + 1 := (by rw [hnL]; exact h); omega
    replace hX2 := hX2.upd hu2_ fun h => by have h : (x1 + 1) = nL + 1 := (by rw [hnL]; exact h); omega
    replace hl := hl.upd hu2_ fun i hi h => by have hi := hlb _ hi; have h : i = nL + 1 := (by rw [hnL]; exact h); omega
    replace hU := hU.trans (hu2_.mono fun i _ h => by have h : i = nL + 1 := (by rw [hnL]; exact h); show n0 ≤ i; omega)
    replace hB6 := hB6.upd hu2_ fun h => by have h : b6 = nL + 1 := (by rw [hnL]; exact h); omega
    have hD := Upd.refl (fun b => b = b1 ∨ (s0 ≤ b ∧ b < us0) ∨ nL + 2 ≤ b) W2
    refine W_block ?_
    refine W_seq ?_
    refine W_seq ?_
    refine W_reg ?_
    refine L_op rfl (X_move (v := (.int .u8 (((pkN ls k : Nat) : Int)))) rfl ?_)
    by_cases hc8 : (((pkN ls k : Nat) : Int) : Int) = (0)
    · refine L_op rfl (X_cmp (k := .u8) (a := ((pkN ls k : Nat) : Int)) (b := 0) (r := true) rfl rfl rfl (decide_eq_true (p := ((((pkN ls k : Nat) : Int)) : Int) = ((0) : Int)) (by omega)) ?_)
      refine L_op rfl (X_move (v := (.bool (true))) rfl ?_)
      refine L_gn (dj := 17) (t := true) rfl rfl rfl rfl ?_
      refine L_gn (dj := 17) (t := true) rfl rfl rfl rfl ?_
      refine L_gn (dj := 17) (t := true) rfl rfl rfl rfl ?_
      refine L_op rfl (X_pick (t := true) (v := (.bool (true))) rfl rfl ?_)
      refine L_op rfl (X_move (v := (.bool (true))) rfl ?_)
      refine L_gn (dj := 22) (t := true) rfl rfl rfl rfl ?_
      refine L_gn (dj := 22) (t := true) rfl rfl rfl rfl ?_
      refine L_gn (dj := 22) (t := true) rfl rfl rfl rfl ?_
      refine L_gn (dj := 22) (t := true) rfl rfl rfl rfl ?_
      refine L_gn (dj := 22) (t := true) rfl rfl rfl rfl ?_
      refine L_gn (dj := 22) (t := true) rfl rfl rfl rfl ?_
      refine L_op rfl (X_pick (t := true) (v := (.bool (true))) rfl rfl ?_)
      refine L_nil ?_
      refine T_n ?_
      refine W_ct rfl ?_
      refine W_exit ?_
      refine T_e ?_
      refine B_x ?_
      have hst := crSt_skip (bs := bs) (ps := ps) (ls := ls) he (by omega)
      exact RQ_n hD ⟨by rw [hst, ← hqs]; exact hP2, hC2, ⟨i_3, by rw [hst, ← has]; exact hI2, hB1⟩, hB2, hX1, hX2, hl, hU, by omega⟩
    · refine L_op rfl (X_cmp (k := .u8) (a := ((pkN ls k : Nat) : Int)) (b := 0) (r := false) rfl rfl rfl (decide_eq_false (p := ((((pkN ls k : Nat) : Int)) : Int) = ((0) : Int)) (by omega)) ?_)
      refine L_op rfl (X_move (v := (.bool (false))) rfl ?_)
      refine L_gy (dj := 17) rfl rfl rfl (X_fldP (b := b6) (o := 0) (r := 0) Fd35_0 rfl rfl ?_)
      refine L_gy (dj := 17) rfl rfl rfl (X_load (p := (ptr b6 (0))) (v := .int .i64 e.1) T3 rfl (hB6.at1 rfl) ?_)
      by_cases hc9 : (e.1 : Int) < (0)
      · refine L_gy (dj := 17) rfl rfl rfl (X_cmp (k := .i64) (a := e.1) (b := 0) (r := true) rfl rfl rfl (decide_eq_true (p := ((e.1) : Int) < ((0) : Int)) (by omega)) ?_)
        refine L_op rfl (X_pick (t := false) (v := (.bool (true))) rfl rfl ?_)
        refine L_op rfl (X_move (v := (.bool (true))) rfl ?_)
        refine L_gn (dj := 22) (t := true) rfl rfl rfl rfl ?_
        refine L_gn (dj := 22) (t := true) rfl rfl rfl rfl ?_
        refine L_gn (dj := 22) (t := true) rfl rfl rfl rfl ?_
        refine L_gn (dj := 22) (t := true) rfl rfl rfl rfl ?_
        refine L_gn (dj := 22) (t := true) rfl rfl rfl rfl ?_
        refine L_gn (dj := 22) (t := true) rfl rfl rfl rfl ?_
        refine L_op rfl (X_pick (t := true) (v := (.bool (true))) rfl rfl ?_)
        refine L_nil ?_
        refine T_n ?_
        refine W_ct rfl ?_
        refine W_exit ?_
        refine T_e ?_
        refine B_x ?_
        have hst := crSt_skip (bs := bs) (ps := ps) (ls := ls) he (by omega)
        exact RQ_n hD ⟨by rw [hst, ← hqs]; exact hP2, hC2, ⟨i_3, by rw [hst, ← has]; exact hI2, hB1⟩, hB2, hX1, hX2, hl, hU, by omega⟩
      · refine L_gy (dj := 17) rfl rfl rfl (X_cmp (k := .i64) (a := e.1) (b := 0) (r := false) rfl rfl rfl (decide_eq_false (p := ((e.1) : Int) < ((0) : Int)) (by omega)) ?_)
        refine L_op rfl (X_pick (t := false) (v := (.bool (false))) rfl rfl ?_)
        refine L_op rfl (X_move (v := (.bool (false))) rfl ?_)
        refine L_gy (dj := 22) rfl rfl rfl (X_fldP (b := b6) (o := 0) (r := 0) Fd35_0 rfl rfl ?_)
        refine L_gy (dj := 22) rfl rfl rfl (X_load (p := (ptr b6 (0))) (v := .int .i64 e.1) T3 rfl (hB6.at1 rfl) ?_)
        refine L_gy (dj := 22) rfl rfl rfl (X_fldP (b := b1) (o := 0) (r := 0) Fd26_0 rfl rfl ?_)
        refine L_gy (dj := 22) rfl rfl rfl (X_load (p := (ptr b1 (0))) (v := p_2) T22 rfl (hB1.at1 rfl) ?_)
        refine L_gy (dj := 22) rfl rfl rfl (X_len (v := p_2) (n := qs.length) Try.underlying22 rfl hP2.1.sv ?_)
        by_cases hc10 : (e.1 : Int) ≥ (((qs.length : Nat) : Int))
        · refine L_gy (dj := 22) rfl rfl rfl (X_cmp (k := .i64) (a := e.1) (b := ((qs.length : Nat) : Int)) (r := true) rfl rfl rfl (decide_eq_true (p := ((((qs.length : Nat) : Int)) : Int) ≤ ((e.1) : Int)) (by omega)) ?_)
          refine L_op rfl (X_pick (t := false) (v := (.bool (true))) rfl rfl ?_)
          refine L_nil ?_
          refine T_n ?_
          refine W_ct rfl ?_
          refine W_exit ?_
          refine T_e ?_
          refine B_x ?_
          have hst := crSt_skip (bs := bs) (ps := ps) (ls := ls) he (by omega)
          exact RQ_n hD ⟨by rw [hst, ← hqs]; exact hP2, hC2, ⟨i_3, by rw [hst, ← has]; exact hI2, hB1⟩, hB2, hX1, hX2, hl, hU, by omega⟩
        · refine L_gy (dj := 22) rfl rfl rfl (X_cmp (k := .i64) (a := e.1) (b := ((qs.length : Nat) : Int)) (r := false) rfl rfl rfl (decide_eq_false (p := ((((qs.length : Nat) : Int)) : Int) ≤ ((e.1) : Int)) (by omega)) ?_)
          refine L_op rfl (X_pick (t := false) (v := (.bool (false))) rfl rfl ?_)
          refine L_nil ?_
          refine T_n ?_
          refine W_cf rfl ?_
          refine W_skip ?_
          refine T_n ?_
          refine W_seq ?_
          refine W_seq ?_
          refine W_reg ?_
          refine L_op rfl (X_move (v := (.int .u8 (((pkN ls k : Nat) : Int)))) rfl ?_)
          by_cases hc11 : (((pkN ls k : Nat) : Int) : Int) = (2)
          · refine L_op rfl (X_cmp (k := .u8) (a := ((pkN ls k : Nat) : Int)) (b := 2) (r := true) rfl rfl rfl (decide_eq_true (p := ((((pkN ls k : Nat) : Int)) : Int) = ((2) : Int)) (by omega)) ?_)
            refine L_nil ?_
            refine T_n ?_
            refine W_ct rfl ?_
            have hin : 0 ≤ e.1 ∧ e.1 < ((ps.length : Nat) : Int) := by omega
            obtain ⟨po, hpo⟩ : ∃ x, qs[e.1.toNat]? = some x := ⟨_, List.getElem?_eq_getElem (by omega)⟩
            refine W_draw 8 [[], [0], [], [2], [0, 1, 2, 3], [0, 1, 2, 3, 4], [], [6], [0, 1, 2, 3, 4, 5, 6, 7], [0, 1, 2, 3, 4, 5, 6, 7, 8], [0, 1, 2, 3, 4, 5, 6, 7, 8, 9]] mixed (by kernel_rfl) ?_
            refine ⟨.det (fun val => (ptr b1 (0))), ⟨fun _ _ hv => rfl, fun _ _ _ _ _ => trivial⟩, fun val h_ W hx he => ⟨trivial, ?_⟩, ?_⟩
            · replace hx := (Upd.drew _ _).trans hx
              replace hP2 := hP2.ext hx
              replace hC2 := hC2.ext hx
              replace hI2 := hI2.ext hx
              replace hB1 := hB1.ext hx
              replace hB2 := hB2.ext hx
              replace hX1 := hX1.ext hx
              replace hX2 := hX2.ext hx
              replace hl := hl.ext hx
              replace hB6 := hB6.ext hx
              have hE := Upd.refl (fun _ => False) W
              refine id (X_fldP (b := b1) (o := 0) (r := 0) Fd26_0 rfl rfl ?_)
              exact ⟨hE, rfl⟩
            refine ⟨.det (fun val => p_2), ⟨fun _ _ hv => rfl, fun _ _ _ _ _ => trivial⟩, fun val h_ W hx he => ⟨trivial, ?_⟩, ?_⟩
            · replace hx := (Upd.drew _ _).trans hx
              replace hP2 := hP2.ext hx
              replace hC2 := hC2.ext hx
              replace hI2 := hI2.ext hx
              replace hB1 := hB1.ext hx
              replace hB2 := hB2.ext hx
              replace hX1 := hX1.ext hx
              replace hX2 := hX2.ext hx
              replace hl := hl.ext hx
              replace hB6 := hB6.ext hx
              have hE := Upd.refl (fun _ => False) W
              refine id (X_load (p := (ptr b1 (0))) (v := p_2) T22 rfl (hB1.at1 rfl) ?_)
              exact ⟨hE, rfl⟩
            refine ⟨.det (fun val => (ptr b6 (0))), ⟨fun _ _ hv => rfl, fun _ _ _ _ _ => trivial⟩, fun val h_ W hx he => ⟨trivial, ?_⟩, ?_⟩
            · replace hx := (Upd.drew _ _).trans hx
              replace hP2 := hP2.ext hx
              replace hC2 := hC2.ext hx
              replace hI2 := hI2.ext hx
              replace hB1 := hB1.ext hx
              replace hB2 := hB2.ext hx
              replace hX1 := hX1.ext hx
              replace hX2 := hX2.ext hx
              replace hl := hl.ext hx
              replace hB6 := hB6.ext hx
              have hE := Upd.refl (fun _ => False) W
              refine id (X_fldP (b := b6) (o := 0) (r := 0) Fd35_0 rfl rfl ?_)
              exact ⟨hE, rfl⟩
            refine ⟨.det (fun val => (.int .i64 (e.1))), ⟨fun _ _ hv => rfl, fun _ _ _ _ _ => trivial⟩, fun val h_ W hx he => ⟨trivial, ?_⟩, ?_⟩
            · replace hx := (Upd.drew _ _).trans hx
              replace hP2 := hP2.ext hx
              replace hC2 := hC2.ext hx
              replace hI2 := hI2.ext hx
              replace hB1 := hB1.ext hx
              replace hB2 := hB2.ext hx
              replace hX1 := hX1.ext hx
              replace hX2 := hX2.ext hx
              replace hl := hl.ext hx
              replace hB6 := hB6.ext hx
              have hE := Upd.refl (fun _ => False) W
              refine id (X_load (p := (ptr b6 (0))) (v := .int .i64 e.1) T3 rfl (hB6.at1 rfl) ?_)
              exact ⟨hE, rfl⟩
            refine ⟨.det (fun val => (pof p_2 ((e.1 : Int).toNat * 256))), ⟨fun _ _ hv => rfl, fun _ _ _ _ _ => trivial⟩, fun val h_ W hx he => ⟨trivial, ?_⟩, ?_⟩
            · replace hx := (Upd.drew _ _).trans hx
              replace hP2 := hP2.ext hx
              replace hC2 := hC2.ext hx
              replace hI2 := hI2.ext hx
              replace hB1 := hB1.ext hx
              replace hB2 := hB2.ext hx
              replace hX1 := hX1.ext hx
              replace hX2 := hX2.ext hx
              replace hl := hl.ext hx
              replace hB6 := hB6.ext hx
              have hE := Upd.refl (fun _ => False) W
              refine id (X_idx (v := p_2) (n := qs.length) (k := .i64) (i := e.1) S22 rfl hP2.1.sv rfl (by omega) (by omega) ?_)
              exact ⟨hE, rfl⟩
            refine ⟨.det (fun val => (pageV po)), ⟨fun _ _ hv => rfl, fun _ _ _ _ _ => trivial⟩, fun val h_ W hx he => ⟨trivial, ?_⟩, ?_⟩
            · replace hx := (Upd.drew _ _).trans hx
              replace hP2 := hP2.ext hx
              replace hC2 := hC2.ext hx
              replace hI2 := hI2.ext hx
              replace hB1 := hB1.ext hx
              replace hB2 := hB2.ext hx
              replace hX1 := hX1.ext hx
              replace hX2 := hX2.ext hx
              replace hl := hl.ext hx
              replace hB6 := hB6.ext hx
              have hE := Upd.refl (fun _ => False) W
              refine id (X_loadA (xs := po.1.map byteV) A33 rfl (pall hP2.rd (k := e.1.toNat) rfl hpo) (by rw [List.length_map]; exact po.2) ?_)
              exact ⟨hE, rfl⟩
            refine ⟨.det (fun val => (ptr b6 (1))), ⟨fun _ _ hv => rfl, fun _ _ _ _ _ => trivial⟩, fun val h_ W hx he => ⟨trivial, ?_⟩, ?_⟩
            · replace hx := (Upd.drew _ _).trans hx
              replace hP2 := hP2.ext hx
              replace hC2 := hC2.ext hx
              replace hI2 := hI2.ext hx
              replace hB1 := hB1.ext hx
              replace hB2 := hB2.ext hx
              replace hX1 := hX1.ext hx
              replace hX2 := hX2.ext hx
              replace hl := hl.ext hx
              replace hB6 := hB6.ext hx
              have hE := Upd.refl (fun _ => False) W
              refine id (X_fldP (b := b6) (o := 0) (r := 1) Fd35_1 rfl rfl ?_)
              exact ⟨hE, rfl⟩
            refine ⟨.det (fun val => (pageV e.2)), ⟨fun _ _ hv => rfl, fun _ _ _ _ _ => trivial⟩, fun val h_ W hx he => ⟨trivial, ?_⟩, ?_⟩
            · replace hx := (Upd.drew _ _).trans hx
              replace hP2 := hP2.ext hx
              replace hC2 := hC2.ext hx
              replace hI2 := hI2.ext hx
              replace hB1 := hB1.ext hx
              replace hB2 := hB2.ext hx
              replace hX1 := hX1.ext hx
              replace hX2 := hX2.ext hx
              replace hl := hl.ext hx
              replace hB6 := hB6.ext hx
              have hE := Upd.refl (fun _ => False) W
              refine id (X_loadA (xs := e.2.1.map byteV) A33 rfl (hB6.at_ 1 (e.2.1.map byteV) (fun j u hj => by rw [Nat.add_comm]; simpa [LW] using hj)) (by rw [List.length_map]; exact e.2.2) ?_)
              exact ⟨hE, rfl⟩
            intro val W12 hx12 he12
            replace hx12 := (Upd.drew _ _).trans hx12
            have hz12 := hx12.size
            replace hP2 := hP2.ext hx12
            replace hC2 := hC2.ext hx12
            replace hI2 := hI2.ext hx12
            replace hB1 := hB1.ext hx12
            replace hB2 := hB2.ext hx12
            replace hX1 := hX1.ext hx12
            replace hX2 := hX2.ext hx12
            replace hl := hl.ext hx12
            replace hU := hU.trans (Ext.upd hx12)
            replace hB6 := hB6.ext hx12
            replace hD := hD.trans (Ext.upd hx12)
            refine L_op rfl (X_fn (vs := [(pageV po), (pageV e.2)]) en27 rfl (CT.mono (c_halves po e.2 _) ?_))
            rintro _ w13 ⟨rfl, hu13⟩
            have hz13 := hu13.size
            replace hP2 := hP2.ext hu13
            replace hC2 := hC2.ext hu13
            replace hI2 := hI2.ext hu13
            replace hB1 := hB1.ext hu13
            replace hB2 := hB2.ext hu13
            replace hX1 := hX1.ext hu13
            replace hX2 := hX2.ext hu13
            replace hl := hl.ext hu13
            replace hU := hU.trans (Ext.upd hu13)
            replace hB6 := hB6.ext hu13
            replace hD := hD.trans (Ext.upd hu13)
            refine L_op rfl (X_fldP (b := b6) (o := 0) (r := 1) Fd35_1 rfl rfl ?_)
            refine L_op0 (X_storeA (b := b6) (o := 1) (ys := (halfP po e.2).1.map byteV) A33 rfl rfl (byteV_one _) (by rw [List.length_map]; exact (halfP po e.2).2) hB6 (by rw [wr_size]; decide) ?_)
            intro w14 hu14 hb14
            have hz14 := hu14.size
            replace hP2 := hP2.upd hu14 fun i h1 h2 h => by have h : i = b6 := h; omega
            replace hC2 := hC2.upd hu14 fun i h1 h2 h => by have h : i = b6 := h; omega
            replace hI2 := hI2.upd hu14 fun i h1 h2 h => by have h : i = b6 := h; omega
            replace hB1 := hB1.upd hu14 fun h => by have h : b1 = b6 := h; omega
            replace hB2 := hB2.upd hu14 fun h => by have h : b2 = b6 := h; omega
            replace hX1 := hX1.upd hu14 fun h => by have h : x1 = b6 := h; omega
            replace hX2 := hX2.upd hu14 fun h => by have h : (x1 + 1) = b6 := h; omega
            replace hl := hl.upd hu14 fun i hi h => by have hi := hlb _ hi; have h : i = b6 := h; omega
            replace hU := hU.trans (hu14.mono fun i _ h => by have h : i = b6 := h; show n0 ≤ i; omega)
            replace hD := hD.trans (hu14.mono fun i _ h => by have h : i = b6 := h; show i = b1 ∨ (s0 ≤ i ∧ i < us0) ∨ nL + 2 ≤ i; omega)
            rw [wr_put] at hb14
            replace hB6 := hb14
            refine L_nil ?_
            refine T_n ?_
            refine W_seq ?_
            have hin : 0 ≤ e.1 ∧ e.1 < ((ps.length : Nat) : Int) := by omega
            refine W_reg ?_
            refine L_op rfl (X_fldP (b := b1) (o := 0) (r := 0) Fd26_0 rfl rfl ?_)
            refine L_op rfl (X_load (p := (ptr b1 (0))) (v := p_2) T22 rfl (hB1.at1 rfl) ?_)
            refine L_op rfl (X_fldP (b := b6) (o := 0) (r := 0) Fd35_0 rfl rfl ?_)
            refine L_op rfl (X_load (p := (ptr b6 (0))) (v := .int .i64 e.1) T3 rfl (hB6.at1 rfl) ?_)
            refine L_op rfl (X_fldP (b := b6) (o := 0) (r := 1) Fd35_1 rfl rfl ?_)
            refine L_op rfl (X_loadA (xs := (e.1, halfP po e.2).2.1.map byteV) A33 rfl (hB6.at_ 1 ((e.1, halfP po e.2).2.1.map byteV) (fun j u hj => by rw [Nat.add_comm]; simpa [LW] using hj)) (by rw [List.length_map]; exact (e.1, halfP po e.2).2.2) ?_)
            refine L_op rfl (X_idx (v := p_2) (n := qs.length) (k := .i64) (i := e.1) S22 rfl hP2.1.sv rfl (by omega) (by omega) ?_)
            refine L_op0 (X_storeOwnA (i := e.1.toNat * 256) (m := 256) (v := p_2) (ys := (e.1, halfP po e.2).2.1.map byteV) A33 hP2.1 (by have h2 : LP.sz = 256 := rfl; rw [h2]; omega) (by decide) rfl rfl (byteV_one _) (by rw [List.length_map]; exact (e.1, halfP po e.2).2.2) ?_)
            intro w8_ hO8 hu8_
            have hz8_ := hu8_.size
            have hlt_ : e.1.toNat < qs.length := by omega
            have hP8 : NOwn LP w8_ 33 5 s0 us0 p_2 (qs.set e.1.toNat (e.1, halfP po e.2).2) := NOwn.of (fun _ => rfl) (hO8.eq (by rw [List.length_set]) (by rw [flat_setA (L := LP) hlt_]; rfl)) hP2.2.1
            replace hC2 := NOwn.upd' (fun _ => rfl) hC2 hu8_ fun b h1 h2 => absurd (hC2.1.types hP2.1 h1 h2) (by decide)
            replace hI2 := NOwn.upd' (fun _ => rfl) hI2 hu8_ fun b h1 h2 => absurd (hI2.1.types hP2.1 h1 h2) (by decide)
            replace hB1 := hB1.upd hu8_ fun h => by have h1_ := hP2.1.lt h; have h2_ := hP2.2.1 _ h; omega
            replace hB2 := hB2.upd hu8_ fun h => by have h1_ := hP2.1.lt h; have h2_ := hP2.2.1 _ h; omega
            replace hX1 := hX1.upd hu8_ fun h => by have h1_ := hP2.1.lt h; have h2_ := hP2.2.1 _ h; omega
            replace hX2 := hX2.upd hu8_ fun h => by have h1_ := hP2.1.lt h; have h2_ := hP2.2.1 _ h; omega
            replace hl := hl.upd hu8_ fun i hi h => by have hi := hlb _ hi; have h1_ := hP2.1.lt h; have h2_ := hP2.2.1 _ h; omega
            replace hU := hU.trans (hu8_.mono fun i _ h => by have h1_ := hP2.1.lt h; have h2_ := hP2.2.1 _ h; show n0 ≤ i; omega)
            replace hD := hD.trans (hu8_.mono fun i _ h => by have h1_ := hP2.1.lt h; have h2_ := hP2.2.1 _ h; show i = b1 ∨ (s0 ≤ i ∧ i < us0) ∨ nL + 2 ≤ i; omega)
            replace hB6 := hB6.upd hu8_ fun h => by have h1_ := hP2.1.lt h; have h2_ := hP2.2.1 _ h; omega
            replace hP2 := hP8
            refine L_nil ?_
            refine T_n ?_
            refine W_reg ?_
            refine L_op rfl (X_fldP (b := b1) (o := 0) (r := 2) Fd26_2 rfl rfl ?_)
            refine L_op rfl (X_load (p := (ptr b1 (2))) (v := i_3) T24 rfl (hB1.at1 rfl) ?_)
            refine L_op rfl (X_makeFunc (vs := [(ptr b6 (0))]) rfl ?_)
            have hbe_ := hB6.lt
            have hbg : us0 ≤ b6 := by omega
            refine L_op rfl (X_fn (vs := [i_3, (.func (.func 29) #[] #[(ptr b6 (0))])]) en28 rfl (CT.mono (c_delete i_3 (e.1, halfP po e.2) b6 as_ _ s0 us0 hI2 hB6 (.inr hbg)) ?_))
            rintro i_4 w9_ ⟨ds, hI4, hds, hob, hu9_⟩
            have hz9_ := hu9_.size
            replace hP2 := NOwn.upd' (fun _ => rfl) hP2 hu9_ fun b h1 h2 => absurd (hP2.1.types hI2.1 h1 h2) (by decide)
            replace hC2 := NOwn.upd' (fun _ => rfl) hC2 hu9_ fun b h1 h2 => absurd (hC2.1.types hI2.1 h1 h2) (by decide)
            replace hB1 := hB1.upd hu9_ fun h => by have h1_ := hI2.1.lt h; have h2_ := hI2.2.1 _ h; omega
            replace hB2 := hB2.upd hu9_ fun h => by have h1_ := hI2.1.lt h; have h2_ := hI2.2.1 _ h; omega
            replace hX1 := hX1.upd hu9_ fun h => by have h1_ := hI2.1.lt h; have h2_ := hI2.2.1 _ h; omega
            replace hX2 := hX2.upd hu9_ fun h => by have h1_ := hI2.1.lt h; have h2_ := hI2.2.1 _ h; omega
            replace hl := hl.upd hu9_ fun i hi h => by have hi := hlb _ hi; have h1_ := hI2.1.lt h; have h2_ := hI2.2.1 _ h; omega
            replace hU := hU.trans (hu9_.mono fun i _ h => by have h1_ := hI2.1.lt h; have h2_ := hI2.2.1 _ h; show n0 ≤ i; omega)
            replace hD := hD.trans (hu9_.mono fun i _ h => by have h1_ := hI2.1.lt h; have h2_ := hI2.2.1 _ h; show i = b1 ∨ (s0 ≤ i ∧ i < us0) ∨ nL + 2 ≤ i; omega)
            refine L_op rfl (X_fldP (b := b1) (o := 0) (r := 2) Fd26_2 rfl rfl ?_)
            refine L_op0 (X_store (b := b1) (o := 2) T24 rfl rfl (hI4.1.sv.one) hB1 (by show (2 : Nat) < 4; decide) ?_)
            intro w15 hu15 hb15
            have hz15 := hu15.size
            replace hB2 := hB2.upd hu15 fun h => by have h : b2 = b1 := h; omega
            replace hX1 := hX1.upd hu15 fun h => by have h : x1 = b1 := h; omega
            replace hX2 := hX2.upd hu15 fun h => by have h : (x1 + 1) = b1 := h; omega
            replace hl := hl.upd hu15 fun i hi h => by have hi := hlb _ hi; have h : i = b1 := h; omega
            replace hU := hU.trans (hu15.mono fun i _ h => by have h : i = b1 := h; show n0 ≤ i; omega)
            replace hD := hD.trans (hu15.mono fun i _ h => by have h : i = b1 := h; show i = b1 ∨ (s0 ≤ i ∧ i < us0) ∨ nL + 2 ≤ i; omega)
            replace hP2 := hP2.upd hu15 fun i h1 h2 h => by have h : i = b1 := h; omega
            replace hC2 := hC2.upd hu15 fun i h1 h2 h => by have h : i = b1 := h; omega
            replace hI4 := hI4.upd hu15 fun i h1 h2 h => by have h : i = b1 := h; omega
            replace hB1 : Blk w15 b1 #[p_2, c_2, i_4, (.bool (off))] 26 := hb15
            refine L_nil ?_
            refine B_n ?_
            have hst := crSt_do (ps := ps) (bs := bs) (ls := ls) he hqs has (by omega) (p := (e.1, halfP po e.2).2) (by rw [if_pos (by omega), List.getD_eq_getElem?_getD, hpo]; rfl)
            exact RQ_n hD ⟨by rw [hst]; exact hP2, hC2, ⟨i_4, by rw [hst, ← hds]; exact hI4, hB1⟩, hB2, hX1, hX2, hl, hU, by omega⟩
          · refine L_op rfl (X_cmp (k := .u8) (a := ((pkN ls k : Nat) : Int)) (b := 2) (r := false) rfl rfl rfl (decide_eq_false (p := ((((pkN ls k : Nat) : Int)) : Int) = ((2) : Int)) (by omega)) ?_)
            refine L_nil ?_
            refine T_n ?_
            refine W_cf rfl ?_
            refine W_skip ?_
            refine T_n ?_
            refine W_seq ?_
            have hin : 0 ≤ e.1 ∧ e.1 < ((ps.length : Nat) : Int) := by omega
            refine W_reg ?_
            refine L_op rfl (X_fldP (b := b1) (o := 0) (r := 0) Fd26_0 rfl rfl ?_)
            refine L_op rfl (X_load (p := (ptr b1 (0))) (v := p_2) T22 rfl (hB1.at1 rfl) ?_)
            refine L_op rfl (X_fldP (b := b6) (o := 0) (r := 0) Fd35_0 rfl rfl ?_)
            refine L_op rfl (X_load (p := (ptr b6 (0))) (v := .int .i64 e.1) T3 rfl (hB6.at1 rfl) ?_)
            refine L_op rfl (X_fldP (b := b6) (o := 0) (r := 1) Fd35_1 rfl rfl ?_)
            refine L_op rfl (X_loadA (xs := e.2.1.map byteV) A33 rfl (hB6.at_ 1 (e.2.1.map byteV) (fun j u hj => by rw [Nat.add_comm]; simpa [LW] using hj)) (by rw [List.length_map]; exact e.2.2) ?_)
            refine L_op rfl (X_idx (v := p_2) (n := qs.length) (k := .i64) (i := e.1) S22 rfl hP2.1.sv rfl (by omega) (by omega) ?_)
            refine L_op0 (X_storeOwnA (i := e.1.toNat * 256) (m := 256) (v := p_2) (ys := e.2.1.map byteV) A33 hP2.1 (by have h2 : LP.sz = 256 := rfl; rw [h2]; omega) (by decide) rfl rfl (byteV_one _) (by rw [List.length_map]; exact e.2.2) ?_)
            intro w8_ hO8 hu8_
            have hz8_ := hu8_.size
            have hlt_ : e.1.toNat < qs.length := by omega
            have hP8 : NOwn LP w8_ 33 5 s0 us0 p_2 (qs.set e.1.toNat e.2) := NOwn.of (fun _ => rfl) (hO8.eq (by rw [List.length_set]) (by rw [flat_setA (L := LP) hlt_]; rfl)) hP2.2.1
            replace hC2 := NOwn.upd' (fun _ => rfl) hC2 hu8_ fun b h1 h2 => absurd (hC2.1.types hP2.1 h1 h2) (by decide)
            replace hI2 := NOwn.upd' (fun _ => rfl) hI2 hu8_ fun b h1 h2 => absurd (hI2.1.types hP2.1 h1 h2) (by decide)
            replace hB1 := hB1.upd hu8_ fun h => by have h1_ := hP2.1.lt h; have h2_ := hP2.2.1 _ h; omega
            replace hB2 := hB2.upd hu8_ fun h => by have h1_ := hP2.1.lt h; have h2_ := hP2.2.1 _ h; omega
            replace hX1 := hX1.upd hu8_ fun h => by have h1_ := hP2.1.lt h; have h2_ := hP2.2.1 _ h; omega
            replace hX2 := hX2.upd hu8_ fun h => by have h1_ := hP2.1.lt h; have h2_ := hP2.2.1 _ h; omega
            replace hl := hl.upd hu8_ fun i hi h => by have hi := hlb _ hi; have h1_ := hP2.1.lt h; have h2_ := hP2.2.1 _ h; omega
            replace hU := hU.trans (hu8_.mono fun i _ h => by have h1_ := hP2.1.lt h; have h2_ := hP2.2.1 _ h; show n0 ≤ i; omega)
            replace hB6 := hB6.upd hu8_ fun h => by have h1_ := hP2.1.lt h; have h2_ := hP2.2.1 _ h; omega
            replace hD := hD.trans (hu8_.mono fun i _ h => by have h1_ := hP2.1.lt h; have h2_ := hP2.2.1 _ h; show i = b1 ∨ (s0 ≤ i ∧ i < us0) ∨ nL + 2 ≤ i; omega)
            replace hP2 := hP8
            refine L_nil ?_
            refine T_n ?_
            refine W_reg ?_
            refine L_op rfl (X_fldP (b := b1) (o := 0) (r := 2) Fd26_2 rfl rfl ?_)
            refine L_op rfl (X_load (p := (ptr b1 (2))) (v := i_3) T24 rfl (hB1.at1 rfl) ?_)
            refine L_op rfl (X_makeFunc (vs := [(ptr b6 (0))]) rfl ?_)
            have hbe_ := hB6.lt
            have hbg : us0 ≤ b6 := by omega
            refine L_op rfl (X_fn (vs := [i_3, (.func (.func 29) #[] #[(ptr b6 (0))])]) en28 rfl (CT.mono (c_delete i_3 e b6 as_ _ s0 us0 hI2 hB6 (.inr hbg)) ?_))
            rintro i_4 w9_ ⟨ds, hI4, hds, hob, hu9_⟩
            have hz9_ := hu9_.size
            replace hP2 := NOwn.upd' (fun _ => rfl) hP2 hu9_ fun b h1 h2 => absurd (hP2.1.types hI2.1 h1 h2) (by decide)
            replace hC2 := NOwn.upd' (fun _ => rfl) hC2 hu9_ fun b h1 h2 => absurd (hC2.1.types hI2.1 h1 h2) (by decide)
            replace hB1 := hB1.upd hu9_ fun h => by have h1_ := hI2.1.lt h; have h2_ := hI2.2.1 _ h; omega
            replace hB2 := hB2.upd hu9_ fun h => by have h1_ := hI2.1.lt h; have h2_ := hI2.2.1 _ h; omega
            replace hX1 := hX1.upd hu9_ fun h => by have h1_ := hI2.1.lt h; have h2_ := hI2.2.1 _ h; omega
            replace hX2 := hX2.upd hu9_ fun h => by have h1_ := hI2.1.lt h; have h2_ := hI2.2.1 _ h; omega
            replace hl := hl.upd hu9_ fun i hi h => by have hi := hlb _ hi; have h1_ := hI2.1.lt h; have h2_ := hI2.2.1 _ h; omega
            replace hU := hU.trans (hu9_.mono fun i _ h => by have h1_ := hI2.1.lt h; have h2_ := hI2.2.1 _ h; show n0 ≤ i; omega)
            replace hD := hD.trans (hu9_.mono fun i _ h => by have h1_ := hI2.1.lt h; have h2_ := hI2.2.1 _ h; show i = b1 ∨ (s0 ≤ i ∧ i < us0) ∨ nL + 2 ≤ i; omega)
            refine L_op rfl (X_fldP (b := b1) (o := 0) (r := 2) Fd26_2 rfl rfl ?_)
            refine L_op0 (X_store (b := b1) (o := 2) T24 rfl rfl (hI4.1.sv.one) hB1 (by show (2 : Nat) < 4; decide) ?_)
            intro w16 hu16 hb16
            have hz16 := hu16.size
            replace hB2 := hB2.upd hu16 fun h => by have h : b2 = b1 := h; omega
            replace hX1 := hX1.upd hu16 fun h => by have h : x1 = b1 := h; omega
            replace hX2 := hX2.upd hu16 fun h => by have h : (x1 + 1) = b1 := h; omega
            replace hl := hl.upd hu16 fun i hi h => by have hi := hlb _ hi; have h : i = b1 := h; omega
            replace hU := hU.trans (hu16.mono fun i _ h => by have h : i = b1 := h; show n0 ≤ i; omega)
            replace hD := hD.trans (hu16.mono fun i _ h => by have h : i = b1 := h; show i = b1 ∨ (s0 ≤ i ∧ i < us0) ∨ nL + 2 ≤ i; omega)
            replace hP2 := hP2.upd hu16 fun i h1 h2 h => by have h : i = b1 := h; omega
            replace hC2 := hC2.upd hu16 fun i h1 h2 h => by have h : i = b1 := h; omega
            replace hI4 := hI4.upd hu16 fun i h1 h2 h => by have h : i = b1 := h; omega
            replace hB1 : Blk w16 b1 #[p_2, c_2, i_4, (.bool (off))] 26 := hb16
            refine L_nil ?_
            refine B_n ?_
            have hst := crSt_do (ps := ps) (bs := bs) (ls := ls) he hqs has (by omega) (p := e.2) (by exact if_neg (by omega))
            exact RQ_n hD ⟨by rw [hst]; exact hP2, hC2, ⟨i_4, by rw [hst, ← hds]; exact hI4, hB1⟩, hB2, hX1, hX2, hl, hU, by omega⟩
  · intro W hI_ hd_
    obtain ⟨hP2, hC2, ⟨i_3, hI2, hB1⟩, hB2, hX1, hX2, hl, hU, husw⟩ := hI_
    rw [pickX_length] at hP2 hI2
    have hd : Dfd W nL := by rw [hnL]; exact hd_
    obtain ⟨qs, hqs⟩ : ∃ x, x = (crSt ps bs cs ls cs.length).1 := ⟨_, rfl⟩
    obtain ⟨as_, has⟩ : ∃ x, x = (crSt ps bs cs ls cs.length).2 := ⟨_, rfl⟩
    rw [← hqs] at hP2; rw [← has] at hI2
    have hsz_ := hU.size
    refine B_n ?_
    refine T_n ?_
    refine W_seq ?_
    refine W_reg ?_
    refine L_op rfl (X_fldP (b := b1) (o := 0) (r := 1) Fd26_1 rfl rfl ?_)
    refine L_op0 (X_store (b := b1) (o := 1) T23 rfl rfl rfl hB1 (by show (1 : Nat) < 4; decide) ?_)
    intro w17 hu17 hb17
    have hz17 := hu17.size
    replace hP2 := hP2.upd hu17 fun i h1 h2 h => by have h : i = b1 := h; omega
    replace hC2 := hC2.upd hu17 fun i h1 h2 h => by have h : i = b1 := h; omega
    replace hI2 := hI2.upd hu17 fun i h1 h2 h => by have h : i = b1 := h; omega
    replace hB2 := hB2.upd hu17 fun h => by have h : b2 = b1 := h; omega
    replace hX1 := hX1.upd hu17 fun h => by have h : x1 = b1 := h; omega
    replace hX2 := hX2.upd hu17 fun h => by have h : (x1 + 1) = b1 := h; omega
    replace hl := hl.upd hu17 fun i hi h => by have hi := hlb _ hi; have h : i = b1 := h; omega
    replace hU := hU.trans (hu17.mono fun i _ h => by have h : i = b1 := h; show n0 ≤ i; omega)
    replace hd := hd.upd hu17 fun h => by have h : nL = b1 := h; omega
    replace hB1 : Blk w17 b1 #[p_2, (.slice none 0 0), i_3, (.bool (off))] 26 := hb17
    refine L_nil ?_
    refine T_n ?_
    refine W_seq ?_
    refine W_reg ?_
    refine L_op rfl (X_loadA (p := (ptr b1 (0))) (xs := [p_2, (.slice none 0 0), i_3, (.bool (off))]) A26 rfl hB1.atAll rfl ?_)
    refine L_op0 (X_storeW (b := b2) (ys := [p_2, (.slice none 0 0), i_3, (.bool (off))]) A26 rfl rfl (List.forall_mem_cons.2 ⟨(hP2.1.sv.one), (List.forall_mem_cons.2 ⟨rfl, (List.forall_mem_cons.2 ⟨(hI2.1.sv.one), (List.forall_mem_cons.2 ⟨rfl, (fun _ h => by cases h)⟩)⟩)⟩)⟩) rfl hB2 rfl ?_)
    intro w18 hu18 hb18
    have hz18 := hu18.size
    replace hP2 := hP2.upd hu18 fun i h1 h2 h => by have h : i = b2 := h; omega
    replace hC2 := hC2.upd hu18 fun i h1 h2 h => by have h : i = b2 := h; omega
    replace hI2 := hI2.upd hu18 fun i h1 h2 h => by have h : i = b2 := h; omega
    replace hX1 := hX1.upd hu18 fun h => by have h : x1 = b2 := h; omega
    replace hX2 := hX2.upd hu18 fun h => by have h : (x1 + 1) = b2 := h; omega
    replace hl := hl.upd hu18 fun i hi h => by have hi := hlb _ hi; have h : i = b2 := h; omega
    replace hU := hU.trans (hu18.mono fun i _ h => by have h : i = b2 := h; show n0 ≤ i; omega)
    replace hd := hd.upd hu18 fun h => by have h : nL = b2 := h; omega
    replace hB1 := hB1.upd hu18 fun h => by have h : b1 = b2 := h; omega
    replace hB2 : Blk w18 b2 #[p_2, (.slice none 0 0), i_3, (.bool (off))] 26 := hb18
    refine L_nil ?_
    refine T_n ?_
    refine W_ret ?_
    refine S_r ?_
    refine BQ_r (End_m (hnL ▸ hd) fun w9 hu9 => ?_)
    have hz9 := hu9.size
    have hP2 := hP2.upd hu9 fun i h1 h2 h => by have h : i = nL := (by rw [hnL]; exact h); omega
    have hI2 := hI2.upd hu9 fun i h1 h2 h => by have h : i = nL := (by rw [hnL]; exact h); omega
    have hB2 := hB2.upd hu9 fun h => by have h : b2 = nL := (by rw [hnL]; exact h); omega
    exact End_1 Try.results9 (RV_A A26 rfl hB2.atAll rfl) ⟨_, _, rfl, by rw [← hqs]; exact hP2.mono (by omega) (by omega), by rw [← has]; exact hI2.mono (by omega) (by omega), (hU.trans (hu9.mono fun i _ h => by have h : i = nL := (by rw [hnL]; exact h); show n0 ≤ i; omega)).own hn0⟩
  · intro k e W hk_ hI_ hd_ he_
    exact hI_.elim
end Go.Proofs.Ytfmgjkchhajpmaa
