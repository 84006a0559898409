/-
 What chapter 10 takes over of chapter 03: which disks may be (reference). (Printed by wip/gen/t10.py of this repo.)
-/
import Derived.Test.YtcjfkkoapncnhaaHead
import Derived.Test.YtcjfkkoapncnhaaBaseR
namespace Go.Proofs.Ytcjfkkoapncnhaa
open Go Go.SL Go.Proofs
set_option linter.unusedVariables false

def HeadD (np nc : Nat) (off : Bool) : Prop := 32 ≤ np ∧ np ≤ 256 ∧ nc ≤ 2000 ∧ (off = true → nc = 0)
def InC (n : Nat) (cs : List Wr) (k : Nat) : Prop := ∀ (j : Nat) (c : Wr), j < k → cs[j]? = some c → 0 ≤ c.1 ∧ c.1 < n
def InB (n : Nat) (bs : List Int) (k : Nat) : Prop := ∀ (j : Nat) (a : Int), j < k → bs[j]? = some a → 0 ≤ a ∧ a < n ∧ ∀ b : Int, 0 < j → bs[j - 1]? = some b → b < a
def MayD (np : Nat) (cs : List Wr) (bs : List Int) (off : Bool) : Prop := HeadD np cs.length off ∧ InC np cs cs.length ∧ InB np bs bs.length
theorem inC_0 {n : Nat} {cs : List Wr} : InC n cs 0 := fun j _ h => absurd h (Nat.not_lt_zero j)
theorem inB_0 {n : Nat} {bs : List Int} : InB n bs 0 := fun j _ h => absurd h (Nat.not_lt_zero j)
theorem inC_mono {n k m : Nat} {cs : List Wr} (h : InC n cs m) (hk : k ≤ m) : InC n cs k := fun j c hj => h j c (by omega)
theorem inB_mono {n k m : Nat} {bs : List Int} (h : InB n bs m) (hk : k ≤ m) : InB n bs k := fun j c hj => h j c (by omega)
theorem inC_step {n i : Nat} {cs : List Wr} {c : Wr} (hc : cs[i]? = some c) : InC n cs (i + 1) ↔ InC n cs i ∧ 0 ≤ c.1 ∧ c.1 < n :=
 ⟨fun h => ⟨inC_mono h (by omega), h i c (by omega) hc⟩, fun h j e hj he => (Nat.lt_or_ge j i).elim (fun h1 => h.1 j e h1 he) fun h1 => by
  obtain rfl : j = i := by omega
  rw [hc] at he
  cases he
  exact h.2⟩
/-- the number ahead of place i; -1: there is none -/
def before (bs : List Int) (i : Nat) : Int := if i = 0 then -1 else bs.getD (i - 1) 0
theorem before_succ {bs : List Int} {i : Nat} {a : Int} (ha : bs[i]? = some a) : before bs (i + 1) = a := by
 unfold before
 rw [if_neg (by omega), Nat.add_sub_cancel, List.getD_eq_getElem?_getD, ha]; rfl
theorem inB_step {n i : Nat} {bs : List Int} {a : Int} (ha : bs[i]? = some a) : InB n bs (i + 1) ↔ InB n bs i ∧ before bs i < a ∧ a < n := by
 have hlen := (List.getElem?_eq_some_iff.1 ha).1
 constructor
 ·intro h
  obtain ⟨h1, h2, h3⟩ := h i a (by omega) ha
  refine ⟨inB_mono h (by omega), ?_, h2⟩
  unfold before
  split
  ·omega
  ·exact h3 _ (by omega) (by rw [List.getD_eq_getElem?_getD, List.getElem?_eq_getElem (by omega)]; rfl)
 ·rintro ⟨h, h1, h2⟩ j e hj he
  rcases Nat.lt_or_ge j i with h3 | h3
  ·exact h j e h3 he
  ·obtain rfl : j = i := by omega
   rw [ha] at he
   cases he
   unfold before at h1
   split at h1
   ·exact ⟨by omega, h2, fun b h4 => by omega⟩
   ·rename_i h4
    have hb : bs[j - 1]? = some (bs.getD (j - 1) 0) := by rw [List.getD_eq_getElem?_getD, List.getElem?_eq_getElem (by omega)]; rfl
    obtain ⟨h5, _, _⟩ := h (j - 1) _ (by omega) hb
    exact ⟨by omega, h2, fun b _ hb' => by rw [hb] at hb'; cases hb'; exact h1⟩
theorem inB_prev {bs : List Int} {i : Nat} {b : Int} (h0 : 0 < i) (hb : bs[i - 1]? = some b) : before bs i = b := by
 unfold before
 rw [if_neg (by omega), List.getD_eq_getElem?_getD, hb]; rfl
section rows
variable {w : World} {lo hi : Nat} {v : Value}
theorem wat {es : List Wr} (h : NRd LW w lo hi v es) {i : Int} {k : Nat} {e : Wr} (hik : i.toNat = k) (he : es[k]? = some e) : At w (pof v (i.toNat * 257 + 0)) [.int .i64 e.1] := by
 subst hik
 have h1 := h.cell (L := LW) (j := 0) he rfl
 rwa [show LW.sz = 257 from rfl] at h1
theorem wdata {es : List Wr} (h : NRd LW w lo hi v es) {i : Int} {k : Nat} {e : Wr} (hik : i.toNat = k) (he : es[k]? = some e) : At w (pof v (i.toNat * 257 + 1)) (e.2.1.map byteV) := by
 subst hik
 have h1 := h.cells (L := LW) (j := 1) (us := e.2.1.map byteV) he fun j u hj => by rw [Nat.add_comm]; exact hj
 rwa [show LW.sz = 257 from rfl] at h1
theorem wall {es : List Wr} (h : NRd LW w lo hi v es) {i : Int} {k : Nat} {e : Wr} (hik : i.toNat = k) (he : es[k]? = some e) : At w (pof v (i.toNat * 257)) (LW.cel e) := by
 subst hik
 have h1 := h.cells (L := LW) (j := 0) (us := LW.cel e) he fun j u hj => by rw [Nat.zero_add]; exact hj
 rwa [Nat.add_zero, show LW.sz = 257 from rfl] at h1
theorem iat {es : List Int} (h : NRd LI w lo hi v es) {i : Int} {k : Nat} {e : Int} (hik : i.toNat = k) (he : es[k]? = some e) : At w (pof v (i.toNat * 1)) [.int .i64 e] := by
 subst hik
 exact h.cells (L := LI) (j := 0) he fun j u hj => by rw [Nat.zero_add]; exact hj
theorem pall {es : List Pg} (h : NRd LP w lo hi v es) {i : Int} {k : Nat} {e : Pg} (hik : i.toNat = k) (he : es[k]? = some e) : At w (pof v (i.toNat * 256)) (e.1.map byteV) := by
 subst hik
 have h1 := h.cells (L := LP) (j := 0) (us := LP.cel e) he fun j u hj => by rw [Nat.zero_add]; exact hj
 rwa [Nat.add_zero, show LP.sz = 256 from rfl] at h1
end rows
def LD : Lay Dk where
 cel := Dk.cel
 sub d := [(d.pv, []), (d.cv, []), (d.bv, [])]
 sz := 4
 len _ := rfl
 one d h u hu := by
  simp [Dk.cel] at hu
  rcases hu with rfl | rfl | rfl | rfl
  ·exact h (d.pv, []) (by simp)
  ·exact h (d.cv, []) (by simp)
  ·exact h (d.bv, []) (by simp)
  ·rfl

theorem c_mayR (pv cv bv : Value) (ps : List Pg) (cs : List Wr) (bs : List Int) (off : Bool) (w : World) (lo up : Nat) (hp : NRd LP w lo up pv ps) (hc : NRd LW w lo up cv cs) (hb : NRd LI w lo up bv bs) : CT Try.prog 7 #[(.agg #[pv, cv, bv, (.bool (off))])] w fun v w' => (∃ g, v = .bool g ∧ (g = true ↔ MayD ps.length cs bs off)) ∧ Ext w w' := by
 obtain ⟨n0, hn0⟩ : ∃ n, n = w.heap.size := ⟨_, rfl⟩
 have hU : Upd (fun i => n0 ≤ i) w w := Upd.refl _ _
 have hpl := hp.sv.len
 have hcl := hc.sv.len
 have hbl := hb.sv.len
 refine CT_of Try.func7 rfl rfl rfl ?_
 refine W_seq ?_
 refine W_reg ?_
 refine L_op rfl (X_box (v := (.agg #[pv, cv, bv, (.bool (off))])) (c := ([pv, cv, bv, (.bool (off))]).toArray) rfl rfl ?_)
 intro b1 w1 hn1
 have hbn1 := hn1.num; have hbs1 := hn1.size
 replace hp := hp.ext hn1.ext
 replace hc := hc.ext hn1.ext
 replace hb := hb.ext hn1.ext
 replace hU := hU.trans (Ext.upd hn1.ext)
 have hB1 := hn1.blk
 refine L_op rfl (X_assign (v := (.bool (false))) rfl ?_)
 refine L_nil ?_
 refine T_n ?_
 refine W_seq ?_
 refine W_reg ?_
 refine L_op rfl (X_fldP (b := b1) (o := 0) (r := 0) Fd26_0 rfl rfl ?_)
 refine L_op rfl (X_load (p := (ptr b1 (0))) (v := pv) T22 rfl (hB1.at1 rfl) ?_)
 refine L_op rfl (X_len (v := pv) (n := ps.length) Try.underlying22 rfl hp.sv ?_)
 refine L_op rfl (X_assign (v := (.int .i64 (((ps.length : Nat) : Int)))) rfl ?_)
 refine L_nil ?_
 refine T_n ?_
 refine W_seq ?_
 refine W_seq ?_
 refine W_reg ?_
 refine L_op rfl (X_move (v := (.int .i64 (((ps.length : Nat) : Int)))) rfl ?_)
 by_cases hc2 : (((ps.length : Nat) : Int) : Int) < (32)
 ·refine L_op rfl (X_cmp (k := .i64) (a := ((ps.length : Nat) : Int)) (b := 32) (r := true) rfl rfl rfl (decide_eq_true (p := ((((ps.length : Nat) : Int)) : Int) < ((32) : Int)) (by omega)) ?_)
  refine L_op rfl (X_move (v := (.bool (true))) rfl ?_)
  refine L_gn (dj := 11) (t := true) rfl rfl rfl rfl ?_
  refine L_gn (dj := 11) (t := true) rfl rfl rfl rfl ?_
  refine L_op rfl (X_pick (t := true) (v := (.bool (true))) rfl rfl ?_)
  refine L_op rfl (X_move (v := (.bool (true))) rfl ?_)
  refine L_gn (dj := 15) (t := true) rfl rfl rfl rfl ?_
  refine L_gn (dj := 15) (t := true) rfl rfl rfl rfl ?_
  refine L_gn (dj := 15) (t := true) rfl rfl rfl rfl ?_
  refine L_gn (dj := 15) (t := true) rfl rfl rfl rfl ?_
  refine L_op rfl (X_pick (t := true) (v := (.bool (true))) rfl rfl ?_)
  refine L_op rfl (X_move (v := (.bool (true))) rfl ?_)
  refine L_gn (dj := 21) (t := true) rfl rfl rfl rfl ?_
  refine L_gn (dj := 21) (t := true) rfl rfl rfl rfl ?_
  refine L_gn (dj := 21) (t := true) rfl rfl rfl rfl ?_
  refine L_gu (dj := 24) rfl rfl rfl ?_
  refine L_gu (dj := 24) rfl rfl rfl ?_
  refine L_gu (dj := 24) rfl rfl rfl ?_
  refine L_gu (dj := 24) rfl rfl rfl ?_
  refine L_gn (dj := 21) (t := true) rfl rfl rfl rfl ?_
  refine L_op rfl (X_pick (t := true) (v := (.bool (true))) rfl rfl ?_)
  refine L_nil ?_
  refine T_n ?_
  refine W_ct rfl ?_
  refine W_seq ?_
  refine W_reg ?_
  refine L_op rfl (X_assign (v := (.bool (false))) rfl ?_)
  refine L_nil ?_
  refine T_n ?_
  refine W_ret ?_
  refine T_r ?_
  exact BQ_r (End_1 Try.results7 (v := .bool false) rfl ⟨⟨false, rfl, ⟨fun h => (by cases h), fun h => (by exfalso; have h1 := h.1; unfold HeadD at h1; simp_all <;> omega)⟩⟩, hU.own hn0⟩)
 ·refine L_op rfl (X_cmp (k := .i64) (a := ((ps.length : Nat) : Int)) (b := 32) (r := false) rfl rfl rfl (decide_eq_false (p := ((((ps.length : Nat) : Int)) : Int) < ((32) : Int)) (by omega)) ?_)
  refine L_op rfl (X_move (v := (.bool (false))) rfl ?_)
  refine L_gy (dj := 11) rfl rfl rfl (X_move (v := (.int .i64 (((ps.length : Nat) : Int)))) rfl ?_)
  by_cases hc3 : (((ps.length : Nat) : Int) : Int) > (256)
  ·refine L_gy (dj := 11) rfl rfl rfl (X_cmp (k := .i64) (a := ((ps.length : Nat) : Int)) (b := 256) (r := true) rfl rfl rfl (decide_eq_true (p := ((256) : Int) < ((((ps.length : Nat) : Int)) : Int)) (by omega)) ?_)
   refine L_op rfl (X_pick (t := false) (v := (.bool (true))) rfl rfl ?_)
   refine L_op rfl (X_move (v := (.bool (true))) rfl ?_)
   refine L_gn (dj := 15) (t := true) rfl rfl rfl rfl ?_
   refine L_gn (dj := 15) (t := true) rfl rfl rfl rfl ?_
   refine L_gn (dj := 15) (t := true) rfl rfl rfl rfl ?_
   refine L_gn (dj := 15) (t := true) rfl rfl rfl rfl ?_
   refine L_op rfl (X_pick (t := true) (v := (.bool (true))) rfl rfl ?_)
   refine L_op rfl (X_move (v := (.bool (true))) rfl ?_)
   refine L_gn (dj := 21) (t := true) rfl rfl rfl rfl ?_
   refine L_gn (dj := 21) (t := true) rfl rfl rfl rfl ?_
   refine L_gn (dj := 21) (t := true) rfl rfl rfl rfl ?_
   refine L_gu (dj := 24) rfl rfl rfl ?_
   refine L_gu (dj := 24) rfl rfl rfl ?_
   refine L_gu (dj := 24) rfl rfl rfl ?_
   refine L_gu (dj := 24) rfl rfl rfl ?_
   refine L_gn (dj := 21) (t := true) rfl rfl rfl rfl ?_
   refine L_op rfl (X_pick (t := true) (v := (.bool (true))) rfl rfl ?_)
   refine L_nil ?_
   refine T_n ?_
   refine W_ct rfl ?_
   refine W_seq ?_
   refine W_reg ?_
   refine L_op rfl (X_assign (v := (.bool (false))) rfl ?_)
   refine L_nil ?_
   refine T_n ?_
   refine W_ret ?_
   refine T_r ?_
   exact BQ_r (End_1 Try.results7 (v := .bool false) rfl ⟨⟨false, rfl, ⟨fun h => (by cases h), fun h => (by exfalso; have h1 := h.1; unfold HeadD at h1; simp_all <;> omega)⟩⟩, hU.own hn0⟩)
  ·refine L_gy (dj := 11) rfl rfl rfl (X_cmp (k := .i64) (a := ((ps.length : Nat) : Int)) (b := 256) (r := false) rfl rfl rfl (decide_eq_false (p := ((256) : Int) < ((((ps.length : Nat) : Int)) : Int)) (by omega)) ?_)
   refine L_op rfl (X_pick (t := false) (v := (.bool (false))) rfl rfl ?_)
   refine L_op rfl (X_move (v := (.bool (false))) rfl ?_)
   refine L_gy (dj := 15) rfl rfl rfl (X_fldP (b := b1) (o := 0) (r := 1) Fd26_1 rfl rfl ?_)
   refine L_gy (dj := 15) rfl rfl rfl (X_load (p := (ptr b1 (1))) (v := cv) T23 rfl (hB1.at1 rfl) ?_)
   refine L_gy (dj := 15) rfl rfl rfl (X_len (v := cv) (n := cs.length) Try.underlying23 rfl hc.sv ?_)
   by_cases hc4 : (((cs.length : Nat) : Int) : Int) > (2000)
   ·refine L_gy (dj := 15) rfl rfl rfl (X_cmp (k := .i64) (a := ((cs.length : Nat) : Int)) (b := 2000) (r := true) rfl rfl rfl (decide_eq_true (p := ((2000) : Int) < ((((cs.length : Nat) : Int)) : Int)) (by omega)) ?_)
    refine L_op rfl (X_pick (t := false) (v := (.bool (true))) rfl rfl ?_)
    refine L_op rfl (X_move (v := (.bool (true))) rfl ?_)
    refine L_gn (dj := 21) (t := true) rfl rfl rfl rfl ?_
    refine L_gn (dj := 21) (t := true) rfl rfl rfl rfl ?_
    refine L_gn (dj := 21) (t := true) rfl rfl rfl rfl ?_
    refine L_gu (dj := 24) rfl rfl rfl ?_
    refine L_gu (dj := 24) rfl rfl rfl ?_
    refine L_gu (dj := 24) rfl rfl rfl ?_
    refine L_gu (dj := 24) rfl rfl rfl ?_
    refine L_gn (dj := 21) (t := true) rfl rfl rfl rfl ?_
    refine L_op rfl (X_pick (t := true) (v := (.bool (true))) rfl rfl ?_)
    refine L_nil ?_
    refine T_n ?_
    refine W_ct rfl ?_
    refine W_seq ?_
    refine W_reg ?_
    refine L_op rfl (X_assign (v := (.bool (false))) rfl ?_)
    refine L_nil ?_
    refine T_n ?_
    refine W_ret ?_
    refine T_r ?_
    exact BQ_r (End_1 Try.results7 (v := .bool false) rfl ⟨⟨false, rfl, ⟨fun h => (by cases h), fun h => (by exfalso; have h1 := h.1; unfold HeadD at h1; simp_all <;> omega)⟩⟩, hU.own hn0⟩)
   ·refine L_gy (dj := 15) rfl rfl rfl (X_cmp (k := .i64) (a := ((cs.length : Nat) : Int)) (b := 2000) (r := false) rfl rfl rfl (decide_eq_false (p := ((2000) : Int) < ((((cs.length : Nat) : Int)) : Int)) (by omega)) ?_)
    refine L_op rfl (X_pick (t := false) (v := (.bool (false))) rfl rfl ?_)
    refine L_op rfl (X_move (v := (.bool (false))) rfl ?_)
    refine L_gy (dj := 21) rfl rfl rfl (X_fldP (b := b1) (o := 0) (r := 3) Fd26_3 rfl rfl ?_)
    rcases Bool.eq_false_or_eq_true off with ho5 | ho5
    ·refine L_gy (dj := 21) rfl rfl rfl (X_load (p := (ptr b1 (3))) (v := .bool true) T4 rfl (hB1.at1 (by rw [ho5]; rfl)) ?_)
     refine L_gy (dj := 21) rfl rfl rfl (X_move (v := (.bool (true))) rfl ?_)
     refine L_gy (dj := 24) rfl rfl rfl (X_fldP (b := b1) (o := 0) (r := 1) Fd26_1 rfl rfl ?_)
     refine L_gy (dj := 24) rfl rfl rfl (X_load (p := (ptr b1 (1))) (v := cv) T23 rfl (hB1.at1 rfl) ?_)
     refine L_gy (dj := 24) rfl rfl rfl (X_len (v := cv) (n := cs.length) Try.underlying23 rfl hc.sv ?_)
     by_cases hc6 : (((cs.length : Nat) : Int) : Int) > (0)
     ·refine L_gy (dj := 24) rfl rfl rfl (X_cmp (k := .i64) (a := ((cs.length : Nat) : Int)) (b := 0) (r := true) rfl rfl rfl (decide_eq_true (p := ((0) : Int) < ((((cs.length : Nat) : Int)) : Int)) (by omega)) ?_)
      refine L_gy (dj := 21) rfl rfl rfl (X_pick (t := true) (v := (.bool (true))) rfl rfl ?_)
      refine L_op rfl (X_pick (t := false) (v := (.bool (true))) rfl rfl ?_)
      refine L_nil ?_
      refine T_n ?_
      refine W_ct rfl ?_
      refine W_seq ?_
      refine W_reg ?_
      refine L_op rfl (X_assign (v := (.bool (false))) rfl ?_)
      refine L_nil ?_
      refine T_n ?_
      refine W_ret ?_
      refine T_r ?_
      exact BQ_r (End_1 Try.results7 (v := .bool false) rfl ⟨⟨false, rfl, ⟨fun h => (by cases h), fun h => (by exfalso; have h1 := h.1; unfold HeadD at h1; simp_all <;> omega)⟩⟩, hU.own hn0⟩)
     ·refine L_gy (dj := 24) rfl rfl rfl (X_cmp (k := .i64) (a := ((cs.length : Nat) : Int)) (b := 0) (r := false) rfl rfl rfl (decide_eq_false (p := ((0) : Int) < ((((cs.length : Nat) : Int)) : Int)) (by omega)) ?_)
      refine L_gy (dj := 21) rfl rfl rfl (X_pick (t := true) (v := (.bool (false))) rfl rfl ?_)
      refine L_op rfl (X_pick (t := false) (v := (.bool (false))) rfl rfl ?_)
      refine L_nil ?_
      refine T_n ?_
      refine W_cf rfl ?_
      refine W_skip ?_
      refine T_n ?_
      refine W_seq ?_
      refine W_seq ?_
      refine W_reg ?_
      refine L_op rfl (X_assign (v := (.int .i64 (0))) rfl ?_)
      refine L_nil ?_
      refine T_n ?_
      refine W_block ?_
      refine W_loop (α := Nat) [2, 4, 31, 32, 33, 34, 35, 36, 37, 38, 39, 40, 41, 42, 43, 44, 45, 46, 47, 48, 49, 50, 51, 52, 53, 54] (fun i => [(4, (.int .i64 (((i : Nat) : Int))))]) (fun i w_ => i ≤ cs.length ∧ NRd LW w_ lo up cv cs ∧ NRd LI w_ lo up bv bs ∧ Blk w_ b1 #[pv, cv, bv, .bool off] 26 ∧ Upd (fun i => n0 ≤ i) w w_ ∧ InC ps.length cs i) (fun i => cs.length - i) ⟨rfl, 0, ⟨Nat.zero_le _, hc, hb, hB1, hU, inC_0⟩, Out.refl _ _, ⟨rfl, trivial⟩⟩ ?_
      rintro i w7 _ ⟨hil, hc, hb, hB1, hU, hzc⟩
      refine W_seq ?_
      refine W_seq ?_
      refine W_reg ?_
      refine L_op rfl (X_move (v := (.int .i64 (((i : Nat) : Int)))) rfl ?_)
      refine L_op rfl (X_fldP (b := b1) (o := 0) (r := 1) Fd26_1 rfl rfl ?_)
      refine L_op rfl (X_load (p := (ptr b1 (1))) (v := cv) T23 rfl (hB1.at1 rfl) ?_)
      refine L_op rfl (X_len (v := cv) (n := cs.length) Try.underlying23 rfl hc.sv ?_)
      by_cases hc8 : (((i : Nat) : Int) : Int) < (((cs.length : Nat) : Int))
      ·refine L_op rfl (X_cmp (k := .i64) (a := ((i : Nat) : Int)) (b := ((cs.length : Nat) : Int)) (r := true) rfl rfl rfl (decide_eq_true (p := ((((i : Nat) : Int)) : Int) < ((((cs.length : Nat) : Int)) : Int)) (by omega)) ?_)
       have hi : i < cs.length := by omega
       obtain ⟨e, hei⟩ : ∃ e, cs[i]? = some e := ⟨_, List.getElem?_eq_getElem hi⟩
       refine L_nil ?_
       refine T_n ?_
       refine W_ct rfl ?_
       refine W_skip ?_
       refine T_n ?_
       refine W_seq ?_
       refine W_block ?_
       refine W_seq ?_
       refine W_reg ?_
       refine L_op rfl (X_fldP (b := b1) (o := 0) (r := 1) Fd26_1 rfl rfl ?_)
       refine L_op rfl (X_load (p := (ptr b1 (1))) (v := cv) T23 rfl (hB1.at1 rfl) ?_)
       refine L_op rfl (X_move (v := (.int .i64 (((i : Nat) : Int)))) rfl ?_)
       refine L_op rfl (X_idx (v := cv) (n := cs.length) (k := .i64) (i := ((i : Nat) : Int)) S23 rfl hc.sv rfl (by omega) (by omega) ?_)
       refine L_op rfl (X_fldS (v := cv) (o := (((i : Nat) : Int) : Int).toNat * 257) Fd63_0 rfl hc.sv (by omega) ?_)
       refine L_op rfl (X_load (v := .int .i64 e.1) T3 rfl (wat hc (Int.toNat_natCast _) hei) ?_)
       by_cases hc9 : (e.1 : Int) < (0)
       ·refine L_op rfl (X_cmp (k := .i64) (a := e.1) (b := 0) (r := true) rfl rfl rfl (decide_eq_true (p := ((e.1) : Int) < ((0) : Int)) (by omega)) ?_)
        refine L_op rfl (X_move (v := (.bool (true))) rfl ?_)
        refine L_gn (dj := 45) (t := true) rfl rfl rfl rfl ?_
        refine L_gn (dj := 45) (t := true) rfl rfl rfl rfl ?_
        refine L_gn (dj := 45) (t := true) rfl rfl rfl rfl ?_
        refine L_gn (dj := 45) (t := true) rfl rfl rfl rfl ?_
        refine L_gn (dj := 45) (t := true) rfl rfl rfl rfl ?_
        refine L_gn (dj := 45) (t := true) rfl rfl rfl rfl ?_
        refine L_gn (dj := 45) (t := true) rfl rfl rfl rfl ?_
        refine L_gn (dj := 45) (t := true) rfl rfl rfl rfl ?_
        refine L_op rfl (X_pick (t := true) (v := (.bool (true))) rfl rfl ?_)
        refine L_nil ?_
        refine T_n ?_
        refine W_ct rfl ?_
        refine W_seq ?_
        refine W_reg ?_
        refine L_op rfl (X_assign (v := (.bool (false))) rfl ?_)
        refine L_nil ?_
        refine T_n ?_
        refine W_ret ?_
        refine B_r ?_
        refine T_r ?_
        refine T_r ?_
        refine B_r ?_
        refine T_r ?_
        exact BQ_r (End_1 Try.results7 (v := .bool false) rfl ⟨⟨false, rfl, ⟨fun h => (by cases h), fun h => (by have h1 := (inC_step hei).1 (inC_mono h.2.1 hi); omega)⟩⟩, hU.own hn0⟩)
       ·refine L_op rfl (X_cmp (k := .i64) (a := e.1) (b := 0) (r := false) rfl rfl rfl (decide_eq_false (p := ((e.1) : Int) < ((0) : Int)) (by omega)) ?_)
        refine L_op rfl (X_move (v := (.bool (false))) rfl ?_)
        refine L_gy (dj := 45) rfl rfl rfl (X_fldP (b := b1) (o := 0) (r := 1) Fd26_1 rfl rfl ?_)
        refine L_gy (dj := 45) rfl rfl rfl (X_load (p := (ptr b1 (1))) (v := cv) T23 rfl (hB1.at1 rfl) ?_)
        refine L_gy (dj := 45) rfl rfl rfl (X_move (v := (.int .i64 (((i : Nat) : Int)))) rfl ?_)
        refine L_gy (dj := 45) rfl rfl rfl (X_idx (v := cv) (n := cs.length) (k := .i64) (i := ((i : Nat) : Int)) S23 rfl hc.sv rfl (by omega) (by omega) ?_)
        refine L_gy (dj := 45) rfl rfl rfl (X_fldS (v := cv) (o := (((i : Nat) : Int) : Int).toNat * 257) Fd63_0 rfl hc.sv (by omega) ?_)
        refine L_gy (dj := 45) rfl rfl rfl (X_load (v := .int .i64 e.1) T3 rfl (wat hc (Int.toNat_natCast _) hei) ?_)
        refine L_gy (dj := 45) rfl rfl rfl (X_move (v := (.int .i64 (((ps.length : Nat) : Int)))) rfl ?_)
        by_cases hc10 : (e.1 : Int) ≥ (((ps.length : Nat) : Int))
        ·refine L_gy (dj := 45) rfl rfl rfl (X_cmp (k := .i64) (a := e.1) (b := ((ps.length : Nat) : Int)) (r := true) rfl rfl rfl (decide_eq_true (p := ((((ps.length : Nat) : Int)) : Int) ≤ ((e.1) : Int)) (by omega)) ?_)
         refine L_op rfl (X_pick (t := false) (v := (.bool (true))) rfl rfl ?_)
         refine L_nil ?_
         refine T_n ?_
         refine W_ct rfl ?_
         refine W_seq ?_
         refine W_reg ?_
         refine L_op rfl (X_assign (v := (.bool (false))) rfl ?_)
         refine L_nil ?_
         refine T_n ?_
         refine W_ret ?_
         refine B_r ?_
         refine T_r ?_
         refine T_r ?_
         refine B_r ?_
         refine T_r ?_
         exact BQ_r (End_1 Try.results7 (v := .bool false) rfl ⟨⟨false, rfl, ⟨fun h => (by cases h), fun h => (by have h1 := (inC_step hei).1 (inC_mono h.2.1 hi); omega)⟩⟩, hU.own hn0⟩)
        ·refine L_gy (dj := 45) rfl rfl rfl (X_cmp (k := .i64) (a := e.1) (b := ((ps.length : Nat) : Int)) (r := false) rfl rfl rfl (decide_eq_false (p := ((((ps.length : Nat) : Int)) : Int) ≤ ((e.1) : Int)) (by omega)) ?_)
         refine L_op rfl (X_pick (t := false) (v := (.bool (false))) rfl rfl ?_)
         refine L_nil ?_
         refine T_n ?_
         refine W_cf rfl ?_
         refine W_skip ?_
         refine B_n ?_
         refine T_n ?_
         refine W_reg ?_
         refine L_op rfl (X_move (v := (.int .i64 (((i : Nat) : Int)))) rfl ?_)
         refine L_op rfl (X_arith (k := .i64) (a := ((i : Nat) : Int)) (b := 1) (r := ((i + 1 : Nat) : Int)) rfl rfl rfl (iadd64 (by omega) (by omega) (by omega)) ?_)
         refine L_op rfl (X_assign (v := (.int .i64 (((i + 1 : Nat) : Int)))) rfl ?_)
         refine L_nil ?_
         refine T_n ?_
         exact ⟨rfl, i + 1, ⟨⟨hi, hc, hb, hB1, hU, (inC_step hei).2 ⟨hzc, by omega, by omega⟩⟩, (by show cs.length - (i + 1) < cs.length - i; omega)⟩, (Out.mk rfl), ⟨rfl, trivial⟩⟩
      ·refine L_op rfl (X_cmp (k := .i64) (a := ((i : Nat) : Int)) (b := ((cs.length : Nat) : Int)) (r := false) rfl rfl rfl (decide_eq_false (p := ((((i : Nat) : Int)) : Int) < ((((cs.length : Nat) : Int)) : Int)) (by omega)) ?_)
       have hH : HeadD ps.length cs.length off := ⟨by omega, by omega, by omega, fun h => by simp_all <;> omega⟩
       refine L_nil ?_
       refine T_n ?_
       refine W_cf rfl ?_
       refine W_exit ?_
       refine T_e ?_
       refine T_e ?_
       refine B_x ?_
       refine T_n ?_
       refine W_seq ?_
       refine W_seq ?_
       refine W_reg ?_
       refine L_op rfl (X_assign (v := (.int .i64 (0))) rfl ?_)
       refine L_nil ?_
       refine T_n ?_
       refine W_block ?_
       refine W_loop (α := Nat) [2, 5, 55, 56, 57, 58, 59, 60, 61, 62, 63, 64, 65, 66, 67, 68, 69, 70, 71, 72, 73, 74, 75, 76, 77, 78, 79, 80, 81, 82, 83, 84, 85, 86, 87, 88, 89, 90, 91, 92, 93, 94] (fun i => [(5, (.int .i64 (((i : Nat) : Int))))]) (fun i w_ => i ≤ bs.length ∧ NRd LW w_ lo up cv cs ∧ NRd LI w_ lo up bv bs ∧ Blk w_ b1 #[pv, cv, bv, .bool off] 26 ∧ Upd (fun i => n0 ≤ i) w w_ ∧ InB ps.length bs i) (fun i => bs.length - i) ⟨rfl, 0, ⟨Nat.zero_le _, hc, hb, hB1, hU, inB_0⟩, Out.refl _ _, ⟨rfl, trivial⟩⟩ ?_
       rintro i w11 _ ⟨hil, hc, hb, hB1, hU, hzb⟩
       refine W_seq ?_
       refine W_seq ?_
       refine W_reg ?_
       refine L_op rfl (X_move (v := (.int .i64 (((i : Nat) : Int)))) rfl ?_)
       refine L_op rfl (X_fldP (b := b1) (o := 0) (r := 2) Fd26_2 rfl rfl ?_)
       refine L_op rfl (X_load (p := (ptr b1 (2))) (v := bv) T24 rfl (hB1.at1 rfl) ?_)
       refine L_op rfl (X_len (v := bv) (n := bs.length) Try.underlying24 rfl hb.sv ?_)
       by_cases hc12 : (((i : Nat) : Int) : Int) < (((bs.length : Nat) : Int))
       ·refine L_op rfl (X_cmp (k := .i64) (a := ((i : Nat) : Int)) (b := ((bs.length : Nat) : Int)) (r := true) rfl rfl rfl (decide_eq_true (p := ((((i : Nat) : Int)) : Int) < ((((bs.length : Nat) : Int)) : Int)) (by omega)) ?_)
        have hi : i < bs.length := by omega
        obtain ⟨a, hai⟩ : ∃ a, bs[i]? = some a := ⟨_, List.getElem?_eq_getElem hi⟩
        have hst := inB_step (n := ps.length) hai
        refine L_nil ?_
        refine T_n ?_
        refine W_ct rfl ?_
        refine W_skip ?_
        refine T_n ?_
        refine W_seq ?_
        refine W_block ?_
        refine W_seq ?_
        rcases Bool.eq_false_or_eq_true (decide (a < 0)) with hs13 | hs13
        ·refine W_draw 30 [[], [0], [], [0, 1, 2], [0, 1, 2, 3], [0, 1, 2, 3, 4], [0, 1, 2, 3, 4, 5], [0, 1, 2, 3, 4, 5, 6], [0, 1, 2, 3, 4, 5, 6, 7], [0, 1, 2, 3, 4, 5, 6], [0, 1, 2, 3, 4, 5, 6, 7, 8, 9], [0, 1, 2, 3, 4, 5, 6, 7, 8, 9, 10], [0, 1, 2, 3, 4, 5, 6], [0, 1, 2, 3, 4, 5, 6, 7, 8, 9, 10, 11, 12], [0, 1, 2, 3, 4, 5, 6, 7, 8, 9, 10, 11, 12, 13], [0, 1, 2, 3, 4, 5, 6, 7, 8, 9, 10, 11, 12, 13, 14], [0, 1, 2, 3, 4, 5, 6, 7, 8, 9, 10, 11, 12, 13, 14, 15], [0, 1, 2, 3, 4, 5, 6, 7, 8, 9, 10, 11, 12, 13, 14, 15, 16], [0, 1, 2, 3, 4, 5, 6, 7, 8, 9, 10, 11, 12, 13, 14, 15, 16, 17], [0, 1, 2, 3, 4, 5, 6, 7, 8, 9, 10, 11, 12, 13, 14, 15, 16, 17, 18], [0, 1, 2, 3, 4, 5, 6, 7, 8, 9, 10, 11, 12, 13, 14, 15, 16, 17, 18, 19], [0, 1, 2, 3, 4, 5, 6, 7, 8, 9, 10, 11, 12, 13, 14, 15, 16, 17, 18], [0, 1, 2, 3, 4, 5, 6, 7, 8, 9, 10, 11, 12, 13, 14, 15, 16, 17, 18, 21], [0, 1, 2, 3, 4, 5, 6, 7, 8, 9, 10, 11, 12, 13, 14, 15, 16, 17, 18, 19, 20, 21, 22], [0, 1, 2, 3, 4, 5, 6, 7, 8, 9, 10, 11, 12, 13, 14, 15, 16, 17, 18, 19, 20, 21, 22, 23], [0, 1, 2, 3, 4, 5, 6, 7, 8, 9, 10, 11, 12, 13, 14, 15, 16, 17, 18], [0, 1, 2, 3, 4, 5, 6, 7, 8, 9, 10, 11, 12, 13, 14, 15, 16, 17, 18, 25], [0, 1, 2, 3, 4, 5, 6, 7, 8, 9, 10, 11, 12, 13, 14, 15, 16, 17, 18], [0, 1, 2, 3, 4, 5, 6, 7, 8, 9, 10, 11, 12, 13, 14, 15, 16, 17, 18, 25, 26, 27], [0, 1, 2, 3, 4, 5, 6, 7, 8, 9, 10, 11, 12, 13, 14, 15, 16, 17, 18, 25, 26, 27, 28], [0, 1, 2, 3, 4, 5, 6, 7, 8, 9, 10, 11, 12, 13, 14, 15, 16, 17, 18, 19, 20, 21, 22, 23, 24, 25, 26, 27, 28, 29], [0, 1, 2, 3, 4, 5, 6, 7, 8, 9, 10, 11, 12, 13, 14, 15, 16, 17, 18, 19, 20, 21, 22, 23, 24, 25, 26, 27, 28, 29, 30], [0, 1, 2, 3, 4, 5, 6, 7, 8, 9, 10, 11, 12, 13, 14, 15, 16, 17, 18, 19, 20, 21, 22, 23, 24, 25, 26, 27, 28, 29, 30, 31]] mixed (by kernel_rfl) ?_
         refine ⟨.det (fun val => (ptr b1 (2))), ⟨fun _ _ hv => rfl, fun _ _ _ _ _ => trivial⟩, fun val h_ W hx he => ⟨trivial, ?_⟩, ?_⟩
         ·exact X_fldP (b := b1) (o := 0) (r := 2) Fd26_2 rfl rfl ⟨Upd.refl _ _, rfl⟩
         refine ⟨.det (fun val => bv), ⟨fun _ _ hv => rfl, fun _ _ _ _ _ => trivial⟩, fun val h_ W hx he => ⟨trivial, ?_⟩, ?_⟩
         ·replace hx := (Upd.drew _ _).trans hx
          replace hB1 := hB1.ext hx
          refine id (X_load (p := (ptr b1 (2))) (v := bv) T24 rfl (hB1.at1 rfl) ?_)
          exact ⟨Upd.refl _ _, rfl⟩
         refine ⟨.det (fun val => (.int .i64 (((i : Nat) : Int)))), ⟨fun _ _ hv => rfl, fun _ _ _ _ _ => trivial⟩, fun val h_ W hx he => ⟨trivial, ?_⟩, ?_⟩
         ·exact X_move (v := (.int .i64 (((i : Nat) : Int)))) rfl ⟨Upd.refl _ _, rfl⟩
         refine ⟨.det (fun val => (pof bv ((((i : Nat) : Int) : Int).toNat * 1))), ⟨fun _ _ hv => rfl, fun _ _ _ _ _ => trivial⟩, fun val h_ W hx he => ⟨trivial, ?_⟩, ?_⟩
         ·replace hx := (Upd.drew _ _).trans hx
          replace hb := hb.ext hx
          refine id (X_idx (v := bv) (n := bs.length) (k := .i64) (i := ((i : Nat) : Int)) S24 rfl hb.sv rfl (by omega) (by omega) ?_)
          exact ⟨Upd.refl _ _, rfl⟩
         refine ⟨.det (fun val => (.int .i64 (a))), ⟨fun _ _ hv => rfl, fun _ _ _ _ _ => trivial⟩, fun val h_ W hx he => ⟨trivial, ?_⟩, ?_⟩
         ·replace hx := (Upd.drew _ _).trans hx
          replace hb := hb.ext hx
          refine id (X_load (v := .int .i64 a) T3 rfl (iat hb (Int.toNat_natCast _) hai) ?_)
          exact ⟨Upd.refl _ _, rfl⟩
         refine ⟨.det (fun val => (.bool (true))), ⟨fun _ _ hv => rfl, fun _ _ _ _ _ => trivial⟩, fun val h_ W hx he => ⟨trivial, ?_⟩, ?_⟩
         ·exact X_cmp (k := .i64) (a := a) (b := 0) (r := true) rfl rfl rfl (decide_eq_true (p := ((a) : Int) < ((0) : Int)) (by have h_ := of_decide_eq_true hs13; omega)) ⟨Upd.refl _ _, rfl⟩
         refine ⟨.det (fun val => (.bool (true))), ⟨fun _ _ hv => rfl, fun _ _ _ _ _ => trivial⟩, fun val h_ W hx he => ⟨trivial, ?_⟩, ?_⟩
         ·exact X_move (v := (.bool (true))) rfl ⟨Upd.refl _ _, rfl⟩
         refine ⟨.no, ⟨fun _ _ _ => trivial, fun _ _ _ _ _ => trivial⟩, fun val h_ W hx he => ⟨68, rfl, .inl rfl⟩, ?_⟩
         refine ⟨.no, ⟨fun _ _ _ => trivial, fun _ _ _ _ _ => trivial⟩, fun val h_ W hx he => ⟨68, rfl, .inl rfl⟩, ?_⟩
         refine ⟨.no, ⟨fun _ _ _ => trivial, fun _ _ _ _ _ => trivial⟩, fun val h_ W hx he => ⟨68, rfl, .inl rfl⟩, ?_⟩
         refine ⟨.no, ⟨fun _ _ _ => trivial, fun _ _ _ _ _ => trivial⟩, fun val h_ W hx he => ⟨68, rfl, .inl rfl⟩, ?_⟩
         refine ⟨.no, ⟨fun _ _ _ => trivial, fun _ _ _ _ _ => trivial⟩, fun val h_ W hx he => ⟨68, rfl, .inl rfl⟩, ?_⟩
         refine ⟨.no, ⟨fun _ _ _ => trivial, fun _ _ _ _ _ => trivial⟩, fun val h_ W hx he => ⟨68, rfl, .inl rfl⟩, ?_⟩
         refine ⟨.no, ⟨fun _ _ _ => trivial, fun _ _ _ _ _ => trivial⟩, fun val h_ W hx he => ⟨68, rfl, .inl rfl⟩, ?_⟩
         refine ⟨.det (fun val => (.bool (true))), ⟨fun _ _ hv => rfl, fun _ _ _ _ _ => trivial⟩, fun val h_ W hx he => ⟨trivial, ?_⟩, ?_⟩
         ·exact X_pick (t := true) (v := (.bool (true))) rfl rfl ⟨Upd.refl _ _, rfl⟩
         refine ⟨.det (fun val => (.bool (true))), ⟨fun _ _ hv => rfl, fun _ _ _ _ _ => trivial⟩, fun val h_ W hx he => ⟨trivial, ?_⟩, ?_⟩
         ·exact X_move (v := (.bool (true))) rfl ⟨Upd.refl _ _, rfl⟩
         refine ⟨.no, ⟨fun _ _ _ => trivial, fun _ _ _ _ _ => trivial⟩, fun val h_ W hx he => ⟨77, rfl, .inl rfl⟩, ?_⟩
         refine ⟨.no, ⟨fun _ _ _ => trivial, fun _ _ _ _ _ => trivial⟩, fun val h_ W hx he => ⟨77, rfl, .inl rfl⟩, ?_⟩
         refine ⟨.no, ⟨fun _ _ _ => trivial, fun _ _ _ _ _ => trivial⟩, fun val h_ W hx he => ⟨77, rfl, .inl rfl⟩, ?_⟩
         refine ⟨.no, ⟨fun _ _ _ => trivial, fun _ _ _ _ _ => trivial⟩, fun val h_ W hx he => ⟨80, rfl, .inr rfl⟩, ?_⟩
         refine ⟨.no, ⟨fun _ _ _ => trivial, fun _ _ _ _ _ => trivial⟩, fun val h_ W hx he => ⟨80, rfl, .inr rfl⟩, ?_⟩
         refine ⟨.no, ⟨fun _ _ _ => trivial, fun _ _ _ _ _ => trivial⟩, fun val h_ W hx he => ⟨80, rfl, .inr rfl⟩, ?_⟩
         refine ⟨.no, ⟨fun _ _ _ => trivial, fun _ _ _ _ _ => trivial⟩, fun val h_ W hx he => ⟨80, rfl, .inr rfl⟩, ?_⟩
         refine ⟨.no, ⟨fun _ _ _ => trivial, fun _ _ _ _ _ => trivial⟩, fun val h_ W hx he => ⟨80, rfl, .inr rfl⟩, ?_⟩
         refine ⟨.no, ⟨fun _ _ _ => trivial, fun _ _ _ _ _ => trivial⟩, fun val h_ W hx he => ⟨80, rfl, .inr rfl⟩, ?_⟩
         refine ⟨.no, ⟨fun _ _ _ => trivial, fun _ _ _ _ _ => trivial⟩, fun val h_ W hx he => ⟨80, rfl, .inr rfl⟩, ?_⟩
         refine ⟨.no, ⟨fun _ _ _ => trivial, fun _ _ _ _ _ => trivial⟩, fun val h_ W hx he => ⟨80, rfl, .inr rfl⟩, ?_⟩
         refine ⟨.no, ⟨fun _ _ _ => trivial, fun _ _ _ _ _ => trivial⟩, fun val h_ W hx he => ⟨80, rfl, .inr rfl⟩, ?_⟩
         refine ⟨.no, ⟨fun _ _ _ => trivial, fun _ _ _ _ _ => trivial⟩, fun val h_ W hx he => ⟨80, rfl, .inr rfl⟩, ?_⟩
         refine ⟨.no, ⟨fun _ _ _ => trivial, fun _ _ _ _ _ => trivial⟩, fun val h_ W hx he => ⟨80, rfl, .inr rfl⟩, ?_⟩
         intro val W14 hx14 he14
         replace hx14 := (Upd.drew _ _).trans hx14
         have hz14 := hx14.size
         replace hc := hc.ext hx14
         replace hb := hb.ext hx14
         replace hU := hU.trans (Ext.upd hx14)
         replace hB1 := hB1.ext hx14
         refine L_gu (dj := 80) rfl rfl rfl ?_
         refine L_gn (dj := 77) (t := true) rfl rfl rfl rfl ?_
         refine L_op rfl (X_pick (t := true) (v := (.bool (true))) rfl rfl ?_)
         refine L_nil ?_
         refine T_n ?_
         refine W_ct rfl ?_
         refine W_seq ?_
         refine W_reg ?_
         refine L_op rfl (X_assign (v := (.bool (false))) rfl ?_)
         refine L_nil ?_
         refine T_n ?_
         refine W_ret ?_
         refine B_r ?_
         refine T_r ?_
         refine T_r ?_
         refine B_r ?_
         refine T_r ?_
         exact BQ_r (End_1 Try.results7 (v := .bool false) rfl ⟨⟨false, rfl, ⟨fun h => (by cases h), fun h => (by have h1 := hst.1 (inB_mono h.2.2 hi); have h2 := (inB_mono h.2.2 hi) i a (Nat.lt_succ_self _) hai; have h3_ := of_decide_eq_true hs13; omega)⟩⟩, hU.own hn0⟩)
        ·rcases Bool.eq_false_or_eq_true (decide (((ps.length : Nat) : Int) ≤ a)) with hs15 | hs15
         ·refine W_draw 30 [[], [0], [], [0, 1, 2], [0, 1, 2, 3], [0, 1, 2, 3, 4], [0, 1, 2, 3, 4, 5], [0, 1, 2, 3, 4, 5, 6], [0, 1, 2, 3, 4, 5, 6, 7], [0, 1, 2, 3, 4, 5, 6], [0, 1, 2, 3, 4, 5, 6, 7, 8, 9], [0, 1, 2, 3, 4, 5, 6, 7, 8, 9, 10], [0, 1, 2, 3, 4, 5, 6], [0, 1, 2, 3, 4, 5, 6, 7, 8, 9, 10, 11, 12], [0, 1, 2, 3, 4, 5, 6, 7, 8, 9, 10, 11, 12, 13], [0, 1, 2, 3, 4, 5, 6, 7, 8, 9, 10, 11, 12, 13, 14], [0, 1, 2, 3, 4, 5, 6, 7, 8, 9, 10, 11, 12, 13, 14, 15], [0, 1, 2, 3, 4, 5, 6, 7, 8, 9, 10, 11, 12, 13, 14, 15, 16], [0, 1, 2, 3, 4, 5, 6, 7, 8, 9, 10, 11, 12, 13, 14, 15, 16, 17], [0, 1, 2, 3, 4, 5, 6, 7, 8, 9, 10, 11, 12, 13, 14, 15, 16, 17, 18], [0, 1, 2, 3, 4, 5, 6, 7, 8, 9, 10, 11, 12, 13, 14, 15, 16, 17, 18, 19], [0, 1, 2, 3, 4, 5, 6, 7, 8, 9, 10, 11, 12, 13, 14, 15, 16, 17, 18], [0, 1, 2, 3, 4, 5, 6, 7, 8, 9, 10, 11, 12, 13, 14, 15, 16, 17, 18, 21], [0, 1, 2, 3, 4, 5, 6, 7, 8, 9, 10, 11, 12, 13, 14, 15, 16, 17, 18, 19, 20, 21, 22], [0, 1, 2, 3, 4, 5, 6, 7, 8, 9, 10, 11, 12, 13, 14, 15, 16, 17, 18, 19, 20, 21, 22, 23], [0, 1, 2, 3, 4, 5, 6, 7, 8, 9, 10, 11, 12, 13, 14, 15, 16, 17, 18], [0, 1, 2, 3, 4, 5, 6, 7, 8, 9, 10, 11, 12, 13, 14, 15, 16, 17, 18, 25], [0, 1, 2, 3, 4, 5, 6, 7, 8, 9, 10, 11, 12, 13, 14, 15, 16, 17, 18], [0, 1, 2, 3, 4, 5, 6, 7, 8, 9, 10, 11, 12, 13, 14, 15, 16, 17, 18, 25, 26, 27], [0, 1, 2, 3, 4, 5, 6, 7, 8, 9, 10, 11, 12, 13, 14, 15, 16, 17, 18, 25, 26, 27, 28], [0, 1, 2, 3, 4, 5, 6, 7, 8, 9, 10, 11, 12, 13, 14, 15, 16, 17, 18, 19, 20, 21, 22, 23, 24, 25, 26, 27, 28, 29], [0, 1, 2, 3, 4, 5, 6, 7, 8, 9, 10, 11, 12, 13, 14, 15, 16, 17, 18, 19, 20, 21, 22, 23, 24, 25, 26, 27, 28, 29, 30], [0, 1, 2, 3, 4, 5, 6, 7, 8, 9, 10, 11, 12, 13, 14, 15, 16, 17, 18, 19, 20, 21, 22, 23, 24, 25, 26, 27, 28, 29, 30, 31]] mixed (by kernel_rfl) ?_
          refine ⟨.det (fun val => (ptr b1 (2))), ⟨fun _ _ hv => rfl, fun _ _ _ _ _ => trivial⟩, fun val h_ W hx he => ⟨trivial, ?_⟩, ?_⟩
          ·exact X_fldP (b := b1) (o := 0) (r := 2) Fd26_2 rfl rfl ⟨Upd.refl _ _, rfl⟩
          refine ⟨.det (fun val => bv), ⟨fun _ _ hv => rfl, fun _ _ _ _ _ => trivial⟩, fun val h_ W hx he => ⟨trivial, ?_⟩, ?_⟩
          ·replace hx := (Upd.drew _ _).trans hx
           replace hB1 := hB1.ext hx
           refine id (X_load (p := (ptr b1 (2))) (v := bv) T24 rfl (hB1.at1 rfl) ?_)
           exact ⟨Upd.refl _ _, rfl⟩
          refine ⟨.det (fun val => (.int .i64 (((i : Nat) : Int)))), ⟨fun _ _ hv => rfl, fun _ _ _ _ _ => trivial⟩, fun val h_ W hx he => ⟨trivial, ?_⟩, ?_⟩
          ·exact X_move (v := (.int .i64 (((i : Nat) : Int)))) rfl ⟨Upd.refl _ _, rfl⟩
          refine ⟨.det (fun val => (pof bv ((((i : Nat) : Int) : Int).toNat * 1))), ⟨fun _ _ hv => rfl, fun _ _ _ _ _ => trivial⟩, fun val h_ W hx he => ⟨trivial, ?_⟩, ?_⟩
          ·replace hx := (Upd.drew _ _).trans hx
           replace hb := hb.ext hx
           refine id (X_idx (v := bv) (n := bs.length) (k := .i64) (i := ((i : Nat) : Int)) S24 rfl hb.sv rfl (by omega) (by omega) ?_)
           exact ⟨Upd.refl _ _, rfl⟩
          refine ⟨.det (fun val => (.int .i64 (a))), ⟨fun _ _ hv => rfl, fun _ _ _ _ _ => trivial⟩, fun val h_ W hx he => ⟨trivial, ?_⟩, ?_⟩
          ·replace hx := (Upd.drew _ _).trans hx
           replace hb := hb.ext hx
           refine id (X_load (v := .int .i64 a) T3 rfl (iat hb (Int.toNat_natCast _) hai) ?_)
           exact ⟨Upd.refl _ _, rfl⟩
          refine ⟨.det (fun val => (.bool (false))), ⟨fun _ _ hv => rfl, fun _ _ _ _ _ => trivial⟩, fun val h_ W hx he => ⟨trivial, ?_⟩, ?_⟩
          ·exact X_cmp (k := .i64) (a := a) (b := 0) (r := false) rfl rfl rfl (decide_eq_false (p := ((a) : Int) < ((0) : Int)) (by have h_ := of_decide_eq_false hs13; omega)) ⟨Upd.refl _ _, rfl⟩
          refine ⟨.det (fun val => (.bool (false))), ⟨fun _ _ hv => rfl, fun _ _ _ _ _ => trivial⟩, fun val h_ W hx he => ⟨trivial, ?_⟩, ?_⟩
          ·exact X_move (v := (.bool (false))) rfl ⟨Upd.refl _ _, rfl⟩
          refine ⟨.det (fun val => (ptr b1 (2))), ⟨fun _ _ hv => rfl, fun _ _ _ _ _ => trivial⟩, fun val h_ W hx he => ⟨⟨68, rfl, rfl⟩, ?_⟩, ?_⟩
          ·exact X_fldP (b := b1) (o := 0) (r := 2) Fd26_2 rfl rfl ⟨Upd.refl _ _, rfl⟩
          refine ⟨.det (fun val => bv), ⟨fun _ _ hv => rfl, fun _ _ _ _ _ => trivial⟩, fun val h_ W hx he => ⟨⟨68, rfl, rfl⟩, ?_⟩, ?_⟩
          ·replace hx := (Upd.drew _ _).trans hx
           replace hB1 := hB1.ext hx
           refine id (X_load (p := (ptr b1 (2))) (v := bv) T24 rfl (hB1.at1 rfl) ?_)
           exact ⟨Upd.refl _ _, rfl⟩
          refine ⟨.det (fun val => (.int .i64 (((i : Nat) : Int)))), ⟨fun _ _ hv => rfl, fun _ _ _ _ _ => trivial⟩, fun val h_ W hx he => ⟨⟨68, rfl, rfl⟩, ?_⟩, ?_⟩
          ·exact X_move (v := (.int .i64 (((i : Nat) : Int)))) rfl ⟨Upd.refl _ _, rfl⟩
          refine ⟨.det (fun val => (pof bv ((((i : Nat) : Int) : Int).toNat * 1))), ⟨fun _ _ hv => rfl, fun _ _ _ _ _ => trivial⟩, fun val h_ W hx he => ⟨⟨68, rfl, rfl⟩, ?_⟩, ?_⟩
          ·replace hx := (Upd.drew _ _).trans hx
           replace hb := hb.ext hx
           refine id (X_idx (v := bv) (n := bs.length) (k := .i64) (i := ((i : Nat) : Int)) S24 rfl hb.sv rfl (by omega) (by omega) ?_)
           exact ⟨Upd.refl _ _, rfl⟩
          refine ⟨.det (fun val => (.int .i64 (a))), ⟨fun _ _ hv => rfl, fun _ _ _ _ _ => trivial⟩, fun val h_ W hx he => ⟨⟨68, rfl, rfl⟩, ?_⟩, ?_⟩
          ·replace hx := (Upd.drew _ _).trans hx
           replace hb := hb.ext hx
           refine id (X_load (v := .int .i64 a) T3 rfl (iat hb (Int.toNat_natCast _) hai) ?_)
           exact ⟨Upd.refl _ _, rfl⟩
          refine ⟨.det (fun val => (.int .i64 (((ps.length : Nat) : Int)))), ⟨fun _ _ hv => rfl, fun _ _ _ _ _ => trivial⟩, fun val h_ W hx he => ⟨⟨68, rfl, rfl⟩, ?_⟩, ?_⟩
          ·exact X_move (v := (.int .i64 (((ps.length : Nat) : Int)))) rfl ⟨Upd.refl _ _, rfl⟩
          refine ⟨.det (fun val => (.bool (true))), ⟨fun _ _ hv => rfl, fun _ _ _ _ _ => trivial⟩, fun val h_ W hx he => ⟨⟨68, rfl, rfl⟩, ?_⟩, ?_⟩
          ·exact X_cmp (k := .i64) (a := a) (b := ((ps.length : Nat) : Int)) (r := true) rfl rfl rfl (decide_eq_true (p := ((((ps.length : Nat) : Int)) : Int) ≤ ((a) : Int)) (by have h_ := of_decide_eq_true hs15; omega)) ⟨Upd.refl _ _, rfl⟩
          refine ⟨.det (fun val => (.bool (true))), ⟨fun _ _ hv => rfl, fun _ _ _ _ _ => trivial⟩, fun val h_ W hx he => ⟨trivial, ?_⟩, ?_⟩
          ·exact X_pick (t := false) (v := (.bool (true))) rfl rfl ⟨Upd.refl _ _, rfl⟩
          refine ⟨.det (fun val => (.bool (true))), ⟨fun _ _ hv => rfl, fun _ _ _ _ _ => trivial⟩, fun val h_ W hx he => ⟨trivial, ?_⟩, ?_⟩
          ·exact X_move (v := (.bool (true))) rfl ⟨Upd.refl _ _, rfl⟩
          refine ⟨.no, ⟨fun _ _ _ => trivial, fun _ _ _ _ _ => trivial⟩, fun val h_ W hx he => ⟨77, rfl, .inl rfl⟩, ?_⟩
          refine ⟨.no, ⟨fun _ _ _ => trivial, fun _ _ _ _ _ => trivial⟩, fun val h_ W hx he => ⟨77, rfl, .inl rfl⟩, ?_⟩
          refine ⟨.no, ⟨fun _ _ _ => trivial, fun _ _ _ _ _ => trivial⟩, fun val h_ W hx he => ⟨77, rfl, .inl rfl⟩, ?_⟩
          refine ⟨.no, ⟨fun _ _ _ => trivial, fun _ _ _ _ _ => trivial⟩, fun val h_ W hx he => ⟨80, rfl, .inr rfl⟩, ?_⟩
          refine ⟨.no, ⟨fun _ _ _ => trivial, fun _ _ _ _ _ => trivial⟩, fun val h_ W hx he => ⟨80, rfl, .inr rfl⟩, ?_⟩
          refine ⟨.no, ⟨fun _ _ _ => trivial, fun _ _ _ _ _ => trivial⟩, fun val h_ W hx he => ⟨80, rfl, .inr rfl⟩, ?_⟩
          refine ⟨.no, ⟨fun _ _ _ => trivial, fun _ _ _ _ _ => trivial⟩, fun val h_ W hx he => ⟨80, rfl, .inr rfl⟩, ?_⟩
          refine ⟨.no, ⟨fun _ _ _ => trivial, fun _ _ _ _ _ => trivial⟩, fun val h_ W hx he => ⟨80, rfl, .inr rfl⟩, ?_⟩
          refine ⟨.no, ⟨fun _ _ _ => trivial, fun _ _ _ _ _ => trivial⟩, fun val h_ W hx he => ⟨80, rfl, .inr rfl⟩, ?_⟩
          refine ⟨.no, ⟨fun _ _ _ => trivial, fun _ _ _ _ _ => trivial⟩, fun val h_ W hx he => ⟨80, rfl, .inr rfl⟩, ?_⟩
          refine ⟨.no, ⟨fun _ _ _ => trivial, fun _ _ _ _ _ => trivial⟩, fun val h_ W hx he => ⟨80, rfl, .inr rfl⟩, ?_⟩
          refine ⟨.no, ⟨fun _ _ _ => trivial, fun _ _ _ _ _ => trivial⟩, fun val h_ W hx he => ⟨80, rfl, .inr rfl⟩, ?_⟩
          refine ⟨.no, ⟨fun _ _ _ => trivial, fun _ _ _ _ _ => trivial⟩, fun val h_ W hx he => ⟨80, rfl, .inr rfl⟩, ?_⟩
          refine ⟨.no, ⟨fun _ _ _ => trivial, fun _ _ _ _ _ => trivial⟩, fun val h_ W hx he => ⟨80, rfl, .inr rfl⟩, ?_⟩
          intro val W16 hx16 he16
          replace hx16 := (Upd.drew _ _).trans hx16
          have hz16 := hx16.size
          replace hc := hc.ext hx16
          replace hb := hb.ext hx16
          replace hU := hU.trans (Ext.upd hx16)
          replace hB1 := hB1.ext hx16
          refine L_gu (dj := 80) rfl rfl rfl ?_
          refine L_gn (dj := 77) (t := true) rfl rfl rfl rfl ?_
          refine L_op rfl (X_pick (t := true) (v := (.bool (true))) rfl rfl ?_)
          refine L_nil ?_
          refine T_n ?_
          refine W_ct rfl ?_
          refine W_seq ?_
          refine W_reg ?_
          refine L_op rfl (X_assign (v := (.bool (false))) rfl ?_)
          refine L_nil ?_
          refine T_n ?_
          refine W_ret ?_
          refine B_r ?_
          refine T_r ?_
          refine T_r ?_
          refine B_r ?_
          refine T_r ?_
          exact BQ_r (End_1 Try.results7 (v := .bool false) rfl ⟨⟨false, rfl, ⟨fun h => (by cases h), fun h => (by have h1 := hst.1 (inB_mono h.2.2 hi); have h2 := (inB_mono h.2.2 hi) i a (Nat.lt_succ_self _) hai; have h3_ := of_decide_eq_false hs13; have h4_ := of_decide_eq_true hs15; omega)⟩⟩, hU.own hn0⟩)
         ·rcases Bool.eq_false_or_eq_true (decide (0 < i)) with hs17 | hs17
          ·rcases Bool.eq_false_or_eq_true (decide (a ≤ before bs i)) with hs18 | hs18
           ·have hi0 := of_decide_eq_true hs17
            obtain ⟨a0, ha0⟩ : ∃ a, bs[i - 1]? = some a := ⟨_, List.getElem?_eq_getElem (by omega)⟩
            have hbe := inB_prev hi0 ha0
            refine W_draw 30 [[], [0], [], [0, 1, 2], [0, 1, 2, 3], [0, 1, 2, 3, 4], [0, 1, 2, 3, 4, 5], [0, 1, 2, 3, 4, 5, 6], [0, 1, 2, 3, 4, 5, 6, 7], [0, 1, 2, 3, 4, 5, 6], [0, 1, 2, 3, 4, 5, 6, 7, 8, 9], [0, 1, 2, 3, 4, 5, 6, 7, 8, 9, 10], [0, 1, 2, 3, 4, 5, 6], [0, 1, 2, 3, 4, 5, 6, 7, 8, 9, 10, 11, 12], [0, 1, 2, 3, 4, 5, 6, 7, 8, 9, 10, 11, 12, 13], [0, 1, 2, 3, 4, 5, 6, 7, 8, 9, 10, 11, 12, 13, 14], [0, 1, 2, 3, 4, 5, 6, 7, 8, 9, 10, 11, 12, 13, 14, 15], [0, 1, 2, 3, 4, 5, 6, 7, 8, 9, 10, 11, 12, 13, 14, 15, 16], [0, 1, 2, 3, 4, 5, 6, 7, 8, 9, 10, 11, 12, 13, 14, 15, 16, 17], [0, 1, 2, 3, 4, 5, 6, 7, 8, 9, 10, 11, 12, 13, 14, 15, 16, 17, 18], [0, 1, 2, 3, 4, 5, 6, 7, 8, 9, 10, 11, 12, 13, 14, 15, 16, 17, 18, 19], [0, 1, 2, 3, 4, 5, 6, 7, 8, 9, 10, 11, 12, 13, 14, 15, 16, 17, 18], [0, 1, 2, 3, 4, 5, 6, 7, 8, 9, 10, 11, 12, 13, 14, 15, 16, 17, 18, 21], [0, 1, 2, 3, 4, 5, 6, 7, 8, 9, 10, 11, 12, 13, 14, 15, 16, 17, 18, 19, 20, 21, 22], [0, 1, 2, 3, 4, 5, 6, 7, 8, 9, 10, 11, 12, 13, 14, 15, 16, 17, 18, 19, 20, 21, 22, 23], [0, 1, 2, 3, 4, 5, 6, 7, 8, 9, 10, 11, 12, 13, 14, 15, 16, 17, 18], [0, 1, 2, 3, 4, 5, 6, 7, 8, 9, 10, 11, 12, 13, 14, 15, 16, 17, 18, 25], [0, 1, 2, 3, 4, 5, 6, 7, 8, 9, 10, 11, 12, 13, 14, 15, 16, 17, 18], [0, 1, 2, 3, 4, 5, 6, 7, 8, 9, 10, 11, 12, 13, 14, 15, 16, 17, 18, 25, 26, 27], [0, 1, 2, 3, 4, 5, 6, 7, 8, 9, 10, 11, 12, 13, 14, 15, 16, 17, 18, 25, 26, 27, 28], [0, 1, 2, 3, 4, 5, 6, 7, 8, 9, 10, 11, 12, 13, 14, 15, 16, 17, 18, 19, 20, 21, 22, 23, 24, 25, 26, 27, 28, 29], [0, 1, 2, 3, 4, 5, 6, 7, 8, 9, 10, 11, 12, 13, 14, 15, 16, 17, 18, 19, 20, 21, 22, 23, 24, 25, 26, 27, 28, 29, 30], [0, 1, 2, 3, 4, 5, 6, 7, 8, 9, 10, 11, 12, 13, 14, 15, 16, 17, 18, 19, 20, 21, 22, 23, 24, 25, 26, 27, 28, 29, 30, 31]] mixed (by kernel_rfl) ?_
            refine ⟨.det (fun val => (ptr b1 (2))), ⟨fun _ _ hv => rfl, fun _ _ _ _ _ => trivial⟩, fun val h_ W hx he => ⟨trivial, ?_⟩, ?_⟩
            ·exact X_fldP (b := b1) (o := 0) (r := 2) Fd26_2 rfl rfl ⟨Upd.refl _ _, rfl⟩
            refine ⟨.det (fun val => bv), ⟨fun _ _ hv => rfl, fun _ _ _ _ _ => trivial⟩, fun val h_ W hx he => ⟨trivial, ?_⟩, ?_⟩
            ·replace hx := (Upd.drew _ _).trans hx
             replace hB1 := hB1.ext hx
             refine id (X_load (p := (ptr b1 (2))) (v := bv) T24 rfl (hB1.at1 rfl) ?_)
             exact ⟨Upd.refl _ _, rfl⟩
            refine ⟨.det (fun val => (.int .i64 (((i : Nat) : Int)))), ⟨fun _ _ hv => rfl, fun _ _ _ _ _ => trivial⟩, fun val h_ W hx he => ⟨trivial, ?_⟩, ?_⟩
            ·exact X_move (v := (.int .i64 (((i : Nat) : Int)))) rfl ⟨Upd.refl _ _, rfl⟩
            refine ⟨.det (fun val => (pof bv ((((i : Nat) : Int) : Int).toNat * 1))), ⟨fun _ _ hv => rfl, fun _ _ _ _ _ => trivial⟩, fun val h_ W hx he => ⟨trivial, ?_⟩, ?_⟩
            ·replace hx := (Upd.drew _ _).trans hx
             replace hb := hb.ext hx
             refine id (X_idx (v := bv) (n := bs.length) (k := .i64) (i := ((i : Nat) : Int)) S24 rfl hb.sv rfl (by omega) (by omega) ?_)
             exact ⟨Upd.refl _ _, rfl⟩
            refine ⟨.det (fun val => (.int .i64 (a))), ⟨fun _ _ hv => rfl, fun _ _ _ _ _ => trivial⟩, fun val h_ W hx he => ⟨trivial, ?_⟩, ?_⟩
            ·replace hx := (Upd.drew _ _).trans hx
             replace hb := hb.ext hx
             refine id (X_load (v := .int .i64 a) T3 rfl (iat hb (Int.toNat_natCast _) hai) ?_)
             exact ⟨Upd.refl _ _, rfl⟩
            refine ⟨.det (fun val => (.bool (false))), ⟨fun _ _ hv => rfl, fun _ _ _ _ _ => trivial⟩, fun val h_ W hx he => ⟨trivial, ?_⟩, ?_⟩
            ·exact X_cmp (k := .i64) (a := a) (b := 0) (r := false) rfl rfl rfl (decide_eq_false (p := ((a) : Int) < ((0) : Int)) (by have h_ := of_decide_eq_false hs13; omega)) ⟨Upd.refl _ _, rfl⟩
            refine ⟨.det (fun val => (.bool (false))), ⟨fun _ _ hv => rfl, fun _ _ _ _ _ => trivial⟩, fun val h_ W hx he => ⟨trivial, ?_⟩, ?_⟩
            ·exact X_move (v := (.bool (false))) rfl ⟨Upd.refl _ _, rfl⟩
            refine ⟨.det (fun val => (ptr b1 (2))), ⟨fun _ _ hv => rfl, fun _ _ _ _ _ => trivial⟩, fun val h_ W hx he => ⟨⟨68, rfl, rfl⟩, ?_⟩, ?_⟩
            ·exact X_fldP (b := b1) (o := 0) (r := 2) Fd26_2 rfl rfl ⟨Upd.refl _ _, rfl⟩
            refine ⟨.det (fun val => bv), ⟨fun _ _ hv => rfl, fun _ _ _ _ _ => trivial⟩, fun val h_ W hx he => ⟨⟨68, rfl, rfl⟩, ?_⟩, ?_⟩
            ·replace hx := (Upd.drew _ _).trans hx
             replace hB1 := hB1.ext hx
             refine id (X_load (p := (ptr b1 (2))) (v := bv) T24 rfl (hB1.at1 rfl) ?_)
             exact ⟨Upd.refl _ _, rfl⟩
            refine ⟨.det (fun val => (.int .i64 (((i : Nat) : Int)))), ⟨fun _ _ hv => rfl, fun _ _ _ _ _ => trivial⟩, fun val h_ W hx he => ⟨⟨68, rfl, rfl⟩, ?_⟩, ?_⟩
            ·exact X_move (v := (.int .i64 (((i : Nat) : Int)))) rfl ⟨Upd.refl _ _, rfl⟩
            refine ⟨.det (fun val => (pof bv ((((i : Nat) : Int) : Int).toNat * 1))), ⟨fun _ _ hv => rfl, fun _ _ _ _ _ => trivial⟩, fun val h_ W hx he => ⟨⟨68, rfl, rfl⟩, ?_⟩, ?_⟩
            ·replace hx := (Upd.drew _ _).trans hx
             replace hb := hb.ext hx
             refine id (X_idx (v := bv) (n := bs.length) (k := .i64) (i := ((i : Nat) : Int)) S24 rfl hb.sv rfl (by omega) (by omega) ?_)
             exact ⟨Upd.refl _ _, rfl⟩
            refine ⟨.det (fun val => (.int .i64 (a))), ⟨fun _ _ hv => rfl, fun _ _ _ _ _ => trivial⟩, fun val h_ W hx he => ⟨⟨68, rfl, rfl⟩, ?_⟩, ?_⟩
            ·replace hx := (Upd.drew _ _).trans hx
             replace hb := hb.ext hx
             refine id (X_load (v := .int .i64 a) T3 rfl (iat hb (Int.toNat_natCast _) hai) ?_)
             exact ⟨Upd.refl _ _, rfl⟩
            refine ⟨.det (fun val => (.int .i64 (((ps.length : Nat) : Int)))), ⟨fun _ _ hv => rfl, fun _ _ _ _ _ => trivial⟩, fun val h_ W hx he => ⟨⟨68, rfl, rfl⟩, ?_⟩, ?_⟩
            ·exact X_move (v := (.int .i64 (((ps.length : Nat) : Int)))) rfl ⟨Upd.refl _ _, rfl⟩
            refine ⟨.det (fun val => (.bool (false))), ⟨fun _ _ hv => rfl, fun _ _ _ _ _ => trivial⟩, fun val h_ W hx he => ⟨⟨68, rfl, rfl⟩, ?_⟩, ?_⟩
            ·exact X_cmp (k := .i64) (a := a) (b := ((ps.length : Nat) : Int)) (r := false) rfl rfl rfl (decide_eq_false (p := ((((ps.length : Nat) : Int)) : Int) ≤ ((a) : Int)) (by have h_ := of_decide_eq_false hs15; omega)) ⟨Upd.refl _ _, rfl⟩
            refine ⟨.det (fun val => (.bool (false))), ⟨fun _ _ hv => rfl, fun _ _ _ _ _ => trivial⟩, fun val h_ W hx he => ⟨trivial, ?_⟩, ?_⟩
            ·exact X_pick (t := false) (v := (.bool (false))) rfl rfl ⟨Upd.refl _ _, rfl⟩
            refine ⟨.det (fun val => (.bool (false))), ⟨fun _ _ hv => rfl, fun _ _ _ _ _ => trivial⟩, fun val h_ W hx he => ⟨trivial, ?_⟩, ?_⟩
            ·exact X_move (v := (.bool (false))) rfl ⟨Upd.refl _ _, rfl⟩
            refine ⟨.det (fun val => (.int .i64 (((i : Nat) : Int)))), ⟨fun _ _ hv => rfl, fun _ _ _ _ _ => trivial⟩, fun val h_ W hx he => ⟨⟨77, rfl, rfl⟩, ?_⟩, ?_⟩
            ·exact X_move (v := (.int .i64 (((i : Nat) : Int)))) rfl ⟨Upd.refl _ _, rfl⟩
            refine ⟨.det (fun val => (.bool (true))), ⟨fun _ _ hv => rfl, fun _ _ _ _ _ => trivial⟩, fun val h_ W hx he => ⟨⟨77, rfl, rfl⟩, ?_⟩, ?_⟩
            ·exact X_cmp (k := .i64) (a := ((i : Nat) : Int)) (b := 0) (r := true) rfl rfl rfl (decide_eq_true (p := ((0) : Int) < ((((i : Nat) : Int)) : Int)) (by have h_ := of_decide_eq_true hs17; omega)) ⟨Upd.refl _ _, rfl⟩
            refine ⟨.det (fun val => (.bool (true))), ⟨fun _ _ hv => rfl, fun _ _ _ _ _ => trivial⟩, fun val h_ W hx he => ⟨⟨77, rfl, rfl⟩, ?_⟩, ?_⟩
            ·exact X_move (v := (.bool (true))) rfl ⟨Upd.refl _ _, rfl⟩
            refine ⟨.det (fun val => (ptr b1 (2))), ⟨fun _ _ hv => rfl, fun _ _ _ _ _ => trivial⟩, fun val h_ W hx he => ⟨⟨80, rfl, rfl⟩, ?_⟩, ?_⟩
            ·exact X_fldP (b := b1) (o := 0) (r := 2) Fd26_2 rfl rfl ⟨Upd.refl _ _, rfl⟩
            refine ⟨.det (fun val => bv), ⟨fun _ _ hv => rfl, fun _ _ _ _ _ => trivial⟩, fun val h_ W hx he => ⟨⟨80, rfl, rfl⟩, ?_⟩, ?_⟩
            ·replace hx := (Upd.drew _ _).trans hx
             replace hB1 := hB1.ext hx
             refine id (X_load (p := (ptr b1 (2))) (v := bv) T24 rfl (hB1.at1 rfl) ?_)
             exact ⟨Upd.refl _ _, rfl⟩
            refine ⟨.det (fun val => (.int .i64 (((i : Nat) : Int)))), ⟨fun _ _ hv => rfl, fun _ _ _ _ _ => trivial⟩, fun val h_ W hx he => ⟨⟨80, rfl, rfl⟩, ?_⟩, ?_⟩
            ·exact X_move (v := (.int .i64 (((i : Nat) : Int)))) rfl ⟨Upd.refl _ _, rfl⟩
            refine ⟨.det (fun val => (.int .i64 (((i - 1 : Nat) : Int)))), ⟨fun _ _ hv => rfl, fun _ _ _ _ _ => trivial⟩, fun val h_ W hx he => ⟨⟨80, rfl, rfl⟩, ?_⟩, ?_⟩
            ·exact X_arith (k := .i64) (a := ((i : Nat) : Int)) (b := 1) (r := ((i - 1 : Nat) : Int)) rfl rfl rfl (isub64 (by omega) (by omega) (by omega)) ⟨Upd.refl _ _, rfl⟩
            refine ⟨.det (fun val => (pof bv ((((i - 1 : Nat) : Int) : Int).toNat * 1))), ⟨fun _ _ hv => rfl, fun _ _ _ _ _ => trivial⟩, fun val h_ W hx he => ⟨⟨80, rfl, rfl⟩, ?_⟩, ?_⟩
            ·replace hx := (Upd.drew _ _).trans hx
             replace hb := hb.ext hx
             refine id (X_idx (v := bv) (n := bs.length) (k := .i64) (i := ((i - 1 : Nat) : Int)) S24 rfl hb.sv rfl (by omega) (by omega) ?_)
             exact ⟨Upd.refl _ _, rfl⟩
            refine ⟨.det (fun val => (.int .i64 (a0))), ⟨fun _ _ hv => rfl, fun _ _ _ _ _ => trivial⟩, fun val h_ W hx he => ⟨⟨80, rfl, rfl⟩, ?_⟩, ?_⟩
            ·replace hx := (Upd.drew _ _).trans hx
             replace hb := hb.ext hx
             refine id (X_load (v := .int .i64 a0) T3 rfl (iat hb (Int.toNat_natCast _) ha0) ?_)
             exact ⟨Upd.refl _ _, rfl⟩
            refine ⟨.det (fun val => (ptr b1 (2))), ⟨fun _ _ hv => rfl, fun _ _ _ _ _ => trivial⟩, fun val h_ W hx he => ⟨⟨80, rfl, rfl⟩, ?_⟩, ?_⟩
            ·exact X_fldP (b := b1) (o := 0) (r := 2) Fd26_2 rfl rfl ⟨Upd.refl _ _, rfl⟩
            refine ⟨.det (fun val => bv), ⟨fun _ _ hv => rfl, fun _ _ _ _ _ => trivial⟩, fun val h_ W hx he => ⟨⟨80, rfl, rfl⟩, ?_⟩, ?_⟩
            ·replace hx := (Upd.drew _ _).trans hx
             replace hB1 := hB1.ext hx
             refine id (X_load (p := (ptr b1 (2))) (v := bv) T24 rfl (hB1.at1 rfl) ?_)
             exact ⟨Upd.refl _ _, rfl⟩
            refine ⟨.det (fun val => (.int .i64 (((i : Nat) : Int)))), ⟨fun _ _ hv => rfl, fun _ _ _ _ _ => trivial⟩, fun val h_ W hx he => ⟨⟨80, rfl, rfl⟩, ?_⟩, ?_⟩
            ·exact X_move (v := (.int .i64 (((i : Nat) : Int)))) rfl ⟨Upd.refl _ _, rfl⟩
            refine ⟨.det (fun val => (pof bv ((((i : Nat) : Int) : Int).toNat * 1))), ⟨fun _ _ hv => rfl, fun _ _ _ _ _ => trivial⟩, fun val h_ W hx he => ⟨⟨80, rfl, rfl⟩, ?_⟩, ?_⟩
            ·replace hx := (Upd.drew _ _).trans hx
             replace hb := hb.ext hx
             refine id (X_idx (v := bv) (n := bs.length) (k := .i64) (i := ((i : Nat) : Int)) S24 rfl hb.sv rfl (by omega) (by omega) ?_)
             exact ⟨Upd.refl _ _, rfl⟩
            refine ⟨.det (fun val => (.int .i64 (a))), ⟨fun _ _ hv => rfl, fun _ _ _ _ _ => trivial⟩, fun val h_ W hx he => ⟨⟨80, rfl, rfl⟩, ?_⟩, ?_⟩
            ·replace hx := (Upd.drew _ _).trans hx
             replace hb := hb.ext hx
             refine id (X_load (v := .int .i64 a) T3 rfl (iat hb (Int.toNat_natCast _) hai) ?_)
             exact ⟨Upd.refl _ _, rfl⟩
            intro val W19 hx19 he19
            replace hx19 := (Upd.drew _ _).trans hx19
            have hz19 := hx19.size
            replace hc := hc.ext hx19
            replace hb := hb.ext hx19
            replace hU := hU.trans (Ext.upd hx19)
            replace hB1 := hB1.ext hx19
            refine L_gy (dj := 80) rfl rfl rfl (X_cmp (k := .i64) (a := a0) (b := a) (r := true) rfl rfl rfl (decide_eq_true (p := ((a) : Int) ≤ ((a0) : Int)) (by have h_ := of_decide_eq_true hs18; omega)) ?_)
            refine L_gy (dj := 77) rfl rfl rfl (X_pick (t := true) (v := (.bool (true))) rfl rfl ?_)
            refine L_op rfl (X_pick (t := false) (v := (.bool (true))) rfl rfl ?_)
            refine L_nil ?_
            refine T_n ?_
            refine W_ct rfl ?_
            refine W_seq ?_
            refine W_reg ?_
            refine L_op rfl (X_assign (v := (.bool (false))) rfl ?_)
            refine L_nil ?_
            refine T_n ?_
            refine W_ret ?_
            refine B_r ?_
            refine T_r ?_
            refine T_r ?_
            refine B_r ?_
            refine T_r ?_
            exact BQ_r (End_1 Try.results7 (v := .bool false) rfl ⟨⟨false, rfl, ⟨fun h => (by cases h), fun h => (by have h1 := hst.1 (inB_mono h.2.2 hi); have h2 := (inB_mono h.2.2 hi) i a (Nat.lt_succ_self _) hai; have h3_ := of_decide_eq_false hs13; have h4_ := of_decide_eq_false hs15; have h5_ := of_decide_eq_true hs17; have h6_ := of_decide_eq_true hs18; omega)⟩⟩, hU.own hn0⟩)
           ·have hi0 := of_decide_eq_true hs17
            obtain ⟨a0, ha0⟩ : ∃ a, bs[i - 1]? = some a := ⟨_, List.getElem?_eq_getElem (by omega)⟩
            have hbe := inB_prev hi0 ha0
            refine W_draw 30 [[], [0], [], [0, 1, 2], [0, 1, 2, 3], [0, 1, 2, 3, 4], [0, 1, 2, 3, 4, 5], [0, 1, 2, 3, 4, 5, 6], [0, 1, 2, 3, 4, 5, 6, 7], [0, 1, 2, 3, 4, 5, 6], [0, 1, 2, 3, 4, 5, 6, 7, 8, 9], [0, 1, 2, 3, 4, 5, 6, 7, 8, 9, 10], [0, 1, 2, 3, 4, 5, 6], [0, 1, 2, 3, 4, 5, 6, 7, 8, 9, 10, 11, 12], [0, 1, 2, 3, 4, 5, 6, 7, 8, 9, 10, 11, 12, 13], [0, 1, 2, 3, 4, 5, 6, 7, 8, 9, 10, 11, 12, 13, 14], [0, 1, 2, 3, 4, 5, 6, 7, 8, 9, 10, 11, 12, 13, 14, 15], [0, 1, 2, 3, 4, 5, 6, 7, 8, 9, 10, 11, 12, 13, 14, 15, 16], [0, 1, 2, 3, 4, 5, 6, 7, 8, 9, 10, 11, 12, 13, 14, 15, 16, 17], [0, 1, 2, 3, 4, 5, 6, 7, 8, 9, 10, 11, 12, 13, 14, 15, 16, 17, 18], [0, 1, 2, 3, 4, 5, 6, 7, 8, 9, 10, 11, 12, 13, 14, 15, 16, 17, 18, 19], [0, 1, 2, 3, 4, 5, 6, 7, 8, 9, 10, 11, 12, 13, 14, 15, 16, 17, 18], [0, 1, 2, 3, 4, 5, 6, 7, 8, 9, 10, 11, 12, 13, 14, 15, 16, 17, 18, 21], [0, 1, 2, 3, 4, 5, 6, 7, 8, 9, 10, 11, 12, 13, 14, 15, 16, 17, 18, 19, 20, 21, 22], [0, 1, 2, 3, 4, 5, 6, 7, 8, 9, 10, 11, 12, 13, 14, 15, 16, 17, 18, 19, 20, 21, 22, 23], [0, 1, 2, 3, 4, 5, 6, 7, 8, 9, 10, 11, 12, 13, 14, 15, 16, 17, 18], [0, 1, 2, 3, 4, 5, 6, 7, 8, 9, 10, 11, 12, 13, 14, 15, 16, 17, 18, 25], [0, 1, 2, 3, 4, 5, 6, 7, 8, 9, 10, 11, 12, 13, 14, 15, 16, 17, 18], [0, 1, 2, 3, 4, 5, 6, 7, 8, 9, 10, 11, 12, 13, 14, 15, 16, 17, 18, 25, 26, 27], [0, 1, 2, 3, 4, 5, 6, 7, 8, 9, 10, 11, 12, 13, 14, 15, 16, 17, 18, 25, 26, 27, 28], [0, 1, 2, 3, 4, 5, 6, 7, 8, 9, 10, 11, 12, 13, 14, 15, 16, 17, 18, 19, 20, 21, 22, 23, 24, 25, 26, 27, 28, 29], [0, 1, 2, 3, 4, 5, 6, 7, 8, 9, 10, 11, 12, 13, 14, 15, 16, 17, 18, 19, 20, 21, 22, 23, 24, 25, 26, 27, 28, 29, 30], [0, 1, 2, 3, 4, 5, 6, 7, 8, 9, 10, 11, 12, 13, 14, 15, 16, 17, 18, 19, 20, 21, 22, 23, 24, 25, 26, 27, 28, 29, 30, 31]] mixed (by kernel_rfl) ?_
            refine ⟨.det (fun val => (ptr b1 (2))), ⟨fun _ _ hv => rfl, fun _ _ _ _ _ => trivial⟩, fun val h_ W hx he => ⟨trivial, ?_⟩, ?_⟩
            ·exact X_fldP (b := b1) (o := 0) (r := 2) Fd26_2 rfl rfl ⟨Upd.refl _ _, rfl⟩
            refine ⟨.det (fun val => bv), ⟨fun _ _ hv => rfl, fun _ _ _ _ _ => trivial⟩, fun val h_ W hx he => ⟨trivial, ?_⟩, ?_⟩
            ·replace hx := (Upd.drew _ _).trans hx
             replace hB1 := hB1.ext hx
             refine id (X_load (p := (ptr b1 (2))) (v := bv) T24 rfl (hB1.at1 rfl) ?_)
             exact ⟨Upd.refl _ _, rfl⟩
            refine ⟨.det (fun val => (.int .i64 (((i : Nat) : Int)))), ⟨fun _ _ hv => rfl, fun _ _ _ _ _ => trivial⟩, fun val h_ W hx he => ⟨trivial, ?_⟩, ?_⟩
            ·exact X_move (v := (.int .i64 (((i : Nat) : Int)))) rfl ⟨Upd.refl _ _, rfl⟩
            refine ⟨.det (fun val => (pof bv ((((i : Nat) : Int) : Int).toNat * 1))), ⟨fun _ _ hv => rfl, fun _ _ _ _ _ => trivial⟩, fun val h_ W hx he => ⟨trivial, ?_⟩, ?_⟩
            ·replace hx := (Upd.drew _ _).trans hx
             replace hb := hb.ext hx
             refine id (X_idx (v := bv) (n := bs.length) (k := .i64) (i := ((i : Nat) : Int)) S24 rfl hb.sv rfl (by omega) (by omega) ?_)
             exact ⟨Upd.refl _ _, rfl⟩
            refine ⟨.det (fun val => (.int .i64 (a))), ⟨fun _ _ hv => rfl, fun _ _ _ _ _ => trivial⟩, fun val h_ W hx he => ⟨trivial, ?_⟩, ?_⟩
            ·replace hx := (Upd.drew _ _).trans hx
             replace hb := hb.ext hx
             refine id (X_load (v := .int .i64 a) T3 rfl (iat hb (Int.toNat_natCast _) hai) ?_)
             exact ⟨Upd.refl _ _, rfl⟩
            refine ⟨.det (fun val => (.bool (false))), ⟨fun _ _ hv => rfl, fun _ _ _ _ _ => trivial⟩, fun val h_ W hx he => ⟨trivial, ?_⟩, ?_⟩
            ·exact X_cmp (k := .i64) (a := a) (b := 0) (r := false) rfl rfl rfl (decide_eq_false (p := ((a) : Int) < ((0) : Int)) (by have h_ := of_decide_eq_false hs13; omega)) ⟨Upd.refl _ _, rfl⟩
            refine ⟨.det (fun val => (.bool (false))), ⟨fun _ _ hv => rfl, fun _ _ _ _ _ => trivial⟩, fun val h_ W hx he => ⟨trivial, ?_⟩, ?_⟩
            ·exact X_move (v := (.bool (false))) rfl ⟨Upd.refl _ _, rfl⟩
            refine ⟨.det (fun val => (ptr b1 (2))), ⟨fun _ _ hv => rfl, fun _ _ _ _ _ => trivial⟩, fun val h_ W hx he => ⟨⟨68, rfl, rfl⟩, ?_⟩, ?_⟩
            ·exact X_fldP (b := b1) (o := 0) (r := 2) Fd26_2 rfl rfl ⟨Upd.refl _ _, rfl⟩
            refine ⟨.det (fun val => bv), ⟨fun _ _ hv => rfl, fun _ _ _ _ _ => trivial⟩, fun val h_ W hx he => ⟨⟨68, rfl, rfl⟩, ?_⟩, ?_⟩
            ·replace hx := (Upd.drew _ _).trans hx
             replace hB1 := hB1.ext hx
             refine id (X_load (p := (ptr b1 (2))) (v := bv) T24 rfl (hB1.at1 rfl) ?_)
             exact ⟨Upd.refl _ _, rfl⟩
            refine ⟨.det (fun val => (.int .i64 (((i : Nat) : Int)))), ⟨fun _ _ hv => rfl, fun _ _ _ _ _ => trivial⟩, fun val h_ W hx he => ⟨⟨68, rfl, rfl⟩, ?_⟩, ?_⟩
            ·exact X_move (v := (.int .i64 (((i : Nat) : Int)))) rfl ⟨Upd.refl _ _, rfl⟩
            refine ⟨.det (fun val => (pof bv ((((i : Nat) : Int) : Int).toNat * 1))), ⟨fun _ _ hv => rfl, fun _ _ _ _ _ => trivial⟩, fun val h_ W hx he => ⟨⟨68, rfl, rfl⟩, ?_⟩, ?_⟩
            ·replace hx := (Upd.drew _ _).trans hx
             replace hb := hb.ext hx
             refine id (X_idx (v := bv) (n := bs.length) (k := .i64) (i := ((i : Nat) : Int)) S24 rfl hb.sv rfl (by omega) (by omega) ?_)
             exact ⟨Upd.refl _ _, rfl⟩
            refine ⟨.det (fun val => (.int .i64 (a))), ⟨fun _ _ hv => rfl, fun _ _ _ _ _ => trivial⟩, fun val h_ W hx he => ⟨⟨68, rfl, rfl⟩, ?_⟩, ?_⟩
            ·replace hx := (Upd.drew _ _).trans hx
             replace hb := hb.ext hx
             refine id (X_load (v := .int .i64 a) T3 rfl (iat hb (Int.toNat_natCast _) hai) ?_)
             exact ⟨Upd.refl _ _, rfl⟩
            refine ⟨.det (fun val => (.int .i64 (((ps.length : Nat) : Int)))), ⟨fun _ _ hv => rfl, fun _ _ _ _ _ => trivial⟩, fun val h_ W hx he => ⟨⟨68, rfl, rfl⟩, ?_⟩, ?_⟩
            ·exact X_move (v := (.int .i64 (((ps.length : Nat) : Int)))) rfl ⟨Upd.refl _ _, rfl⟩
            refine ⟨.det (fun val => (.bool (false))), ⟨fun _ _ hv => rfl, fun _ _ _ _ _ => trivial⟩, fun val h_ W hx he => ⟨⟨68, rfl, rfl⟩, ?_⟩, ?_⟩
            ·exact X_cmp (k := .i64) (a := a) (b := ((ps.length : Nat) : Int)) (r := false) rfl rfl rfl (decide_eq_false (p := ((((ps.length : Nat) : Int)) : Int) ≤ ((a) : Int)) (by have h_ := of_decide_eq_false hs15; omega)) ⟨Upd.refl _ _, rfl⟩
            refine ⟨.det (fun val => (.bool (false))), ⟨fun _ _ hv => rfl, fun _ _ _ _ _ => trivial⟩, fun val h_ W hx he => ⟨trivial, ?_⟩, ?_⟩
            ·exact X_pick (t := false) (v := (.bool (false))) rfl rfl ⟨Upd.refl _ _, rfl⟩
            refine ⟨.det (fun val => (.bool (false))), ⟨fun _ _ hv => rfl, fun _ _ _ _ _ => trivial⟩, fun val h_ W hx he => ⟨trivial, ?_⟩, ?_⟩
            ·exact X_move (v := (.bool (false))) rfl ⟨Upd.refl _ _, rfl⟩
            refine ⟨.det (fun val => (.int .i64 (((i : Nat) : Int)))), ⟨fun _ _ hv => rfl, fun _ _ _ _ _ => trivial⟩, fun val h_ W hx he => ⟨⟨77, rfl, rfl⟩, ?_⟩, ?_⟩
            ·exact X_move (v := (.int .i64 (((i : Nat) : Int)))) rfl ⟨Upd.refl _ _, rfl⟩
            refine ⟨.det (fun val => (.bool (true))), ⟨fun _ _ hv => rfl, fun _ _ _ _ _ => trivial⟩, fun val h_ W hx he => ⟨⟨77, rfl, rfl⟩, ?_⟩, ?_⟩
            ·exact X_cmp (k := .i64) (a := ((i : Nat) : Int)) (b := 0) (r := true) rfl rfl rfl (decide_eq_true (p := ((0) : Int) < ((((i : Nat) : Int)) : Int)) (by have h_ := of_decide_eq_true hs17; omega)) ⟨Upd.refl _ _, rfl⟩
            refine ⟨.det (fun val => (.bool (true))), ⟨fun _ _ hv => rfl, fun _ _ _ _ _ => trivial⟩, fun val h_ W hx he => ⟨⟨77, rfl, rfl⟩, ?_⟩, ?_⟩
            ·exact X_move (v := (.bool (true))) rfl ⟨Upd.refl _ _, rfl⟩
            refine ⟨.det (fun val => (ptr b1 (2))), ⟨fun _ _ hv => rfl, fun _ _ _ _ _ => trivial⟩, fun val h_ W hx he => ⟨⟨80, rfl, rfl⟩, ?_⟩, ?_⟩
            ·exact X_fldP (b := b1) (o := 0) (r := 2) Fd26_2 rfl rfl ⟨Upd.refl _ _, rfl⟩
            refine ⟨.det (fun val => bv), ⟨fun _ _ hv => rfl, fun _ _ _ _ _ => trivial⟩, fun val h_ W hx he => ⟨⟨80, rfl, rfl⟩, ?_⟩, ?_⟩
            ·replace hx := (Upd.drew _ _).trans hx
             replace hB1 := hB1.ext hx
             refine id (X_load (p := (ptr b1 (2))) (v := bv) T24 rfl (hB1.at1 rfl) ?_)
             exact ⟨Upd.refl _ _, rfl⟩
            refine ⟨.det (fun val => (.int .i64 (((i : Nat) : Int)))), ⟨fun _ _ hv => rfl, fun _ _ _ _ _ => trivial⟩, fun val h_ W hx he => ⟨⟨80, rfl, rfl⟩, ?_⟩, ?_⟩
            ·exact X_move (v := (.int .i64 (((i : Nat) : Int)))) rfl ⟨Upd.refl _ _, rfl⟩
            refine ⟨.det (fun val => (.int .i64 (((i - 1 : Nat) : Int)))), ⟨fun _ _ hv => rfl, fun _ _ _ _ _ => trivial⟩, fun val h_ W hx he => ⟨⟨80, rfl, rfl⟩, ?_⟩, ?_⟩
            ·exact X_arith (k := .i64) (a := ((i : Nat) : Int)) (b := 1) (r := ((i - 1 : Nat) : Int)) rfl rfl rfl (isub64 (by omega) (by omega) (by omega)) ⟨Upd.refl _ _, rfl⟩
            refine ⟨.det (fun val => (pof bv ((((i - 1 : Nat) : Int) : Int).toNat * 1))), ⟨fun _ _ hv => rfl, fun _ _ _ _ _ => trivial⟩, fun val h_ W hx he => ⟨⟨80, rfl, rfl⟩, ?_⟩, ?_⟩
            ·replace hx := (Upd.drew _ _).trans hx
             replace hb := hb.ext hx
             refine id (X_idx (v := bv) (n := bs.length) (k := .i64) (i := ((i - 1 : Nat) : Int)) S24 rfl hb.sv rfl (by omega) (by omega) ?_)
             exact ⟨Upd.refl _ _, rfl⟩
            refine ⟨.det (fun val => (.int .i64 (a0))), ⟨fun _ _ hv => rfl, fun _ _ _ _ _ => trivial⟩, fun val h_ W hx he => ⟨⟨80, rfl, rfl⟩, ?_⟩, ?_⟩
            ·replace hx := (Upd.drew _ _).trans hx
             replace hb := hb.ext hx
             refine id (X_load (v := .int .i64 a0) T3 rfl (iat hb (Int.toNat_natCast _) ha0) ?_)
             exact ⟨Upd.refl _ _, rfl⟩
            refine ⟨.det (fun val => (ptr b1 (2))), ⟨fun _ _ hv => rfl, fun _ _ _ _ _ => trivial⟩, fun val h_ W hx he => ⟨⟨80, rfl, rfl⟩, ?_⟩, ?_⟩
            ·exact X_fldP (b := b1) (o := 0) (r := 2) Fd26_2 rfl rfl ⟨Upd.refl _ _, rfl⟩
            refine ⟨.det (fun val => bv), ⟨fun _ _ hv => rfl, fun _ _ _ _ _ => trivial⟩, fun val h_ W hx he => ⟨⟨80, rfl, rfl⟩, ?_⟩, ?_⟩
            ·replace hx := (Upd.drew _ _).trans hx
             replace hB1 := hB1.ext hx
             refine id (X_load (p := (ptr b1 (2))) (v := bv) T24 rfl (hB1.at1 rfl) ?_)
             exact ⟨Upd.refl _ _, rfl⟩
            refine ⟨.det (fun val => (.int .i64 (((i : Nat) : Int)))), ⟨fun _ _ hv => rfl, fun _ _ _ _ _ => trivial⟩, fun val h_ W hx he => ⟨⟨80, rfl, rfl⟩, ?_⟩, ?_⟩
            ·exact X_move (v := (.int .i64 (((i : Nat) : Int)))) rfl ⟨Upd.refl _ _, rfl⟩
            refine ⟨.det (fun val => (pof bv ((((i : Nat) : Int) : Int).toNat * 1))), ⟨fun _ _ hv => rfl, fun _ _ _ _ _ => trivial⟩, fun val h_ W hx he => ⟨⟨80, rfl, rfl⟩, ?_⟩, ?_⟩
            ·replace hx := (Upd.drew _ _).trans hx
             replace hb := hb.ext hx
             refine id (X_idx (v := bv) (n := bs.length) (k := .i64) (i := ((i : Nat) : Int)) S24 rfl hb.sv rfl (by omega) (by omega) ?_)
             exact ⟨Upd.refl _ _, rfl⟩
            refine ⟨.det (fun val => (.int .i64 (a))), ⟨fun _ _ hv => rfl, fun _ _ _ _ _ => trivial⟩, fun val h_ W hx he => ⟨⟨80, rfl, rfl⟩, ?_⟩, ?_⟩
            ·replace hx := (Upd.drew _ _).trans hx
             replace hb := hb.ext hx
             refine id (X_load (v := .int .i64 a) T3 rfl (iat hb (Int.toNat_natCast _) hai) ?_)
             exact ⟨Upd.refl _ _, rfl⟩
            intro val W20 hx20 he20
            replace hx20 := (Upd.drew _ _).trans hx20
            have hz20 := hx20.size
            replace hc := hc.ext hx20
            replace hb := hb.ext hx20
            replace hU := hU.trans (Ext.upd hx20)
            replace hB1 := hB1.ext hx20
            refine L_gy (dj := 80) rfl rfl rfl (X_cmp (k := .i64) (a := a0) (b := a) (r := false) rfl rfl rfl (decide_eq_false (p := ((a) : Int) ≤ ((a0) : Int)) (by have h_ := of_decide_eq_false hs18; omega)) ?_)
            refine L_gy (dj := 77) rfl rfl rfl (X_pick (t := true) (v := (.bool (false))) rfl rfl ?_)
            refine L_op rfl (X_pick (t := false) (v := (.bool (false))) rfl rfl ?_)
            refine L_nil ?_
            refine T_n ?_
            refine W_cf rfl ?_
            refine W_skip ?_
            refine B_n ?_
            refine T_n ?_
            refine W_reg ?_
            refine L_op rfl (X_move (v := (.int .i64 (((i : Nat) : Int)))) rfl ?_)
            refine L_op rfl (X_arith (k := .i64) (a := ((i : Nat) : Int)) (b := 1) (r := ((i + 1 : Nat) : Int)) rfl rfl rfl (iadd64 (by omega) (by omega) (by omega)) ?_)
            refine L_op rfl (X_assign (v := (.int .i64 (((i + 1 : Nat) : Int)))) rfl ?_)
            refine L_nil ?_
            refine T_n ?_
            exact ⟨rfl, i + 1, ⟨⟨hi, hc, hb, hB1, hU, hst.2 ⟨hzb, by have h0_ := of_decide_eq_false hs13; have h1_ := of_decide_eq_false hs15; have h2_ := of_decide_eq_true hs17; have h3_ := of_decide_eq_false hs18; omega⟩⟩, (by show bs.length - (i + 1) < bs.length - i; omega)⟩, (Out.mk rfl), ⟨rfl, trivial⟩⟩
          ·refine W_draw 30 [[], [0], [], [0, 1, 2], [0, 1, 2, 3], [0, 1, 2, 3, 4], [0, 1, 2, 3, 4, 5], [0, 1, 2, 3, 4, 5, 6], [0, 1, 2, 3, 4, 5, 6, 7], [0, 1, 2, 3, 4, 5, 6], [0, 1, 2, 3, 4, 5, 6, 7, 8, 9], [0, 1, 2, 3, 4, 5, 6, 7, 8, 9, 10], [0, 1, 2, 3, 4, 5, 6], [0, 1, 2, 3, 4, 5, 6, 7, 8, 9, 10, 11, 12], [0, 1, 2, 3, 4, 5, 6, 7, 8, 9, 10, 11, 12, 13], [0, 1, 2, 3, 4, 5, 6, 7, 8, 9, 10, 11, 12, 13, 14], [0, 1, 2, 3, 4, 5, 6, 7, 8, 9, 10, 11, 12, 13, 14, 15], [0, 1, 2, 3, 4, 5, 6, 7, 8, 9, 10, 11, 12, 13, 14, 15, 16], [0, 1, 2, 3, 4, 5, 6, 7, 8, 9, 10, 11, 12, 13, 14, 15, 16, 17], [0, 1, 2, 3, 4, 5, 6, 7, 8, 9, 10, 11, 12, 13, 14, 15, 16, 17, 18], [0, 1, 2, 3, 4, 5, 6, 7, 8, 9, 10, 11, 12, 13, 14, 15, 16, 17, 18, 19], [0, 1, 2, 3, 4, 5, 6, 7, 8, 9, 10, 11, 12, 13, 14, 15, 16, 17, 18], [0, 1, 2, 3, 4, 5, 6, 7, 8, 9, 10, 11, 12, 13, 14, 15, 16, 17, 18, 21], [0, 1, 2, 3, 4, 5, 6, 7, 8, 9, 10, 11, 12, 13, 14, 15, 16, 17, 18, 19, 20, 21, 22], [0, 1, 2, 3, 4, 5, 6, 7, 8, 9, 10, 11, 12, 13, 14, 15, 16, 17, 18, 19, 20, 21, 22, 23], [0, 1, 2, 3, 4, 5, 6, 7, 8, 9, 10, 11, 12, 13, 14, 15, 16, 17, 18], [0, 1, 2, 3, 4, 5, 6, 7, 8, 9, 10, 11, 12, 13, 14, 15, 16, 17, 18, 25], [0, 1, 2, 3, 4, 5, 6, 7, 8, 9, 10, 11, 12, 13, 14, 15, 16, 17, 18], [0, 1, 2, 3, 4, 5, 6, 7, 8, 9, 10, 11, 12, 13, 14, 15, 16, 17, 18, 25, 26, 27], [0, 1, 2, 3, 4, 5, 6, 7, 8, 9, 10, 11, 12, 13, 14, 15, 16, 17, 18, 25, 26, 27, 28], [0, 1, 2, 3, 4, 5, 6, 7, 8, 9, 10, 11, 12, 13, 14, 15, 16, 17, 18, 19, 20, 21, 22, 23, 24, 25, 26, 27, 28, 29], [0, 1, 2, 3, 4, 5, 6, 7, 8, 9, 10, 11, 12, 13, 14, 15, 16, 17, 18, 19, 20, 21, 22, 23, 24, 25, 26, 27, 28, 29, 30], [0, 1, 2, 3, 4, 5, 6, 7, 8, 9, 10, 11, 12, 13, 14, 15, 16, 17, 18, 19, 20, 21, 22, 23, 24, 25, 26, 27, 28, 29, 30, 31]] mixed (by kernel_rfl) ?_
           refine ⟨.det (fun val => (ptr b1 (2))), ⟨fun _ _ hv => rfl, fun _ _ _ _ _ => trivial⟩, fun val h_ W hx he => ⟨trivial, ?_⟩, ?_⟩
           ·exact X_fldP (b := b1) (o := 0) (r := 2) Fd26_2 rfl rfl ⟨Upd.refl _ _, rfl⟩
           refine ⟨.det (fun val => bv), ⟨fun _ _ hv => rfl, fun _ _ _ _ _ => trivial⟩, fun val h_ W hx he => ⟨trivial, ?_⟩, ?_⟩
           ·replace hx := (Upd.drew _ _).trans hx
            replace hB1 := hB1.ext hx
            refine id (X_load (p := (ptr b1 (2))) (v := bv) T24 rfl (hB1.at1 rfl) ?_)
            exact ⟨Upd.refl _ _, rfl⟩
           refine ⟨.det (fun val => (.int .i64 (((i : Nat) : Int)))), ⟨fun _ _ hv => rfl, fun _ _ _ _ _ => trivial⟩, fun val h_ W hx he => ⟨trivial, ?_⟩, ?_⟩
           ·exact X_move (v := (.int .i64 (((i : Nat) : Int)))) rfl ⟨Upd.refl _ _, rfl⟩
           refine ⟨.det (fun val => (pof bv ((((i : Nat) : Int) : Int).toNat * 1))), ⟨fun _ _ hv => rfl, fun _ _ _ _ _ => trivial⟩, fun val h_ W hx he => ⟨trivial, ?_⟩, ?_⟩
           ·replace hx := (Upd.drew _ _).trans hx
            replace hb := hb.ext hx
            refine id (X_idx (v := bv) (n := bs.length) (k := .i64) (i := ((i : Nat) : Int)) S24 rfl hb.sv rfl (by omega) (by omega) ?_)
            exact ⟨Upd.refl _ _, rfl⟩
           refine ⟨.det (fun val => (.int .i64 (a))), ⟨fun _ _ hv => rfl, fun _ _ _ _ _ => trivial⟩, fun val h_ W hx he => ⟨trivial, ?_⟩, ?_⟩
           ·replace hx := (Upd.drew _ _).trans hx
            replace hb := hb.ext hx
            refine id (X_load (v := .int .i64 a) T3 rfl (iat hb (Int.toNat_natCast _) hai) ?_)
            exact ⟨Upd.refl _ _, rfl⟩
           refine ⟨.det (fun val => (.bool (false))), ⟨fun _ _ hv => rfl, fun _ _ _ _ _ => trivial⟩, fun val h_ W hx he => ⟨trivial, ?_⟩, ?_⟩
           ·exact X_cmp (k := .i64) (a := a) (b := 0) (r := false) rfl rfl rfl (decide_eq_false (p := ((a) : Int) < ((0) : Int)) (by have h_ := of_decide_eq_false hs13; omega)) ⟨Upd.refl _ _, rfl⟩
           refine ⟨.det (fun val => (.bool (false))), ⟨fun _ _ hv => rfl, fun _ _ _ _ _ => trivial⟩, fun val h_ W hx he => ⟨trivial, ?_⟩, ?_⟩
           ·exact X_move (v := (.bool (false))) rfl ⟨Upd.refl _ _, rfl⟩
           refine ⟨.det (fun val => (ptr b1 (2))), ⟨fun _ _ hv => rfl, fun _ _ _ _ _ => trivial⟩, fun val h_ W hx he => ⟨⟨68, rfl, rfl⟩, ?_⟩, ?_⟩
           ·exact X_fldP (b := b1) (o := 0) (r := 2) Fd26_2 rfl rfl ⟨Upd.refl _ _, rfl⟩
           refine ⟨.det (fun val => bv), ⟨fun _ _ hv => rfl, fun _ _ _ _ _ => trivial⟩, fun val h_ W hx he => ⟨⟨68, rfl, rfl⟩, ?_⟩, ?_⟩
           ·replace hx := (Upd.drew _ _).trans hx
            replace hB1 := hB1.ext hx
            refine id (X_load (p := (ptr b1 (2))) (v := bv) T24 rfl (hB1.at1 rfl) ?_)
            exact ⟨Upd.refl _ _, rfl⟩
           refine ⟨.det (fun val => (.int .i64 (((i : Nat) : Int)))), ⟨fun _ _ hv => rfl, fun _ _ _ _ _ => trivial⟩, fun val h_ W hx he => ⟨⟨68, rfl, rfl⟩, ?_⟩, ?_⟩
           ·exact X_move (v := (.int .i64 (((i : Nat) : Int)))) rfl ⟨Upd.refl _ _, rfl⟩
           refine ⟨.det (fun val => (pof bv ((((i : Nat) : Int) : Int).toNat * 1))), ⟨fun _ _ hv => rfl, fun _ _ _ _ _ => trivial⟩, fun val h_ W hx he => ⟨⟨68, rfl, rfl⟩, ?_⟩, ?_⟩
           ·replace hx := (Upd.drew _ _).trans hx
            replace hb := hb.ext hx
            refine id (X_idx (v := bv) (n := bs.length) (k := .i64) (i := ((i : Nat) : Int)) S24 rfl hb.sv rfl (by omega) (by omega) ?_)
            exact ⟨Upd.refl _ _, rfl⟩
           refine ⟨.det (fun val => (.int .i64 (a))), ⟨fun _ _ hv => rfl, fun _ _ _ _ _ => trivial⟩, fun val h_ W hx he => ⟨⟨68, rfl, rfl⟩, ?_⟩, ?_⟩
           ·replace hx := (Upd.drew _ _).trans hx
            replace hb := hb.ext hx
            refine id (X_load (v := .int .i64 a) T3 rfl (iat hb (Int.toNat_natCast _) hai) ?_)
            exact ⟨Upd.refl _ _, rfl⟩
           refine ⟨.det (fun val => (.int .i64 (((ps.length : Nat) : Int)))), ⟨fun _ _ hv => rfl, fun _ _ _ _ _ => trivial⟩, fun val h_ W hx he => ⟨⟨68, rfl, rfl⟩, ?_⟩, ?_⟩
           ·exact X_move (v := (.int .i64 (((ps.length : Nat) : Int)))) rfl ⟨Upd.refl _ _, rfl⟩
           refine ⟨.det (fun val => (.bool (false))), ⟨fun _ _ hv => rfl, fun _ _ _ _ _ => trivial⟩, fun val h_ W hx he => ⟨⟨68, rfl, rfl⟩, ?_⟩, ?_⟩
           ·exact X_cmp (k := .i64) (a := a) (b := ((ps.length : Nat) : Int)) (r := false) rfl rfl rfl (decide_eq_false (p := ((((ps.length : Nat) : Int)) : Int) ≤ ((a) : Int)) (by have h_ := of_decide_eq_false hs15; omega)) ⟨Upd.refl _ _, rfl⟩
           refine ⟨.det (fun val => (.bool (false))), ⟨fun _ _ hv => rfl, fun _ _ _ _ _ => trivial⟩, fun val h_ W hx he => ⟨trivial, ?_⟩, ?_⟩
           ·exact X_pick (t := false) (v := (.bool (false))) rfl rfl ⟨Upd.refl _ _, rfl⟩
           refine ⟨.det (fun val => (.bool (false))), ⟨fun _ _ hv => rfl, fun _ _ _ _ _ => trivial⟩, fun val h_ W hx he => ⟨trivial, ?_⟩, ?_⟩
           ·exact X_move (v := (.bool (false))) rfl ⟨Upd.refl _ _, rfl⟩
           refine ⟨.det (fun val => (.int .i64 (((i : Nat) : Int)))), ⟨fun _ _ hv => rfl, fun _ _ _ _ _ => trivial⟩, fun val h_ W hx he => ⟨⟨77, rfl, rfl⟩, ?_⟩, ?_⟩
           ·exact X_move (v := (.int .i64 (((i : Nat) : Int)))) rfl ⟨Upd.refl _ _, rfl⟩
           refine ⟨.det (fun val => (.bool (false))), ⟨fun _ _ hv => rfl, fun _ _ _ _ _ => trivial⟩, fun val h_ W hx he => ⟨⟨77, rfl, rfl⟩, ?_⟩, ?_⟩
           ·exact X_cmp (k := .i64) (a := ((i : Nat) : Int)) (b := 0) (r := false) rfl rfl rfl (decide_eq_false (p := ((0) : Int) < ((((i : Nat) : Int)) : Int)) (by have h_ := of_decide_eq_false hs17; omega)) ⟨Upd.refl _ _, rfl⟩
           refine ⟨.det (fun val => (.bool (false))), ⟨fun _ _ hv => rfl, fun _ _ _ _ _ => trivial⟩, fun val h_ W hx he => ⟨⟨77, rfl, rfl⟩, ?_⟩, ?_⟩
           ·exact X_move (v := (.bool (false))) rfl ⟨Upd.refl _ _, rfl⟩
           refine ⟨.no, ⟨fun _ _ _ => trivial, fun _ _ _ _ _ => trivial⟩, fun val h_ W hx he => ⟨80, rfl, .inl rfl⟩, ?_⟩
           refine ⟨.no, ⟨fun _ _ _ => trivial, fun _ _ _ _ _ => trivial⟩, fun val h_ W hx he => ⟨80, rfl, .inl rfl⟩, ?_⟩
           refine ⟨.no, ⟨fun _ _ _ => trivial, fun _ _ _ _ _ => trivial⟩, fun val h_ W hx he => ⟨80, rfl, .inl rfl⟩, ?_⟩
           refine ⟨.no, ⟨fun _ _ _ => trivial, fun _ _ _ _ _ => trivial⟩, fun val h_ W hx he => ⟨80, rfl, .inl rfl⟩, ?_⟩
           refine ⟨.no, ⟨fun _ _ _ => trivial, fun _ _ _ _ _ => trivial⟩, fun val h_ W hx he => ⟨80, rfl, .inl rfl⟩, ?_⟩
           refine ⟨.no, ⟨fun _ _ _ => trivial, fun _ _ _ _ _ => trivial⟩, fun val h_ W hx he => ⟨80, rfl, .inl rfl⟩, ?_⟩
           refine ⟨.no, ⟨fun _ _ _ => trivial, fun _ _ _ _ _ => trivial⟩, fun val h_ W hx he => ⟨80, rfl, .inl rfl⟩, ?_⟩
           refine ⟨.no, ⟨fun _ _ _ => trivial, fun _ _ _ _ _ => trivial⟩, fun val h_ W hx he => ⟨80, rfl, .inl rfl⟩, ?_⟩
           refine ⟨.no, ⟨fun _ _ _ => trivial, fun _ _ _ _ _ => trivial⟩, fun val h_ W hx he => ⟨80, rfl, .inl rfl⟩, ?_⟩
           refine ⟨.no, ⟨fun _ _ _ => trivial, fun _ _ _ _ _ => trivial⟩, fun val h_ W hx he => ⟨80, rfl, .inl rfl⟩, ?_⟩
           refine ⟨.no, ⟨fun _ _ _ => trivial, fun _ _ _ _ _ => trivial⟩, fun val h_ W hx he => ⟨80, rfl, .inl rfl⟩, ?_⟩
           intro val W21 hx21 he21
           replace hx21 := (Upd.drew _ _).trans hx21
           have hz21 := hx21.size
           replace hc := hc.ext hx21
           replace hb := hb.ext hx21
           replace hU := hU.trans (Ext.upd hx21)
           replace hB1 := hB1.ext hx21
           refine L_gn (dj := 80) (t := false) rfl rfl rfl rfl ?_
           refine L_gy (dj := 77) rfl rfl rfl (X_pick (t := false) (v := (.bool (false))) rfl rfl ?_)
           refine L_op rfl (X_pick (t := false) (v := (.bool (false))) rfl rfl ?_)
           refine L_nil ?_
           refine T_n ?_
           refine W_cf rfl ?_
           refine W_skip ?_
           refine B_n ?_
           refine T_n ?_
           refine W_reg ?_
           refine L_op rfl (X_move (v := (.int .i64 (((i : Nat) : Int)))) rfl ?_)
           refine L_op rfl (X_arith (k := .i64) (a := ((i : Nat) : Int)) (b := 1) (r := ((i + 1 : Nat) : Int)) rfl rfl rfl (iadd64 (by omega) (by omega) (by omega)) ?_)
           refine L_op rfl (X_assign (v := (.int .i64 (((i + 1 : Nat) : Int)))) rfl ?_)
           refine L_nil ?_
           refine T_n ?_
           exact ⟨rfl, i + 1, ⟨⟨hi, hc, hb, hB1, hU, hst.2 ⟨hzb, by have h0_ := of_decide_eq_false hs13; have h1_ := of_decide_eq_false hs15; have h2_ := of_decide_eq_false hs17; have hb0 : before bs i = -1 := by { unfold before; rw [if_pos (by omega)] }; omega⟩⟩, (by show bs.length - (i + 1) < bs.length - i; omega)⟩, (Out.mk rfl), ⟨rfl, trivial⟩⟩
       ·refine L_op rfl (X_cmp (k := .i64) (a := ((i : Nat) : Int)) (b := ((bs.length : Nat) : Int)) (r := false) rfl rfl rfl (decide_eq_false (p := ((((i : Nat) : Int)) : Int) < ((((bs.length : Nat) : Int)) : Int)) (by omega)) ?_)
        refine L_nil ?_
        refine T_n ?_
        refine W_cf rfl ?_
        refine W_exit ?_
        refine T_e ?_
        refine T_e ?_
        refine B_x ?_
        refine T_n ?_
        refine W_seq ?_
        refine W_reg ?_
        refine L_op rfl (X_assign (v := (.bool (true))) rfl ?_)
        refine L_nil ?_
        refine T_n ?_
        refine W_ret ?_
        exact BQ_r (End_1 Try.results7 (v := .bool true) rfl ⟨⟨true, rfl, ⟨fun _ => ⟨hH, inC_mono hzc (by omega), inB_mono hzb (by omega)⟩, fun _ => rfl⟩⟩, hU.own hn0⟩)
    ·refine L_gy (dj := 21) rfl rfl rfl (X_load (p := (ptr b1 (3))) (v := .bool false) T4 rfl (hB1.at1 (by rw [ho5]; rfl)) ?_)
     refine L_gy (dj := 21) rfl rfl rfl (X_move (v := (.bool (false))) rfl ?_)
     refine L_gn (dj := 24) (t := false) rfl rfl rfl rfl ?_
     refine L_gn (dj := 24) (t := false) rfl rfl rfl rfl ?_
     refine L_gn (dj := 24) (t := false) rfl rfl rfl rfl ?_
     refine L_gn (dj := 24) (t := false) rfl rfl rfl rfl ?_
     refine L_gy (dj := 21) rfl rfl rfl (X_pick (t := false) (v := (.bool (false))) rfl rfl ?_)
     refine L_op rfl (X_pick (t := false) (v := (.bool (false))) rfl rfl ?_)
     refine L_nil ?_
     refine T_n ?_
     refine W_cf rfl ?_
     refine W_skip ?_
     refine T_n ?_
     refine W_seq ?_
     refine W_seq ?_
     refine W_reg ?_
     refine L_op rfl (X_assign (v := (.int .i64 (0))) rfl ?_)
     refine L_nil ?_
     refine T_n ?_
     refine W_block ?_
     refine W_loop (α := Nat) [2, 4, 31, 32, 33, 34, 35, 36, 37, 38, 39, 40, 41, 42, 43, 44, 45, 46, 47, 48, 49, 50, 51, 52, 53, 54] (fun i => [(4, (.int .i64 (((i : Nat) : Int))))]) (fun i w_ => i ≤ cs.length ∧ NRd LW w_ lo up cv cs ∧ NRd LI w_ lo up bv bs ∧ Blk w_ b1 #[pv, cv, bv, .bool off] 26 ∧ Upd (fun i => n0 ≤ i) w w_ ∧ InC ps.length cs i) (fun i => cs.length - i) ⟨rfl, 0, ⟨Nat.zero_le _, hc, hb, hB1, hU, inC_0⟩, Out.refl _ _, ⟨rfl, trivial⟩⟩ ?_
     rintro i w22 _ ⟨hil, hc, hb, hB1, hU, hzc⟩
     refine W_seq ?_
     refine W_seq ?_
     refine W_reg ?_
     refine L_op rfl (X_move (v := (.int .i64 (((i : Nat) : Int)))) rfl ?_)
     refine L_op rfl (X_fldP (b := b1) (o := 0) (r := 1) Fd26_1 rfl rfl ?_)
     refine L_op rfl (X_load (p := (ptr b1 (1))) (v := cv) T23 rfl (hB1.at1 rfl) ?_)
     refine L_op rfl (X_len (v := cv) (n := cs.length) Try.underlying23 rfl hc.sv ?_)
     by_cases hc23 : (((i : Nat) : Int) : Int) < (((cs.length : Nat) : Int))
     ·refine L_op rfl (X_cmp (k := .i64) (a := ((i : Nat) : Int)) (b := ((cs.length : Nat) : Int)) (r := true) rfl rfl rfl (decide_eq_true (p := ((((i : Nat) : Int)) : Int) < ((((cs.length : Nat) : Int)) : Int)) (by omega)) ?_)
      have hi : i < cs.length := by omega
      obtain ⟨e, hei⟩ : ∃ e, cs[i]? = some e := ⟨_, List.getElem?_eq_getElem hi⟩
      refine L_nil ?_
      refine T_n ?_
      refine W_ct rfl ?_
      refine W_skip ?_
      refine T_n ?_
      refine W_seq ?_
      refine W_block ?_
      refine W_seq ?_
      refine W_reg ?_
      refine L_op rfl (X_fldP (b := b1) (o := 0) (r := 1) Fd26_1 rfl rfl ?_)
      refine L_op rfl (X_load (p := (ptr b1 (1))) (v := cv) T23 rfl (hB1.at1 rfl) ?_)
      refine L_op rfl (X_move (v := (.int .i64 (((i : Nat) : Int)))) rfl ?_)
      refine L_op rfl (X_idx (v := cv) (n := cs.length) (k := .i64) (i := ((i : Nat) : Int)) S23 rfl hc.sv rfl (by omega) (by omega) ?_)
      refine L_op rfl (X_fldS (v := cv) (o := (((i : Nat) : Int) : Int).toNat * 257) Fd63_0 rfl hc.sv (by omega) ?_)
      refine L_op rfl (X_load (v := .int .i64 e.1) T3 rfl (wat hc (Int.toNat_natCast _) hei) ?_)
      by_cases hc24 : (e.1 : Int) < (0)
      ·refine L_op rfl (X_cmp (k := .i64) (a := e.1) (b := 0) (r := true) rfl rfl rfl (decide_eq_true (p := ((e.1) : Int) < ((0) : Int)) (by omega)) ?_)
       refine L_op rfl (X_move (v := (.bool (true))) rfl ?_)
       refine L_gn (dj := 45) (t := true) rfl rfl rfl rfl ?_
       refine L_gn (dj := 45) (t := true) rfl rfl rfl rfl ?_
       refine L_gn (dj := 45) (t := true) rfl rfl rfl rfl ?_
       refine L_gn (dj := 45) (t := true) rfl rfl rfl rfl ?_
       refine L_gn (dj := 45) (t := true) rfl rfl rfl rfl ?_
       refine L_gn (dj := 45) (t := true) rfl rfl rfl rfl ?_
       refine L_gn (dj := 45) (t := true) rfl rfl rfl rfl ?_
       refine L_gn (dj := 45) (t := true) rfl rfl rfl rfl ?_
       refine L_op rfl (X_pick (t := true) (v := (.bool (true))) rfl rfl ?_)
       refine L_nil ?_
       refine T_n ?_
       refine W_ct rfl ?_
       refine W_seq ?_
       refine W_reg ?_
       refine L_op rfl (X_assign (v := (.bool (false))) rfl ?_)
       refine L_nil ?_
       refine T_n ?_
       refine W_ret ?_
       refine B_r ?_
       refine T_r ?_
       refine T_r ?_
       refine B_r ?_
       refine T_r ?_
       exact BQ_r (End_1 Try.results7 (v := .bool false) rfl ⟨⟨false, rfl, ⟨fun h => (by cases h), fun h => (by have h1 := (inC_step hei).1 (inC_mono h.2.1 hi); omega)⟩⟩, hU.own hn0⟩)
      ·refine L_op rfl (X_cmp (k := .i64) (a := e.1) (b := 0) (r := false) rfl rfl rfl (decide_eq_false (p := ((e.1) : Int) < ((0) : Int)) (by omega)) ?_)
       refine L_op rfl (X_move (v := (.bool (false))) rfl ?_)
       refine L_gy (dj := 45) rfl rfl rfl (X_fldP (b := b1) (o := 0) (r := 1) Fd26_1 rfl rfl ?_)
       refine L_gy (dj := 45) rfl rfl rfl (X_load (p := (ptr b1 (1))) (v := cv) T23 rfl (hB1.at1 rfl) ?_)
       refine L_gy (dj := 45) rfl rfl rfl (X_move (v := (.int .i64 (((i : Nat) : Int)))) rfl ?_)
       refine L_gy (dj := 45) rfl rfl rfl (X_idx (v := cv) (n := cs.length) (k := .i64) (i := ((i : Nat) : Int)) S23 rfl hc.sv rfl (by omega) (by omega) ?_)
       refine L_gy (dj := 45) rfl rfl rfl (X_fldS (v := cv) (o := (((i : Nat) : Int) : Int).toNat * 257) Fd63_0 rfl hc.sv (by omega) ?_)
       refine L_gy (dj := 45) rfl rfl rfl (X_load (v := .int .i64 e.1) T3 rfl (wat hc (Int.toNat_natCast _) hei) ?_)
       refine L_gy (dj := 45) rfl rfl rfl (X_move (v := (.int .i64 (((ps.length : Nat) : Int)))) rfl ?_)
       by_cases hc25 : (e.1 : Int) ≥ (((ps.length : Nat) : Int))
       ·refine L_gy (dj := 45) rfl rfl rfl (X_cmp (k := .i64) (a := e.1) (b := ((ps.length : Nat) : Int)) (r := true) rfl rfl rfl (decide_eq_true (p := ((((ps.length : Nat) : Int)) : Int) ≤ ((e.1) : Int)) (by omega)) ?_)
        refine L_op rfl (X_pick (t := false) (v := (.bool (true))) rfl rfl ?_)
        refine L_nil ?_
        refine T_n ?_
        refine W_ct rfl ?_
        refine W_seq ?_
        refine W_reg ?_
        refine L_op rfl (X_assign (v := (.bool (false))) rfl ?_)
        refine L_nil ?_
        refine T_n ?_
        refine W_ret ?_
        refine B_r ?_
        refine T_r ?_
        refine T_r ?_
        refine B_r ?_
        refine T_r ?_
        exact BQ_r (End_1 Try.results7 (v := .bool false) rfl ⟨⟨false, rfl, ⟨fun h => (by cases h), fun h => (by have h1 := (inC_step hei).1 (inC_mono h.2.1 hi); omega)⟩⟩, hU.own hn0⟩)
       ·refine L_gy (dj := 45) rfl rfl rfl (X_cmp (k := .i64) (a := e.1) (b := ((ps.length : Nat) : Int)) (r := false) rfl rfl rfl (decide_eq_false (p := ((((ps.length : Nat) : Int)) : Int) ≤ ((e.1) : Int)) (by omega)) ?_)
        refine L_op rfl (X_pick (t := false) (v := (.bool (false))) rfl rfl ?_)
        refine L_nil ?_
        refine T_n ?_
        refine W_cf rfl ?_
        refine W_skip ?_
        refine B_n ?_
        refine T_n ?_
        refine W_reg ?_
        refine L_op rfl (X_move (v := (.int .i64 (((i : Nat) : Int)))) rfl ?_)
        refine L_op rfl (X_arith (k := .i64) (a := ((i : Nat) : Int)) (b := 1) (r := ((i + 1 : Nat) : Int)) rfl rfl rfl (iadd64 (by omega) (by omega) (by omega)) ?_)
        refine L_op rfl (X_assign (v := (.int .i64 (((i + 1 : Nat) : Int)))) rfl ?_)
        refine L_nil ?_
        refine T_n ?_
        exact ⟨rfl, i + 1, ⟨⟨hi, hc, hb, hB1, hU, (inC_step hei).2 ⟨hzc, by omega, by omega⟩⟩, (by show cs.length - (i + 1) < cs.length - i; omega)⟩, (Out.mk rfl), ⟨rfl, trivial⟩⟩
     ·refine L_op rfl (X_cmp (k := .i64) (a := ((i : Nat) : Int)) (b := ((cs.length : Nat) : Int)) (r := false) rfl rfl rfl (decide_eq_false (p := ((((i : Nat) : Int)) : Int) < ((((cs.length : Nat) : Int)) : Int)) (by omega)) ?_)
      have hH : HeadD ps.length cs.length off := ⟨by omega, by omega, by omega, fun h => by simp_all <;> omega⟩
      refine L_nil ?_
      refine T_n ?_
      refine W_cf rfl ?_
      refine W_exit ?_
      refine T_e ?_
      refine T_e ?_
      refine B_x ?_
      refine T_n ?_
      refine W_seq ?_
      refine W_seq ?_
      refine W_reg ?_
      refine L_op rfl (X_assign (v := (.int .i64 (0))) rfl ?_)
      refine L_nil ?_
      refine T_n ?_
      refine W_block ?_
      refine W_loop (α := Nat) [2, 5, 55, 56, 57, 58, 59, 60, 61, 62, 63, 64, 65, 66, 67, 68, 69, 70, 71, 72, 73, 74, 75, 76, 77, 78, 79, 80, 81, 82, 83, 84, 85, 86, 87, 88, 89, 90, 91, 92, 93, 94] (fun i => [(5, (.int .i64 (((i : Nat) : Int))))]) (fun i w_ => i ≤ bs.length ∧ NRd LW w_ lo up cv cs ∧ NRd LI w_ lo up bv bs ∧ Blk w_ b1 #[pv, cv, bv, .bool off] 26 ∧ Upd (fun i => n0 ≤ i) w w_ ∧ InB ps.length bs i) (fun i => bs.length - i) ⟨rfl, 0, ⟨Nat.zero_le _, hc, hb, hB1, hU, inB_0⟩, Out.refl _ _, ⟨rfl, trivial⟩⟩ ?_
      rintro i w26 _ ⟨hil, hc, hb, hB1, hU, hzb⟩
      refine W_seq ?_
      refine W_seq ?_
      refine W_reg ?_
      refine L_op rfl (X_move (v := (.int .i64 (((i : Nat) : Int)))) rfl ?_)
      refine L_op rfl (X_fldP (b := b1) (o := 0) (r := 2) Fd26_2 rfl rfl ?_)
      refine L_op rfl (X_load (p := (ptr b1 (2))) (v := bv) T24 rfl (hB1.at1 rfl) ?_)
      refine L_op rfl (X_len (v := bv) (n := bs.length) Try.underlying24 rfl hb.sv ?_)
      by_cases hc27 : (((i : Nat) : Int) : Int) < (((bs.length : Nat) : Int))
      ·refine L_op rfl (X_cmp (k := .i64) (a := ((i : Nat) : Int)) (b := ((bs.length : Nat) : Int)) (r := true) rfl rfl rfl (decide_eq_true (p := ((((i : Nat) : Int)) : Int) < ((((bs.length : Nat) : Int)) : Int)) (by omega)) ?_)
       have hi : i < bs.length := by omega
       obtain ⟨a, hai⟩ : ∃ a, bs[i]? = some a := ⟨_, List.getElem?_eq_getElem hi⟩
       have hst := inB_step (n := ps.length) hai
       refine L_nil ?_
       refine T_n ?_
       refine W_ct rfl ?_
       refine W_skip ?_
       refine T_n ?_
       refine W_seq ?_
       refine W_block ?_
       refine W_seq ?_
       rcases Bool.eq_false_or_eq_true (decide (a < 0)) with hs28 | hs28
       ·refine W_draw 30 [[], [0], [], [0, 1, 2], [0, 1, 2, 3], [0, 1, 2, 3, 4], [0, 1, 2, 3, 4, 5], [0, 1, 2, 3, 4, 5, 6], [0, 1, 2, 3, 4, 5, 6, 7], [0, 1, 2, 3, 4, 5, 6], [0, 1, 2, 3, 4, 5, 6, 7, 8, 9], [0, 1, 2, 3, 4, 5, 6, 7, 8, 9, 10], [0, 1, 2, 3, 4, 5, 6], [0, 1, 2, 3, 4, 5, 6, 7, 8, 9, 10, 11, 12], [0, 1, 2, 3, 4, 5, 6, 7, 8, 9, 10, 11, 12, 13], [0, 1, 2, 3, 4, 5, 6, 7, 8, 9, 10, 11, 12, 13, 14], [0, 1, 2, 3, 4, 5, 6, 7, 8, 9, 10, 11, 12, 13, 14, 15], [0, 1, 2, 3, 4, 5, 6, 7, 8, 9, 10, 11, 12, 13, 14, 15, 16], [0, 1, 2, 3, 4, 5, 6, 7, 8, 9, 10, 11, 12, 13, 14, 15, 16, 17], [0, 1, 2, 3, 4, 5, 6, 7, 8, 9, 10, 11, 12, 13, 14, 15, 16, 17, 18], [0, 1, 2, 3, 4, 5, 6, 7, 8, 9, 10, 11, 12, 13, 14, 15, 16, 17, 18, 19], [0, 1, 2, 3, 4, 5, 6, 7, 8, 9, 10, 11, 12, 13, 14, 15, 16, 17, 18], [0, 1, 2, 3, 4, 5, 6, 7, 8, 9, 10, 11, 12, 13, 14, 15, 16, 17, 18, 21], [0, 1, 2, 3, 4, 5, 6, 7, 8, 9, 10, 11, 12, 13, 14, 15, 16, 17, 18, 19, 20, 21, 22], [0, 1, 2, 3, 4, 5, 6, 7, 8, 9, 10, 11, 12, 13, 14, 15, 16, 17, 18, 19, 20, 21, 22, 23], [0, 1, 2, 3, 4, 5, 6, 7, 8, 9, 10, 11, 12, 13, 14, 15, 16, 17, 18], [0, 1, 2, 3, 4, 5, 6, 7, 8, 9, 10, 11, 12, 13, 14, 15, 16, 17, 18, 25], [0, 1, 2, 3, 4, 5, 6, 7, 8, 9, 10, 11, 12, 13, 14, 15, 16, 17, 18], [0, 1, 2, 3, 4, 5, 6, 7, 8, 9, 10, 11, 12, 13, 14, 15, 16, 17, 18, 25, 26, 27], [0, 1, 2, 3, 4, 5, 6, 7, 8, 9, 10, 11, 12, 13, 14, 15, 16, 17, 18, 25, 26, 27, 28], [0, 1, 2, 3, 4, 5, 6, 7, 8, 9, 10, 11, 12, 13, 14, 15, 16, 17, 18, 19, 20, 21, 22, 23, 24, 25, 26, 27, 28, 29], [0, 1, 2, 3, 4, 5, 6, 7, 8, 9, 10, 11, 12, 13, 14, 15, 16, 17, 18, 19, 20, 21, 22, 23, 24, 25, 26, 27, 28, 29, 30], [0, 1, 2, 3, 4, 5, 6, 7, 8, 9, 10, 11, 12, 13, 14, 15, 16, 17, 18, 19, 20, 21, 22, 23, 24, 25, 26, 27, 28, 29, 30, 31]] mixed (by kernel_rfl) ?_
        refine ⟨.det (fun val => (ptr b1 (2))), ⟨fun _ _ hv => rfl, fun _ _ _ _ _ => trivial⟩, fun val h_ W hx he => ⟨trivial, ?_⟩, ?_⟩
        ·exact X_fldP (b := b1) (o := 0) (r := 2) Fd26_2 rfl rfl ⟨Upd.refl _ _, rfl⟩
        refine ⟨.det (fun val => bv), ⟨fun _ _ hv => rfl, fun _ _ _ _ _ => trivial⟩, fun val h_ W hx he => ⟨trivial, ?_⟩, ?_⟩
        ·replace hx := (Upd.drew _ _).trans hx
         replace hB1 := hB1.ext hx
         refine id (X_load (p := (ptr b1 (2))) (v := bv) T24 rfl (hB1.at1 rfl) ?_)
         exact ⟨Upd.refl _ _, rfl⟩
        refine ⟨.det (fun val => (.int .i64 (((i : Nat) : Int)))), ⟨fun _ _ hv => rfl, fun _ _ _ _ _ => trivial⟩, fun val h_ W hx he => ⟨trivial, ?_⟩, ?_⟩
        ·exact X_move (v := (.int .i64 (((i : Nat) : Int)))) rfl ⟨Upd.refl _ _, rfl⟩
        refine ⟨.det (fun val => (pof bv ((((i : Nat) : Int) : Int).toNat * 1))), ⟨fun _ _ hv => rfl, fun _ _ _ _ _ => trivial⟩, fun val h_ W hx he => ⟨trivial, ?_⟩, ?_⟩
        ·replace hx := (Upd.drew _ _).trans hx
         replace hb := hb.ext hx
         refine id (X_idx (v := bv) (n := bs.length) (k := .i64) (i := ((i : Nat) : Int)) S24 rfl hb.sv rfl (by omega) (by omega) ?_)
         exact ⟨Upd.refl _ _, rfl⟩
        refine ⟨.det (fun val => (.int .i64 (a))), ⟨fun _ _ hv => rfl, fun _ _ _ _ _ => trivial⟩, fun val h_ W hx he => ⟨trivial, ?_⟩, ?_⟩
        ·replace hx := (Upd.drew _ _).trans hx
         replace hb := hb.ext hx
         refine id (X_load (v := .int .i64 a) T3 rfl (iat hb (Int.toNat_natCast _) hai) ?_)
         exact ⟨Upd.refl _ _, rfl⟩
        refine ⟨.det (fun val => (.bool (true))), ⟨fun _ _ hv => rfl, fun _ _ _ _ _ => trivial⟩, fun val h_ W hx he => ⟨trivial, ?_⟩, ?_⟩
        ·exact X_cmp (k := .i64) (a := a) (b := 0) (r := true) rfl rfl rfl (decide_eq_true (p := ((a) : Int) < ((0) : Int)) (by have h_ := of_decide_eq_true hs28; omega)) ⟨Upd.refl _ _, rfl⟩
        refine ⟨.det (fun val => (.bool (true))), ⟨fun _ _ hv => rfl, fun _ _ _ _ _ => trivial⟩, fun val h_ W hx he => ⟨trivial, ?_⟩, ?_⟩
        ·exact X_move (v := (.bool (true))) rfl ⟨Upd.refl _ _, rfl⟩
        refine ⟨.no, ⟨fun _ _ _ => trivial, fun _ _ _ _ _ => trivial⟩, fun val h_ W hx he => ⟨68, rfl, .inl rfl⟩, ?_⟩
        refine ⟨.no, ⟨fun _ _ _ => trivial, fun _ _ _ _ _ => trivial⟩, fun val h_ W hx he => ⟨68, rfl, .inl rfl⟩, ?_⟩
        refine ⟨.no, ⟨fun _ _ _ => trivial, fun _ _ _ _ _ => trivial⟩, fun val h_ W hx he => ⟨68, rfl, .inl rfl⟩, ?_⟩
        refine ⟨.no, ⟨fun _ _ _ => trivial, fun _ _ _ _ _ => trivial⟩, fun val h_ W hx he => ⟨68, rfl, .inl rfl⟩, ?_⟩
        refine ⟨.no, ⟨fun _ _ _ => trivial, fun _ _ _ _ _ => trivial⟩, fun val h_ W hx he => ⟨68, rfl, .inl rfl⟩, ?_⟩
        refine ⟨.no, ⟨fun _ _ _ => trivial, fun _ _ _ _ _ => trivial⟩, fun val h_ W hx he => ⟨68, rfl, .inl rfl⟩, ?_⟩
        refine ⟨.no, ⟨fun _ _ _ => trivial, fun _ _ _ _ _ => trivial⟩, fun val h_ W hx he => ⟨68, rfl, .inl rfl⟩, ?_⟩
        refine ⟨.det (fun val => (.bool (true))), ⟨fun _ _ hv => rfl, fun _ _ _ _ _ => trivial⟩, fun val h_ W hx he => ⟨trivial, ?_⟩, ?_⟩
        ·exact X_pick (t := true) (v := (.bool (true))) rfl rfl ⟨Upd.refl _ _, rfl⟩
        refine ⟨.det (fun val => (.bool (true))), ⟨fun _ _ hv => rfl, fun _ _ _ _ _ => trivial⟩, fun val h_ W hx he => ⟨trivial, ?_⟩, ?_⟩
        ·exact X_move (v := (.bool (true))) rfl ⟨Upd.refl _ _, rfl⟩
        refine ⟨.no, ⟨fun _ _ _ => trivial, fun _ _ _ _ _ => trivial⟩, fun val h_ W hx he => ⟨77, rfl, .inl rfl⟩, ?_⟩
        refine ⟨.no, ⟨fun _ _ _ => trivial, fun _ _ _ _ _ => trivial⟩, fun val h_ W hx he => ⟨77, rfl, .inl rfl⟩, ?_⟩
        refine ⟨.no, ⟨fun _ _ _ => trivial, fun _ _ _ _ _ => trivial⟩, fun val h_ W hx he => ⟨77, rfl, .inl rfl⟩, ?_⟩
        refine ⟨.no, ⟨fun _ _ _ => trivial, fun _ _ _ _ _ => trivial⟩, fun val h_ W hx he => ⟨80, rfl, .inr rfl⟩, ?_⟩
        refine ⟨.no, ⟨fun _ _ _ => trivial, fun _ _ _ _ _ => trivial⟩, fun val h_ W hx he => ⟨80, rfl, .inr rfl⟩, ?_⟩
        refine ⟨.no, ⟨fun _ _ _ => trivial, fun _ _ _ _ _ => trivial⟩, fun val h_ W hx he => ⟨80, rfl, .inr rfl⟩, ?_⟩
        refine ⟨.no, ⟨fun _ _ _ => trivial, fun _ _ _ _ _ => trivial⟩, fun val h_ W hx he => ⟨80, rfl, .inr rfl⟩, ?_⟩
        refine ⟨.no, ⟨fun _ _ _ => trivial, fun _ _ _ _ _ => trivial⟩, fun val h_ W hx he => ⟨80, rfl, .inr rfl⟩, ?_⟩
        refine ⟨.no, ⟨fun _ _ _ => trivial, fun _ _ _ _ _ => trivial⟩, fun val h_ W hx he => ⟨80, rfl, .inr rfl⟩, ?_⟩
        refine ⟨.no, ⟨fun _ _ _ => trivial, fun _ _ _ _ _ => trivial⟩, fun val h_ W hx he => ⟨80, rfl, .inr rfl⟩, ?_⟩
        refine ⟨.no, ⟨fun _ _ _ => trivial, fun _ _ _ _ _ => trivial⟩, fun val h_ W hx he => ⟨80, rfl, .inr rfl⟩, ?_⟩
        refine ⟨.no, ⟨fun _ _ _ => trivial, fun _ _ _ _ _ => trivial⟩, fun val h_ W hx he => ⟨80, rfl, .inr rfl⟩, ?_⟩
        refine ⟨.no, ⟨fun _ _ _ => trivial, fun _ _ _ _ _ => trivial⟩, fun val h_ W hx he => ⟨80, rfl, .inr rfl⟩, ?_⟩
        refine ⟨.no, ⟨fun _ _ _ => trivial, fun _ _ _ _ _ => trivial⟩, fun val h_ W hx he => ⟨80, rfl, .inr rfl⟩, ?_⟩
        intro val W29 hx29 he29
        replace hx29 := (Upd.drew _ _).trans hx29
        have hz29 := hx29.size
        replace hc := hc.ext hx29
        replace hb := hb.ext hx29
        replace hU := hU.trans (Ext.upd hx29)
        replace hB1 := hB1.ext hx29
        refine L_gu (dj := 80) rfl rfl rfl ?_
        refine L_gn (dj := 77) (t := true) rfl rfl rfl rfl ?_
        refine L_op rfl (X_pick (t := true) (v := (.bool (true))) rfl rfl ?_)
        refine L_nil ?_
        refine T_n ?_
        refine W_ct rfl ?_
        refine W_seq ?_
        refine W_reg ?_
        refine L_op rfl (X_assign (v := (.bool (false))) rfl ?_)
        refine L_nil ?_
        refine T_n ?_
        refine W_ret ?_
        refine B_r ?_
        refine T_r ?_
        refine T_r ?_
        refine B_r ?_
        refine T_r ?_
        exact BQ_r (End_1 Try.results7 (v := .bool false) rfl ⟨⟨false, rfl, ⟨fun h => (by cases h), fun h => (by have h1 := hst.1 (inB_mono h.2.2 hi); have h2 := (inB_mono h.2.2 hi) i a (Nat.lt_succ_self _) hai; have h3_ := of_decide_eq_true hs28; omega)⟩⟩, hU.own hn0⟩)
       ·rcases Bool.eq_false_or_eq_true (decide (((ps.length : Nat) : Int) ≤ a)) with hs30 | hs30
        ·refine W_draw 30 [[], [0], [], [0, 1, 2], [0, 1, 2, 3], [0, 1, 2, 3, 4], [0, 1, 2, 3, 4, 5], [0, 1, 2, 3, 4, 5, 6], [0, 1, 2, 3, 4, 5, 6, 7], [0, 1, 2, 3, 4, 5, 6], [0, 1, 2, 3, 4, 5, 6, 7, 8, 9], [0, 1, 2, 3, 4, 5, 6, 7, 8, 9, 10], [0, 1, 2, 3, 4, 5, 6], [0, 1, 2, 3, 4, 5, 6, 7, 8, 9, 10, 11, 12], [0, 1, 2, 3, 4, 5, 6, 7, 8, 9, 10, 11, 12, 13], [0, 1, 2, 3, 4, 5, 6, 7, 8, 9, 10, 11, 12, 13, 14], [0, 1, 2, 3, 4, 5, 6, 7, 8, 9, 10, 11, 12, 13, 14, 15], [0, 1, 2, 3, 4, 5, 6, 7, 8, 9, 10, 11, 12, 13, 14, 15, 16], [0, 1, 2, 3, 4, 5, 6, 7, 8, 9, 10, 11, 12, 13, 14, 15, 16, 17], [0, 1, 2, 3, 4, 5, 6, 7, 8, 9, 10, 11, 12, 13, 14, 15, 16, 17, 18], [0, 1, 2, 3, 4, 5, 6, 7, 8, 9, 10, 11, 12, 13, 14, 15, 16, 17, 18, 19], [0, 1, 2, 3, 4, 5, 6, 7, 8, 9, 10, 11, 12, 13, 14, 15, 16, 17, 18], [0, 1, 2, 3, 4, 5, 6, 7, 8, 9, 10, 11, 12, 13, 14, 15, 16, 17, 18, 21], [0, 1, 2, 3, 4, 5, 6, 7, 8, 9, 10, 11, 12, 13, 14, 15, 16, 17, 18, 19, 20, 21, 22], [0, 1, 2, 3, 4, 5, 6, 7, 8, 9, 10, 11, 12, 13, 14, 15, 16, 17, 18, 19, 20, 21, 22, 23], [0, 1, 2, 3, 4, 5, 6, 7, 8, 9, 10, 11, 12, 13, 14, 15, 16, 17, 18], [0, 1, 2, 3, 4, 5, 6, 7, 8, 9, 10, 11, 12, 13, 14, 15, 16, 17, 18, 25], [0, 1, 2, 3, 4, 5, 6, 7, 8, 9, 10, 11, 12, 13, 14, 15, 16, 17, 18], [0, 1, 2, 3, 4, 5, 6, 7, 8, 9, 10, 11, 12, 13, 14, 15, 16, 17, 18, 25, 26, 27], [0, 1, 2, 3, 4, 5, 6, 7, 8, 9, 10, 11, 12, 13, 14, 15, 16, 17, 18, 25, 26, 27, 28], [0, 1, 2, 3, 4, 5, 6, 7, 8, 9, 10, 11, 12, 13, 14, 15, 16, 17, 18, 19, 20, 21, 22, 23, 24, 25, 26, 27, 28, 29], [0, 1, 2, 3, 4, 5, 6, 7, 8, 9, 10, 11, 12, 13, 14, 15, 16, 17, 18, 19, 20, 21, 22, 23, 24, 25, 26, 27, 28, 29, 30], [0, 1, 2, 3, 4, 5, 6, 7, 8, 9, 10, 11, 12, 13, 14, 15, 16, 17, 18, 19, 20, 21, 22, 23, 24, 25, 26, 27, 28, 29, 30, 31]] mixed (by kernel_rfl) ?_
         refine ⟨.det (fun val => (ptr b1 (2))), ⟨fun _ _ hv => rfl, fun _ _ _ _ _ => trivial⟩, fun val h_ W hx he => ⟨trivial, ?_⟩, ?_⟩
         ·exact X_fldP (b := b1) (o := 0) (r := 2) Fd26_2 rfl rfl ⟨Upd.refl _ _, rfl⟩
         refine ⟨.det (fun val => bv), ⟨fun _ _ hv => rfl, fun _ _ _ _ _ => trivial⟩, fun val h_ W hx he => ⟨trivial, ?_⟩, ?_⟩
         ·replace hx := (Upd.drew _ _).trans hx
          replace hB1 := hB1.ext hx
          refine id (X_load (p := (ptr b1 (2))) (v := bv) T24 rfl (hB1.at1 rfl) ?_)
          exact ⟨Upd.refl _ _, rfl⟩
         refine ⟨.det (fun val => (.int .i64 (((i : Nat) : Int)))), ⟨fun _ _ hv => rfl, fun _ _ _ _ _ => trivial⟩, fun val h_ W hx he => ⟨trivial, ?_⟩, ?_⟩
         ·exact X_move (v := (.int .i64 (((i : Nat) : Int)))) rfl ⟨Upd.refl _ _, rfl⟩
         refine ⟨.det (fun val => (pof bv ((((i : Nat) : Int) : Int).toNat * 1))), ⟨fun _ _ hv => rfl, fun _ _ _ _ _ => trivial⟩, fun val h_ W hx he => ⟨trivial, ?_⟩, ?_⟩
         ·replace hx := (Upd.drew _ _).trans hx
          replace hb := hb.ext hx
          refine id (X_idx (v := bv) (n := bs.length) (k := .i64) (i := ((i : Nat) : Int)) S24 rfl hb.sv rfl (by omega) (by omega) ?_)
          exact ⟨Upd.refl _ _, rfl⟩
         refine ⟨.det (fun val => (.int .i64 (a))), ⟨fun _ _ hv => rfl, fun _ _ _ _ _ => trivial⟩, fun val h_ W hx he => ⟨trivial, ?_⟩, ?_⟩
         ·replace hx := (Upd.drew _ _).trans hx
          replace hb := hb.ext hx
          refine id (X_load (v := .int .i64 a) T3 rfl (iat hb (Int.toNat_natCast _) hai) ?_)
          exact ⟨Upd.refl _ _, rfl⟩
         refine ⟨.det (fun val => (.bool (false))), ⟨fun _ _ hv => rfl, fun _ _ _ _ _ => trivial⟩, fun val h_ W hx he => ⟨trivial, ?_⟩, ?_⟩
         ·exact X_cmp (k := .i64) (a := a) (b := 0) (r := false) rfl rfl rfl (decide_eq_false (p := ((a) : Int) < ((0) : Int)) (by have h_ := of_decide_eq_false hs28; omega)) ⟨Upd.refl _ _, rfl⟩
         refine ⟨.det (fun val => (.bool (false))), ⟨fun _ _ hv => rfl, fun _ _ _ _ _ => trivial⟩, fun val h_ W hx he => ⟨trivial, ?_⟩, ?_⟩
         ·exact X_move (v := (.bool (false))) rfl ⟨Upd.refl _ _, rfl⟩
         refine ⟨.det (fun val => (ptr b1 (2))), ⟨fun _ _ hv => rfl, fun _ _ _ _ _ => trivial⟩, fun val h_ W hx he => ⟨⟨68, rfl, rfl⟩, ?_⟩, ?_⟩
         ·exact X_fldP (b := b1) (o := 0) (r := 2) Fd26_2 rfl rfl ⟨Upd.refl _ _, rfl⟩
         refine ⟨.det (fun val => bv), ⟨fun _ _ hv => rfl, fun _ _ _ _ _ => trivial⟩, fun val h_ W hx he => ⟨⟨68, rfl, rfl⟩, ?_⟩, ?_⟩
         ·replace hx := (Upd.drew _ _).trans hx
          replace hB1 := hB1.ext hx
          refine id (X_load (p := (ptr b1 (2))) (v := bv) T24 rfl (hB1.at1 rfl) ?_)
          exact ⟨Upd.refl _ _, rfl⟩
         refine ⟨.det (fun val => (.int .i64 (((i : Nat) : Int)))), ⟨fun _ _ hv => rfl, fun _ _ _ _ _ => trivial⟩, fun val h_ W hx he => ⟨⟨68, rfl, rfl⟩, ?_⟩, ?_⟩
         ·exact X_move (v := (.int .i64 (((i : Nat) : Int)))) rfl ⟨Upd.refl _ _, rfl⟩
         refine ⟨.det (fun val => (pof bv ((((i : Nat) : Int) : Int).toNat * 1))), ⟨fun _ _ hv => rfl, fun _ _ _ _ _ => trivial⟩, fun val h_ W hx he => ⟨⟨68, rfl, rfl⟩, ?_⟩, ?_⟩
         ·replace hx := (Upd.drew _ _).trans hx
          replace hb := hb.ext hx
          refine id (X_idx (v := bv) (n := bs.length) (k := .i64) (i := ((i : Nat) : Int)) S24 rfl hb.sv rfl (by omega) (by omega) ?_)
          exact ⟨Upd.refl _ _, rfl⟩
         refine ⟨.det (fun val => (.int .i64 (a))), ⟨fun _ _ hv => rfl, fun _ _ _ _ _ => trivial⟩, fun val h_ W hx he => ⟨⟨68, rfl, rfl⟩, ?_⟩, ?_⟩
         ·replace hx := (Upd.drew _ _).trans hx
          replace hb := hb.ext hx
          refine id (X_load (v := .int .i64 a) T3 rfl (iat hb (Int.toNat_natCast _) hai) ?_)
          exact ⟨Upd.refl _ _, rfl⟩
         refine ⟨.det (fun val => (.int .i64 (((ps.length : Nat) : Int)))), ⟨fun _ _ hv => rfl, fun _ _ _ _ _ => trivial⟩, fun val h_ W hx he => ⟨⟨68, rfl, rfl⟩, ?_⟩, ?_⟩
         ·exact X_move (v := (.int .i64 (((ps.length : Nat) : Int)))) rfl ⟨Upd.refl _ _, rfl⟩
         refine ⟨.det (fun val => (.bool (true))), ⟨fun _ _ hv => rfl, fun _ _ _ _ _ => trivial⟩, fun val h_ W hx he => ⟨⟨68, rfl, rfl⟩, ?_⟩, ?_⟩
         ·exact X_cmp (k := .i64) (a := a) (b := ((ps.length : Nat) : Int)) (r := true) rfl rfl rfl (decide_eq_true (p := ((((ps.length : Nat) : Int)) : Int) ≤ ((a) : Int)) (by have h_ := of_decide_eq_true hs30; omega)) ⟨Upd.refl _ _, rfl⟩
         refine ⟨.det (fun val => (.bool (true))), ⟨fun _ _ hv => rfl, fun _ _ _ _ _ => trivial⟩, fun val h_ W hx he => ⟨trivial, ?_⟩, ?_⟩
         ·exact X_pick (t := false) (v := (.bool (true))) rfl rfl ⟨Upd.refl _ _, rfl⟩
         refine ⟨.det (fun val => (.bool (true))), ⟨fun _ _ hv => rfl, fun _ _ _ _ _ => trivial⟩, fun val h_ W hx he => ⟨trivial, ?_⟩, ?_⟩
         ·exact X_move (v := (.bool (true))) rfl ⟨Upd.refl _ _, rfl⟩
         refine ⟨.no, ⟨fun _ _ _ => trivial, fun _ _ _ _ _ => trivial⟩, fun val h_ W hx he => ⟨77, rfl, .inl rfl⟩, ?_⟩
         refine ⟨.no, ⟨fun _ _ _ => trivial, fun _ _ _ _ _ => trivial⟩, fun val h_ W hx he => ⟨77, rfl, .inl rfl⟩, ?_⟩
         refine ⟨.no, ⟨fun _ _ _ => trivial, fun _ _ _ _ _ => trivial⟩, fun val h_ W hx he => ⟨77, rfl, .inl rfl⟩, ?_⟩
         refine ⟨.no, ⟨fun _ _ _ => trivial, fun _ _ _ _ _ => trivial⟩, fun val h_ W hx he => ⟨80, rfl, .inr rfl⟩, ?_⟩
         refine ⟨.no, ⟨fun _ _ _ => trivial, fun _ _ _ _ _ => trivial⟩, fun val h_ W hx he => ⟨80, rfl, .inr rfl⟩, ?_⟩
         refine ⟨.no, ⟨fun _ _ _ => trivial, fun _ _ _ _ _ => trivial⟩, fun val h_ W hx he => ⟨80, rfl, .inr rfl⟩, ?_⟩
         refine ⟨.no, ⟨fun _ _ _ => trivial, fun _ _ _ _ _ => trivial⟩, fun val h_ W hx he => ⟨80, rfl, .inr rfl⟩, ?_⟩
         refine ⟨.no, ⟨fun _ _ _ => trivial, fun _ _ _ _ _ => trivial⟩, fun val h_ W hx he => ⟨80, rfl, .inr rfl⟩, ?_⟩
         refine ⟨.no, ⟨fun _ _ _ => trivial, fun _ _ _ _ _ => trivial⟩, fun val h_ W hx he => ⟨80, rfl, .inr rfl⟩, ?_⟩
         refine ⟨.no, ⟨fun _ _ _ => trivial, fun _ _ _ _ _ => trivial⟩, fun val h_ W hx he => ⟨80, rfl, .inr rfl⟩, ?_⟩
         refine ⟨.no, ⟨fun _ _ _ => trivial, fun _ _ _ _ _ => trivial⟩, fun val h_ W hx he => ⟨80, rfl, .inr rfl⟩, ?_⟩
         refine ⟨.no, ⟨fun _ _ _ => trivial, fun _ _ _ _ _ => trivial⟩, fun val h_ W hx he => ⟨80, rfl, .inr rfl⟩, ?_⟩
         refine ⟨.no, ⟨fun _ _ _ => trivial, fun _ _ _ _ _ => trivial⟩, fun val h_ W hx he => ⟨80, rfl, .inr rfl⟩, ?_⟩
         refine ⟨.no, ⟨fun _ _ _ => trivial, fun _ _ _ _ _ => trivial⟩, fun val h_ W hx he => ⟨80, rfl, .inr rfl⟩, ?_⟩
         intro val W31 hx31 he31
         replace hx31 := (Upd.drew _ _).trans hx31
         have hz31 := hx31.size
         replace hc := hc.ext hx31
         replace hb := hb.ext hx31
         replace hU := hU.trans (Ext.upd hx31)
         replace hB1 := hB1.ext hx31
         refine L_gu (dj := 80) rfl rfl rfl ?_
         refine L_gn (dj := 77) (t := true) rfl rfl rfl rfl ?_
         refine L_op rfl (X_pick (t := true) (v := (.bool (true))) rfl rfl ?_)
         refine L_nil ?_
         refine T_n ?_
         refine W_ct rfl ?_
         refine W_seq ?_
         refine W_reg ?_
         refine L_op rfl (X_assign (v := (.bool (false))) rfl ?_)
         refine L_nil ?_
         refine T_n ?_
         refine W_ret ?_
         refine B_r ?_
         refine T_r ?_
         refine T_r ?_
         refine B_r ?_
         refine T_r ?_
         exact BQ_r (End_1 Try.results7 (v := .bool false) rfl ⟨⟨false, rfl, ⟨fun h => (by cases h), fun h => (by have h1 := hst.1 (inB_mono h.2.2 hi); have h2 := (inB_mono h.2.2 hi) i a (Nat.lt_succ_self _) hai; have h3_ := of_decide_eq_false hs28; have h4_ := of_decide_eq_true hs30; omega)⟩⟩, hU.own hn0⟩)
        ·rcases Bool.eq_false_or_eq_true (decide (0 < i)) with hs32 | hs32
         ·rcases Bool.eq_false_or_eq_true (decide (a ≤ before bs i)) with hs33 | hs33
          ·have hi0 := of_decide_eq_true hs32
           obtain ⟨a0, ha0⟩ : ∃ a, bs[i - 1]? = some a := ⟨_, List.getElem?_eq_getElem (by omega)⟩
           have hbe := inB_prev hi0 ha0
           refine W_draw 30 [[], [0], [], [0, 1, 2], [0, 1, 2, 3], [0, 1, 2, 3, 4], [0, 1, 2, 3, 4, 5], [0, 1, 2, 3, 4, 5, 6], [0, 1, 2, 3, 4, 5, 6, 7], [0, 1, 2, 3, 4, 5, 6], [0, 1, 2, 3, 4, 5, 6, 7, 8, 9], [0, 1, 2, 3, 4, 5, 6, 7, 8, 9, 10], [0, 1, 2, 3, 4, 5, 6], [0, 1, 2, 3, 4, 5, 6, 7, 8, 9, 10, 11, 12], [0, 1, 2, 3, 4, 5, 6, 7, 8, 9, 10, 11, 12, 13], [0, 1, 2, 3, 4, 5, 6, 7, 8, 9, 10, 11, 12, 13, 14], [0, 1, 2, 3, 4, 5, 6, 7, 8, 9, 10, 11, 12, 13, 14, 15], [0, 1, 2, 3, 4, 5, 6, 7, 8, 9, 10, 11, 12, 13, 14, 15, 16], [0, 1, 2, 3, 4, 5, 6, 7, 8, 9, 10, 11, 12, 13, 14, 15, 16, 17], [0, 1, 2, 3, 4, 5, 6, 7, 8, 9, 10, 11, 12, 13, 14, 15, 16, 17, 18], [0, 1, 2, 3, 4, 5, 6, 7, 8, 9, 10, 11, 12, 13, 14, 15, 16, 17, 18, 19], [0, 1, 2, 3, 4, 5, 6, 7, 8, 9, 10, 11, 12, 13, 14, 15, 16, 17, 18], [0, 1, 2, 3, 4, 5, 6, 7, 8, 9, 10, 11, 12, 13, 14, 15, 16, 17, 18, 21], [0, 1, 2, 3, 4, 5, 6, 7, 8, 9, 10, 11, 12, 13, 14, 15, 16, 17, 18, 19, 20, 21, 22], [0, 1, 2, 3, 4, 5, 6, 7, 8, 9, 10, 11, 12, 13, 14, 15, 16, 17, 18, 19, 20, 21, 22, 23], [0, 1, 2, 3, 4, 5, 6, 7, 8, 9, 10, 11, 12, 13, 14, 15, 16, 17, 18], [0, 1, 2, 3, 4, 5, 6, 7, 8, 9, 10, 11, 12, 13, 14, 15, 16, 17, 18, 25], [0, 1, 2, 3, 4, 5, 6, 7, 8, 9, 10, 11, 12, 13, 14, 15, 16, 17, 18], [0, 1, 2, 3, 4, 5, 6, 7, 8, 9, 10, 11, 12, 13, 14, 15, 16, 17, 18, 25, 26, 27], [0, 1, 2, 3, 4, 5, 6, 7, 8, 9, 10, 11, 12, 13, 14, 15, 16, 17, 18, 25, 26, 27, 28], [0, 1, 2, 3, 4, 5, 6, 7, 8, 9, 10, 11, 12, 13, 14, 15, 16, 17, 18, 19, 20, 21, 22, 23, 24, 25, 26, 27, 28, 29], [0, 1, 2, 3, 4, 5, 6, 7, 8, 9, 10, 11, 12, 13, 14, 15, 16, 17, 18, 19, 20, 21, 22, 23, 24, 25, 26, 27, 28, 29, 30], [0, 1, 2, 3, 4, 5, 6, 7, 8, 9, 10, 11, 12, 13, 14, 15, 16, 17, 18, 19, 20, 21, 22, 23, 24, 25, 26, 27, 28, 29, 30, 31]] mixed (by kernel_rfl) ?_
           refine ⟨.det (fun val => (ptr b1 (2))), ⟨fun _ _ hv => rfl, fun _ _ _ _ _ => trivial⟩, fun val h_ W hx he => ⟨trivial, ?_⟩, ?_⟩
           ·exact X_fldP (b := b1) (o := 0) (r := 2) Fd26_2 rfl rfl ⟨Upd.refl _ _, rfl⟩
           refine ⟨.det (fun val => bv), ⟨fun _ _ hv => rfl, fun _ _ _ _ _ => trivial⟩, fun val h_ W hx he => ⟨trivial, ?_⟩, ?_⟩
           ·replace hx := (Upd.drew _ _).trans hx
            replace hB1 := hB1.ext hx
            refine id (X_load (p := (ptr b1 (2))) (v := bv) T24 rfl (hB1.at1 rfl) ?_)
            exact ⟨Upd.refl _ _, rfl⟩
           refine ⟨.det (fun val => (.int .i64 (((i : Nat) : Int)))), ⟨fun _ _ hv => rfl, fun _ _ _ _ _ => trivial⟩, fun val h_ W hx he => ⟨trivial, ?_⟩, ?_⟩
           ·exact X_move (v := (.int .i64 (((i : Nat) : Int)))) rfl ⟨Upd.refl _ _, rfl⟩
           refine ⟨.det (fun val => (pof bv ((((i : Nat) : Int) : Int).toNat * 1))), ⟨fun _ _ hv => rfl, fun _ _ _ _ _ => trivial⟩, fun val h_ W hx he => ⟨trivial, ?_⟩, ?_⟩
           ·replace hx := (Upd.drew _ _).trans hx
            replace hb := hb.ext hx
            refine id (X_idx (v := bv) (n := bs.length) (k := .i64) (i := ((i : Nat) : Int)) S24 rfl hb.sv rfl (by omega) (by omega) ?_)
            exact ⟨Upd.refl _ _, rfl⟩
           refine ⟨.det (fun val => (.int .i64 (a))), ⟨fun _ _ hv => rfl, fun _ _ _ _ _ => trivial⟩, fun val h_ W hx he => ⟨trivial, ?_⟩, ?_⟩
           ·replace hx := (Upd.drew _ _).trans hx
            replace hb := hb.ext hx
            refine id (X_load (v := .int .i64 a) T3 rfl (iat hb (Int.toNat_natCast _) hai) ?_)
            exact ⟨Upd.refl _ _, rfl⟩
           refine ⟨.det (fun val => (.bool (false))), ⟨fun _ _ hv => rfl, fun _ _ _ _ _ => trivial⟩, fun val h_ W hx he => ⟨trivial, ?_⟩, ?_⟩
           ·exact X_cmp (k := .i64) (a := a) (b := 0) (r := false) rfl rfl rfl (decide_eq_false (p := ((a) : Int) < ((0) : Int)) (by have h_ := of_decide_eq_false hs28; omega)) ⟨Upd.refl _ _, rfl⟩
           refine ⟨.det (fun val => (.bool (false))), ⟨fun _ _ hv => rfl, fun _ _ _ _ _ => trivial⟩, fun val h_ W hx he => ⟨trivial, ?_⟩, ?_⟩
           ·exact X_move (v := (.bool (false))) rfl ⟨Upd.refl _ _, rfl⟩
           refine ⟨.det (fun val => (ptr b1 (2))), ⟨fun _ _ hv => rfl, fun _ _ _ _ _ => trivial⟩, fun val h_ W hx he => ⟨⟨68, rfl, rfl⟩, ?_⟩, ?_⟩
           ·exact X_fldP (b := b1) (o := 0) (r := 2) Fd26_2 rfl rfl ⟨Upd.refl _ _, rfl⟩
           refine ⟨.det (fun val => bv), ⟨fun _ _ hv => rfl, fun _ _ _ _ _ => trivial⟩, fun val h_ W hx he => ⟨⟨68, rfl, rfl⟩, ?_⟩, ?_⟩
           ·replace hx := (Upd.drew _ _).trans hx
            replace hB1 := hB1.ext hx
            refine id (X_load (p := (ptr b1 (2))) (v := bv) T24 rfl (hB1.at1 rfl) ?_)
            exact ⟨Upd.refl _ _, rfl⟩
           refine ⟨.det (fun val => (.int .i64 (((i : Nat) : Int)))), ⟨fun _ _ hv => rfl, fun _ _ _ _ _ => trivial⟩, fun val h_ W hx he => ⟨⟨68, rfl, rfl⟩, ?_⟩, ?_⟩
           ·exact X_move (v := (.int .i64 (((i : Nat) : Int)))) rfl ⟨Upd.refl _ _, rfl⟩
           refine ⟨.det (fun val => (pof bv ((((i : Nat) : Int) : Int).toNat * 1))), ⟨fun _ _ hv => rfl, fun _ _ _ _ _ => trivial⟩, fun val h_ W hx he => ⟨⟨68, rfl, rfl⟩, ?_⟩, ?_⟩
           ·replace hx := (Upd.drew _ _).trans hx
            replace hb := hb.ext hx
            refine id (X_idx (v := bv) (n := bs.length) (k := .i64) (i := ((i : Nat) : Int)) S24 rfl hb.sv rfl (by omega) (by omega) ?_)
            exact ⟨Upd.refl _ _, rfl⟩
           refine ⟨.det (fun val => (.int .i64 (a))), ⟨fun _ _ hv => rfl, fun _ _ _ _ _ => trivial⟩, fun val h_ W hx he => ⟨⟨68, rfl, rfl⟩, ?_⟩, ?_⟩
           ·replace hx := (Upd.drew _ _).trans hx
            replace hb := hb.ext hx
            refine id (X_load (v := .int .i64 a) T3 rfl (iat hb (Int.toNat_natCast _) hai) ?_)
            exact ⟨Upd.refl _ _, rfl⟩
           refine ⟨.det (fun val => (.int .i64 (((ps.length : Nat) : Int)))), ⟨fun _ _ hv => rfl, fun _ _ _ _ _ => trivial⟩, fun val h_ W hx he => ⟨⟨68, rfl, rfl⟩, ?_⟩, ?_⟩
           ·exact X_move (v := (.int .i64 (((ps.length : Nat) : Int)))) rfl ⟨Upd.refl _ _, rfl⟩
           refine ⟨.det (fun val => (.bool (false))), ⟨fun _ _ hv => rfl, fun _ _ _ _ _ => trivial⟩, fun val h_ W hx he => ⟨⟨68, rfl, rfl⟩, ?_⟩, ?_⟩
           ·exact X_cmp (k := .i64) (a := a) (b := ((ps.length : Nat) : Int)) (r := false) rfl rfl rfl (decide_eq_false (p := ((((ps.length : Nat) : Int)) : Int) ≤ ((a) : Int)) (by have h_ := of_decide_eq_false hs30; omega)) ⟨Upd.refl _ _, rfl⟩
           refine ⟨.det (fun val => (.bool (false))), ⟨fun _ _ hv => rfl, fun _ _ _ _ _ => trivial⟩, fun val h_ W hx he => ⟨trivial, ?_⟩, ?_⟩
           ·exact X_pick (t := false) (v := (.bool (false))) rfl rfl ⟨Upd.refl _ _, rfl⟩
           refine ⟨.det (fun val => (.bool (false))), ⟨fun _ _ hv => rfl, fun _ _ _ _ _ => trivial⟩, fun val h_ W hx he => ⟨trivial, ?_⟩, ?_⟩
           ·exact X_move (v := (.bool (false))) rfl ⟨Upd.refl _ _, rfl⟩
           refine ⟨.det (fun val => (.int .i64 (((i : Nat) : Int)))), ⟨fun _ _ hv => rfl, fun _ _ _ _ _ => trivial⟩, fun val h_ W hx he => ⟨⟨77, rfl, rfl⟩, ?_⟩, ?_⟩
           ·exact X_move (v := (.int .i64 (((i : Nat) : Int)))) rfl ⟨Upd.refl _ _, rfl⟩
           refine ⟨.det (fun val => (.bool (true))), ⟨fun _ _ hv => rfl, fun _ _ _ _ _ => trivial⟩, fun val h_ W hx he => ⟨⟨77, rfl, rfl⟩, ?_⟩, ?_⟩
           ·exact X_cmp (k := .i64) (a := ((i : Nat) : Int)) (b := 0) (r := true) rfl rfl rfl (decide_eq_true (p := ((0) : Int) < ((((i : Nat) : Int)) : Int)) (by have h_ := of_decide_eq_true hs32; omega)) ⟨Upd.refl _ _, rfl⟩
           refine ⟨.det (fun val => (.bool (true))), ⟨fun _ _ hv => rfl, fun _ _ _ _ _ => trivial⟩, fun val h_ W hx he => ⟨⟨77, rfl, rfl⟩, ?_⟩, ?_⟩
           ·exact X_move (v := (.bool (true))) rfl ⟨Upd.refl _ _, rfl⟩
           refine ⟨.det (fun val => (ptr b1 (2))), ⟨fun _ _ hv => rfl, fun _ _ _ _ _ => trivial⟩, fun val h_ W hx he => ⟨⟨80, rfl, rfl⟩, ?_⟩, ?_⟩
           ·exact X_fldP (b := b1) (o := 0) (r := 2) Fd26_2 rfl rfl ⟨Upd.refl _ _, rfl⟩
           refine ⟨.det (fun val => bv), ⟨fun _ _ hv => rfl, fun _ _ _ _ _ => trivial⟩, fun val h_ W hx he => ⟨⟨80, rfl, rfl⟩, ?_⟩, ?_⟩
           ·replace hx := (Upd.drew _ _).trans hx
            replace hB1 := hB1.ext hx
            refine id (X_load (p := (ptr b1 (2))) (v := bv) T24 rfl (hB1.at1 rfl) ?_)
            exact ⟨Upd.refl _ _, rfl⟩
           refine ⟨.det (fun val => (.int .i64 (((i : Nat) : Int)))), ⟨fun _ _ hv => rfl, fun _ _ _ _ _ => trivial⟩, fun val h_ W hx he => ⟨⟨80, rfl, rfl⟩, ?_⟩, ?_⟩
           ·exact X_move (v := (.int .i64 (((i : Nat) : Int)))) rfl ⟨Upd.refl _ _, rfl⟩
           refine ⟨.det (fun val => (.int .i64 (((i - 1 : Nat) : Int)))), ⟨fun _ _ hv => rfl, fun _ _ _ _ _ => trivial⟩, fun val h_ W hx he => ⟨⟨80, rfl, rfl⟩, ?_⟩, ?_⟩
           ·exact X_arith (k := .i64) (a := ((i : Nat) : Int)) (b := 1) (r := ((i - 1 : Nat) : Int)) rfl rfl rfl (isub64 (by omega) (by omega) (by omega)) ⟨Upd.refl _ _, rfl⟩
           refine ⟨.det (fun val => (pof bv ((((i - 1 : Nat) : Int) : Int).toNat * 1))), ⟨fun _ _ hv => rfl, fun _ _ _ _ _ => trivial⟩, fun val h_ W hx he => ⟨⟨80, rfl, rfl⟩, ?_⟩, ?_⟩
           ·replace hx := (Upd.drew _ _).trans hx
            replace hb := hb.ext hx
            refine id (X_idx (v := bv) (n := bs.length) (k := .i64) (i := ((i - 1 : Nat) : Int)) S24 rfl hb.sv rfl (by omega) (by omega) ?_)
            exact ⟨Upd.refl _ _, rfl⟩
           refine ⟨.det (fun val => (.int .i64 (a0))), ⟨fun _ _ hv => rfl, fun _ _ _ _ _ => trivial⟩, fun val h_ W hx he => ⟨⟨80, rfl, rfl⟩, ?_⟩, ?_⟩
           ·replace hx := (Upd.drew _ _).trans hx
            replace hb := hb.ext hx
            refine id (X_load (v := .int .i64 a0) T3 rfl (iat hb (Int.toNat_natCast _) ha0) ?_)
            exact ⟨Upd.refl _ _, rfl⟩
           refine ⟨.det (fun val => (ptr b1 (2))), ⟨fun _ _ hv => rfl, fun _ _ _ _ _ => trivial⟩, fun val h_ W hx he => ⟨⟨80, rfl, rfl⟩, ?_⟩, ?_⟩
           ·exact X_fldP (b := b1) (o := 0) (r := 2) Fd26_2 rfl rfl ⟨Upd.refl _ _, rfl⟩
           refine ⟨.det (fun val => bv), ⟨fun _ _ hv => rfl, fun _ _ _ _ _ => trivial⟩, fun val h_ W hx he => ⟨⟨80, rfl, rfl⟩, ?_⟩, ?_⟩
           ·replace hx := (Upd.drew _ _).trans hx
            replace hB1 := hB1.ext hx
            refine id (X_load (p := (ptr b1 (2))) (v := bv) T24 rfl (hB1.at1 rfl) ?_)
            exact ⟨Upd.refl _ _, rfl⟩
           refine ⟨.det (fun val => (.int .i64 (((i : Nat) : Int)))), ⟨fun _ _ hv => rfl, fun _ _ _ _ _ => trivial⟩, fun val h_ W hx he => ⟨⟨80, rfl, rfl⟩, ?_⟩, ?_⟩
           ·exact X_move (v := (.int .i64 (((i : Nat) : Int)))) rfl ⟨Upd.refl _ _, rfl⟩
           refine ⟨.det (fun val => (pof bv ((((i : Nat) : Int) : Int).toNat * 1))), ⟨fun _ _ hv => rfl, fun _ _ _ _ _ => trivial⟩, fun val h_ W hx he => ⟨⟨80, rfl, rfl⟩, ?_⟩, ?_⟩
           ·replace hx := (Upd.drew _ _).trans hx
            replace hb := hb.ext hx
            refine id (X_idx (v := bv) (n := bs.length) (k := .i64) (i := ((i : Nat) : Int)) S24 rfl hb.sv rfl (by omega) (by omega) ?_)
            exact ⟨Upd.refl _ _, rfl⟩
           refine ⟨.det (fun val => (.int .i64 (a))), ⟨fun _ _ hv => rfl, fun _ _ _ _ _ => trivial⟩, fun val h_ W hx he => ⟨⟨80, rfl, rfl⟩, ?_⟩, ?_⟩
           ·replace hx := (Upd.drew _ _).trans hx
            replace hb := hb.ext hx
            refine id (X_load (v := .int .i64 a) T3 rfl (iat hb (Int.toNat_natCast _) hai) ?_)
            exact ⟨Upd.refl _ _, rfl⟩
           intro val W34 hx34 he34
           replace hx34 := (Upd.drew _ _).trans hx34
           have hz34 := hx34.size
           replace hc := hc.ext hx34
           replace hb := hb.ext hx34
           replace hU := hU.trans (Ext.upd hx34)
           replace hB1 := hB1.ext hx34
           refine L_gy (dj := 80) rfl rfl rfl (X_cmp (k := .i64) (a := a0) (b := a) (r := true) rfl rfl rfl (decide_eq_true (p := ((a) : Int) ≤ ((a0) : Int)) (by have h_ := of_decide_eq_true hs33; omega)) ?_)
           refine L_gy (dj := 77) rfl rfl rfl (X_pick (t := true) (v := (.bool (true))) rfl rfl ?_)
           refine L_op rfl (X_pick (t := false) (v := (.bool (true))) rfl rfl ?_)
           refine L_nil ?_
           refine T_n ?_
           refine W_ct rfl ?_
           refine W_seq ?_
           refine W_reg ?_
           refine L_op rfl (X_assign (v := (.bool (false))) rfl ?_)
           refine L_nil ?_
           refine T_n ?_
           refine W_ret ?_
           refine B_r ?_
           refine T_r ?_
           refine T_r ?_
           refine B_r ?_
           refine T_r ?_
           exact BQ_r (End_1 Try.results7 (v := .bool false) rfl ⟨⟨false, rfl, ⟨fun h => (by cases h), fun h => (by have h1 := hst.1 (inB_mono h.2.2 hi); have h2 := (inB_mono h.2.2 hi) i a (Nat.lt_succ_self _) hai; have h3_ := of_decide_eq_false hs28; have h4_ := of_decide_eq_false hs30; have h5_ := of_decide_eq_true hs32; have h6_ := of_decide_eq_true hs33; omega)⟩⟩, hU.own hn0⟩)
          ·have hi0 := of_decide_eq_true hs32
           obtain ⟨a0, ha0⟩ : ∃ a, bs[i - 1]? = some a := ⟨_, List.getElem?_eq_getElem (by omega)⟩
           have hbe := inB_prev hi0 ha0
           refine W_draw 30 [[], [0], [], [0, 1, 2], [0, 1, 2, 3], [0, 1, 2, 3, 4], [0, 1, 2, 3, 4, 5], [0, 1, 2, 3, 4, 5, 6], [0, 1, 2, 3, 4, 5, 6, 7], [0, 1, 2, 3, 4, 5, 6], [0, 1, 2, 3, 4, 5, 6, 7, 8, 9], [0, 1, 2, 3, 4, 5, 6, 7, 8, 9, 10], [0, 1, 2, 3, 4, 5, 6], [0, 1, 2, 3, 4, 5, 6, 7, 8, 9, 10, 11, 12], [0, 1, 2, 3, 4, 5, 6, 7, 8, 9, 10, 11, 12, 13], [0, 1, 2, 3, 4, 5, 6, 7, 8, 9, 10, 11, 12, 13, 14], [0, 1, 2, 3, 4, 5, 6, 7, 8, 9, 10, 11, 12, 13, 14, 15], [0, 1, 2, 3, 4, 5, 6, 7, 8, 9, 10, 11, 12, 13, 14, 15, 16], [0, 1, 2, 3, 4, 5, 6, 7, 8, 9, 10, 11, 12, 13, 14, 15, 16, 17], [0, 1, 2, 3, 4, 5, 6, 7, 8, 9, 10, 11, 12, 13, 14, 15, 16, 17, 18], [0, 1, 2, 3, 4, 5, 6, 7, 8, 9, 10, 11, 12, 13, 14, 15, 16, 17, 18, 19], [0, 1, 2, 3, 4, 5, 6, 7, 8, 9, 10, 11, 12, 13, 14, 15, 16, 17, 18], [0, 1, 2, 3, 4, 5, 6, 7, 8, 9, 10, 11, 12, 13, 14, 15, 16, 17, 18, 21], [0, 1, 2, 3, 4, 5, 6, 7, 8, 9, 10, 11, 12, 13, 14, 15, 16, 17, 18, 19, 20, 21, 22], [0, 1, 2, 3, 4, 5, 6, 7, 8, 9, 10, 11, 12, 13, 14, 15, 16, 17, 18, 19, 20, 21, 22, 23], [0, 1, 2, 3, 4, 5, 6, 7, 8, 9, 10, 11, 12, 13, 14, 15, 16, 17, 18], [0, 1, 2, 3, 4, 5, 6, 7, 8, 9, 10, 11, 12, 13, 14, 15, 16, 17, 18, 25], [0, 1, 2, 3, 4, 5, 6, 7, 8, 9, 10, 11, 12, 13, 14, 15, 16, 17, 18], [0, 1, 2, 3, 4, 5, 6, 7, 8, 9, 10, 11, 12, 13, 14, 15, 16, 17, 18, 25, 26, 27], [0, 1, 2, 3, 4, 5, 6, 7, 8, 9, 10, 11, 12, 13, 14, 15, 16, 17, 18, 25, 26, 27, 28], [0, 1, 2, 3, 4, 5, 6, 7, 8, 9, 10, 11, 12, 13, 14, 15, 16, 17, 18, 19, 20, 21, 22, 23, 24, 25, 26, 27, 28, 29], [0, 1, 2, 3, 4, 5, 6, 7, 8, 9, 10, 11, 12, 13, 14, 15, 16, 17, 18, 19, 20, 21, 22, 23, 24, 25, 26, 27, 28, 29, 30], [0, 1, 2, 3, 4, 5, 6, 7, 8, 9, 10, 11, 12, 13, 14, 15, 16, 17, 18, 19, 20, 21, 22, 23, 24, 25, 26, 27, 28, 29, 30, 31]] mixed (by kernel_rfl) ?_
           refine ⟨.det (fun val => (ptr b1 (2))), ⟨fun _ _ hv => rfl, fun _ _ _ _ _ => trivial⟩, fun val h_ W hx he => ⟨trivial, ?_⟩, ?_⟩
           ·exact X_fldP (b := b1) (o := 0) (r := 2) Fd26_2 rfl rfl ⟨Upd.refl _ _, rfl⟩
           refine ⟨.det (fun val => bv), ⟨fun _ _ hv => rfl, fun _ _ _ _ _ => trivial⟩, fun val h_ W hx he => ⟨trivial, ?_⟩, ?_⟩
           ·replace hx := (Upd.drew _ _).trans hx
            replace hB1 := hB1.ext hx
            refine id (X_load (p := (ptr b1 (2))) (v := bv) T24 rfl (hB1.at1 rfl) ?_)
            exact ⟨Upd.refl _ _, rfl⟩
           refine ⟨.det (fun val => (.int .i64 (((i : Nat) : Int)))), ⟨fun _ _ hv => rfl, fun _ _ _ _ _ => trivial⟩, fun val h_ W hx he => ⟨trivial, ?_⟩, ?_⟩
           ·exact X_move (v := (.int .i64 (((i : Nat) : Int)))) rfl ⟨Upd.refl _ _, rfl⟩
           refine ⟨.det (fun val => (pof bv ((((i : Nat) : Int) : Int).toNat * 1))), ⟨fun _ _ hv => rfl, fun _ _ _ _ _ => trivial⟩, fun val h_ W hx he => ⟨trivial, ?_⟩, ?_⟩
           ·replace hx := (Upd.drew _ _).trans hx
            replace hb := hb.ext hx
            refine id (X_idx (v := bv) (n := bs.length) (k := .i64) (i := ((i : Nat) : Int)) S24 rfl hb.sv rfl (by omega) (by omega) ?_)
            exact ⟨Upd.refl _ _, rfl⟩
           refine ⟨.det (fun val => (.int .i64 (a))), ⟨fun _ _ hv => rfl, fun _ _ _ _ _ => trivial⟩, fun val h_ W hx he => ⟨trivial, ?_⟩, ?_⟩
           ·replace hx := (Upd.drew _ _).trans hx
            replace hb := hb.ext hx
            refine id (X_load (v := .int .i64 a) T3 rfl (iat hb (Int.toNat_natCast _) hai) ?_)
            exact ⟨Upd.refl _ _, rfl⟩
           refine ⟨.det (fun val => (.bool (false))), ⟨fun _ _ hv => rfl, fun _ _ _ _ _ => trivial⟩, fun val h_ W hx he => ⟨trivial, ?_⟩, ?_⟩
           ·exact X_cmp (k := .i64) (a := a) (b := 0) (r := false) rfl rfl rfl (decide_eq_false (p := ((a) : Int) < ((0) : Int)) (by have h_ := of_decide_eq_false hs28; omega)) ⟨Upd.refl _ _, rfl⟩
           refine ⟨.det (fun val => (.bool (false))), ⟨fun _ _ hv => rfl, fun _ _ _ _ _ => trivial⟩, fun val h_ W hx he => ⟨trivial, ?_⟩, ?_⟩
           ·exact X_move (v := (.bool (false))) rfl ⟨Upd.refl _ _, rfl⟩
           refine ⟨.det (fun val => (ptr b1 (2))), ⟨fun _ _ hv => rfl, fun _ _ _ _ _ => trivial⟩, fun val h_ W hx he => ⟨⟨68, rfl, rfl⟩, ?_⟩, ?_⟩
           ·exact X_fldP (b := b1) (o := 0) (r := 2) Fd26_2 rfl rfl ⟨Upd.refl _ _, rfl⟩
           refine ⟨.det (fun val => bv), ⟨fun _ _ hv => rfl, fun _ _ _ _ _ => trivial⟩, fun val h_ W hx he => ⟨⟨68, rfl, rfl⟩, ?_⟩, ?_⟩
           ·replace hx := (Upd.drew _ _).trans hx
            replace hB1 := hB1.ext hx
            refine id (X_load (p := (ptr b1 (2))) (v := bv) T24 rfl (hB1.at1 rfl) ?_)
            exact ⟨Upd.refl _ _, rfl⟩
           refine ⟨.det (fun val => (.int .i64 (((i : Nat) : Int)))), ⟨fun _ _ hv => rfl, fun _ _ _ _ _ => trivial⟩, fun val h_ W hx he => ⟨⟨68, rfl, rfl⟩, ?_⟩, ?_⟩
           ·exact X_move (v := (.int .i64 (((i : Nat) : Int)))) rfl ⟨Upd.refl _ _, rfl⟩
           refine ⟨.det (fun val => (pof bv ((((i : Nat) : Int) : Int).toNat * 1))), ⟨fun _ _ hv => rfl, fun _ _ _ _ _ => trivial⟩, fun val h_ W hx he => ⟨⟨68, rfl, rfl⟩, ?_⟩, ?_⟩
           ·replace hx := (Upd.drew _ _).trans hx
            replace hb := hb.ext hx
            refine id (X_idx (v := bv) (n := bs.length) (k := .i64) (i := ((i : Nat) : Int)) S24 rfl hb.sv rfl (by omega) (by omega) ?_)
            exact ⟨Upd.refl _ _, rfl⟩
           refine ⟨.det (fun val => (.int .i64 (a))), ⟨fun _ _ hv => rfl, fun _ _ _ _ _ => trivial⟩, fun val h_ W hx he => ⟨⟨68, rfl, rfl⟩, ?_⟩, ?_⟩
           ·replace hx := (Upd.drew _ _).trans hx
            replace hb := hb.ext hx
            refine id (X_load (v := .int .i64 a) T3 rfl (iat hb (Int.toNat_natCast _) hai) ?_)
            exact ⟨Upd.refl _ _, rfl⟩
           refine ⟨.det (fun val => (.int .i64 (((ps.length : Nat) : Int)))), ⟨fun _ _ hv => rfl, fun _ _ _ _ _ => trivial⟩, fun val h_ W hx he => ⟨⟨68, rfl, rfl⟩, ?_⟩, ?_⟩
           ·exact X_move (v := (.int .i64 (((ps.length : Nat) : Int)))) rfl ⟨Upd.refl _ _, rfl⟩
           refine ⟨.det (fun val => (.bool (false))), ⟨fun _ _ hv => rfl, fun _ _ _ _ _ => trivial⟩, fun val h_ W hx he => ⟨⟨68, rfl, rfl⟩, ?_⟩, ?_⟩
           ·exact X_cmp (k := .i64) (a := a) (b := ((ps.length : Nat) : Int)) (r := false) rfl rfl rfl (decide_eq_false (p := ((((ps.length : Nat) : Int)) : Int) ≤ ((a) : Int)) (by have h_ := of_decide_eq_false hs30; omega)) ⟨Upd.refl _ _, rfl⟩
           refine ⟨.det (fun val => (.bool (false))), ⟨fun _ _ hv => rfl, fun _ _ _ _ _ => trivial⟩, fun val h_ W hx he => ⟨trivial, ?_⟩, ?_⟩
           ·exact X_pick (t := false) (v := (.bool (false))) rfl rfl ⟨Upd.refl _ _, rfl⟩
           refine ⟨.det (fun val => (.bool (false))), ⟨fun _ _ hv => rfl, fun _ _ _ _ _ => trivial⟩, fun val h_ W hx he => ⟨trivial, ?_⟩, ?_⟩
           ·exact X_move (v := (.bool (false))) rfl ⟨Upd.refl _ _, rfl⟩
           refine ⟨.det (fun val => (.int .i64 (((i : Nat) : Int)))), ⟨fun _ _ hv => rfl, fun _ _ _ _ _ => trivial⟩, fun val h_ W hx he => ⟨⟨77, rfl, rfl⟩, ?_⟩, ?_⟩
           ·exact X_move (v := (.int .i64 (((i : Nat) : Int)))) rfl ⟨Upd.refl _ _, rfl⟩
           refine ⟨.det (fun val => (.bool (true))), ⟨fun _ _ hv => rfl, fun _ _ _ _ _ => trivial⟩, fun val h_ W hx he => ⟨⟨77, rfl, rfl⟩, ?_⟩, ?_⟩
           ·exact X_cmp (k := .i64) (a := ((i : Nat) : Int)) (b := 0) (r := true) rfl rfl rfl (decide_eq_true (p := ((0) : Int) < ((((i : Nat) : Int)) : Int)) (by have h_ := of_decide_eq_true hs32; omega)) ⟨Upd.refl _ _, rfl⟩
           refine ⟨.det (fun val => (.bool (true))), ⟨fun _ _ hv => rfl, fun _ _ _ _ _ => trivial⟩, fun val h_ W hx he => ⟨⟨77, rfl, rfl⟩, ?_⟩, ?_⟩
           ·exact X_move (v := (.bool (true))) rfl ⟨Upd.refl _ _, rfl⟩
           refine ⟨.det (fun val => (ptr b1 (2))), ⟨fun _ _ hv => rfl, fun _ _ _ _ _ => trivial⟩, fun val h_ W hx he => ⟨⟨80, rfl, rfl⟩, ?_⟩, ?_⟩
           ·exact X_fldP (b := b1) (o := 0) (r := 2) Fd26_2 rfl rfl ⟨Upd.refl _ _, rfl⟩
           refine ⟨.det (fun val => bv), ⟨fun _ _ hv => rfl, fun _ _ _ _ _ => trivial⟩, fun val h_ W hx he => ⟨⟨80, rfl, rfl⟩, ?_⟩, ?_⟩
           ·replace hx := (Upd.drew _ _).trans hx
            replace hB1 := hB1.ext hx
            refine id (X_load (p := (ptr b1 (2))) (v := bv) T24 rfl (hB1.at1 rfl) ?_)
            exact ⟨Upd.refl _ _, rfl⟩
           refine ⟨.det (fun val => (.int .i64 (((i : Nat) : Int)))), ⟨fun _ _ hv => rfl, fun _ _ _ _ _ => trivial⟩, fun val h_ W hx he => ⟨⟨80, rfl, rfl⟩, ?_⟩, ?_⟩
           ·exact X_move (v := (.int .i64 (((i : Nat) : Int)))) rfl ⟨Upd.refl _ _, rfl⟩
           refine ⟨.det (fun val => (.int .i64 (((i - 1 : Nat) : Int)))), ⟨fun _ _ hv => rfl, fun _ _ _ _ _ => trivial⟩, fun val h_ W hx he => ⟨⟨80, rfl, rfl⟩, ?_⟩, ?_⟩
           ·exact X_arith (k := .i64) (a := ((i : Nat) : Int)) (b := 1) (r := ((i - 1 : Nat) : Int)) rfl rfl rfl (isub64 (by omega) (by omega) (by omega)) ⟨Upd.refl _ _, rfl⟩
           refine ⟨.det (fun val => (pof bv ((((i - 1 : Nat) : Int) : Int).toNat * 1))), ⟨fun _ _ hv => rfl, fun _ _ _ _ _ => trivial⟩, fun val h_ W hx he => ⟨⟨80, rfl, rfl⟩, ?_⟩, ?_⟩
           ·replace hx := (Upd.drew _ _).trans hx
            replace hb := hb.ext hx
            refine id (X_idx (v := bv) (n := bs.length) (k := .i64) (i := ((i - 1 : Nat) : Int)) S24 rfl hb.sv rfl (by omega) (by omega) ?_)
            exact ⟨Upd.refl _ _, rfl⟩
           refine ⟨.det (fun val => (.int .i64 (a0))), ⟨fun _ _ hv => rfl, fun _ _ _ _ _ => trivial⟩, fun val h_ W hx he => ⟨⟨80, rfl, rfl⟩, ?_⟩, ?_⟩
           ·replace hx := (Upd.drew _ _).trans hx
            replace hb := hb.ext hx
            refine id (X_load (v := .int .i64 a0) T3 rfl (iat hb (Int.toNat_natCast _) ha0) ?_)
            exact ⟨Upd.refl _ _, rfl⟩
           refine ⟨.det (fun val => (ptr b1 (2))), ⟨fun _ _ hv => rfl, fun _ _ _ _ _ => trivial⟩, fun val h_ W hx he => ⟨⟨80, rfl, rfl⟩, ?_⟩, ?_⟩
           ·exact X_fldP (b := b1) (o := 0) (r := 2) Fd26_2 rfl rfl ⟨Upd.refl _ _, rfl⟩
           refine ⟨.det (fun val => bv), ⟨fun _ _ hv => rfl, fun _ _ _ _ _ => trivial⟩, fun val h_ W hx he => ⟨⟨80, rfl, rfl⟩, ?_⟩, ?_⟩
           ·replace hx := (Upd.drew _ _).trans hx
            replace hB1 := hB1.ext hx
            refine id (X_load (p := (ptr b1 (2))) (v := bv) T24 rfl (hB1.at1 rfl) ?_)
            exact ⟨Upd.refl _ _, rfl⟩
           refine ⟨.det (fun val => (.int .i64 (((i : Nat) : Int)))), ⟨fun _ _ hv => rfl, fun _ _ _ _ _ => trivial⟩, fun val h_ W hx he => ⟨⟨80, rfl, rfl⟩, ?_⟩, ?_⟩
           ·exact X_move (v := (.int .i64 (((i : Nat) : Int)))) rfl ⟨Upd.refl _ _, rfl⟩
           refine ⟨.det (fun val => (pof bv ((((i : Nat) : Int) : Int).toNat * 1))), ⟨fun _ _ hv => rfl, fun _ _ _ _ _ => trivial⟩, fun val h_ W hx he => ⟨⟨80, rfl, rfl⟩, ?_⟩, ?_⟩
           ·replace hx := (Upd.drew _ _).trans hx
            replace hb := hb.ext hx
            refine id (X_idx (v := bv) (n := bs.length) (k := .i64) (i := ((i : Nat) : Int)) S24 rfl hb.sv rfl (by omega) (by omega) ?_)
            exact ⟨Upd.refl _ _, rfl⟩
           refine ⟨.det (fun val => (.int .i64 (a))), ⟨fun _ _ hv => rfl, fun _ _ _ _ _ => trivial⟩, fun val h_ W hx he => ⟨⟨80, rfl, rfl⟩, ?_⟩, ?_⟩
           ·replace hx := (Upd.drew _ _).trans hx
            replace hb := hb.ext hx
            refine id (X_load (v := .int .i64 a) T3 rfl (iat hb (Int.toNat_natCast _) hai) ?_)
            exact ⟨Upd.refl _ _, rfl⟩
           intro val W35 hx35 he35
           replace hx35 := (Upd.drew _ _).trans hx35
           have hz35 := hx35.size
           replace hc := hc.ext hx35
           replace hb := hb.ext hx35
           replace hU := hU.trans (Ext.upd hx35)
           replace hB1 := hB1.ext hx35
           refine L_gy (dj := 80) rfl rfl rfl (X_cmp (k := .i64) (a := a0) (b := a) (r := false) rfl rfl rfl (decide_eq_false (p := ((a) : Int) ≤ ((a0) : Int)) (by have h_ := of_decide_eq_false hs33; omega)) ?_)
           refine L_gy (dj := 77) rfl rfl rfl (X_pick (t := true) (v := (.bool (false))) rfl rfl ?_)
           refine L_op rfl (X_pick (t := false) (v := (.bool (false))) rfl rfl ?_)
           refine L_nil ?_
           refine T_n ?_
           refine W_cf rfl ?_
           refine W_skip ?_
           refine B_n ?_
           refine T_n ?_
           refine W_reg ?_
           refine L_op rfl (X_move (v := (.int .i64 (((i : Nat) : Int)))) rfl ?_)
           refine L_op rfl (X_arith (k := .i64) (a := ((i : Nat) : Int)) (b := 1) (r := ((i + 1 : Nat) : Int)) rfl rfl rfl (iadd64 (by omega) (by omega) (by omega)) ?_)
           refine L_op rfl (X_assign (v := (.int .i64 (((i + 1 : Nat) : Int)))) rfl ?_)
           refine L_nil ?_
           refine T_n ?_
           exact ⟨rfl, i + 1, ⟨⟨hi, hc, hb, hB1, hU, hst.2 ⟨hzb, by have h0_ := of_decide_eq_false hs28; have h1_ := of_decide_eq_false hs30; have h2_ := of_decide_eq_true hs32; have h3_ := of_decide_eq_false hs33; omega⟩⟩, (by show bs.length - (i + 1) < bs.length - i; omega)⟩, (Out.mk rfl), ⟨rfl, trivial⟩⟩
         ·refine W_draw 30 [[], [0], [], [0, 1, 2], [0, 1, 2, 3], [0, 1, 2, 3, 4], [0, 1, 2, 3, 4, 5], [0, 1, 2, 3, 4, 5, 6], [0, 1, 2, 3, 4, 5, 6, 7], [0, 1, 2, 3, 4, 5, 6], [0, 1, 2, 3, 4, 5, 6, 7, 8, 9], [0, 1, 2, 3, 4, 5, 6, 7, 8, 9, 10], [0, 1, 2, 3, 4, 5, 6], [0, 1, 2, 3, 4, 5, 6, 7, 8, 9, 10, 11, 12], [0, 1, 2, 3, 4, 5, 6, 7, 8, 9, 10, 11, 12, 13], [0, 1, 2, 3, 4, 5, 6, 7, 8, 9, 10, 11, 12, 13, 14], [0, 1, 2, 3, 4, 5, 6, 7, 8, 9, 10, 11, 12, 13, 14, 15], [0, 1, 2, 3, 4, 5, 6, 7, 8, 9, 10, 11, 12, 13, 14, 15, 16], [0, 1, 2, 3, 4, 5, 6, 7, 8, 9, 10, 11, 12, 13, 14, 15, 16, 17], [0, 1, 2, 3, 4, 5, 6, 7, 8, 9, 10, 11, 12, 13, 14, 15, 16, 17, 18], [0, 1, 2, 3, 4, 5, 6, 7, 8, 9, 10, 11, 12, 13, 14, 15, 16, 17, 18, 19], [0, 1, 2, 3, 4, 5, 6, 7, 8, 9, 10, 11, 12, 13, 14, 15, 16, 17, 18], [0, 1, 2, 3, 4, 5, 6, 7, 8, 9, 10, 11, 12, 13, 14, 15, 16, 17, 18, 21], [0, 1, 2, 3, 4, 5, 6, 7, 8, 9, 10, 11, 12, 13, 14, 15, 16, 17, 18, 19, 20, 21, 22], [0, 1, 2, 3, 4, 5, 6, 7, 8, 9, 10, 11, 12, 13, 14, 15, 16, 17, 18, 19, 20, 21, 22, 23], [0, 1, 2, 3, 4, 5, 6, 7, 8, 9, 10, 11, 12, 13, 14, 15, 16, 17, 18], [0, 1, 2, 3, 4, 5, 6, 7, 8, 9, 10, 11, 12, 13, 14, 15, 16, 17, 18, 25], [0, 1, 2, 3, 4, 5, 6, 7, 8, 9, 10, 11, 12, 13, 14, 15, 16, 17, 18], [0, 1, 2, 3, 4, 5, 6, 7, 8, 9, 10, 11, 12, 13, 14, 15, 16, 17, 18, 25, 26, 27], [0, 1, 2, 3, 4, 5, 6, 7, 8, 9, 10, 11, 12, 13, 14, 15, 16, 17, 18, 25, 26, 27, 28], [0, 1, 2, 3, 4, 5, 6, 7, 8, 9, 10, 11, 12, 13, 14, 15, 16, 17, 18, 19, 20, 21, 22, 23, 24, 25, 26, 27, 28, 29], [0, 1, 2, 3, 4, 5, 6, 7, 8, 9, 10, 11, 12, 13, 14, 15, 16, 17, 18, 19, 20, 21, 22, 23, 24, 25, 26, 27, 28, 29, 30], [0, 1, 2, 3, 4, 5, 6, 7, 8, 9, 10, 11, 12, 13, 14, 15, 16, 17, 18, 19, 20, 21, 22, 23, 24, 25, 26, 27, 28, 29, 30, 31]] mixed (by kernel_rfl) ?_
          refine ⟨.det (fun val => (ptr b1 (2))), ⟨fun _ _ hv => rfl, fun _ _ _ _ _ => trivial⟩, fun val h_ W hx he => ⟨trivial, ?_⟩, ?_⟩
          ·exact X_fldP (b := b1) (o := 0) (r := 2) Fd26_2 rfl rfl ⟨Upd.refl _ _, rfl⟩
          refine ⟨.det (fun val => bv), ⟨fun _ _ hv => rfl, fun _ _ _ _ _ => trivial⟩, fun val h_ W hx he => ⟨trivial, ?_⟩, ?_⟩
          ·replace hx := (Upd.drew _ _).trans hx
           replace hB1 := hB1.ext hx
           refine id (X_load (p := (ptr b1 (2))) (v := bv) T24 rfl (hB1.at1 rfl) ?_)
           exact ⟨Upd.refl _ _, rfl⟩
          refine ⟨.det (fun val => (.int .i64 (((i : Nat) : Int)))), ⟨fun _ _ hv => rfl, fun _ _ _ _ _ => trivial⟩, fun val h_ W hx he => ⟨trivial, ?_⟩, ?_⟩
          ·exact X_move (v := (.int .i64 (((i : Nat) : Int)))) rfl ⟨Upd.refl _ _, rfl⟩
          refine ⟨.det (fun val => (pof bv ((((i : Nat) : Int) : Int).toNat * 1))), ⟨fun _ _ hv => rfl, fun _ _ _ _ _ => trivial⟩, fun val h_ W hx he => ⟨trivial, ?_⟩, ?_⟩
          ·replace hx := (Upd.drew _ _).trans hx
           replace hb := hb.ext hx
           refine id (X_idx (v := bv) (n := bs.length) (k := .i64) (i := ((i : Nat) : Int)) S24 rfl hb.sv rfl (by omega) (by omega) ?_)
           exact ⟨Upd.refl _ _, rfl⟩
          refine ⟨.det (fun val => (.int .i64 (a))), ⟨fun _ _ hv => rfl, fun _ _ _ _ _ => trivial⟩, fun val h_ W hx he => ⟨trivial, ?_⟩, ?_⟩
          ·replace hx := (Upd.drew _ _).trans hx
           replace hb := hb.ext hx
           refine id (X_load (v := .int .i64 a) T3 rfl (iat hb (Int.toNat_natCast _) hai) ?_)
           exact ⟨Upd.refl _ _, rfl⟩
          refine ⟨.det (fun val => (.bool (false))), ⟨fun _ _ hv => rfl, fun _ _ _ _ _ => trivial⟩, fun val h_ W hx he => ⟨trivial, ?_⟩, ?_⟩
          ·exact X_cmp (k := .i64) (a := a) (b := 0) (r := false) rfl rfl rfl (decide_eq_false (p := ((a) : Int) < ((0) : Int)) (by have h_ := of_decide_eq_false hs28; omega)) ⟨Upd.refl _ _, rfl⟩
          refine ⟨.det (fun val => (.bool (false))), ⟨fun _ _ hv => rfl, fun _ _ _ _ _ => trivial⟩, fun val h_ W hx he => ⟨trivial, ?_⟩, ?_⟩
          ·exact X_move (v := (.bool (false))) rfl ⟨Upd.refl _ _, rfl⟩
          refine ⟨.det (fun val => (ptr b1 (2))), ⟨fun _ _ hv => rfl, fun _ _ _ _ _ => trivial⟩, fun val h_ W hx he => ⟨⟨68, rfl, rfl⟩, ?_⟩, ?_⟩
          ·exact X_fldP (b := b1) (o := 0) (r := 2) Fd26_2 rfl rfl ⟨Upd.refl _ _, rfl⟩
          refine ⟨.det (fun val => bv), ⟨fun _ _ hv => rfl, fun _ _ _ _ _ => trivial⟩, fun val h_ W hx he => ⟨⟨68, rfl, rfl⟩, ?_⟩, ?_⟩
          ·replace hx := (Upd.drew _ _).trans hx
           replace hB1 := hB1.ext hx
           refine id (X_load (p := (ptr b1 (2))) (v := bv) T24 rfl (hB1.at1 rfl) ?_)
           exact ⟨Upd.refl _ _, rfl⟩
          refine ⟨.det (fun val => (.int .i64 (((i : Nat) : Int)))), ⟨fun _ _ hv => rfl, fun _ _ _ _ _ => trivial⟩, fun val h_ W hx he => ⟨⟨68, rfl, rfl⟩, ?_⟩, ?_⟩
          ·exact X_move (v := (.int .i64 (((i : Nat) : Int)))) rfl ⟨Upd.refl _ _, rfl⟩
          refine ⟨.det (fun val => (pof bv ((((i : Nat) : Int) : Int).toNat * 1))), ⟨fun _ _ hv => rfl, fun _ _ _ _ _ => trivial⟩, fun val h_ W hx he => ⟨⟨68, rfl, rfl⟩, ?_⟩, ?_⟩
          ·replace hx := (Upd.drew _ _).trans hx
           replace hb := hb.ext hx
           refine id (X_idx (v := bv) (n := bs.length) (k := .i64) (i := ((i : Nat) : Int)) S24 rfl hb.sv rfl (by omega) (by omega) ?_)
           exact ⟨Upd.refl _ _, rfl⟩
          refine ⟨.det (fun val => (.int .i64 (a))), ⟨fun _ _ hv => rfl, fun _ _ _ _ _ => trivial⟩, fun val h_ W hx he => ⟨⟨68, rfl, rfl⟩, ?_⟩, ?_⟩
          ·replace hx := (Upd.drew _ _).trans hx
           replace hb := hb.ext hx
           refine id (X_load (v := .int .i64 a) T3 rfl (iat hb (Int.toNat_natCast _) hai) ?_)
           exact ⟨Upd.refl _ _, rfl⟩
          refine ⟨.det (fun val => (.int .i64 (((ps.length : Nat) : Int)))), ⟨fun _ _ hv => rfl, fun _ _ _ _ _ => trivial⟩, fun val h_ W hx he => ⟨⟨68, rfl, rfl⟩, ?_⟩, ?_⟩
          ·exact X_move (v := (.int .i64 (((ps.length : Nat) : Int)))) rfl ⟨Upd.refl _ _, rfl⟩
          refine ⟨.det (fun val => (.bool (false))), ⟨fun _ _ hv => rfl, fun _ _ _ _ _ => trivial⟩, fun val h_ W hx he => ⟨⟨68, rfl, rfl⟩, ?_⟩, ?_⟩
          ·exact X_cmp (k := .i64) (a := a) (b := ((ps.length : Nat) : Int)) (r := false) rfl rfl rfl (decide_eq_false (p := ((((ps.length : Nat) : Int)) : Int) ≤ ((a) : Int)) (by have h_ := of_decide_eq_false hs30; omega)) ⟨Upd.refl _ _, rfl⟩
          refine ⟨.det (fun val => (.bool (false))), ⟨fun _ _ hv => rfl, fun _ _ _ _ _ => trivial⟩, fun val h_ W hx he => ⟨trivial, ?_⟩, ?_⟩
          ·exact X_pick (t := false) (v := (.bool (false))) rfl rfl ⟨Upd.refl _ _, rfl⟩
          refine ⟨.det (fun val => (.bool (false))), ⟨fun _ _ hv => rfl, fun _ _ _ _ _ => trivial⟩, fun val h_ W hx he => ⟨trivial, ?_⟩, ?_⟩
          ·exact X_move (v := (.bool (false))) rfl ⟨Upd.refl _ _, rfl⟩
          refine ⟨.det (fun val => (.int .i64 (((i : Nat) : Int)))), ⟨fun _ _ hv => rfl, fun _ _ _ _ _ => trivial⟩, fun val h_ W hx he => ⟨⟨77, rfl, rfl⟩, ?_⟩, ?_⟩
          ·exact X_move (v := (.int .i64 (((i : Nat) : Int)))) rfl ⟨Upd.refl _ _, rfl⟩
          refine ⟨.det (fun val => (.bool (false))), ⟨fun _ _ hv => rfl, fun _ _ _ _ _ => trivial⟩, fun val h_ W hx he => ⟨⟨77, rfl, rfl⟩, ?_⟩, ?_⟩
          ·exact X_cmp (k := .i64) (a := ((i : Nat) : Int)) (b := 0) (r := false) rfl rfl rfl (decide_eq_false (p := ((0) : Int) < ((((i : Nat) : Int)) : Int)) (by have h_ := of_decide_eq_false hs32; omega)) ⟨Upd.refl _ _, rfl⟩
          refine ⟨.det (fun val => (.bool (false))), ⟨fun _ _ hv => rfl, fun _ _ _ _ _ => trivial⟩, fun val h_ W hx he => ⟨⟨77, rfl, rfl⟩, ?_⟩, ?_⟩
          ·exact X_move (v := (.bool (false))) rfl ⟨Upd.refl _ _, rfl⟩
          refine ⟨.no, ⟨fun _ _ _ => trivial, fun _ _ _ _ _ => trivial⟩, fun val h_ W hx he => ⟨80, rfl, .inl rfl⟩, ?_⟩
          refine ⟨.no, ⟨fun _ _ _ => trivial, fun _ _ _ _ _ => trivial⟩, fun val h_ W hx he => ⟨80, rfl, .inl rfl⟩, ?_⟩
          refine ⟨.no, ⟨fun _ _ _ => trivial, fun _ _ _ _ _ => trivial⟩, fun val h_ W hx he => ⟨80, rfl, .inl rfl⟩, ?_⟩
          refine ⟨.no, ⟨fun _ _ _ => trivial, fun _ _ _ _ _ => trivial⟩, fun val h_ W hx he => ⟨80, rfl, .inl rfl⟩, ?_⟩
          refine ⟨.no, ⟨fun _ _ _ => trivial, fun _ _ _ _ _ => trivial⟩, fun val h_ W hx he => ⟨80, rfl, .inl rfl⟩, ?_⟩
          refine ⟨.no, ⟨fun _ _ _ => trivial, fun _ _ _ _ _ => trivial⟩, fun val h_ W hx he => ⟨80, rfl, .inl rfl⟩, ?_⟩
          refine ⟨.no, ⟨fun _ _ _ => trivial, fun _ _ _ _ _ => trivial⟩, fun val h_ W hx he => ⟨80, rfl, .inl rfl⟩, ?_⟩
          refine ⟨.no, ⟨fun _ _ _ => trivial, fun _ _ _ _ _ => trivial⟩, fun val h_ W hx he => ⟨80, rfl, .inl rfl⟩, ?_⟩
          refine ⟨.no, ⟨fun _ _ _ => trivial, fun _ _ _ _ _ => trivial⟩, fun val h_ W hx he => ⟨80, rfl, .inl rfl⟩, ?_⟩
          refine ⟨.no, ⟨fun _ _ _ => trivial, fun _ _ _ _ _ => trivial⟩, fun val h_ W hx he => ⟨80, rfl, .inl rfl⟩, ?_⟩
          refine ⟨.no, ⟨fun _ _ _ => trivial, fun _ _ _ _ _ => trivial⟩, fun val h_ W hx he => ⟨80, rfl, .inl rfl⟩, ?_⟩
          intro val W36 hx36 he36
          replace hx36 := (Upd.drew _ _).trans hx36
          have hz36 := hx36.size
          replace hc := hc.ext hx36
          replace hb := hb.ext hx36
          replace hU := hU.trans (Ext.upd hx36)
          replace hB1 := hB1.ext hx36
          refine L_gn (dj := 80) (t := false) rfl rfl rfl rfl ?_
          refine L_gy (dj := 77) rfl rfl rfl (X_pick (t := false) (v := (.bool (false))) rfl rfl ?_)
          refine L_op rfl (X_pick (t := false) (v := (.bool (false))) rfl rfl ?_)
          refine L_nil ?_
          refine T_n ?_
          refine W_cf rfl ?_
          refine W_skip ?_
          refine B_n ?_
          refine T_n ?_
          refine W_reg ?_
          refine L_op rfl (X_move (v := (.int .i64 (((i : Nat) : Int)))) rfl ?_)
          refine L_op rfl (X_arith (k := .i64) (a := ((i : Nat) : Int)) (b := 1) (r := ((i + 1 : Nat) : Int)) rfl rfl rfl (iadd64 (by omega) (by omega) (by omega)) ?_)
          refine L_op rfl (X_assign (v := (.int .i64 (((i + 1 : Nat) : Int)))) rfl ?_)
          refine L_nil ?_
          refine T_n ?_
          exact ⟨rfl, i + 1, ⟨⟨hi, hc, hb, hB1, hU, hst.2 ⟨hzb, by have h0_ := of_decide_eq_false hs28; have h1_ := of_decide_eq_false hs30; have h2_ := of_decide_eq_false hs32; have hb0 : before bs i = -1 := by { unfold before; rw [if_pos (by omega)] }; omega⟩⟩, (by show bs.length - (i + 1) < bs.length - i; omega)⟩, (Out.mk rfl), ⟨rfl, trivial⟩⟩
      ·refine L_op rfl (X_cmp (k := .i64) (a := ((i : Nat) : Int)) (b := ((bs.length : Nat) : Int)) (r := false) rfl rfl rfl (decide_eq_false (p := ((((i : Nat) : Int)) : Int) < ((((bs.length : Nat) : Int)) : Int)) (by omega)) ?_)
       refine L_nil ?_
       refine T_n ?_
       refine W_cf rfl ?_
       refine W_exit ?_
       refine T_e ?_
       refine T_e ?_
       refine B_x ?_
       refine T_n ?_
       refine W_seq ?_
       refine W_reg ?_
       refine L_op rfl (X_assign (v := (.bool (true))) rfl ?_)
       refine L_nil ?_
       refine T_n ?_
       refine W_ret ?_
       exact BQ_r (End_1 Try.results7 (v := .bool true) rfl ⟨⟨true, rfl, ⟨fun _ => ⟨hH, inC_mono hzc (by omega), inB_mono hzb (by omega)⟩, fun _ => rfl⟩⟩, hU.own hn0⟩)
end Go.Proofs.Ytcjfkkoapncnhaa
