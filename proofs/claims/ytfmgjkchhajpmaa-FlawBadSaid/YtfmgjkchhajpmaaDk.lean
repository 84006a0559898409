/-
  What chapter 04 takes over of chapter 03: laws of disks, May, Copy, DeleteFunc. (Printed by wip/gen/t04.py of this repo.)
-/
import Derived.Test.YtfmgjkchhajpmaaHead
import Derived.Test.YtfmgjkchhajpmaaBaseR
namespace Go.Proofs.Ytfmgjkchhajpmaa
open Go Go.SL Go.Proofs
set_option linter.unusedVariables false

def HeadD (np nc : Nat) (off : Bool) : Prop := 32 ≤ np ∧ np ≤ 256 ∧ nc ≤ 2000 ∧ (off = true → nc = 0)
def InC (n : Nat) (cs : List Wr) (k : Nat) : Prop := ∀ (j : Nat) (c : Wr), j < k → cs[j]? = some c → 0 ≤ c.1 ∧ c.1 < n
def InB (n : Nat) (bs : List Int) (k : Nat) : Prop := ∀ (j : Nat) (a : Int), j < k → bs[j]? = some a → 0 ≤ a ∧ a < n ∧ ∀ b : Int, 0 < j → bs[j - 1]? = some b → b < a
def MayD (np : Nat) (cs : List Wr) (bs : List Int) (off : Bool) : Prop := HeadD np cs.length off ∧ InC np cs cs.length ∧ InB np bs bs.length
theorem inC_0 {n : Nat} {cs : List Wr} : InC n cs 0 := fun j _ h => absurd h (Nat.not_lt_zero j)
theorem inB_0 {n : Nat} {bs : List Int} : InB n bs 0 := fun j _ h => absurd h (Nat.not_lt_zero j)
theorem inC_mono {n k m : Nat} {cs : List Wr} (h : InC n cs m) (hk : k ≤ m) : InC n cs k := fun j c hj => h j c (by omega)
theorem inB_mono {n k m : Nat} {bs : List Int} (h : InB n bs m) (hk : k ≤ m) : InB n bs k := fun j c hj => h j c (by omega)
theorem inC_step {n i : Nat} {cs : List Wr} {c : Wr} (hc : cs[i]? = some c) : InC n cs (i + 1) ↔ InC n cs i ∧ 0 ≤ c.1 ∧ c.1 < n :=
  ⟨fun h => ⟨inC_mono h (by omega), h i c (by omega) hc⟩, fun h j e hj he => (Nat.lt_or_ge j i).elim (fun h1 => h.1 j e h1 he) fun h1 => by
    obtain rfl : j = i := by omega
    rw [hc] at he
    cases he
    exact h.2⟩
/-- the number ahead of place i; -1: there is none -/
def before (bs : List Int) (i : Nat) : Int := if i = 0 then -1 else bs.getD (i - 1) 0
theorem before_succ {bs : List Int} {i : Nat} {a : Int} (ha : bs[i]? = some a) : before bs (i + 1) = a := by
  unfold before
  rw [if_neg (by omega), Nat.add_sub_cancel, List.getD_eq_getElem?_getD, ha]; rfl
theorem inB_step {n i : Nat} {bs : List Int} {a : Int} (ha : bs[i]? = some a) : InB n bs (i + 1) ↔ InB n bs i ∧ before bs i < a ∧ a < n := by
  have hlen := (List.getElem?_eq_some_iff.1 ha).1
  constructor
  · intro h
    obtain ⟨h1, h2, h3⟩ := h i a (by omega) ha
    refine ⟨inB_mono h (by omega), ?_, h2⟩
    unfold before
    split
    · omega
    · exact h3 _ (by omega) (by rw [List.getD_eq_getElem?_getD, List.getElem?_eq_getElem (by omega)]; rfl)
  · rintro ⟨h, h1, h2⟩ j e hj he
    rcases Nat.lt_or_ge j i with h3 | h3
    · exact h j e h3 he
    · obtain rfl : j = i := by omega
      rw [ha] at he
      cases he
      unfold before at h1
      split at h1
      · exact ⟨by omega, h2, fun b h4 => by omega⟩
      · rename_i h4
        have hb : bs[j - 1]? = some (bs.getD (j - 1) 0) := by rw [List.getD_eq_getElem?_getD, List.getElem?_eq_getElem (by omega)]; rfl
        obtain ⟨h5, _, _⟩ := h (j - 1) _ (by omega) hb
        exact ⟨by omega, h2, fun b _ hb' => by rw [hb] at hb'; cases hb'; exact h1⟩
theorem inB_prev {bs : List Int} {i : Nat} {b : Int} (h0 : 0 < i) (hb : bs[i - 1]? = some b) : before bs i = b := by
  unfold before
  rw [if_neg (by omega), List.getD_eq_getElem?_getD, hb]; rfl
section rows
variable {w : World} {lo hi : Nat} {v : Value}
theorem wat {es : List Wr} (h : NRd LW w lo hi v es) {i : Int} {k : Nat} {e : Wr} (hik : i.toNat = k) (he : es[k]? = some e) : At w (pof v (i.toNat * 257 + 0)) [.int .i64 e.1] := by
  subst hik
  have h1 := h.cell (L := LW) (j := 0) he rfl
  rwa [show LW.sz = 257 from rfl] at h1
theorem wdata {es : List Wr} (h : NRd LW w lo hi v es) {i : Int} {k : Nat} {e : Wr} (hik : i.toNat = k) (he : es[k]? = some e) : At w (pof v (i.toNat * 257 + 1)) (e.2.1.map byteV) := by
  subst hik
  have h1 := h.cells (L := LW) (j := 1) (us := e.2.1.map byteV) he fun j u hj => by rw [Nat.add_comm]; exact hj
  rwa [show LW.sz = 257 from rfl] at h1
theorem wall {es : List Wr} (h : NRd LW w lo hi v es) {i : Int} {k : Nat} {e : Wr} (hik : i.toNat = k) (he : es[k]? = some e) : At w (pof v (i.toNat * 257)) (LW.cel e) := by
  subst hik
  have h1 := h.cells (L := LW) (j := 0) (us := LW.cel e) he fun j u hj => by rw [Nat.zero_add]; exact hj
  rwa [Nat.add_zero, show LW.sz = 257 from rfl] at h1
theorem iat {es : List Int} (h : NRd LI w lo hi v es) {i : Int} {k : Nat} {e : Int} (hik : i.toNat = k) (he : es[k]? = some e) : At w (pof v (i.toNat * 1)) [.int .i64 e] := by
  subst hik
  exact h.cells (L := LI) (j := 0) he fun j u hj => by rw [Nat.zero_add]; exact hj
theorem pall {es : List Pg} (h : NRd LP w lo hi v es) {i : Int} {k : Nat} {e : Pg} (hik : i.toNat = k) (he : es[k]? = some e) : At w (pof v (i.toNat * 256)) (e.1.map byteV) := by
  subst hik
  have h1 := h.cells (L := LP) (j := 0) (us := LP.cel e) he fun j u hj => by rw [Nat.zero_add]; exact hj
  rwa [Nat.add_zero, show LP.sz = 256 from rfl] at h1
end rows
def LD : Lay Dk where
  cel := Dk.cel
  sub d := [(d.pv, []), (d.cv, []), (d.bv, [])]
  sz := 4
  len _ := rfl
  one d h u hu := by
    simp [Dk.cel] at hu
    rcases hu with rfl | rfl | rfl | rfl
    · exact h (d.pv, []) (by simp)
    · exact h (d.cv, []) (by simp)
    · exact h (d.bv, []) (by simp)
    · rfl

theorem c_mayR (pv cv bv : Value) (ps : List Pg) (cs : List Wr) (bs : List Int) (off : Bool) (w : World) (lo up : Nat) (hp : NRd LP w lo up pv ps) (hc : NRd LW w lo up cv cs) (hb : NRd LI w lo up bv bs) : CT Try.prog 14 #[(.agg #[pv, cv, bv, (.bool (off))])] w fun v w' => (∃ g, v = .bool g ∧ (g = true ↔ MayD ps.length cs bs off)) ∧ Ext w w' := by
  obtain ⟨n0, hn0⟩ : ∃ n, n = w.heap.size := ⟨_, rfl⟩
  have hU : Upd (fun i => n0 ≤ i) w w := Upd.refl _ _
  have hpl := hp.sv.len
  have hcl := hc.sv.len
  have hbl := hb.sv.len
  refine CT_of Try.func14 rfl rfl rfl ?_
  refine W_seq ?_
  refine W_reg ?_
  refine L_op rfl (X_box (v := (.agg #[pv, cv, bv, (.bool (off))])) (c := ([pv, cv, bv, (.bool (off))]).toArray) rfl rfl ?_)
  intro b1 w1 hn1
  have hbn1 := hn1.num; have hbs1 := hn1.size
  replace hp := hp.ext hn1.ext
  replace hc := hc.ext hn1.ext
  replace hb := hb.ext hn1.ext
  replace hU := hU.trans (Ext.upd hn1.ext)
  have hB1 := hn1.blk
  refine L_op rfl (X_assign (v := (.bool (false))) rfl ?_)
  refine L_nil ?_
  refine T_n ?_
  refine W_seq ?_
  refine W_reg ?_
  refine L_op rfl (X_fldP (b := b1) (o := 0) (r := 0) Fd26_0 rfl rfl ?_)
  refine L_op rfl (X_load (p := (ptr b1 (0))) (v := pv) T22 rfl (hB1.at1 rfl) ?_)
  refine L_op rfl (X_len (v := pv) (n := ps.length) Try.underlying22 rfl hp.sv ?_)
  refine L_op rfl (X_assign (v := (.int .i64 (((ps.length : Nat) : Int)))) rfl ?_)
  refine L_nil ?_
  refine T_n ?_
  refine W_seq ?_
  refine W_seq ?_
  refine W_reg ?_
  refine L_op rfl (X_move (v := (.int .i64 (((ps.length : Nat) : Int)))) rfl ?_)
  by_cases hc2 : (((ps.length : Nat) : Int) : Int) < (32)
  · refine L_op rfl (X_cmp (k := .i64) (a := ((ps.length : Nat) : Int)) (b := 32) (r := true) rfl rfl rfl (decide_eq_true (p := ((((ps.length : Nat) : Int)) : Int) < ((32) : Int)) (by omega)) ?_)
    refine L_op rfl (X_move (v := (.bool (true))) rfl ?_)
    refine L_gn (dj := 11) (t := true) rfl rfl rfl rfl ?_
    refine L_gn (dj := 11) (t := true) rfl rfl rfl rfl ?_
    refine L_op rfl (X_pick (t := true) (v := (.bool (true))) rfl rfl ?_)
    refine L_op rfl (X_move (v := (.bool (true))) rfl ?_)
    refine L_gn (dj := 15) (t := true) rfl rfl rfl rfl ?_
    refine L_gn (dj := 15) (t := true) rfl rfl rfl rfl ?_
    refine L_gn (dj := 15) (t := true) rfl rfl rfl rfl ?_
    refine L_gn (dj := 15) (t := true) rfl rfl rfl rfl ?_
    refine L_op rfl (X_pick (t := true) (v := (.bool (true))) rfl rfl ?_)
    refine L_op rfl (X_move (v := (.bool (true))) rfl ?_)
    refine L_gn (dj := 21) (t := true) rfl rfl rfl rfl ?_
    refine L_gn (dj := 21) (t := true) rfl rfl rfl rfl ?_
    refine L_gn (dj := 21) (t := true) rfl rfl rfl rfl ?_
    refine L_gu (dj := 24) rfl rfl rfl ?_
    refine L_gu (dj := 24) rfl rfl rfl ?_
    refine L_gu (dj := 24) rfl rfl rfl ?_
    refine L_gu (dj := 24) rfl rfl rfl ?_
    refine L_gn (dj := 21) (t := true) rfl rfl rfl rfl ?_
    refine L_op rfl (X_pick (t := true) (v := (.bool (true))) rfl rfl ?_)
    refine L_nil ?_
    refine T_n ?_
    refine W_ct rfl ?_
    refine W_seq ?_
    refine W_reg ?_
    refine L_op rfl (X_assign (v := (.bool (false))) rfl ?_)
    refine L_nil ?_
    refine T_n ?_
    refine W_ret ?_
    refine T_r ?_
    exact BQ_r (End_1 Try.results14 (v := .bool false) rfl ⟨⟨false, rfl, ⟨fun h => (by cases h), fun h => (by exfalso; have h1 := h.1; unfold HeadD at h1; simp_all <;> omega)⟩⟩, hU.own hn0⟩)
  · refine L_op rfl (X_cmp (k := .i64) (a := ((ps.length : Nat) : Int)) (b := 32) (r := false) rfl rfl rfl (decide_eq_false (p := ((((ps.length : Nat) : Int)) : Int) < ((32) : Int)) (by omega)) ?_)
    refine L_op rfl (X_move (v := (.bool (false))) rfl ?_)
    refine L_gy (dj := 11) rfl rfl rfl (X_move (v := (.int .i64 (((ps.length : Nat) : Int)))) rfl ?_)
    by_cases hc3 : (((ps.length : Nat) : Int) : Int) > (256)
    · refine L_gy (dj := 11) rfl rfl rfl (X_cmp (k := .i64) (a := ((ps.length : Nat) : Int)) (b := 256) (r := true) rfl rfl rfl (decide_eq_true (p := ((256) : Int) < ((((ps.length : Nat) : Int)) : Int)) (by omega)) ?_)
      refine L_op rfl (X_pick (t := false) (v := (.bool (true))) rfl rfl ?_)
      refine L_op rfl (X_move (v := (.bool (true))) rfl ?_)
      refine L_gn (dj := 15) (t := true) rfl rfl rfl rfl ?_
      refine L_gn (dj := 15) (t := true) rfl rfl rfl rfl ?_
      refine L_gn (dj := 15) (t := true) rfl rfl rfl rfl ?_
      refine L_gn (dj := 15) (t := true) rfl rfl rfl rfl ?_
      refine L_op rfl (X_pick (t := true) (v := (.bool (true))) rfl rfl ?_)
      refine L_op rfl (X_move (v := (.bool (true))) rfl ?_)
      refine L_gn (dj := 21) (t := true) rfl rfl rfl rfl ?_
      refine L_gn (dj := 21) (t := true) rfl rfl rfl rfl ?_
      refine L_gn (dj := 21) (t := true) rfl rfl rfl rfl ?_
      refine L_gu (dj := 24) rfl rfl rfl ?_
      refine L_gu (dj := 24) rfl rfl rfl ?_
      refine L_gu (dj := 24) rfl rfl rfl ?_
      refine L_gu (dj := 24) rfl rfl rfl ?_
      refine L_gn (dj := 21) (t := true) rfl rfl rfl rfl ?_
      refine L_op rfl (X_pick (t := true) (v := (.bool (true))) rfl rfl ?_)
      refine L_nil ?_
      refine T_n ?_
      refine W_ct rfl ?_
      refine W_seq ?_
      refine W_reg ?_
      refine L_op rfl (X_assign (v := (.bool (false))) rfl ?_)
      refine L_nil ?_
      refine T_n ?_
      refine W_ret ?_
      refine T_r ?_
      exact BQ_r (End_1 Try.results14 (v := .bool false) rfl ⟨⟨false, rfl, ⟨fun h => (by cases h), fun h => (by exfalso; have h1 := h.1; unfold HeadD at h1; simp_all <;> omega)⟩⟩, hU.own hn0⟩)
    · refine L_gy (dj := 11) rfl rfl rfl (X_cmp (k := .i64) (a := ((ps.length : Nat) : Int)) (b := 256) (r := false) rfl rfl rfl (decide_eq_false (p := ((256) : Int) < ((((ps.length : Nat) : Int)) : Int)) (by omega)) ?_)
      refine L_op rfl (X_pick (t := false) (v := (.bool (false))) rfl rfl ?_)
      refine L_op rfl (X_move (v := (.bool (false))) rfl ?_)
      refine L_gy (dj := 15) rfl rfl rfl (X_fldP (b := b1) (o := 0) (r := 1) Fd26_1 rfl rfl ?_)
      refine L_gy (dj := 15) rfl rfl rfl (X_load (p := (ptr b1 (1))) (v := cv) T23 rfl (hB1.at1 rfl) ?_)
      refine L_gy (dj := 15) rfl rfl rfl (X_len (v := cv) (n := cs.length) Try.underlying23 rfl hc.sv ?_)
      by_cases hc4 : (((cs.length : Nat) : Int) : Int) > (2000)
      · refine L_gy (dj := 15) rfl rfl rfl (X_cmp (k := .i64) (a := ((cs.length : Nat) : Int)) (b := 2000) (r := true) rfl rfl rfl (decide_eq_true (p := ((2000) : Int) < ((((cs.length : Nat) : Int)) : Int)) (by omega)) ?_)
        refine L_op rfl (X_pick (t := false) (v := (.bool (true))) rfl rfl ?_)
        refine L_op rfl (X_move (v := (.bool (true))) rfl ?_)
        refine L_gn (dj := 21) (t := true) rfl rfl rfl rfl ?_
        refine L_gn (dj := 21) (t := true) rfl rfl rfl rfl ?_
        refine L_gn (dj := 21) (t := true) rfl rfl rfl rfl ?_
        refine L_gu (dj := 24) rfl rfl rfl ?_
        refine L_gu (dj := 24) rfl rfl rfl ?_
        refine L_gu (dj := 24) rfl rfl rfl ?_
        refine L_gu (dj := 24) rfl rfl rfl ?_
        refine L_gn (dj := 21) (t := true) rfl rfl rfl rfl ?_
        refine L_op rfl (X_pick (t := true) (v := (.bool (true))) rfl rfl ?_)
        refine L_nil ?_
        refine T_n ?_
        refine W_ct rfl ?_
        refine W_seq ?_
        refine W_reg ?_
        refine L_op rfl (X_assign (v := (.bool (false))) rfl ?_)
        refine L_nil ?_
        refine T_n ?_
        refine W_ret ?_
        refine T_r ?_
        exact BQ_r (End_1 Try.results14 (v := .bool false) rfl ⟨⟨false, rfl, ⟨fun h => (by cases h), fun h => (by exfalso; have h1 := h.1; unfold HeadD at h1; simp_all <;> omega)⟩⟩, hU.own hn0⟩)
      · refine L_gy (dj := 15) rfl rfl rfl (X_cmp (k := .i64) (a := ((cs.length : Nat) : Int)) (b := 2000) (r := false) rfl rfl rfl (decide_eq_false (p := ((2000) : Int) < ((((cs.length : Nat) : Int)) : Int)) (by omega)) ?_)
        refine L_op rfl (X_pick (t := false) (v := (.bool (false))) rfl rfl ?_)
        refine L_op rfl (X_move (v := (.bool (false))) rfl ?_)
        refine L_gy (dj := 21) rfl rfl rfl (X_fldP (b := b1) (o := 0) (r := 3) Fd26_3 rfl rfl ?_)
        rcases Bool.eq_false_or_eq_true off with ho5 | ho5
        · refine L_gy (dj := 21) rfl rfl rfl (X_load (p := (ptr b1 (3))) (v := .bool true) T4 rfl (hB1.at1 (by rw [ho5]; rfl)) ?_)
          refine L_gy (dj := 21) rfl rfl rfl (X_move (v := (.bool (true))) rfl ?_)
          refine L_gy (dj := 24) rfl rfl rfl (X_fldP (b := b1) (o := 0) (r := 1) Fd26_1 rfl rfl ?_)
          refine L_gy (dj := 24) rfl rfl rfl (X_load (p := (ptr b1 (1))) (v := cv) T23 rfl (hB1.at1 rfl) ?_)
          refine L_gy (dj := 24) rfl rfl rfl (X_len (v := cv) (n := cs.length) Try.underlying23 rfl hc.sv ?_)
          by_cases hc6 : (((cs.length : Nat) : Int) : Int) > (0)
          · refine L_gy (dj := 24) rfl rfl rfl (X_cmp (k := .i64) (a := ((cs.length : Nat) : Int)) (b := 0) (r := true) rfl rfl rfl (decide_eq_true (p := ((0) : Int) < ((((cs.length : Nat) : Int)) : Int)) (by omega)) ?_)
            refine L_gy (dj := 21) rfl rfl rfl (X_pick (t := true) (v := (.bool (true))) rfl rfl ?_)
            refine L_op rfl (X_pick (t := false) (v := (.bool (true))) rfl rfl ?_)
            refine L_nil ?_
            refine T_n ?_
            refine W_ct rfl ?_
            refine W_seq ?_
            refine W_reg ?_
            refine L_op rfl (X_assign (v := (.bool (false))) rfl ?_)
            refine L_nil ?_
            refine T_n ?_
            refine W_ret ?_
            refine T_r ?_
            exact BQ_r (End_1 Try.results14 (v := .bool false) rfl ⟨⟨false, rfl, ⟨fun h => (by cases h), fun h => (by exfalso; have h1 := h.1; unfold HeadD at h1; simp_all <;> omega)⟩⟩, hU.own hn0⟩)
          · refine L_gy (dj := 24) rfl rfl rfl (X_cmp (k := .i64) (a := ((cs.length : Nat) : Int)) (b := 0) (r := false) rfl rfl rfl (decide_eq_false (p := ((0) : Int) < ((((cs.length : Nat) : Int)) : Int)) (by omega)) ?_)
            refine L_gy (dj := 21) rfl rfl rfl (X_pick (t := true) (v := (.bool (false))) rfl rfl ?_)
            refine L_op rfl (X_pick (t := false) (v := (.bool (false))) rfl rfl ?_)
            refine L_nil ?_
            refine T_n ?_
            refine W_cf rfl ?_
            refine W_skip ?_
            refine T_n ?_
            refine W_seq ?_
            refine W_seq ?_
            refine W_reg ?_
            refine L_op rfl (X_assign (v := (.int .i64 (0))) rfl ?_)
            refine L_nil ?_
            refine T_n ?_
            refine W_block ?_
            refine W_loop (α := Nat) [2, 4, 31, 32, 33, 34, 35, 36, 37, 38, 39, 40, 41, 42, 43, 44, 45, 46, 47, 48, 49, 50, 51, 52, 53, 54] (fun i => [(4, (.int .i64 (((i : Nat) : Int))))]) (fun i w_ => i ≤ cs.length ∧ NRd LW w_ lo up cv cs ∧ NRd LI w_ lo up bv bs ∧ Blk w_ b1 #[pv, cv, bv, .bool off] 26 ∧ Upd (fun i => n0 ≤ i) w w_ ∧ InC ps.length cs i) (fun i => cs.length - i) ⟨rfl, 0, ⟨Nat.zero_le _, hc, hb, hB1, hU, inC_0⟩, Out.refl _ _, ⟨rfl, trivial⟩⟩ ?_
            rintro i w7 _ ⟨hil, hc, hb, hB1, hU, hzc⟩
            refine W_seq ?_
            refine W_seq ?_
            refine W_reg ?_
            refine L_op rfl (X_move (v := (.int .i64 (((i : Nat) : Int)))) rfl ?_)
            refine L_op rfl (X_fldP (b := b1) (o := 0) (r := 1) Fd26_1 rfl rfl ?_)
            refine L_op rfl (X_load (p := (ptr b1 (1))) (v := cv) T23 rfl (hB1.at1 rfl) ?_)
            refine L_op rfl (X_len (v := cv) (n := cs.length) Try.underlying23 rfl hc.sv ?_)
            by_cases hc8 : (((i : Nat) : Int) : Int) < (((cs.length : Nat) : Int))
            · refine L_op rfl (X_cmp (k := .i64) (a := ((i : Nat) : Int)) (b := ((cs.length : Nat) : Int)) (r := true) rfl rfl rfl (decide_eq_true (p := ((((i : Nat) : Int)) : Int) < ((((cs.length : Nat) : Int)) : Int)) (by omega)) ?_)
              have hi : i < cs.length := by omega
              obtain ⟨e, hei⟩ : ∃ e, cs[i]? = some e := ⟨_, List.getElem?_eq_getElem hi⟩
              refine L_nil ?_
              refine T_n ?_
              refine W_ct rfl ?_
              refine W_skip ?_
              refine T_n ?_
              refine W_seq ?_
              refine W_block ?_
              refine W_seq ?_
              refine W_reg ?_
              refine L_op rfl (X_fldP (b := b1) (o := 0) (r := 1) Fd26_1 rfl rfl ?_)
              refine L_op rfl (X_load (p := (ptr b1 (1))) (v := cv) T23 rfl (hB1.at1 rfl) ?_)
              refine L_op rfl (X_move (v := (.int .i64 (((i : Nat) : Int)))) rfl ?_)
              refine L_op rfl (X_idx (v := cv) (n := cs.length) (k := .i64) (i := ((i : Nat) : Int)) S23 rfl hc.sv rfl (by omega) (by omega) ?_)
              refine L_op rfl (X_fldS (v := cv) (o := (((i : Nat) : Int) : Int).toNat * 257) Fd35_0 rfl hc.sv (by omega) ?_)
              refine L_op rfl (X_load (v := .int .i64 e.1) T3 rfl (wat hc (Int.toNat_natCast _) hei) ?_)
              by_cases hc9 : (e.1 : Int) < (0)
              · refine L_op rfl (X_cmp (k := .i64) (a := e.1) (b := 0) (r := true) rfl rfl rfl (decide_eq_true (p := ((e.1) : Int) < ((0) : Int)) (by omega)) ?_)
                refine L_op rfl (X_move (v := (.bool (true))) rfl ?_)
                refine L_gn (dj := 45) (t := true) rfl rfl rfl rfl ?_
                refine L_gn (dj := 45) (t := true) rfl rfl rfl rfl ?_
                refine L_gn (dj := 45) (t := true) rfl rfl rfl rfl ?_
                refine L_gn (dj := 45) (t := true) rfl rfl rfl rfl ?_
                refine L_gn (dj := 45) (t := true) rfl rfl rfl rfl ?_
                refine L_gn (dj := 45) (t := true) rfl rfl rfl rfl ?_
                refine L_gn (dj := 45) (t := true) rfl rfl rfl rfl ?_
                refine L_gn (dj := 45) (t := true) rfl rfl rfl rfl ?_
                refine L_op rfl (X_pick (t := true) (v := (.bool (true))) rfl rfl ?_)
                refine L_nil ?_
                refine T_n ?_
                refine W_ct rfl ?_
                refine W_seq ?_
                refine W_reg ?_
                refine L_op rfl (X_assign (v := (.bool (false))) rfl ?_)
                refine L_nil ?_
                refine T_n ?_
                refine W_ret ?_
                refine B_r ?_
                refine T_r ?_
                refine T_r ?_
                refine B_r ?_
                refine T_r ?_
                exact BQ_r (End_1 Try.results14 (v := .bool false) rfl ⟨⟨false, rfl, ⟨fun h => (by cases h), fun h => (by have h1 := (inC_step hei).1 (inC_mono h.2.1 hi); omega)⟩⟩, hU.own hn0⟩)
              · refine L_op rfl (X_cmp (k := .i64) (a := e.1) (b := 0) (r := false) rfl rfl rfl (decide_eq_false (p := ((e.1) : Int) < ((0) : Int)) (by omega)) ?_)
                refine L_op rfl (X_move (v := (.bool (false))) rfl ?_)
                refine L_gy (dj := 45) rfl rfl rfl (X_fldP (b := b1) (o := 0) (r := 1) Fd26_1 rfl rfl ?_)
                refine L_gy (dj := 45) rfl rfl rfl (X_load (p := (ptr b1 (1))) (v := cv) T23 rfl (hB1.at1 rfl) ?_)
                refine L_gy (dj := 45) rfl rfl rfl (X_move (v := (.int .i64 (((i : Nat) : Int)))) rfl ?_)
                refine L_gy (dj := 45) rfl rfl rfl (X_idx (v := cv) (n := cs.length) (k := .i64) (i := ((i : Nat) : Int)) S23 rfl hc.sv rfl (by omega) (by omega) ?_)
                refine L_gy (dj := 45) rfl rfl rfl (X_fldS (v := cv) (o := (((i : Nat) : Int) : Int).toNat * 257) Fd35_0 rfl hc.sv (by omega) ?_)
                refine L_gy (dj := 45) rfl rfl rfl (X_load (v := .int .i64 e.1) T3 rfl (wat hc (Int.toNat_natCast _) hei) ?_)
                refine L_gy (dj := 45) rfl rfl rfl (X_move (v := (.int .i64 (((ps.length : Nat) : Int)))) rfl ?_)
                by_cases hc10 : (e.1 : Int) ≥ (((ps.length : Nat) : Int))
                · refine L_gy (dj := 45) rfl rfl rfl (X_cmp (k := .i64) (a := e.1) (b := ((ps.length : Nat) : Int)) (r := true) rfl rfl rfl (decide_eq_true (p := ((((ps.length : Nat) : Int)) : Int) ≤ ((e.1) : Int)) (by omega)) ?_)
                  refine L_op rfl (X_pick (t := false) (v := (.bool (true))) rfl rfl ?_)
                  refine L_nil ?_
                  refine T_n ?_
                  refine W_ct rfl ?_
                  refine W_seq ?_
                  refine W_reg ?_
                  refine L_op rfl (X_assign (v := (.bool (false))) rfl ?_)
                  refine L_nil ?_
                  refine T_n ?_
                  refine W_ret ?_
                  refine B_r ?_
                  refine T_r ?_
                  refine T_r ?_
                  refine B_r ?_
                  refine T_r ?_
                  exact BQ_r (End_1 Try.results14 (v := .bool false) rfl ⟨⟨false, rfl, ⟨fun h => (by cases h), fun h => (by have h1 := (inC_step hei).1 (inC_mono h.2.1 hi); omega)⟩⟩, hU.own hn0⟩)
                · refine L_gy (dj := 45) rfl rfl rfl (X_cmp (k := .i64) (a := e.1) (b := ((ps.length : Nat) : Int)) (r := false) rfl rfl rfl (decide_eq_false (p := ((((ps.length : Nat) : Int)) : Int) ≤ ((e.1) : Int)) (by omega)) ?_)
                  refine L_op rfl (X_pick (t := false) (v := (.bool (false))) rfl rfl ?_)
                  refine L_nil ?_
                  refine T_n ?_
                  refine W_cf rfl ?_
                  refine W_skip ?_
                  refine B_n ?_
                  refine T_n ?_
                  refine W_reg ?_
                  refine L_op rfl (X_move (v := (.int .i64 (((i : Nat) : Int)))) rfl ?_)
                  refine L_op rfl (X_arith (k := .i64) (a := ((i : Nat) : Int)) (b := 1) (r := ((i + 1 : Nat) : Int)) rfl rfl rfl (iadd64 (by omega) (by omega) (by omega)) ?_)
                  refine L_op rfl (X_assign (v := (.int .i64 (((i + 1 : Nat) : Int)))) rfl ?_)
                  refine L_nil ?_
                  refine T_n ?_
                  exact ⟨rfl, i + 1, ⟨⟨hi, hc, hb, hB1, hU, (inC_step hei).2 ⟨hzc, by omega, by omega⟩⟩, (by show cs.length - (i + 1) < cs.length - i; omega)⟩, (Out.mk rfl), ⟨rfl, trivial⟩⟩
            · refine L_op rfl (X_cmp (k := .i64) (a := ((i : Nat) : Int)) (b := ((cs.length : Nat) : Int)) (r := false) rfl rfl rfl (decide_eq_false (p := ((((i : Nat) : Int)) : Int) < ((((cs.length : Nat) : Int)) : Int)) (by omega)) ?_)
              have hH : HeadD ps.length cs.length off := ⟨by omega, by omega, by omega, fun h => by simp_all <;> omega⟩
              refine L_nil ?_
              refine T_n ?_
              refine W_cf rfl ?_
              refine W_exit ?_
              refine T_e ?_
              refine T_e ?_
              refine B_x ?_
              refine T_n ?_
              refine W_seq ?_
              refine W_seq ?_
              refine W_reg ?_
              refine L_op rfl (X_assign (v := (.int .i64 (0))) rfl ?_)
              refine L_nil ?_
              refine T_n ?_
              refine W_block ?_
              refine W_loop (α := Nat) [2, 5, 55, 56, 57, 58, 59, 60, 61, 62, 63, 64, 65, 66, 67, 68, 69, 70, 71, 72, 73, 74, 75, 76, 77, 78, 79, 80, 81, 82, 83, 84, 85, 86, 87, 88, 89, 90, 91, 92, 93, 94] (fun i => [(5, (.int .i64 (((i : Nat) : Int))))]) (fun i w_ => i ≤ bs.length ∧ NRd LW w_ lo up cv cs ∧ NRd LI w_ lo up bv bs ∧ Blk w_ b1 #[pv, cv, bv, .bool off] 26 ∧ Upd (fun i => n0 ≤ i) w w_ ∧ InB ps.length bs i) (fun i => bs.length - i) ⟨rfl, 0, ⟨Nat.zero_le _, hc, hb, hB1, hU, inB_0⟩, Out.refl _ _, ⟨rfl, trivial⟩⟩ ?_
              rintro i w11 _ ⟨hil, hc, hb, hB1, hU, hzb⟩
              refine W_seq ?_
              refine W_seq ?_
              refine W_reg ?_
              refine L_op rfl (X_move (v := (.int .i64 (((i : Nat) : Int)))) rfl ?_)
              refine L_op rfl (X_fldP (b := b1) (o := 0) (r := 2) Fd26_2 rfl rfl ?_)
              refine L_op rfl (X_load (p := (ptr b1 (2))) (v := bv) T24 rfl (hB1.at1 rfl) ?_)
              refine L_op rfl (X_len (v := bv) (n := bs.length) Try.underlying24 rfl hb.sv ?_)
              by_cases hc12 : (((i : Nat) : Int) : Int) < (((bs.length : Nat) : Int))
              · refine L_op rfl (X_cmp (k := .i64) (a := ((i : Nat) : Int)) (b := ((bs.length : Nat) : Int)) (r := true) rfl rfl rfl (decide_eq_true (p := ((((i : Nat) : Int)) : Int) < ((((bs.length : Nat) : Int)) : Int)) (by omega)) ?_)
                have hi : i < bs.length := by omega
                obtain ⟨a, hai⟩ : ∃ a, bs[i]? = some a := ⟨_, List.getElem?_eq_getElem hi⟩
                have hst := inB_step (n := ps.length) hai
                refine L_nil ?_
                refine T_n ?_
                refine W_ct rfl ?_
                refine W_skip ?_
                refine T_n ?_
                refine W_seq ?_
                refine W_block ?_
                refine W_seq ?_
                rcases Bool.eq_false_or_eq_true (decide (a < 0)) with hs13 | hs13
                · refine W_draw 30 [[], [0], [], [0, 1, 2], [0, 1, 2, 3], [0, 1, 2, 3, 4], [0, 1, 2, 3, 4, 5], [0, 1, 2, 3, 4, 5, 6], [0, 1, 2, 3, 4, 5, 6, 7], [0, 1, 2, 3, 4, 5, 6], [0, 1, 2, 3, 4, 5, 6, 7, 8, 9], [0, 1, 2, 3, 4, 5, 6, 7, 8, 9, 10], [0, 1, 2, 3, 4, 5, 6], [0, 1, 2, 3, 4, 5, 6, 7, 8, 9, 10, 11, 12], [0, 1, 2, 3, 4, 5, 6, 7, 8, 9, 10, 11, 12, 13], [0, 1, 2, 3, 4, 5, 6, 7, 8, 9, 10, 11, 12, 13, 14], [0, 1, 2, 3, 4, 5, 6, 7, 8, 9, 10, 11, 12, 13, 14, 15], [0, 1, 2, 3, 4, 5, 6, 7, 8, 9, 10, 11, 12, 13, 14, 15, 16], [0, 1, 2, 3, 4, 5, 6, 7, 8, 9, 10, 11, 12, 13, 14, 15, 16, 17], [0, 1, 2, 3, 4, 5, 6, 7, 8, 9, 10, 11, 12, 13, 14, 15, 16, 17, 18], [0, 1, 2, 3, 4, 5, 6, 7, 8, 9, 10, 11, 12, 13, 14, 15, 16, 17, 18, 19], [0, 1, 2, 3, 4, 5, 6, 7, 8, 9, 10, 11, 12, 13, 14, 15, 16, 17, 18], [0, 1, 2, 3, 4, 5, 6, 7, 8, 9, 10, 11, 12, 13, 14, 15, 16, 17, 18, 21], [0, 1, 2, 3, 4, 5, 6, 7, 8, 9, 10, 11, 12, 13, 14, 15, 16, 17, 18, 19, 20, 21, 22], [0, 1, 2, 3, 4, 5, 6, 7, 8, 9, 10, 11, 12, 13, 14, 15, 16, 17, 18, 19, 20, 21, 22, 23], [0, 1, 2, 3, 4, 5, 6, 7, 8, 9, 10, 11, 12, 13, 14, 15, 16, 17, 18], [0, 1, 2, 3, 4, 5, 6, 7, 8, 9, 10, 11, 12, 13, 14, 15, 16, 17, 18, 25], [0, 1, 2, 3, 4, 5, 6, 7, 8, 9, 10, 11, 12, 13, 14, 15, 16, 17, 18], [0, 1, 2, 3, 4, 5, 6, 7, 8, 9, 10, 11, 12, 13, 14, 15, 16, 17, 18, 25, 26, 27], [0, 1, 2, 3, 4, 5, 6, 7, 8, 9, 10, 11, 12, 13, 14, 15, 16, 17, 18, 25, 26, 27, 28], [0, 1, 2, 3, 4, 5, 6, 7, 8, 9, 10, 11, 12, 13, 14, 15, 16, 17, 18, 19, 20, 21, 22, 23, 24, 25, 26, 27, 28, 29], [0, 1, 2, 3, 4, 5, 6, 7, 8, 9, 10, 11, 12, 13, 14, 15, 16, 17, 18, 19, 20, 21, 22, 23, 24, 25, 26, 27, 28, 29, 30], [0, 1, 2, 3, 4, 5, 6, 7, 8, 9, 10, 11, 12, 13, 14, 15, 16, 17, 18, 19, 20, 21, 22, 23, 24, 25, 26, 27, 28, 29, 30, 31]] mixed (by kernel_rfl) ?_
                  refine ⟨.det (fun val => (ptr b1 (2))), ⟨fun _ _ hv => rfl, fun _ _ _ _ _ => trivial⟩, fun val h_ W hx he => ⟨trivial, ?_⟩, ?_⟩
                  · replace hx := (Upd.drew _ _).trans hx
                    replace hc := hc.ext hx
                    replace hb := hb.ext hx
                    replace hB1 := hB1.ext hx
                    have hE := Upd.refl (fun _ => False) W
                    refine id (X_fldP (b := b1) (o := 0) (r := 2) Fd26_2 rfl rfl ?_)
                    exact ⟨hE, rfl⟩
                  refine ⟨.det (fun val => bv), ⟨fun _ _ hv => rfl, fun _ _ _ _ _ => trivial⟩, fun val h_ W hx he => ⟨trivial, ?_⟩, ?_⟩
                  · replace hx := (Upd.drew _ _).trans hx
                    replace hc := hc.ext hx
                    replace hb := hb.ext hx
                    replace hB1 := hB1.ext hx
                    have hE := Upd.refl (fun _ => False) W
                    refine id (X_load (p := (ptr b1 (2))) (v := bv) T24 rfl (hB1.at1 rfl) ?_)
                    exact ⟨hE, rfl⟩
                  refine ⟨.det (fun val => (.int .i64 (((i : Nat) : Int)))), ⟨fun _ _ hv => rfl, fun _ _ _ _ _ => trivial⟩, fun val h_ W hx he => ⟨trivial, ?_⟩, ?_⟩
                  · replace hx := (Upd.drew _ _).trans hx
                    replace hc := hc.ext hx
                    replace hb := hb.ext hx
                    replace hB1 := hB1.ext hx
                    have hE := Upd.refl (fun _ => False) W
                    refine id (X_move (v := (.int .i64 (((i : Nat) : Int)))) rfl ?_)
                    exact ⟨hE, rfl⟩
                  refine ⟨.det (fun val => (pof bv ((((i : Nat) : Int) : Int).toNat * 1))), ⟨fun _ _ hv => rfl, fun _ _ _ _ _ => trivial⟩, fun val h_ W hx he => ⟨trivial, ?_⟩, ?_⟩
                  · replace hx := (Upd.drew _ _).trans hx
                    replace hc := hc.ext hx
                    replace hb := hb.ext hx
                    replace hB1 := hB1.ext hx
                    have hE := Upd.refl (fun _ => False) W
                    refine id (X_idx (v := bv) (n := bs.length) (k := .i64) (i := ((i : Nat) : Int)) S24 rfl hb.sv rfl (by omega) (by omega) ?_)
                    exact ⟨hE, rfl⟩
                  refine ⟨.det (fun val => (.int .i64 (a))), ⟨fun _ _ hv => rfl, fun _ _ _ _ _ => trivial⟩, fun val h_ W hx he => ⟨trivial, ?_⟩, ?_⟩
                  · replace hx := (Upd.drew _ _).trans hx
                    replace hc := hc.ext hx
                    replace hb := hb.ext hx
                    replace hB1 := hB1.ext hx
                    have hE := Upd.refl (fun _ => False) W
                    refine id (X_load (v := .int .i64 a) T3 rfl (iat hb (Int.toNat_natCast _) hai) ?_)
                    exact ⟨hE, rfl⟩
                  refine ⟨.det (fun val => (.bool (true))), ⟨fun _ _ hv => rfl, fun _ _ _ _ _ => trivial⟩, fun val h_ W hx he => ⟨trivial, ?_⟩, ?_⟩
                  · replace hx := (Upd.drew _ _).trans hx
                    replace hc := hc.ext hx
                    replace hb := hb.ext hx
                    replace hB1 := hB1.ext hx
                    have hE := Upd.refl (fun _ => False) W
                    refine id (X_cmp (k := .i64) (a := a) (b := 0) (r := true) rfl rfl rfl (decide_eq_true (p := ((a) : Int) < ((0) : Int)) (by have h_ := of_decide_eq_true hs13; omega)) ?_)
                    exact ⟨hE, rfl⟩
                  refine ⟨.det (fun val => (.bool (true))), ⟨fun _ _ hv => rfl, fun _ _ _ _ _ => trivial⟩, fun val h_ W hx he => ⟨trivial, ?_⟩, ?_⟩
                  · replace hx := (Upd.drew _ _).trans hx
                    replace hc := hc.ext hx
                    replace hb := hb.ext hx
                    replace hB1 := hB1.ext hx
                    have hE := Upd.refl (fun _ => False) W
                    refine id (X_move (v := (.bool (true))) rfl ?_)
                    exact ⟨hE, rfl⟩
                  refine ⟨.no, ⟨fun _ _ _ => trivial, fun _ _ _ _ _ => trivial⟩, fun val h_ W hx he => ⟨68, rfl, .inl rfl⟩, ?_⟩
                  refine ⟨.no, ⟨fun _ _ _ => trivial, fun _ _ _ _ _ => trivial⟩, fun val h_ W hx he => ⟨68, rfl, .inl rfl⟩, ?_⟩
                  refine ⟨.no, ⟨fun _ _ _ => trivial, fun _ _ _ _ _ => trivial⟩, fun val h_ W hx he => ⟨68, rfl, .inl rfl⟩, ?_⟩
                  refine ⟨.no, ⟨fun _ _ _ => trivial, fun _ _ _ _ _ => trivial⟩, fun val h_ W hx he => ⟨68, rfl, .inl rfl⟩, ?_⟩
                  refine ⟨.no, ⟨fun _ _ _ => trivial, fun _ _ _ _ _ => trivial⟩, fun val h_ W hx he => ⟨68, rfl, .inl rfl⟩, ?_⟩
                  refine ⟨.no, ⟨fun _ _ _ => trivial, fun _ _ _ _ _ => trivial⟩, fun val h_ W hx he => ⟨68, rfl, .inl rfl⟩, ?_⟩
                  refine ⟨.no, ⟨fun _ _ _ => trivial, fun _ _ _ _ _ => trivial⟩, fun val h_ W hx he => ⟨68, rfl, .inl rfl⟩, ?_⟩
                  refine ⟨.det (fun val => (.bool (true))), ⟨fun _ _ hv => rfl, fun _ _ _ _ _ => trivial⟩, fun val h_ W hx he => ⟨trivial, ?_⟩, ?_⟩
                  · replace hx := (Upd.drew _ _).trans hx
                    replace hc := hc.ext hx
                    replace hb := hb.ext hx
                    replace hB1 := hB1.ext hx
                    have hE := Upd.refl (fun _ => False) W
                    refine id (X_pick (t := true) (v := (.bool (true))) rfl rfl ?_)
                    exact ⟨hE, rfl⟩
                  refine ⟨.det (fun val => (.bool (true))), ⟨fun _ _ hv => rfl, fun _ _ _ _ _ => trivial⟩, fun val h_ W hx he => ⟨trivial, ?_⟩, ?_⟩
                  · replace hx := (Upd.drew _ _).trans hx
                    replace hc := hc.ext hx
                    replace hb := hb.ext hx
                    replace hB1 := hB1.ext hx
                    have hE := Upd.refl (fun _ => False) W
                    refine id (X_move (v := (.bool (true))) rfl ?_)
                    exact ⟨hE, rfl⟩
                  refine ⟨.no, ⟨fun _ _ _ => trivial, fun _ _ _ _ _ => trivial⟩, fun val h_ W hx he => ⟨77, rfl, .inl rfl⟩, ?_⟩
                  refine ⟨.no, ⟨fun _ _ _ => trivial, fun _ _ _ _ _ => trivial⟩, fun val h_ W hx he => ⟨77, rfl, .inl rfl⟩, ?_⟩
                  refine ⟨.no, ⟨fun _ _ _ => trivial, fun _ _ _ _ _ => trivial⟩, fun val h_ W hx he => ⟨77, rfl, .inl rfl⟩, ?_⟩
                  refine ⟨.no, ⟨fun _ _ _ => trivial, fun _ _ _ _ _ => trivial⟩, fun val h_ W hx he => ⟨80, rfl, .inr rfl⟩, ?_⟩
                  refine ⟨.no, ⟨fun _ _ _ => trivial, fun _ _ _ _ _ => trivial⟩, fun val h_ W hx he => ⟨80, rfl, .inr rfl⟩, ?_⟩
                  refine ⟨.no, ⟨fun _ _ _ => trivial, fun _ _ _ _ _ => trivial⟩, fun val h_ W hx he => ⟨80, rfl, .inr rfl⟩, ?_⟩
                  refine ⟨.no, ⟨fun _ _ _ => trivial, fun _ _ _ _ _ => trivial⟩, fun val h_ W hx he => ⟨80, rfl, .inr rfl⟩, ?_⟩
                  refine ⟨.no, ⟨fun _ _ _ => trivial, fun _ _ _ _ _ => trivial⟩, fun val h_ W hx he => ⟨80, rfl, .inr rfl⟩, ?_⟩
                  refine ⟨.no, ⟨fun _ _ _ => trivial, fun _ _ _ _ _ => trivial⟩, fun val h_ W hx he => ⟨80, rfl, .inr rfl⟩, ?_⟩
                  refine ⟨.no, ⟨fun _ _ _ => trivial, fun _ _ _ _ _ => trivial⟩, fun val h_ W hx he => ⟨80, rfl, .inr rfl⟩, ?_⟩
                  refine ⟨.no, ⟨fun _ _ _ => trivial, fun _ _ _ _ _ => trivial⟩, fun val h_ W hx he => ⟨80, rfl, .inr rfl⟩, ?_⟩
                  refine ⟨.no, ⟨fun _ _ _ => trivial, fun _ _ _ _ _ => trivial⟩, fun val h_ W hx he => ⟨80, rfl, .inr rfl⟩, ?_⟩
                  refine ⟨.no, ⟨fun _ _ _ => trivial, fun _ _ _ _ _ => trivial⟩, fun val h_ W hx he => ⟨80, rfl, .inr rfl⟩, ?_⟩
                  refine ⟨.no, ⟨fun _ _ _ => trivial, fun _ _ _ _ _ => trivial⟩, fun val h_ W hx he => ⟨80, rfl, .inr rfl⟩, ?_⟩
                  intro val W14 hx14 he14
                  replace hx14 := (Upd.drew _ _).trans hx14
                  have hz14 := hx14.size
                  replace hc := hc.ext hx14
                  replace hb := hb.ext hx14
                  replace hU := hU.trans (Ext.upd hx14)
                  replace hB1 := hB1.ext hx14
                  refine L_gu (dj := 80) rfl rfl rfl ?_
                  refine L_gn (dj := 77) (t := true) rfl rfl rfl rfl ?_
                  refine L_op rfl (X_pick (t := true) (v := (.bool (true))) rfl rfl ?_)
                  refine L_nil ?_
                  refine T_n ?_
                  refine W_ct rfl ?_
                  refine W_seq ?_
                  refine W_reg ?_
                  refine L_op rfl (X_assign (v := (.bool (false))) rfl ?_)
                  refine L_nil ?_
                  refine T_n ?_
                  refine W_ret ?_
                  refine B_r ?_
                  refine T_r ?_
                  refine T_r ?_
                  refine B_r ?_
                  refine T_r ?_
                  exact BQ_r (End_1 Try.results14 (v := .bool false) rfl ⟨⟨false, rfl, ⟨fun h => (by cases h), fun h => (by have h1 := hst.1 (inB_mono h.2.2 hi); have h2 := (inB_mono h.2.2 hi) i a (Nat.lt_succ_self _) hai; have h3_ := of_decide_eq_true hs13; omega)⟩⟩, hU.own hn0⟩)
                · rcases Bool.eq_false_or_eq_true (decide (((ps.length : Nat) : Int) ≤ a)) with hs15 | hs15
                  · refine W_draw 30 [[], [0], [], [0, 1, 2], [0, 1, 2, 3], [0, 1, 2, 3, 4], [0, 1, 2, 3, 4, 5], [0, 1, 2, 3, 4, 5, 6], [0, 1, 2, 3, 4, 5, 6, 7], [0, 1, 2, 3, 4, 5, 6], [0, 1, 2, 3, 4, 5, 6, 7, 8, 9], [0, 1, 2, 3, 4, 5, 6, 7, 8, 9, 10], [0, 1, 2, 3, 4, 5, 6], [0, 1, 2, 3, 4, 5, 6, 7, 8, 9, 10, 11, 12], [0, 1, 2, 3, 4, 5, 6, 7, 8, 9, 10, 11, 12, 13], [0, 1, 2, 3, 4, 5, 6, 7, 8, 9, 10, 11, 12, 13, 14], [0, 1, 2, 3, 4, 5, 6, 7, 8, 9, 10, 11, 12, 13, 14, 15], [0, 1, 2, 3, 4, 5, 6, 7, 8, 9, 10, 11, 12, 13, 14, 15, 16], [0, 1, 2, 3, 4, 5, 6, 7, 8, 9, 10, 11, 12, 13, 14, 15, 16, 17], [0, 1, 2, 3, 4, 5, 6, 7, 8, 9, 10, 11, 12, 13, 14, 15, 16, 17, 18], [0, 1, 2, 3, 4, 5, 6, 7, 8, 9, 10, 11, 12, 13, 14, 15, 16, 17, 18, 19], [0, 1, 2, 3, 4, 5, 6, 7, 8, 9, 10, 11, 12, 13, 14, 15, 16, 17, 18], [0, 1, 2, 3, 4, 5, 6, 7, 8, 9, 10, 11, 12, 13, 14, 15, 16, 17, 18, 21], [0, 1, 2, 3, 4, 5, 6, 7, 8, 9, 10, 11, 12, 13, 14, 15, 16, 17, 18, 19, 20, 21, 22], [0, 1, 2, 3, 4, 5, 6, 7, 8, 9, 10, 11, 12, 13, 14, 15, 16, 17, 18, 19, 20, 21, 22, 23], [0, 1, 2, 3, 4, 5, 6, 7, 8, 9, 10, 11, 12, 13, 14, 15, 16, 17, 18], [0, 1, 2, 3, 4, 5, 6, 7, 8, 9, 10, 11, 12, 13, 14, 15, 16, 17, 18, 25], [0, 1, 2, 3, 4, 5, 6, 7, 8, 9, 10, 11, 12, 13, 14, 15, 16, 17, 18], [0, 1, 2, 3, 4, 5, 6, 7, 8, 9, 10, 11, 12, 13, 14, 15, 16, 17, 18, 25, 26, 27], [0, 1, 2, 3, 4, 5, 6, 7, 8, 9, 10, 11, 12, 13, 14, 15, 16, 17, 18, 25, 26, 27, 28], [0, 1, 2, 3, 4, 5, 6, 7, 8, 9, 10, 11, 12, 13, 14, 15, 16, 17, 18, 19, 20, 21, 22, 23, 24, 25, 26, 27, 28, 29], [0, 1, 2, 3, 4, 5, 6, 7, 8, 9, 10, 11, 12, 13, 14, 15, 16, 17, 18, 19, 20, 21, 22, 23, 24, 25, 26, 27, 28, 29, 30], [0, 1, 2, 3, 4, 5, 6, 7, 8, 9, 10, 11, 12, 13, 14, 15, 16, 17, 18, 19, 20, 21, 22, 23, 24, 25, 26, 27, 28, 29, 30, 31]] mixed (by kernel_rfl) ?_
                    refine ⟨.det (fun val => (ptr b1 (2))), ⟨fun _ _ hv => rfl, fun _ _ _ _ _ => trivial⟩, fun val h_ W hx he => ⟨trivial, ?_⟩, ?_⟩
                    · replace hx := (Upd.drew _ _).trans hx
                      replace hc := hc.ext hx
                      replace hb := hb.ext hx
                      replace hB1 := hB1.ext hx
                      have hE := Upd.refl (fun _ => False) W
                      refine id (X_fldP (b := b1) (o := 0) (r := 2) Fd26_2 rfl rfl ?_)
                      exact ⟨hE, rfl⟩
                    refine ⟨.det (fun val => bv), ⟨fun _ _ hv => rfl, fun _ _ _ _ _ => trivial⟩, fun val h_ W hx he => ⟨trivial, ?_⟩, ?_⟩
                    · replace hx := (Upd.drew _ _).trans hx
                      replace hc := hc.ext hx
                      replace hb := hb.ext hx
                      replace hB1 := hB1.ext hx
                      have hE := Upd.refl (fun _ => False) W
                      refine id (X_load (p := (ptr b1 (2))) (v := bv) T24 rfl (hB1.at1 rfl) ?_)
                      exact ⟨hE, rfl⟩
                    refine ⟨.det (fun val => (.int .i64 (((i : Nat) : Int)))), ⟨fun _ _ hv => rfl, fun _ _ _ _ _ => trivial⟩, fun val h_ W hx he => ⟨trivial, ?_⟩, ?_⟩
                    · replace hx := (Upd.drew _ _).trans hx
                      replace hc := hc.ext hx
                      replace hb := hb.ext hx
                      replace hB1 := hB1.ext hx
                      have hE := Upd.refl (fun _ => False) W
                      refine id (X_move (v := (.int .i64 (((i : Nat) : Int)))) rfl ?_)
                      exact ⟨hE, rfl⟩
                    refine ⟨.det (fun val => (pof bv ((((i : Nat) : Int) : Int).toNat * 1))), ⟨fun _ _ hv => rfl, fun _ _ _ _ _ => trivial⟩, fun val h_ W hx he => ⟨trivial, ?_⟩, ?_⟩
                    · replace hx := (Upd.drew _ _).trans hx
                      replace hc := hc.ext hx
                      replace hb := hb.ext hx
                      replace hB1 := hB1.ext hx
                      have hE := Upd.refl (fun _ => False) W
                      refine id (X_idx (v := bv) (n := bs.length) (k := .i64) (i := ((i : Nat) : Int)) S24 rfl hb.sv rfl (by omega) (by omega) ?_)
                      exact ⟨hE, rfl⟩
                    refine ⟨.det (fun val => (.int .i64 (a))), ⟨fun _ _ hv => rfl, fun _ _ _ _ _ => trivial⟩, fun val h_ W hx he => ⟨trivial, ?_⟩, ?_⟩
                    · replace hx := (Upd.drew _ _).trans hx
                      replace hc := hc.ext hx
                      replace hb := hb.ext hx
                      replace hB1 := hB1.ext hx
                      have hE := Upd.refl (fun _ => False) W
                      refine id (X_load (v := .int .i64 a) T3 rfl (iat hb (Int.toNat_natCast _) hai) ?_)
                      exact ⟨hE, rfl⟩
                    refine ⟨.det (fun val => (.bool (false))), ⟨fun _ _ hv => rfl, fun _ _ _ _ _ => trivial⟩, fun val h_ W hx he => ⟨trivial, ?_⟩, ?_⟩
                    · replace hx := (Upd.drew _ _).trans hx
                      replace hc := hc.ext hx
                      replace hb := hb.ext hx
                      replace hB1 := hB1.ext hx
                      have hE := Upd.refl (fun _ => False) W
                      refine id (X_cmp (k := .i64) (a := a) (b := 0) (r := false) rfl rfl rfl (decide_eq_false (p := ((a) : Int) < ((0) : Int)) (by have h_ := of_decide_eq_false hs13; omega)) ?_)
                      exact ⟨hE, rfl⟩
                    refine ⟨.det (fun val => (.bool (false))), ⟨fun _ _ hv => rfl, fun _ _ _ _ _ => trivial⟩, fun val h_ W hx he => ⟨trivial, ?_⟩, ?_⟩
                    · replace hx := (Upd.drew _ _).trans hx
                      replace hc := hc.ext hx
                      replace hb := hb.ext hx
                      replace hB1 := hB1.ext hx
                      have hE := Upd.refl (fun _ => False) W
                      refine id (X_move (v := (.bool (false))) rfl ?_)
                      exact ⟨hE, rfl⟩
                    refine ⟨.det (fun val => (ptr b1 (2))), ⟨fun _ _ hv => rfl, fun _ _ _ _ _ => trivial⟩, fun val h_ W hx he => ⟨⟨68, rfl, rfl⟩, ?_⟩, ?_⟩
                    · replace hx := (Upd.drew _ _).trans hx
                      replace hc := hc.ext hx
                      replace hb := hb.ext hx
                      replace hB1 := hB1.ext hx
                      have hE := Upd.refl (fun _ => False) W
                      refine id (X_fldP (b := b1) (o := 0) (r := 2) Fd26_2 rfl rfl ?_)
                      exact ⟨hE, rfl⟩
                    refine ⟨.det (fun val => bv), ⟨fun _ _ hv => rfl, fun _ _ _ _ _ => trivial⟩, fun val h_ W hx he => ⟨⟨68, rfl, rfl⟩, ?_⟩, ?_⟩
                    · replace hx := (Upd.drew _ _).trans hx
                      replace hc := hc.ext hx
                      replace hb := hb.ext hx
                      replace hB1 := hB1.ext hx
                      have hE := Upd.refl (fun _ => False) W
                      refine id (X_load (p := (ptr b1 (2))) (v := bv) T24 rfl (hB1.at1 rfl) ?_)
                      exact ⟨hE, rfl⟩
                    refine ⟨.det (fun val => (.int .i64 (((i : Nat) : Int)))), ⟨fun _ _ hv => rfl, fun _ _ _ _ _ => trivial⟩, fun val h_ W hx he => ⟨⟨68, rfl, rfl⟩, ?_⟩, ?_⟩
                    · replace hx := (Upd.drew _ _).trans hx
                      replace hc := hc.ext hx
                      replace hb := hb.ext hx
                      replace hB1 := hB1.ext hx
                      have hE := Upd.refl (fun _ => False) W
                      refine id (X_move (v := (.int .i64 (((i : Nat) : Int)))) rfl ?_)
                      exact ⟨hE, rfl⟩
                    refine ⟨.det (fun val => (pof bv ((((i : Nat) : Int) : Int).toNat * 1))), ⟨fun _ _ hv => rfl, fun _ _ _ _ _ => trivial⟩, fun val h_ W hx he => ⟨⟨68, rfl, rfl⟩, ?_⟩, ?_⟩
                    · replace hx := (Upd.drew _ _).trans hx
                      replace hc := hc.ext hx
                      replace hb := hb.ext hx
                      replace hB1 := hB1.ext hx
                      have hE := Upd.refl (fun _ => False) W
                      refine id (X_idx (v := bv) (n := bs.length) (k := .i64) (i := ((i : Nat) : Int)) S24 rfl hb.sv rfl (by omega) (by omega) ?_)
                      exact ⟨hE, rfl⟩
                    refine ⟨.det (fun val => (.int .i64 (a))), ⟨fun _ _ hv => rfl, fun _ _ _ _ _ => trivial⟩, fun val h_ W hx he => ⟨⟨68, rfl, rfl⟩, ?_⟩, ?_⟩
                    · replace hx := (Upd.drew _ _).trans hx
                      replace hc := hc.ext hx
                      replace hb := hb.ext hx
                      replace hB1 := hB1.ext hx
                      have hE := Upd.refl (fun _ => False) W
                      refine id (X_load (v := .int .i64 a) T3 rfl (iat hb (Int.toNat_natCast _) hai) ?_)
                      exact ⟨hE, rfl⟩
                    refine ⟨.det (fun val => (.int .i64 (((ps.length : Nat) : Int)))), ⟨fun _ _ hv => rfl, fun _ _ _ _ _ => trivial⟩, fun val h_ W hx he => ⟨⟨68, rfl, rfl⟩, ?_⟩, ?_⟩
                    · replace hx := (Upd.drew _ _).trans hx
                      replace hc := hc.ext hx
                      replace hb := hb.ext hx
                      replace hB1 := hB1.ext hx
                      have hE := Upd.refl (fun _ => False) W
                      refine id (X_move (v := (.int .i64 (((ps.length : Nat) : Int)))) rfl ?_)
                      exact ⟨hE, rfl⟩
                    refine ⟨.det (fun val => (.bool (true))), ⟨fun _ _ hv => rfl, fun _ _ _ _ _ => trivial⟩, fun val h_ W hx he => ⟨⟨68, rfl, rfl⟩, ?_⟩, ?_⟩
                    · replace hx := (Upd.drew _ _).trans hx
                      replace hc := hc.ext hx
                      replace hb := hb.ext hx
                      replace hB1 := hB1.ext hx
                      have hE := Upd.refl (fun _ => False) W
                      refine id (X_cmp (k := .i64) (a := a) (b := ((ps.length : Nat) : Int)) (r := true) rfl rfl rfl (decide_eq_true (p := ((((ps.length : Nat) : Int)) : Int) ≤ ((a) : Int)) (by have h_ := of_decide_eq_true hs15; omega)) ?_)
                      exact ⟨hE, rfl⟩
                    refine ⟨.det (fun val => (.bool (true))), ⟨fun _ _ hv => rfl, fun _ _ _ _ _ => trivial⟩, fun val h_ W hx he => ⟨trivial, ?_⟩, ?_⟩
                    · replace hx := (Upd.drew _ _).trans hx
                      replace hc := hc.ext hx
                      replace hb := hb.ext hx
                      replace hB1 := hB1.ext hx
                      have hE := Upd.refl (fun _ => False) W
                      refine id (X_pick (t := false) (v := (.bool (true))) rfl rfl ?_)
                      exact ⟨hE, rfl⟩
                    refine ⟨.det (fun val => (.bool (true))), ⟨fun _ _ hv => rfl, fun _ _ _ _ _ => trivial⟩, fun val h_ W hx he => ⟨trivial, ?_⟩, ?_⟩
                    · replace hx := (Upd.drew _ _).trans hx
                      replace hc := hc.ext hx
                      replace hb := hb.ext hx
                      replace hB1 := hB1.ext hx
                      have hE := Upd.refl (fun _ => False) W
                      refine id (X_move (v := (.bool (true))) rfl ?_)
                      exact ⟨hE, rfl⟩
                    refine ⟨.no, ⟨fun _ _ _ => trivial, fun _ _ _ _ _ => trivial⟩, fun val h_ W hx he => ⟨77, rfl, .inl rfl⟩, ?_⟩
                    refine ⟨.no, ⟨fun _ _ _ => trivial, fun _ _ _ _ _ => trivial⟩, fun val h_ W hx he => ⟨77, rfl, .inl rfl⟩, ?_⟩
                    refine ⟨.no, ⟨fun _ _ _ => trivial, fun _ _ _ _ _ => trivial⟩, fun val h_ W hx he => ⟨77, rfl, .inl rfl⟩, ?_⟩
                    refine ⟨.no, ⟨fun _ _ _ => trivial, fun _ _ _ _ _ => trivial⟩, fun val h_ W hx he => ⟨80, rfl, .inr rfl⟩, ?_⟩
                    refine ⟨.no, ⟨fun _ _ _ => trivial, fun _ _ _ _ _ => trivial⟩, fun val h_ W hx he => ⟨80, rfl, .inr rfl⟩, ?_⟩
                    refine ⟨.no, ⟨fun _ _ _ => trivial, fun _ _ _ _ _ => trivial⟩, fun val h_ W hx he => ⟨80, rfl, .inr rfl⟩, ?_⟩
                    refine ⟨.no, ⟨fun _ _ _ => trivial, fun _ _ _ _ _ => trivial⟩, fun val h_ W hx he => ⟨80, rfl, .inr rfl⟩, ?_⟩
                    refine ⟨.no, ⟨fun _ _ _ => trivial, fun _ _ _ _ _ => trivial⟩, fun val h_ W hx he => ⟨80, rfl, .inr rfl⟩, ?_⟩
                    refine ⟨.no, ⟨fun _ _ _ => trivial, fun _ _ _ _ _ => trivial⟩, fun val h_ W hx he => ⟨80, rfl, .inr rfl⟩, ?_⟩
                    refine ⟨.no, ⟨fun _ _ _ => trivial, fun _ _ _ _ _ => trivial⟩, fun val h_ W hx he => ⟨80, rfl, .inr rfl⟩, ?_⟩
                    refine ⟨.no, ⟨fun _ _ _ => trivial, fun _ _ _ _ _ => trivial⟩, fun val h_ W hx he => ⟨80, rfl, .inr rfl⟩, ?_⟩
                    refine ⟨.no, ⟨fun _ _ _ => trivial, fun _ _ _ _ _ => trivial⟩, fun val h_ W hx he => ⟨80, rfl, .inr rfl⟩, ?_⟩
                    refine ⟨.no, ⟨fun _ _ _ => trivial, fun _ _ _ _ _ => trivial⟩, fun val h_ W hx he => ⟨80, rfl, .inr rfl⟩, ?_⟩
                    refine ⟨.no, ⟨fun _ _ _ => trivial, fun _ _ _ _ _ => trivial⟩, fun val h_ W hx he => ⟨80, rfl, .inr rfl⟩, ?_⟩
                    intro val W16 hx16 he16
                    replace hx16 := (Upd.drew _ _).trans hx16
                    have hz16 := hx16.size
                    replace hc := hc.ext hx16
                    replace hb := hb.ext hx16
                    replace hU := hU.trans (Ext.upd hx16)
                    replace hB1 := hB1.ext hx16
                    refine L_gu (dj := 80) rfl rfl rfl ?_
                    refine L_gn (dj := 77) (t := true) rfl rfl rfl rfl ?_
                    refine L_op rfl (X_pick (t := true) (v := (.bool (true))) rfl rfl ?_)
                    refine L_nil ?_
                    refine T_n ?_
                    refine W_ct rfl ?_
                    refine W_seq ?_
                    refine W_reg ?_
                    refine L_op rfl (X_assign (v := (.bool (false))) rfl ?_)
                    refine L_nil ?_
                    refine T_n ?_
                    refine W_ret ?_
                    refine B_r ?_
                    refine T_r ?_
                    refine T_r ?_
                    refine B_r ?_
                    refine T_r ?_
                    exact BQ_r (End_1 Try.results14 (v := .bool false) rfl ⟨⟨false, rfl, ⟨fun h => (by cases h), fun h => (by have h1 := hst.1 (inB_mono h.2.2 hi); have h2 := (inB_mono h.2.2 hi) i a (Nat.lt_succ_self _) hai; have h3_ := of_decide_eq_false hs13; have h4_ := of_decide_eq_true hs15; omega)⟩⟩, hU.own hn0⟩)
                  · rcases Bool.eq_false_or_eq_true (decide (0 < i)) with hs17 | hs17
                    · rcases Bool.eq_false_or_eq_true (decide (a ≤ before bs i)) with hs18 | hs18
                      · have hi0 := of_decide_eq_true hs17
                        obtain ⟨a0, ha0⟩ : ∃ a, bs[i - 1]? = some a := ⟨_, List.getElem?_eq_getElem (by omega)⟩
                        have hbe := inB_prev hi0 ha0
                        refine W_draw 30 [[], [0], [], [0, 1, 2], [0, 1, 2, 3], [0, 1, 2, 3, 4], [0, 1, 2, 3, 4, 5], [0, 1, 2, 3, 4, 5, 6], [0, 1, 2, 3, 4, 5, 6, 7], [0, 1, 2, 3, 4, 5, 6], [0, 1, 2, 3, 4, 5, 6, 7, 8, 9], [0, 1, 2, 3, 4, 5, 6, 7, 8, 9, 10], [0, 1, 2, 3, 4, 5, 6], [0, 1, 2, 3, 4, 5, 6, 7, 8, 9, 10, 11, 12], [0, 1, 2, 3, 4, 5, 6, 7, 8, 9, 10, 11, 12, 13], [0, 1, 2, 3, 4, 5, 6, 7, 8, 9, 10, 11, 12, 13, 14], [0, 1, 2, 3, 4, 5, 6, 7, 8, 9, 10, 11, 12, 13, 14, 15], [0, 1, 2, 3, 4, 5, 6, 7, 8, 9, 10, 11, 12, 13, 14, 15, 16], [0, 1, 2, 3, 4, 5, 6, 7, 8, 9, 10, 11, 12, 13, 14, 15, 16, 17], [0, 1, 2, 3, 4, 5, 6, 7, 8, 9, 10, 11, 12, 13, 14, 15, 16, 17, 18], [0, 1, 2, 3, 4, 5, 6, 7, 8, 9, 10, 11, 12, 13, 14, 15, 16, 17, 18, 19], [0, 1, 2, 3, 4, 5, 6, 7, 8, 9, 10, 11, 12, 13, 14, 15, 16, 17, 18], [0, 1, 2, 3, 4, 5, 6, 7, 8, 9, 10, 11, 12, 13, 14, 15, 16, 17, 18, 21], [0, 1, 2, 3, 4, 5, 6, 7, 8, 9, 10, 11, 12, 13, 14, 15, 16, 17, 18, 19, 20, 21, 22], [0, 1, 2, 3, 4, 5, 6, 7, 8, 9, 10, 11, 12, 13, 14, 15, 16, 17, 18, 19, 20, 21, 22, 23], [0, 1, 2, 3, 4, 5, 6, 7, 8, 9, 10, 11, 12, 13, 14, 15, 16, 17, 18], [0, 1, 2, 3, 4, 5, 6, 7, 8, 9, 10, 11, 12, 13, 14, 15, 16, 17, 18, 25], [0, 1, 2, 3, 4, 5, 6, 7, 8, 9, 10, 11, 12, 13, 14, 15, 16, 17, 18], [0, 1, 2, 3, 4, 5, 6, 7, 8, 9, 10, 11, 12, 13, 14, 15, 16, 17, 18, 25, 26, 27], [0, 1, 2, 3, 4, 5, 6, 7, 8, 9, 10, 11, 12, 13, 14, 15, 16, 17, 18, 25, 26, 27, 28], [0, 1, 2, 3, 4, 5, 6, 7, 8, 9, 10, 11, 12, 13, 14, 15, 16, 17, 18, 19, 20, 21, 22, 23, 24, 25, 26, 27, 28, 29], [0, 1, 2, 3, 4, 5, 6, 7, 8, 9, 10, 11, 12, 13, 14, 15, 16, 17, 18, 19, 20, 21, 22, 23, 24, 25, 26, 27, 28, 29, 30], [0, 1, 2, 3, 4, 5, 6, 7, 8, 9, 10, 11, 12, 13, 14, 15, 16, 17, 18, 19, 20, 21, 22, 23, 24, 25, 26, 27, 28, 29, 30, 31]] mixed (by kernel_rfl) ?_
                        refine ⟨.det (fun val => (ptr b1 (2))), ⟨fun _ _ hv => rfl, fun _ _ _ _ _ => trivial⟩, fun val h_ W hx he => ⟨trivial, ?_⟩, ?_⟩
                        · replace hx := (Upd.drew _ _).trans hx
                          replace hc := hc.ext hx
                          replace hb := hb.ext hx
                          replace hB1 := hB1.ext hx
                          have hE := Upd.refl (fun _ => False) W
                          refine id (X_fldP (b := b1) (o := 0) (r := 2) Fd26_2 rfl rfl ?_)
                          exact ⟨hE, rfl⟩
                        refine ⟨.det (fun val => bv), ⟨fun _ _ hv => rfl, fun _ _ _ _ _ => trivial⟩, fun val h_ W hx he => ⟨trivial, ?_⟩, ?_⟩
                        · replace hx := (Upd.drew _ _).trans hx
                          replace hc := hc.ext hx
                          replace hb := hb.ext hx
                          replace hB1 := hB1.ext hx
                          have hE := Upd.refl (fun _ => False) W
                          refine id (X_load (p := (ptr b1 (2))) (v := bv) T24 rfl (hB1.at1 rfl) ?_)
                          exact ⟨hE, rfl⟩
                        refine ⟨.det (fun val => (.int .i64 (((i : Nat) : Int)))), ⟨fun _ _ hv => rfl, fun _ _ _ _ _ => trivial⟩, fun val h_ W hx he => ⟨trivial, ?_⟩, ?_⟩
                        · replace hx := (Upd.drew _ _).trans hx
                          replace hc := hc.ext hx
                          replace hb := hb.ext hx
                          replace hB1 := hB1.ext hx
                          have hE := Upd.refl (fun _ => False) W
                          refine id (X_move (v := (.int .i64 (((i : Nat) : Int)))) rfl ?_)
                          exact ⟨hE, rfl⟩
                        refine ⟨.det (fun val => (pof bv ((((i : Nat) : Int) : Int).toNat * 1))), ⟨fun _ _ hv => rfl, fun _ _ _ _ _ => trivial⟩, fun val h_ W hx he => ⟨trivial, ?_⟩, ?_⟩
                        · replace hx := (Upd.drew _ _).trans hx
                          replace hc := hc.ext hx
                          replace hb := hb.ext hx
                          replace hB1 := hB1.ext hx
                          have hE := Upd.refl (fun _ => False) W
                          refine id (X_idx (v := bv) (n := bs.length) (k := .i64) (i := ((i : Nat) : Int)) S24 rfl hb.sv rfl (by omega) (by omega) ?_)
                          exact ⟨hE, rfl⟩
                        refine ⟨.det (fun val => (.int .i64 (a))), ⟨fun _ _ hv => rfl, fun _ _ _ _ _ => trivial⟩, fun val h_ W hx he => ⟨trivial, ?_⟩, ?_⟩
                        · replace hx := (Upd.drew _ _).trans hx
                          replace hc := hc.ext hx
                          replace hb := hb.ext hx
                          replace hB1 := hB1.ext hx
                          have hE := Upd.refl (fun _ => False) W
                          refine id (X_load (v := .int .i64 a) T3 rfl (iat hb (Int.toNat_natCast _) hai) ?_)
                          exact ⟨hE, rfl⟩
                        refine ⟨.det (fun val => (.bool (false))), ⟨fun _ _ hv => rfl, fun _ _ _ _ _ => trivial⟩, fun val h_ W hx he => ⟨trivial, ?_⟩, ?_⟩
                        · replace hx := (Upd.drew _ _).trans hx
                          replace hc := hc.ext hx
                          replace hb := hb.ext hx
                          replace hB1 := hB1.ext hx
                          have hE := Upd.refl (fun _ => False) W
                          refine id (X_cmp (k := .i64) (a := a) (b := 0) (r := false) rfl rfl rfl (decide_eq_false (p := ((a) : Int) < ((0) : Int)) (by have h_ := of_decide_eq_false hs13; omega)) ?_)
                          exact ⟨hE, rfl⟩
                        refine ⟨.det (fun val => (.bool (false))), ⟨fun _ _ hv => rfl, fun _ _ _ _ _ => trivial⟩, fun val h_ W hx he => ⟨trivial, ?_⟩, ?_⟩
                        · replace hx := (Upd.drew _ _).trans hx
                          replace hc := hc.ext hx
                          replace hb := hb.ext hx
                          replace hB1 := hB1.ext hx
                          have hE := Upd.refl (fun _ => False) W
                          refine id (X_move (v := (.bool (false))) rfl ?_)
                          exact ⟨hE, rfl⟩
                        refine ⟨.det (fun val => (ptr b1 (2))), ⟨fun _ _ hv => rfl, fun _ _ _ _ _ => trivial⟩, fun val h_ W hx he => ⟨⟨68, rfl, rfl⟩, ?_⟩, ?_⟩
                        · replace hx := (Upd.drew _ _).trans hx
                          replace hc := hc.ext hx
                          replace hb := hb.ext hx
                          replace hB1 := hB1.ext hx
                          have hE := Upd.refl (fun _ => False) W
                          refine id (X_fldP (b := b1) (o := 0) (r := 2) Fd26_2 rfl rfl ?_)
                          exact ⟨hE, rfl⟩
                        refine ⟨.det (fun val => bv), ⟨fun _ _ hv => rfl, fun _ _ _ _ _ => trivial⟩, fun val h_ W hx he => ⟨⟨68, rfl, rfl⟩, ?_⟩, ?_⟩
                        · replace hx := (Upd.drew _ _).trans hx
                          replace hc := hc.ext hx
                          replace hb := hb.ext hx
                          replace hB1 := hB1.ext hx
                          have hE := Upd.refl (fun _ => False) W
                          refine id (X_load (p := (ptr b1 (2))) (v := bv) T24 rfl (hB1.at1 rfl) ?_)
                          exact ⟨hE, rfl⟩
                        refine ⟨.det (fun val => (.int .i64 (((i : Nat) : Int)))), ⟨fun _ _ hv => rfl, fun _ _ _ _ _ => trivial⟩, fun val h_ W hx he => ⟨⟨68, rfl, rfl⟩, ?_⟩, ?_⟩
                        · replace hx := (Upd.drew _ _).trans hx
                          replace hc := hc.ext hx
                          replace hb := hb.ext hx
                          replace hB1 := hB1.ext hx
                          have hE := Upd.refl (fun _ => False) W
                          refine id (X_move (v := (.int .i64 (((i : Nat) : Int)))) rfl ?_)
                          exact ⟨hE, rfl⟩
                        refine ⟨.det (fun val => (pof bv ((((i : Nat) : Int) : Int).toNat * 1))), ⟨fun _ _ hv => rfl, fun _ _ _ _ _ => trivial⟩, fun val h_ W hx he => ⟨⟨68, rfl, rfl⟩, ?_⟩, ?_⟩
                        · replace hx := (Upd.drew _ _).trans hx
                          replace hc := hc.ext hx
                          replace hb := hb.ext hx
                          replace hB1 := hB1.ext hx
                          have hE := Upd.refl (fun _ => False) W
                          refine id (X_idx (v := bv) (n := bs.length) (k := .i64) (i := ((i : Nat) : Int)) S24 rfl hb.sv rfl (by omega) (by omega) ?_)
                          exact ⟨hE, rfl⟩
                        refine ⟨.det (fun val => (.int .i64 (a))), ⟨fun _ _ hv => rfl, fun _ _ _ _ _ => trivial⟩, fun val h_ W hx he => ⟨⟨68, rfl, rfl⟩, ?_⟩, ?_⟩
                        · replace hx := (Upd.drew _ _).trans hx
                          replace hc := hc.ext hx
                          replace hb := hb.ext hx
                          replace hB1 := hB1.ext hx
                          have hE := Upd.refl (fun _ => False) W
                          refine id (X_load (v := .int .i64 a) T3 rfl (iat hb (Int.toNat_natCast _) hai) ?_)
                          exact ⟨hE, rfl⟩
                        refine ⟨.det (fun val => (.int .i64 (((ps.length : Nat) : Int)))), ⟨fun _ _ hv => rfl, fun _ _ _ _ _ => trivial⟩, fun val h_ W hx he => ⟨⟨68, rfl, rfl⟩, ?_⟩, ?_⟩
                        · replace hx := (Upd.drew _ _).trans hx
                          replace hc := hc.ext hx
                          replace hb := hb.ext hx
                          replace hB1 := hB1.ext hx
                          have hE := Upd.refl (fun _ => False) W
                          refine id (X_move (v := (.int .i64 (((ps.length : Nat) : Int)))) rfl ?_)
                          exact ⟨hE, rfl⟩
                        refine ⟨.det (fun val => (.bool (false))), ⟨fun _ _ hv => rfl, fun _ _ _ _ _ => trivial⟩, fun val h_ W hx he => ⟨⟨68, rfl, rfl⟩, ?_⟩, ?_⟩
                        · replace hx := (Upd.drew _ _).trans hx
                          replace hc := hc.ext hx
                          replace hb := hb.ext hx
                          replace hB1 := hB1.ext hx
                          have hE := Upd.refl (fun _ => False) W
                          refine id (X_cmp (k := .i64) (a := a) (b := ((ps.length : Nat) : Int)) (r := false) rfl rfl rfl (decide_eq_false (p := ((((ps.length : Nat) : Int)) : Int) ≤ ((a) : Int)) (by have h_ := of_decide_eq_false hs15; omega)) ?_)
                          exact ⟨hE, rfl⟩
                        refine ⟨.det (fun val => (.bool (false))), ⟨fun _ _ hv => rfl, fun _ _ _ _ _ => trivial⟩, fun val h_ W hx he => ⟨trivial, ?_⟩, ?_⟩
                        · replace hx := (Upd.drew _ _).trans hx
                          replace hc := hc.ext hx
                          replace hb := hb.ext hx
                          replace hB1 := hB1.ext hx
                          have hE := Upd.refl (fun _ => False) W
                          refine id (X_pick (t := false) (v := (.bool (false))) rfl rfl ?_)
                          exact ⟨hE, rfl⟩
                        refine ⟨.det (fun val => (.bool (false))), ⟨fun _ _ hv => rfl, fun _ _ _ _ _ => trivial⟩, fun val h_ W hx he => ⟨trivial, ?_⟩, ?_⟩
                        · replace hx := (Upd.drew _ _).trans hx
                          replace hc := hc.ext hx
                          replace hb := hb.ext hx
                          replace hB1 := hB1.ext hx
                          have hE := Upd.refl (fun _ => False) W
                          refine id (X_move (v := (.bool (false))) rfl ?_)
                          exact ⟨hE, rfl⟩
                        refine ⟨.det (fun val => (.int .i64 (((i : Nat) : Int)))), ⟨fun _ _ hv => rfl, fun _ _ _ _ _ => trivial⟩, fun val h_ W hx he => ⟨⟨77, rfl, rfl⟩, ?_⟩, ?_⟩
                        · replace hx := (Upd.drew _ _).trans hx
                          replace hc := hc.ext hx
                          replace hb := hb.ext hx
                          replace hB1 := hB1.ext hx
                          have hE := Upd.refl (fun _ => False) W
                          refine id (X_move (v := (.int .i64 (((i : Nat) : Int)))) rfl ?_)
                          exact ⟨hE, rfl⟩
                        refine ⟨.det (fun val => (.bool (true))), ⟨fun _ _ hv => rfl, fun _ _ _ _ _ => trivial⟩, fun val h_ W hx he => ⟨⟨77, rfl, rfl⟩, ?_⟩, ?_⟩
                        · replace hx := (Upd.drew _ _).trans hx
                          replace hc := hc.ext hx
                          replace hb := hb.ext hx
                          replace hB1 := hB1.ext hx
                          have hE := Upd.refl (fun _ => False) W
                          refine id (X_cmp (k := .i64) (a := ((i : Nat) : Int)) (b := 0) (r := true) rfl rfl rfl (decide_eq_true (p := ((0) : Int) < ((((i : Nat) : Int)) : Int)) (by have h_ := of_decide_eq_true hs17; omega)) ?_)
                          exact ⟨hE, rfl⟩
                        refine ⟨.det (fun val => (.bool (true))), ⟨fun _ _ hv => rfl, fun _ _ _ _ _ => trivial⟩, fun val h_ W hx he => ⟨⟨77, rfl, rfl⟩, ?_⟩, ?_⟩
                        · replace hx := (Upd.drew _ _).trans hx
                          replace hc := hc.ext hx
                          replace hb := hb.ext hx
                          replace hB1 := hB1.ext hx
                          have hE := Upd.refl (fun _ => False) W
                          refine id (X_move (v := (.bool (true))) rfl ?_)
                          exact ⟨hE, rfl⟩
                        refine ⟨.det (fun val => (ptr b1 (2))), ⟨fun _ _ hv => rfl, fun _ _ _ _ _ => trivial⟩, fun val h_ W hx he => ⟨⟨80, rfl, rfl⟩, ?_⟩, ?_⟩
                        · replace hx := (Upd.drew _ _).trans hx
                          replace hc := hc.ext hx
                          replace hb := hb.ext hx
                          replace hB1 := hB1.ext hx
                          have hE := Upd.refl (fun _ => False) W
                          refine id (X_fldP (b := b1) (o := 0) (r := 2) Fd26_2 rfl rfl ?_)
                          exact ⟨hE, rfl⟩
                        refine ⟨.det (fun val => bv), ⟨fun _ _ hv => rfl, fun _ _ _ _ _ => trivial⟩, fun val h_ W hx he => ⟨⟨80, rfl, rfl⟩, ?_⟩, ?_⟩
                        · replace hx := (Upd.drew _ _).trans hx
                          replace hc := hc.ext hx
                          replace hb := hb.ext hx
                          replace hB1 := hB1.ext hx
                          have hE := Upd.refl (fun _ => False) W
                          refine id (X_load (p := (ptr b1 (2))) (v := bv) T24 rfl (hB1.at1 rfl) ?_)
                          exact ⟨hE, rfl⟩
                        refine ⟨.det (fun val => (.int .i64 (((i : Nat) : Int)))), ⟨fun _ _ hv => rfl, fun _ _ _ _ _ => trivial⟩, fun val h_ W hx he => ⟨⟨80, rfl, rfl⟩, ?_⟩, ?_⟩
                        · replace hx := (Upd.drew _ _).trans hx
                          replace hc := hc.ext hx
                          replace hb := hb.ext hx
                          replace hB1 := hB1.ext hx
                          have hE := Upd.refl (fun _ => False) W
                          refine id (X_move (v := (.int .i64 (((i : Nat) : Int)))) rfl ?_)
                          exact ⟨hE, rfl⟩
                        refine ⟨.det (fun val => (.int .i64 (((i - 1 : Nat) : Int)))), ⟨fun _ _ hv => rfl, fun _ _ _ _ _ => trivial⟩, fun val h_ W hx he => ⟨⟨80, rfl, rfl⟩, ?_⟩, ?_⟩
                        · replace hx := (Upd.drew _ _).trans hx
                          replace hc := hc.ext hx
                          replace hb := hb.ext hx
                          replace hB1 := hB1.ext hx
                          have hE := Upd.refl (fun _ => False) W
                          refine id (X_arith (k := .i64) (a := ((i : Nat) : Int)) (b := 1) (r := ((i - 1 : Nat) : Int)) rfl rfl rfl (isub64 (by omega) (by omega) (by omega)) ?_)
                          exact ⟨hE, rfl⟩
                        refine ⟨.det (fun val => (pof bv ((((i - 1 : Nat) : Int) : Int).toNat * 1))), ⟨fun _ _ hv => rfl, fun _ _ _ _ _ => trivial⟩, fun val h_ W hx he => ⟨⟨80, rfl, rfl⟩, ?_⟩, ?_⟩
                        · replace hx := (Upd.drew _ _).trans hx
                          replace hc := hc.ext hx
                          replace hb := hb.ext hx
                          replace hB1 := hB1.ext hx
                          have hE := Upd.refl (fun _ => False) W
                          refine id (X_idx (v := bv) (n := bs.length) (k := .i64) (i := ((i - 1 : Nat) : Int)) S24 rfl hb.sv rfl (by omega) (by omega) ?_)
                          exact ⟨hE, rfl⟩
                        refine ⟨.det (fun val => (.int .i64 (a0))), ⟨fun _ _ hv => rfl, fun _ _ _ _ _ => trivial⟩, fun val h_ W hx he => ⟨⟨80, rfl, rfl⟩, ?_⟩, ?_⟩
                        · replace hx := (Upd.drew _ _).trans hx
                          replace hc := hc.ext hx
                          replace hb := hb.ext hx
                          replace hB1 := hB1.ext hx
                          have hE := Upd.refl (fun _ => False) W
                          refine id (X_load (v := .int .i64 a0) T3 rfl (iat hb (Int.toNat_natCast _) ha0) ?_)
                          exact ⟨hE, rfl⟩
                        refine ⟨.det (fun val => (ptr b1 (2))), ⟨fun _ _ hv => rfl, fun _ _ _ _ _ => trivial⟩, fun val h_ W hx he => ⟨⟨80, rfl, rfl⟩, ?_⟩, ?_⟩
                        · replace hx := (Upd.drew _ _).trans hx
                          replace hc := hc.ext hx
                          replace hb := hb.ext hx
                          replace hB1 := hB1.ext hx
                          have hE := Upd.refl (fun _ => False) W
                          refine id (X_fldP (b := b1) (o := 0) (r := 2) Fd26_2 rfl rfl ?_)
                          exact ⟨hE, rfl⟩
                        refine ⟨.det (fun val => bv), ⟨fun _ _ hv => rfl, fun _ _ _ _ _ => trivial⟩, fun val h_ W hx he => ⟨⟨80, rfl, rfl⟩, ?_⟩, ?_⟩
                        · replace hx := (Upd.drew _ _).trans hx
                          replace hc := hc.ext hx
                          replace hb := hb.ext hx
                          replace hB1 := hB1.ext hx
                          have hE := Upd.refl (fun _ => False) W
                          refine id (X_load (p := (ptr b1 (2))) (v := bv) T24 rfl (hB1.at1 rfl) ?_)
                          exact ⟨hE, rfl⟩
                        refine ⟨.det (fun val => (.int .i64 (((i : Nat) : Int)))), ⟨fun _ _ hv => rfl, fun _ _ _ _ _ => trivial⟩, fun val h_ W hx he => ⟨⟨80, rfl, rfl⟩, ?_⟩, ?_⟩
                        · replace hx := (Upd.drew _ _).trans hx
                          replace hc := hc.ext hx
                          replace hb := hb.ext hx
                          replace hB1 := hB1.ext hx
                          have hE := Upd.refl (fun _ => False) W
                          refine id (X_move (v := (.int .i64 (((i : Nat) : Int)))) rfl ?_)
                          exact ⟨hE, rfl⟩
                        refine ⟨.det (fun val => (pof bv ((((i : Nat) : Int) : Int).toNat * 1))), ⟨fun _ _ hv => rfl, fun _ _ _ _ _ => trivial⟩, fun val h_ W hx he => ⟨⟨80, rfl, rfl⟩, ?_⟩, ?_⟩
                        · replace hx := (Upd.drew _ _).trans hx
                          replace hc := hc.ext hx
                          replace hb := hb.ext hx
                          replace hB1 := hB1.ext hx
                          have hE := Upd.refl (fun _ => False) W
                          refine id (X_idx (v := bv) (n := bs.length) (k := .i64) (i := ((i : Nat) : Int)) S24 rfl hb.sv rfl (by omega) (by omega) ?_)
                          exact ⟨hE, rfl⟩
                        refine ⟨.det (fun val => (.int .i64 (a))), ⟨fun _ _ hv => rfl, fun _ _ _ _ _ => trivial⟩, fun val h_ W hx he => ⟨⟨80, rfl, rfl⟩, ?_⟩, ?_⟩
                        · replace hx := (Upd.drew _ _).trans hx
                          replace hc := hc.ext hx
                          replace hb := hb.ext hx
                          replace hB1 := hB1.ext hx
                          have hE := Upd.refl (fun _ => False) W
                          refine id (X_load (v := .int .i64 a) T3 rfl (iat hb (Int.toNat_natCast _) hai) ?_)
                          exact ⟨hE, rfl⟩
                        intro val W19 hx19 he19
                        replace hx19 := (Upd.drew _ _).trans hx19
                        have hz19 := hx19.size
                        replace hc := hc.ext hx19
                        replace hb := hb.ext hx19
                        replace hU := hU.trans (Ext.upd hx19)
                        replace hB1 := hB1.ext hx19
                        refine L_gy (dj := 80) rfl rfl rfl (X_cmp (k := .i64) (a := a0) (b := a) (r := true) rfl rfl rfl (decide_eq_true (p := ((a) : Int) ≤ ((a0) : Int)) (by have h_ := of_decide_eq_true hs18; omega)) ?_)
                        refine L_gy (dj := 77) rfl rfl rfl (X_pick (t := true) (v := (.bool (true))) rfl rfl ?_)
                        refine L_op rfl (X_pick (t := false) (v := (.bool (true))) rfl rfl ?_)
                        refine L_nil ?_
                        refine T_n ?_
                        refine W_ct rfl ?_
                        refine W_seq ?_
                        refine W_reg ?_
                        refine L_op rfl (X_assign (v := (.bool (false))) rfl ?_)
                        refine L_nil ?_
                        refine T_n ?_
                        refine W_ret ?_
                        refine B_r ?_
                        refine T_r ?_
                        refine T_r ?_
                        refine B_r ?_
                        refine T_r ?_
                        exact BQ_r (End_1 Try.results14 (v := .bool false) rfl ⟨⟨false, rfl, ⟨fun h => (by cases h), fun h => (by have h1 := hst.1 (inB_mono h.2.2 hi); have h2 := (inB_mono h.2.2 hi) i a (Nat.lt_succ_self _) hai; have h3_ := of_decide_eq_false hs13; have h4_ := of_decide_eq_false hs15; have h5_ := of_decide_eq_true hs17; have h6_ := of_decide_eq_true hs18; omega)⟩⟩, hU.own hn0⟩)
                      · have hi0 := of_decide_eq_true hs17
                        obtain ⟨a0, ha0⟩ : ∃ a, bs[i - 1]? = some a := ⟨_, List.getElem?_eq_getElem (by omega)⟩
                        have hbe := inB_prev hi0 ha0
                        refine W_draw 30 [[], [0], [], [0, 1, 2], [0, 1, 2, 3], [0, 1, 2, 3, 4], [0, 1, 2, 3, 4, 5], [0, 1, 2, 3, 4, 5, 6], [0, 1, 2, 3, 4, 5, 6, 7], [0, 1, 2, 3, 4, 5, 6], [0, 1, 2, 3, 4, 5, 6, 7, 8, 9], [0, 1, 2, 3, 4, 5, 6, 7, 8, 9, 10], [0, 1, 2, 3, 4, 5, 6], [0, 1, 2, 3, 4, 5, 6, 7, 8, 9, 10, 11, 12], [0, 1, 2, 3, 4, 5, 6, 7, 8, 9, 10, 11, 12, 13], [0, 1, 2, 3, 4, 5, 6, 7, 8, 9, 10, 11, 12, 13, 14], [0, 1, 2, 3, 4, 5, 6, 7, 8, 9, 10, 11, 12, 13, 14, 15], [0, 1, 2, 3, 4, 5, 6, 7, 8, 9, 10, 11, 12, 13, 14, 15, 16], [0, 1, 2, 3, 4, 5, 6, 7, 8, 9, 10, 11, 12, 13, 14, 15, 16, 17], [0, 1, 2, 3, 4, 5, 6, 7, 8, 9, 10, 11, 12, 13, 14, 15, 16, 17, 18], [0, 1, 2, 3, 4, 5, 6, 7, 8, 9, 10, 11, 12, 13, 14, 15, 16, 17, 18, 19], [0, 1, 2, 3, 4, 5, 6, 7, 8, 9, 10, 11, 12, 13, 14, 15, 16, 17, 18], [0, 1, 2, 3, 4, 5, 6, 7, 8, 9, 10, 11, 12, 13, 14, 15, 16, 17, 18, 21], [0, 1, 2, 3, 4, 5, 6, 7, 8, 9, 10, 11, 12, 13, 14, 15, 16, 17, 18, 19, 20, 21, 22], [0, 1, 2, 3, 4, 5, 6, 7, 8, 9, 10, 11, 12, 13, 14, 15, 16, 17, 18, 19, 20, 21, 22, 23], [0, 1, 2, 3, 4, 5, 6, 7, 8, 9, 10, 11, 12, 13, 14, 15, 16, 17, 18], [0, 1, 2, 3, 4, 5, 6, 7, 8, 9, 10, 11, 12, 13, 14, 15, 16, 17, 18, 25], [0, 1, 2, 3, 4, 5, 6, 7, 8, 9, 10, 11, 12, 13, 14, 15, 16, 17, 18], [0, 1, 2, 3, 4, 5, 6, 7, 8, 9, 10, 11, 12, 13, 14, 15, 16, 17, 18, 25, 26, 27], [0, 1, 2, 3, 4, 5, 6, 7, 8, 9, 10, 11, 12, 13, 14, 15, 16, 17, 18, 25, 26, 27, 28], [0, 1, 2, 3, 4, 5, 6, 7, 8, 9, 10, 11, 12, 13, 14, 15, 16, 17, 18, 19, 20, 21, 22, 23, 24, 25, 26, 27, 28, 29], [0, 1, 2, 3, 4, 5, 6, 7, 8, 9, 10, 11, 12, 13, 14, 15, 16, 17, 18, 19, 20, 21, 22, 23, 24, 25, 26, 27, 28, 29, 30], [0, 1, 2, 3, 4, 5, 6, 7, 8, 9, 10, 11, 12, 13, 14, 15, 16, 17, 18, 19, 20, 21, 22, 23, 24, 25, 26, 27, 28, 29, 30, 31]] mixed (by kernel_rfl) ?_
                        refine ⟨.det (fun val => (ptr b1 (2))), ⟨fun _ _ hv => rfl, fun _ _ _ _ _ => trivial⟩, fun val h_ W hx he => ⟨trivial, ?_⟩, ?_⟩
                        · replace hx := (Upd.drew _ _).trans hx
                          replace hc := hc.ext hx
                          replace hb := hb.ext hx
                          replace hB1 := hB1.ext hx
                          have hE := Upd.refl (fun _ => False) W
                          refine id (X_fldP (b := b1) (o := 0) (r := 2) Fd26_2 rfl rfl ?_)
                          exact ⟨hE, rfl⟩
                        refine ⟨.det (fun val => bv), ⟨fun _ _ hv => rfl, fun _ _ _ _ _ => trivial⟩, fun val h_ W hx he => ⟨trivial, ?_⟩, ?_⟩
                        · replace hx := (Upd.drew _ _).trans hx
                          replace hc := hc.ext hx
                          replace hb := hb.ext hx
                          replace hB1 := hB1.ext hx
                          have hE := Upd.refl (fun _ => False) W
                          refine id (X_load (p := (ptr b1 (2))) (v := bv) T24 rfl (hB1.at1 rfl) ?_)
                          exact ⟨hE, rfl⟩
                        refine ⟨.det (fun val => (.int .i64 (((i : Nat) : Int)))), ⟨fun _ _ hv => rfl, fun _ _ _ _ _ => trivial⟩, fun val h_ W hx he => ⟨trivial, ?_⟩, ?_⟩
                        · replace hx := (Upd.drew _ _).trans hx
                          replace hc := hc.ext hx
                          replace hb := hb.ext hx
                          replace hB1 := hB1.ext hx
                          have hE := Upd.refl (fun _ => False) W
                          refine id (X_move (v := (.int .i64 (((i : Nat) : Int)))) rfl ?_)
                          exact ⟨hE, rfl⟩
                        refine ⟨.det (fun val => (pof bv ((((i : Nat) : Int) : Int).toNat * 1))), ⟨fun _ _ hv => rfl, fun _ _ _ _ _ => trivial⟩, fun val h_ W hx he => ⟨trivial, ?_⟩, ?_⟩
                        · replace hx := (Upd.drew _ _).trans hx
                          replace hc := hc.ext hx
                          replace hb := hb.ext hx
                          replace hB1 := hB1.ext hx
                          have hE := Upd.refl (fun _ => False) W
                          refine id (X_idx (v := bv) (n := bs.length) (k := .i64) (i := ((i : Nat) : Int)) S24 rfl hb.sv rfl (by omega) (by omega) ?_)
                          exact ⟨hE, rfl⟩
                        refine ⟨.det (fun val => (.int .i64 (a))), ⟨fun _ _ hv => rfl, fun _ _ _ _ _ => trivial⟩, fun val h_ W hx he => ⟨trivial, ?_⟩, ?_⟩
                        · replace hx := (Upd.drew _ _).trans hx
                          replace hc := hc.ext hx
                          replace hb := hb.ext hx
                          replace hB1 := hB1.ext hx
                          have hE := Upd.refl (fun _ => False) W
                          refine id (X_load (v := .int .i64 a) T3 rfl (iat hb (Int.toNat_natCast _) hai) ?_)
                          exact ⟨hE, rfl⟩
                        refine ⟨.det (fun val => (.bool (false))), ⟨fun _ _ hv => rfl, fun _ _ _ _ _ => trivial⟩, fun val h_ W hx he => ⟨trivial, ?_⟩, ?_⟩
                        · replace hx := (Upd.drew _ _).trans hx
                          replace hc := hc.ext hx
                          replace hb := hb.ext hx
                          replace hB1 := hB1.ext hx
                          have hE := Upd.refl (fun _ => False) W
                          refine id (X_cmp (k := .i64) (a := a) (b := 0) (r := false) rfl rfl rfl (decide_eq_false (p := ((a) : Int) < ((0) : Int)) (by have h_ := of_decide_eq_false hs13; omega)) ?_)
                          exact ⟨hE, rfl⟩
                        refine ⟨.det (fun val => (.bool (false))), ⟨fun _ _ hv => rfl, fun _ _ _ _ _ => trivial⟩, fun val h_ W hx he => ⟨trivial, ?_⟩, ?_⟩
                        · replace hx := (Upd.drew _ _).trans hx
                          replace hc := hc.ext hx
                          replace hb := hb.ext hx
                          replace hB1 := hB1.ext hx
                          have hE := Upd.refl (fun _ => False) W
                          refine id (X_move (v := (.bool (false))) rfl ?_)
                          exact ⟨hE, rfl⟩
                        refine ⟨.det (fun val => (ptr b1 (2))), ⟨fun _ _ hv => rfl, fun _ _ _ _ _ => trivial⟩, fun val h_ W hx he => ⟨⟨68, rfl, rfl⟩, ?_⟩, ?_⟩
                        · replace hx := (Upd.drew _ _).trans hx
                          replace hc := hc.ext hx
                          replace hb := hb.ext hx
                          replace hB1 := hB1.ext hx
                          have hE := Upd.refl (fun _ => False) W
                          refine id (X_fldP (b := b1) (o := 0) (r := 2) Fd26_2 rfl rfl ?_)
                          exact ⟨hE, rfl⟩
                        refine ⟨.det (fun val => bv), ⟨fun _ _ hv => rfl, fun _ _ _ _ _ => trivial⟩, fun val h_ W hx he => ⟨⟨68, rfl, rfl⟩, ?_⟩, ?_⟩
                        · replace hx := (Upd.drew _ _).trans hx
                          replace hc := hc.ext hx
                          replace hb := hb.ext hx
                          replace hB1 := hB1.ext hx
                          have hE := Upd.refl (fun _ => False) W
                          refine id (X_load (p := (ptr b1 (2))) (v := bv) T24 rfl (hB1.at1 rfl) ?_)
                          exact ⟨hE, rfl⟩
                        refine ⟨.det (fun val => (.int .i64 (((i : Nat) : Int)))), ⟨fun _ _ hv => rfl, fun _ _ _ _ _ => trivial⟩, fun val h_ W hx he => ⟨⟨68, rfl, rfl⟩, ?_⟩, ?_⟩
                        · replace hx := (Upd.drew _ _).trans hx
                          replace hc := hc.ext hx
                          replace hb := hb.ext hx
                          replace hB1 := hB1.ext hx
                          have hE := Upd.refl (fun _ => False) W
                          refine id (X_move (v := (.int .i64 (((i : Nat) : Int)))) rfl ?_)
                          exact ⟨hE, rfl⟩
                        refine ⟨.det (fun val => (pof bv ((((i : Nat) : Int) : Int).toNat * 1))), ⟨fun _ _ hv => rfl, fun _ _ _ _ _ => trivial⟩, fun val h_ W hx he => ⟨⟨68, rfl, rfl⟩, ?_⟩, ?_⟩
                        · replace hx := (Upd.drew _ _).trans hx
                          replace hc := hc.ext hx
                          replace hb := hb.ext hx
                          replace hB1 := hB1.ext hx
                          have hE := Upd.refl (fun _ => False) W
                          refine id (X_idx (v := bv) (n := bs.length) (k := .i64) (i := ((i : Nat) : Int)) S24 rfl hb.sv rfl (by omega) (by omega) ?_)
                          exact ⟨hE, rfl⟩
                        refine ⟨.det (fun val => (.int .i64 (a))), ⟨fun _ _ hv => rfl, fun _ _ _ _ _ => trivial⟩, fun val h_ W hx he => ⟨⟨68, rfl, rfl⟩, ?_⟩, ?_⟩
                        · replace hx := (Upd.drew _ _).trans hx
                          replace hc := hc.ext hx
                          replace hb := hb.ext hx
                          replace hB1 := hB1.ext hx
                          have hE := Upd.refl (fun _ => False) W
                          refine id (X_load (v := .int .i64 a) T3 rfl (iat hb (Int.toNat_natCast _) hai) ?_)
                          exact ⟨hE, rfl⟩
                        refine ⟨.det (fun val => (.int .i64 (((ps.length : Nat) : Int)))), ⟨fun _ _ hv => rfl, fun _ _ _ _ _ => trivial⟩, fun val h_ W hx he => ⟨⟨68, rfl, rfl⟩, ?_⟩, ?_⟩
                        · replace hx := (Upd.drew _ _).trans hx
                          replace hc := hc.ext hx
                          replace hb := hb.ext hx
                          replace hB1 := hB1.ext hx
                          have hE := Upd.refl (fun _ => False) W
                          refine id (X_move (v := (.int .i64 (((ps.length : Nat) : Int)))) rfl ?_)
                          exact ⟨hE, rfl⟩
                        refine ⟨.det (fun val => (.bool (false))), ⟨fun _ _ hv => rfl, fun _ _ _ _ _ => trivial⟩, fun val h_ W hx he => ⟨⟨68, rfl, rfl⟩, ?_⟩, ?_⟩
                        · replace hx := (Upd.drew _ _).trans hx
                          replace hc := hc.ext hx
                          replace hb := hb.ext hx
                          replace hB1 := hB1.ext hx
                          have hE := Upd.refl (fun _ => False) W
                          refine id (X_cmp (k := .i64) (a := a) (b := ((ps.length : Nat) : Int)) (r := false) rfl rfl rfl (decide_eq_false (p := ((((ps.length : Nat) : Int)) : Int) ≤ ((a) : Int)) (by have h_ := of_decide_eq_false hs15; omega)) ?_)
                          exact ⟨hE, rfl⟩
                        refine ⟨.det (fun val => (.bool (false))), ⟨fun _ _ hv => rfl, fun _ _ _ _ _ => trivial⟩, fun val h_ W hx he => ⟨trivial, ?_⟩, ?_⟩
                        · replace hx := (Upd.drew _ _).trans hx
                          replace hc := hc.ext hx
                          replace hb := hb.ext hx
                          replace hB1 := hB1.ext hx
                          have hE := Upd.refl (fun _ => False) W
                          refine id (X_pick (t := false) (v := (.bool (false))) rfl rfl ?_)
                          exact ⟨hE, rfl⟩
                        refine ⟨.det (fun val => (.bool (false))), ⟨fun _ _ hv => rfl, fun _ _ _ _ _ => trivial⟩, fun val h_ W hx he => ⟨trivial, ?_⟩, ?_⟩
                        · replace hx := (Upd.drew _ _).trans hx
                          replace hc := hc.ext hx
                          replace hb := hb.ext hx
                          replace hB1 := hB1.ext hx
                          have hE := Upd.refl (fun _ => False) W
                          refine id (X_move (v := (.bool (false))) rfl ?_)
                          exact ⟨hE, rfl⟩
                        refine ⟨.det (fun val => (.int .i64 (((i : Nat) : Int)))), ⟨fun _ _ hv => rfl, fun _ _ _ _ _ => trivial⟩, fun val h_ W hx he => ⟨⟨77, rfl, rfl⟩, ?_⟩, ?_⟩
                        · replace hx := (Upd.drew _ _).trans hx
                          replace hc := hc.ext hx
                          replace hb := hb.ext hx
                          replace hB1 := hB1.ext hx
                          have hE := Upd.refl (fun _ => False) W
                          refine id (X_move (v := (.int .i64 (((i : Nat) : Int)))) rfl ?_)
                          exact ⟨hE, rfl⟩
                        refine ⟨.det (fun val => (.bool (true))), ⟨fun _ _ hv => rfl, fun _ _ _ _ _ => trivial⟩, fun val h_ W hx he => ⟨⟨77, rfl, rfl⟩, ?_⟩, ?_⟩
                        · replace hx := (Upd.drew _ _).trans hx
                          replace hc := hc.ext hx
                          replace hb := hb.ext hx
                          replace hB1 := hB1.ext hx
                          have hE := Upd.refl (fun _ => False) W
                          refine id (X_cmp (k := .i64) (a := ((i : Nat) : Int)) (b := 0) (r := true) rfl rfl rfl (decide_eq_true (p := ((0) : Int) < ((((i : Nat) : Int)) : Int)) (by have h_ := of_decide_eq_true hs17; omega)) ?_)
                          exact ⟨hE, rfl⟩
                        refine ⟨.det (fun val => (.bool (true))), ⟨fun _ _ hv => rfl, fun _ _ _ _ _ => trivial⟩, fun val h_ W hx he => ⟨⟨77, rfl, rfl⟩, ?_⟩, ?_⟩
                        · replace hx := (Upd.drew _ _).trans hx
                          replace hc := hc.ext hx
                          replace hb := hb.ext hx
                          replace hB1 := hB1.ext hx
                          have hE := Upd.refl (fun _ => False) W
                          refine id (X_move (v := (.bool (true))) rfl ?_)
                          exact ⟨hE, rfl⟩
                        refine ⟨.det (fun val => (ptr b1 (2))), ⟨fun _ _ hv => rfl, fun _ _ _ _ _ => trivial⟩, fun val h_ W hx he => ⟨⟨80, rfl, rfl⟩, ?_⟩, ?_⟩
                        · replace hx := (Upd.drew _ _).trans hx
                          replace hc := hc.ext hx
                          replace hb := hb.ext hx
                          replace hB1 := hB1.ext hx
                          have hE := Upd.refl (fun _ => False) W
                          refine id (X_fldP (b := b1) (o := 0) (r := 2) Fd26_2 rfl rfl ?_)
                          exact ⟨hE, rfl⟩
                        refine ⟨.det (fun val => bv), ⟨fun _ _ hv => rfl, fun _ _ _ _ _ => trivial⟩, fun val h_ W hx he => ⟨⟨80, rfl, rfl⟩, ?_⟩, ?_⟩
                        · replace hx := (Upd.drew _ _).trans hx
                          replace hc := hc.ext hx
                          replace hb := hb.ext hx
                          replace hB1 := hB1.ext hx
                          have hE := Upd.refl (fun _ => False) W
                          refine id (X_load (p := (ptr b1 (2))) (v := bv) T24 rfl (hB1.at1 rfl) ?_)
                          exact ⟨hE, rfl⟩
                        refine ⟨.det (fun val => (.int .i64 (((i : Nat) : Int)))), ⟨fun _ _ hv => rfl, fun _ _ _ _ _ => trivial⟩, fun val h_ W hx he => ⟨⟨80, rfl, rfl⟩, ?_⟩, ?_⟩
                        · replace hx := (Upd.drew _ _).trans hx
                          replace hc := hc.ext hx
                          replace hb := hb.ext hx
                          replace hB1 := hB1.ext hx
                          have hE := Upd.refl (fun _ => False) W
                          refine id (X_move (v := (.int .i64 (((i : Nat) : Int)))) rfl ?_)
                          exact ⟨hE, rfl⟩
                        refine ⟨.det (fun val => (.int .i64 (((i - 1 : Nat) : Int)))), ⟨fun _ _ hv => rfl, fun _ _ _ _ _ => trivial⟩, fun val h_ W hx he => ⟨⟨80, rfl, rfl⟩, ?_⟩, ?_⟩
                        · replace hx := (Upd.drew _ _).trans hx
                          replace hc := hc.ext hx
                          replace hb := hb.ext hx
                          replace hB1 := hB1.ext hx
                          have hE := Upd.refl (fun _ => False) W
                          refine id (X_arith (k := .i64) (a := ((i : Nat) : Int)) (b := 1) (r := ((i - 1 : Nat) : Int)) rfl rfl rfl (isub64 (by omega) (by omega) (by omega)) ?_)
                          exact ⟨hE, rfl⟩
                        refine ⟨.det (fun val => (pof bv ((((i - 1 : Nat) : Int) : Int).toNat * 1))), ⟨fun _ _ hv => rfl, fun _ _ _ _ _ => trivial⟩, fun val h_ W hx he => ⟨⟨80, rfl, rfl⟩, ?_⟩, ?_⟩
                        · replace hx := (Upd.drew _ _).trans hx
                          replace hc := hc.ext hx
                          replace hb := hb.ext hx
                          replace hB1 := hB1.ext hx
                          have hE := Upd.refl (fun _ => False) W
                          refine id (X_idx (v := bv) (n := bs.length) (k := .i64) (i := ((i - 1 : Nat) : Int)) S24 rfl hb.sv rfl (by omega) (by omega) ?_)
                          exact ⟨hE, rfl⟩
                        refine ⟨.det (fun val => (.int .i64 (a0))), ⟨fun _ _ hv => rfl, fun _ _ _ _ _ => trivial⟩, fun val h_ W hx he => ⟨⟨80, rfl, rfl⟩, ?_⟩, ?_⟩
                        · replace hx := (Upd.drew _ _).trans hx
                          replace hc := hc.ext hx
                          replace hb := hb.ext hx
                          replace hB1 := hB1.ext hx
                          have hE := Upd.refl (fun _ => False) W
                          refine id (X_load (v := .int .i64 a0) T3 rfl (iat hb (Int.toNat_natCast _) ha0) ?_)
                          exact ⟨hE, rfl⟩
                        refine ⟨.det (fun val => (ptr b1 (2))), ⟨fun _ _ hv => rfl, fun _ _ _ _ _ => trivial⟩, fun val h_ W hx he => ⟨⟨80, rfl, rfl⟩, ?_⟩, ?_⟩
                        · replace hx := (Upd.drew _ _).trans hx
                          replace hc := hc.ext hx
                          replace hb := hb.ext hx
                          replace hB1 := hB1.ext hx
                          have hE := Upd.refl (fun _ => False) W
                          refine id (X_fldP (b := b1) (o := 0) (r := 2) Fd26_2 rfl rfl ?_)
                          exact ⟨hE, rfl⟩
                        refine ⟨.det (fun val => bv), ⟨fun _ _ hv => rfl, fun _ _ _ _ _ => trivial⟩, fun val h_ W hx he => ⟨⟨80, rfl, rfl⟩, ?_⟩, ?_⟩
                        · replace hx := (Upd.drew _ _).trans hx
                          replace hc := hc.ext hx
                          replace hb := hb.ext hx
                          replace hB1 := hB1.ext hx
                          have hE := Upd.refl (fun _ => False) W
                          refine id (X_load (p := (ptr b1 (2))) (v := bv) T24 rfl (hB1.at1 rfl) ?_)
                          exact ⟨hE, rfl⟩
                        refine ⟨.det (fun val => (.int .i64 (((i : Nat) : Int)))), ⟨fun _ _ hv => rfl, fun _ _ _ _ _ => trivial⟩, fun val h_ W hx he => ⟨⟨80, rfl, rfl⟩, ?_⟩, ?_⟩
                        · replace hx := (Upd.drew _ _).trans hx
                          replace hc := hc.ext hx
                          replace hb := hb.ext hx
                          replace hB1 := hB1.ext hx
                          have hE := Upd.refl (fun _ => False) W
                          refine id (X_move (v := (.int .i64 (((i : Nat) : Int)))) rfl ?_)
                          exact ⟨hE, rfl⟩
                        refine ⟨.det (fun val => (pof bv ((((i : Nat) : Int) : Int).toNat * 1))), ⟨fun _ _ hv => rfl, fun _ _ _ _ _ => trivial⟩, fun val h_ W hx he => ⟨⟨80, rfl, rfl⟩, ?_⟩, ?_⟩
                        · replace hx := (Upd.drew _ _).trans hx
                          replace hc := hc.ext hx
                          replace hb := hb.ext hx
                          replace hB1 := hB1.ext hx
                          have hE := Upd.refl (fun _ => False) W
                          refine id (X_idx (v := bv) (n := bs.length) (k := .i64) (i := ((i : Nat) : Int)) S24 rfl hb.sv rfl (by omega) (by omega) ?_)
                          exact ⟨hE, rfl⟩
                        refine ⟨.det (fun val => (.int .i64 (a))), ⟨fun _ _ hv => rfl, fun _ _ _ _ _ => trivial⟩, fun val h_ W hx he => ⟨⟨80, rfl, rfl⟩, ?_⟩, ?_⟩
                        · replace hx := (Upd.drew _ _).trans hx
                          replace hc := hc.ext hx
                          replace hb := hb.ext hx
                          replace hB1 := hB1.ext hx
                          have hE := Upd.refl (fun _ => False) W
                          refine id (X_load (v := .int .i64 a) T3 rfl (iat hb (Int.toNat_natCast _) hai) ?_)
                          exact ⟨hE, rfl⟩
                        intro val W20 hx20 he20
                        replace hx20 := (Upd.drew _ _).trans hx20
                        have hz20 := hx20.size
                        replace hc := hc.ext hx20
                        replace hb := hb.ext hx20
                        replace hU := hU.trans (Ext.upd hx20)
                        replace hB1 := hB1.ext hx20
                        refine L_gy (dj := 80) rfl rfl rfl (X_cmp (k := .i64) (a := a0) (b := a) (r := false) rfl rfl rfl (decide_eq_false (p := ((a) : Int) ≤ ((a0) : Int)) (by have h_ := of_decide_eq_false hs18; omega)) ?_)
                        refine L_gy (dj := 77) rfl rfl rfl (X_pick (t := true) (v := (.bool (false))) rfl rfl ?_)
                        refine L_op rfl (X_pick (t := false) (v := (.bool (false))) rfl rfl ?_)
                        refine L_nil ?_
                        refine T_n ?_
                        refine W_cf rfl ?_
                        refine W_skip ?_
                        refine B_n ?_
                        refine T_n ?_
                        refine W_reg ?_
                        refine L_op rfl (X_move (v := (.int .i64 (((i : Nat) : Int)))) rfl ?_)
                        refine L_op rfl (X_arith (k := .i64) (a := ((i : Nat) : Int)) (b := 1) (r := ((i + 1 : Nat) : Int)) rfl rfl rfl (iadd64 (by omega) (by omega) (by omega)) ?_)
                        refine L_op rfl (X_assign (v := (.int .i64 (((i + 1 : Nat) : Int)))) rfl ?_)
                        refine L_nil ?_
                        refine T_n ?_
                        exact ⟨rfl, i + 1, ⟨⟨hi, hc, hb, hB1, hU, hst.2 ⟨hzb, by have h0_ := of_decide_eq_false hs13; have h1_ := of_decide_eq_false hs15; have h2_ := of_decide_eq_true hs17; have h3_ := of_decide_eq_false hs18; omega⟩⟩, (by show bs.length - (i + 1) < bs.length - i; omega)⟩, (Out.mk rfl), ⟨rfl, trivial⟩⟩
                    · refine W_draw 30 [[], [0], [], [0, 1, 2], [0, 1, 2, 3], [0, 1, 2, 3, 4], [0, 1, 2, 3, 4, 5], [0, 1, 2, 3, 4, 5, 6], [0, 1, 2, 3, 4, 5, 6, 7], [0, 1, 2, 3, 4, 5, 6], [0, 1, 2, 3, 4, 5, 6, 7, 8, 9], [0, 1, 2, 3, 4, 5, 6, 7, 8, 9, 10], [0, 1, 2, 3, 4, 5, 6], [0, 1, 2, 3, 4, 5, 6, 7, 8, 9, 10, 11, 12], [0, 1, 2, 3, 4, 5, 6, 7, 8, 9, 10, 11, 12, 13], [0, 1, 2, 3, 4, 5, 6, 7, 8, 9, 10, 11, 12, 13, 14], [0, 1, 2, 3, 4, 5, 6, 7, 8, 9, 10, 11, 12, 13, 14, 15], [0, 1, 2, 3, 4, 5, 6, 7, 8, 9, 10, 11, 12, 13, 14, 15, 16], [0, 1, 2, 3, 4, 5, 6, 7, 8, 9, 10, 11, 12, 13, 14, 15, 16, 17], [0, 1, 2, 3, 4, 5, 6, 7, 8, 9, 10, 11, 12, 13, 14, 15, 16, 17, 18], [0, 1, 2, 3, 4, 5, 6, 7, 8, 9, 10, 11, 12, 13, 14, 15, 16, 17, 18, 19], [0, 1, 2, 3, 4, 5, 6, 7, 8, 9, 10, 11, 12, 13, 14, 15, 16, 17, 18], [0, 1, 2, 3, 4, 5, 6, 7, 8, 9, 10, 11, 12, 13, 14, 15, 16, 17, 18, 21], [0, 1, 2, 3, 4, 5, 6, 7, 8, 9, 10, 11, 12, 13, 14, 15, 16, 17, 18, 19, 20, 21, 22], [0, 1, 2, 3, 4, 5, 6, 7, 8, 9, 10, 11, 12, 13, 14, 15, 16, 17, 18, 19, 20, 21, 22, 23], [0, 1, 2, 3, 4, 5, 6, 7, 8, 9, 10, 11, 12, 13, 14, 15, 16, 17, 18], [0, 1, 2, 3, 4, 5, 6, 7, 8, 9, 10, 11, 12, 13, 14, 15, 16, 17, 18, 25], [0, 1, 2, 3, 4, 5, 6, 7, 8, 9, 10, 11, 12, 13, 14, 15, 16, 17, 18], [0, 1, 2, 3, 4, 5, 6, 7, 8, 9, 10, 11, 12, 13, 14, 15, 16, 17, 18, 25, 26, 27], [0, 1, 2, 3, 4, 5, 6, 7, 8, 9, 10, 11, 12, 13, 14, 15, 16, 17, 18, 25, 26, 27, 28], [0, 1, 2, 3, 4, 5, 6, 7, 8, 9, 10, 11, 12, 13, 14, 15, 16, 17, 18, 19, 20, 21, 22, 23, 24, 25, 26, 27, 28, 29], [0, 1, 2, 3, 4, 5, 6, 7, 8, 9, 10, 11, 12, 13, 14, 15, 16, 17, 18, 19, 20, 21, 22, 23, 24, 25, 26, 27, 28, 29, 30], [0, 1, 2, 3, 4, 5, 6, 7, 8, 9, 10, 11, 12, 13, 14, 15, 16, 17, 18, 19, 20, 21, 22, 23, 24, 25, 26, 27, 28, 29, 30, 31]] mixed (by kernel_rfl) ?_
                      refine ⟨.det (fun val => (ptr b1 (2))), ⟨fun _ _ hv => rfl, fun _ _ _ _ _ => trivial⟩, fun val h_ W hx he => ⟨trivial, ?_⟩, ?_⟩
                      · replace hx := (Upd.drew _ _).trans hx
                        replace hc := hc.ext hx
                        replace hb := hb.ext hx
                        replace hB1 := hB1.ext hx
                        have hE := Upd.refl (fun _ => False) W
                        refine id (X_fldP (b := b1) (o := 0) (r := 2) Fd26_2 rfl rfl ?_)
                        exact ⟨hE, rfl⟩
                      refine ⟨.det (fun val => bv), ⟨fun _ _ hv => rfl, fun _ _ _ _ _ => trivial⟩, fun val h_ W hx he => ⟨trivial, ?_⟩, ?_⟩
                      · replace hx := (Upd.drew _ _).trans hx
                        replace hc := hc.ext hx
                        replace hb := hb.ext hx
                        replace hB1 := hB1.ext hx
                        have hE := Upd.refl (fun _ => False) W
                        refine id (X_load (p := (ptr b1 (2))) (v := bv) T24 rfl (hB1.at1 rfl) ?_)
                        exact ⟨hE, rfl⟩
                      refine ⟨.det (fun val => (.int .i64 (((i : Nat) : Int)))), ⟨fun _ _ hv => rfl, fun _ _ _ _ _ => trivial⟩, fun val h_ W hx he => ⟨trivial, ?_⟩, ?_⟩
                      · replace hx := (Upd.drew _ _).trans hx
                        replace hc := hc.ext hx
                        replace hb := hb.ext hx
                        replace hB1 := hB1.ext hx
                        have hE := Upd.refl (fun _ => False) W
                        refine id (X_move (v := (.int .i64 (((i : Nat) : Int)))) rfl ?_)
                        exact ⟨hE, rfl⟩
                      refine ⟨.det (fun val => (pof bv ((((i : Nat) : Int) : Int).toNat * 1))), ⟨fun _ _ hv => rfl, fun _ _ _ _ _ => trivial⟩, fun val h_ W hx he => ⟨trivial, ?_⟩, ?_⟩
                      · replace hx := (Upd.drew _ _).trans hx
                        replace hc := hc.ext hx
                        replace hb := hb.ext hx
                        replace hB1 := hB1.ext hx
                        have hE := Upd.refl (fun _ => False) W
                        refine id (X_idx (v := bv) (n := bs.length) (k := .i64) (i := ((i : Nat) : Int)) S24 rfl hb.sv rfl (by omega) (by omega) ?_)
                        exact ⟨hE, rfl⟩
                      refine ⟨.det (fun val => (.int .i64 (a))), ⟨fun _ _ hv => rfl, fun _ _ _ _ _ => trivial⟩, fun val h_ W hx he => ⟨trivial, ?_⟩, ?_⟩
                      · replace hx := (Upd.drew _ _).trans hx
                        replace hc := hc.ext hx
                        replace hb := hb.ext hx
                        replace hB1 := hB1.ext hx
                        have hE := Upd.refl (fun _ => False) W
                        refine id (X_load (v := .int .i64 a) T3 rfl (iat hb (Int.toNat_natCast _) hai) ?_)
                        exact ⟨hE, rfl⟩
                      refine ⟨.det (fun val => (.bool (false))), ⟨fun _ _ hv => rfl, fun _ _ _ _ _ => trivial⟩, fun val h_ W hx he => ⟨trivial, ?_⟩, ?_⟩
                      · replace hx := (Upd.drew _ _).trans hx
                        replace hc := hc.ext hx
                        replace hb := hb.ext hx
                        replace hB1 := hB1.ext hx
                        have hE := Upd.refl (fun _ => False) W
                        refine id (X_cmp (k := .i64) (a := a) (b := 0) (r := false) rfl rfl rfl (decide_eq_false (p := ((a) : Int) < ((0) : Int)) (by have h_ := of_decide_eq_false hs13; omega)) ?_)
                        exact ⟨hE, rfl⟩
                      refine ⟨.det (fun val => (.bool (false))), ⟨fun _ _ hv => rfl, fun _ _ _ _ _ => trivial⟩, fun val h_ W hx he => ⟨trivial, ?_⟩, ?_⟩
                      · replace hx := (Upd.drew _ _).trans hx
                        replace hc := hc.ext hx
                        replace hb := hb.ext hx
                        replace hB1 := hB1.ext hx
                        have hE := Upd.refl (fun _ => False) W
                        refine id (X_move (v := (.bool (false))) rfl ?_)
                        exact ⟨hE, rfl⟩
                      refine ⟨.det (fun val => (ptr b1 (2))), ⟨fun _ _ hv => rfl, fun _ _ _ _ _ => trivial⟩, fun val h_ W hx he => ⟨⟨68, rfl, rfl⟩, ?_⟩, ?_⟩
                      · replace hx := (Upd.drew _ _).trans hx
                        replace hc := hc.ext hx
                        replace hb := hb.ext hx
                        replace hB1 := hB1.ext hx
                        have hE := Upd.refl (fun _ => False) W
                        refine id (X_fldP (b := b1) (o := 0) (r := 2) Fd26_2 rfl rfl ?_)
                        exact ⟨hE, rfl⟩
                      refine ⟨.det (fun val => bv), ⟨fun _ _ hv => rfl, fun _ _ _ _ _ => trivial⟩, fun val h_ W hx he => ⟨⟨68, rfl, rfl⟩, ?_⟩, ?_⟩
                      · replace hx := (Upd.drew _ _).trans hx
                        replace hc := hc.ext hx
                        replace hb := hb.ext hx
                        replace hB1 := hB1.ext hx
                        have hE := Upd.refl (fun _ => False) W
                        refine id (X_load (p := (ptr b1 (2))) (v := bv) T24 rfl (hB1.at1 rfl) ?_)
                        exact ⟨hE, rfl⟩
                      refine ⟨.det (fun val => (.int .i64 (((i : Nat) : Int)))), ⟨fun _ _ hv => rfl, fun _ _ _ _ _ => trivial⟩, fun val h_ W hx he => ⟨⟨68, rfl, rfl⟩, ?_⟩, ?_⟩
                      · replace hx := (Upd.drew _ _).trans hx
                        replace hc := hc.ext hx
                        replace hb := hb.ext hx
                        replace hB1 := hB1.ext hx
                        have hE := Upd.refl (fun _ => False) W
                        refine id (X_move (v := (.int .i64 (((i : Nat) : Int)))) rfl ?_)
                        exact ⟨hE, rfl⟩
                      refine ⟨.det (fun val => (pof bv ((((i : Nat) : Int) : Int).toNat * 1))), ⟨fun _ _ hv => rfl, fun _ _ _ _ _ => trivial⟩, fun val h_ W hx he => ⟨⟨68, rfl, rfl⟩, ?_⟩, ?_⟩
                      · replace hx := (Upd.drew _ _).trans hx
                        replace hc := hc.ext hx
                        replace hb := hb.ext hx
                        replace hB1 := hB1.ext hx
                        have hE := Upd.refl (fun _ => False) W
                        refine id (X_idx (v := bv) (n := bs.length) (k := .i64) (i := ((i : Nat) : Int)) S24 rfl hb.sv rfl (by omega) (by omega) ?_)
                        exact ⟨hE, rfl⟩
                      refine ⟨.det (fun val => (.int .i64 (a))), ⟨fun _ _ hv => rfl, fun _ _ _ _ _ => trivial⟩, fun val h_ W hx he => ⟨⟨68, rfl, rfl⟩, ?_⟩, ?_⟩
                      · replace hx := (Upd.drew _ _).trans hx
                        replace hc := hc.ext hx
                        replace hb := hb.ext hx
                        replace hB1 := hB1.ext hx
                        have hE := Upd.refl (fun _ => False) W
                        refine id (X_load (v := .int .i64 a) T3 rfl (iat hb (Int.toNat_natCast _) hai) ?_)
                        exact ⟨hE, rfl⟩
                      refine ⟨.det (fun val => (.int .i64 (((ps.length : Nat) : Int)))), ⟨fun _ _ hv => rfl, fun _ _ _ _ _ => trivial⟩, fun val h_ W hx he => ⟨⟨68, rfl, rfl⟩, ?_⟩, ?_⟩
                      · replace hx := (Upd.drew _ _).trans hx
                        replace hc := hc.ext hx
                        replace hb := hb.ext hx
                        replace hB1 := hB1.ext hx
                        have hE := Upd.refl (fun _ => False) W
                        refine id (X_move (v := (.int .i64 (((ps.length : Nat) : Int)))) rfl ?_)
                        exact ⟨hE, rfl⟩
                      refine ⟨.det (fun val => (.bool (false))), ⟨fun _ _ hv => rfl, fun _ _ _ _ _ => trivial⟩, fun val h_ W hx he => ⟨⟨68, rfl, rfl⟩, ?_⟩, ?_⟩
                      · replace hx := (Upd.drew _ _).trans hx
                        replace hc := hc.ext hx
                        replace hb := hb.ext hx
                        replace hB1 := hB1.ext hx
                        have hE := Upd.refl (fun _ => False) W
                        refine id (X_cmp (k := .i64) (a := a) (b := ((ps.length : Nat) : Int)) (r := false) rfl rfl rfl (decide_eq_false (p := ((((ps.length : Nat) : Int)) : Int) ≤ ((a) : Int)) (by have h_ := of_decide_eq_false hs15; omega)) ?_)
                        exact ⟨hE, rfl⟩
                      refine ⟨.det (fun val => (.bool (false))), ⟨fun _ _ hv => rfl, fun _ _ _ _ _ => trivial⟩, fun val h_ W hx he => ⟨trivial, ?_⟩, ?_⟩
                      · replace hx := (Upd.drew _ _).trans hx
                        replace hc := hc.ext hx
                        replace hb := hb.ext hx
                        replace hB1 := hB1.ext hx
                        have hE := Upd.refl (fun _ => False) W
                        refine id (X_pick (t := false) (v := (.bool (false))) rfl rfl ?_)
                        exact ⟨hE, rfl⟩
                      refine ⟨.det (fun val => (.bool (false))), ⟨fun _ _ hv => rfl, fun _ _ _ _ _ => trivial⟩, fun val h_ W hx he => ⟨trivial, ?_⟩, ?_⟩
                      · replace hx := (Upd.drew _ _).trans hx
                        replace hc := hc.ext hx
                        replace hb := hb.ext hx
                        replace hB1 := hB1.ext hx
                        have hE := Upd.refl (fun _ => False) W
                        refine id (X_move (v := (.bool (false))) rfl ?_)
                        exact ⟨hE, rfl⟩
                      refine ⟨.det (fun val => (.int .i64 (((i : Nat) : Int)))), ⟨fun _ _ hv => rfl, fun _ _ _ _ _ => trivial⟩, fun val h_ W hx he => ⟨⟨77, rfl, rfl⟩, ?_⟩, ?_⟩
                      · replace hx := (Upd.drew _ _).trans hx
                        replace hc := hc.ext hx
                        replace hb := hb.ext hx
                        replace hB1 := hB1.ext hx
                        have hE := Upd.refl (fun _ => False) W
                        refine id (X_move (v := (.int .i64 (((i : Nat) : Int)))) rfl ?_)
                        exact ⟨hE, rfl⟩
                      refine ⟨.det (fun val => (.bool (false))), ⟨fun _ _ hv => rfl, fun _ _ _ _ _ => trivial⟩, fun val h_ W hx he => ⟨⟨77, rfl, rfl⟩, ?_⟩, ?_⟩
                      · replace hx := (Upd.drew _ _).trans hx
                        replace hc := hc.ext hx
                        replace hb := hb.ext hx
                        replace hB1 := hB1.ext hx
                        have hE := Upd.refl (fun _ => False) W
                        refine id (X_cmp (k := .i64) (a := ((i : Nat) : Int)) (b := 0) (r := false) rfl rfl rfl (decide_eq_false (p := ((0) : Int) < ((((i : Nat) : Int)) : Int)) (by have h_ := of_decide_eq_false hs17; omega)) ?_)
                        exact ⟨hE, rfl⟩
                      refine ⟨.det (fun val => (.bool (false))), ⟨fun _ _ hv => rfl, fun _ _ _ _ _ => trivial⟩, fun val h_ W hx he => ⟨⟨77, rfl, rfl⟩, ?_⟩, ?_⟩
                      · replace hx := (Upd.drew _ _).trans hx
                        replace hc := hc.ext hx
                        replace hb := hb.ext hx
                        replace hB1 := hB1.ext hx
                        have hE := Upd.refl (fun _ => False) W
                        refine id (X_move (v := (.bool (false))) rfl ?_)
                        exact ⟨hE, rfl⟩
                      refine ⟨.no, ⟨fun _ _ _ => trivial, fun _ _ _ _ _ => trivial⟩, fun val h_ W hx he => ⟨80, rfl, .inl rfl⟩, ?_⟩
                      refine ⟨.no, ⟨fun _ _ _ => trivial, fun _ _ _ _ _ => trivial⟩, fun val h_ W hx he => ⟨80, rfl, .inl rfl⟩, ?_⟩
                      refine ⟨.no, ⟨fun _ _ _ => trivial, fun _ _ _ _ _ => trivial⟩, fun val h_ W hx he => ⟨80, rfl, .inl rfl⟩, ?_⟩
                      refine ⟨.no, ⟨fun _ _ _ => trivial, fun _ _ _ _ _ => trivial⟩, fun val h_ W hx he => ⟨80, rfl, .inl rfl⟩, ?_⟩
                      refine ⟨.no, ⟨fun _ _ _ => trivial, fun _ _ _ _ _ => trivial⟩, fun val h_ W hx he => ⟨80, rfl, .inl rfl⟩, ?_⟩
                      refine ⟨.no, ⟨fun _ _ _ => trivial, fun _ _ _ _ _ => trivial⟩, fun val h_ W hx he => ⟨80, rfl, .inl rfl⟩, ?_⟩
                      refine ⟨.no, ⟨fun _ _ _ => trivial, fun _ _ _ _ _ => trivial⟩, fun val h_ W hx he => ⟨80, rfl, .inl rfl⟩, ?_⟩
                      refine ⟨.no, ⟨fun _ _ _ => trivial, fun _ _ _ _ _ => trivial⟩, fun val h_ W hx he => ⟨80, rfl, .inl rfl⟩, ?_⟩
                      refine ⟨.no, ⟨fun _ _ _ => trivial, fun _ _ _ _ _ => trivial⟩, fun val h_ W hx he => ⟨80, rfl, .inl rfl⟩, ?_⟩
                      refine ⟨.no, ⟨fun _ _ _ => trivial, fun _ _ _ _ _ => trivial⟩, fun val h_ W hx he => ⟨80, rfl, .inl rfl⟩, ?_⟩
                      refine ⟨.no, ⟨fun _ _ _ => trivial, fun _ _ _ _ _ => trivial⟩, fun val h_ W hx he => ⟨80, rfl, .inl rfl⟩, ?_⟩
                      intro val W21 hx21 he21
                      replace hx21 := (Upd.drew _ _).trans hx21
                      have hz21 := hx21.size
                      replace hc := hc.ext hx21
                      replace hb := hb.ext hx21
                      replace hU := hU.trans (Ext.upd hx21)
                      replace hB1 := hB1.ext hx21
                      refine L_gn (dj := 80) (t := false) rfl rfl rfl rfl ?_
                      refine L_gy (dj := 77) rfl rfl rfl (X_pick (t := false) (v := (.bool (false))) rfl rfl ?_)
                      refine L_op rfl (X_pick (t := false) (v := (.bool (false))) rfl rfl ?_)
                      refine L_nil ?_
                      refine T_n ?_
                      refine W_cf rfl ?_
                      refine W_skip ?_
                      refine B_n ?_
                      refine T_n ?_
                      refine W_reg ?_
                      refine L_op rfl (X_move (v := (.int .i64 (((i : Nat) : Int)))) rfl ?_)
                      refine L_op rfl (X_arith (k := .i64) (a := ((i : Nat) : Int)) (b := 1) (r := ((i + 1 : Nat) : Int)) rfl rfl rfl (iadd64 (by omega) (by omega) (by omega)) ?_)
                      refine L_op rfl (X_assign (v := (.int .i64 (((i + 1 : Nat) : Int)))) rfl ?_)
                      refine L_nil ?_
                      refine T_n ?_
                      exact ⟨rfl, i + 1, ⟨⟨hi, hc, hb, hB1, hU, hst.2 ⟨hzb, by have h0_ := of_decide_eq_false hs13; have h1_ := of_decide_eq_false hs15; have h2_ := of_decide_eq_false hs17; have hb0 : before bs i = -1 := by { unfold before; rw [if_pos (by omega)] }; omega⟩⟩, (by show bs.length - (i + 1) < bs.length - i; omega)⟩, (Out.mk rfl), ⟨rfl, trivial⟩⟩
              · refine L_op rfl (X_cmp (k := .i64) (a := ((i : Nat) : Int)) (b := ((bs.length : Nat) : Int)) (r := false) rfl rfl rfl (decide_eq_false (p := ((((i : Nat) : Int)) : Int) < ((((bs.length : Nat) : Int)) : Int)) (by omega)) ?_)
                refine L_nil ?_
                refine T_n ?_
                refine W_cf rfl ?_
                refine W_exit ?_
                refine T_e ?_
                refine T_e ?_
                refine B_x ?_
                refine T_n ?_
                refine W_seq ?_
                refine W_reg ?_
                refine L_op rfl (X_assign (v := (.bool (true))) rfl ?_)
                refine L_nil ?_
                refine T_n ?_
                refine W_ret ?_
                exact BQ_r (End_1 Try.results14 (v := .bool true) rfl ⟨⟨true, rfl, ⟨fun _ => ⟨hH, inC_mono hzc (by omega), inB_mono hzb (by omega)⟩, fun _ => rfl⟩⟩, hU.own hn0⟩)
        · refine L_gy (dj := 21) rfl rfl rfl (X_load (p := (ptr b1 (3))) (v := .bool false) T4 rfl (hB1.at1 (by rw [ho5]; rfl)) ?_)
          refine L_gy (dj := 21) rfl rfl rfl (X_move (v := (.bool (false))) rfl ?_)
          refine L_gn (dj := 24) (t := false) rfl rfl rfl rfl ?_
          refine L_gn (dj := 24) (t := false) rfl rfl rfl rfl ?_
          refine L_gn (dj := 24) (t := false) rfl rfl rfl rfl ?_
          refine L_gn (dj := 24) (t := false) rfl rfl rfl rfl ?_
          refine L_gy (dj := 21) rfl rfl rfl (X_pick (t := false) (v := (.bool (false))) rfl rfl ?_)
          refine L_op rfl (X_pick (t := false) (v := (.bool (false))) rfl rfl ?_)
          refine L_nil ?_
          refine T_n ?_
          refine W_cf rfl ?_
          refine W_skip ?_
          refine T_n ?_
          refine W_seq ?_
          refine W_seq ?_
          refine W_reg ?_
          refine L_op rfl (X_assign (v := (.int .i64 (0))) rfl ?_)
          refine L_nil ?_
          refine T_n ?_
          refine W_block ?_
          refine W_loop (α := Nat) [2, 4, 31, 32, 33, 34, 35, 36, 37, 38, 39, 40, 41, 42, 43, 44, 45, 46, 47, 48, 49, 50, 51, 52, 53, 54] (fun i => [(4, (.int .i64 (((i : Nat) : Int))))]) (fun i w_ => i ≤ cs.length ∧ NRd LW w_ lo up cv cs ∧ NRd LI w_ lo up bv bs ∧ Blk w_ b1 #[pv, cv, bv, .bool off] 26 ∧ Upd (fun i => n0 ≤ i) w w_ ∧ InC ps.length cs i) (fun i => cs.length - i) ⟨rfl, 0, ⟨Nat.zero_le _, hc, hb, hB1, hU, inC_0⟩, Out.refl _ _, ⟨rfl, trivial⟩⟩ ?_
          rintro i w22 _ ⟨hil, hc, hb, hB1, hU, hzc⟩
          refine W_seq ?_
          refine W_seq ?_
          refine W_reg ?_
          refine L_op rfl (X_move (v := (.int .i64 (((i : Nat) : Int)))) rfl ?_)
          refine L_op rfl (X_fldP (b := b1) (o := 0) (r := 1) Fd26_1 rfl rfl ?_)
          refine L_op rfl (X_load (p := (ptr b1 (1))) (v := cv) T23 rfl (hB1.at1 rfl) ?_)
          refine L_op rfl (X_len (v := cv) (n := cs.length) Try.underlying23 rfl hc.sv ?_)
          by_cases hc23 : (((i : Nat) : Int) : Int) < (((cs.length : Nat) : Int))
          · refine L_op rfl (X_cmp (k := .i64) (a := ((i : Nat) : Int)) (b := ((cs.length : Nat) : Int)) (r := true) rfl rfl rfl (decide_eq_true (p := ((((i : Nat) : Int)) : Int) < ((((cs.length : Nat) : Int)) : Int)) (by omega)) ?_)
            have hi : i < cs.length := by omega
            obtain ⟨e, hei⟩ : ∃ e, cs[i]? = some e := ⟨_, List.getElem?_eq_getElem hi⟩
            refine L_nil ?_
            refine T_n ?_
            refine W_ct rfl ?_
            refine W_skip ?_
            refine T_n ?_
            refine W_seq ?_
            refine W_block ?_
            refine W_seq ?_
            refine W_reg ?_
            refine L_op rfl (X_fldP (b := b1) (o := 0) (r := 1) Fd26_1 rfl rfl ?_)
            refine L_op rfl (X_load (p := (ptr b1 (1))) (v := cv) T23 rfl (hB1.at1 rfl) ?_)
            refine L_op rfl (X_move (v := (.int .i64 (((i : Nat) : Int)))) rfl ?_)
            refine L_op rfl (X_idx (v := cv) (n := cs.length) (k := .i64) (i := ((i : Nat) : Int)) S23 rfl hc.sv rfl (by omega) (by omega) ?_)
            refine L_op rfl (X_fldS (v := cv) (o := (((i : Nat) : Int) : Int).toNat * 257) Fd35_0 rfl hc.sv (by omega) ?_)
            refine L_op rfl (X_load (v := .int .i64 e.1) T3 rfl (wat hc (Int.toNat_natCast _) hei) ?_)
            by_cases hc24 : (e.1 : Int) < (0)
            · refine L_op rfl (X_cmp (k := .i64) (a := e.1) (b := 0) (r := true) rfl rfl rfl (decide_eq_true (p := ((e.1) : Int) < ((0) : Int)) (by omega)) ?_)
              refine L_op rfl (X_move (v := (.bool (true))) rfl ?_)
              refine L_gn (dj := 45) (t := true) rfl rfl rfl rfl ?_
              refine L_gn (dj := 45) (t := true) rfl rfl rfl rfl ?_
              refine L_gn (dj := 45) (t := true) rfl rfl rfl rfl ?_
              refine L_gn (dj := 45) (t := true) rfl rfl rfl rfl ?_
              refine L_gn (dj := 45) (t := true) rfl rfl rfl rfl ?_
              refine L_gn (dj := 45) (t := true) rfl rfl rfl rfl ?_
              refine L_gn (dj := 45) (t := true) rfl rfl rfl rfl ?_
              refine L_gn (dj := 45) (t := true) rfl rfl rfl rfl ?_
              refine L_op rfl (X_pick (t := true) (v := (.bool (true))) rfl rfl ?_)
              refine L_nil ?_
              refine T_n ?_
              refine W_ct rfl ?_
              refine W_seq ?_
              refine W_reg ?_
              refine L_op rfl (X_assign (v := (.bool (false))) rfl ?_)
              refine L_nil ?_
              refine T_n ?_
              refine W_ret ?_
              refine B_r ?_
              refine T_r ?_
              refine T_r ?_
              refine B_r ?_
              refine T_r ?_
              exact BQ_r (End_1 Try.results14 (v := .bool false) rfl ⟨⟨false, rfl, ⟨fun h => (by cases h), fun h => (by have h1 := (inC_step hei).1 (inC_mono h.2.1 hi); omega)⟩⟩, hU.own hn0⟩)
            · refine L_op rfl (X_cmp (k := .i64) (a := e.1) (b := 0) (r := false) rfl rfl rfl (decide_eq_false (p := ((e.1) : Int) < ((0) : Int)) (by omega)) ?_)
              refine L_op rfl (X_move (v := (.bool (false))) rfl ?_)
              refine L_gy (dj := 45) rfl rfl rfl (X_fldP (b := b1) (o := 0) (r := 1) Fd26_1 rfl rfl ?_)
              refine L_gy (dj := 45) rfl rfl rfl (X_load (p := (ptr b1 (1))) (v := cv) T23 rfl (hB1.at1 rfl) ?_)
              refine L_gy (dj := 45) rfl rfl rfl (X_move (v := (.int .i64 (((i : Nat) : Int)))) rfl ?_)
              refine L_gy (dj := 45) rfl rfl rfl (X_idx (v := cv) (n := cs.length) (k := .i64) (i := ((i : Nat) : Int)) S23 rfl hc.sv rfl (by omega) (by omega) ?_)
              refine L_gy (dj := 45) rfl rfl rfl (X_fldS (v := cv) (o := (((i : Nat) : Int) : Int).toNat * 257) Fd35_0 rfl hc.sv (by omega) ?_)
              refine L_gy (dj := 45) rfl rfl rfl (X_load (v := .int .i64 e.1) T3 rfl (wat hc (Int.toNat_natCast _) hei) ?_)
              refine L_gy (dj := 45) rfl rfl rfl (X_move (v := (.int .i64 (((ps.length : Nat) : Int)))) rfl ?_)
              by_cases hc25 : (e.1 : Int) ≥ (((ps.length : Nat) : Int))
              · refine L_gy (dj := 45) rfl rfl rfl (X_cmp (k := .i64) (a := e.1) (b := ((ps.length : Nat) : Int)) (r := true) rfl rfl rfl (decide_eq_true (p := ((((ps.length : Nat) : Int)) : Int) ≤ ((e.1) : Int)) (by omega)) ?_)
                refine L_op rfl (X_pick (t := false) (v := (.bool (true))) rfl rfl ?_)
                refine L_nil ?_
                refine T_n ?_
                refine W_ct rfl ?_
                refine W_seq ?_
                refine W_reg ?_
                refine L_op rfl (X_assign (v := (.bool (false))) rfl ?_)
                refine L_nil ?_
                refine T_n ?_
                refine W_ret ?_
                refine B_r ?_
                refine T_r ?_
                refine T_r ?_
                refine B_r ?_
                refine T_r ?_
                exact BQ_r (End_1 Try.results14 (v := .bool false) rfl ⟨⟨false, rfl, ⟨fun h => (by cases h), fun h => (by have h1 := (inC_step hei).1 (inC_mono h.2.1 hi); omega)⟩⟩, hU.own hn0⟩)
              · refine L_gy (dj := 45) rfl rfl rfl (X_cmp (k := .i64) (a := e.1) (b := ((ps.length : Nat) : Int)) (r := false) rfl rfl rfl (decide_eq_false (p := ((((ps.length : Nat) : Int)) : Int) ≤ ((e.1) : Int)) (by omega)) ?_)
                refine L_op rfl (X_pick (t := false) (v := (.bool (false))) rfl rfl ?_)
                refine L_nil ?_
                refine T_n ?_
                refine W_cf rfl ?_
                refine W_skip ?_
                refine B_n ?_
                refine T_n ?_
                refine W_reg ?_
                refine L_op rfl (X_move (v := (.int .i64 (((i : Nat) : Int)))) rfl ?_)
                refine L_op rfl (X_arith (k := .i64) (a := ((i : Nat) : Int)) (b := 1) (r := ((i + 1 : Nat) : Int)) rfl rfl rfl (iadd64 (by omega) (by omega) (by omega)) ?_)
                refine L_op rfl (X_assign (v := (.int .i64 (((i + 1 : Nat) : Int)))) rfl ?_)
                refine L_nil ?_
                refine T_n ?_
                exact ⟨rfl, i + 1, ⟨⟨hi, hc, hb, hB1, hU, (inC_step hei).2 ⟨hzc, by omega, by omega⟩⟩, (by show cs.length - (i + 1) < cs.length - i; omega)⟩, (Out.mk rfl), ⟨rfl, trivial⟩⟩
          · refine L_op rfl (X_cmp (k := .i64) (a := ((i : Nat) : Int)) (b := ((cs.length : Nat) : Int)) (r := false) rfl rfl rfl (decide_eq_false (p := ((((i : Nat) : Int)) : Int) < ((((cs.length : Nat) : Int)) : Int)) (by omega)) ?_)
            have hH : HeadD ps.length cs.length off := ⟨by omega, by omega, by omega, fun h => by simp_all <;> omega⟩
            refine L_nil ?_
            refine T_n ?_
            refine W_cf rfl ?_
            refine W_exit ?_
            refine T_e ?_
            refine T_e ?_
            refine B_x ?_
            refine T_n ?_
            refine W_seq ?_
            refine W_seq ?_
            refine W_reg ?_
            refine L_op rfl (X_assign (v := (.int .i64 (0))) rfl ?_)
            refine L_nil ?_
            refine T_n ?_
            refine W_block ?_
            refine W_loop (α := Nat) [2, 5, 55, 56, 57, 58, 59, 60, 61, 62, 63, 64, 65, 66, 67, 68, 69, 70, 71, 72, 73, 74, 75, 76, 77, 78, 79, 80, 81, 82, 83, 84, 85, 86, 87, 88, 89, 90, 91, 92, 93, 94] (fun i => [(5, (.int .i64 (((i : Nat) : Int))))]) (fun i w_ => i ≤ bs.length ∧ NRd LW w_ lo up cv cs ∧ NRd LI w_ lo up bv bs ∧ Blk w_ b1 #[pv, cv, bv, .bool off] 26 ∧ Upd (fun i => n0 ≤ i) w w_ ∧ InB ps.length bs i) (fun i => bs.length - i) ⟨rfl, 0, ⟨Nat.zero_le _, hc, hb, hB1, hU, inB_0⟩, Out.refl _ _, ⟨rfl, trivial⟩⟩ ?_
            rintro i w26 _ ⟨hil, hc, hb, hB1, hU, hzb⟩
            refine W_seq ?_
            refine W_seq ?_
            refine W_reg ?_
            refine L_op rfl (X_move (v := (.int .i64 (((i : Nat) : Int)))) rfl ?_)
            refine L_op rfl (X_fldP (b := b1) (o := 0) (r := 2) Fd26_2 rfl rfl ?_)
            refine L_op rfl (X_load (p := (ptr b1 (2))) (v := bv) T24 rfl (hB1.at1 rfl) ?_)
            refine L_op rfl (X_len (v := bv) (n := bs.length) Try.underlying24 rfl hb.sv ?_)
            by_cases hc27 : (((i : Nat) : Int) : Int) < (((bs.length : Nat) : Int))
            · refine L_op rfl (X_cmp (k := .i64) (a := ((i : Nat) : Int)) (b := ((bs.length : Nat) : Int)) (r := true) rfl rfl rfl (decide_eq_true (p := ((((i : Nat) : Int)) : Int) < ((((bs.length : Nat) : Int)) : Int)) (by omega)) ?_)
              have hi : i < bs.length := by omega
              obtain ⟨a, hai⟩ : ∃ a, bs[i]? = some a := ⟨_, List.getElem?_eq_getElem hi⟩
              have hst := inB_step (n := ps.length) hai
              refine L_nil ?_
              refine T_n ?_
              refine W_ct rfl ?_
              refine W_skip ?_
              refine T_n ?_
              refine W_seq ?_
              refine W_block ?_
              refine W_seq ?_
              rcases Bool.eq_false_or_eq_true (decide (a < 0)) with hs28 | hs28
              · refine W_draw 30 [[], [0], [], [0, 1, 2], [0, 1, 2, 3], [0, 1, 2, 3, 4], [0, 1, 2, 3, 4, 5], [0, 1, 2, 3, 4, 5, 6], [0, 1, 2, 3, 4, 5, 6, 7], [0, 1, 2, 3, 4, 5, 6], [0, 1, 2, 3, 4, 5, 6, 7, 8, 9], [0, 1, 2, 3, 4, 5, 6, 7, 8, 9, 10], [0, 1, 2, 3, 4, 5, 6], [0, 1, 2, 3, 4, 5, 6, 7, 8, 9, 10, 11, 12], [0, 1, 2, 3, 4, 5, 6, 7, 8, 9, 10, 11, 12, 13], [0, 1, 2, 3, 4, 5, 6, 7, 8, 9, 10, 11, 12, 13, 14], [0, 1, 2, 3, 4, 5, 6, 7, 8, 9, 10, 11, 12, 13, 14, 15], [0, 1, 2, 3, 4, 5, 6, 7, 8, 9, 10, 11, 12, 13, 14, 15, 16], [0, 1, 2, 3, 4, 5, 6, 7, 8, 9, 10, 11, 12, 13, 14, 15, 16, 17], [0, 1, 2, 3, 4, 5, 6, 7, 8, 9, 10, 11, 12, 13, 14, 15, 16, 17, 18], [0, 1, 2, 3, 4, 5, 6, 7, 8, 9, 10, 11, 12, 13, 14, 15, 16, 17, 18, 19], [0, 1, 2, 3, 4, 5, 6, 7, 8, 9, 10, 11, 12, 13, 14, 15, 16, 17, 18], [0, 1, 2, 3, 4, 5, 6, 7, 8, 9, 10, 11, 12, 13, 14, 15, 16, 17, 18, 21], [0, 1, 2, 3, 4, 5, 6, 7, 8, 9, 10, 11, 12, 13, 14, 15, 16, 17, 18, 19, 20, 21, 22], [0, 1, 2, 3, 4, 5, 6, 7, 8, 9, 10, 11, 12, 13, 14, 15, 16, 17, 18, 19, 20, 21, 22, 23], [0, 1, 2, 3, 4, 5, 6, 7, 8, 9, 10, 11, 12, 13, 14, 15, 16, 17, 18], [0, 1, 2, 3, 4, 5, 6, 7, 8, 9, 10, 11, 12, 13, 14, 15, 16, 17, 18, 25], [0, 1, 2, 3, 4, 5, 6, 7, 8, 9, 10, 11, 12, 13, 14, 15, 16, 17, 18], [0, 1, 2, 3, 4, 5, 6, 7, 8, 9, 10, 11, 12, 13, 14, 15, 16, 17, 18, 25, 26, 27], [0, 1, 2, 3, 4, 5, 6, 7, 8, 9, 10, 11, 12, 13, 14, 15, 16, 17, 18, 25, 26, 27, 28], [0, 1, 2, 3, 4, 5, 6, 7, 8, 9, 10, 11, 12, 13, 14, 15, 16, 17, 18, 19, 20, 21, 22, 23, 24, 25, 26, 27, 28, 29], [0, 1, 2, 3, 4, 5, 6, 7, 8, 9, 10, 11, 12, 13, 14, 15, 16, 17, 18, 19, 20, 21, 22, 23, 24, 25, 26, 27, 28, 29, 30], [0, 1, 2, 3, 4, 5, 6, 7, 8, 9, 10, 11, 12, 13, 14, 15, 16, 17, 18, 19, 20, 21, 22, 23, 24, 25, 26, 27, 28, 29, 30, 31]] mixed (by kernel_rfl) ?_
                refine ⟨.det (fun val => (ptr b1 (2))), ⟨fun _ _ hv => rfl, fun _ _ _ _ _ => trivial⟩, fun val h_ W hx he => ⟨trivial, ?_⟩, ?_⟩
                · replace hx := (Upd.drew _ _).trans hx
                  replace hc := hc.ext hx
                  replace hb := hb.ext hx
                  replace hB1 := hB1.ext hx
                  have hE := Upd.refl (fun _ => False) W
                  refine id (X_fldP (b := b1) (o := 0) (r := 2) Fd26_2 rfl rfl ?_)
                  exact ⟨hE, rfl⟩
                refine ⟨.det (fun val => bv), ⟨fun _ _ hv => rfl, fun _ _ _ _ _ => trivial⟩, fun val h_ W hx he => ⟨trivial, ?_⟩, ?_⟩
                · replace hx := (Upd.drew _ _).trans hx
                  replace hc := hc.ext hx
                  replace hb := hb.ext hx
                  replace hB1 := hB1.ext hx
                  have hE := Upd.refl (fun _ => False) W
                  refine id (X_load (p := (ptr b1 (2))) (v := bv) T24 rfl (hB1.at1 rfl) ?_)
                  exact ⟨hE, rfl⟩
                refine ⟨.det (fun val => (.int .i64 (((i : Nat) : Int)))), ⟨fun _ _ hv => rfl, fun _ _ _ _ _ => trivial⟩, fun val h_ W hx he => ⟨trivial, ?_⟩, ?_⟩
                · replace hx := (Upd.drew _ _).trans hx
                  replace hc := hc.ext hx
                  replace hb := hb.ext hx
                  replace hB1 := hB1.ext hx
                  have hE := Upd.refl (fun _ => False) W
                  refine id (X_move (v := (.int .i64 (((i : Nat) : Int)))) rfl ?_)
                  exact ⟨hE, rfl⟩
                refine ⟨.det (fun val => (pof bv ((((i : Nat) : Int) : Int).toNat * 1))), ⟨fun _ _ hv => rfl, fun _ _ _ _ _ => trivial⟩, fun val h_ W hx he => ⟨trivial, ?_⟩, ?_⟩
                · replace hx := (Upd.drew _ _).trans hx
                  replace hc := hc.ext hx
                  replace hb := hb.ext hx
                  replace hB1 := hB1.ext hx
                  have hE := Upd.refl (fun _ => False) W
                  refine id (X_idx (v := bv) (n := bs.length) (k := .i64) (i := ((i : Nat) : Int)) S24 rfl hb.sv rfl (by omega) (by omega) ?_)
                  exact ⟨hE, rfl⟩
                refine ⟨.det (fun val => (.int .i64 (a))), ⟨fun _ _ hv => rfl, fun _ _ _ _ _ => trivial⟩, fun val h_ W hx he => ⟨trivial, ?_⟩, ?_⟩
                · replace hx := (Upd.drew _ _).trans hx
                  replace hc := hc.ext hx
                  replace hb := hb.ext hx
                  replace hB1 := hB1.ext hx
                  have hE := Upd.refl (fun _ => False) W
                  refine id (X_load (v := .int .i64 a) T3 rfl (iat hb (Int.toNat_natCast _) hai) ?_)
                  exact ⟨hE, rfl⟩
                refine ⟨.det (fun val => (.bool (true))), ⟨fun _ _ hv => rfl, fun _ _ _ _ _ => trivial⟩, fun val h_ W hx he => ⟨trivial, ?_⟩, ?_⟩
                · replace hx := (Upd.drew _ _).trans hx
                  replace hc := hc.ext hx
                  replace hb := hb.ext hx
                  replace hB1 := hB1.ext hx
                  have hE := Upd.refl (fun _ => False) W
                  refine id (X_cmp (k := .i64) (a := a) (b := 0) (r := true) rfl rfl rfl (decide_eq_true (p := ((a) : Int) < ((0) : Int)) (by have h_ := of_decide_eq_true hs28; omega)) ?_)
                  exact ⟨hE, rfl⟩
                refine ⟨.det (fun val => (.bool (true))), ⟨fun _ _ hv => rfl, fun _ _ _ _ _ => trivial⟩, fun val h_ W hx he => ⟨trivial, ?_⟩, ?_⟩
                · replace hx := (Upd.drew _ _).trans hx
                  replace hc := hc.ext hx
                  replace hb := hb.ext hx
                  replace hB1 := hB1.ext hx
                  have hE := Upd.refl (fun _ => False) W
                  refine id (X_move (v := (.bool (true))) rfl ?_)
                  exact ⟨hE, rfl⟩
                refine ⟨.no, ⟨fun _ _ _ => trivial, fun _ _ _ _ _ => trivial⟩, fun val h_ W hx he => ⟨68, rfl, .inl rfl⟩, ?_⟩
                refine ⟨.no, ⟨fun _ _ _ => trivial, fun _ _ _ _ _ => trivial⟩, fun val h_ W hx he => ⟨68, rfl, .inl rfl⟩, ?_⟩
                refine ⟨.no, ⟨fun _ _ _ => trivial, fun _ _ _ _ _ => trivial⟩, fun val h_ W hx he => ⟨68, rfl, .inl rfl⟩, ?_⟩
                refine ⟨.no, ⟨fun _ _ _ => trivial, fun _ _ _ _ _ => trivial⟩, fun val h_ W hx he => ⟨68, rfl, .inl rfl⟩, ?_⟩
                refine ⟨.no, ⟨fun _ _ _ => trivial, fun _ _ _ _ _ => trivial⟩, fun val h_ W hx he => ⟨68, rfl, .inl rfl⟩, ?_⟩
                refine ⟨.no, ⟨fun _ _ _ => trivial, fun _ _ _ _ _ => trivial⟩, fun val h_ W hx he => ⟨68, rfl, .inl rfl⟩, ?_⟩
                refine ⟨.no, ⟨fun _ _ _ => trivial, fun _ _ _ _ _ => trivial⟩, fun val h_ W hx he => ⟨68, rfl, .inl rfl⟩, ?_⟩
                refine ⟨.det (fun val => (.bool (true))), ⟨fun _ _ hv => rfl, fun _ _ _ _ _ => trivial⟩, fun val h_ W hx he => ⟨trivial, ?_⟩, ?_⟩
                · replace hx := (Upd.drew _ _).trans hx
                  replace hc := hc.ext hx
                  replace hb := hb.ext hx
                  replace hB1 := hB1.ext hx
                  have hE := Upd.refl (fun _ => False) W
                  refine id (X_pick (t := true) (v := (.bool (true))) rfl rfl ?_)
                  exact ⟨hE, rfl⟩
                refine ⟨.det (fun val => (.bool (true))), ⟨fun _ _ hv => rfl, fun _ _ _ _ _ => trivial⟩, fun val h_ W hx he => ⟨trivial, ?_⟩, ?_⟩
                · replace hx := (Upd.drew _ _).trans hx
                  replace hc := hc.ext hx
                  replace hb := hb.ext hx
                  replace hB1 := hB1.ext hx
                  have hE := Upd.refl (fun _ => False) W
                  refine id (X_move (v := (.bool (true))) rfl ?_)
                  exact ⟨hE, rfl⟩
                refine ⟨.no, ⟨fun _ _ _ => trivial, fun _ _ _ _ _ => trivial⟩, fun val h_ W hx he => ⟨77, rfl, .inl rfl⟩, ?_⟩
                refine ⟨.no, ⟨fun _ _ _ => trivial, fun _ _ _ _ _ => trivial⟩, fun val h_ W hx he => ⟨77, rfl, .inl rfl⟩, ?_⟩
                refine ⟨.no, ⟨fun _ _ _ => trivial, fun _ _ _ _ _ => trivial⟩, fun val h_ W hx he => ⟨77, rfl, .inl rfl⟩, ?_⟩
                refine ⟨.no, ⟨fun _ _ _ => trivial, fun _ _ _ _ _ => trivial⟩, fun val h_ W hx he => ⟨80, rfl, .inr rfl⟩, ?_⟩
                refine ⟨.no, ⟨fun _ _ _ => trivial, fun _ _ _ _ _ => trivial⟩, fun val h_ W hx he => ⟨80, rfl, .inr rfl⟩, ?_⟩
                refine ⟨.no, ⟨fun _ _ _ => trivial, fun _ _ _ _ _ => trivial⟩, fun val h_ W hx he => ⟨80, rfl, .inr rfl⟩, ?_⟩
                refine ⟨.no, ⟨fun _ _ _ => trivial, fun _ _ _ _ _ => trivial⟩, fun val h_ W hx he => ⟨80, rfl, .inr rfl⟩, ?_⟩
                refine ⟨.no, ⟨fun _ _ _ => trivial, fun _ _ _ _ _ => trivial⟩, fun val h_ W hx he => ⟨80, rfl, .inr rfl⟩, ?_⟩
                refine ⟨.no, ⟨fun _ _ _ => trivial, fun _ _ _ _ _ => trivial⟩, fun val h_ W hx he => ⟨80, rfl, .inr rfl⟩, ?_⟩
                refine ⟨.no, ⟨fun _ _ _ => trivial, fun _ _ _ _ _ => trivial⟩, fun val h_ W hx he => ⟨80, rfl, .inr rfl⟩, ?_⟩
                refine ⟨.no, ⟨fun _ _ _ => trivial, fun _ _ _ _ _ => trivial⟩, fun val h_ W hx he => ⟨80, rfl, .inr rfl⟩, ?_⟩
                refine ⟨.no, ⟨fun _ _ _ => trivial, fun _ _ _ _ _ => trivial⟩, fun val h_ W hx he => ⟨80, rfl, .inr rfl⟩, ?_⟩
                refine ⟨.no, ⟨fun _ _ _ => trivial, fun _ _ _ _ _ => trivial⟩, fun val h_ W hx he => ⟨80, rfl, .inr rfl⟩, ?_⟩
                refine ⟨.no, ⟨fun _ _ _ => trivial, fun _ _ _ _ _ => trivial⟩, fun val h_ W hx he => ⟨80, rfl, .inr rfl⟩, ?_⟩
                intro val W29 hx29 he29
                replace hx29 := (Upd.drew _ _).trans hx29
                have hz29 := hx29.size
                replace hc := hc.ext hx29
                replace hb := hb.ext hx29
                replace hU := hU.trans (Ext.upd hx29)
                replace hB1 := hB1.ext hx29
                refine L_gu (dj := 80) rfl rfl rfl ?_
                refine L_gn (dj := 77) (t := true) rfl rfl rfl rfl ?_
                refine L_op rfl (X_pick (t := true) (v := (.bool (true))) rfl rfl ?_)
                refine L_nil ?_
                refine T_n ?_
                refine W_ct rfl ?_
                refine W_seq ?_
                refine W_reg ?_
                refine L_op rfl (X_assign (v := (.bool (false))) rfl ?_)
                refine L_nil ?_
                refine T_n ?_
                refine W_ret ?_
                refine B_r ?_
                refine T_r ?_
                refine T_r ?_
                refine B_r ?_
                refine T_r ?_
                exact BQ_r (End_1 Try.results14 (v := .bool false) rfl ⟨⟨false, rfl, ⟨fun h => (by cases h), fun h => (by have h1 := hst.1 (inB_mono h.2.2 hi); have h2 := (inB_mono h.2.2 hi) i a (Nat.lt_succ_self _) hai; have h3_ := of_decide_eq_true hs28; omega)⟩⟩, hU.own hn0⟩)
              · rcases Bool.eq_false_or_eq_true (decide (((ps.length : Nat) : Int) ≤ a)) with hs30 | hs30
                · refine W_draw 30 [[], [0], [], [0, 1, 2], [0, 1, 2, 3], [0, 1, 2, 3, 4], [0, 1, 2, 3, 4, 5], [0, 1, 2, 3, 4, 5, 6], [0, 1, 2, 3, 4, 5, 6, 7], [0, 1, 2, 3, 4, 5, 6], [0, 1, 2, 3, 4, 5, 6, 7, 8, 9], [0, 1, 2, 3, 4, 5, 6, 7, 8, 9, 10], [0, 1, 2, 3, 4, 5, 6], [0, 1, 2, 3, 4, 5, 6, 7, 8, 9, 10, 11, 12], [0, 1, 2, 3, 4, 5, 6, 7, 8, 9, 10, 11, 12, 13], [0, 1, 2, 3, 4, 5, 6, 7, 8, 9, 10, 11, 12, 13, 14], [0, 1, 2, 3, 4, 5, 6, 7, 8, 9, 10, 11, 12, 13, 14, 15], [0, 1, 2, 3, 4, 5, 6, 7, 8, 9, 10, 11, 12, 13, 14, 15, 16], [0, 1, 2, 3, 4, 5, 6, 7, 8, 9, 10, 11, 12, 13, 14, 15, 16, 17], [0, 1, 2, 3, 4, 5, 6, 7, 8, 9, 10, 11, 12, 13, 14, 15, 16, 17, 18], [0, 1, 2, 3, 4, 5, 6, 7, 8, 9, 10, 11, 12, 13, 14, 15, 16, 17, 18, 19], [0, 1, 2, 3, 4, 5, 6, 7, 8, 9, 10, 11, 12, 13, 14, 15, 16, 17, 18], [0, 1, 2, 3, 4, 5, 6, 7, 8, 9, 10, 11, 12, 13, 14, 15, 16, 17, 18, 21], [0, 1, 2, 3, 4, 5, 6, 7, 8, 9, 10, 11, 12, 13, 14, 15, 16, 17, 18, 19, 20, 21, 22], [0, 1, 2, 3, 4, 5, 6, 7, 8, 9, 10, 11, 12, 13, 14, 15, 16, 17, 18, 19, 20, 21, 22, 23], [0, 1, 2, 3, 4, 5, 6, 7, 8, 9, 10, 11, 12, 13, 14, 15, 16, 17, 18], [0, 1, 2, 3, 4, 5, 6, 7, 8, 9, 10, 11, 12, 13, 14, 15, 16, 17, 18, 25], [0, 1, 2, 3, 4, 5, 6, 7, 8, 9, 10, 11, 12, 13, 14, 15, 16, 17, 18], [0, 1, 2, 3, 4, 5, 6, 7, 8, 9, 10, 11, 12, 13, 14, 15, 16, 17, 18, 25, 26, 27], [0, 1, 2, 3, 4, 5, 6, 7, 8, 9, 10, 11, 12, 13, 14, 15, 16, 17, 18, 25, 26, 27, 28], [0, 1, 2, 3, 4, 5, 6, 7, 8, 9, 10, 11, 12, 13, 14, 15, 16, 17, 18, 19, 20, 21, 22, 23, 24, 25, 26, 27, 28, 29], [0, 1, 2, 3, 4, 5, 6, 7, 8, 9, 10, 11, 12, 13, 14, 15, 16, 17, 18, 19, 20, 21, 22, 23, 24, 25, 26, 27, 28, 29, 30], [0, 1, 2, 3, 4, 5, 6, 7, 8, 9, 10, 11, 12, 13, 14, 15, 16, 17, 18, 19, 20, 21, 22, 23, 24, 25, 26, 27, 28, 29, 30, 31]] mixed (by kernel_rfl) ?_
                  refine ⟨.det (fun val => (ptr b1 (2))), ⟨fun _ _ hv => rfl, fun _ _ _ _ _ => trivial⟩, fun val h_ W hx he => ⟨trivial, ?_⟩, ?_⟩
                  · replace hx := (Upd.drew _ _).trans hx
                    replace hc := hc.ext hx
                    replace hb := hb.ext hx
                    replace hB1 := hB1.ext hx
                    have hE := Upd.refl (fun _ => False) W
                    refine id (X_fldP (b := b1) (o := 0) (r := 2) Fd26_2 rfl rfl ?_)
                    exact ⟨hE, rfl⟩
                  refine ⟨.det (fun val => bv), ⟨fun _ _ hv => rfl, fun _ _ _ _ _ => trivial⟩, fun val h_ W hx he => ⟨trivial, ?_⟩, ?_⟩
                  · replace hx := (Upd.drew _ _).trans hx
                    replace hc := hc.ext hx
                    replace hb := hb.ext hx
                    replace hB1 := hB1.ext hx
                    have hE := Upd.refl (fun _ => False) W
                    refine id (X_load (p := (ptr b1 (2))) (v := bv) T24 rfl (hB1.at1 rfl) ?_)
                    exact ⟨hE, rfl⟩
                  refine ⟨.det (fun val => (.int .i64 (((i : Nat) : Int)))), ⟨fun _ _ hv => rfl, fun _ _ _ _ _ => trivial⟩, fun val h_ W hx he => ⟨trivial, ?_⟩, ?_⟩
                  · replace hx := (Upd.drew _ _).trans hx
                    replace hc := hc.ext hx
                    replace hb := hb.ext hx
                    replace hB1 := hB1.ext hx
                    have hE := Upd.refl (fun _ => False) W
                    refine id (X_move (v := (.int .i64 (((i : Nat) : Int)))) rfl ?_)
                    exact ⟨hE, rfl⟩
                  refine ⟨.det (fun val => (pof bv ((((i : Nat) : Int) : Int).toNat * 1))), ⟨fun _ _ hv => rfl, fun _ _ _ _ _ => trivial⟩, fun val h_ W hx he => ⟨trivial, ?_⟩, ?_⟩
                  · replace hx := (Upd.drew _ _).trans hx
                    replace hc := hc.ext hx
                    replace hb := hb.ext hx
                    replace hB1 := hB1.ext hx
                    have hE := Upd.refl (fun _ => False) W
                    refine id (X_idx (v := bv) (n := bs.length) (k := .i64) (i := ((i : Nat) : Int)) S24 rfl hb.sv rfl (by omega) (by omega) ?_)
                    exact ⟨hE, rfl⟩
                  refine ⟨.det (fun val => (.int .i64 (a))), ⟨fun _ _ hv => rfl, fun _ _ _ _ _ => trivial⟩, fun val h_ W hx he => ⟨trivial, ?_⟩, ?_⟩
                  · replace hx := (Upd.drew _ _).trans hx
                    replace hc := hc.ext hx
                    replace hb := hb.ext hx
                    replace hB1 := hB1.ext hx
                    have hE := Upd.refl (fun _ => False) W
                    refine id (X_load (v := .int .i64 a) T3 rfl (iat hb (Int.toNat_natCast _) hai) ?_)
                    exact ⟨hE, rfl⟩
                  refine ⟨.det (fun val => (.bool (false))), ⟨fun _ _ hv => rfl, fun _ _ _ _ _ => trivial⟩, fun val h_ W hx he => ⟨trivial, ?_⟩, ?_⟩
                  · replace hx := (Upd.drew _ _).trans hx
                    replace hc := hc.ext hx
                    replace hb := hb.ext hx
                    replace hB1 := hB1.ext hx
                    have hE := Upd.refl (fun _ => False) W
                    refine id (X_cmp (k := .i64) (a := a) (b := 0) (r := false) rfl rfl rfl (decide_eq_false (p := ((a) : Int) < ((0) : Int)) (by have h_ := of_decide_eq_false hs28; omega)) ?_)
                    exact ⟨hE, rfl⟩
                  refine ⟨.det (fun val => (.bool (false))), ⟨fun _ _ hv => rfl, fun _ _ _ _ _ => trivial⟩, fun val h_ W hx he => ⟨trivial, ?_⟩, ?_⟩
                  · replace hx := (Upd.drew _ _).trans hx
                    replace hc := hc.ext hx
                    replace hb := hb.ext hx
                    replace hB1 := hB1.ext hx
                    have hE := Upd.refl (fun _ => False) W
                    refine id (X_move (v := (.bool (false))) rfl ?_)
                    exact ⟨hE, rfl⟩
                  refine ⟨.det (fun val => (ptr b1 (2))), ⟨fun _ _ hv => rfl, fun _ _ _ _ _ => trivial⟩, fun val h_ W hx he => ⟨⟨68, rfl, rfl⟩, ?_⟩, ?_⟩
                  · replace hx := (Upd.drew _ _).trans hx
                    replace hc := hc.ext hx
                    replace hb := hb.ext hx
                    replace hB1 := hB1.ext hx
                    have hE := Upd.refl (fun _ => False) W
                    refine id (X_fldP (b := b1) (o := 0) (r := 2) Fd26_2 rfl rfl ?_)
                    exact ⟨hE, rfl⟩
                  refine ⟨.det (fun val => bv), ⟨fun _ _ hv => rfl, fun _ _ _ _ _ => trivial⟩, fun val h_ W hx he => ⟨⟨68, rfl, rfl⟩, ?_⟩, ?_⟩
                  · replace hx := (Upd.drew _ _).trans hx
                    replace hc := hc.ext hx
                    replace hb := hb.ext hx
                    replace hB1 := hB1.ext hx
                    have hE := Upd.refl (fun _ => False) W
                    refine id (X_load (p := (ptr b1 (2))) (v := bv) T24 rfl (hB1.at1 rfl) ?_)
                    exact ⟨hE, rfl⟩
                  refine ⟨.det (fun val => (.int .i64 (((i : Nat) : Int)))), ⟨fun _ _ hv => rfl, fun _ _ _ _ _ => trivial⟩, fun val h_ W hx he => ⟨⟨68, rfl, rfl⟩, ?_⟩, ?_⟩
                  · replace hx := (Upd.drew _ _).trans hx
                    replace hc := hc.ext hx
                    replace hb := hb.ext hx
                    replace hB1 := hB1.ext hx
                    have hE := Upd.refl (fun _ => False) W
                    refine id (X_move (v := (.int .i64 (((i : Nat) : Int)))) rfl ?_)
                    exact ⟨hE, rfl⟩
                  refine ⟨.det (fun val => (pof bv ((((i : Nat) : Int) : Int).toNat * 1))), ⟨fun _ _ hv => rfl, fun _ _ _ _ _ => trivial⟩, fun val h_ W hx he => ⟨⟨68, rfl, rfl⟩, ?_⟩, ?_⟩
                  · replace hx := (Upd.drew _ _).trans hx
                    replace hc := hc.ext hx
                    replace hb := hb.ext hx
                    replace hB1 := hB1.ext hx
                    have hE := Upd.refl (fun _ => False) W
                    refine id (X_idx (v := bv) (n := bs.length) (k := .i64) (i := ((i : Nat) : Int)) S24 rfl hb.sv rfl (by omega) (by omega) ?_)
                    exact ⟨hE, rfl⟩
                  refine ⟨.det (fun val => (.int .i64 (a))), ⟨fun _ _ hv => rfl, fun _ _ _ _ _ => trivial⟩, fun val h_ W hx he => ⟨⟨68, rfl, rfl⟩, ?_⟩, ?_⟩
                  · replace hx := (Upd.drew _ _).trans hx
                    replace hc := hc.ext hx
                    replace hb := hb.ext hx
                    replace hB1 := hB1.ext hx
                    have hE := Upd.refl (fun _ => False) W
                    refine id (X_load (v := .int .i64 a) T3 rfl (iat hb (Int.toNat_natCast _) hai) ?_)
                    exact ⟨hE, rfl⟩
                  refine ⟨.det (fun val => (.int .i64 (((ps.length : Nat) : Int)))), ⟨fun _ _ hv => rfl, fun _ _ _ _ _ => trivial⟩, fun val h_ W hx he => ⟨⟨68, rfl, rfl⟩, ?_⟩, ?_⟩
                  · replace hx := (Upd.drew _ _).trans hx
                    replace hc := hc.ext hx
                    replace hb := hb.ext hx
                    replace hB1 := hB1.ext hx
                    have hE := Upd.refl (fun _ => False) W
                    refine id (X_move (v := (.int .i64 (((ps.length : Nat) : Int)))) rfl ?_)
                    exact ⟨hE, rfl⟩
                  refine ⟨.det (fun val => (.bool (true))), ⟨fun _ _ hv => rfl, fun _ _ _ _ _ => trivial⟩, fun val h_ W hx he => ⟨⟨68, rfl, rfl⟩, ?_⟩, ?_⟩
                  · replace hx := (Upd.drew _ _).trans hx
                    replace hc := hc.ext hx
                    replace hb := hb.ext hx
                    replace hB1 := hB1.ext hx
                    have hE := Upd.refl (fun _ => False) W
                    refine id (X_cmp (k := .i64) (a := a) (b := ((ps.length : Nat) : Int)) (r := true) rfl rfl rfl (decide_eq_true (p := ((((ps.length : Nat) : Int)) : Int) ≤ ((a) : Int)) (by have h_ := of_decide_eq_true hs30; omega)) ?_)
                    exact ⟨hE, rfl⟩
                  refine ⟨.det (fun val => (.bool (true))), ⟨fun _ _ hv => rfl, fun _ _ _ _ _ => trivial⟩, fun val h_ W hx he => ⟨trivial, ?_⟩, ?_⟩
                  · replace hx := (Upd.drew _ _).trans hx
                    replace hc := hc.ext hx
                    replace hb := hb.ext hx
                    replace hB1 := hB1.ext hx
                    have hE := Upd.refl (fun _ => False) W
                    refine id (X_pick (t := false) (v := (.bool (true))) rfl rfl ?_)
                    exact ⟨hE, rfl⟩
                  refine ⟨.det (fun val => (.bool (true))), ⟨fun _ _ hv => rfl, fun _ _ _ _ _ => trivial⟩, fun val h_ W hx he => ⟨trivial, ?_⟩, ?_⟩
                  · replace hx := (Upd.drew _ _).trans hx
                    replace hc := hc.ext hx
                    replace hb := hb.ext hx
                    replace hB1 := hB1.ext hx
                    have hE := Upd.refl (fun _ => False) W
                    refine id (X_move (v := (.bool (true))) rfl ?_)
                    exact ⟨hE, rfl⟩
                  refine ⟨.no, ⟨fun _ _ _ => trivial, fun _ _ _ _ _ => trivial⟩, fun val h_ W hx he => ⟨77, rfl, .inl rfl⟩, ?_⟩
                  refine ⟨.no, ⟨fun _ _ _ => trivial, fun _ _ _ _ _ => trivial⟩, fun val h_ W hx he => ⟨77, rfl, .inl rfl⟩, ?_⟩
                  refine ⟨.no, ⟨fun _ _ _ => trivial, fun _ _ _ _ _ => trivial⟩, fun val h_ W hx he => ⟨77, rfl, .inl rfl⟩, ?_⟩
                  refine ⟨.no, ⟨fun _ _ _ => trivial, fun _ _ _ _ _ => trivial⟩, fun val h_ W hx he => ⟨80, rfl, .inr rfl⟩, ?_⟩
                  refine ⟨.no, ⟨fun _ _ _ => trivial, fun _ _ _ _ _ => trivial⟩, fun val h_ W hx he => ⟨80, rfl, .inr rfl⟩, ?_⟩
                  refine ⟨.no, ⟨fun _ _ _ => trivial, fun _ _ _ _ _ => trivial⟩, fun val h_ W hx he => ⟨80, rfl, .inr rfl⟩, ?_⟩
                  refine ⟨.no, ⟨fun _ _ _ => trivial, fun _ _ _ _ _ => trivial⟩, fun val h_ W hx he => ⟨80, rfl, .inr rfl⟩, ?_⟩
                  refine ⟨.no, ⟨fun _ _ _ => trivial, fun _ _ _ _ _ => trivial⟩, fun val h_ W hx he => ⟨80, rfl, .inr rfl⟩, ?_⟩
                  refine ⟨.no, ⟨fun _ _ _ => trivial, fun _ _ _ _ _ => trivial⟩, fun val h_ W hx he => ⟨80, rfl, .inr rfl⟩, ?_⟩
                  refine ⟨.no, ⟨fun _ _ _ => trivial, fun _ _ _ _ _ => trivial⟩, fun val h_ W hx he => ⟨80, rfl, .inr rfl⟩, ?_⟩
                  refine ⟨.no, ⟨fun _ _ _ => trivial, fun _ _ _ _ _ => trivial⟩, fun val h_ W hx he => ⟨80, rfl, .inr rfl⟩, ?_⟩
                  refine ⟨.no, ⟨fun _ _ _ => trivial, fun _ _ _ _ _ => trivial⟩, fun val h_ W hx he => ⟨80, rfl, .inr rfl⟩, ?_⟩
                  refine ⟨.no, ⟨fun _ _ _ => trivial, fun _ _ _ _ _ => trivial⟩, fun val h_ W hx he => ⟨80, rfl, .inr rfl⟩, ?_⟩
                  refine ⟨.no, ⟨fun _ _ _ => trivial, fun _ _ _ _ _ => trivial⟩, fun val h_ W hx he => ⟨80, rfl, .inr rfl⟩, ?_⟩
                  intro val W31 hx31 he31
                  replace hx31 := (Upd.drew _ _).trans hx31
                  have hz31 := hx31.size
                  replace hc := hc.ext hx31
                  replace hb := hb.ext hx31
                  replace hU := hU.trans (Ext.upd hx31)
                  replace hB1 := hB1.ext hx31
                  refine L_gu (dj := 80) rfl rfl rfl ?_
                  refine L_gn (dj := 77) (t := true) rfl rfl rfl rfl ?_
                  refine L_op rfl (X_pick (t := true) (v := (.bool (true))) rfl rfl ?_)
                  refine L_nil ?_
                  refine T_n ?_
                  refine W_ct rfl ?_
                  refine W_seq ?_
                  refine W_reg ?_
                  refine L_op rfl (X_assign (v := (.bool (false))) rfl ?_)
                  refine L_nil ?_
                  refine T_n ?_
                  refine W_ret ?_
                  refine B_r ?_
                  refine T_r ?_
                  refine T_r ?_
                  refine B_r ?_
                  refine T_r ?_
                  exact BQ_r (End_1 Try.results14 (v := .bool false) rfl ⟨⟨false, rfl, ⟨fun h => (by cases h), fun h => (by have h1 := hst.1 (inB_mono h.2.2 hi); have h2 := (inB_mono h.2.2 hi) i a (Nat.lt_succ_self _) hai; have h3_ := of_decide_eq_false hs28; have h4_ := of_decide_eq_true hs30; omega)⟩⟩, hU.own hn0⟩)
                · rcases Bool.eq_false_or_eq_true (decide (0 < i)) with hs32 | hs32
                  · rcases Bool.eq_false_or_eq_true (decide (a ≤ before bs i)) with hs33 | hs33
                    · have hi0 := of_decide_eq_true hs32
                      obtain ⟨a0, ha0⟩ : ∃ a, bs[i - 1]? = some a := ⟨_, List.getElem?_eq_getElem (by omega)⟩
                      have hbe := inB_prev hi0 ha0
                      refine W_draw 30 [[], [0], [], [0, 1, 2], [0, 1, 2, 3], [0, 1, 2, 3, 4], [0, 1, 2, 3, 4, 5], [0, 1, 2, 3, 4, 5, 6], [0, 1, 2, 3, 4, 5, 6, 7], [0, 1, 2, 3, 4, 5, 6], [0, 1, 2, 3, 4, 5, 6, 7, 8, 9], [0, 1, 2, 3, 4, 5, 6, 7, 8, 9, 10], [0, 1, 2, 3, 4, 5, 6], [0, 1, 2, 3, 4, 5, 6, 7, 8, 9, 10, 11, 12], [0, 1, 2, 3, 4, 5, 6, 7, 8, 9, 10, 11, 12, 13], [0, 1, 2, 3, 4, 5, 6, 7, 8, 9, 10, 11, 12, 13, 14], [0, 1, 2, 3, 4, 5, 6, 7, 8, 9, 10, 11, 12, 13, 14, 15], [0, 1, 2, 3, 4, 5, 6, 7, 8, 9, 10, 11, 12, 13, 14, 15, 16], [0, 1, 2, 3, 4, 5, 6, 7, 8, 9, 10, 11, 12, 13, 14, 15, 16, 17], [0, 1, 2, 3, 4, 5, 6, 7, 8, 9, 10, 11, 12, 13, 14, 15, 16, 17, 18], [0, 1, 2, 3, 4, 5, 6, 7, 8, 9, 10, 11, 12, 13, 14, 15, 16, 17, 18, 19], [0, 1, 2, 3, 4, 5, 6, 7, 8, 9, 10, 11, 12, 13, 14, 15, 16, 17, 18], [0, 1, 2, 3, 4, 5, 6, 7, 8, 9, 10, 11, 12, 13, 14, 15, 16, 17, 18, 21], [0, 1, 2, 3, 4, 5, 6, 7, 8, 9, 10, 11, 12, 13, 14, 15, 16, 17, 18, 19, 20, 21, 22], [0, 1, 2, 3, 4, 5, 6, 7, 8, 9, 10, 11, 12, 13, 14, 15, 16, 17, 18, 19, 20, 21, 22, 23], [0, 1, 2, 3, 4, 5, 6, 7, 8, 9, 10, 11, 12, 13, 14, 15, 16, 17, 18], [0, 1, 2, 3, 4, 5, 6, 7, 8, 9, 10, 11, 12, 13, 14, 15, 16, 17, 18, 25], [0, 1, 2, 3, 4, 5, 6, 7, 8, 9, 10, 11, 12, 13, 14, 15, 16, 17, 18], [0, 1, 2, 3, 4, 5, 6, 7, 8, 9, 10, 11, 12, 13, 14, 15, 16, 17, 18, 25, 26, 27], [0, 1, 2, 3, 4, 5, 6, 7, 8, 9, 10, 11, 12, 13, 14, 15, 16, 17, 18, 25, 26, 27, 28], [0, 1, 2, 3, 4, 5, 6, 7, 8, 9, 10, 11, 12, 13, 14, 15, 16, 17, 18, 19, 20, 21, 22, 23, 24, 25, 26, 27, 28, 29], [0, 1, 2, 3, 4, 5, 6, 7, 8, 9, 10, 11, 12, 13, 14, 15, 16, 17, 18, 19, 20, 21, 22, 23, 24, 25, 26, 27, 28, 29, 30], [0, 1, 2, 3, 4, 5, 6, 7, 8, 9, 10, 11, 12, 13, 14, 15, 16, 17, 18, 19, 20, 21, 22, 23, 24, 25, 26, 27, 28, 29, 30, 31]] mixed (by kernel_rfl) ?_
                      refine ⟨.det (fun val => (ptr b1 (2))), ⟨fun _ _ hv => rfl, fun _ _ _ _ _ => trivial⟩, fun val h_ W hx he => ⟨trivial, ?_⟩, ?_⟩
                      · replace hx := (Upd.drew _ _).trans hx
                        replace hc := hc.ext hx
                        replace hb := hb.ext hx
                        replace hB1 := hB1.ext hx
                        have hE := Upd.refl (fun _ => False) W
                        refine id (X_fldP (b := b1) (o := 0) (r := 2) Fd26_2 rfl rfl ?_)
                        exact ⟨hE, rfl⟩
                      refine ⟨.det (fun val => bv), ⟨fun _ _ hv => rfl, fun _ _ _ _ _ => trivial⟩, fun val h_ W hx he => ⟨trivial, ?_⟩, ?_⟩
                      · replace hx := (Upd.drew _ _).trans hx
                        replace hc := hc.ext hx
                        replace hb := hb.ext hx
                        replace hB1 := hB1.ext hx
                        have hE := Upd.refl (fun _ => False) W
                        refine id (X_load (p := (ptr b1 (2))) (v := bv) T24 rfl (hB1.at1 rfl) ?_)
                        exact ⟨hE, rfl⟩
                      refine ⟨.det (fun val => (.int .i64 (((i : Nat) : Int)))), ⟨fun _ _ hv => rfl, fun _ _ _ _ _ => trivial⟩, fun val h_ W hx he => ⟨trivial, ?_⟩, ?_⟩
                      · replace hx := (Upd.drew _ _).trans hx
                        replace hc := hc.ext hx
                        replace hb := hb.ext hx
                        replace hB1 := hB1.ext hx
                        have hE := Upd.refl (fun _ => False) W
                        refine id (X_move (v := (.int .i64 (((i : Nat) : Int)))) rfl ?_)
                        exact ⟨hE, rfl⟩
                      refine ⟨.det (fun val => (pof bv ((((i : Nat) : Int) : Int).toNat * 1))), ⟨fun _ _ hv => rfl, fun _ _ _ _ _ => trivial⟩, fun val h_ W hx he => ⟨trivial, ?_⟩, ?_⟩
                      · replace hx := (Upd.drew _ _).trans hx
                        replace hc := hc.ext hx
                        replace hb := hb.ext hx
                        replace hB1 := hB1.ext hx
                        have hE := Upd.refl (fun _ => False) W
                        refine id (X_idx (v := bv) (n := bs.length) (k := .i64) (i := ((i : Nat) : Int)) S24 rfl hb.sv rfl (by omega) (by omega) ?_)
                        exact ⟨hE, rfl⟩
                      refine ⟨.det (fun val => (.int .i64 (a))), ⟨fun _ _ hv => rfl, fun _ _ _ _ _ => trivial⟩, fun val h_ W hx he => ⟨trivial, ?_⟩, ?_⟩
                      · replace hx := (Upd.drew _ _).trans hx
                        replace hc := hc.ext hx
                        replace hb := hb.ext hx
                        replace hB1 := hB1.ext hx
                        have hE := Upd.refl (fun _ => False) W
                        refine id (X_load (v := .int .i64 a) T3 rfl (iat hb (Int.toNat_natCast _) hai) ?_)
                        exact ⟨hE, rfl⟩
                      refine ⟨.det (fun val => (.bool (false))), ⟨fun _ _ hv => rfl, fun _ _ _ _ _ => trivial⟩, fun val h_ W hx he => ⟨trivial, ?_⟩, ?_⟩
                      · replace hx := (Upd.drew _ _).trans hx
                        replace hc := hc.ext hx
                        replace hb := hb.ext hx
                        replace hB1 := hB1.ext hx
                        have hE := Upd.refl (fun _ => False) W
                        refine id (X_cmp (k := .i64) (a := a) (b := 0) (r := false) rfl rfl rfl (decide_eq_false (p := ((a) : Int) < ((0) : Int)) (by have h_ := of_decide_eq_false hs28; omega)) ?_)
                        exact ⟨hE, rfl⟩
                      refine ⟨.det (fun val => (.bool (false))), ⟨fun _ _ hv => rfl, fun _ _ _ _ _ => trivial⟩, fun val h_ W hx he => ⟨trivial, ?_⟩, ?_⟩
                      · replace hx := (Upd.drew _ _).trans hx
                        replace hc := hc.ext hx
                        replace hb := hb.ext hx
                        replace hB1 := hB1.ext hx
                        have hE := Upd.refl (fun _ => False) W
                        refine id (X_move (v := (.bool (false))) rfl ?_)
                        exact ⟨hE, rfl⟩
                      refine ⟨.det (fun val => (ptr b1 (2))), ⟨fun _ _ hv => rfl, fun _ _ _ _ _ => trivial⟩, fun val h_ W hx he => ⟨⟨68, rfl, rfl⟩, ?_⟩, ?_⟩
                      · replace hx := (Upd.drew _ _).trans hx
                        replace hc := hc.ext hx
                        replace hb := hb.ext hx
                        replace hB1 := hB1.ext hx
                        have hE := Upd.refl (fun _ => False) W
                        refine id (X_fldP (b := b1) (o := 0) (r := 2) Fd26_2 rfl rfl ?_)
                        exact ⟨hE, rfl⟩
                      refine ⟨.det (fun val => bv), ⟨fun _ _ hv => rfl, fun _ _ _ _ _ => trivial⟩, fun val h_ W hx he => ⟨⟨68, rfl, rfl⟩, ?_⟩, ?_⟩
                      · replace hx := (Upd.drew _ _).trans hx
                        replace hc := hc.ext hx
                        replace hb := hb.ext hx
                        replace hB1 := hB1.ext hx
                        have hE := Upd.refl (fun _ => False) W
                        refine id (X_load (p := (ptr b1 (2))) (v := bv) T24 rfl (hB1.at1 rfl) ?_)
                        exact ⟨hE, rfl⟩
                      refine ⟨.det (fun val => (.int .i64 (((i : Nat) : Int)))), ⟨fun _ _ hv => rfl, fun _ _ _ _ _ => trivial⟩, fun val h_ W hx he => ⟨⟨68, rfl, rfl⟩, ?_⟩, ?_⟩
                      · replace hx := (Upd.drew _ _).trans hx
                        replace hc := hc.ext hx
                        replace hb := hb.ext hx
                        replace hB1 := hB1.ext hx
                        have hE := Upd.refl (fun _ => False) W
                        refine id (X_move (v := (.int .i64 (((i : Nat) : Int)))) rfl ?_)
                        exact ⟨hE, rfl⟩
                      refine ⟨.det (fun val => (pof bv ((((i : Nat) : Int) : Int).toNat * 1))), ⟨fun _ _ hv => rfl, fun _ _ _ _ _ => trivial⟩, fun val h_ W hx he => ⟨⟨68, rfl, rfl⟩, ?_⟩, ?_⟩
                      · replace hx := (Upd.drew _ _).trans hx
                        replace hc := hc.ext hx
                        replace hb := hb.ext hx
                        replace hB1 := hB1.ext hx
                        have hE := Upd.refl (fun _ => False) W
                        refine id (X_idx (v := bv) (n := bs.length) (k := .i64) (i := ((i : Nat) : Int)) S24 rfl hb.sv rfl (by omega) (by omega) ?_)
                        exact ⟨hE, rfl⟩
                      refine ⟨.det (fun val => (.int .i64 (a))), ⟨fun _ _ hv => rfl, fun _ _ _ _ _ => trivial⟩, fun val h_ W hx he => ⟨⟨68, rfl, rfl⟩, ?_⟩, ?_⟩
                      · replace hx := (Upd.drew _ _).trans hx
                        replace hc := hc.ext hx
                        replace hb := hb.ext hx
                        replace hB1 := hB1.ext hx
                        have hE := Upd.refl (fun _ => False) W
                        refine id (X_load (v := .int .i64 a) T3 rfl (iat hb (Int.toNat_natCast _) hai) ?_)
                        exact ⟨hE, rfl⟩
                      refine ⟨.det (fun val => (.int .i64 (((ps.length : Nat) : Int)))), ⟨fun _ _ hv => rfl, fun _ _ _ _ _ => trivial⟩, fun val h_ W hx he => ⟨⟨68, rfl, rfl⟩, ?_⟩, ?_⟩
                      · replace hx := (Upd.drew _ _).trans hx
                        replace hc := hc.ext hx
                        replace hb := hb.ext hx
                        replace hB1 := hB1.ext hx
                        have hE := Upd.refl (fun _ => False) W
                        refine id (X_move (v := (.int .i64 (((ps.length : Nat) : Int)))) rfl ?_)
                        exact ⟨hE, rfl⟩
                      refine ⟨.det (fun val => (.bool (false))), ⟨fun _ _ hv => rfl, fun _ _ _ _ _ => trivial⟩, fun val h_ W hx he => ⟨⟨68, rfl, rfl⟩, ?_⟩, ?_⟩
                      · replace hx := (Upd.drew _ _).trans hx
                        replace hc := hc.ext hx
                        replace hb := hb.ext hx
                        replace hB1 := hB1.ext hx
                        have hE := Upd.refl (fun _ => False) W
                        refine id (X_cmp (k := .i64) (a := a) (b := ((ps.length : Nat) : Int)) (r := false) rfl rfl rfl (decide_eq_false (p := ((((ps.length : Nat) : Int)) : Int) ≤ ((a) : Int)) (by have h_ := of_decide_eq_false hs30; omega)) ?_)
                        exact ⟨hE, rfl⟩
                      refine ⟨.det (fun val => (.bool (false))), ⟨fun _ _ hv => rfl, fun _ _ _ _ _ => trivial⟩, fun val h_ W hx he => ⟨trivial, ?_⟩, ?_⟩
                      · replace hx := (Upd.drew _ _).trans hx
                        replace hc := hc.ext hx
                        replace hb := hb.ext hx
                        replace hB1 := hB1.ext hx
                        have hE := Upd.refl (fun _ => False) W
                        refine id (X_pick (t := false) (v := (.bool (false))) rfl rfl ?_)
                        exact ⟨hE, rfl⟩
                      refine ⟨.det (fun val => (.bool (false))), ⟨fun _ _ hv => rfl, fun _ _ _ _ _ => trivial⟩, fun val h_ W hx he => ⟨trivial, ?_⟩, ?_⟩
                      · replace hx := (Upd.drew _ _).trans hx
                        replace hc := hc.ext hx
                        replace hb := hb.ext hx
                        replace hB1 := hB1.ext hx
                        have hE := Upd.refl (fun _ => False) W
                        refine id (X_move (v := (.bool (false))) rfl ?_)
                        exact ⟨hE, rfl⟩
                      refine ⟨.det (fun val => (.int .i64 (((i : Nat) : Int)))), ⟨fun _ _ hv => rfl, fun _ _ _ _ _ => trivial⟩, fun val h_ W hx he => ⟨⟨77, rfl, rfl⟩, ?_⟩, ?_⟩
                      · replace hx := (Upd.drew _ _).trans hx
                        replace hc := hc.ext hx
                        replace hb := hb.ext hx
                        replace hB1 := hB1.ext hx
                        have hE := Upd.refl (fun _ => False) W
                        refine id (X_move (v := (.int .i64 (((i : Nat) : Int)))) rfl ?_)
                        exact ⟨hE, rfl⟩
                      refine ⟨.det (fun val => (.bool (true))), ⟨fun _ _ hv => rfl, fun _ _ _ _ _ => trivial⟩, fun val h_ W hx he => ⟨⟨77, rfl, rfl⟩, ?_⟩, ?_⟩
                      · replace hx := (Upd.drew _ _).trans hx
                        replace hc := hc.ext hx
                        replace hb := hb.ext hx
                        replace hB1 := hB1.ext hx
                        have hE := Upd.refl (fun _ => False) W
                        refine id (X_cmp (k := .i64) (a := ((i : Nat) : Int)) (b := 0) (r := true) rfl rfl rfl (decide_eq_true (p := ((0) : Int) < ((((i : Nat) : Int)) : Int)) (by have h_ := of_decide_eq_true hs32; omega)) ?_)
                        exact ⟨hE, rfl⟩
                      refine ⟨.det (fun val => (.bool (true))), ⟨fun _ _ hv => rfl, fun _ _ _ _ _ => trivial⟩, fun val h_ W hx he => ⟨⟨77, rfl, rfl⟩, ?_⟩, ?_⟩
                      · replace hx := (Upd.drew _ _).trans hx
                        replace hc := hc.ext hx
                        replace hb := hb.ext hx
                        replace hB1 := hB1.ext hx
                        have hE := Upd.refl (fun _ => False) W
                        refine id (X_move (v := (.bool (true))) rfl ?_)
                        exact ⟨hE, rfl⟩
                      refine ⟨.det (fun val => (ptr b1 (2))), ⟨fun _ _ hv => rfl, fun _ _ _ _ _ => trivial⟩, fun val h_ W hx he => ⟨⟨80, rfl, rfl⟩, ?_⟩, ?_⟩
                      · replace hx := (Upd.drew _ _).trans hx
                        replace hc := hc.ext hx
                        replace hb := hb.ext hx
                        replace hB1 := hB1.ext hx
                        have hE := Upd.refl (fun _ => False) W
                        refine id (X_fldP (b := b1) (o := 0) (r := 2) Fd26_2 rfl rfl ?_)
                        exact ⟨hE, rfl⟩
                      refine ⟨.det (fun val => bv), ⟨fun _ _ hv => rfl, fun _ _ _ _ _ => trivial⟩, fun val h_ W hx he => ⟨⟨80, rfl, rfl⟩, ?_⟩, ?_⟩
                      · replace hx := (Upd.drew _ _).trans hx
                        replace hc := hc.ext hx
                        replace hb := hb.ext hx
                        replace hB1 := hB1.ext hx
                        have hE := Upd.refl (fun _ => False) W
                        refine id (X_load (p := (ptr b1 (2))) (v := bv) T24 rfl (hB1.at1 rfl) ?_)
                        exact ⟨hE, rfl⟩
                      refine ⟨.det (fun val => (.int .i64 (((i : Nat) : Int)))), ⟨fun _ _ hv => rfl, fun _ _ _ _ _ => trivial⟩, fun val h_ W hx he => ⟨⟨80, rfl, rfl⟩, ?_⟩, ?_⟩
                      · replace hx := (Upd.drew _ _).trans hx
                        replace hc := hc.ext hx
                        replace hb := hb.ext hx
                        replace hB1 := hB1.ext hx
                        have hE := Upd.refl (fun _ => False) W
                        refine id (X_move (v := (.int .i64 (((i : Nat) : Int)))) rfl ?_)
                        exact ⟨hE, rfl⟩
                      refine ⟨.det (fun val => (.int .i64 (((i - 1 : Nat) : Int)))), ⟨fun _ _ hv => rfl, fun _ _ _ _ _ => trivial⟩, fun val h_ W hx he => ⟨⟨80, rfl, rfl⟩, ?_⟩, ?_⟩
                      · replace hx := (Upd.drew _ _).trans hx
                        replace hc := hc.ext hx
                        replace hb := hb.ext hx
                        replace hB1 := hB1.ext hx
                        have hE := Upd.refl (fun _ => False) W
                        refine id (X_arith (k := .i64) (a := ((i : Nat) : Int)) (b := 1) (r := ((i - 1 : Nat) : Int)) rfl rfl rfl (isub64 (by omega) (by omega) (by omega)) ?_)
                        exact ⟨hE, rfl⟩
                      refine ⟨.det (fun val => (pof bv ((((i - 1 : Nat) : Int) : Int).toNat * 1))), ⟨fun _ _ hv => rfl, fun _ _ _ _ _ => trivial⟩, fun val h_ W hx he => ⟨⟨80, rfl, rfl⟩, ?_⟩, ?_⟩
                      · replace hx := (Upd.drew _ _).trans hx
                        replace hc := hc.ext hx
                        replace hb := hb.ext hx
                        replace hB1 := hB1.ext hx
                        have hE := Upd.refl (fun _ => False) W
                        refine id (X_idx (v := bv) (n := bs.length) (k := .i64) (i := ((i - 1 : Nat) : Int)) S24 rfl hb.sv rfl (by omega) (by omega) ?_)
                        exact ⟨hE, rfl⟩
                      refine ⟨.det (fun val => (.int .i64 (a0))), ⟨fun _ _ hv => rfl, fun _ _ _ _ _ => trivial⟩, fun val h_ W hx he => ⟨⟨80, rfl, rfl⟩, ?_⟩, ?_⟩
                      · replace hx := (Upd.drew _ _).trans hx
                        replace hc := hc.ext hx
                        replace hb := hb.ext hx
                        replace hB1 := hB1.ext hx
                        have hE := Upd.refl (fun _ => False) W
                        refine id (X_load (v := .int .i64 a0) T3 rfl (iat hb (Int.toNat_natCast _) ha0) ?_)
                        exact ⟨hE, rfl⟩
                      refine ⟨.det (fun val => (ptr b1 (2))), ⟨fun _ _ hv => rfl, fun _ _ _ _ _ => trivial⟩, fun val h_ W hx he => ⟨⟨80, rfl, rfl⟩, ?_⟩, ?_⟩
                      · replace hx := (Upd.drew _ _).trans hx
                        replace hc := hc.ext hx
                        replace hb := hb.ext hx
                        replace hB1 := hB1.ext hx
                        have hE := Upd.refl (fun _ => False) W
                        refine id (X_fldP (b := b1) (o := 0) (r := 2) Fd26_2 rfl rfl ?_)
                        exact ⟨hE, rfl⟩
                      refine ⟨.det (fun val => bv), ⟨fun _ _ hv => rfl, fun _ _ _ _ _ => trivial⟩, fun val h_ W hx he => ⟨⟨80, rfl, rfl⟩, ?_⟩, ?_⟩
                      · replace hx := (Upd.drew _ _).trans hx
                        replace hc := hc.ext hx
                        replace hb := hb.ext hx
                        replace hB1 := hB1.ext hx
                        have hE := Upd.refl (fun _ => False) W
                        refine id (X_load (p := (ptr b1 (2))) (v := bv) T24 rfl (hB1.at1 rfl) ?_)
                        exact ⟨hE, rfl⟩
                      refine ⟨.det (fun val => (.int .i64 (((i : Nat) : Int)))), ⟨fun _ _ hv => rfl, fun _ _ _ _ _ => trivial⟩, fun val h_ W hx he => ⟨⟨80, rfl, rfl⟩, ?_⟩, ?_⟩
                      · replace hx := (Upd.drew _ _).trans hx
                        replace hc := hc.ext hx
                        replace hb := hb.ext hx
                        replace hB1 := hB1.ext hx
                        have hE := Upd.refl (fun _ => False) W
                        refine id (X_move (v := (.int .i64 (((i : Nat) : Int)))) rfl ?_)
                        exact ⟨hE, rfl⟩
                      refine ⟨.det (fun val => (pof bv ((((i : Nat) : Int) : Int).toNat * 1))), ⟨fun _ _ hv => rfl, fun _ _ _ _ _ => trivial⟩, fun val h_ W hx he => ⟨⟨80, rfl, rfl⟩, ?_⟩, ?_⟩
                      · replace hx := (Upd.drew _ _).trans hx
                        replace hc := hc.ext hx
                        replace hb := hb.ext hx
                        replace hB1 := hB1.ext hx
                        have hE := Upd.refl (fun _ => False) W
                        refine id (X_idx (v := bv) (n := bs.length) (k := .i64) (i := ((i : Nat) : Int)) S24 rfl hb.sv rfl (by omega) (by omega) ?_)
                        exact ⟨hE, rfl⟩
                      refine ⟨.det (fun val => (.int .i64 (a))), ⟨fun _ _ hv => rfl, fun _ _ _ _ _ => trivial⟩, fun val h_ W hx he => ⟨⟨80, rfl, rfl⟩, ?_⟩, ?_⟩
                      · replace hx := (Upd.drew _ _).trans hx
                        replace hc := hc.ext hx
                        replace hb := hb.ext hx
                        replace hB1 := hB1.ext hx
                        have hE := Upd.refl (fun _ => False) W
                        refine id (X_load (v := .int .i64 a) T3 rfl (iat hb (Int.toNat_natCast _) hai) ?_)
                        exact ⟨hE, rfl⟩
                      intro val W34 hx34 he34
                      replace hx34 := (Upd.drew _ _).trans hx34
                      have hz34 := hx34.size
                      replace hc := hc.ext hx34
                      replace hb := hb.ext hx34
                      replace hU := hU.trans (Ext.upd hx34)
                      replace hB1 := hB1.ext hx34
                      refine L_gy (dj := 80) rfl rfl rfl (X_cmp (k := .i64) (a := a0) (b := a) (r := true) rfl rfl rfl (decide_eq_true (p := ((a) : Int) ≤ ((a0) : Int)) (by have h_ := of_decide_eq_true hs33; omega)) ?_)
                      refine L_gy (dj := 77) rfl rfl rfl (X_pick (t := true) (v := (.bool (true))) rfl rfl ?_)
                      refine L_op rfl (X_pick (t := false) (v := (.bool (true))) rfl rfl ?_)
                      refine L_nil ?_
                      refine T_n ?_
                      refine W_ct rfl ?_
                      refine W_seq ?_
                      refine W_reg ?_
                      refine L_op rfl (X_assign (v := (.bool (false))) rfl ?_)
                      refine L_nil ?_
                      refine T_n ?_
                      refine W_ret ?_
                      refine B_r ?_
                      refine T_r ?_
                      refine T_r ?_
                      refine B_r ?_
                      refine T_r ?_
                      exact BQ_r (End_1 Try.results14 (v := .bool false) rfl ⟨⟨false, rfl, ⟨fun h => (by cases h), fun h => (by have h1 := hst.1 (inB_mono h.2.2 hi); have h2 := (inB_mono h.2.2 hi) i a (Nat.lt_succ_self _) hai; have h3_ := of_decide_eq_false hs28; have h4_ := of_decide_eq_false hs30; have h5_ := of_decide_eq_true hs32; have h6_ := of_decide_eq_true hs33; omega)⟩⟩, hU.own hn0⟩)
                    · have hi0 := of_decide_eq_true hs32
                      obtain ⟨a0, ha0⟩ : ∃ a, bs[i - 1]? = some a := ⟨_, List.getElem?_eq_getElem (by omega)⟩
                      have hbe := inB_prev hi0 ha0
                      refine W_draw 30 [[], [0], [], [0, 1, 2], [0, 1, 2, 3], [0, 1, 2, 3, 4], [0, 1, 2, 3, 4, 5], [0, 1, 2, 3, 4, 5, 6], [0, 1, 2, 3, 4, 5, 6, 7], [0, 1, 2, 3, 4, 5, 6], [0, 1, 2, 3, 4, 5, 6, 7, 8, 9], [0, 1, 2, 3, 4, 5, 6, 7, 8, 9, 10], [0, 1, 2, 3, 4, 5, 6], [0, 1, 2, 3, 4, 5, 6, 7, 8, 9, 10, 11, 12], [0, 1, 2, 3, 4, 5, 6, 7, 8, 9, 10, 11, 12, 13], [0, 1, 2, 3, 4, 5, 6, 7, 8, 9, 10, 11, 12, 13, 14], [0, 1, 2, 3, 4, 5, 6, 7, 8, 9, 10, 11, 12, 13, 14, 15], [0, 1, 2, 3, 4, 5, 6, 7, 8, 9, 10, 11, 12, 13, 14, 15, 16], [0, 1, 2, 3, 4, 5, 6, 7, 8, 9, 10, 11, 12, 13, 14, 15, 16, 17], [0, 1, 2, 3, 4, 5, 6, 7, 8, 9, 10, 11, 12, 13, 14, 15, 16, 17, 18], [0, 1, 2, 3, 4, 5, 6, 7, 8, 9, 10, 11, 12, 13, 14, 15, 16, 17, 18, 19], [0, 1, 2, 3, 4, 5, 6, 7, 8, 9, 10, 11, 12, 13, 14, 15, 16, 17, 18], [0, 1, 2, 3, 4, 5, 6, 7, 8, 9, 10, 11, 12, 13, 14, 15, 16, 17, 18, 21], [0, 1, 2, 3, 4, 5, 6, 7, 8, 9, 10, 11, 12, 13, 14, 15, 16, 17, 18, 19, 20, 21, 22], [0, 1, 2, 3, 4, 5, 6, 7, 8, 9, 10, 11, 12, 13, 14, 15, 16, 17, 18, 19, 20, 21, 22, 23], [0, 1, 2, 3, 4, 5, 6, 7, 8, 9, 10, 11, 12, 13, 14, 15, 16, 17, 18], [0, 1, 2, 3, 4, 5, 6, 7, 8, 9, 10, 11, 12, 13, 14, 15, 16, 17, 18, 25], [0, 1, 2, 3, 4, 5, 6, 7, 8, 9, 10, 11, 12, 13, 14, 15, 16, 17, 18], [0, 1, 2, 3, 4, 5, 6, 7, 8, 9, 10, 11, 12, 13, 14, 15, 16, 17, 18, 25, 26, 27], [0, 1, 2, 3, 4, 5, 6, 7, 8, 9, 10, 11, 12, 13, 14, 15, 16, 17, 18, 25, 26, 27, 28], [0, 1, 2, 3, 4, 5, 6, 7, 8, 9, 10, 11, 12, 13, 14, 15, 16, 17, 18, 19, 20, 21, 22, 23, 24, 25, 26, 27, 28, 29], [0, 1, 2, 3, 4, 5, 6, 7, 8, 9, 10, 11, 12, 13, 14, 15, 16, 17, 18, 19, 20, 21, 22, 23, 24, 25, 26, 27, 28, 29, 30], [0, 1, 2, 3, 4, 5, 6, 7, 8, 9, 10, 11, 12, 13, 14, 15, 16, 17, 18, 19, 20, 21, 22, 23, 24, 25, 26, 27, 28, 29, 30, 31]] mixed (by kernel_rfl) ?_
                      refine ⟨.det (fun val => (ptr b1 (2))), ⟨fun _ _ hv => rfl, fun _ _ _ _ _ => trivial⟩, fun val h_ W hx he => ⟨trivial, ?_⟩, ?_⟩
                      · replace hx := (Upd.drew _ _).trans hx
                        replace hc := hc.ext hx
                        replace hb := hb.ext hx
                        replace hB1 := hB1.ext hx
                        have hE := Upd.refl (fun _ => False) W
                        refine id (X_fldP (b := b1) (o := 0) (r := 2) Fd26_2 rfl rfl ?_)
                        exact ⟨hE, rfl⟩
                      refine ⟨.det (fun val => bv), ⟨fun _ _ hv => rfl, fun _ _ _ _ _ => trivial⟩, fun val h_ W hx he => ⟨trivial, ?_⟩, ?_⟩
                      · replace hx := (Upd.drew _ _).trans hx
                        replace hc := hc.ext hx
                        replace hb := hb.ext hx
                        replace hB1 := hB1.ext hx
                        have hE := Upd.refl (fun _ => False) W
                        refine id (X_load (p := (ptr b1 (2))) (v := bv) T24 rfl (hB1.at1 rfl) ?_)
                        exact ⟨hE, rfl⟩
                      refine ⟨.det (fun val => (.int .i64 (((i : Nat) : Int)))), ⟨fun _ _ hv => rfl, fun _ _ _ _ _ => trivial⟩, fun val h_ W hx he => ⟨trivial, ?_⟩, ?_⟩
                      · replace hx := (Upd.drew _ _).trans hx
                        replace hc := hc.ext hx
                        replace hb := hb.ext hx
                        replace hB1 := hB1.ext hx
                        have hE := Upd.refl (fun _ => False) W
                        refine id (X_move (v := (.int .i64 (((i : Nat) : Int)))) rfl ?_)
                        exact ⟨hE, rfl⟩
                      refine ⟨.det (fun val => (pof bv ((((i : Nat) : Int) : Int).toNat * 1))), ⟨fun _ _ hv => rfl, fun _ _ _ _ _ => trivial⟩, fun val h_ W hx he => ⟨trivial, ?_⟩, ?_⟩
                      · replace hx := (Upd.drew _ _).trans hx
                        replace hc := hc.ext hx
                        replace hb := hb.ext hx
                        replace hB1 := hB1.ext hx
                        have hE := Upd.refl (fun _ => False) W
                        refine id (X_idx (v := bv) (n := bs.length) (k := .i64) (i := ((i : Nat) : Int)) S24 rfl hb.sv rfl (by omega) (by omega) ?_)
                        exact ⟨hE, rfl⟩
                      refine ⟨.det (fun val => (.int .i64 (a))), ⟨fun _ _ hv => rfl, fun _ _ _ _ _ => trivial⟩, fun val h_ W hx he => ⟨trivial, ?_⟩, ?_⟩
                      · replace hx := (Upd.drew _ _).trans hx
                        replace hc := hc.ext hx
                        replace hb := hb.ext hx
                        replace hB1 := hB1.ext hx
                        have hE := Upd.refl (fun _ => False) W
                        refine id (X_load (v := .int .i64 a) T3 rfl (iat hb (Int.toNat_natCast _) hai) ?_)
                        exact ⟨hE, rfl⟩
                      refine ⟨.det (fun val => (.bool (false))), ⟨fun _ _ hv => rfl, fun _ _ _ _ _ => trivial⟩, fun val h_ W hx he => ⟨trivial, ?_⟩, ?_⟩
                      · replace hx := (Upd.drew _ _).trans hx
                        replace hc := hc.ext hx
                        replace hb := hb.ext hx
                        replace hB1 := hB1.ext hx
                        have hE := Upd.refl (fun _ => False) W
                        refine id (X_cmp (k := .i64) (a := a) (b := 0) (r := false) rfl rfl rfl (decide_eq_false (p := ((a) : Int) < ((0) : Int)) (by have h_ := of_decide_eq_false hs28; omega)) ?_)
                        exact ⟨hE, rfl⟩
                      refine ⟨.det (fun val => (.bool (false))), ⟨fun _ _ hv => rfl, fun _ _ _ _ _ => trivial⟩, fun val h_ W hx he => ⟨trivial, ?_⟩, ?_⟩
                      · replace hx := (Upd.drew _ _).trans hx
                        replace hc := hc.ext hx
                        replace hb := hb.ext hx
                        replace hB1 := hB1.ext hx
                        have hE := Upd.refl (fun _ => False) W
                        refine id (X_move (v := (.bool (false))) rfl ?_)
                        exact ⟨hE, rfl⟩
                      refine ⟨.det (fun val => (ptr b1 (2))), ⟨fun _ _ hv => rfl, fun _ _ _ _ _ => trivial⟩, fun val h_ W hx he => ⟨⟨68, rfl, rfl⟩, ?_⟩, ?_⟩
                      · replace hx := (Upd.drew _ _).trans hx
                        replace hc := hc.ext hx
                        replace hb := hb.ext hx
                        replace hB1 := hB1.ext hx
                        have hE := Upd.refl (fun _ => False) W
                        refine id (X_fldP (b := b1) (o := 0) (r := 2) Fd26_2 rfl rfl ?_)
                        exact ⟨hE, rfl⟩
                      refine ⟨.det (fun val => bv), ⟨fun _ _ hv => rfl, fun _ _ _ _ _ => trivial⟩, fun val h_ W hx he => ⟨⟨68, rfl, rfl⟩, ?_⟩, ?_⟩
                      · replace hx := (Upd.drew _ _).trans hx
                        replace hc := hc.ext hx
                        replace hb := hb.ext hx
                        replace hB1 := hB1.ext hx
                        have hE := Upd.refl (fun _ => False) W
                        refine id (X_load (p := (ptr b1 (2))) (v := bv) T24 rfl (hB1.at1 rfl) ?_)
                        exact ⟨hE, rfl⟩
                      refine ⟨.det (fun val => (.int .i64 (((i : Nat) : Int)))), ⟨fun _ _ hv => rfl, fun _ _ _ _ _ => trivial⟩, fun val h_ W hx he => ⟨⟨68, rfl, rfl⟩, ?_⟩, ?_⟩
                      · replace hx := (Upd.drew _ _).trans hx
                        replace hc := hc.ext hx
                        replace hb := hb.ext hx
                        replace hB1 := hB1.ext hx
                        have hE := Upd.refl (fun _ => False) W
                        refine id (X_move (v := (.int .i64 (((i : Nat) : Int)))) rfl ?_)
                        exact ⟨hE, rfl⟩
                      refine ⟨.det (fun val => (pof bv ((((i : Nat) : Int) : Int).toNat * 1))), ⟨fun _ _ hv => rfl, fun _ _ _ _ _ => trivial⟩, fun val h_ W hx he => ⟨⟨68, rfl, rfl⟩, ?_⟩, ?_⟩
                      · replace hx := (Upd.drew _ _).trans hx
                        replace hc := hc.ext hx
                        replace hb := hb.ext hx
                        replace hB1 := hB1.ext hx
                        have hE := Upd.refl (fun _ => False) W
                        refine id (X_idx (v := bv) (n := bs.length) (k := .i64) (i := ((i : Nat) : Int)) S24 rfl hb.sv rfl (by omega) (by omega) ?_)
                        exact ⟨hE, rfl⟩
                      refine ⟨.det (fun val => (.int .i64 (a))), ⟨fun _ _ hv => rfl, fun _ _ _ _ _ => trivial⟩, fun val h_ W hx he => ⟨⟨68, rfl, rfl⟩, ?_⟩, ?_⟩
                      · replace hx := (Upd.drew _ _).trans hx
                        replace hc := hc.ext hx
                        replace hb := hb.ext hx
                        replace hB1 := hB1.ext hx
                        have hE := Upd.refl (fun _ => False) W
                        refine id (X_load (v := .int .i64 a) T3 rfl (iat hb (Int.toNat_natCast _) hai) ?_)
                        exact ⟨hE, rfl⟩
                      refine ⟨.det (fun val => (.int .i64 (((ps.length : Nat) : Int)))), ⟨fun _ _ hv => rfl, fun _ _ _ _ _ => trivial⟩, fun val h_ W hx he => ⟨⟨68, rfl, rfl⟩, ?_⟩, ?_⟩
                      · replace hx := (Upd.drew _ _).trans hx
                        replace hc := hc.ext hx
                        replace hb := hb.ext hx
                        replace hB1 := hB1.ext hx
                        have hE := Upd.refl (fun _ => False) W
                        refine id (X_move (v := (.int .i64 (((ps.length : Nat) : Int)))) rfl ?_)
                        exact ⟨hE, rfl⟩
                      refine ⟨.det (fun val => (.bool (false))), ⟨fun _ _ hv => rfl, fun _ _ _ _ _ => trivial⟩, fun val h_ W hx he => ⟨⟨68, rfl, rfl⟩, ?_⟩, ?_⟩
                      · replace hx := (Upd.drew _ _).trans hx
                        replace hc := hc.ext hx
                        replace hb := hb.ext hx
                        replace hB1 := hB1.ext hx
                        have hE := Upd.refl (fun _ => False) W
                        refine id (X_cmp (k := .i64) (a := a) (b := ((ps.length : Nat) : Int)) (r := false) rfl rfl rfl (decide_eq_false (p := ((((ps.length : Nat) : Int)) : Int) ≤ ((a) : Int)) (by have h_ := of_decide_eq_false hs30; omega)) ?_)
                        exact ⟨hE, rfl⟩
                      refine ⟨.det (fun val => (.bool (false))), ⟨fun _ _ hv => rfl, fun _ _ _ _ _ => trivial⟩, fun val h_ W hx he => ⟨trivial, ?_⟩, ?_⟩
                      · replace hx := (Upd.drew _ _).trans hx
                        replace hc := hc.ext hx
                        replace hb := hb.ext hx
                        replace hB1 := hB1.ext hx
                        have hE := Upd.refl (fun _ => False) W
                        refine id (X_pick (t := false) (v := (.bool (false))) rfl rfl ?_)
                        exact ⟨hE, rfl⟩
                      refine ⟨.det (fun val => (.bool (false))), ⟨fun _ _ hv => rfl, fun _ _ _ _ _ => trivial⟩, fun val h_ W hx he => ⟨trivial, ?_⟩, ?_⟩
                      · replace hx := (Upd.drew _ _).trans hx
                        replace hc := hc.ext hx
                        replace hb := hb.ext hx
                        replace hB1 := hB1.ext hx
                        have hE := Upd.refl (fun _ => False) W
                        refine id (X_move (v := (.bool (false))) rfl ?_)
                        exact ⟨hE, rfl⟩
                      refine ⟨.det (fun val => (.int .i64 (((i : Nat) : Int)))), ⟨fun _ _ hv => rfl, fun _ _ _ _ _ => trivial⟩, fun val h_ W hx he => ⟨⟨77, rfl, rfl⟩, ?_⟩, ?_⟩
                      · replace hx := (Upd.drew _ _).trans hx
                        replace hc := hc.ext hx
                        replace hb := hb.ext hx
                        replace hB1 := hB1.ext hx
                        have hE := Upd.refl (fun _ => False) W
                        refine id (X_move (v := (.int .i64 (((i : Nat) : Int)))) rfl ?_)
                        exact ⟨hE, rfl⟩
                      refine ⟨.det (fun val => (.bool (true))), ⟨fun _ _ hv => rfl, fun _ _ _ _ _ => trivial⟩, fun val h_ W hx he => ⟨⟨77, rfl, rfl⟩, ?_⟩, ?_⟩
                      · replace hx := (Upd.drew _ _).trans hx
                        replace hc := hc.ext hx
                        replace hb := hb.ext hx
                        replace hB1 := hB1.ext hx
                        have hE := Upd.refl (fun _ => False) W
                        refine id (X_cmp (k := .i64) (a := ((i : Nat) : Int)) (b := 0) (r := true) rfl rfl rfl (decide_eq_true (p := ((0) : Int) < ((((i : Nat) : Int)) : Int)) (by have h_ := of_decide_eq_true hs32; omega)) ?_)
                        exact ⟨hE, rfl⟩
                      refine ⟨.det (fun val => (.bool (true))), ⟨fun _ _ hv => rfl, fun _ _ _ _ _ => trivial⟩, fun val h_ W hx he => ⟨⟨77, rfl, rfl⟩, ?_⟩, ?_⟩
                      · replace hx := (Upd.drew _ _).trans hx
                        replace hc := hc.ext hx
                        replace hb := hb.ext hx
                        replace hB1 := hB1.ext hx
                        have hE := Upd.refl (fun _ => False) W
                        refine id (X_move (v := (.bool (true))) rfl ?_)
                        exact ⟨hE, rfl⟩
                      refine ⟨.det (fun val => (ptr b1 (2))), ⟨fun _ _ hv => rfl, fun _ _ _ _ _ => trivial⟩, fun val h_ W hx he => ⟨⟨80, rfl, rfl⟩, ?_⟩, ?_⟩
                      · replace hx := (Upd.drew _ _).trans hx
                        replace hc := hc.ext hx
                        replace hb := hb.ext hx
                        replace hB1 := hB1.ext hx
                        have hE := Upd.refl (fun _ => False) W
                        refine id (X_fldP (b := b1) (o := 0) (r := 2) Fd26_2 rfl rfl ?_)
                        exact ⟨hE, rfl⟩
                      refine ⟨.det (fun val => bv), ⟨fun _ _ hv => rfl, fun _ _ _ _ _ => trivial⟩, fun val h_ W hx he => ⟨⟨80, rfl, rfl⟩, ?_⟩, ?_⟩
                      · replace hx := (Upd.drew _ _).trans hx
                        replace hc := hc.ext hx
                        replace hb := hb.ext hx
                        replace hB1 := hB1.ext hx
                        have hE := Upd.refl (fun _ => False) W
                        refine id (X_load (p := (ptr b1 (2))) (v := bv) T24 rfl (hB1.at1 rfl) ?_)
                        exact ⟨hE, rfl⟩
                      refine ⟨.det (fun val => (.int .i64 (((i : Nat) : Int)))), ⟨fun _ _ hv => rfl, fun _ _ _ _ _ => trivial⟩, fun val h_ W hx he => ⟨⟨80, rfl, rfl⟩, ?_⟩, ?_⟩
                      · replace hx := (Upd.drew _ _).trans hx
                        replace hc := hc.ext hx
                        replace hb := hb.ext hx
                        replace hB1 := hB1.ext hx
                        have hE := Upd.refl (fun _ => False) W
                        refine id (X_move (v := (.int .i64 (((i : Nat) : Int)))) rfl ?_)
                        exact ⟨hE, rfl⟩
                      refine ⟨.det (fun val => (.int .i64 (((i - 1 : Nat) : Int)))), ⟨fun _ _ hv => rfl, fun _ _ _ _ _ => trivial⟩, fun val h_ W hx he => ⟨⟨80, rfl, rfl⟩, ?_⟩, ?_⟩
                      · replace hx := (Upd.drew _ _).trans hx
                        replace hc := hc.ext hx
                        replace hb := hb.ext hx
                        replace hB1 := hB1.ext hx
                        have hE := Upd.refl (fun _ => False) W
                        refine id (X_arith (k := .i64) (a := ((i : Nat) : Int)) (b := 1) (r := ((i - 1 : Nat) : Int)) rfl rfl rfl (isub64 (by omega) (by omega) (by omega)) ?_)
                        exact ⟨hE, rfl⟩
                      refine ⟨.det (fun val => (pof bv ((((i - 1 : Nat) : Int) : Int).toNat * 1))), ⟨fun _ _ hv => rfl, fun _ _ _ _ _ => trivial⟩, fun val h_ W hx he => ⟨⟨80, rfl, rfl⟩, ?_⟩, ?_⟩
                      · replace hx := (Upd.drew _ _).trans hx
                        replace hc := hc.ext hx
                        replace hb := hb.ext hx
                        replace hB1 := hB1.ext hx
                        have hE := Upd.refl (fun _ => False) W
                        refine id (X_idx (v := bv) (n := bs.length) (k := .i64) (i := ((i - 1 : Nat) : Int)) S24 rfl hb.sv rfl (by omega) (by omega) ?_)
                        exact ⟨hE, rfl⟩
                      refine ⟨.det (fun val => (.int .i64 (a0))), ⟨fun _ _ hv => rfl, fun _ _ _ _ _ => trivial⟩, fun val h_ W hx he => ⟨⟨80, rfl, rfl⟩, ?_⟩, ?_⟩
                      · replace hx := (Upd.drew _ _).trans hx
                        replace hc := hc.ext hx
                        replace hb := hb.ext hx
                        replace hB1 := hB1.ext hx
                        have hE := Upd.refl (fun _ => False) W
                        refine id (X_load (v := .int .i64 a0) T3 rfl (iat hb (Int.toNat_natCast _) ha0) ?_)
                        exact ⟨hE, rfl⟩
                      refine ⟨.det (fun val => (ptr b1 (2))), ⟨fun _ _ hv => rfl, fun _ _ _ _ _ => trivial⟩, fun val h_ W hx he => ⟨⟨80, rfl, rfl⟩, ?_⟩, ?_⟩
                      · replace hx := (Upd.drew _ _).trans hx
                        replace hc := hc.ext hx
                        replace hb := hb.ext hx
                        replace hB1 := hB1.ext hx
                        have hE := Upd.refl (fun _ => False) W
                        refine id (X_fldP (b := b1) (o := 0) (r := 2) Fd26_2 rfl rfl ?_)
                        exact ⟨hE, rfl⟩
                      refine ⟨.det (fun val => bv), ⟨fun _ _ hv => rfl, fun _ _ _ _ _ => trivial⟩, fun val h_ W hx he => ⟨⟨80, rfl, rfl⟩, ?_⟩, ?_⟩
                      · replace hx := (Upd.drew _ _).trans hx
                        replace hc := hc.ext hx
                        replace hb := hb.ext hx
                        replace hB1 := hB1.ext hx
                        have hE := Upd.refl (fun _ => False) W
                        refine id (X_load (p := (ptr b1 (2))) (v := bv) T24 rfl (hB1.at1 rfl) ?_)
                        exact ⟨hE, rfl⟩
                      refine ⟨.det (fun val => (.int .i64 (((i : Nat) : Int)))), ⟨fun _ _ hv => rfl, fun _ _ _ _ _ => trivial⟩, fun val h_ W hx he => ⟨⟨80, rfl, rfl⟩, ?_⟩, ?_⟩
                      · replace hx := (Upd.drew _ _).trans hx
                        replace hc := hc.ext hx
                        replace hb := hb.ext hx
                        replace hB1 := hB1.ext hx
                        have hE := Upd.refl (fun _ => False) W
                        refine id (X_move (v := (.int .i64 (((i : Nat) : Int)))) rfl ?_)
                        exact ⟨hE, rfl⟩
                      refine ⟨.det (fun val => (pof bv ((((i : Nat) : Int) : Int).toNat * 1))), ⟨fun _ _ hv => rfl, fun _ _ _ _ _ => trivial⟩, fun val h_ W hx he => ⟨⟨80, rfl, rfl⟩, ?_⟩, ?_⟩
                      · replace hx := (Upd.drew _ _).trans hx
                        replace hc := hc.ext hx
                        replace hb := hb.ext hx
                        replace hB1 := hB1.ext hx
                        have hE := Upd.refl (fun _ => False) W
                        refine id (X_idx (v := bv) (n := bs.length) (k := .i64) (i := ((i : Nat) : Int)) S24 rfl hb.sv rfl (by omega) (by omega) ?_)
                        exact ⟨hE, rfl⟩
                      refine ⟨.det (fun val => (.int .i64 (a))), ⟨fun _ _ hv => rfl, fun _ _ _ _ _ => trivial⟩, fun val h_ W hx he => ⟨⟨80, rfl, rfl⟩, ?_⟩, ?_⟩
                      · replace hx := (Upd.drew _ _).trans hx
                        replace hc := hc.ext hx
                        replace hb := hb.ext hx
                        replace hB1 := hB1.ext hx
                        have hE := Upd.refl (fun _ => False) W
                        refine id (X_load (v := .int .i64 a) T3 rfl (iat hb (Int.toNat_natCast _) hai) ?_)
                        exact ⟨hE, rfl⟩
                      intro val W35 hx35 he35
                      replace hx35 := (Upd.drew _ _).trans hx35
                      have hz35 := hx35.size
                      replace hc := hc.ext hx35
                      replace hb := hb.ext hx35
                      replace hU := hU.trans (Ext.upd hx35)
                      replace hB1 := hB1.ext hx35
                      refine L_gy (dj := 80) rfl rfl rfl (X_cmp (k := .i64) (a := a0) (b := a) (r := false) rfl rfl rfl (decide_eq_false (p := ((a) : Int) ≤ ((a0) : Int)) (by have h_ := of_decide_eq_false hs33; omega)) ?_)
                      refine L_gy (dj := 77) rfl rfl rfl (X_pick (t := true) (v := (.bool (false))) rfl rfl ?_)
                      refine L_op rfl (X_pick (t := false) (v := (.bool (false))) rfl rfl ?_)
                      refine L_nil ?_
                      refine T_n ?_
                      refine W_cf rfl ?_
                      refine W_skip ?_
                      refine B_n ?_
                      refine T_n ?_
                      refine W_reg ?_
                      refine L_op rfl (X_move (v := (.int .i64 (((i : Nat) : Int)))) rfl ?_)
                      refine L_op rfl (X_arith (k := .i64) (a := ((i : Nat) : Int)) (b := 1) (r := ((i + 1 : Nat) : Int)) rfl rfl rfl (iadd64 (by omega) (by omega) (by omega)) ?_)
                      refine L_op rfl (X_assign (v := (.int .i64 (((i + 1 : Nat) : Int)))) rfl ?_)
                      refine L_nil ?_
                      refine T_n ?_
                      exact ⟨rfl, i + 1, ⟨⟨hi, hc, hb, hB1, hU, hst.2 ⟨hzb, by have h0_ := of_decide_eq_false hs28; have h1_ := of_decide_eq_false hs30; have h2_ := of_decide_eq_true hs32; have h3_ := of_decide_eq_false hs33; omega⟩⟩, (by show bs.length - (i + 1) < bs.length - i; omega)⟩, (Out.mk rfl), ⟨rfl, trivial⟩⟩
                  · refine W_draw 30 [[], [0], [], [0, 1, 2], [0, 1, 2, 3], [0, 1, 2, 3, 4], [0, 1, 2, 3, 4, 5], [0, 1, 2, 3, 4, 5, 6], [0, 1, 2, 3, 4, 5, 6, 7], [0, 1, 2, 3, 4, 5, 6], [0, 1, 2, 3, 4, 5, 6, 7, 8, 9], [0, 1, 2, 3, 4, 5, 6, 7, 8, 9, 10], [0, 1, 2, 3, 4, 5, 6], [0, 1, 2, 3, 4, 5, 6, 7, 8, 9, 10, 11, 12], [0, 1, 2, 3, 4, 5, 6, 7, 8, 9, 10, 11, 12, 13], [0, 1, 2, 3, 4, 5, 6, 7, 8, 9, 10, 11, 12, 13, 14], [0, 1, 2, 3, 4, 5, 6, 7, 8, 9, 10, 11, 12, 13, 14, 15], [0, 1, 2, 3, 4, 5, 6, 7, 8, 9, 10, 11, 12, 13, 14, 15, 16], [0, 1, 2, 3, 4, 5, 6, 7, 8, 9, 10, 11, 12, 13, 14, 15, 16, 17], [0, 1, 2, 3, 4, 5, 6, 7, 8, 9, 10, 11, 12, 13, 14, 15, 16, 17, 18], [0, 1, 2, 3, 4, 5, 6, 7, 8, 9, 10, 11, 12, 13, 14, 15, 16, 17, 18, 19], [0, 1, 2, 3, 4, 5, 6, 7, 8, 9, 10, 11, 12, 13, 14, 15, 16, 17, 18], [0, 1, 2, 3, 4, 5, 6, 7, 8, 9, 10, 11, 12, 13, 14, 15, 16, 17, 18, 21], [0, 1, 2, 3, 4, 5, 6, 7, 8, 9, 10, 11, 12, 13, 14, 15, 16, 17, 18, 19, 20, 21, 22], [0, 1, 2, 3, 4, 5, 6, 7, 8, 9, 10, 11, 12, 13, 14, 15, 16, 17, 18, 19, 20, 21, 22, 23], [0, 1, 2, 3, 4, 5, 6, 7, 8, 9, 10, 11, 12, 13, 14, 15, 16, 17, 18], [0, 1, 2, 3, 4, 5, 6, 7, 8, 9, 10, 11, 12, 13, 14, 15, 16, 17, 18, 25], [0, 1, 2, 3, 4, 5, 6, 7, 8, 9, 10, 11, 12, 13, 14, 15, 16, 17, 18], [0, 1, 2, 3, 4, 5, 6, 7, 8, 9, 10, 11, 12, 13, 14, 15, 16, 17, 18, 25, 26, 27], [0, 1, 2, 3, 4, 5, 6, 7, 8, 9, 10, 11, 12, 13, 14, 15, 16, 17, 18, 25, 26, 27, 28], [0, 1, 2, 3, 4, 5, 6, 7, 8, 9, 10, 11, 12, 13, 14, 15, 16, 17, 18, 19, 20, 21, 22, 23, 24, 25, 26, 27, 28, 29], [0, 1, 2, 3, 4, 5, 6, 7, 8, 9, 10, 11, 12, 13, 14, 15, 16, 17, 18, 19, 20, 21, 22, 23, 24, 25, 26, 27, 28, 29, 30], [0, 1, 2, 3, 4, 5, 6, 7, 8, 9, 10, 11, 12, 13, 14, 15, 16, 17, 18, 19, 20, 21, 22, 23, 24, 25, 26, 27, 28, 29, 30, 31]] mixed (by kernel_rfl) ?_
                    refine ⟨.det (fun val => (ptr b1 (2))), ⟨fun _ _ hv => rfl, fun _ _ _ _ _ => trivial⟩, fun val h_ W hx he => ⟨trivial, ?_⟩, ?_⟩
                    · replace hx := (Upd.drew _ _).trans hx
                      replace hc := hc.ext hx
                      replace hb := hb.ext hx
                      replace hB1 := hB1.ext hx
                      have hE := Upd.refl (fun _ => False) W
                      refine id (X_fldP (b := b1) (o := 0) (r := 2) Fd26_2 rfl rfl ?_)
                      exact ⟨hE, rfl⟩
                    refine ⟨.det (fun val => bv), ⟨fun _ _ hv => rfl, fun _ _ _ _ _ => trivial⟩, fun val h_ W hx he => ⟨trivial, ?_⟩, ?_⟩
                    · replace hx := (Upd.drew _ _).trans hx
                      replace hc := hc.ext hx
                      replace hb := hb.ext hx
                      replace hB1 := hB1.ext hx
                      have hE := Upd.refl (fun _ => False) W
                      refine id (X_load (p := (ptr b1 (2))) (v := bv) T24 rfl (hB1.at1 rfl) ?_)
                      exact ⟨hE, rfl⟩
                    refine ⟨.det (fun val => (.int .i64 (((i : Nat) : Int)))), ⟨fun _ _ hv => rfl, fun _ _ _ _ _ => trivial⟩, fun val h_ W hx he => ⟨trivial, ?_⟩, ?_⟩
                    · replace hx := (Upd.drew _ _).trans hx
                      replace hc := hc.ext hx
                      replace hb := hb.ext hx
                      replace hB1 := hB1.ext hx
                      have hE := Upd.refl (fun _ => False) W
                      refine id (X_move (v := (.int .i64 (((i : Nat) : Int)))) rfl ?_)
                      exact ⟨hE, rfl⟩
                    refine ⟨.det (fun val => (pof bv ((((i : Nat) : Int) : Int).toNat * 1))), ⟨fun _ _ hv => rfl, fun _ _ _ _ _ => trivial⟩, fun val h_ W hx he => ⟨trivial, ?_⟩, ?_⟩
                    · replace hx := (Upd.drew _ _).trans hx
                      replace hc := hc.ext hx
                      replace hb := hb.ext hx
                      replace hB1 := hB1.ext hx
                      have hE := Upd.refl (fun _ => False) W
                      refine id (X_idx (v := bv) (n := bs.length) (k := .i64) (i := ((i : Nat) : Int)) S24 rfl hb.sv rfl (by omega) (by omega) ?_)
                      exact ⟨hE, rfl⟩
                    refine ⟨.det (fun val => (.int .i64 (a))), ⟨fun _ _ hv => rfl, fun _ _ _ _ _ => trivial⟩, fun val h_ W hx he => ⟨trivial, ?_⟩, ?_⟩
                    · replace hx := (Upd.drew _ _).trans hx
                      replace hc := hc.ext hx
                      replace hb := hb.ext hx
                      replace hB1 := hB1.ext hx
                      have hE := Upd.refl (fun _ => False) W
                      refine id (X_load (v := .int .i64 a) T3 rfl (iat hb (Int.toNat_natCast _) hai) ?_)
                      exact ⟨hE, rfl⟩
                    refine ⟨.det (fun val => (.bool (false))), ⟨fun _ _ hv => rfl, fun _ _ _ _ _ => trivial⟩, fun val h_ W hx he => ⟨trivial, ?_⟩, ?_⟩
                    · replace hx := (Upd.drew _ _).trans hx
                      replace hc := hc.ext hx
                      replace hb := hb.ext hx
                      replace hB1 := hB1.ext hx
                      have hE := Upd.refl (fun _ => False) W
                      refine id (X_cmp (k := .i64) (a := a) (b := 0) (r := false) rfl rfl rfl (decide_eq_false (p := ((a) : Int) < ((0) : Int)) (by have h_ := of_decide_eq_false hs28; omega)) ?_)
                      exact ⟨hE, rfl⟩
                    refine ⟨.det (fun val => (.bool (false))), ⟨fun _ _ hv => rfl, fun _ _ _ _ _ => trivial⟩, fun val h_ W hx he => ⟨trivial, ?_⟩, ?_⟩
                    · replace hx := (Upd.drew _ _).trans hx
                      replace hc := hc.ext hx
                      replace hb := hb.ext hx
                      replace hB1 := hB1.ext hx
                      have hE := Upd.refl (fun _ => False) W
                      refine id (X_move (v := (.bool (false))) rfl ?_)
                      exact ⟨hE, rfl⟩
                    refine ⟨.det (fun val => (ptr b1 (2))), ⟨fun _ _ hv => rfl, fun _ _ _ _ _ => trivial⟩, fun val h_ W hx he => ⟨⟨68, rfl, rfl⟩, ?_⟩, ?_⟩
                    · replace hx := (Upd.drew _ _).trans hx
                      replace hc := hc.ext hx
                      replace hb := hb.ext hx
                      replace hB1 := hB1.ext hx
                      have hE := Upd.refl (fun _ => False) W
                      refine id (X_fldP (b := b1) (o := 0) (r := 2) Fd26_2 rfl rfl ?_)
                      exact ⟨hE, rfl⟩
                    refine ⟨.det (fun val => bv), ⟨fun _ _ hv => rfl, fun _ _ _ _ _ => trivial⟩, fun val h_ W hx he => ⟨⟨68, rfl, rfl⟩, ?_⟩, ?_⟩
                    · replace hx := (Upd.drew _ _).trans hx
                      replace hc := hc.ext hx
                      replace hb := hb.ext hx
                      replace hB1 := hB1.ext hx
                      have hE := Upd.refl (fun _ => False) W
                      refine id (X_load (p := (ptr b1 (2))) (v := bv) T24 rfl (hB1.at1 rfl) ?_)
                      exact ⟨hE, rfl⟩
                    refine ⟨.det (fun val => (.int .i64 (((i : Nat) : Int)))), ⟨fun _ _ hv => rfl, fun _ _ _ _ _ => trivial⟩, fun val h_ W hx he => ⟨⟨68, rfl, rfl⟩, ?_⟩, ?_⟩
                    · replace hx := (Upd.drew _ _).trans hx
                      replace hc := hc.ext hx
                      replace hb := hb.ext hx
                      replace hB1 := hB1.ext hx
                      have hE := Upd.refl (fun _ => False) W
                      refine id (X_move (v := (.int .i64 (((i : Nat) : Int)))) rfl ?_)
                      exact ⟨hE, rfl⟩
                    refine ⟨.det (fun val => (pof bv ((((i : Nat) : Int) : Int).toNat * 1))), ⟨fun _ _ hv => rfl, fun _ _ _ _ _ => trivial⟩, fun val h_ W hx he => ⟨⟨68, rfl, rfl⟩, ?_⟩, ?_⟩
                    · replace hx := (Upd.drew _ _).trans hx
                      replace hc := hc.ext hx
                      replace hb := hb.ext hx
                      replace hB1 := hB1.ext hx
                      have hE := Upd.refl (fun _ => False) W
                      refine id (X_idx (v := bv) (n := bs.length) (k := .i64) (i := ((i : Nat) : Int)) S24 rfl hb.sv rfl (by omega) (by omega) ?_)
                      exact ⟨hE, rfl⟩
                    refine ⟨.det (fun val => (.int .i64 (a))), ⟨fun _ _ hv => rfl, fun _ _ _ _ _ => trivial⟩, fun val h_ W hx he => ⟨⟨68, rfl, rfl⟩, ?_⟩, ?_⟩
                    · replace hx := (Upd.drew _ _).trans hx
                      replace hc := hc.ext hx
                      replace hb := hb.ext hx
                      replace hB1 := hB1.ext hx
                      have hE := Upd.refl (fun _ => False) W
                      refine id (X_load (v := .int .i64 a) T3 rfl (iat hb (Int.toNat_natCast _) hai) ?_)
                      exact ⟨hE, rfl⟩
                    refine ⟨.det (fun val => (.int .i64 (((ps.length : Nat) : Int)))), ⟨fun _ _ hv => rfl, fun _ _ _ _ _ => trivial⟩, fun val h_ W hx he => ⟨⟨68, rfl, rfl⟩, ?_⟩, ?_⟩
                    · replace hx := (Upd.drew _ _).trans hx
                      replace hc := hc.ext hx
                      replace hb := hb.ext hx
                      replace hB1 := hB1.ext hx
                      have hE := Upd.refl (fun _ => False) W
                      refine id (X_move (v := (.int .i64 (((ps.length : Nat) : Int)))) rfl ?_)
                      exact ⟨hE, rfl⟩
                    refine ⟨.det (fun val => (.bool (false))), ⟨fun _ _ hv => rfl, fun _ _ _ _ _ => trivial⟩, fun val h_ W hx he => ⟨⟨68, rfl, rfl⟩, ?_⟩, ?_⟩
                    · replace hx := (Upd.drew _ _).trans hx
                      replace hc := hc.ext hx
                      replace hb := hb.ext hx
                      replace hB1 := hB1.ext hx
                      have hE := Upd.refl (fun _ => False) W
                      refine id (X_cmp (k := .i64) (a := a) (b := ((ps.length : Nat) : Int)) (r := false) rfl rfl rfl (decide_eq_false (p := ((((ps.length : Nat) : Int)) : Int) ≤ ((a) : Int)) (by have h_ := of_decide_eq_false hs30; omega)) ?_)
                      exact ⟨hE, rfl⟩
                    refine ⟨.det (fun val => (.bool (false))), ⟨fun _ _ hv => rfl, fun _ _ _ _ _ => trivial⟩, fun val h_ W hx he => ⟨trivial, ?_⟩, ?_⟩
                    · replace hx := (Upd.drew _ _).trans hx
                      replace hc := hc.ext hx
                      replace hb := hb.ext hx
                      replace hB1 := hB1.ext hx
                      have hE := Upd.refl (fun _ => False) W
                      refine id (X_pick (t := false) (v := (.bool (false))) rfl rfl ?_)
                      exact ⟨hE, rfl⟩
                    refine ⟨.det (fun val => (.bool (false))), ⟨fun _ _ hv => rfl, fun _ _ _ _ _ => trivial⟩, fun val h_ W hx he => ⟨trivial, ?_⟩, ?_⟩
                    · replace hx := (Upd.drew _ _).trans hx
                      replace hc := hc.ext hx
                      replace hb := hb.ext hx
                      replace hB1 := hB1.ext hx
                      have hE := Upd.refl (fun _ => False) W
                      refine id (X_move (v := (.bool (false))) rfl ?_)
                      exact ⟨hE, rfl⟩
                    refine ⟨.det (fun val => (.int .i64 (((i : Nat) : Int)))), ⟨fun _ _ hv => rfl, fun _ _ _ _ _ => trivial⟩, fun val h_ W hx he => ⟨⟨77, rfl, rfl⟩, ?_⟩, ?_⟩
                    · replace hx := (Upd.drew _ _).trans hx
                      replace hc := hc.ext hx
                      replace hb := hb.ext hx
                      replace hB1 := hB1.ext hx
                      have hE := Upd.refl (fun _ => False) W
                      refine id (X_move (v := (.int .i64 (((i : Nat) : Int)))) rfl ?_)
                      exact ⟨hE, rfl⟩
                    refine ⟨.det (fun val => (.bool (false))), ⟨fun _ _ hv => rfl, fun _ _ _ _ _ => trivial⟩, fun val h_ W hx he => ⟨⟨77, rfl, rfl⟩, ?_⟩, ?_⟩
                    · replace hx := (Upd.drew _ _).trans hx
                      replace hc := hc.ext hx
                      replace hb := hb.ext hx
                      replace hB1 := hB1.ext hx
                      have hE := Upd.refl (fun _ => False) W
                      refine id (X_cmp (k := .i64) (a := ((i : Nat) : Int)) (b := 0) (r := false) rfl rfl rfl (decide_eq_false (p := ((0) : Int) < ((((i : Nat) : Int)) : Int)) (by have h_ := of_decide_eq_false hs32; omega)) ?_)
                      exact ⟨hE, rfl⟩
                    refine ⟨.det (fun val => (.bool (false))), ⟨fun _ _ hv => rfl, fun _ _ _ _ _ => trivial⟩, fun val h_ W hx he => ⟨⟨77, rfl, rfl⟩, ?_⟩, ?_⟩
                    · replace hx := (Upd.drew _ _).trans hx
                      replace hc := hc.ext hx
                      replace hb := hb.ext hx
                      replace hB1 := hB1.ext hx
                      have hE := Upd.refl (fun _ => False) W
                      refine id (X_move (v := (.bool (false))) rfl ?_)
                      exact ⟨hE, rfl⟩
                    refine ⟨.no, ⟨fun _ _ _ => trivial, fun _ _ _ _ _ => trivial⟩, fun val h_ W hx he => ⟨80, rfl, .inl rfl⟩, ?_⟩
                    refine ⟨.no, ⟨fun _ _ _ => trivial, fun _ _ _ _ _ => trivial⟩, fun val h_ W hx he => ⟨80, rfl, .inl rfl⟩, ?_⟩
                    refine ⟨.no, ⟨fun _ _ _ => trivial, fun _ _ _ _ _ => trivial⟩, fun val h_ W hx he => ⟨80, rfl, .inl rfl⟩, ?_⟩
                    refine ⟨.no, ⟨fun _ _ _ => trivial, fun _ _ _ _ _ => trivial⟩, fun val h_ W hx he => ⟨80, rfl, .inl rfl⟩, ?_⟩
                    refine ⟨.no, ⟨fun _ _ _ => trivial, fun _ _ _ _ _ => trivial⟩, fun val h_ W hx he => ⟨80, rfl, .inl rfl⟩, ?_⟩
                    refine ⟨.no, ⟨fun _ _ _ => trivial, fun _ _ _ _ _ => trivial⟩, fun val h_ W hx he => ⟨80, rfl, .inl rfl⟩, ?_⟩
                    refine ⟨.no, ⟨fun _ _ _ => trivial, fun _ _ _ _ _ => trivial⟩, fun val h_ W hx he => ⟨80, rfl, .inl rfl⟩, ?_⟩
                    refine ⟨.no, ⟨fun _ _ _ => trivial, fun _ _ _ _ _ => trivial⟩, fun val h_ W hx he => ⟨80, rfl, .inl rfl⟩, ?_⟩
                    refine ⟨.no, ⟨fun _ _ _ => trivial, fun _ _ _ _ _ => trivial⟩, fun val h_ W hx he => ⟨80, rfl, .inl rfl⟩, ?_⟩
                    refine ⟨.no, ⟨fun _ _ _ => trivial, fun _ _ _ _ _ => trivial⟩, fun val h_ W hx he => ⟨80, rfl, .inl rfl⟩, ?_⟩
                    refine ⟨.no, ⟨fun _ _ _ => trivial, fun _ _ _ _ _ => trivial⟩, fun val h_ W hx he => ⟨80, rfl, .inl rfl⟩, ?_⟩
                    intro val W36 hx36 he36
                    replace hx36 := (Upd.drew _ _).trans hx36
                    have hz36 := hx36.size
                    replace hc := hc.ext hx36
                    replace hb := hb.ext hx36
                    replace hU := hU.trans (Ext.upd hx36)
                    replace hB1 := hB1.ext hx36
                    refine L_gn (dj := 80) (t := false) rfl rfl rfl rfl ?_
                    refine L_gy (dj := 77) rfl rfl rfl (X_pick (t := false) (v := (.bool (false))) rfl rfl ?_)
                    refine L_op rfl (X_pick (t := false) (v := (.bool (false))) rfl rfl ?_)
                    refine L_nil ?_
                    refine T_n ?_
                    refine W_cf rfl ?_
                    refine W_skip ?_
                    refine B_n ?_
                    refine T_n ?_
                    refine W_reg ?_
                    refine L_op rfl (X_move (v := (.int .i64 (((i : Nat) : Int)))) rfl ?_)
                    refine L_op rfl (X_arith (k := .i64) (a := ((i : Nat) : Int)) (b := 1) (r := ((i + 1 : Nat) : Int)) rfl rfl rfl (iadd64 (by omega) (by omega) (by omega)) ?_)
                    refine L_op rfl (X_assign (v := (.int .i64 (((i + 1 : Nat) : Int)))) rfl ?_)
                    refine L_nil ?_
                    refine T_n ?_
                    exact ⟨rfl, i + 1, ⟨⟨hi, hc, hb, hB1, hU, hst.2 ⟨hzb, by have h0_ := of_decide_eq_false hs28; have h1_ := of_decide_eq_false hs30; have h2_ := of_decide_eq_false hs32; have hb0 : before bs i = -1 := by { unfold before; rw [if_pos (by omega)] }; omega⟩⟩, (by show bs.length - (i + 1) < bs.length - i; omega)⟩, (Out.mk rfl), ⟨rfl, trivial⟩⟩
            · refine L_op rfl (X_cmp (k := .i64) (a := ((i : Nat) : Int)) (b := ((bs.length : Nat) : Int)) (r := false) rfl rfl rfl (decide_eq_false (p := ((((i : Nat) : Int)) : Int) < ((((bs.length : Nat) : Int)) : Int)) (by omega)) ?_)
              refine L_nil ?_
              refine T_n ?_
              refine W_cf rfl ?_
              refine W_exit ?_
              refine T_e ?_
              refine T_e ?_
              refine B_x ?_
              refine T_n ?_
              refine W_seq ?_
              refine W_reg ?_
              refine L_op rfl (X_assign (v := (.bool (true))) rfl ?_)
              refine L_nil ?_
              refine T_n ?_
              refine W_ret ?_
              exact BQ_r (End_1 Try.results14 (v := .bool true) rfl ⟨⟨true, rfl, ⟨fun _ => ⟨hH, inC_mono hzc (by omega), inB_mono hzb (by omega)⟩, fun _ => rfl⟩⟩, hU.own hn0⟩)

theorem zc35_size : zc35.toArray.size = 257 := by kernel_rfl
theorem wr_size (e : Wr) : (LW.cel e).toArray.size = 257 := by rw [List.size_toArray, LW.len]; rfl

theorem built26 (a b c : Option Addr) (n1 n2 n3 c1 c2 c3 : Nat) (o : Bool) : Try.prog.built 26 [(0, .slice a n1 c1), (1, .slice b n2 c2), (2, .slice c n3 c3), (3, .bool o)] = some #[.slice a n1 c1, .slice b n2 c2, .slice c n3 c3, .bool o] := by kernel_rfl
theorem built26' {u v x : Value} {n m k : Nat} (h : SV u n) (h2 : SV v m) (h3 : SV x k) (o : Bool) : Try.prog.built 26 [(0, u), (1, v), (2, x), (3, .bool o)] = some #[u, v, x, .bool o] := by
  obtain ⟨a, c, rfl, _⟩ := h
  obtain ⟨a2, c2, rfl, _⟩ := h2
  obtain ⟨a3, c3, rfl, _⟩ := h3
  exact built26 a a2 a3 n m k c c2 c3 o
open Classical in
noncomputable def askE (np : Nat) (cs : List Wr) (bs : List Int) (off : Bool) (n : Int) : Int := if MayD np cs bs off ∧ 0 ≤ n ∧ n < np then (if off = true then 30 else 0) else 2
theorem askE_bad {np : Nat} {cs : List Wr} {bs : List Int} {off : Bool} {n : Int} (h : ¬ (MayD np cs bs off ∧ 0 ≤ n ∧ n < np)) : askE np cs bs off n = 2 := if_neg h
theorem askE_off {np : Nat} {cs : List Wr} {bs : List Int} {off : Bool} {n : Int} (h : MayD np cs bs off) (h1 : 0 ≤ n) (h2 : n < np) (ho : off = true) : askE np cs bs off n = 30 := (if_pos ⟨h, h1, h2⟩).trans (if_pos ho)
theorem askE_ok {np : Nat} {cs : List Wr} {bs : List Int} {off : Bool} {n : Int} (h : MayD np cs bs off) (h1 : 0 ≤ n) (h2 : n < np) (ho : off = false) : askE np cs bs off n = 0 := (if_pos ⟨h, h1, h2⟩).trans (if_neg (by rw [ho]; decide))
theorem askE_zero {np : Nat} {cs : List Wr} {bs : List Int} {off : Bool} {n : Int} (h : askE np cs bs off n = 0) : MayD np cs bs off ∧ 0 ≤ n ∧ n < np ∧ off = false := by
  unfold askE at h
  split at h
  · rename_i h1
    refine ⟨h1.1, h1.2.1, h1.2.2, ?_⟩
    cases off with
    | true => simp at h
    | false => rfl
  · simp at h

theorem c_copyR (pv cv bv : Value) (ps : List Pg) (cs : List Wr) (bs : List Int) (off : Bool) (w : World) (lo up : Nat) (hup : up ≤ w.heap.size) (hp : NRd LP w lo up pv ps) (hc : NRd LW w lo up cv cs) (hb : NRd LI w lo up bv bs) (hpL : ps.length ≤ 1048576) (hcL : cs.length ≤ 1048576) (hbL : bs.length ≤ 1048576) : CT Try.prog 30 #[(.agg #[pv, cv, bv, (.bool (off))])] w fun v w' => ∃ p2 c2 b2, v = .agg #[p2, c2, b2, .bool off] ∧ NOwn LP w' 33 5 w.heap.size w'.heap.size p2 ps ∧ NOwn LW w' 35 5 w.heap.size w'.heap.size c2 cs ∧ NOwn LI w' 3 5 w.heap.size w'.heap.size b2 bs ∧ Ext w w' := by
  obtain ⟨n0, hn0⟩ : ∃ n, n = w.heap.size := ⟨_, rfl⟩
  have hU : Upd (fun i => n0 ≤ i) w w := Upd.refl _ _
  have hpl := hp.sv.len
  have hcl := hc.sv.len
  have hbl := hb.sv.len
  rw [← hn0] at hup
  refine CT_of Try.func30 rfl rfl rfl ?_
  refine W_seq ?_
  refine W_reg ?_
  refine L_op rfl (X_box (v := (.agg #[pv, cv, bv, (.bool (off))])) (c := ([pv, cv, bv, (.bool (off))]).toArray) rfl rfl ?_)
  intro b1 w1 hn1
  have hbn1 := hn1.num; have hbs1 := hn1.size
  replace hp := hp.ext hn1.ext
  replace hc := hc.ext hn1.ext
  replace hb := hb.ext hn1.ext
  replace hU := hU.trans (Ext.upd hn1.ext)
  have hB1 := hn1.blk
  refine L_op rfl (X_alloc (z := (.agg #[(.slice none 0 0), (.slice none 0 0), (.slice none 0 0), (.bool (false))])) (c := #[(.slice none 0 0), (.slice none 0 0), (.slice none 0 0), (.bool (false))]) Zv26 rfl ?_)
  intro b2 w2 hn2
  have hbn2 := hn2.num; have hbs2 := hn2.size
  replace hp := hp.ext hn2.ext
  replace hc := hc.ext hn2.ext
  replace hb := hb.ext hn2.ext
  replace hU := hU.trans (Ext.upd hn2.ext)
  replace hB1 := hB1.ext hn2.ext
  have hB2 := hn2.blk
  refine L_nil ?_
  refine T_n ?_
  refine W_seq ?_
  obtain ⟨s0, hs0⟩ : ∃ n, n = w2.heap.size := ⟨_, rfl⟩
  refine W_draw 14 [[], [], [1], [0, 1, 2], [], [], [5], [0, 1, 2, 3, 4, 5, 6], [], [], [9], [0, 1, 2, 3, 4, 5, 6, 7, 8, 9, 10], [], [12], [0, 1, 2, 3, 4, 5, 6, 7, 8, 9, 10, 11, 12, 13], [0, 1, 2, 3, 4, 5, 6, 7, 8, 9, 10, 11, 12, 13, 14]] mixed (by kernel_rfl) ?_
  refine ⟨.abs (fun _ x_ _ => ∃ b, x_ = .slice (some ⟨b, 0, none⟩) 0 0), ⟨fun _ _ _ => rfl, fun _ _ _ _ _ h => h⟩, fun val h_ W hx he => ⟨trivial, ?_⟩, ?_⟩
  · replace hx := (Upd.drew _ _).trans hx
    replace hp := hp.ext hx
    replace hc := hc.ext hx
    replace hb := hb.ext hx
    replace hB1 := hB1.ext hx
    replace hB2 := hB2.ext hx
    have hE := Upd.refl (fun _ => False) W
    refine X_buildSliceL (vs := []) (c := []) S22 (by decide) rfl rfl (fun _ h => by cases h) rfl ?_
    intro b w2 hn
    exact ⟨hn.ext, b, rfl⟩
  refine ⟨.det (fun val => (ptr b1 (0))), ⟨fun _ _ hv => rfl, fun _ _ _ _ _ => trivial⟩, fun val h_ W hx he => ⟨trivial, ?_⟩, ?_⟩
  · replace hx := (Upd.drew _ _).trans hx
    replace hp := hp.ext hx
    replace hc := hc.ext hx
    replace hb := hb.ext hx
    replace hB1 := hB1.ext hx
    replace hB2 := hB2.ext hx
    have hE := Upd.refl (fun _ => False) W
    refine id (X_fldP (b := b1) (o := 0) (r := 0) Fd26_0 rfl rfl ?_)
    exact ⟨hE, rfl⟩
  refine ⟨.det (fun val => pv), ⟨fun _ _ hv => rfl, fun _ _ _ _ _ => trivial⟩, fun val h_ W hx he => ⟨trivial, ?_⟩, ?_⟩
  · replace hx := (Upd.drew _ _).trans hx
    replace hp := hp.ext hx
    replace hc := hc.ext hx
    replace hb := hb.ext hx
    replace hB1 := hB1.ext hx
    replace hB2 := hB2.ext hx
    have hE := Upd.refl (fun _ => False) W
    refine id (X_load (p := (ptr b1 (0))) (v := pv) T22 rfl (hB1.at1 rfl) ?_)
    exact ⟨hE, rfl⟩
  refine ⟨.abs (fun _ x_ W_ => ∃ u, u ≤ W_.heap.size ∧ NOwn LP W_ 33 5 s0 u x_ ps), ⟨fun _ _ _ => rfl, fun _ _ _ _ hu h => (by obtain ⟨u, h1, h2⟩ := h; exact ⟨u, Nat.le_trans h1 hu.size, h2.ext hu⟩)⟩, fun val h_ W hx he => ⟨trivial, ?_⟩, ?_⟩
  · replace hx := (Upd.drew _ _).trans hx
    replace hp := hp.ext hx
    replace hc := hc.ext hx
    replace hb := hb.ext hx
    replace hB1 := hB1.ext hx
    replace hB2 := hB2.ext hx
    have hE := Upd.refl (fun _ => False) W
    have hxs := hx.size
    obtain ⟨⟨bz, hbz⟩, _⟩ := he
    refine X_append (B := s0) (n := 0) (s := val 0) (x := pv) S22 ⟨_, Try.underlying22⟩ rfl rfl (xs := []) (by rw [hbz]; exact Own.zero _ _ _ _ _) hp.1 hp.sub_one (by unfold maxLen; omega) (by omega) (by omega) ?_
    intro v5 w5 hO5 hu5 _
    rw [hbz] at hu5
    replace hO5 := hO5.eq (Nat.zero_add _) (List.nil_append _)
    exact ⟨hu5.nobk, _, Nat.le_refl _, NOwn.of (fun _ => rfl) hO5 fun b hb => (hO5.lt hb).2⟩
  refine ⟨.abs (fun _ x_ _ => ∃ b, x_ = .slice (some ⟨b, 0, none⟩) 0 0), ⟨fun _ _ _ => rfl, fun _ _ _ _ _ h => h⟩, fun val h_ W hx he => ⟨trivial, ?_⟩, ?_⟩
  · replace hx := (Upd.drew _ _).trans hx
    replace hp := hp.ext hx
    replace hc := hc.ext hx
    replace hb := hb.ext hx
    replace hB1 := hB1.ext hx
    replace hB2 := hB2.ext hx
    have hE := Upd.refl (fun _ => False) W
    refine X_buildSliceL (vs := []) (c := []) S23 (by decide) rfl rfl (fun _ h => by cases h) rfl ?_
    intro b w2 hn
    exact ⟨hn.ext, b, rfl⟩
  refine ⟨.det (fun val => (ptr b1 (1))), ⟨fun _ _ hv => rfl, fun _ _ _ _ _ => trivial⟩, fun val h_ W hx he => ⟨trivial, ?_⟩, ?_⟩
  · replace hx := (Upd.drew _ _).trans hx
    replace hp := hp.ext hx
    replace hc := hc.ext hx
    replace hb := hb.ext hx
    replace hB1 := hB1.ext hx
    replace hB2 := hB2.ext hx
    have hE := Upd.refl (fun _ => False) W
    refine id (X_fldP (b := b1) (o := 0) (r := 1) Fd26_1 rfl rfl ?_)
    exact ⟨hE, rfl⟩
  refine ⟨.det (fun val => cv), ⟨fun _ _ hv => rfl, fun _ _ _ _ _ => trivial⟩, fun val h_ W hx he => ⟨trivial, ?_⟩, ?_⟩
  · replace hx := (Upd.drew _ _).trans hx
    replace hp := hp.ext hx
    replace hc := hc.ext hx
    replace hb := hb.ext hx
    replace hB1 := hB1.ext hx
    replace hB2 := hB2.ext hx
    have hE := Upd.refl (fun _ => False) W
    refine id (X_load (p := (ptr b1 (1))) (v := cv) T23 rfl (hB1.at1 rfl) ?_)
    exact ⟨hE, rfl⟩
  refine ⟨.abs (fun _ x_ W_ => ∃ u, u ≤ W_.heap.size ∧ NOwn LW W_ 35 5 s0 u x_ cs), ⟨fun _ _ _ => rfl, fun _ _ _ _ hu h => (by obtain ⟨u, h1, h2⟩ := h; exact ⟨u, Nat.le_trans h1 hu.size, h2.ext hu⟩)⟩, fun val h_ W hx he => ⟨trivial, ?_⟩, ?_⟩
  · replace hx := (Upd.drew _ _).trans hx
    replace hp := hp.ext hx
    replace hc := hc.ext hx
    replace hb := hb.ext hx
    replace hB1 := hB1.ext hx
    replace hB2 := hB2.ext hx
    have hE := Upd.refl (fun _ => False) W
    have hxs := hx.size
    obtain ⟨⟨bz, hbz⟩, _⟩ := he
    refine X_append (B := s0) (n := 0) (s := val 4) (x := cv) S23 ⟨_, Try.underlying23⟩ rfl rfl (xs := []) (by rw [hbz]; exact Own.zero _ _ _ _ _) hc.1 hc.sub_one (by unfold maxLen; omega) (by omega) (by omega) ?_
    intro v5 w5 hO5 hu5 _
    rw [hbz] at hu5
    replace hO5 := hO5.eq (Nat.zero_add _) (List.nil_append _)
    exact ⟨hu5.nobk, _, Nat.le_refl _, NOwn.of (fun _ => rfl) hO5 fun b hb => (hO5.lt hb).2⟩
  refine ⟨.abs (fun _ x_ _ => ∃ b, x_ = .slice (some ⟨b, 0, none⟩) 0 0), ⟨fun _ _ _ => rfl, fun _ _ _ _ _ h => h⟩, fun val h_ W hx he => ⟨trivial, ?_⟩, ?_⟩
  · replace hx := (Upd.drew _ _).trans hx
    replace hp := hp.ext hx
    replace hc := hc.ext hx
    replace hb := hb.ext hx
    replace hB1 := hB1.ext hx
    replace hB2 := hB2.ext hx
    have hE := Upd.refl (fun _ => False) W
    refine X_buildSlice1 (vs := []) S24 (by decide) rfl rfl (fun _ h => by cases h) ?_
    intro b w2 hn
    exact ⟨hn.ext, b, rfl⟩
  refine ⟨.det (fun val => (ptr b1 (2))), ⟨fun _ _ hv => rfl, fun _ _ _ _ _ => trivial⟩, fun val h_ W hx he => ⟨trivial, ?_⟩, ?_⟩
  · replace hx := (Upd.drew _ _).trans hx
    replace hp := hp.ext hx
    replace hc := hc.ext hx
    replace hb := hb.ext hx
    replace hB1 := hB1.ext hx
    replace hB2 := hB2.ext hx
    have hE := Upd.refl (fun _ => False) W
    refine id (X_fldP (b := b1) (o := 0) (r := 2) Fd26_2 rfl rfl ?_)
    exact ⟨hE, rfl⟩
  refine ⟨.det (fun val => bv), ⟨fun _ _ hv => rfl, fun _ _ _ _ _ => trivial⟩, fun val h_ W hx he => ⟨trivial, ?_⟩, ?_⟩
  · replace hx := (Upd.drew _ _).trans hx
    replace hp := hp.ext hx
    replace hc := hc.ext hx
    replace hb := hb.ext hx
    replace hB1 := hB1.ext hx
    replace hB2 := hB2.ext hx
    have hE := Upd.refl (fun _ => False) W
    refine id (X_load (p := (ptr b1 (2))) (v := bv) T24 rfl (hB1.at1 rfl) ?_)
    exact ⟨hE, rfl⟩
  refine ⟨.abs (fun _ x_ W_ => ∃ u, u ≤ W_.heap.size ∧ NOwn LI W_ 3 5 s0 u x_ bs), ⟨fun _ _ _ => rfl, fun _ _ _ _ hu h => (by obtain ⟨u, h1, h2⟩ := h; exact ⟨u, Nat.le_trans h1 hu.size, h2.ext hu⟩)⟩, fun val h_ W hx he => ⟨trivial, ?_⟩, ?_⟩
  · replace hx := (Upd.drew _ _).trans hx
    replace hp := hp.ext hx
    replace hc := hc.ext hx
    replace hb := hb.ext hx
    replace hB1 := hB1.ext hx
    replace hB2 := hB2.ext hx
    have hE := Upd.refl (fun _ => False) W
    have hxs := hx.size
    obtain ⟨⟨bz, hbz⟩, _⟩ := he
    refine X_append (B := s0) (n := 0) (s := val 8) (x := bv) S24 ⟨_, Try.underlying24⟩ rfl rfl (xs := []) (by rw [hbz]; exact Own.zero _ _ _ _ _) hb.1 hb.sub_one (by unfold maxLen; omega) (by omega) (by omega) ?_
    intro v5 w5 hO5 hu5 _
    rw [hbz] at hu5
    replace hO5 := hO5.eq (Nat.zero_add _) (List.nil_append _)
    exact ⟨hu5.nobk, _, Nat.le_refl _, NOwn.of (fun _ => rfl) hO5 fun b hb => (hO5.lt hb).2⟩
  refine ⟨.det (fun val => (ptr b1 (3))), ⟨fun _ _ hv => rfl, fun _ _ _ _ _ => trivial⟩, fun val h_ W hx he => ⟨trivial, ?_⟩, ?_⟩
  · replace hx := (Upd.drew _ _).trans hx
    replace hp := hp.ext hx
    replace hc := hc.ext hx
    replace hb := hb.ext hx
    replace hB1 := hB1.ext hx
    replace hB2 := hB2.ext hx
    have hE := Upd.refl (fun _ => False) W
    refine id (X_fldP (b := b1) (o := 0) (r := 3) Fd26_3 rfl rfl ?_)
    exact ⟨hE, rfl⟩
  refine ⟨.det (fun val => (.bool (off))), ⟨fun _ _ hv => rfl, fun _ _ _ _ _ => trivial⟩, fun val h_ W hx he => ⟨trivial, ?_⟩, ?_⟩
  · replace hx := (Upd.drew _ _).trans hx
    replace hp := hp.ext hx
    replace hc := hc.ext hx
    replace hb := hb.ext hx
    replace hB1 := hB1.ext hx
    replace hB2 := hB2.ext hx
    have hE := Upd.refl (fun _ => False) W
    refine id (X_load (p := (ptr b1 (3))) (v := (.bool (off))) T4 rfl (hB1.at1 rfl) ?_)
    exact ⟨hE, rfl⟩
  intro val W3 hx3 he3
  replace hx3 := (Upd.drew _ _).trans hx3
  have hz3 := hx3.size
  replace hp := hp.ext hx3
  replace hc := hc.ext hx3
  replace hb := hb.ext hx3
  replace hU := hU.trans (Ext.upd hx3)
  replace hB1 := hB1.ext hx3
  replace hB2 := hB2.ext hx3
  obtain ⟨⟨u11, hu11, hN11⟩, he3⟩ := he3
  obtain ⟨⟨bz8, hbz8⟩, he3⟩ := he3
  obtain ⟨⟨u7, hu7, hN7⟩, he3⟩ := he3
  obtain ⟨⟨bz4, hbz4⟩, he3⟩ := he3
  obtain ⟨⟨u3, hu3, hN3⟩, he3⟩ := he3
  obtain ⟨⟨bz0, hbz0⟩, he3⟩ := he3
  refine L_op rfl (X_build (built26' hN3.1.sv hN7.1.sv hN11.1.sv off) ?_)
  refine L_op0 (X_storeW (b := b2) (ys := [(val 3), (val 7), (val 11), (.bool (off))]) A26 rfl rfl (List.forall_mem_cons.2 ⟨(hN3.1.sv.one), (List.forall_mem_cons.2 ⟨(hN7.1.sv.one), (List.forall_mem_cons.2 ⟨(hN11.1.sv.one), (List.forall_mem_cons.2 ⟨rfl, (fun _ h => by cases h)⟩)⟩)⟩)⟩) rfl hB2 rfl ?_)
  intro w4 hu4 hb4
  have hz4 := hu4.size
  replace hp := hp.upd hu4 fun i h1 h2 h => by have h : i = b2 := h; omega
  replace hc := hc.upd hu4 fun i h1 h2 h => by have h : i = b2 := h; omega
  replace hb := hb.upd hu4 fun i h1 h2 h => by have h : i = b2 := h; omega
  replace hU := hU.trans (hu4.mono fun i _ h => by have h : i = b2 := h; show n0 ≤ i; omega)
  replace hB1 := hB1.upd hu4 fun h => by have h : b1 = b2 := h; omega
  replace hN3 := hN3.upd hu4 fun i h1 h2 h => by have h : i = b2 := h; omega
  replace hN7 := hN7.upd hu4 fun i h1 h2 h => by have h : i = b2 := h; omega
  replace hN11 := hN11.upd hu4 fun i h1 h2 h => by have h : i = b2 := h; omega
  replace hB2 : Blk w4 b2 #[(val 3), (val 7), (val 11), (.bool (off))] 26 := hb4
  refine L_nil ?_
  refine T_n ?_
  refine W_ret ?_
  have hU2 := hU.own hn0
  exact BQ_r (End_1 Try.results30 (RV_A A26 rfl hB2.atAll rfl) ⟨_, _, _, rfl, hN3.mono (by omega) (by omega), hN7.mono (by omega) (by omega), hN11.mono (by omega) (by omega), hU2⟩)

theorem zc33_eq : zc33 = (List.replicate 256 (0 : UInt8)).map byteV := by rw [List.map_replicate]; rfl
theorem built33z : Try.prog.built 33 [] = some zc33.toArray := by kernel_rfl
theorem built33 : Try.prog.built 33 [] = some ((List.replicate 256 (0 : UInt8)).map byteV).toArray := by rw [built33z, zc33_eq]
def pageV (p : Pg) : Value := .agg (p.1.map byteV).toArray
def wZ : Wr := (0, default)
def wrV (e : Wr) : Value := .agg (LW.cel e).toArray
def backW (cs : List Wr) : List (List Value) := (List.range cs.length).map fun k => [.int .i64 ((cs.length - 1 - k : Nat) : Int), wrV (cs.getD (cs.length - 1 - k) wZ)]
theorem backW_length (cs : List Wr) : (backW cs).length = cs.length := by unfold backW; rw [List.length_map, List.length_range]
theorem backW_at {cs : List Wr} {k : Nat} (hk : k < cs.length) : (backW cs)[k]? = some [.int .i64 ((cs.length - 1 - k : Nat) : Int), wrV (cs.getD (cs.length - 1 - k) wZ)] := by
  unfold backW
  rw [List.getElem?_map, List.getElem?_range hk]; rfl
theorem wgetD {cs : List Wr} {i : Nat} (hi : i < cs.length) : cs[i]? = some (cs.getD i wZ) := by rw [List.getD_eq_getElem?_getD, List.getElem?_eq_getElem hi]; rfl
/-- the pages written at a place, the last one first -/
def hitsW (cs : List Wr) (n : Int) : List Pg := (cs.reverse.filter fun e => decide (e.1 = n)).map (·.2)
def hitsX (cs : List Wr) (n : Int) : List (List Value) := (hitsW cs n).map fun p => [pageV p]
theorem hitsX_length (cs : List Wr) (n : Int) : (hitsX cs n).length = (hitsW cs n).length := List.length_map _
def cntW (cs : List Wr) (n : Int) (k : Nat) : Nat := ((cs.reverse.take k).filter fun e => decide (e.1 = n)).length
theorem rev_at {cs : List Wr} {k : Nat} {e : Wr} (hk : k < cs.length) (he : cs[cs.length - 1 - k]? = some e) : cs.reverse[k]? = some e := by rw [List.getElem?_reverse hk]; exact he
theorem cntW_hit {cs : List Wr} {n : Int} {k : Nat} {e : Wr} (hk : k < cs.length) (he : cs[cs.length - 1 - k]? = some e) (h : e.1 = n) : cntW cs n (k + 1) = cntW cs n k + 1 := by
  unfold cntW
  rw [List.take_add_one, rev_at hk he, List.filter_append, List.length_append]
  simp [h]
theorem cntW_miss {cs : List Wr} {n : Int} {k : Nat} {e : Wr} (hk : k < cs.length) (he : cs[cs.length - 1 - k]? = some e) (h : ¬ e.1 = n) : cntW cs n (k + 1) = cntW cs n k := by
  unfold cntW
  rw [List.take_add_one, rev_at hk he, List.filter_append, List.length_append]
  simp [h]
theorem hits_at {cs : List Wr} {n : Int} {k : Nat} {e : Wr} (hk : k < cs.length) (he : cs[cs.length - 1 - k]? = some e) (h : e.1 = n) : (hitsX cs n)[cntW cs n k]? = some [pageV e.2] := by
  have h1 := rev_at hk he
  have hlt := (List.getElem?_eq_some_iff.1 h1).1
  have e1 : cs.reverse = cs.reverse.take k ++ e :: cs.reverse.drop (k + 1) := by
    have h2 := (List.getElem?_eq_some_iff.1 h1).2
    rw [← h2, ← List.drop_eq_getElem_cons hlt, List.take_append_drop]
  unfold hitsX hitsW
  rw [e1, List.filter_append, List.map_append, List.map_append, List.getElem?_append_right (by rw [List.length_map, List.length_map]; exact Nat.le_refl _), List.length_map, List.length_map]
  have h3 : cntW cs n k - ((cs.reverse.take k).filter fun e => decide (e.1 = n)).length = 0 := Nat.sub_self _
  rw [h3]
  simp [h]
theorem cntW_all (cs : List Wr) (n : Int) : cntW cs n cs.length = (hitsW cs n).length := by
  unfold cntW hitsW
  rw [List.length_map, List.take_of_length_le (by rw [List.length_reverse]; exact Nat.le_refl _)]
theorem cntW_lt {cs : List Wr} {n : Int} {k : Nat} {e : Wr} (hk : k < cs.length) (he : cs[cs.length - 1 - k]? = some e) (h : e.1 = n) : cntW cs n k < (hitsX cs n).length := (List.getElem?_eq_some_iff.1 (hits_at hk he h)).1

theorem built35z (parts : List (Nat × Value)) : Try.prog.built 35 parts = Instr.fill (([(0, 1), (1, 256)] : List (Nat × Nat)).toArray[·]?) zc35.toArray parts := by kernel_rfl
theorem fill_fold : ∀ (vs : List Value) (k off : Nat) (cells : Array Value), off + k + vs.length ≤ cells.size →
    ((vs.zipIdx k).foldl (fun (cs : Array Value) (x : Value × Nat) => cs.setIfInBounds (off + x.2) x.1) cells).toList = cells.toList.take (off + k) ++ vs ++ cells.toList.drop (off + k + vs.length)
  | [], k, off, cells, _ => by simp
  | v :: vs, k, off, cells, h => by
    simp only [List.zipIdx_cons, List.foldl_cons]
    rw [fill_fold vs (k + 1) off (cells.setIfInBounds (off + k) v) (by simp at h ⊢; omega)]
    apply List.ext_getElem?
    intro j
    simp only [Array.toList_setIfInBounds, List.getElem?_append, List.getElem?_take, List.getElem?_drop, List.getElem?_set, List.length_append, List.length_take, List.length_set, Array.length_toList, List.length_cons]
    simp only [List.length_cons] at h
    have : cells.toList.length = cells.size := Array.length_toList
    grind
theorem built35 (n : Int) (p : Pg) : Try.prog.built 35 [(0, .int .i64 n), (1, pageV p)] = some (LW.cel (n, p)).toArray := by
  rw [built35z]
  have hz : zc35.toArray.size = 257 := zc35_size
  have hpl : (p.1.map byteV).length = 256 := by rw [List.length_map]; exact p.2
  have h1 : (Value.int IntKind.i64 n).cells = #[.int .i64 n] := rfl
  have h2 : (pageV p).cells = (p.1.map byteV).toArray := rfl
  simp only [Instr.fill, h1, h2]
  have hz2 : zc35.length = 257 := by simpa using hz
  simp [hz, hpl]
  refine ⟨by omega, ?_⟩
  apply Array.ext'
  rw [fill_fold _ 0 1 _ (by simp [hz2, p.2])]
  obtain ⟨a, r, hr⟩ : ∃ a r, zc35 = a :: r := by
    cases h : zc35 with
    | nil => rw [h] at hz2; cases hz2
    | cons a r => exact ⟨a, r, rfl⟩
  have hr2 : r.length = 256 := by rw [hr] at hz2; simpa using hz2
  rw [hr]
  simp [LW, p.2, hr2]


def readD (ps : List Pg) (cs : List Wr) (bs : List Int) (n : Int) : Pg × Int :=
  match hitsW cs n with
  | p :: _ => (p, 0)
  | [] => if n ∈ bs then (default, 31) else (ps.getD n.toNat default, 0)
open Classical in
noncomputable def readE (ps : List Pg) (cs : List Wr) (bs : List Int) (off : Bool) (n : Int) : Pg × Int := if askE ps.length cs bs off n = 0 then readD ps cs bs n else (default, askE ps.length cs bs off n)
theorem readE_bad {ps : List Pg} {cs : List Wr} {bs : List Int} {off : Bool} {n : Int} (h : askE ps.length cs bs off n ≠ 0) : readE ps cs bs off n = (default, askE ps.length cs bs off n) := if_neg h
theorem readE_ok {ps : List Pg} {cs : List Wr} {bs : List Int} {off : Bool} {n : Int} (h : askE ps.length cs bs off n = 0) : readE ps cs bs off n = readD ps cs bs n := if_pos h
theorem readD_hit {ps : List Pg} {cs : List Wr} {bs : List Int} {n : Int} {p : Pg} (h : (hitsW cs n)[0]? = some p) : readD ps cs bs n = (p, 0) := by
  unfold readD
  cases hh : hitsW cs n with
  | nil => rw [hh] at h; cases h
  | cons a r => rw [hh] at h; cases h; rfl
theorem readD_bad {ps : List Pg} {cs : List Wr} {bs : List Int} {n : Int} (h : hitsW cs n = []) (hb : n ∈ bs) : readD ps cs bs n = (default, 31) := by unfold readD; rw [h]; exact if_pos hb
theorem readD_page {ps : List Pg} {cs : List Wr} {bs : List Int} {n : Int} {p : Pg} (h : hitsW cs n = []) (hb : n ∉ bs) (hp : ps[n.toNat]? = some p) : readD ps cs bs n = (p, 0) := by
  unfold readD
  rw [h]
  refine (if_neg hb).trans ?_
  rw [List.getD_eq_getElem?_getD, hp]; rfl
theorem hitsX_at {cs : List Wr} {n : Int} {k : Nat} {x : List Value} (h : (hitsX cs n)[k]? = some x) : ∃ p : Pg, (hitsW cs n)[k]? = some p ∧ x = [pageV p] := by
  unfold hitsX at h
  rw [List.getElem?_map] at h
  cases hp : (hitsW cs n)[k]? with
  | none => rw [hp] at h; cases h
  | some p => rw [hp] at h; cases h; exact ⟨p, rfl, rfl⟩

open Classical in
noncomputable def wrE (np : Nat) (cs : List Wr) (bs : List Int) (off : Bool) (n : Int) : Int := if askE np cs bs off n = 0 ∧ 2000 ≤ cs.length then 32 else askE np cs bs off n
theorem wrE_full {np : Nat} {cs : List Wr} {bs : List Int} {off : Bool} {n : Int} (h : askE np cs bs off n = 0) (h2 : 2000 ≤ cs.length) : wrE np cs bs off n = 32 := if_pos ⟨h, h2⟩
theorem wrE_ask {np : Nat} {cs : List Wr} {bs : List Int} {off : Bool} {n : Int} (h : ¬ (askE np cs bs off n = 0 ∧ 2000 ≤ cs.length)) : wrE np cs bs off n = askE np cs bs off n := if_neg h
open Classical in
noncomputable def writeC (np : Nat) (cs : List Wr) (bs : List Int) (off : Bool) (n : Int) (p : Pg) : List Wr := if wrE np cs bs off n = 0 then cs ++ [(n, p)] else cs
theorem NOwn.upd' {ε : Type} {L : Lay ε} {w w' : World} {D : Nat → Prop} {er eb lo hi : Nat} {v : Value} {es : List ε} (hs : ∀ e, L.sub e = []) (h : NOwn L w er eb lo hi v es) (hu : Upd D w w') (hd : ∀ b, obk v = some b → ¬ D b) : NOwn L w' er eb lo hi v es :=
  NOwn.of hs (h.1.upd hu hd) h.2.1

def keepI (bs : List Int) (n : Int) : List Int := bs.filter fun a => decide (a ≠ n)
theorem keepI_take_hit {bs : List Int} {n : Int} {i : Nat} (hi : bs[i]? = some n) : keepI (bs.take (i + 1)) n = keepI (bs.take i) n := by
  unfold keepI
  rw [List.take_add_one, hi, List.filter_append]
  simp
theorem keepI_take_miss {bs : List Int} {n a : Int} {i : Nat} (hi : bs[i]? = some a) (h : a ≠ n) : keepI (bs.take (i + 1)) n = keepI (bs.take i) n ++ [a] := by
  unfold keepI
  rw [List.take_add_one, hi, List.filter_append]
  simp [h]
theorem keepI_all {bs : List Int} {n : Int} (h : ∀ (j : Nat) (a : Int), bs[j]? = some a → a ≠ n) : keepI bs n = bs := by
  unfold keepI
  rw [List.filter_eq_self]
  intro a ha
  obtain ⟨j, hj, rfl⟩ := List.getElem_of_mem ha
  simpa using h j _ (List.getElem?_eq_getElem hj)
theorem keepI_le (bs : List Int) (n : Int) : (keepI bs n).length ≤ bs.length := List.length_filter_le _ _

theorem c_flush1 (a : Int) (e : Wr) (b1 : Nat) (w : World) (hE : Blk w b1 (LW.cel e).toArray 35) : CT Try.prog 29 #[(.int .i64 (a)), (ptr b1 (0))] w fun v w' => v = .bool (decide (a = e.1)) ∧ w = w' := by
  refine CT_of Try.func29 rfl rfl rfl ?_
  refine W_seq ?_
  refine W_reg ?_
  refine L_op rfl (X_assign (v := (.bool (false))) rfl ?_)
  refine L_nil ?_
  refine T_n ?_
  refine W_seq ?_
  refine W_reg ?_
  refine L_op rfl (X_move (v := (.int .i64 (a))) rfl ?_)
  refine L_op rfl (X_fldP (b := b1) (o := 0) (r := 0) Fd35_0 rfl rfl ?_)
  refine L_op rfl (X_load (p := (ptr b1 (0))) (v := .int .i64 e.1) T3 rfl (hE.at1 rfl) ?_)
  refine L_op rfl (X_cmp (k := .i64) (a := a) (b := e.1) (r := decide (a = e.1)) rfl rfl rfl rfl ?_)
  refine L_op rfl (X_assign (v := (.bool (decide (a = e.1)))) rfl ?_)
  refine L_nil ?_
  refine T_n ?_
  refine W_ret ?_
  exact BQ_r (End_1 Try.results29 (v := .bool (decide (a = e.1))) rfl ⟨rfl, rfl⟩)

theorem c_indexf (v : Value) (e : Wr) (b1 : Nat) (bs : List Int) (w : World) (lo up : Nat) (hb : NRd LI w lo up v bs) (hE : Blk w b1 (LW.cel e).toArray 35) : CT Try.prog 41 #[v, (.func (.func 29) #[] #[ptr b1 0])] w fun v w' => ((v = .int .i64 (-1) ∧ ∀ (j : Nat) (a : Int), bs[j]? = some a → a ≠ e.1) ∨ ∃ i : Nat, v = .int .i64 ((i : Nat) : Int) ∧ bs[i]? = some e.1 ∧ ∀ (j : Nat) (a : Int), j < i → bs[j]? = some a → a ≠ e.1) ∧ w = w' := by
  have hmx := hb.sv.len
  refine CT_of Try.func41 rfl rfl rfl ?_
  refine W_seq ?_
  refine W_reg ?_
  refine L_op rfl (X_assign (v := (.int .i64 (0))) rfl ?_)
  refine L_nil ?_
  refine T_n ?_
  refine W_seq ?_
  refine W_seq ?_
  refine W_reg ?_
  refine L_op rfl (X_move (v := v) rfl ?_)
  refine L_op rfl (X_len (v := v) (n := bs.length) Try.underlying24 rfl hb.sv ?_)
  refine L_op rfl (X_move (v := (.int .i64 (0))) rfl ?_)
  refine L_nil ?_
  refine T_n ?_
  refine W_block ?_
  refine W_loop (α := Nat) [4, 5, 8, 9, 10, 11, 12, 13, 14, 15, 16, 17, 18] (fun i => [(8, (.int .i64 (((i : Nat) : Int))))]) (fun i w_ => w = w_ ∧ i ≤ bs.length ∧ ∀ (j : Nat) (a : Int), j < i → bs[j]? = some a → a ≠ e.1) (fun i => bs.length - i) ⟨rfl, 0, ⟨rfl, Nat.zero_le _, fun j _ h => absurd h (Nat.not_lt_zero j)⟩, Out.refl _ _, ⟨rfl, trivial⟩⟩ ?_
  rintro i w1 _ ⟨rfl, hil, hz⟩
  refine W_seq ?_
  refine W_reg ?_
  by_cases hc2 : (((i : Nat) : Int) : Int) < (((bs.length : Nat) : Int))
  · refine L_op rfl (X_cmp (k := .i64) (a := ((i : Nat) : Int)) (b := ((bs.length : Nat) : Int)) (r := true) rfl rfl rfl (decide_eq_true (p := ((((i : Nat) : Int)) : Int) < ((((bs.length : Nat) : Int)) : Int)) (by omega)) ?_)
    have hi : i < bs.length := by omega
    obtain ⟨a, hai⟩ : ∃ a, bs[i]? = some a := ⟨_, List.getElem?_eq_getElem hi⟩
    refine L_nil ?_
    refine T_n ?_
    refine W_seq ?_
    refine W_ct rfl ?_
    refine W_skip ?_
    refine T_n ?_
    refine W_seq ?_
    refine W_block ?_
    refine W_seq ?_
    refine W_reg ?_
    refine L_op rfl (X_move (v := (.int .i64 (((i : Nat) : Int)))) rfl ?_)
    refine L_op rfl (X_assign (v := (.int .i64 (((i : Nat) : Int)))) rfl ?_)
    refine L_nil ?_
    refine T_n ?_
    refine W_seq ?_
    refine W_reg ?_
    refine L_op rfl (X_move (v := (.func (.func 29) #[] #[ptr b1 0])) rfl ?_)
    refine L_op rfl (X_move (v := v) rfl ?_)
    refine L_op rfl (X_move (v := (.int .i64 (((i : Nat) : Int)))) rfl ?_)
    refine L_op rfl (X_idx (v := v) (n := bs.length) (k := .i64) (i := ((i : Nat) : Int)) S24 rfl hb.sv rfl (by omega) (by omega) ?_)
    refine L_op rfl (X_load (v := .int .i64 a) T3 rfl (iat hb (Int.toNat_natCast _) hai) ?_)
    refine L_op rfl (X_cl (vs := [.int .i64 a]) (cap := [ptr b1 0]) en29 rfl rfl (CT.mono (c_flush1 a e b1 _ hE) ?_))
    rintro _ _ ⟨rfl, rfl⟩
    rcases Bool.eq_false_or_eq_true (decide (a = e.1)) with hc3 | hc3
    · rw [hc3]
      refine L_nil ?_
      refine T_n ?_
      refine W_ct rfl ?_
      refine W_seq ?_
      refine W_reg ?_
      refine L_op rfl (X_move (v := (.int .i64 (((i : Nat) : Int)))) rfl ?_)
      refine L_op rfl (X_assign (v := (.int .i64 (((i : Nat) : Int)))) rfl ?_)
      refine L_nil ?_
      refine T_n ?_
      refine W_ret ?_
      refine B_r ?_
      refine T_r ?_
      refine T_r ?_
      refine B_r ?_
      refine T_r ?_
      exact BQ_r (End_1 Try.results41 (v := (.int .i64 (((i : Nat) : Int)))) rfl ⟨.inr ⟨i, rfl, by rw [hai, of_decide_eq_true hc3], hz⟩, rfl⟩)
    · rw [hc3]
      refine L_nil ?_
      refine T_n ?_
      refine W_cf rfl ?_
      refine W_skip ?_
      refine B_n ?_
      refine T_n ?_
      refine W_reg ?_
      refine L_op rfl (X_arith (k := .i64) (a := ((i : Nat) : Int)) (b := 1) (r := ((i + 1 : Nat) : Int)) rfl rfl rfl (iadd64 (by omega) (by omega) (by omega)) ?_)
      refine L_op rfl (X_move (v := (.int .i64 (((i + 1 : Nat) : Int)))) rfl ?_)
      refine L_nil ?_
      refine T_n ?_
      exact ⟨rfl, i + 1, ⟨⟨rfl, hi, fun j x hj he => (Nat.lt_or_ge j i).elim (fun h1 => hz j x h1 he) fun h1 => by obtain rfl : j = i := by { omega }; rw [hai] at he; cases he; exact of_decide_eq_false hc3⟩, (by show bs.length - (i + 1) < bs.length - i; omega)⟩, (Out.mk rfl), ⟨rfl, trivial⟩⟩
  · refine L_op rfl (X_cmp (k := .i64) (a := ((i : Nat) : Int)) (b := ((bs.length : Nat) : Int)) (r := false) rfl rfl rfl (decide_eq_false (p := ((((i : Nat) : Int)) : Int) < ((((bs.length : Nat) : Int)) : Int)) (by omega)) ?_)
    refine L_nil ?_
    refine T_n ?_
    refine W_seq ?_
    refine W_cf rfl ?_
    refine W_exit ?_
    refine T_e ?_
    refine T_e ?_
    refine B_x ?_
    refine T_n ?_
    refine W_seq ?_
    refine W_reg ?_
    refine L_op rfl (X_assign (v := (.int .i64 (-1))) rfl ?_)
    refine L_nil ?_
    refine T_n ?_
    refine W_ret ?_
    exact BQ_r (End_1 Try.results41 (v := (.int .i64 (-1))) rfl ⟨.inl ⟨rfl, fun j a hj => hz j a (by have := (List.getElem?_eq_some_iff.1 hj).1; omega) hj⟩, rfl⟩)

theorem liF (bs : List Int) : bs.flatMap LI.cel = bs.map fun n => Value.int .i64 n := by
  induction bs with
  | nil => rfl
  | cons a r ih => rw [List.flatMap_cons, ih]; rfl
theorem liTake (bs : List Int) (i : Nat) : (bs.flatMap LI.cel).take i = (bs.take i).flatMap LI.cel := by rw [liF, liF, List.map_take]
theorem liSet (bs : List Int) (i : Nat) (a : Int) : (bs.flatMap LI.cel).set i (.int .i64 a) = (bs.set i a).flatMap LI.cel := by rw [liF, liF, List.map_set]
theorem take_set_succ {xs : List Int} {i : Nat} {a : Int} (hi : i < xs.length) : (xs.set i a).take (i + 1) = xs.take i ++ [a] := by
  rw [List.take_add_one, List.getElem?_set_self hi]
  congr 1
  apply List.ext_getElem?
  intro j
  simp only [List.getElem?_take, List.getElem?_set]
  grind
def flP (ps : List Pg) (l : List Wr) : List Pg := l.foldl (fun q e => q.set e.1.toNat e.2) ps
def flB (bs : List Int) (l : List Wr) : List Int := l.foldl (fun q e => keepI q e.1) bs
theorem flP_length (ps : List Pg) (l : List Wr) : (flP ps l).length = ps.length := by
  unfold flP
  induction l generalizing ps with
  | nil => rfl
  | cons a r ih => rw [List.foldl_cons, ih, List.length_set]
theorem flP_step {ps : List Pg} {l : List Wr} {i : Nat} {e : Wr} (h : l[i]? = some e) : flP ps (l.take (i + 1)) = (flP ps (l.take i)).set e.1.toNat e.2 := by
  unfold flP
  rw [List.take_add_one, h, List.foldl_append]; rfl
theorem flB_step {bs : List Int} {l : List Wr} {i : Nat} {e : Wr} (h : l[i]? = some e) : flB bs (l.take (i + 1)) = keepI (flB bs (l.take i)) e.1 := by
  unfold flB
  rw [List.take_add_one, h, List.foldl_append]; rfl
theorem flB_le (bs : List Int) (l : List Wr) : (flB bs l).length ≤ bs.length := by
  unfold flB
  induction l generalizing bs with
  | nil => exact Nat.le_refl _
  | cons a r ih => rw [List.foldl_cons]; exact Nat.le_trans (ih _) (keepI_le _ _)
theorem obk_cut0 {v : Value} {k n : Nat} (h : SV v n) : obk (cutv v 1 0 k) = obk v := by
  obtain ⟨a, c, rfl, _⟩ := h
  rw [cutv_zero']
  cases a <;> cases c <;> rfl
theorem keepI_ne {bs : List Int} {n : Int} {i : Nat} (h : ∀ (j : Nat) (a : Int), j < i → bs[j]? = some a → a ≠ n) : keepI (bs.take i) n = bs.take i := keepI_all fun j a hj => by
  rw [List.getElem?_take] at hj
  split at hj
  · exact h j a (by assumption) hj
  · cases hj

theorem c_delete (s : Value) (e : Wr) (b1 : Nat) (bs : List Int) (w : World) (lo up : Nat) (hN : NOwn LI w 3 5 lo up s bs) (hE : Blk w b1 (LW.cel e).toArray 35) (hb1 : b1 < lo ∨ up ≤ b1) : CT Try.prog 28 #[s, (.func (.func 29) #[] #[ptr b1 0])] w fun v w' => ∃ ds, NOwn LI w' 3 5 lo up v ds ∧ ds = keepI bs e.1 ∧ (∀ b, obk v = some b → obk s = some b) ∧ Upd (fun b => obk s = some b) w w' := by
  have hmx := hN.1.sv.len
  have hsv := hN.1.sv
  have hbd := hN.2.1
  refine CT_of Try.func28 rfl rfl rfl ?_
  refine W_seq ?_
  refine W_reg ?_
  refine L_op rfl (X_assign (v := (.slice none 0 0)) rfl ?_)
  refine L_nil ?_
  refine T_n ?_
  refine W_seq ?_
  refine W_reg ?_
  refine L_op rfl (X_move (v := s) rfl ?_)
  refine L_op rfl (X_move (v := (.func (.func 29) #[] #[ptr b1 0])) rfl ?_)
  have hbr := hN.rd
  refine L_op rfl (X_fn (vs := [s, (.func (.func 29) #[] #[ptr b1 0])]) en41 rfl (CT.mono (c_indexf s e b1 bs _ lo up hbr hE) ?_))
  rintro _ _ ⟨⟨rfl, hno⟩ | ⟨i0, rfl, hi0, hlt0⟩, rfl⟩
  · refine L_op rfl (X_assign (v := (.int .i64 (-1))) rfl ?_)
    refine L_nil ?_
    refine T_n ?_
    refine W_seq ?_
    refine W_seq ?_
    refine W_reg ?_
    refine L_op rfl (X_move (v := (.int .i64 (-1))) rfl ?_)
    refine L_op rfl (X_cmp (k := .i64) (a := -1) (b := -1) (r := true) rfl rfl rfl rfl ?_)
    refine L_nil ?_
    refine T_n ?_
    refine W_ct rfl ?_
    refine W_seq ?_
    refine W_reg ?_
    refine L_op rfl (X_move (v := s) rfl ?_)
    refine L_op rfl (X_assign (v := s) rfl ?_)
    refine L_nil ?_
    refine T_n ?_
    refine W_ret ?_
    refine T_r ?_
    exact BQ_r (End_1 Try.results28 (v := s) rfl ⟨bs, hN, (keepI_all hno).symm, fun _ h => h, Upd.refl _ _⟩)
  · have hi0l := (List.getElem?_eq_some_iff.1 hi0).1
    refine L_op rfl (X_assign (v := (.int .i64 (((i0 : Nat) : Int)))) rfl ?_)
    refine L_nil ?_
    refine T_n ?_
    refine W_seq ?_
    refine W_seq ?_
    refine W_reg ?_
    refine L_op rfl (X_move (v := (.int .i64 (((i0 : Nat) : Int)))) rfl ?_)
    refine L_op rfl (X_cmp (k := .i64) (a := ((i0 : Nat) : Int)) (b := -1) (r := false) rfl rfl rfl (decide_eq_false (p := ((((i0 : Nat) : Int)) : Int) = ((-1) : Int)) (by omega)) ?_)
    refine L_nil ?_
    refine T_n ?_
    refine W_cf rfl ?_
    refine W_skip ?_
    refine T_n ?_
    refine W_seq ?_
    refine W_seq ?_
    refine W_reg ?_
    refine L_op rfl (X_move (v := (.int .i64 (((i0 : Nat) : Int)))) rfl ?_)
    refine L_op rfl (X_arith (k := .i64) (a := ((i0 : Nat) : Int)) (b := 1) (r := ((i0 + 1 : Nat) : Int)) rfl rfl rfl (iadd64 (by omega) (by omega) (by omega)) ?_)
    refine L_op rfl (X_assign (v := (.int .i64 (((i0 + 1 : Nat) : Int)))) rfl ?_)
    refine L_nil ?_
    refine T_n ?_
    refine W_block ?_
    refine W_loop (α := Nat × Nat × List Int) [5, 6, 7, 16, 17, 18, 19, 20, 21, 22, 23, 24, 25, 26, 27, 28, 29, 30, 31, 32, 33, 34, 35] (fun ⟨i, j, xs⟩ => [(5, (.int .i64 (((i : Nat) : Int)))), (6, (.int .i64 (((j : Nat) : Int))))]) (fun ⟨i, j, xs⟩ w_ => j ≤ bs.length ∧ i < j ∧ xs.length = bs.length ∧ xs.take i = keepI (bs.take j) e.1 ∧ (keepI (bs.take j) e.1).length = i ∧ (∀ m, j ≤ m → xs[m]? = bs[m]?) ∧ Own w_ lo 3 1 s bs.length (xs.flatMap LI.cel) ∧ Blk w_ b1 (LW.cel e).toArray 35 ∧ Upd (fun b => obk s = some b) w w_) (fun ⟨i, j, xs⟩ => bs.length - j) ⟨rfl, (i0, i0 + 1, bs), ⟨by omega, Nat.lt_succ_self _, rfl, by rw [keepI_take_hit hi0, keepI_ne hlt0], by rw [keepI_take_hit hi0, keepI_ne hlt0, List.length_take]; omega, fun _ _ => rfl, hN.1, hE, Upd.refl _ _⟩, Out.refl _ _, ⟨rfl, rfl, trivial⟩⟩ ?_
    rintro ⟨i, j, xs⟩ w1 _ ⟨hjl, hij, hxs, hxi, hil, hrest, hO, hE, hU⟩
    have hxl : xs.length = bs.length := hxs
    refine W_seq ?_
    refine W_seq ?_
    refine W_reg ?_
    refine L_op rfl (X_move (v := (.int .i64 (((j : Nat) : Int)))) rfl ?_)
    refine L_op rfl (X_move (v := s) rfl ?_)
    refine L_op rfl (X_len (v := s) (n := bs.length) Try.underlying24 rfl hsv ?_)
    by_cases hc2 : (((j : Nat) : Int) : Int) < (((bs.length : Nat) : Int))
    · refine L_op rfl (X_cmp (k := .i64) (a := ((j : Nat) : Int)) (b := ((bs.length : Nat) : Int)) (r := true) rfl rfl rfl (decide_eq_true (p := ((((j : Nat) : Int)) : Int) < ((((bs.length : Nat) : Int)) : Int)) (by omega)) ?_)
      have hj : j < bs.length := by omega
      obtain ⟨a, haj⟩ : ∃ a, bs[j]? = some a := ⟨_, List.getElem?_eq_getElem hj⟩
      refine L_nil ?_
      refine T_n ?_
      refine W_ct rfl ?_
      refine W_skip ?_
      refine T_n ?_
      refine W_seq ?_
      refine W_block ?_
      refine W_seq ?_
      refine W_reg ?_
      refine L_op rfl (X_move (v := s) rfl ?_)
      refine L_op rfl (X_move (v := (.int .i64 (((j : Nat) : Int)))) rfl ?_)
      refine L_op rfl (X_idx (v := s) (n := bs.length) (k := .i64) (i := ((j : Nat) : Int)) S24 rfl hsv rfl (by omega) (by omega) ?_)
      refine L_op rfl (X_load (v := .int .i64 a) T3 rfl (hO.rd.cell (by rw [show (((j : Nat) : Int).toNat * 1) = j by omega, liF, List.getElem?_map, hrest j (Nat.le_refl _), haj]; rfl)) ?_)
      refine L_op rfl (X_assign (v := (.int .i64 (a))) rfl ?_)
      refine L_nil ?_
      refine T_n ?_
      refine W_seq ?_
      refine W_reg ?_
      refine L_op rfl (X_move (v := (.func (.func 29) #[] #[ptr b1 0])) rfl ?_)
      refine L_op rfl (X_move (v := (.int .i64 (a))) rfl ?_)
      refine L_op rfl (X_cl (vs := [.int .i64 a]) (cap := [ptr b1 0]) en29 rfl rfl (CT.mono (c_flush1 a e b1 _ hE) ?_))
      rintro _ _ ⟨rfl, rfl⟩
      rcases Bool.eq_false_or_eq_true (decide (a = e.1)) with hc3 | hc3
      · rw [hc3]
        refine L_op rfl (X_not (b := true) (r := false) rfl rfl ?_)
        refine L_nil ?_
        refine T_n ?_
        refine W_cf rfl ?_
        refine W_skip ?_
        refine B_n ?_
        refine T_n ?_
        refine W_reg ?_
        refine L_op rfl (X_move (v := (.int .i64 (((j : Nat) : Int)))) rfl ?_)
        refine L_op rfl (X_arith (k := .i64) (a := ((j : Nat) : Int)) (b := 1) (r := ((j + 1 : Nat) : Int)) rfl rfl rfl (iadd64 (by omega) (by omega) (by omega)) ?_)
        refine L_op rfl (X_assign (v := (.int .i64 (((j + 1 : Nat) : Int)))) rfl ?_)
        refine L_nil ?_
        refine T_n ?_
        exact ⟨rfl, ⟨i, j + 1, xs⟩, ⟨⟨hj, by omega, hxs, by rw [keepI_take_hit (by rw [haj, of_decide_eq_true hc3])]; exact hxi, by rw [keepI_take_hit (by rw [haj, of_decide_eq_true hc3])]; exact hil, fun m hm => hrest m (by omega), hO, hE, hU⟩, (by show bs.length - (j + 1) < bs.length - j; omega)⟩, (Out.mk rfl), ⟨rfl, rfl, trivial⟩⟩
      · rw [hc3]
        refine L_op rfl (X_not (b := false) (r := true) rfl rfl ?_)
        refine L_nil ?_
        refine T_n ?_
        refine W_ct rfl ?_
        refine W_seq ?_
        refine W_reg ?_
        refine L_op rfl (X_move (v := s) rfl ?_)
        refine L_op rfl (X_move (v := (.int .i64 (((i : Nat) : Int)))) rfl ?_)
        refine L_op rfl (X_move (v := (.int .i64 (a))) rfl ?_)
        refine L_op rfl (X_idx (v := s) (n := bs.length) (k := .i64) (i := ((i : Nat) : Int)) S24 rfl hsv rfl (by omega) (by omega) ?_)
        refine L_op0 (X_storeOwnC (i := ((i : Nat) : Int).toNat * 1) (v := s) (u := .int .i64 a) T3 hO (by omega) rfl rfl rfl ?_)
        intro w5 hO5 hu5
        have hz5 := hu5.size
        rw [show ((i : Nat) : Int).toNat * 1 = i by omega, liSet] at hO5
        replace hE := hE.upd hu5 fun h => by have h1 := hbd _ h; have h2 := (hO.lt h).1; omega
        replace hU := hU.trans hu5
        replace hO := hO5
        refine L_nil ?_
        refine T_n ?_
        refine W_reg ?_
        refine L_op rfl (X_move (v := (.int .i64 (((i : Nat) : Int)))) rfl ?_)
        refine L_op rfl (X_arith (k := .i64) (a := ((i : Nat) : Int)) (b := 1) (r := ((i + 1 : Nat) : Int)) rfl rfl rfl (iadd64 (by omega) (by omega) (by omega)) ?_)
        refine L_op rfl (X_assign (v := (.int .i64 (((i + 1 : Nat) : Int)))) rfl ?_)
        refine L_nil ?_
        refine B_n ?_
        refine T_n ?_
        refine W_reg ?_
        refine L_op rfl (X_move (v := (.int .i64 (((j : Nat) : Int)))) rfl ?_)
        refine L_op rfl (X_arith (k := .i64) (a := ((j : Nat) : Int)) (b := 1) (r := ((j + 1 : Nat) : Int)) rfl rfl rfl (iadd64 (by omega) (by omega) (by omega)) ?_)
        refine L_op rfl (X_assign (v := (.int .i64 (((j + 1 : Nat) : Int)))) rfl ?_)
        refine L_nil ?_
        refine T_n ?_
        exact ⟨rfl, ⟨i + 1, j + 1, xs.set i a⟩, ⟨⟨hj, by omega, by rw [List.length_set]; exact hxs, by rw [take_set_succ (by omega), hxi, keepI_take_miss haj (of_decide_eq_false hc3)], (by rw [keepI_take_miss haj (of_decide_eq_false hc3), List.length_append, hil]; rfl), fun m hm => by rw [List.getElem?_set_ne (by omega)]; exact hrest m (by omega), hO, hE, hU⟩, (by show bs.length - (j + 1) < bs.length - j; omega)⟩, (Out.mk rfl), ⟨rfl, rfl, trivial⟩⟩
    · refine L_op rfl (X_cmp (k := .i64) (a := ((j : Nat) : Int)) (b := ((bs.length : Nat) : Int)) (r := false) rfl rfl rfl (decide_eq_false (p := ((((j : Nat) : Int)) : Int) < ((((bs.length : Nat) : Int)) : Int)) (by omega)) ?_)
      refine L_nil ?_
      refine T_n ?_
      refine W_cf rfl ?_
      refine W_exit ?_
      refine T_e ?_
      refine T_e ?_
      refine B_x ?_
      refine T_n ?_
      refine W_seq ?_
      refine W_reg ?_
      refine L_op rfl (X_move (v := s) rfl ?_)
      refine L_op rfl (X_move (v := (.int .i64 (((i : Nat) : Int)))) rfl ?_)
      refine L_op rfl (X_slice (n := bs.length) (l := i) (h' := bs.length) (kl := .i64) (kh := .i64) S24 rfl hsv rfl rfl (by omega) (by omega) ?_)
      refine L_op0 (X_clearTail (z := .int .i64 0) (v := s) S24 rfl rfl hO (i := i) (by omega) rfl ?_)
      intro w8 ys hO8 hys hu8
      rw [liTake] at hys
      replace hU := hU.trans hu8
      refine L_nil ?_
      refine T_n ?_
      refine W_seq ?_
      refine W_reg ?_
      refine L_op rfl (X_move (v := s) rfl ?_)
      refine L_op rfl (X_move (v := (.int .i64 (((i : Nat) : Int)))) rfl ?_)
      refine L_op rfl (X_slice (n := bs.length) (l := 0) (h' := i) (kl := .i64) (kh := .i64) S24 rfl hsv rfl rfl (by omega) (by omega) ?_)
      refine L_op rfl (X_assign (v := (cutv s 1 0 i)) rfl ?_)
      refine L_nil ?_
      refine T_n ?_
      refine W_ret ?_
      obtain rfl : j = bs.length := by omega
      have hO9 := hO8.cut0 (k := i) (by omega)
      rw [Nat.mul_one, hys, hxi, List.take_length] at hO9
      exact BQ_r (End_1 Try.results28 (v := cutv s 1 0 i) rfl ⟨keepI bs e.1, NOwn.of (fun _ => rfl) (hO9.eq (by rw [List.take_length] at hil; omega) rfl) (fun b hb => hbd b (by rwa [obk_cut0 hsv] at hb)), rfl, fun b hb => by rwa [obk_cut0 hsv] at hb, hU⟩)

theorem built26p (a : Option Addr) (n c : Nat) : Try.prog.built 26 [(0, .slice a n c)] = some #[.slice a n c, .slice none 0 0, .slice none 0 0, .bool false] := by kernel_rfl
theorem built26z : Try.prog.built 26 [] = some #[.slice none 0 0, .slice none 0 0, .slice none 0 0, .bool false] := by kernel_rfl
theorem zv33_cells : zv33.cells = (LP.cel default).toArray := by
  show zc33.toArray = _
  rw [zc33_eq]; rfl

def P7 : Pg := ⟨7 :: List.replicate 255 0, by rw [List.length_cons, List.length_replicate]⟩
theorem built33p : Try.prog.built 33 [(0, .int .u8 7)] = some (P7.1.map byteV).toArray := by
  have h : Try.prog.built 33 [(0, .int .u8 7)] = some (Value.int .u8 7 :: List.replicate 255 (.int .u8 0)).toArray := by kernel_rfl
  rw [h]
  show _ = some (byteV 7 :: (List.replicate 255 (0 : UInt8)).map byteV).toArray
  rw [List.map_replicate]; rfl
theorem hits_nil {cs : List Wr} {n : Int} : hitsW cs n = [] ↔ ∀ e ∈ cs, e.1 ≠ n := by
  unfold hitsW
  rw [List.map_eq_nil_iff, List.filter_eq_nil_iff]
  simp
theorem hits_push (cs : List Wr) (m n : Int) (p : Pg) : hitsW (cs ++ [(m, p)]) n = if m = n then p :: hitsW cs n else hitsW cs n := by
  unfold hitsW
  rw [List.reverse_append]
  simp only [List.reverse_cons, List.reverse_nil, List.nil_append, List.singleton_append, List.filter_cons]
  by_cases h : m = n
  · simp [h]
  · simp [h]
theorem mayD_new (n : Nat) (h1 : 32 ≤ n) (h2 : n ≤ 256) (bs : List Int) (hb : InB n bs bs.length) : MayD n [] bs false := ⟨⟨h1, h2, Nat.zero_le _, fun h => by cases h⟩, fun j c hj => absurd hj (Nat.not_lt_zero j), hb⟩
theorem inB_one {n : Nat} {a : Int} (h0 : 0 ≤ a) (h1 : a < n) : InB n [a] 1 := fun j x hj hx => by
  obtain rfl : j = 0 := by omega
  simp at hx
  subst hx
  exact ⟨h0, h1, fun b h => absurd h (Nat.lt_irrefl 0)⟩
theorem mayD_push {np : Nat} {cs : List Wr} {bs : List Int} {off : Bool} {n : Int} {p : Pg} (h : MayD np cs bs off) (hn : 0 ≤ n) (hn2 : n < np) (ho : off = false) (hl : cs.length < 2000) : MayD np (cs ++ [(n, p)]) bs off := by
  obtain ⟨⟨a1, a2, a3, a4⟩, hc, hb⟩ := h
  refine ⟨⟨a1, a2, by rw [List.length_append]; show cs.length + 1 ≤ 2000; omega, fun h => by rw [ho] at h; cases h⟩, fun j c hj hjc => ?_, hb⟩
  rcases Nat.lt_or_ge j cs.length with h1 | h1
  · rw [List.getElem?_append_left h1] at hjc; exact hc j c h1 hjc
  · rw [List.length_append] at hj
    have hj : j < cs.length + 1 := hj
    rw [List.getElem?_append_right h1, show j - cs.length = 0 by omega] at hjc
    simp at hjc
    subst hjc
    exact ⟨hn, hn2⟩

def selP (l : List Pg) (o : Option Pg) : Option Pg := match l with | p :: _ => some p | [] => o
theorem flP_take (ps : List Pg) (cs : List Wr) (n : Nat) (hn : n < ps.length) (hC : ∀ e ∈ cs, 0 ≤ e.1) : ∀ k, k ≤ cs.length → (flP ps (cs.take k))[n]? = selP (hitsW (cs.take k) (n : Int)) ps[n]?
  | 0, _ => rfl
  | k + 1, hk => by
    obtain ⟨e, he⟩ : ∃ e, cs[k]? = some e := ⟨_, List.getElem?_eq_getElem (by omega)⟩
    have h0 := hC e (List.mem_of_getElem? he)
    have ht : cs.take (k + 1) = cs.take k ++ [(e.1, e.2)] := by rw [List.take_add_one, he]; rfl
    rw [flP_step he, ht, hits_push, List.getElem?_set, flP_length]
    by_cases h : e.1 = (n : Int)
    · rw [if_pos h, if_pos (by omega), if_pos (by omega)]; rfl
    · rw [if_neg h, if_neg (by omega)]; exact flP_take ps cs n hn hC k (by omega)
theorem flP_at {ps : List Pg} {cs : List Wr} {n : Nat} (hn : n < ps.length) (hC : ∀ e ∈ cs, 0 ≤ e.1) : (flP ps cs)[n]? = selP (hitsW cs (n : Int)) ps[n]? := by
  have h := flP_take ps cs n hn hC cs.length (Nat.le_refl _)
  rwa [List.take_length] at h
theorem flB_mem {bs : List Int} {cs : List Wr} {x : Int} : x ∈ flB bs cs ↔ x ∈ bs ∧ ∀ e ∈ cs, e.1 ≠ x := by
  unfold flB
  induction cs generalizing bs with
  | nil => simp
  | cons a r ih =>
    rw [List.foldl_cons, ih]
    unfold keepI
    simp only [List.mem_filter, decide_eq_true_eq, List.forall_mem_cons]
    constructor
    · rintro ⟨⟨h1, h2⟩, h3⟩; exact ⟨h1, fun h => h2 h.symm, h3⟩
    · rintro ⟨h1, h2, h3⟩; exact ⟨⟨h1, fun h => h2 h.symm⟩, h3⟩
theorem readD_flush {ps : List Pg} {cs : List Wr} {bs : List Int} {n : Int} (h0 : 0 ≤ n) (h1 : n < ps.length) (hC : ∀ e ∈ cs, 0 ≤ e.1) : readD (flP ps cs) [] (flB bs cs) n = readD ps cs bs n := by
  obtain ⟨k, rfl⟩ : ∃ k : Nat, n = k := ⟨n.toNat, by omega⟩
  have hk : k < ps.length := by omega
  have hp := flP_at hk hC
  cases hh : hitsW cs (k : Int) with
  | nil =>
    have h2 := hits_nil.1 hh
    rw [hh] at hp
    obtain ⟨p, hp2⟩ : ∃ p, ps[k]? = some p := ⟨_, List.getElem?_eq_getElem hk⟩
    by_cases hb : (k : Int) ∈ bs
    · rw [readD_bad hh hb, readD_bad rfl (flB_mem.2 ⟨hb, h2⟩)]
    · rw [readD_page (p := p) hh hb hp2, readD_page (p := p) rfl (fun h => hb (flB_mem.1 h).1) (hp.trans hp2)]
  | cons p r =>
    rw [hh] at hp
    have hne : ¬ (k : Int) ∈ flB bs cs := fun h => by
      have := hits_nil.2 (flB_mem.1 h).2
      rw [hh] at this; cases this
    rw [readD_hit (cs := cs) (p := p) (by rw [hh]; rfl), readD_page (p := p) rfl hne hp]
theorem readD_push (ps : List Pg) (cs : List Wr) (bs : List Int) (m n : Int) (p : Pg) : readD ps (cs ++ [(m, p)]) bs n = if m = n then (p, 0) else readD ps cs bs n := by
  unfold readD
  rw [hits_push]
  by_cases h : m = n
  · rw [if_pos h, if_pos h]
  · rw [if_neg h, if_neg h]
theorem inB_pw {n : Nat} {bs : List Int} : InB n bs bs.length ↔ (∀ a ∈ bs, 0 ≤ a ∧ a < n) ∧ bs.Pairwise (· < ·) := by
  constructor
  · intro h
    refine ⟨fun a ha => ?_, ?_⟩
    · obtain ⟨j, hj, rfl⟩ := List.getElem_of_mem ha
      obtain ⟨h1, h2, _⟩ := h j _ hj (List.getElem?_eq_getElem hj)
      exact ⟨h1, h2⟩
    · rw [List.pairwise_iff_getElem]
      intro i j hi hj hij
      obtain ⟨d, rfl⟩ : ∃ d, j = i + 1 + d := ⟨j - i - 1, by omega⟩
      clear hij
      induction d with
      | zero => exact (h (i + 1) _ hj (List.getElem?_eq_getElem hj)).2.2 _ (by omega) (by rw [show i + 1 - 1 = i by omega]; exact List.getElem?_eq_getElem hi)
      | succ d ih =>
        have h1 := ih (by omega)
        have h2 := (h (i + 1 + (d + 1)) _ hj (List.getElem?_eq_getElem hj)).2.2 (bs[i + 1 + d]'(by omega)) (by omega) (by rw [show i + 1 + (d + 1) - 1 = i + 1 + d by omega]; exact List.getElem?_eq_getElem (by omega))
        omega
  · rintro ⟨h1, h2⟩ j a hj ha
    obtain ⟨h3, h4⟩ := h1 a (List.mem_of_getElem? ha)
    refine ⟨h3, h4, fun b h0 hb => ?_⟩
    rw [List.pairwise_iff_getElem] at h2
    have h5 := h2 (j - 1) j (by omega) hj (by omega)
    rw [(List.getElem?_eq_some_iff.1 ha).2, (List.getElem?_eq_some_iff.1 hb).2] at h5
    exact h5
theorem inB_flB {n : Nat} {bs : List Int} (cs : List Wr) (h : InB n bs bs.length) : InB n (flB bs cs) (flB bs cs).length := by
  rw [inB_pw] at h ⊢
  refine ⟨fun a ha => h.1 a (flB_mem.1 ha).1, ?_⟩
  have h2 := h.2
  unfold flB
  clear h
  induction cs generalizing bs with
  | nil => exact h2
  | cons a r ih => rw [List.foldl_cons]; exact ih (List.Pairwise.filter _ h2)
theorem mayD_flush {np : Nat} {cs ds : List Wr} {bs : List Int} {off : Bool} (h : MayD np cs bs off) : MayD np [] (flB bs ds) off := ⟨⟨h.1.1, h.1.2.1, Nat.zero_le _, fun _ => rfl⟩, fun j c hj => absurd hj (Nat.not_lt_zero j), inB_flB ds h.2.2⟩
theorem inC_mem {n : Nat} {cs : List Wr} (h : InC n cs cs.length) : ∀ e ∈ cs, 0 ≤ e.1 := fun e he => by
  obtain ⟨j, hj, rfl⟩ := List.getElem_of_mem he
  exact (h j _ hj (List.getElem?_eq_getElem hj)).1
theorem write_ok {np : Nat} {cs : List Wr} {bs : List Int} {off : Bool} {n : Int} (p : Pg) (h : askE np cs bs off n = 0) (hl : cs.length < 2000) : wrE np cs bs off n = 0 ∧ writeC np cs bs off n p = cs ++ [(n, p)] := by
  have h1 : wrE np cs bs off n = 0 := by rw [wrE_ask (fun h2 => by omega)]; exact h
  exact ⟨h1, by unfold writeC; exact if_pos h1⟩

theorem take_same {α : Type} {l m : List α} {i : Nat} {a b : α} (ha : l[i]? = some a) (hb : m[i]? = some b) (h : l.take i = m.take i) (he : a = b) : l.take (i + 1) = m.take (i + 1) := by
  rw [List.take_add_one, List.take_add_one, ha, hb, h, he]
theorem not_same {α : Type} {l m : List α} {i : Nat} {a b : α} (ha : l[i]? = some a) (hb : m[i]? = some b) (he : a ≠ b) : l ≠ m := fun h => by
  rw [h, hb] at ha; cases ha; exact he rfl
theorem take_eq {α : Type} {l m : List α} {i : Nat} (h : l.take i = m.take i) (h1 : l.length ≤ i) (h2 : m.length ≤ i) : l = m := by
  rwa [List.take_of_length_le h1, List.take_of_length_le h2] at h

theorem write_no {np : Nat} {cs : List Wr} {bs : List Int} {off : Bool} {n : Int} (p : Pg) {e : Int} (h : wrE np cs bs off n = e) (he : e ≠ 0) : writeC np cs bs off n p = cs := by unfold writeC; exact if_neg (by rw [h]; exact he)
theorem neB {w : World} {B e sz n b : Nat} {v : Value} {xs : List Value} {c : Array Value} {t : TypeId} (h : Own w B e sz v n xs) (hB : Blk w b c t) (ht : e ≠ t) (ho : obk v = some b) : False := by
  obtain ⟨cs, hc⟩ := h.block ho
  unfold Blk at hc hB
  rw [hc] at hB
  cases hB
  exact ht rfl
theorem wrE_bad {np : Nat} {cs : List Wr} {bs : List Int} {off : Bool} {n e : Int} (h : askE np cs bs off n = e) (he : e ≠ 0) : wrE np cs bs off n = e := by rw [wrE_ask (fun h2 => he (h.symm.trans h2.1))]; exact h
theorem readE_no {ps : List Pg} {cs : List Wr} {bs : List Int} {off : Bool} {n e : Int} (h : askE ps.length cs bs off n = e) (he : e ≠ 0) : readE ps cs bs off n = (default, e) := by rw [readE_bad (by rw [h]; exact he), h]
theorem mayD_off {np : Nat} {cs : List Wr} {bs : List Int} {off : Bool} (o : Bool) (h : MayD np cs bs off) : MayD np [] bs o := ⟨⟨h.1.1, h.1.2.1, Nat.zero_le _, fun _ => rfl⟩, fun j c hj => absurd hj (Nat.not_lt_zero j), h.2.2⟩
theorem mayD_on {np : Nat} {cs : List Wr} {bs : List Int} {off : Bool} (h : MayD np cs bs off) : MayD np cs bs false := ⟨⟨h.1.1, h.1.2.1, h.1.2.2.1, fun h => by cases h⟩, h.2.1, h.2.2⟩

theorem liSet' (bs : List Int) (i : Nat) (a : Int) : (bs.flatMap LI.cel).set i (.int .i64 a) = (bs.set i a).flatMap LI.cel := by rw [liF, liF, List.map_set]
theorem pgSet {es : List Pg} {i k : Nat} {e : Pg} (he : es[i]? = some e) (hk : k < 256) (y : UInt8) : ∃ e' : Pg, (es.flatMap LP.cel).set (i * 256 + k) (byteV y) = (es.set i e').flatMap LP.cel :=
  ⟨⟨e.1.set k y, by rw [List.length_set]; exact e.2⟩, flat_setC (L := LP) he hk (by show (e.1.set k y).map byteV = _; rw [List.map_set]; rfl)⟩
theorem wrSetAt {es : List Wr} {i : Nat} {e : Wr} (he : es[i]? = some e) (n : Int) : ∃ e' : Wr, (es.flatMap LW.cel).set (i * 257 + 0) (.int .i64 n) = (es.set i e').flatMap LW.cel :=
  ⟨(n, e.2), flat_setC (L := LW) (j := 0) he (by decide) rfl⟩
theorem wrSetData {es : List Wr} {i k : Nat} {e : Wr} (he : es[i]? = some e) (hk : k < 256) (y : UInt8) : ∃ e' : Wr, (es.flatMap LW.cel).set (i * 257 + (k + 1)) (byteV y) = (es.set i e').flatMap LW.cel :=
  ⟨(e.1, ⟨e.2.1.set k y, by rw [List.length_set]; exact e.2.2⟩), flat_setC (L := LW) (j := k + 1) he (by show k + 1 < 257; omega) (by show Value.int .i64 e.1 :: (e.2.1.set k y).map byteV = (Value.int .i64 e.1 :: e.2.1.map byteV).set (k + 1) (byteV y); rw [List.set_cons_succ, List.map_set])⟩
/-- an owned disk -/
def ODk (w : World) (lo up : Nat) (d : Dk) : Prop := NOwn LP w 33 5 lo up d.pv d.ps ∧ NOwn LW w 35 5 lo up d.cv d.cs ∧ NOwn LI w 3 5 lo up d.bv d.bs
theorem ODk.upd {w w' : World} {D : Nat → Prop} {lo up : Nat} {d : Dk} (h : ODk w lo up d) (hu : Upd D w w') (hd : ∀ b, lo ≤ b → b < up → ¬ D b) : ODk w' lo up d := ⟨h.1.upd hu hd, h.2.1.upd hu hd, h.2.2.upd hu hd⟩
theorem ODk.ext {w w' : World} {lo up : Nat} {d : Dk} (h : ODk w lo up d) (hu : Ext w w') : ODk w' lo up d := h.upd hu fun _ _ _ hx => hx
end Go.Proofs.Ytfmgjkchhajpmaa
