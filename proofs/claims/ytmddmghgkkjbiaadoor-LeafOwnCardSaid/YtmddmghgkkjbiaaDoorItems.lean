/-
  The contracts of leaves: items, sameness. (Printed by wip/gen/t06e.py of this repo.)
-/
import Derived.Test.YtmddmghgkkjbiaaDoorPtrC
import Derived.Test.YtmddmghgkkjbiaaDoorBaseI
import Derived.Test.YtmddmghgkkjbiaaDoorBaseL
namespace Go.Proofs.YtmddmghgkkjbiaaDoor
open Go Go.SL Go.Proofs
set_option linter.unusedVariables false

abbrev ID := List UInt8 × List UInt8 × Pt × Int
abbrev IE := Value × Value × ID
/-- an item's cells -/
def itC (e : IE) : List Value := e.1 :: e.2.1 :: (ptC e.2.2.2.2.1 ++ [.int .u16 e.2.2.2.2.2])
def LT : Lay IE where
  cel := itC
  sub e := [(e.1, e.2.2.1), (e.2.1, e.2.2.2.1)]
  sz := 8
  len _ := rfl
  one e h u hu := by
    have h1 : u = e.1 ∨ u = e.2.1 ∨ u ∈ ptC e.2.2.2.2.1 ∨ u = .int .u16 e.2.2.2.2.2 := by simpa [itC] using hu
    rcases h1 with rfl | rfl | h1 | rfl
    · exact h (e.1, e.2.2.1) (by simp)
    · exact h (e.2.1, e.2.2.2.1) (by simp)
    · exact ptC_one _ u h1
    · rfl
def ItOk (d : ID) : Prop := PtOk d.2.2.1 ∧ 0 ≤ d.2.2.2 ∧ d.2.2.2 < 65536
abbrev dsI (es : List IE) : List ID := es.map (fun (x : IE) => x.2.2)
section row
variable {w : World} {lo hi : Nat} {v : Value} {es : List IE} {i : Int} {k : Nat} {e : IE}
theorem ikey (h : NRd LT w lo hi v es) (hik : i.toNat = k) (he : es[k]? = some e) : At w (pof v (i.toNat * 8 + 0)) [e.1] := by subst hik; exact h.cell he rfl
theorem ival (h : NRd LT w lo hi v es) (hik : i.toNat = k) (he : es[k]? = some e) : At w (pof v (i.toNat * 8 + 1)) [e.2.1] := by subst hik; exact h.cell he rfl
theorem isize (h : NRd LT w lo hi v es) (hik : i.toNat = k) (he : es[k]? = some e) : At w (pof v (i.toNat * 8 + 7)) [.int .u16 e.2.2.2.2.2] := by subst hik; exact h.cell he rfl
theorem iover (h : NRd LT w lo hi v es) (hik : i.toNat = k) (he : es[k]? = some e) : At w (pof v (i.toNat * 8 + 2)) (ptC e.2.2.2.2.1) := by
  subst hik
  refine h.cells (j := 2) he fun k u hk => ?_
  show (itC e)[2 + k]? = some u
  have hk5 : k < 5 := (List.getElem?_eq_some_iff.1 hk).1
  show ((e.1 :: e.2.1 :: (ptC e.2.2.2.2.1 ++ [.int .u16 e.2.2.2.2.2])))[2 + k]? = some u
  rw [Nat.add_comm]
  show (ptC e.2.2.2.2.1 ++ [.int .u16 e.2.2.2.2.2])[k]? = some u
  rw [List.getElem?_append_left hk5]; exact hk
theorem iall (h : NRd LT w lo hi v es) (hik : i.toNat = k) (he : es[k]? = some e) : At w (pof v (i.toNat * 8)) (itC e) := by
  subst hik
  exact h.cells (j := 0) he fun k u hk => by rw [Nat.zero_add]; exact hk
theorem ikb (h : NRd LT w lo hi v es) (he : es[k]? = some e) : BRd w lo hi (e.1, e.2.2.1) := h.sub_ he (by show _ ∈ [(e.1, e.2.2.1), (e.2.1, e.2.2.2.1)]; simp)
theorem ivb (h : NRd LT w lo hi v es) (he : es[k]? = some e) : BRd w lo hi (e.2.1, e.2.2.2.1) := h.sub_ he (by show _ ∈ [(e.1, e.2.2.1), (e.2.1, e.2.2.2.1)]; simp)
theorem irdk (h : NRd LT w lo hi v es) (he : es[k]? = some e) : Rd w 1 e.1 e.2.2.1.length (e.2.2.1.map byteV) := (ikb h he).1
theorem irdv (h : NRd LT w lo hi v es) (he : es[k]? = some e) : Rd w 1 e.2.1 e.2.2.2.1.length (e.2.2.2.1.map byteV) := (ivb h he).1
theorem ione (h : NRd LT w lo hi v es) (he : es[k]? = some e) : ∀ u ∈ itC e, u.oneCell' = true := LT.one e fun s hs => by
  have h1 : s = (e.1, e.2.2.1) ∨ s = (e.2.1, e.2.2.2.1) := by simpa [LT] using hs
  rcases h1 with rfl | rfl
  · exact (irdk h he).sv.one
  · exact (irdv h he).sv.one
theorem it_over {b : Nat} {t : TypeId} (h : Blk w b (itC e).toArray t) : At w (ptr b 2) (ptC e.2.2.2.2.1) := h.at_ 2 _ fun j u hj => by
  have hk5 : j < 5 := (List.getElem?_eq_some_iff.1 hj).1
  rw [List.getElem?_toArray, Nat.add_comm]
  show (ptC e.2.2.2.2.1 ++ [.int .u16 e.2.2.2.2.2])[j]? = some u
  rw [List.getElem?_append_left hk5]; exact hj
end row
theorem built41z : Tryd.prog.built 41 [] = some (ptC ptZ).toArray := by kernel_rfl
theorem built24z : Tryd.prog.built 24 [] = some ((List.replicate 256 (0 : UInt8)).map byteV).toArray := by
  rw [List.map_replicate]; kernel_rfl

theorem c_great (l : Value) (es : List IE) (w : World) (lo hi : Nat) (hl : NRd LT w lo hi l es) : CT Tryd.prog 8 #[l] w fun v w' => (∃ g, v = .bool g ∧ (g = false → es.length ≤ 20 ∧ ∀ (j : Nat) (e : IE), es[j]? = some e → e.2.2.1.length ≤ 40 ∧ e.2.2.2.1.length ≤ 800)) ∧ w = w' := by
  have hmx := hl.sv.len
  refine CT_of Tryd.func8 rfl rfl rfl ?_
  refine W_seq ?_
  refine W_reg ?_
  refine L_op rfl (X_assign (v := (.bool (false))) rfl ?_)
  refine L_nil ?_
  refine T_n ?_
  refine W_seq ?_
  refine W_seq ?_
  refine W_reg ?_
  refine L_op rfl (X_assign (v := (.int .i64 (0))) rfl ?_)
  refine L_nil ?_
  refine T_n ?_
  refine W_block ?_
  refine W_loop (α := Nat) [2, 3, 4, 5, 6, 7, 8, 9, 10, 11, 12, 13, 14, 15, 16, 17, 18, 19, 20, 21, 22, 23, 24, 25, 26, 27, 28, 29] (fun i => [(3, (.int .i64 (((i : Nat) : Int))))]) (fun i w_ => w = w_ ∧ i ≤ es.length ∧ ∀ (j : Nat) (e : IE), j < i → es[j]? = some e → e.2.2.1.length ≤ 40 ∧ e.2.2.2.1.length ≤ 800) (fun i => es.length - i) ⟨rfl, 0, ⟨rfl, Nat.zero_le _, fun j e h => absurd h (Nat.not_lt_zero j)⟩, Out.refl _ _, ⟨rfl, trivial⟩⟩ ?_
  rintro i w1 _ ⟨rfl, hil, hz⟩
  refine W_seq ?_
  refine W_seq ?_
  refine W_reg ?_
  refine L_op rfl (X_move (v := (.int .i64 (((i : Nat) : Int)))) rfl ?_)
  refine L_op rfl (X_move (v := l) rfl ?_)
  refine L_op rfl (X_len (v := l) (n := es.length) Tryd.underlying22 rfl hl.sv ?_)
  by_cases hc2 : (((i : Nat) : Int) : Int) < (((es.length : Nat) : Int))
  · refine L_op rfl (X_cmp (k := .i64) (a := ((i : Nat) : Int)) (b := ((es.length : Nat) : Int)) (r := true) rfl rfl rfl (decide_eq_true (p := ((((i : Nat) : Int)) : Int) < ((((es.length : Nat) : Int)) : Int)) (by omega)) ?_)
    have hi : i < es.length := by omega
    refine L_op rfl (X_move (v := (.bool (true))) rfl ?_)
    refine L_gy (dj := 8) rfl rfl rfl (X_move (v := (.int .i64 (((i : Nat) : Int)))) rfl ?_)
    by_cases hc3 : (((i : Nat) : Int) : Int) ≤ (20)
    · refine L_gy (dj := 8) rfl rfl rfl (X_cmp (k := .i64) (a := ((i : Nat) : Int)) (b := 20) (r := true) rfl rfl rfl (decide_eq_true (p := ((((i : Nat) : Int)) : Int) ≤ ((20) : Int)) (by omega)) ?_)
      have hi : i < es.length := by omega
      obtain ⟨e, hei⟩ : ∃ e, es[i]? = some e := ⟨_, List.getElem?_eq_getElem hi⟩
      have hkl := (irdk hl hei).len
      have hvl := (irdv hl hei).len
      refine L_op rfl (X_pick (t := true) (v := (.bool (true))) rfl rfl ?_)
      refine L_nil ?_
      refine T_n ?_
      refine W_ct rfl ?_
      refine W_skip ?_
      refine T_n ?_
      refine W_seq ?_
      refine W_block ?_
      refine W_seq ?_
      refine W_reg ?_
      refine L_op rfl (X_move (v := l) rfl ?_)
      refine L_op rfl (X_move (v := (.int .i64 (((i : Nat) : Int)))) rfl ?_)
      refine L_op rfl (X_idx (v := l) (n := es.length) (k := .i64) (i := ((i : Nat) : Int)) S22 rfl hl.sv rfl (by omega) (by omega) ?_)
      refine L_op rfl (X_fldS (v := l) (o := (((i : Nat) : Int) : Int).toNat * 8) Fd43_0 rfl hl.sv (by omega) ?_)
      refine L_op rfl (X_load (v := e.1) T35 rfl (ikey hl (Int.toNat_natCast _) hei) ?_)
      refine L_op rfl (X_len (v := e.1) (n := e.2.2.1.length) Tryd.underlying35 rfl (irdk hl hei).sv ?_)
      by_cases hc5 : (((e.2.2.1.length : Nat) : Int) : Int) > (40)
      · refine L_op rfl (X_cmp (k := .i64) (a := ((e.2.2.1.length : Nat) : Int)) (b := 40) (r := true) rfl rfl rfl (decide_eq_true (p := ((40) : Int) < ((((e.2.2.1.length : Nat) : Int)) : Int)) (by omega)) ?_)
        refine L_op rfl (X_move (v := (.bool (true))) rfl ?_)
        refine L_gn (dj := 21) (t := true) rfl rfl rfl rfl ?_
        refine L_gn (dj := 21) (t := true) rfl rfl rfl rfl ?_
        refine L_gn (dj := 21) (t := true) rfl rfl rfl rfl ?_
        refine L_gn (dj := 21) (t := true) rfl rfl rfl rfl ?_
        refine L_gn (dj := 21) (t := true) rfl rfl rfl rfl ?_
        refine L_gn (dj := 21) (t := true) rfl rfl rfl rfl ?_
        refine L_gn (dj := 21) (t := true) rfl rfl rfl rfl ?_
        refine L_op rfl (X_pick (t := true) (v := (.bool (true))) rfl rfl ?_)
        refine L_nil ?_
        refine T_n ?_
        refine W_ct rfl ?_
        refine W_seq ?_
        refine W_reg ?_
        refine L_op rfl (X_assign (v := (.bool (true))) rfl ?_)
        refine L_nil ?_
        refine T_n ?_
        refine W_ret ?_
        refine B_r ?_
        refine T_r ?_
        refine T_r ?_
        refine B_r ?_
        refine T_r ?_
        exact BQ_r (End_1 Tryd.results8 (v := .bool (true)) rfl ⟨⟨_, rfl, fun h => by cases h⟩, rfl⟩)
      · refine L_op rfl (X_cmp (k := .i64) (a := ((e.2.2.1.length : Nat) : Int)) (b := 40) (r := false) rfl rfl rfl (decide_eq_false (p := ((40) : Int) < ((((e.2.2.1.length : Nat) : Int)) : Int)) (by omega)) ?_)
        refine L_op rfl (X_move (v := (.bool (false))) rfl ?_)
        refine L_gy (dj := 21) rfl rfl rfl (X_move (v := l) rfl ?_)
        refine L_gy (dj := 21) rfl rfl rfl (X_move (v := (.int .i64 (((i : Nat) : Int)))) rfl ?_)
        refine L_gy (dj := 21) rfl rfl rfl (X_idx (v := l) (n := es.length) (k := .i64) (i := ((i : Nat) : Int)) S22 rfl hl.sv rfl (by omega) (by omega) ?_)
        refine L_gy (dj := 21) rfl rfl rfl (X_fldS (v := l) (o := (((i : Nat) : Int) : Int).toNat * 8) Fd43_1 rfl hl.sv (by omega) ?_)
        refine L_gy (dj := 21) rfl rfl rfl (X_load (v := e.2.1) T35 rfl (ival hl (Int.toNat_natCast _) hei) ?_)
        refine L_gy (dj := 21) rfl rfl rfl (X_len (v := e.2.1) (n := e.2.2.2.1.length) Tryd.underlying35 rfl (irdv hl hei).sv ?_)
        by_cases hc7 : (((e.2.2.2.1.length : Nat) : Int) : Int) > (800)
        · refine L_gy (dj := 21) rfl rfl rfl (X_cmp (k := .i64) (a := ((e.2.2.2.1.length : Nat) : Int)) (b := 800) (r := true) rfl rfl rfl (decide_eq_true (p := ((800) : Int) < ((((e.2.2.2.1.length : Nat) : Int)) : Int)) (by omega)) ?_)
          refine L_op rfl (X_pick (t := false) (v := (.bool (true))) rfl rfl ?_)
          refine L_nil ?_
          refine T_n ?_
          refine W_ct rfl ?_
          refine W_seq ?_
          refine W_reg ?_
          refine L_op rfl (X_assign (v := (.bool (true))) rfl ?_)
          refine L_nil ?_
          refine T_n ?_
          refine W_ret ?_
          refine B_r ?_
          refine T_r ?_
          refine T_r ?_
          refine B_r ?_
          refine T_r ?_
          exact BQ_r (End_1 Tryd.results8 (v := .bool (true)) rfl ⟨⟨_, rfl, fun h => by cases h⟩, rfl⟩)
        · refine L_gy (dj := 21) rfl rfl rfl (X_cmp (k := .i64) (a := ((e.2.2.2.1.length : Nat) : Int)) (b := 800) (r := false) rfl rfl rfl (decide_eq_false (p := ((800) : Int) < ((((e.2.2.2.1.length : Nat) : Int)) : Int)) (by omega)) ?_)
          refine L_op rfl (X_pick (t := false) (v := (.bool (false))) rfl rfl ?_)
          refine L_nil ?_
          refine T_n ?_
          refine W_cf rfl ?_
          refine W_skip ?_
          refine B_n ?_
          refine T_n ?_
          refine W_reg ?_
          refine L_op rfl (X_move (v := (.int .i64 (((i : Nat) : Int)))) rfl ?_)
          refine L_op rfl (X_arith (k := .i64) (a := ((i : Nat) : Int)) (b := 1) (r := ((i + 1 : Nat) : Int)) rfl rfl rfl (iadd64 (by omega) (by omega) (by omega)) ?_)
          refine L_op rfl (X_assign (v := (.int .i64 (((i + 1 : Nat) : Int)))) rfl ?_)
          refine L_nil ?_
          refine T_n ?_
          exact ⟨rfl, i + 1, ⟨⟨rfl, hi, fun j e_ hj hje => (Nat.lt_or_ge j i).elim (fun h1 => hz j e_ h1 hje) fun h1 => by obtain rfl : j = i := by { omega }; rw [hei] at hje; cases hje; omega⟩, (by show es.length - (i + 1) < es.length - i; omega)⟩, (Out.mk rfl), ⟨rfl, trivial⟩⟩
    · refine L_gy (dj := 8) rfl rfl rfl (X_cmp (k := .i64) (a := ((i : Nat) : Int)) (b := 20) (r := false) rfl rfl rfl (decide_eq_false (p := ((((i : Nat) : Int)) : Int) ≤ ((20) : Int)) (by omega)) ?_)
      refine L_op rfl (X_pick (t := true) (v := (.bool (false))) rfl rfl ?_)
      refine L_nil ?_
      refine T_n ?_
      refine W_cf rfl ?_
      refine W_exit ?_
      refine T_e ?_
      refine T_e ?_
      refine B_x ?_
      refine T_n ?_
      refine W_seq ?_
      refine W_reg ?_
      refine L_op rfl (X_move (v := l) rfl ?_)
      refine L_op rfl (X_len (v := l) (n := es.length) Tryd.underlying22 rfl hl.sv ?_)
      refine L_op rfl (X_cmp (k := .i64) (a := ((es.length : Nat) : Int)) (b := 20) (r := decide (20 < es.length)) rfl rfl rfl (by show decide ((20 : Int) < ((es.length : Nat) : Int)) = _; congr 1; exact propext (by omega)) ?_)
      refine L_op rfl (X_assign (v := (.bool (decide (20 < es.length)))) rfl ?_)
      refine L_nil ?_
      refine T_n ?_
      refine W_ret ?_
      exact BQ_r (End_1 Tryd.results8 (v := .bool (decide (20 < es.length))) rfl ⟨⟨_, rfl, fun h => ⟨by have := of_decide_eq_false h; omega, fun j e hj => hz j e (by have := of_decide_eq_false h; have := (List.getElem?_eq_some_iff.1 hj).1; omega) hj⟩⟩, rfl⟩)
  · refine L_op rfl (X_cmp (k := .i64) (a := ((i : Nat) : Int)) (b := ((es.length : Nat) : Int)) (r := false) rfl rfl rfl (decide_eq_false (p := ((((i : Nat) : Int)) : Int) < ((((es.length : Nat) : Int)) : Int)) (by omega)) ?_)
    refine L_op rfl (X_move (v := (.bool (false))) rfl ?_)
    refine L_gn (dj := 8) (t := false) rfl rfl rfl rfl ?_
    refine L_gn (dj := 8) (t := false) rfl rfl rfl rfl ?_
    refine L_op rfl (X_pick (t := false) (v := (.bool (false))) rfl rfl ?_)
    refine L_nil ?_
    refine T_n ?_
    refine W_cf rfl ?_
    refine W_exit ?_
    refine T_e ?_
    refine T_e ?_
    refine B_x ?_
    refine T_n ?_
    refine W_seq ?_
    refine W_reg ?_
    refine L_op rfl (X_move (v := l) rfl ?_)
    refine L_op rfl (X_len (v := l) (n := es.length) Tryd.underlying22 rfl hl.sv ?_)
    refine L_op rfl (X_cmp (k := .i64) (a := ((es.length : Nat) : Int)) (b := 20) (r := decide (20 < es.length)) rfl rfl rfl (by show decide ((20 : Int) < ((es.length : Nat) : Int)) = _; congr 1; exact propext (by omega)) ?_)
    refine L_op rfl (X_assign (v := (.bool (decide (20 < es.length)))) rfl ?_)
    refine L_nil ?_
    refine T_n ?_
    refine W_ret ?_
    exact BQ_r (End_1 Tryd.results8 (v := .bool (decide (20 < es.length))) rfl ⟨⟨_, rfl, fun h => ⟨by have := of_decide_eq_false h; omega, fun j e hj => hz j e (by have := of_decide_eq_false h; have := (List.getElem?_eq_some_iff.1 hj).1; omega) hj⟩⟩, rfl⟩)

theorem same_step {es fs : List IE} {i : Nat} {a b : IE} (ha : es[i]? = some a) (hb : fs[i]? = some b) (hz : dsI (es.take i) = dsI (fs.take i)) (h : a.2.2 = b.2.2) : dsI (es.take (i + 1)) = dsI (fs.take (i + 1)) := by
  unfold dsI at hz ⊢
  rw [List.take_add_one, List.take_add_one, ha, hb, List.map_append, List.map_append, hz]
  simp [h]
theorem same_it {a b : IE} (h1 : a.2.2.1 = b.2.2.1) (h2 : a.2.2.2.1 = b.2.2.2.1) (h3 : a.2.2.2.2.1 = b.2.2.2.2.1) (h4 : a.2.2.2.2.2 = b.2.2.2.2.2) : a.2.2 = b.2.2 := Prod.ext h1 (Prod.ext h2 (Prod.ext h3 h4))
theorem same_no {es fs : List IE} {i : Nat} {a b : IE} (ha : es[i]? = some a) (hb : fs[i]? = some b) (h : dsI es = dsI fs) : a.2.2 = b.2.2 := by
  have h2 : (dsI es)[i]? = (dsI fs)[i]? := by rw [h]
  unfold dsI at h2
  rw [List.getElem?_map, List.getElem?_map, ha, hb] at h2
  simpa using h2
theorem same_all {es fs : List IE} {i : Nat} (h : dsI (es.take i) = dsI (fs.take i)) (h1 : es.length ≤ i) (h2 : fs.length ≤ i) : dsI es = dsI fs := by rwa [List.take_of_length_le h1, List.take_of_length_le h2] at h
theorem same_len {es fs : List IE} (h : dsI es = dsI fs) : es.length = fs.length := by have := congrArg List.length h; unfold dsI at this; rwa [List.length_map, List.length_map] at this

set_option maxRecDepth 10000 in
theorem c_sameR (l m : Value) (es fs : List IE) (w : World) (lo hi lo2 hi2 : Nat) (hl : NRd LT w lo hi l es) (hm : NRd LT w lo2 hi2 m fs) : CT Tryd.prog 13 #[l, m] w fun v w' => (∃ g, v = .bool g ∧ (g = true ↔ dsI es = dsI fs)) ∧ Ext w w' := by
  have hmx := hl.sv.len
  have hE := Upd.refl (fun _ => False) w
  refine CT_of Tryd.func13 rfl rfl rfl ?_
  refine W_seq ?_
  refine W_reg ?_
  refine L_op rfl (X_assign (v := (.bool (false))) rfl ?_)
  refine L_nil ?_
  refine T_n ?_
  refine W_seq ?_
  refine W_seq ?_
  refine W_reg ?_
  refine L_op rfl (X_move (v := l) rfl ?_)
  refine L_op rfl (X_len (v := l) (n := es.length) Tryd.underlying22 rfl hl.sv ?_)
  refine L_op rfl (X_move (v := m) rfl ?_)
  refine L_op rfl (X_len (v := m) (n := fs.length) Tryd.underlying22 rfl hm.sv ?_)
  by_cases hc1 : (((es.length : Nat) : Int) : Int) ≠ (((fs.length : Nat) : Int))
  · refine L_op rfl (X_cmp (k := .i64) (a := ((es.length : Nat) : Int)) (b := ((fs.length : Nat) : Int)) (r := true) rfl rfl rfl (decide_eq_true (p := ((((es.length : Nat) : Int)) : Int) ≠ ((((fs.length : Nat) : Int)) : Int)) (by omega)) ?_)
    refine L_nil ?_
    refine T_n ?_
    refine W_ct rfl ?_
    refine W_seq ?_
    refine W_reg ?_
    refine L_op rfl (X_assign (v := (.bool (false))) rfl ?_)
    refine L_nil ?_
    refine T_n ?_
    refine W_ret ?_
    refine T_r ?_
    exact BQ_r (End_1 Tryd.results13 (v := .bool false) rfl ⟨⟨false, rfl, ⟨fun h => (by cases h), fun h => (by have h1 := same_len h; omega)⟩⟩, Ext.upd hE⟩)
  · refine L_op rfl (X_cmp (k := .i64) (a := ((es.length : Nat) : Int)) (b := ((fs.length : Nat) : Int)) (r := false) rfl rfl rfl (decide_eq_false (p := ((((es.length : Nat) : Int)) : Int) ≠ ((((fs.length : Nat) : Int)) : Int)) (by omega)) ?_)
    refine L_nil ?_
    refine T_n ?_
    refine W_cf rfl ?_
    refine W_skip ?_
    refine T_n ?_
    refine W_seq ?_
    refine W_seq ?_
    refine W_reg ?_
    refine L_op rfl (X_assign (v := (.int .i64 (0))) rfl ?_)
    refine L_nil ?_
    refine T_n ?_
    refine W_block ?_
    refine W_loop (α := Nat) [4, 5, 11, 12, 13, 14, 15, 16, 17, 18, 19, 20, 21, 22, 23, 24, 25, 26, 27, 28, 29, 30, 31, 32, 33, 34, 35, 36, 37, 38, 39, 40, 41, 42, 43, 44, 45, 46, 47, 48, 49, 50, 51, 52, 53, 54, 55, 56, 57, 58, 59, 60, 61, 62, 63, 64, 65, 66, 67, 68, 69, 70] (fun i => [(5, (.int .i64 (((i : Nat) : Int))))]) (fun i w_ => i ≤ es.length ∧ NRd LT w_ lo hi l es ∧ NRd LT w_ lo2 hi2 m fs ∧ Ext w w_ ∧ dsI (es.take i) = dsI (fs.take i)) (fun i => es.length - i) ⟨rfl, 0, ⟨Nat.zero_le _, hl, hm, hE, rfl⟩, Out.refl _ _, ⟨rfl, trivial⟩⟩ ?_
    rintro i w2 _ ⟨hil, hl, hm, hE, hz⟩
    refine W_seq ?_
    refine W_seq ?_
    refine W_reg ?_
    refine L_op rfl (X_move (v := (.int .i64 (((i : Nat) : Int)))) rfl ?_)
    refine L_op rfl (X_move (v := l) rfl ?_)
    refine L_op rfl (X_len (v := l) (n := es.length) Tryd.underlying22 rfl hl.sv ?_)
    by_cases hc3 : (((i : Nat) : Int) : Int) < (((es.length : Nat) : Int))
    · refine L_op rfl (X_cmp (k := .i64) (a := ((i : Nat) : Int)) (b := ((es.length : Nat) : Int)) (r := true) rfl rfl rfl (decide_eq_true (p := ((((i : Nat) : Int)) : Int) < ((((es.length : Nat) : Int)) : Int)) (by omega)) ?_)
      have hi : i < es.length := by omega
      obtain ⟨a, hai⟩ : ∃ a, es[i]? = some a := ⟨_, List.getElem?_eq_getElem hi⟩
      obtain ⟨b, hbi⟩ : ∃ b, fs[i]? = some b := ⟨_, List.getElem?_eq_getElem (by omega)⟩
      refine L_nil ?_
      refine T_n ?_
      refine W_ct rfl ?_
      refine W_skip ?_
      refine T_n ?_
      refine W_seq ?_
      refine W_block ?_
      refine W_seq ?_
      rcases Bool.eq_false_or_eq_true (scmp .neq (a.2.2.1) (b.2.2.1)) with hs4 | hs4
      · refine W_draw 52 [[], [], [0, 1], [0, 1, 2], [0, 1, 2, 3], [0, 1, 2, 3, 4], [], [], [6, 7], [6, 7, 8], [6, 7, 8, 9], [6, 7, 8, 9, 10], [0, 1, 2, 3, 4, 5, 6, 7, 8, 9, 10, 11], [0, 1, 2, 3, 4, 5, 6, 7, 8, 9, 10, 11, 12], [0, 1, 2, 3, 4, 5, 6, 7, 8, 9, 10, 11, 12, 13], [0, 1, 2, 3, 4, 5, 6, 7, 8, 9, 10, 11, 12, 13], [0, 1, 2, 3, 4, 5, 6, 7, 8, 9, 10, 11, 12, 13, 14, 15], [0, 1, 2, 3, 4, 5, 6, 7, 8, 9, 10, 11, 12, 13, 14, 15, 16], [0, 1, 2, 3, 4, 5, 6, 7, 8, 9, 10, 11, 12, 13, 14, 15, 16, 17], [0, 1, 2, 3, 4, 5, 6, 7, 8, 9, 10, 11, 12, 13, 14, 15, 16, 17, 18], [0, 1, 2, 3, 4, 5, 6, 7, 8, 9, 10, 11, 12, 13], [0, 1, 2, 3, 4, 5, 6, 7, 8, 9, 10, 11, 12, 13], [0, 1, 2, 3, 4, 5, 6, 7, 8, 9, 10, 11, 12, 13, 20, 21], [0, 1, 2, 3, 4, 5, 6, 7, 8, 9, 10, 11, 12, 13, 20, 21, 22], [0, 1, 2, 3, 4, 5, 6, 7, 8, 9, 10, 11, 12, 13, 20, 21, 22, 23], [0, 1, 2, 3, 4, 5, 6, 7, 8, 9, 10, 11, 12, 13, 20, 21, 22, 23, 24], [0, 1, 2, 3, 4, 5, 6, 7, 8, 9, 10, 11, 12, 13, 14, 15, 16, 17, 18, 19, 20, 21, 22, 23, 24, 25], [0, 1, 2, 3, 4, 5, 6, 7, 8, 9, 10, 11, 12, 13, 14, 15, 16, 17, 18, 19, 20, 21, 22, 23, 24, 25, 26], [0, 1, 2, 3, 4, 5, 6, 7, 8, 9, 10, 11, 12, 13, 14, 15, 16, 17, 18, 19, 20, 21, 22, 23, 24, 25, 26, 27], [0, 1, 2, 3, 4, 5, 6, 7, 8, 9, 10, 11, 12, 13, 14, 15, 16, 17, 18, 19, 20, 21, 22, 23, 24, 25, 26, 27, 28], [0, 1, 2, 3, 4, 5, 6, 7, 8, 9, 10, 11, 12, 13, 14, 15, 16, 17, 18, 19, 20, 21, 22, 23, 24, 25, 26, 27, 28], [0, 1, 2, 3, 4, 5, 6, 7, 8, 9, 10, 11, 12, 13, 14, 15, 16, 17, 18, 19, 20, 21, 22, 23, 24, 25, 26, 27, 28, 29, 30], [0, 1, 2, 3, 4, 5, 6, 7, 8, 9, 10, 11, 12, 13, 14, 15, 16, 17, 18, 19, 20, 21, 22, 23, 24, 25, 26, 27, 28, 29, 30, 31], [0, 1, 2, 3, 4, 5, 6, 7, 8, 9, 10, 11, 12, 13, 14, 15, 16, 17, 18, 19, 20, 21, 22, 23, 24, 25, 26, 27, 28, 29, 30, 31, 32], [0, 1, 2, 3, 4, 5, 6, 7, 8, 9, 10, 11, 12, 13, 14, 15, 16, 17, 18, 19, 20, 21, 22, 23, 24, 25, 26, 27, 28], [0, 1, 2, 3, 4, 5, 6, 7, 8, 9, 10, 11, 12, 13, 14, 15, 16, 17, 18, 19, 20, 21, 22, 23, 24, 25, 26, 27, 28], [0, 1, 2, 3, 4, 5, 6, 7, 8, 9, 10, 11, 12, 13, 14, 15, 16, 17, 18, 19, 20, 21, 22, 23, 24, 25, 26, 27, 28, 34, 35], [0, 1, 2, 3, 4, 5, 6, 7, 8, 9, 10, 11, 12, 13, 14, 15, 16, 17, 18, 19, 20, 21, 22, 23, 24, 25, 26, 27, 28, 34, 35, 36], [0, 1, 2, 3, 4, 5, 6, 7, 8, 9, 10, 11, 12, 13, 14, 15, 16, 17, 18, 19, 20, 21, 22, 23, 24, 25, 26, 27, 28, 34, 35, 36, 37], [0, 1, 2, 3, 4, 5, 6, 7, 8, 9, 10, 11, 12, 13, 14, 15, 16, 17, 18, 19, 20, 21, 22, 23, 24, 25, 26, 27, 28, 29, 30, 31, 32, 33, 34, 35, 36, 37, 38], [0, 1, 2, 3, 4, 5, 6, 7, 8, 9, 10, 11, 12, 13, 14, 15, 16, 17, 18, 19, 20, 21, 22, 23, 24, 25, 26, 27, 28, 29, 30, 31, 32, 33, 34, 35, 36, 37, 38, 39], [0, 1, 2, 3, 4, 5, 6, 7, 8, 9, 10, 11, 12, 13, 14, 15, 16, 17, 18, 19, 20, 21, 22, 23, 24, 25, 26, 27, 28, 29, 30, 31, 32, 33, 34, 35, 36, 37, 38, 39, 40], [0, 1, 2, 3, 4, 5, 6, 7, 8, 9, 10, 11, 12, 13, 14, 15, 16, 17, 18, 19, 20, 21, 22, 23, 24, 25, 26, 27, 28, 29, 30, 31, 32, 33, 34, 35, 36, 37, 38, 39, 40, 41], [0, 1, 2, 3, 4, 5, 6, 7, 8, 9, 10, 11, 12, 13, 14, 15, 16, 17, 18, 19, 20, 21, 22, 23, 24, 25, 26, 27, 28, 29, 30, 31, 32, 33, 34, 35, 36, 37, 38, 39, 40, 41], [0, 1, 2, 3, 4, 5, 6, 7, 8, 9, 10, 11, 12, 13, 14, 15, 16, 17, 18, 19, 20, 21, 22, 23, 24, 25, 26, 27, 28, 29, 30, 31, 32, 33, 34, 35, 36, 37, 38, 39, 40, 41, 42, 43], [0, 1, 2, 3, 4, 5, 6, 7, 8, 9, 10, 11, 12, 13, 14, 15, 16, 17, 18, 19, 20, 21, 22, 23, 24, 25, 26, 27, 28, 29, 30, 31, 32, 33, 34, 35, 36, 37, 38, 39, 40, 41, 42, 43, 44], [0, 1, 2, 3, 4, 5, 6, 7, 8, 9, 10, 11, 12, 13, 14, 15, 16, 17, 18, 19, 20, 21, 22, 23, 24, 25, 26, 27, 28, 29, 30, 31, 32, 33, 34, 35, 36, 37, 38, 39, 40, 41, 42, 43, 44, 45], [0, 1, 2, 3, 4, 5, 6, 7, 8, 9, 10, 11, 12, 13, 14, 15, 16, 17, 18, 19, 20, 21, 22, 23, 24, 25, 26, 27, 28, 29, 30, 31, 32, 33, 34, 35, 36, 37, 38, 39, 40, 41], [0, 1, 2, 3, 4, 5, 6, 7, 8, 9, 10, 11, 12, 13, 14, 15, 16, 17, 18, 19, 20, 21, 22, 23, 24, 25, 26, 27, 28, 29, 30, 31, 32, 33, 34, 35, 36, 37, 38, 39, 40, 41], [0, 1, 2, 3, 4, 5, 6, 7, 8, 9, 10, 11, 12, 13, 14, 15, 16, 17, 18, 19, 20, 21, 22, 23, 24, 25, 26, 27, 28, 29, 30, 31, 32, 33, 34, 35, 36, 37, 38, 39, 40, 41, 47, 48], [0, 1, 2, 3, 4, 5, 6, 7, 8, 9, 10, 11, 12, 13, 14, 15, 16, 17, 18, 19, 20, 21, 22, 23, 24, 25, 26, 27, 28, 29, 30, 31, 32, 33, 34, 35, 36, 37, 38, 39, 40, 41, 47, 48, 49], [0, 1, 2, 3, 4, 5, 6, 7, 8, 9, 10, 11, 12, 13, 14, 15, 16, 17, 18, 19, 20, 21, 22, 23, 24, 25, 26, 27, 28, 29, 30, 31, 32, 33, 34, 35, 36, 37, 38, 39, 40, 41, 47, 48, 49, 50], [0, 1, 2, 3, 4, 5, 6, 7, 8, 9, 10, 11, 12, 13, 14, 15, 16, 17, 18, 19, 20, 21, 22, 23, 24, 25, 26, 27, 28, 29, 30, 31, 32, 33, 34, 35, 36, 37, 38, 39, 40, 41, 42, 43, 44, 45, 46, 47, 48, 49, 50, 51], [0, 1, 2, 3, 4, 5, 6, 7, 8, 9, 10, 11, 12, 13, 14, 15, 16, 17, 18, 19, 20, 21, 22, 23, 24, 25, 26, 27, 28, 29, 30, 31, 32, 33, 34, 35, 36, 37, 38, 39, 40, 41, 42, 43, 44, 45, 46, 47, 48, 49, 50, 51, 52]] mixed (by kernel_rfl) ?_
        refine ⟨.det (fun val => l), ⟨fun _ _ hv => rfl, fun _ _ _ _ _ => trivial⟩, fun val h_ W hx he => ⟨trivial, ?_⟩, ?_⟩
        · replace hx := (Upd.drew _ _).trans hx
          replace hl := hl.ext hx
          replace hm := hm.ext hx
          have hE := Upd.refl (fun _ => False) W
          refine id (X_move (v := l) rfl ?_)
          exact ⟨hE, rfl⟩
        refine ⟨.det (fun val => (.int .i64 (((i : Nat) : Int)))), ⟨fun _ _ hv => rfl, fun _ _ _ _ _ => trivial⟩, fun val h_ W hx he => ⟨trivial, ?_⟩, ?_⟩
        · replace hx := (Upd.drew _ _).trans hx
          replace hl := hl.ext hx
          replace hm := hm.ext hx
          have hE := Upd.refl (fun _ => False) W
          refine id (X_move (v := (.int .i64 (((i : Nat) : Int)))) rfl ?_)
          exact ⟨hE, rfl⟩
        refine ⟨.det (fun val => (pof l ((((i : Nat) : Int) : Int).toNat * 8))), ⟨fun _ _ hv => rfl, fun _ _ _ _ _ => trivial⟩, fun val h_ W hx he => ⟨trivial, ?_⟩, ?_⟩
        · replace hx := (Upd.drew _ _).trans hx
          replace hl := hl.ext hx
          replace hm := hm.ext hx
          have hE := Upd.refl (fun _ => False) W
          refine id (X_idx (v := l) (n := es.length) (k := .i64) (i := ((i : Nat) : Int)) S22 rfl hl.sv rfl (by omega) (by omega) ?_)
          exact ⟨hE, rfl⟩
        refine ⟨.det (fun val => (pof l ((((i : Nat) : Int) : Int).toNat * 8 + 0))), ⟨fun _ _ hv => rfl, fun _ _ _ _ _ => trivial⟩, fun val h_ W hx he => ⟨trivial, ?_⟩, ?_⟩
        · replace hx := (Upd.drew _ _).trans hx
          replace hl := hl.ext hx
          replace hm := hm.ext hx
          have hE := Upd.refl (fun _ => False) W
          refine id (X_fldS (v := l) (o := (((i : Nat) : Int) : Int).toNat * 8) Fd43_0 rfl hl.sv (by omega) ?_)
          exact ⟨hE, rfl⟩
        refine ⟨.det (fun val => a.1), ⟨fun _ _ hv => rfl, fun _ _ _ _ _ => trivial⟩, fun val h_ W hx he => ⟨trivial, ?_⟩, ?_⟩
        · replace hx := (Upd.drew _ _).trans hx
          replace hl := hl.ext hx
          replace hm := hm.ext hx
          have hE := Upd.refl (fun _ => False) W
          refine id (X_load (v := a.1) T35 rfl (ikey hl (Int.toNat_natCast _) hai) ?_)
          exact ⟨hE, rfl⟩
        refine ⟨.det (fun val => (strV (a.2.2.1))), ⟨fun _ _ hv => rfl, fun _ _ _ _ _ => trivial⟩, fun val h_ W hx he => ⟨trivial, ?_⟩, ?_⟩
        · replace hx := (Upd.drew _ _).trans hx
          replace hl := hl.ext hx
          replace hm := hm.ext hx
          have hE := Upd.refl (fun _ => False) W
          refine id (X_str (v := a.1) (l := a.2.2.1) Tryd.underlying35 Tryd.underlying5 Tryd.underlying9 rfl (irdk hl hai) ?_)
          exact ⟨hE, rfl⟩
        refine ⟨.det (fun val => m), ⟨fun _ _ hv => rfl, fun _ _ _ _ _ => trivial⟩, fun val h_ W hx he => ⟨trivial, ?_⟩, ?_⟩
        · replace hx := (Upd.drew _ _).trans hx
          replace hl := hl.ext hx
          replace hm := hm.ext hx
          have hE := Upd.refl (fun _ => False) W
          refine id (X_move (v := m) rfl ?_)
          exact ⟨hE, rfl⟩
        refine ⟨.det (fun val => (.int .i64 (((i : Nat) : Int)))), ⟨fun _ _ hv => rfl, fun _ _ _ _ _ => trivial⟩, fun val h_ W hx he => ⟨trivial, ?_⟩, ?_⟩
        · replace hx := (Upd.drew _ _).trans hx
          replace hl := hl.ext hx
          replace hm := hm.ext hx
          have hE := Upd.refl (fun _ => False) W
          refine id (X_move (v := (.int .i64 (((i : Nat) : Int)))) rfl ?_)
          exact ⟨hE, rfl⟩
        refine ⟨.det (fun val => (pof m ((((i : Nat) : Int) : Int).toNat * 8))), ⟨fun _ _ hv => rfl, fun _ _ _ _ _ => trivial⟩, fun val h_ W hx he => ⟨trivial, ?_⟩, ?_⟩
        · replace hx := (Upd.drew _ _).trans hx
          replace hl := hl.ext hx
          replace hm := hm.ext hx
          have hE := Upd.refl (fun _ => False) W
          refine id (X_idx (v := m) (n := fs.length) (k := .i64) (i := ((i : Nat) : Int)) S22 rfl hm.sv rfl (by omega) (by omega) ?_)
          exact ⟨hE, rfl⟩
        refine ⟨.det (fun val => (pof m ((((i : Nat) : Int) : Int).toNat * 8 + 0))), ⟨fun _ _ hv => rfl, fun _ _ _ _ _ => trivial⟩, fun val h_ W hx he => ⟨trivial, ?_⟩, ?_⟩
        · replace hx := (Upd.drew _ _).trans hx
          replace hl := hl.ext hx
          replace hm := hm.ext hx
          have hE := Upd.refl (fun _ => False) W
          refine id (X_fldS (v := m) (o := (((i : Nat) : Int) : Int).toNat * 8) Fd43_0 rfl hm.sv (by omega) ?_)
          exact ⟨hE, rfl⟩
        refine ⟨.det (fun val => b.1), ⟨fun _ _ hv => rfl, fun _ _ _ _ _ => trivial⟩, fun val h_ W hx he => ⟨trivial, ?_⟩, ?_⟩
        · replace hx := (Upd.drew _ _).trans hx
          replace hl := hl.ext hx
          replace hm := hm.ext hx
          have hE := Upd.refl (fun _ => False) W
          refine id (X_load (v := b.1) T35 rfl (ikey hm (Int.toNat_natCast _) hbi) ?_)
          exact ⟨hE, rfl⟩
        refine ⟨.det (fun val => (strV (b.2.2.1))), ⟨fun _ _ hv => rfl, fun _ _ _ _ _ => trivial⟩, fun val h_ W hx he => ⟨trivial, ?_⟩, ?_⟩
        · replace hx := (Upd.drew _ _).trans hx
          replace hl := hl.ext hx
          replace hm := hm.ext hx
          have hE := Upd.refl (fun _ => False) W
          refine id (X_str (v := b.1) (l := b.2.2.1) Tryd.underlying35 Tryd.underlying5 Tryd.underlying9 rfl (irdk hm hbi) ?_)
          exact ⟨hE, rfl⟩
        refine ⟨.det (fun val => (.bool (true))), ⟨fun _ _ hv => rfl, fun _ _ _ _ _ => trivial⟩, fun val h_ W hx he => ⟨trivial, ?_⟩, ?_⟩
        · replace hx := (Upd.drew _ _).trans hx
          replace hl := hl.ext hx
          replace hm := hm.ext hx
          have hE := Upd.refl (fun _ => False) W
          refine id (X_scmp (a := a.2.2.1) (b := b.2.2.1) (r := true) rfl rfl rfl hs4 ?_)
          exact ⟨hE, rfl⟩
        refine ⟨.det (fun val => (.bool (true))), ⟨fun _ _ hv => rfl, fun _ _ _ _ _ => trivial⟩, fun val h_ W hx he => ⟨trivial, ?_⟩, ?_⟩
        · replace hx := (Upd.drew _ _).trans hx
          replace hl := hl.ext hx
          replace hm := hm.ext hx
          have hE := Upd.refl (fun _ => False) W
          refine id (X_move (v := (.bool (true))) rfl ?_)
          exact ⟨hE, rfl⟩
        refine ⟨.no, ⟨fun _ _ _ => trivial, fun _ _ _ _ _ => trivial⟩, fun val h_ W hx he => ⟨30, rfl, .inl rfl⟩, ?_⟩
        refine ⟨.no, ⟨fun _ _ _ => trivial, fun _ _ _ _ _ => trivial⟩, fun val h_ W hx he => ⟨30, rfl, .inl rfl⟩, ?_⟩
        refine ⟨.no, ⟨fun _ _ _ => trivial, fun _ _ _ _ _ => trivial⟩, fun val h_ W hx he => ⟨30, rfl, .inl rfl⟩, ?_⟩
        refine ⟨.no, ⟨fun _ _ _ => trivial, fun _ _ _ _ _ => trivial⟩, fun val h_ W hx he => ⟨30, rfl, .inl rfl⟩, ?_⟩
        refine ⟨.no, ⟨fun _ _ _ => trivial, fun _ _ _ _ _ => trivial⟩, fun val h_ W hx he => ⟨30, rfl, .inl rfl⟩, ?_⟩
        refine ⟨.no, ⟨fun _ _ _ => trivial, fun _ _ _ _ _ => trivial⟩, fun val h_ W hx he => ⟨30, rfl, .inl rfl⟩, ?_⟩
        refine ⟨.no, ⟨fun _ _ _ => trivial, fun _ _ _ _ _ => trivial⟩, fun val h_ W hx he => ⟨30, rfl, .inl rfl⟩, ?_⟩
        refine ⟨.no, ⟨fun _ _ _ => trivial, fun _ _ _ _ _ => trivial⟩, fun val h_ W hx he => ⟨30, rfl, .inl rfl⟩, ?_⟩
        refine ⟨.no, ⟨fun _ _ _ => trivial, fun _ _ _ _ _ => trivial⟩, fun val h_ W hx he => ⟨30, rfl, .inl rfl⟩, ?_⟩
        refine ⟨.no, ⟨fun _ _ _ => trivial, fun _ _ _ _ _ => trivial⟩, fun val h_ W hx he => ⟨30, rfl, .inl rfl⟩, ?_⟩
        refine ⟨.no, ⟨fun _ _ _ => trivial, fun _ _ _ _ _ => trivial⟩, fun val h_ W hx he => ⟨30, rfl, .inl rfl⟩, ?_⟩
        refine ⟨.no, ⟨fun _ _ _ => trivial, fun _ _ _ _ _ => trivial⟩, fun val h_ W hx he => ⟨30, rfl, .inl rfl⟩, ?_⟩
        refine ⟨.no, ⟨fun _ _ _ => trivial, fun _ _ _ _ _ => trivial⟩, fun val h_ W hx he => ⟨30, rfl, .inl rfl⟩, ?_⟩
        refine ⟨.det (fun val => (.bool (true))), ⟨fun _ _ hv => rfl, fun _ _ _ _ _ => trivial⟩, fun val h_ W hx he => ⟨trivial, ?_⟩, ?_⟩
        · replace hx := (Upd.drew _ _).trans hx
          replace hl := hl.ext hx
          replace hm := hm.ext hx
          have hE := Upd.refl (fun _ => False) W
          refine id (X_pick (t := true) (v := (.bool (true))) rfl rfl ?_)
          exact ⟨hE, rfl⟩
        refine ⟨.det (fun val => (.bool (true))), ⟨fun _ _ hv => rfl, fun _ _ _ _ _ => trivial⟩, fun val h_ W hx he => ⟨trivial, ?_⟩, ?_⟩
        · replace hx := (Upd.drew _ _).trans hx
          replace hl := hl.ext hx
          replace hm := hm.ext hx
          have hE := Upd.refl (fun _ => False) W
          refine id (X_move (v := (.bool (true))) rfl ?_)
          exact ⟨hE, rfl⟩
        refine ⟨.no, ⟨fun _ _ _ => trivial, fun _ _ _ _ _ => trivial⟩, fun val h_ W hx he => ⟨45, rfl, .inl rfl⟩, ?_⟩
        refine ⟨.no, ⟨fun _ _ _ => trivial, fun _ _ _ _ _ => trivial⟩, fun val h_ W hx he => ⟨45, rfl, .inl rfl⟩, ?_⟩
        refine ⟨.no, ⟨fun _ _ _ => trivial, fun _ _ _ _ _ => trivial⟩, fun val h_ W hx he => ⟨45, rfl, .inl rfl⟩, ?_⟩
        refine ⟨.no, ⟨fun _ _ _ => trivial, fun _ _ _ _ _ => trivial⟩, fun val h_ W hx he => ⟨45, rfl, .inl rfl⟩, ?_⟩
        refine ⟨.no, ⟨fun _ _ _ => trivial, fun _ _ _ _ _ => trivial⟩, fun val h_ W hx he => ⟨45, rfl, .inl rfl⟩, ?_⟩
        refine ⟨.no, ⟨fun _ _ _ => trivial, fun _ _ _ _ _ => trivial⟩, fun val h_ W hx he => ⟨45, rfl, .inl rfl⟩, ?_⟩
        refine ⟨.no, ⟨fun _ _ _ => trivial, fun _ _ _ _ _ => trivial⟩, fun val h_ W hx he => ⟨45, rfl, .inl rfl⟩, ?_⟩
        refine ⟨.no, ⟨fun _ _ _ => trivial, fun _ _ _ _ _ => trivial⟩, fun val h_ W hx he => ⟨45, rfl, .inl rfl⟩, ?_⟩
        refine ⟨.no, ⟨fun _ _ _ => trivial, fun _ _ _ _ _ => trivial⟩, fun val h_ W hx he => ⟨45, rfl, .inl rfl⟩, ?_⟩
        refine ⟨.no, ⟨fun _ _ _ => trivial, fun _ _ _ _ _ => trivial⟩, fun val h_ W hx he => ⟨45, rfl, .inl rfl⟩, ?_⟩
        refine ⟨.no, ⟨fun _ _ _ => trivial, fun _ _ _ _ _ => trivial⟩, fun val h_ W hx he => ⟨45, rfl, .inl rfl⟩, ?_⟩
        refine ⟨.det (fun val => (.bool (true))), ⟨fun _ _ hv => rfl, fun _ _ _ _ _ => trivial⟩, fun val h_ W hx he => ⟨trivial, ?_⟩, ?_⟩
        · replace hx := (Upd.drew _ _).trans hx
          replace hl := hl.ext hx
          replace hm := hm.ext hx
          have hE := Upd.refl (fun _ => False) W
          refine id (X_pick (t := true) (v := (.bool (true))) rfl rfl ?_)
          exact ⟨hE, rfl⟩
        refine ⟨.det (fun val => (.bool (true))), ⟨fun _ _ hv => rfl, fun _ _ _ _ _ => trivial⟩, fun val h_ W hx he => ⟨trivial, ?_⟩, ?_⟩
        · replace hx := (Upd.drew _ _).trans hx
          replace hl := hl.ext hx
          replace hm := hm.ext hx
          have hE := Upd.refl (fun _ => False) W
          refine id (X_move (v := (.bool (true))) rfl ?_)
          exact ⟨hE, rfl⟩
        refine ⟨.no, ⟨fun _ _ _ => trivial, fun _ _ _ _ _ => trivial⟩, fun val h_ W hx he => ⟨58, rfl, .inl rfl⟩, ?_⟩
        refine ⟨.no, ⟨fun _ _ _ => trivial, fun _ _ _ _ _ => trivial⟩, fun val h_ W hx he => ⟨58, rfl, .inl rfl⟩, ?_⟩
        refine ⟨.no, ⟨fun _ _ _ => trivial, fun _ _ _ _ _ => trivial⟩, fun val h_ W hx he => ⟨58, rfl, .inl rfl⟩, ?_⟩
        refine ⟨.no, ⟨fun _ _ _ => trivial, fun _ _ _ _ _ => trivial⟩, fun val h_ W hx he => ⟨58, rfl, .inl rfl⟩, ?_⟩
        refine ⟨.no, ⟨fun _ _ _ => trivial, fun _ _ _ _ _ => trivial⟩, fun val h_ W hx he => ⟨58, rfl, .inl rfl⟩, ?_⟩
        refine ⟨.no, ⟨fun _ _ _ => trivial, fun _ _ _ _ _ => trivial⟩, fun val h_ W hx he => ⟨58, rfl, .inl rfl⟩, ?_⟩
        refine ⟨.no, ⟨fun _ _ _ => trivial, fun _ _ _ _ _ => trivial⟩, fun val h_ W hx he => ⟨58, rfl, .inl rfl⟩, ?_⟩
        refine ⟨.no, ⟨fun _ _ _ => trivial, fun _ _ _ _ _ => trivial⟩, fun val h_ W hx he => ⟨58, rfl, .inl rfl⟩, ?_⟩
        refine ⟨.no, ⟨fun _ _ _ => trivial, fun _ _ _ _ _ => trivial⟩, fun val h_ W hx he => ⟨58, rfl, .inl rfl⟩, ?_⟩
        refine ⟨.no, ⟨fun _ _ _ => trivial, fun _ _ _ _ _ => trivial⟩, fun val h_ W hx he => ⟨58, rfl, .inl rfl⟩, ?_⟩
        intro val W5 hx5 he5
        replace hx5 := (Upd.drew _ _).trans hx5
        have hz5 := hx5.size
        replace hl := hl.ext hx5
        replace hm := hm.ext hx5
        replace hE := hE.trans (Ext.upd hx5)
        refine L_gn (dj := 58) (t := true) rfl rfl rfl rfl ?_
        refine L_op rfl (X_pick (t := true) (v := (.bool (true))) rfl rfl ?_)
        refine L_nil ?_
        refine T_n ?_
        refine W_ct rfl ?_
        refine W_seq ?_
        refine W_reg ?_
        refine L_op rfl (X_assign (v := (.bool (false))) rfl ?_)
        refine L_nil ?_
        refine T_n ?_
        refine W_ret ?_
        refine B_r ?_
        refine T_r ?_
        refine T_r ?_
        refine B_r ?_
        refine T_r ?_
        exact BQ_r (End_1 Tryd.results13 (v := .bool false) rfl ⟨⟨false, rfl, ⟨fun h => (by cases h), fun h => (by have h1 := same_no hai hbi h; have h2 := hs4; rw [show a.2.2.1 = b.2.2.1 by rw [h1]] at h2; simp [scmp] at h2)⟩⟩, Ext.upd hE⟩)
      · rcases Bool.eq_false_or_eq_true (scmp .neq (a.2.2.2.1) (b.2.2.2.1)) with hs8 | hs8
        · refine W_draw 52 [[], [], [0, 1], [0, 1, 2], [0, 1, 2, 3], [0, 1, 2, 3, 4], [], [], [6, 7], [6, 7, 8], [6, 7, 8, 9], [6, 7, 8, 9, 10], [0, 1, 2, 3, 4, 5, 6, 7, 8, 9, 10, 11], [0, 1, 2, 3, 4, 5, 6, 7, 8, 9, 10, 11, 12], [0, 1, 2, 3, 4, 5, 6, 7, 8, 9, 10, 11, 12, 13], [0, 1, 2, 3, 4, 5, 6, 7, 8, 9, 10, 11, 12, 13], [0, 1, 2, 3, 4, 5, 6, 7, 8, 9, 10, 11, 12, 13, 14, 15], [0, 1, 2, 3, 4, 5, 6, 7, 8, 9, 10, 11, 12, 13, 14, 15, 16], [0, 1, 2, 3, 4, 5, 6, 7, 8, 9, 10, 11, 12, 13, 14, 15, 16, 17], [0, 1, 2, 3, 4, 5, 6, 7, 8, 9, 10, 11, 12, 13, 14, 15, 16, 17, 18], [0, 1, 2, 3, 4, 5, 6, 7, 8, 9, 10, 11, 12, 13], [0, 1, 2, 3, 4, 5, 6, 7, 8, 9, 10, 11, 12, 13], [0, 1, 2, 3, 4, 5, 6, 7, 8, 9, 10, 11, 12, 13, 20, 21], [0, 1, 2, 3, 4, 5, 6, 7, 8, 9, 10, 11, 12, 13, 20, 21, 22], [0, 1, 2, 3, 4, 5, 6, 7, 8, 9, 10, 11, 12, 13, 20, 21, 22, 23], [0, 1, 2, 3, 4, 5, 6, 7, 8, 9, 10, 11, 12, 13, 20, 21, 22, 23, 24], [0, 1, 2, 3, 4, 5, 6, 7, 8, 9, 10, 11, 12, 13, 14, 15, 16, 17, 18, 19, 20, 21, 22, 23, 24, 25], [0, 1, 2, 3, 4, 5, 6, 7, 8, 9, 10, 11, 12, 13, 14, 15, 16, 17, 18, 19, 20, 21, 22, 23, 24, 25, 26], [0, 1, 2, 3, 4, 5, 6, 7, 8, 9, 10, 11, 12, 13, 14, 15, 16, 17, 18, 19, 20, 21, 22, 23, 24, 25, 26, 27], [0, 1, 2, 3, 4, 5, 6, 7, 8, 9, 10, 11, 12, 13, 14, 15, 16, 17, 18, 19, 20, 21, 22, 23, 24, 25, 26, 27, 28], [0, 1, 2, 3, 4, 5, 6, 7, 8, 9, 10, 11, 12, 13, 14, 15, 16, 17, 18, 19, 20, 21, 22, 23, 24, 25, 26, 27, 28], [0, 1, 2, 3, 4, 5, 6, 7, 8, 9, 10, 11, 12, 13, 14, 15, 16, 17, 18, 19, 20, 21, 22, 23, 24, 25, 26, 27, 28, 29, 30], [0, 1, 2, 3, 4, 5, 6, 7, 8, 9, 10, 11, 12, 13, 14, 15, 16, 17, 18, 19, 20, 21, 22, 23, 24, 25, 26, 27, 28, 29, 30, 31], [0, 1, 2, 3, 4, 5, 6, 7, 8, 9, 10, 11, 12, 13, 14, 15, 16, 17, 18, 19, 20, 21, 22, 23, 24, 25, 26, 27, 28, 29, 30, 31, 32], [0, 1, 2, 3, 4, 5, 6, 7, 8, 9, 10, 11, 12, 13, 14, 15, 16, 17, 18, 19, 20, 21, 22, 23, 24, 25, 26, 27, 28], [0, 1, 2, 3, 4, 5, 6, 7, 8, 9, 10, 11, 12, 13, 14, 15, 16, 17, 18, 19, 20, 21, 22, 23, 24, 25, 26, 27, 28], [0, 1, 2, 3, 4, 5, 6, 7, 8, 9, 10, 11, 12, 13, 14, 15, 16, 17, 18, 19, 20, 21, 22, 23, 24, 25, 26, 27, 28, 34, 35], [0, 1, 2, 3, 4, 5, 6, 7, 8, 9, 10, 11, 12, 13, 14, 15, 16, 17, 18, 19, 20, 21, 22, 23, 24, 25, 26, 27, 28, 34, 35, 36], [0, 1, 2, 3, 4, 5, 6, 7, 8, 9, 10, 11, 12, 13, 14, 15, 16, 17, 18, 19, 20, 21, 22, 23, 24, 25, 26, 27, 28, 34, 35, 36, 37], [0, 1, 2, 3, 4, 5, 6, 7, 8, 9, 10, 11, 12, 13, 14, 15, 16, 17, 18, 19, 20, 21, 22, 23, 24, 25, 26, 27, 28, 29, 30, 31, 32, 33, 34, 35, 36, 37, 38], [0, 1, 2, 3, 4, 5, 6, 7, 8, 9, 10, 11, 12, 13, 14, 15, 16, 17, 18, 19, 20, 21, 22, 23, 24, 25, 26, 27, 28, 29, 30, 31, 32, 33, 34, 35, 36, 37, 38, 39], [0, 1, 2, 3, 4, 5, 6, 7, 8, 9, 10, 11, 12, 13, 14, 15, 16, 17, 18, 19, 20, 21, 22, 23, 24, 25, 26, 27, 28, 29, 30, 31, 32, 33, 34, 35, 36, 37, 38, 39, 40], [0, 1, 2, 3, 4, 5, 6, 7, 8, 9, 10, 11, 12, 13, 14, 15, 16, 17, 18, 19, 20, 21, 22, 23, 24, 25, 26, 27, 28, 29, 30, 31, 32, 33, 34, 35, 36, 37, 38, 39, 40, 41], [0, 1, 2, 3, 4, 5, 6, 7, 8, 9, 10, 11, 12, 13, 14, 15, 16, 17, 18, 19, 20, 21, 22, 23, 24, 25, 26, 27, 28, 29, 30, 31, 32, 33, 34, 35, 36, 37, 38, 39, 40, 41], [0, 1, 2, 3, 4, 5, 6, 7, 8, 9, 10, 11, 12, 13, 14, 15, 16, 17, 18, 19, 20, 21, 22, 23, 24, 25, 26, 27, 28, 29, 30, 31, 32, 33, 34, 35, 36, 37, 38, 39, 40, 41, 42, 43], [0, 1, 2, 3, 4, 5, 6, 7, 8, 9, 10, 11, 12, 13, 14, 15, 16, 17, 18, 19, 20, 21, 22, 23, 24, 25, 26, 27, 28, 29, 30, 31, 32, 33, 34, 35, 36, 37, 38, 39, 40, 41, 42, 43, 44], [0, 1, 2, 3, 4, 5, 6, 7, 8, 9, 10, 11, 12, 13, 14, 15, 16, 17, 18, 19, 20, 21, 22, 23, 24, 25, 26, 27, 28, 29, 30, 31, 32, 33, 34, 35, 36, 37, 38, 39, 40, 41, 42, 43, 44, 45], [0, 1, 2, 3, 4, 5, 6, 7, 8, 9, 10, 11, 12, 13, 14, 15, 16, 17, 18, 19, 20, 21, 22, 23, 24, 25, 26, 27, 28, 29, 30, 31, 32, 33, 34, 35, 36, 37, 38, 39, 40, 41], [0, 1, 2, 3, 4, 5, 6, 7, 8, 9, 10, 11, 12, 13, 14, 15, 16, 17, 18, 19, 20, 21, 22, 23, 24, 25, 26, 27, 28, 29, 30, 31, 32, 33, 34, 35, 36, 37, 38, 39, 40, 41], [0, 1, 2, 3, 4, 5, 6, 7, 8, 9, 10, 11, 12, 13, 14, 15, 16, 17, 18, 19, 20, 21, 22, 23, 24, 25, 26, 27, 28, 29, 30, 31, 32, 33, 34, 35, 36, 37, 38, 39, 40, 41, 47, 48], [0, 1, 2, 3, 4, 5, 6, 7, 8, 9, 10, 11, 12, 13, 14, 15, 16, 17, 18, 19, 20, 21, 22, 23, 24, 25, 26, 27, 28, 29, 30, 31, 32, 33, 34, 35, 36, 37, 38, 39, 40, 41, 47, 48, 49], [0, 1, 2, 3, 4, 5, 6, 7, 8, 9, 10, 11, 12, 13, 14, 15, 16, 17, 18, 19, 20, 21, 22, 23, 24, 25, 26, 27, 28, 29, 30, 31, 32, 33, 34, 35, 36, 37, 38, 39, 40, 41, 47, 48, 49, 50], [0, 1, 2, 3, 4, 5, 6, 7, 8, 9, 10, 11, 12, 13, 14, 15, 16, 17, 18, 19, 20, 21, 22, 23, 24, 25, 26, 27, 28, 29, 30, 31, 32, 33, 34, 35, 36, 37, 38, 39, 40, 41, 42, 43, 44, 45, 46, 47, 48, 49, 50, 51], [0, 1, 2, 3, 4, 5, 6, 7, 8, 9, 10, 11, 12, 13, 14, 15, 16, 17, 18, 19, 20, 21, 22, 23, 24, 25, 26, 27, 28, 29, 30, 31, 32, 33, 34, 35, 36, 37, 38, 39, 40, 41, 42, 43, 44, 45, 46, 47, 48, 49, 50, 51, 52]] mixed (by kernel_rfl) ?_
          refine ⟨.det (fun val => l), ⟨fun _ _ hv => rfl, fun _ _ _ _ _ => trivial⟩, fun val h_ W hx he => ⟨trivial, ?_⟩, ?_⟩
          · replace hx := (Upd.drew _ _).trans hx
            replace hl := hl.ext hx
            replace hm := hm.ext hx
            have hE := Upd.refl (fun _ => False) W
            refine id (X_move (v := l) rfl ?_)
            exact ⟨hE, rfl⟩
          refine ⟨.det (fun val => (.int .i64 (((i : Nat) : Int)))), ⟨fun _ _ hv => rfl, fun _ _ _ _ _ => trivial⟩, fun val h_ W hx he => ⟨trivial, ?_⟩, ?_⟩
          · replace hx := (Upd.drew _ _).trans hx
            replace hl := hl.ext hx
            replace hm := hm.ext hx
            have hE := Upd.refl (fun _ => False) W
            refine id (X_move (v := (.int .i64 (((i : Nat) : Int)))) rfl ?_)
            exact ⟨hE, rfl⟩
          refine ⟨.det (fun val => (pof l ((((i : Nat) : Int) : Int).toNat * 8))), ⟨fun _ _ hv => rfl, fun _ _ _ _ _ => trivial⟩, fun val h_ W hx he => ⟨trivial, ?_⟩, ?_⟩
          · replace hx := (Upd.drew _ _).trans hx
            replace hl := hl.ext hx
            replace hm := hm.ext hx
            have hE := Upd.refl (fun _ => False) W
            refine id (X_idx (v := l) (n := es.length) (k := .i64) (i := ((i : Nat) : Int)) S22 rfl hl.sv rfl (by omega) (by omega) ?_)
            exact ⟨hE, rfl⟩
          refine ⟨.det (fun val => (pof l ((((i : Nat) : Int) : Int).toNat * 8 + 0))), ⟨fun _ _ hv => rfl, fun _ _ _ _ _ => trivial⟩, fun val h_ W hx he => ⟨trivial, ?_⟩, ?_⟩
          · replace hx := (Upd.drew _ _).trans hx
            replace hl := hl.ext hx
            replace hm := hm.ext hx
            have hE := Upd.refl (fun _ => False) W
            refine id (X_fldS (v := l) (o := (((i : Nat) : Int) : Int).toNat * 8) Fd43_0 rfl hl.sv (by omega) ?_)
            exact ⟨hE, rfl⟩
          refine ⟨.det (fun val => a.1), ⟨fun _ _ hv => rfl, fun _ _ _ _ _ => trivial⟩, fun val h_ W hx he => ⟨trivial, ?_⟩, ?_⟩
          · replace hx := (Upd.drew _ _).trans hx
            replace hl := hl.ext hx
            replace hm := hm.ext hx
            have hE := Upd.refl (fun _ => False) W
            refine id (X_load (v := a.1) T35 rfl (ikey hl (Int.toNat_natCast _) hai) ?_)
            exact ⟨hE, rfl⟩
          refine ⟨.det (fun val => (strV (a.2.2.1))), ⟨fun _ _ hv => rfl, fun _ _ _ _ _ => trivial⟩, fun val h_ W hx he => ⟨trivial, ?_⟩, ?_⟩
          · replace hx := (Upd.drew _ _).trans hx
            replace hl := hl.ext hx
            replace hm := hm.ext hx
            have hE := Upd.refl (fun _ => False) W
            refine id (X_str (v := a.1) (l := a.2.2.1) Tryd.underlying35 Tryd.underlying5 Tryd.underlying9 rfl (irdk hl hai) ?_)
            exact ⟨hE, rfl⟩
          refine ⟨.det (fun val => m), ⟨fun _ _ hv => rfl, fun _ _ _ _ _ => trivial⟩, fun val h_ W hx he => ⟨trivial, ?_⟩, ?_⟩
          · replace hx := (Upd.drew _ _).trans hx
            replace hl := hl.ext hx
            replace hm := hm.ext hx
            have hE := Upd.refl (fun _ => False) W
            refine id (X_move (v := m) rfl ?_)
            exact ⟨hE, rfl⟩
          refine ⟨.det (fun val => (.int .i64 (((i : Nat) : Int)))), ⟨fun _ _ hv => rfl, fun _ _ _ _ _ => trivial⟩, fun val h_ W hx he => ⟨trivial, ?_⟩, ?_⟩
          · replace hx := (Upd.drew _ _).trans hx
            replace hl := hl.ext hx
            replace hm := hm.ext hx
            have hE := Upd.refl (fun _ => False) W
            refine id (X_move (v := (.int .i64 (((i : Nat) : Int)))) rfl ?_)
            exact ⟨hE, rfl⟩
          refine ⟨.det (fun val => (pof m ((((i : Nat) : Int) : Int).toNat * 8))), ⟨fun _ _ hv => rfl, fun _ _ _ _ _ => trivial⟩, fun val h_ W hx he => ⟨trivial, ?_⟩, ?_⟩
          · replace hx := (Upd.drew _ _).trans hx
            replace hl := hl.ext hx
            replace hm := hm.ext hx
            have hE := Upd.refl (fun _ => False) W
            refine id (X_idx (v := m) (n := fs.length) (k := .i64) (i := ((i : Nat) : Int)) S22 rfl hm.sv rfl (by omega) (by omega) ?_)
            exact ⟨hE, rfl⟩
          refine ⟨.det (fun val => (pof m ((((i : Nat) : Int) : Int).toNat * 8 + 0))), ⟨fun _ _ hv => rfl, fun _ _ _ _ _ => trivial⟩, fun val h_ W hx he => ⟨trivial, ?_⟩, ?_⟩
          · replace hx := (Upd.drew _ _).trans hx
            replace hl := hl.ext hx
            replace hm := hm.ext hx
            have hE := Upd.refl (fun _ => False) W
            refine id (X_fldS (v := m) (o := (((i : Nat) : Int) : Int).toNat * 8) Fd43_0 rfl hm.sv (by omega) ?_)
            exact ⟨hE, rfl⟩
          refine ⟨.det (fun val => b.1), ⟨fun _ _ hv => rfl, fun _ _ _ _ _ => trivial⟩, fun val h_ W hx he => ⟨trivial, ?_⟩, ?_⟩
          · replace hx := (Upd.drew _ _).trans hx
            replace hl := hl.ext hx
            replace hm := hm.ext hx
            have hE := Upd.refl (fun _ => False) W
            refine id (X_load (v := b.1) T35 rfl (ikey hm (Int.toNat_natCast _) hbi) ?_)
            exact ⟨hE, rfl⟩
          refine ⟨.det (fun val => (strV (b.2.2.1))), ⟨fun _ _ hv => rfl, fun _ _ _ _ _ => trivial⟩, fun val h_ W hx he => ⟨trivial, ?_⟩, ?_⟩
          · replace hx := (Upd.drew _ _).trans hx
            replace hl := hl.ext hx
            replace hm := hm.ext hx
            have hE := Upd.refl (fun _ => False) W
            refine id (X_str (v := b.1) (l := b.2.2.1) Tryd.underlying35 Tryd.underlying5 Tryd.underlying9 rfl (irdk hm hbi) ?_)
            exact ⟨hE, rfl⟩
          refine ⟨.det (fun val => (.bool (false))), ⟨fun _ _ hv => rfl, fun _ _ _ _ _ => trivial⟩, fun val h_ W hx he => ⟨trivial, ?_⟩, ?_⟩
          · replace hx := (Upd.drew _ _).trans hx
            replace hl := hl.ext hx
            replace hm := hm.ext hx
            have hE := Upd.refl (fun _ => False) W
            refine id (X_scmp (a := a.2.2.1) (b := b.2.2.1) (r := false) rfl rfl rfl hs4 ?_)
            exact ⟨hE, rfl⟩
          refine ⟨.det (fun val => (.bool (false))), ⟨fun _ _ hv => rfl, fun _ _ _ _ _ => trivial⟩, fun val h_ W hx he => ⟨trivial, ?_⟩, ?_⟩
          · replace hx := (Upd.drew _ _).trans hx
            replace hl := hl.ext hx
            replace hm := hm.ext hx
            have hE := Upd.refl (fun _ => False) W
            refine id (X_move (v := (.bool (false))) rfl ?_)
            exact ⟨hE, rfl⟩
          refine ⟨.det (fun val => l), ⟨fun _ _ hv => rfl, fun _ _ _ _ _ => trivial⟩, fun val h_ W hx he => ⟨⟨30, rfl, rfl⟩, ?_⟩, ?_⟩
          · replace hx := (Upd.drew _ _).trans hx
            replace hl := hl.ext hx
            replace hm := hm.ext hx
            have hE := Upd.refl (fun _ => False) W
            refine id (X_move (v := l) rfl ?_)
            exact ⟨hE, rfl⟩
          refine ⟨.det (fun val => (.int .i64 (((i : Nat) : Int)))), ⟨fun _ _ hv => rfl, fun _ _ _ _ _ => trivial⟩, fun val h_ W hx he => ⟨⟨30, rfl, rfl⟩, ?_⟩, ?_⟩
          · replace hx := (Upd.drew _ _).trans hx
            replace hl := hl.ext hx
            replace hm := hm.ext hx
            have hE := Upd.refl (fun _ => False) W
            refine id (X_move (v := (.int .i64 (((i : Nat) : Int)))) rfl ?_)
            exact ⟨hE, rfl⟩
          refine ⟨.det (fun val => (pof l ((((i : Nat) : Int) : Int).toNat * 8))), ⟨fun _ _ hv => rfl, fun _ _ _ _ _ => trivial⟩, fun val h_ W hx he => ⟨⟨30, rfl, rfl⟩, ?_⟩, ?_⟩
          · replace hx := (Upd.drew _ _).trans hx
            replace hl := hl.ext hx
            replace hm := hm.ext hx
            have hE := Upd.refl (fun _ => False) W
            refine id (X_idx (v := l) (n := es.length) (k := .i64) (i := ((i : Nat) : Int)) S22 rfl hl.sv rfl (by omega) (by omega) ?_)
            exact ⟨hE, rfl⟩
          refine ⟨.det (fun val => (pof l ((((i : Nat) : Int) : Int).toNat * 8 + 1))), ⟨fun _ _ hv => rfl, fun _ _ _ _ _ => trivial⟩, fun val h_ W hx he => ⟨⟨30, rfl, rfl⟩, ?_⟩, ?_⟩
          · replace hx := (Upd.drew _ _).trans hx
            replace hl := hl.ext hx
            replace hm := hm.ext hx
            have hE := Upd.refl (fun _ => False) W
            refine id (X_fldS (v := l) (o := (((i : Nat) : Int) : Int).toNat * 8) Fd43_1 rfl hl.sv (by omega) ?_)
            exact ⟨hE, rfl⟩
          refine ⟨.det (fun val => a.2.1), ⟨fun _ _ hv => rfl, fun _ _ _ _ _ => trivial⟩, fun val h_ W hx he => ⟨⟨30, rfl, rfl⟩, ?_⟩, ?_⟩
          · replace hx := (Upd.drew _ _).trans hx
            replace hl := hl.ext hx
            replace hm := hm.ext hx
            have hE := Upd.refl (fun _ => False) W
            refine id (X_load (v := a.2.1) T35 rfl (ival hl (Int.toNat_natCast _) hai) ?_)
            exact ⟨hE, rfl⟩
          refine ⟨.det (fun val => (strV (a.2.2.2.1))), ⟨fun _ _ hv => rfl, fun _ _ _ _ _ => trivial⟩, fun val h_ W hx he => ⟨⟨30, rfl, rfl⟩, ?_⟩, ?_⟩
          · replace hx := (Upd.drew _ _).trans hx
            replace hl := hl.ext hx
            replace hm := hm.ext hx
            have hE := Upd.refl (fun _ => False) W
            refine id (X_str (v := a.2.1) (l := a.2.2.2.1) Tryd.underlying35 Tryd.underlying5 Tryd.underlying9 rfl (irdv hl hai) ?_)
            exact ⟨hE, rfl⟩
          refine ⟨.det (fun val => m), ⟨fun _ _ hv => rfl, fun _ _ _ _ _ => trivial⟩, fun val h_ W hx he => ⟨⟨30, rfl, rfl⟩, ?_⟩, ?_⟩
          · replace hx := (Upd.drew _ _).trans hx
            replace hl := hl.ext hx
            replace hm := hm.ext hx
            have hE := Upd.refl (fun _ => False) W
            refine id (X_move (v := m) rfl ?_)
            exact ⟨hE, rfl⟩
          refine ⟨.det (fun val => (.int .i64 (((i : Nat) : Int)))), ⟨fun _ _ hv => rfl, fun _ _ _ _ _ => trivial⟩, fun val h_ W hx he => ⟨⟨30, rfl, rfl⟩, ?_⟩, ?_⟩
          · replace hx := (Upd.drew _ _).trans hx
            replace hl := hl.ext hx
            replace hm := hm.ext hx
            have hE := Upd.refl (fun _ => False) W
            refine id (X_move (v := (.int .i64 (((i : Nat) : Int)))) rfl ?_)
            exact ⟨hE, rfl⟩
          refine ⟨.det (fun val => (pof m ((((i : Nat) : Int) : Int).toNat * 8))), ⟨fun _ _ hv => rfl, fun _ _ _ _ _ => trivial⟩, fun val h_ W hx he => ⟨⟨30, rfl, rfl⟩, ?_⟩, ?_⟩
          · replace hx := (Upd.drew _ _).trans hx
            replace hl := hl.ext hx
            replace hm := hm.ext hx
            have hE := Upd.refl (fun _ => False) W
            refine id (X_idx (v := m) (n := fs.length) (k := .i64) (i := ((i : Nat) : Int)) S22 rfl hm.sv rfl (by omega) (by omega) ?_)
            exact ⟨hE, rfl⟩
          refine ⟨.det (fun val => (pof m ((((i : Nat) : Int) : Int).toNat * 8 + 1))), ⟨fun _ _ hv => rfl, fun _ _ _ _ _ => trivial⟩, fun val h_ W hx he => ⟨⟨30, rfl, rfl⟩, ?_⟩, ?_⟩
          · replace hx := (Upd.drew _ _).trans hx
            replace hl := hl.ext hx
            replace hm := hm.ext hx
            have hE := Upd.refl (fun _ => False) W
            refine id (X_fldS (v := m) (o := (((i : Nat) : Int) : Int).toNat * 8) Fd43_1 rfl hm.sv (by omega) ?_)
            exact ⟨hE, rfl⟩
          refine ⟨.det (fun val => b.2.1), ⟨fun _ _ hv => rfl, fun _ _ _ _ _ => trivial⟩, fun val h_ W hx he => ⟨⟨30, rfl, rfl⟩, ?_⟩, ?_⟩
          · replace hx := (Upd.drew _ _).trans hx
            replace hl := hl.ext hx
            replace hm := hm.ext hx
            have hE := Upd.refl (fun _ => False) W
            refine id (X_load (v := b.2.1) T35 rfl (ival hm (Int.toNat_natCast _) hbi) ?_)
            exact ⟨hE, rfl⟩
          refine ⟨.det (fun val => (strV (b.2.2.2.1))), ⟨fun _ _ hv => rfl, fun _ _ _ _ _ => trivial⟩, fun val h_ W hx he => ⟨⟨30, rfl, rfl⟩, ?_⟩, ?_⟩
          · replace hx := (Upd.drew _ _).trans hx
            replace hl := hl.ext hx
            replace hm := hm.ext hx
            have hE := Upd.refl (fun _ => False) W
            refine id (X_str (v := b.2.1) (l := b.2.2.2.1) Tryd.underlying35 Tryd.underlying5 Tryd.underlying9 rfl (irdv hm hbi) ?_)
            exact ⟨hE, rfl⟩
          refine ⟨.det (fun val => (.bool (true))), ⟨fun _ _ hv => rfl, fun _ _ _ _ _ => trivial⟩, fun val h_ W hx he => ⟨⟨30, rfl, rfl⟩, ?_⟩, ?_⟩
          · replace hx := (Upd.drew _ _).trans hx
            replace hl := hl.ext hx
            replace hm := hm.ext hx
            have hE := Upd.refl (fun _ => False) W
            refine id (X_scmp (a := a.2.2.2.1) (b := b.2.2.2.1) (r := true) rfl rfl rfl hs8 ?_)
            exact ⟨hE, rfl⟩
          refine ⟨.det (fun val => (.bool (true))), ⟨fun _ _ hv => rfl, fun _ _ _ _ _ => trivial⟩, fun val h_ W hx he => ⟨trivial, ?_⟩, ?_⟩
          · replace hx := (Upd.drew _ _).trans hx
            replace hl := hl.ext hx
            replace hm := hm.ext hx
            have hE := Upd.refl (fun _ => False) W
            refine id (X_pick (t := false) (v := (.bool (true))) rfl rfl ?_)
            exact ⟨hE, rfl⟩
          refine ⟨.det (fun val => (.bool (true))), ⟨fun _ _ hv => rfl, fun _ _ _ _ _ => trivial⟩, fun val h_ W hx he => ⟨trivial, ?_⟩, ?_⟩
          · replace hx := (Upd.drew _ _).trans hx
            replace hl := hl.ext hx
            replace hm := hm.ext hx
            have hE := Upd.refl (fun _ => False) W
            refine id (X_move (v := (.bool (true))) rfl ?_)
            exact ⟨hE, rfl⟩
          refine ⟨.no, ⟨fun _ _ _ => trivial, fun _ _ _ _ _ => trivial⟩, fun val h_ W hx he => ⟨45, rfl, .inl rfl⟩, ?_⟩
          refine ⟨.no, ⟨fun _ _ _ => trivial, fun _ _ _ _ _ => trivial⟩, fun val h_ W hx he => ⟨45, rfl, .inl rfl⟩, ?_⟩
          refine ⟨.no, ⟨fun _ _ _ => trivial, fun _ _ _ _ _ => trivial⟩, fun val h_ W hx he => ⟨45, rfl, .inl rfl⟩, ?_⟩
          refine ⟨.no, ⟨fun _ _ _ => trivial, fun _ _ _ _ _ => trivial⟩, fun val h_ W hx he => ⟨45, rfl, .inl rfl⟩, ?_⟩
          refine ⟨.no, ⟨fun _ _ _ => trivial, fun _ _ _ _ _ => trivial⟩, fun val h_ W hx he => ⟨45, rfl, .inl rfl⟩, ?_⟩
          refine ⟨.no, ⟨fun _ _ _ => trivial, fun _ _ _ _ _ => trivial⟩, fun val h_ W hx he => ⟨45, rfl, .inl rfl⟩, ?_⟩
          refine ⟨.no, ⟨fun _ _ _ => trivial, fun _ _ _ _ _ => trivial⟩, fun val h_ W hx he => ⟨45, rfl, .inl rfl⟩, ?_⟩
          refine ⟨.no, ⟨fun _ _ _ => trivial, fun _ _ _ _ _ => trivial⟩, fun val h_ W hx he => ⟨45, rfl, .inl rfl⟩, ?_⟩
          refine ⟨.no, ⟨fun _ _ _ => trivial, fun _ _ _ _ _ => trivial⟩, fun val h_ W hx he => ⟨45, rfl, .inl rfl⟩, ?_⟩
          refine ⟨.no, ⟨fun _ _ _ => trivial, fun _ _ _ _ _ => trivial⟩, fun val h_ W hx he => ⟨45, rfl, .inl rfl⟩, ?_⟩
          refine ⟨.no, ⟨fun _ _ _ => trivial, fun _ _ _ _ _ => trivial⟩, fun val h_ W hx he => ⟨45, rfl, .inl rfl⟩, ?_⟩
          refine ⟨.det (fun val => (.bool (true))), ⟨fun _ _ hv => rfl, fun _ _ _ _ _ => trivial⟩, fun val h_ W hx he => ⟨trivial, ?_⟩, ?_⟩
          · replace hx := (Upd.drew _ _).trans hx
            replace hl := hl.ext hx
            replace hm := hm.ext hx
            have hE := Upd.refl (fun _ => False) W
            refine id (X_pick (t := true) (v := (.bool (true))) rfl rfl ?_)
            exact ⟨hE, rfl⟩
          refine ⟨.det (fun val => (.bool (true))), ⟨fun _ _ hv => rfl, fun _ _ _ _ _ => trivial⟩, fun val h_ W hx he => ⟨trivial, ?_⟩, ?_⟩
          · replace hx := (Upd.drew _ _).trans hx
            replace hl := hl.ext hx
            replace hm := hm.ext hx
            have hE := Upd.refl (fun _ => False) W
            refine id (X_move (v := (.bool (true))) rfl ?_)
            exact ⟨hE, rfl⟩
          refine ⟨.no, ⟨fun _ _ _ => trivial, fun _ _ _ _ _ => trivial⟩, fun val h_ W hx he => ⟨58, rfl, .inl rfl⟩, ?_⟩
          refine ⟨.no, ⟨fun _ _ _ => trivial, fun _ _ _ _ _ => trivial⟩, fun val h_ W hx he => ⟨58, rfl, .inl rfl⟩, ?_⟩
          refine ⟨.no, ⟨fun _ _ _ => trivial, fun _ _ _ _ _ => trivial⟩, fun val h_ W hx he => ⟨58, rfl, .inl rfl⟩, ?_⟩
          refine ⟨.no, ⟨fun _ _ _ => trivial, fun _ _ _ _ _ => trivial⟩, fun val h_ W hx he => ⟨58, rfl, .inl rfl⟩, ?_⟩
          refine ⟨.no, ⟨fun _ _ _ => trivial, fun _ _ _ _ _ => trivial⟩, fun val h_ W hx he => ⟨58, rfl, .inl rfl⟩, ?_⟩
          refine ⟨.no, ⟨fun _ _ _ => trivial, fun _ _ _ _ _ => trivial⟩, fun val h_ W hx he => ⟨58, rfl, .inl rfl⟩, ?_⟩
          refine ⟨.no, ⟨fun _ _ _ => trivial, fun _ _ _ _ _ => trivial⟩, fun val h_ W hx he => ⟨58, rfl, .inl rfl⟩, ?_⟩
          refine ⟨.no, ⟨fun _ _ _ => trivial, fun _ _ _ _ _ => trivial⟩, fun val h_ W hx he => ⟨58, rfl, .inl rfl⟩, ?_⟩
          refine ⟨.no, ⟨fun _ _ _ => trivial, fun _ _ _ _ _ => trivial⟩, fun val h_ W hx he => ⟨58, rfl, .inl rfl⟩, ?_⟩
          refine ⟨.no, ⟨fun _ _ _ => trivial, fun _ _ _ _ _ => trivial⟩, fun val h_ W hx he => ⟨58, rfl, .inl rfl⟩, ?_⟩
          intro val W9 hx9 he9
          replace hx9 := (Upd.drew _ _).trans hx9
          have hz9 := hx9.size
          replace hl := hl.ext hx9
          replace hm := hm.ext hx9
          replace hE := hE.trans (Ext.upd hx9)
          refine L_gn (dj := 58) (t := true) rfl rfl rfl rfl ?_
          refine L_op rfl (X_pick (t := true) (v := (.bool (true))) rfl rfl ?_)
          refine L_nil ?_
          refine T_n ?_
          refine W_ct rfl ?_
          refine W_seq ?_
          refine W_reg ?_
          refine L_op rfl (X_assign (v := (.bool (false))) rfl ?_)
          refine L_nil ?_
          refine T_n ?_
          refine W_ret ?_
          refine B_r ?_
          refine T_r ?_
          refine T_r ?_
          refine B_r ?_
          refine T_r ?_
          exact BQ_r (End_1 Tryd.results13 (v := .bool false) rfl ⟨⟨false, rfl, ⟨fun h => (by cases h), fun h => (by have h1 := same_no hai hbi h; have h2 := hs8; rw [show a.2.2.2.1 = b.2.2.2.1 by rw [h1]] at h2; simp [scmp] at h2)⟩⟩, Ext.upd hE⟩)
        · rcases Bool.eq_false_or_eq_true (a.2.2.2.2.1 == b.2.2.2.2.1) with hs14 | hs14
          · rcases Bool.eq_false_or_eq_true (decide (a.2.2.2.2.2 = b.2.2.2.2.2)) with hs15 | hs15
            · have hs15_ := of_decide_eq_true hs15
              refine W_draw 52 [[], [], [0, 1], [0, 1, 2], [0, 1, 2, 3], [0, 1, 2, 3, 4], [], [], [6, 7], [6, 7, 8], [6, 7, 8, 9], [6, 7, 8, 9, 10], [0, 1, 2, 3, 4, 5, 6, 7, 8, 9, 10, 11], [0, 1, 2, 3, 4, 5, 6, 7, 8, 9, 10, 11, 12], [0, 1, 2, 3, 4, 5, 6, 7, 8, 9, 10, 11, 12, 13], [0, 1, 2, 3, 4, 5, 6, 7, 8, 9, 10, 11, 12, 13], [0, 1, 2, 3, 4, 5, 6, 7, 8, 9, 10, 11, 12, 13, 14, 15], [0, 1, 2, 3, 4, 5, 6, 7, 8, 9, 10, 11, 12, 13, 14, 15, 16], [0, 1, 2, 3, 4, 5, 6, 7, 8, 9, 10, 11, 12, 13, 14, 15, 16, 17], [0, 1, 2, 3, 4, 5, 6, 7, 8, 9, 10, 11, 12, 13, 14, 15, 16, 17, 18], [0, 1, 2, 3, 4, 5, 6, 7, 8, 9, 10, 11, 12, 13], [0, 1, 2, 3, 4, 5, 6, 7, 8, 9, 10, 11, 12, 13], [0, 1, 2, 3, 4, 5, 6, 7, 8, 9, 10, 11, 12, 13, 20, 21], [0, 1, 2, 3, 4, 5, 6, 7, 8, 9, 10, 11, 12, 13, 20, 21, 22], [0, 1, 2, 3, 4, 5, 6, 7, 8, 9, 10, 11, 12, 13, 20, 21, 22, 23], [0, 1, 2, 3, 4, 5, 6, 7, 8, 9, 10, 11, 12, 13, 20, 21, 22, 23, 24], [0, 1, 2, 3, 4, 5, 6, 7, 8, 9, 10, 11, 12, 13, 14, 15, 16, 17, 18, 19, 20, 21, 22, 23, 24, 25], [0, 1, 2, 3, 4, 5, 6, 7, 8, 9, 10, 11, 12, 13, 14, 15, 16, 17, 18, 19, 20, 21, 22, 23, 24, 25, 26], [0, 1, 2, 3, 4, 5, 6, 7, 8, 9, 10, 11, 12, 13, 14, 15, 16, 17, 18, 19, 20, 21, 22, 23, 24, 25, 26, 27], [0, 1, 2, 3, 4, 5, 6, 7, 8, 9, 10, 11, 12, 13, 14, 15, 16, 17, 18, 19, 20, 21, 22, 23, 24, 25, 26, 27, 28], [0, 1, 2, 3, 4, 5, 6, 7, 8, 9, 10, 11, 12, 13, 14, 15, 16, 17, 18, 19, 20, 21, 22, 23, 24, 25, 26, 27, 28], [0, 1, 2, 3, 4, 5, 6, 7, 8, 9, 10, 11, 12, 13, 14, 15, 16, 17, 18, 19, 20, 21, 22, 23, 24, 25, 26, 27, 28, 29, 30], [0, 1, 2, 3, 4, 5, 6, 7, 8, 9, 10, 11, 12, 13, 14, 15, 16, 17, 18, 19, 20, 21, 22, 23, 24, 25, 26, 27, 28, 29, 30, 31], [0, 1, 2, 3, 4, 5, 6, 7, 8, 9, 10, 11, 12, 13, 14, 15, 16, 17, 18, 19, 20, 21, 22, 23, 24, 25, 26, 27, 28, 29, 30, 31, 32], [0, 1, 2, 3, 4, 5, 6, 7, 8, 9, 10, 11, 12, 13, 14, 15, 16, 17, 18, 19, 20, 21, 22, 23, 24, 25, 26, 27, 28], [0, 1, 2, 3, 4, 5, 6, 7, 8, 9, 10, 11, 12, 13, 14, 15, 16, 17, 18, 19, 20, 21, 22, 23, 24, 25, 26, 27, 28], [0, 1, 2, 3, 4, 5, 6, 7, 8, 9, 10, 11, 12, 13, 14, 15, 16, 17, 18, 19, 20, 21, 22, 23, 24, 25, 26, 27, 28, 34, 35], [0, 1, 2, 3, 4, 5, 6, 7, 8, 9, 10, 11, 12, 13, 14, 15, 16, 17, 18, 19, 20, 21, 22, 23, 24, 25, 26, 27, 28, 34, 35, 36], [0, 1, 2, 3, 4, 5, 6, 7, 8, 9, 10, 11, 12, 13, 14, 15, 16, 17, 18, 19, 20, 21, 22, 23, 24, 25, 26, 27, 28, 34, 35, 36, 37], [0, 1, 2, 3, 4, 5, 6, 7, 8, 9, 10, 11, 12, 13, 14, 15, 16, 17, 18, 19, 20, 21, 22, 23, 24, 25, 26, 27, 28, 29, 30, 31, 32, 33, 34, 35, 36, 37, 38], [0, 1, 2, 3, 4, 5, 6, 7, 8, 9, 10, 11, 12, 13, 14, 15, 16, 17, 18, 19, 20, 21, 22, 23, 24, 25, 26, 27, 28, 29, 30, 31, 32, 33, 34, 35, 36, 37, 38, 39], [0, 1, 2, 3, 4, 5, 6, 7, 8, 9, 10, 11, 12, 13, 14, 15, 16, 17, 18, 19, 20, 21, 22, 23, 24, 25, 26, 27, 28, 29, 30, 31, 32, 33, 34, 35, 36, 37, 38, 39, 40], [0, 1, 2, 3, 4, 5, 6, 7, 8, 9, 10, 11, 12, 13, 14, 15, 16, 17, 18, 19, 20, 21, 22, 23, 24, 25, 26, 27, 28, 29, 30, 31, 32, 33, 34, 35, 36, 37, 38, 39, 40, 41], [0, 1, 2, 3, 4, 5, 6, 7, 8, 9, 10, 11, 12, 13, 14, 15, 16, 17, 18, 19, 20, 21, 22, 23, 24, 25, 26, 27, 28, 29, 30, 31, 32, 33, 34, 35, 36, 37, 38, 39, 40, 41], [0, 1, 2, 3, 4, 5, 6, 7, 8, 9, 10, 11, 12, 13, 14, 15, 16, 17, 18, 19, 20, 21, 22, 23, 24, 25, 26, 27, 28, 29, 30, 31, 32, 33, 34, 35, 36, 37, 38, 39, 40, 41, 42, 43], [0, 1, 2, 3, 4, 5, 6, 7, 8, 9, 10, 11, 12, 13, 14, 15, 16, 17, 18, 19, 20, 21, 22, 23, 24, 25, 26, 27, 28, 29, 30, 31, 32, 33, 34, 35, 36, 37, 38, 39, 40, 41, 42, 43, 44], [0, 1, 2, 3, 4, 5, 6, 7, 8, 9, 10, 11, 12, 13, 14, 15, 16, 17, 18, 19, 20, 21, 22, 23, 24, 25, 26, 27, 28, 29, 30, 31, 32, 33, 34, 35, 36, 37, 38, 39, 40, 41, 42, 43, 44, 45], [0, 1, 2, 3, 4, 5, 6, 7, 8, 9, 10, 11, 12, 13, 14, 15, 16, 17, 18, 19, 20, 21, 22, 23, 24, 25, 26, 27, 28, 29, 30, 31, 32, 33, 34, 35, 36, 37, 38, 39, 40, 41], [0, 1, 2, 3, 4, 5, 6, 7, 8, 9, 10, 11, 12, 13, 14, 15, 16, 17, 18, 19, 20, 21, 22, 23, 24, 25, 26, 27, 28, 29, 30, 31, 32, 33, 34, 35, 36, 37, 38, 39, 40, 41], [0, 1, 2, 3, 4, 5, 6, 7, 8, 9, 10, 11, 12, 13, 14, 15, 16, 17, 18, 19, 20, 21, 22, 23, 24, 25, 26, 27, 28, 29, 30, 31, 32, 33, 34, 35, 36, 37, 38, 39, 40, 41, 47, 48], [0, 1, 2, 3, 4, 5, 6, 7, 8, 9, 10, 11, 12, 13, 14, 15, 16, 17, 18, 19, 20, 21, 22, 23, 24, 25, 26, 27, 28, 29, 30, 31, 32, 33, 34, 35, 36, 37, 38, 39, 40, 41, 47, 48, 49], [0, 1, 2, 3, 4, 5, 6, 7, 8, 9, 10, 11, 12, 13, 14, 15, 16, 17, 18, 19, 20, 21, 22, 23, 24, 25, 26, 27, 28, 29, 30, 31, 32, 33, 34, 35, 36, 37, 38, 39, 40, 41, 47, 48, 49, 50], [0, 1, 2, 3, 4, 5, 6, 7, 8, 9, 10, 11, 12, 13, 14, 15, 16, 17, 18, 19, 20, 21, 22, 23, 24, 25, 26, 27, 28, 29, 30, 31, 32, 33, 34, 35, 36, 37, 38, 39, 40, 41, 42, 43, 44, 45, 46, 47, 48, 49, 50, 51], [0, 1, 2, 3, 4, 5, 6, 7, 8, 9, 10, 11, 12, 13, 14, 15, 16, 17, 18, 19, 20, 21, 22, 23, 24, 25, 26, 27, 28, 29, 30, 31, 32, 33, 34, 35, 36, 37, 38, 39, 40, 41, 42, 43, 44, 45, 46, 47, 48, 49, 50, 51, 52]] mixed (by kernel_rfl) ?_
              refine ⟨.det (fun val => l), ⟨fun _ _ hv => rfl, fun _ _ _ _ _ => trivial⟩, fun val h_ W hx he => ⟨trivial, ?_⟩, ?_⟩
              · replace hx := (Upd.drew _ _).trans hx
                replace hl := hl.ext hx
                replace hm := hm.ext hx
                have hE := Upd.refl (fun _ => False) W
                refine id (X_move (v := l) rfl ?_)
                exact ⟨hE, rfl⟩
              refine ⟨.det (fun val => (.int .i64 (((i : Nat) : Int)))), ⟨fun _ _ hv => rfl, fun _ _ _ _ _ => trivial⟩, fun val h_ W hx he => ⟨trivial, ?_⟩, ?_⟩
              · replace hx := (Upd.drew _ _).trans hx
                replace hl := hl.ext hx
                replace hm := hm.ext hx
                have hE := Upd.refl (fun _ => False) W
                refine id (X_move (v := (.int .i64 (((i : Nat) : Int)))) rfl ?_)
                exact ⟨hE, rfl⟩
              refine ⟨.det (fun val => (pof l ((((i : Nat) : Int) : Int).toNat * 8))), ⟨fun _ _ hv => rfl, fun _ _ _ _ _ => trivial⟩, fun val h_ W hx he => ⟨trivial, ?_⟩, ?_⟩
              · replace hx := (Upd.drew _ _).trans hx
                replace hl := hl.ext hx
                replace hm := hm.ext hx
                have hE := Upd.refl (fun _ => False) W
                refine id (X_idx (v := l) (n := es.length) (k := .i64) (i := ((i : Nat) : Int)) S22 rfl hl.sv rfl (by omega) (by omega) ?_)
                exact ⟨hE, rfl⟩
              refine ⟨.det (fun val => (pof l ((((i : Nat) : Int) : Int).toNat * 8 + 0))), ⟨fun _ _ hv => rfl, fun _ _ _ _ _ => trivial⟩, fun val h_ W hx he => ⟨trivial, ?_⟩, ?_⟩
              · replace hx := (Upd.drew _ _).trans hx
                replace hl := hl.ext hx
                replace hm := hm.ext hx
                have hE := Upd.refl (fun _ => False) W
                refine id (X_fldS (v := l) (o := (((i : Nat) : Int) : Int).toNat * 8) Fd43_0 rfl hl.sv (by omega) ?_)
                exact ⟨hE, rfl⟩
              refine ⟨.det (fun val => a.1), ⟨fun _ _ hv => rfl, fun _ _ _ _ _ => trivial⟩, fun val h_ W hx he => ⟨trivial, ?_⟩, ?_⟩
              · replace hx := (Upd.drew _ _).trans hx
                replace hl := hl.ext hx
                replace hm := hm.ext hx
                have hE := Upd.refl (fun _ => False) W
                refine id (X_load (v := a.1) T35 rfl (ikey hl (Int.toNat_natCast _) hai) ?_)
                exact ⟨hE, rfl⟩
              refine ⟨.det (fun val => (strV (a.2.2.1))), ⟨fun _ _ hv => rfl, fun _ _ _ _ _ => trivial⟩, fun val h_ W hx he => ⟨trivial, ?_⟩, ?_⟩
              · replace hx := (Upd.drew _ _).trans hx
                replace hl := hl.ext hx
                replace hm := hm.ext hx
                have hE := Upd.refl (fun _ => False) W
                refine id (X_str (v := a.1) (l := a.2.2.1) Tryd.underlying35 Tryd.underlying5 Tryd.underlying9 rfl (irdk hl hai) ?_)
                exact ⟨hE, rfl⟩
              refine ⟨.det (fun val => m), ⟨fun _ _ hv => rfl, fun _ _ _ _ _ => trivial⟩, fun val h_ W hx he => ⟨trivial, ?_⟩, ?_⟩
              · replace hx := (Upd.drew _ _).trans hx
                replace hl := hl.ext hx
                replace hm := hm.ext hx
                have hE := Upd.refl (fun _ => False) W
                refine id (X_move (v := m) rfl ?_)
                exact ⟨hE, rfl⟩
              refine ⟨.det (fun val => (.int .i64 (((i : Nat) : Int)))), ⟨fun _ _ hv => rfl, fun _ _ _ _ _ => trivial⟩, fun val h_ W hx he => ⟨trivial, ?_⟩, ?_⟩
              · replace hx := (Upd.drew _ _).trans hx
                replace hl := hl.ext hx
                replace hm := hm.ext hx
                have hE := Upd.refl (fun _ => False) W
                refine id (X_move (v := (.int .i64 (((i : Nat) : Int)))) rfl ?_)
                exact ⟨hE, rfl⟩
              refine ⟨.det (fun val => (pof m ((((i : Nat) : Int) : Int).toNat * 8))), ⟨fun _ _ hv => rfl, fun _ _ _ _ _ => trivial⟩, fun val h_ W hx he => ⟨trivial, ?_⟩, ?_⟩
              · replace hx := (Upd.drew _ _).trans hx
                replace hl := hl.ext hx
                replace hm := hm.ext hx
                have hE := Upd.refl (fun _ => False) W
                refine id (X_idx (v := m) (n := fs.length) (k := .i64) (i := ((i : Nat) : Int)) S22 rfl hm.sv rfl (by omega) (by omega) ?_)
                exact ⟨hE, rfl⟩
              refine ⟨.det (fun val => (pof m ((((i : Nat) : Int) : Int).toNat * 8 + 0))), ⟨fun _ _ hv => rfl, fun _ _ _ _ _ => trivial⟩, fun val h_ W hx he => ⟨trivial, ?_⟩, ?_⟩
              · replace hx := (Upd.drew _ _).trans hx
                replace hl := hl.ext hx
                replace hm := hm.ext hx
                have hE := Upd.refl (fun _ => False) W
                refine id (X_fldS (v := m) (o := (((i : Nat) : Int) : Int).toNat * 8) Fd43_0 rfl hm.sv (by omega) ?_)
                exact ⟨hE, rfl⟩
              refine ⟨.det (fun val => b.1), ⟨fun _ _ hv => rfl, fun _ _ _ _ _ => trivial⟩, fun val h_ W hx he => ⟨trivial, ?_⟩, ?_⟩
              · replace hx := (Upd.drew _ _).trans hx
                replace hl := hl.ext hx
                replace hm := hm.ext hx
                have hE := Upd.refl (fun _ => False) W
                refine id (X_load (v := b.1) T35 rfl (ikey hm (Int.toNat_natCast _) hbi) ?_)
                exact ⟨hE, rfl⟩
              refine ⟨.det (fun val => (strV (b.2.2.1))), ⟨fun _ _ hv => rfl, fun _ _ _ _ _ => trivial⟩, fun val h_ W hx he => ⟨trivial, ?_⟩, ?_⟩
              · replace hx := (Upd.drew _ _).trans hx
                replace hl := hl.ext hx
                replace hm := hm.ext hx
                have hE := Upd.refl (fun _ => False) W
                refine id (X_str (v := b.1) (l := b.2.2.1) Tryd.underlying35 Tryd.underlying5 Tryd.underlying9 rfl (irdk hm hbi) ?_)
                exact ⟨hE, rfl⟩
              refine ⟨.det (fun val => (.bool (false))), ⟨fun _ _ hv => rfl, fun _ _ _ _ _ => trivial⟩, fun val h_ W hx he => ⟨trivial, ?_⟩, ?_⟩
              · replace hx := (Upd.drew _ _).trans hx
                replace hl := hl.ext hx
                replace hm := hm.ext hx
                have hE := Upd.refl (fun _ => False) W
                refine id (X_scmp (a := a.2.2.1) (b := b.2.2.1) (r := false) rfl rfl rfl hs4 ?_)
                exact ⟨hE, rfl⟩
              refine ⟨.det (fun val => (.bool (false))), ⟨fun _ _ hv => rfl, fun _ _ _ _ _ => trivial⟩, fun val h_ W hx he => ⟨trivial, ?_⟩, ?_⟩
              · replace hx := (Upd.drew _ _).trans hx
                replace hl := hl.ext hx
                replace hm := hm.ext hx
                have hE := Upd.refl (fun _ => False) W
                refine id (X_move (v := (.bool (false))) rfl ?_)
                exact ⟨hE, rfl⟩
              refine ⟨.det (fun val => l), ⟨fun _ _ hv => rfl, fun _ _ _ _ _ => trivial⟩, fun val h_ W hx he => ⟨⟨30, rfl, rfl⟩, ?_⟩, ?_⟩
              · replace hx := (Upd.drew _ _).trans hx
                replace hl := hl.ext hx
                replace hm := hm.ext hx
                have hE := Upd.refl (fun _ => False) W
                refine id (X_move (v := l) rfl ?_)
                exact ⟨hE, rfl⟩
              refine ⟨.det (fun val => (.int .i64 (((i : Nat) : Int)))), ⟨fun _ _ hv => rfl, fun _ _ _ _ _ => trivial⟩, fun val h_ W hx he => ⟨⟨30, rfl, rfl⟩, ?_⟩, ?_⟩
              · replace hx := (Upd.drew _ _).trans hx
                replace hl := hl.ext hx
                replace hm := hm.ext hx
                have hE := Upd.refl (fun _ => False) W
                refine id (X_move (v := (.int .i64 (((i : Nat) : Int)))) rfl ?_)
                exact ⟨hE, rfl⟩
              refine ⟨.det (fun val => (pof l ((((i : Nat) : Int) : Int).toNat * 8))), ⟨fun _ _ hv => rfl, fun _ _ _ _ _ => trivial⟩, fun val h_ W hx he => ⟨⟨30, rfl, rfl⟩, ?_⟩, ?_⟩
              · replace hx := (Upd.drew _ _).trans hx
                replace hl := hl.ext hx
                replace hm := hm.ext hx
                have hE := Upd.refl (fun _ => False) W
                refine id (X_idx (v := l) (n := es.length) (k := .i64) (i := ((i : Nat) : Int)) S22 rfl hl.sv rfl (by omega) (by omega) ?_)
                exact ⟨hE, rfl⟩
              refine ⟨.det (fun val => (pof l ((((i : Nat) : Int) : Int).toNat * 8 + 1))), ⟨fun _ _ hv => rfl, fun _ _ _ _ _ => trivial⟩, fun val h_ W hx he => ⟨⟨30, rfl, rfl⟩, ?_⟩, ?_⟩
              · replace hx := (Upd.drew _ _).trans hx
                replace hl := hl.ext hx
                replace hm := hm.ext hx
                have hE := Upd.refl (fun _ => False) W
                refine id (X_fldS (v := l) (o := (((i : Nat) : Int) : Int).toNat * 8) Fd43_1 rfl hl.sv (by omega) ?_)
                exact ⟨hE, rfl⟩
              refine ⟨.det (fun val => a.2.1), ⟨fun _ _ hv => rfl, fun _ _ _ _ _ => trivial⟩, fun val h_ W hx he => ⟨⟨30, rfl, rfl⟩, ?_⟩, ?_⟩
              · replace hx := (Upd.drew _ _).trans hx
                replace hl := hl.ext hx
                replace hm := hm.ext hx
                have hE := Upd.refl (fun _ => False) W
                refine id (X_load (v := a.2.1) T35 rfl (ival hl (Int.toNat_natCast _) hai) ?_)
                exact ⟨hE, rfl⟩
              refine ⟨.det (fun val => (strV (a.2.2.2.1))), ⟨fun _ _ hv => rfl, fun _ _ _ _ _ => trivial⟩, fun val h_ W hx he => ⟨⟨30, rfl, rfl⟩, ?_⟩, ?_⟩
              · replace hx := (Upd.drew _ _).trans hx
                replace hl := hl.ext hx
                replace hm := hm.ext hx
                have hE := Upd.refl (fun _ => False) W
                refine id (X_str (v := a.2.1) (l := a.2.2.2.1) Tryd.underlying35 Tryd.underlying5 Tryd.underlying9 rfl (irdv hl hai) ?_)
                exact ⟨hE, rfl⟩
              refine ⟨.det (fun val => m), ⟨fun _ _ hv => rfl, fun _ _ _ _ _ => trivial⟩, fun val h_ W hx he => ⟨⟨30, rfl, rfl⟩, ?_⟩, ?_⟩
              · replace hx := (Upd.drew _ _).trans hx
                replace hl := hl.ext hx
                replace hm := hm.ext hx
                have hE := Upd.refl (fun _ => False) W
                refine id (X_move (v := m) rfl ?_)
                exact ⟨hE, rfl⟩
              refine ⟨.det (fun val => (.int .i64 (((i : Nat) : Int)))), ⟨fun _ _ hv => rfl, fun _ _ _ _ _ => trivial⟩, fun val h_ W hx he => ⟨⟨30, rfl, rfl⟩, ?_⟩, ?_⟩
              · replace hx := (Upd.drew _ _).trans hx
                replace hl := hl.ext hx
                replace hm := hm.ext hx
                have hE := Upd.refl (fun _ => False) W
                refine id (X_move (v := (.int .i64 (((i : Nat) : Int)))) rfl ?_)
                exact ⟨hE, rfl⟩
              refine ⟨.det (fun val => (pof m ((((i : Nat) : Int) : Int).toNat * 8))), ⟨fun _ _ hv => rfl, fun _ _ _ _ _ => trivial⟩, fun val h_ W hx he => ⟨⟨30, rfl, rfl⟩, ?_⟩, ?_⟩
              · replace hx := (Upd.drew _ _).trans hx
                replace hl := hl.ext hx
                replace hm := hm.ext hx
                have hE := Upd.refl (fun _ => False) W
                refine id (X_idx (v := m) (n := fs.length) (k := .i64) (i := ((i : Nat) : Int)) S22 rfl hm.sv rfl (by omega) (by omega) ?_)
                exact ⟨hE, rfl⟩
              refine ⟨.det (fun val => (pof m ((((i : Nat) : Int) : Int).toNat * 8 + 1))), ⟨fun _ _ hv => rfl, fun _ _ _ _ _ => trivial⟩, fun val h_ W hx he => ⟨⟨30, rfl, rfl⟩, ?_⟩, ?_⟩
              · replace hx := (Upd.drew _ _).trans hx
                replace hl := hl.ext hx
                replace hm := hm.ext hx
                have hE := Upd.refl (fun _ => False) W
                refine id (X_fldS (v := m) (o := (((i : Nat) : Int) : Int).toNat * 8) Fd43_1 rfl hm.sv (by omega) ?_)
                exact ⟨hE, rfl⟩
              refine ⟨.det (fun val => b.2.1), ⟨fun _ _ hv => rfl, fun _ _ _ _ _ => trivial⟩, fun val h_ W hx he => ⟨⟨30, rfl, rfl⟩, ?_⟩, ?_⟩
              · replace hx := (Upd.drew _ _).trans hx
                replace hl := hl.ext hx
                replace hm := hm.ext hx
                have hE := Upd.refl (fun _ => False) W
                refine id (X_load (v := b.2.1) T35 rfl (ival hm (Int.toNat_natCast _) hbi) ?_)
                exact ⟨hE, rfl⟩
              refine ⟨.det (fun val => (strV (b.2.2.2.1))), ⟨fun _ _ hv => rfl, fun _ _ _ _ _ => trivial⟩, fun val h_ W hx he => ⟨⟨30, rfl, rfl⟩, ?_⟩, ?_⟩
              · replace hx := (Upd.drew _ _).trans hx
                replace hl := hl.ext hx
                replace hm := hm.ext hx
                have hE := Upd.refl (fun _ => False) W
                refine id (X_str (v := b.2.1) (l := b.2.2.2.1) Tryd.underlying35 Tryd.underlying5 Tryd.underlying9 rfl (irdv hm hbi) ?_)
                exact ⟨hE, rfl⟩
              refine ⟨.det (fun val => (.bool (false))), ⟨fun _ _ hv => rfl, fun _ _ _ _ _ => trivial⟩, fun val h_ W hx he => ⟨⟨30, rfl, rfl⟩, ?_⟩, ?_⟩
              · replace hx := (Upd.drew _ _).trans hx
                replace hl := hl.ext hx
                replace hm := hm.ext hx
                have hE := Upd.refl (fun _ => False) W
                refine id (X_scmp (a := a.2.2.2.1) (b := b.2.2.2.1) (r := false) rfl rfl rfl hs8 ?_)
                exact ⟨hE, rfl⟩
              refine ⟨.det (fun val => (.bool (false))), ⟨fun _ _ hv => rfl, fun _ _ _ _ _ => trivial⟩, fun val h_ W hx he => ⟨trivial, ?_⟩, ?_⟩
              · replace hx := (Upd.drew _ _).trans hx
                replace hl := hl.ext hx
                replace hm := hm.ext hx
                have hE := Upd.refl (fun _ => False) W
                refine id (X_pick (t := false) (v := (.bool (false))) rfl rfl ?_)
                exact ⟨hE, rfl⟩
              refine ⟨.det (fun val => (.bool (false))), ⟨fun _ _ hv => rfl, fun _ _ _ _ _ => trivial⟩, fun val h_ W hx he => ⟨trivial, ?_⟩, ?_⟩
              · replace hx := (Upd.drew _ _).trans hx
                replace hl := hl.ext hx
                replace hm := hm.ext hx
                have hE := Upd.refl (fun _ => False) W
                refine id (X_move (v := (.bool (false))) rfl ?_)
                exact ⟨hE, rfl⟩
              refine ⟨.det (fun val => l), ⟨fun _ _ hv => rfl, fun _ _ _ _ _ => trivial⟩, fun val h_ W hx he => ⟨⟨45, rfl, rfl⟩, ?_⟩, ?_⟩
              · replace hx := (Upd.drew _ _).trans hx
                replace hl := hl.ext hx
                replace hm := hm.ext hx
                have hE := Upd.refl (fun _ => False) W
                refine id (X_move (v := l) rfl ?_)
                exact ⟨hE, rfl⟩
              refine ⟨.det (fun val => (.int .i64 (((i : Nat) : Int)))), ⟨fun _ _ hv => rfl, fun _ _ _ _ _ => trivial⟩, fun val h_ W hx he => ⟨⟨45, rfl, rfl⟩, ?_⟩, ?_⟩
              · replace hx := (Upd.drew _ _).trans hx
                replace hl := hl.ext hx
                replace hm := hm.ext hx
                have hE := Upd.refl (fun _ => False) W
                refine id (X_move (v := (.int .i64 (((i : Nat) : Int)))) rfl ?_)
                exact ⟨hE, rfl⟩
              refine ⟨.det (fun val => (pof l ((((i : Nat) : Int) : Int).toNat * 8))), ⟨fun _ _ hv => rfl, fun _ _ _ _ _ => trivial⟩, fun val h_ W hx he => ⟨⟨45, rfl, rfl⟩, ?_⟩, ?_⟩
              · replace hx := (Upd.drew _ _).trans hx
                replace hl := hl.ext hx
                replace hm := hm.ext hx
                have hE := Upd.refl (fun _ => False) W
                refine id (X_idx (v := l) (n := es.length) (k := .i64) (i := ((i : Nat) : Int)) S22 rfl hl.sv rfl (by omega) (by omega) ?_)
                exact ⟨hE, rfl⟩
              refine ⟨.det (fun val => (pof l ((((i : Nat) : Int) : Int).toNat * 8 + 2))), ⟨fun _ _ hv => rfl, fun _ _ _ _ _ => trivial⟩, fun val h_ W hx he => ⟨⟨45, rfl, rfl⟩, ?_⟩, ?_⟩
              · replace hx := (Upd.drew _ _).trans hx
                replace hl := hl.ext hx
                replace hm := hm.ext hx
                have hE := Upd.refl (fun _ => False) W
                refine id (X_fldS (v := l) (o := (((i : Nat) : Int) : Int).toNat * 8) Fd43_2 rfl hl.sv (by omega) ?_)
                exact ⟨hE, rfl⟩
              refine ⟨.det (fun val => (.agg (ptC a.2.2.2.2.1).toArray)), ⟨fun _ _ hv => rfl, fun _ _ _ _ _ => trivial⟩, fun val h_ W hx he => ⟨⟨45, rfl, rfl⟩, ?_⟩, ?_⟩
              · replace hx := (Upd.drew _ _).trans hx
                replace hl := hl.ext hx
                replace hm := hm.ext hx
                have hE := Upd.refl (fun _ => False) W
                refine id (X_loadA (xs := ptC a.2.2.2.2.1) A41 rfl (iover hl (Int.toNat_natCast _) hai) rfl ?_)
                exact ⟨hE, rfl⟩
              refine ⟨.det (fun val => m), ⟨fun _ _ hv => rfl, fun _ _ _ _ _ => trivial⟩, fun val h_ W hx he => ⟨⟨45, rfl, rfl⟩, ?_⟩, ?_⟩
              · replace hx := (Upd.drew _ _).trans hx
                replace hl := hl.ext hx
                replace hm := hm.ext hx
                have hE := Upd.refl (fun _ => False) W
                refine id (X_move (v := m) rfl ?_)
                exact ⟨hE, rfl⟩
              refine ⟨.det (fun val => (.int .i64 (((i : Nat) : Int)))), ⟨fun _ _ hv => rfl, fun _ _ _ _ _ => trivial⟩, fun val h_ W hx he => ⟨⟨45, rfl, rfl⟩, ?_⟩, ?_⟩
              · replace hx := (Upd.drew _ _).trans hx
                replace hl := hl.ext hx
                replace hm := hm.ext hx
                have hE := Upd.refl (fun _ => False) W
                refine id (X_move (v := (.int .i64 (((i : Nat) : Int)))) rfl ?_)
                exact ⟨hE, rfl⟩
              refine ⟨.det (fun val => (pof m ((((i : Nat) : Int) : Int).toNat * 8))), ⟨fun _ _ hv => rfl, fun _ _ _ _ _ => trivial⟩, fun val h_ W hx he => ⟨⟨45, rfl, rfl⟩, ?_⟩, ?_⟩
              · replace hx := (Upd.drew _ _).trans hx
                replace hl := hl.ext hx
                replace hm := hm.ext hx
                have hE := Upd.refl (fun _ => False) W
                refine id (X_idx (v := m) (n := fs.length) (k := .i64) (i := ((i : Nat) : Int)) S22 rfl hm.sv rfl (by omega) (by omega) ?_)
                exact ⟨hE, rfl⟩
              refine ⟨.det (fun val => (pof m ((((i : Nat) : Int) : Int).toNat * 8 + 2))), ⟨fun _ _ hv => rfl, fun _ _ _ _ _ => trivial⟩, fun val h_ W hx he => ⟨⟨45, rfl, rfl⟩, ?_⟩, ?_⟩
              · replace hx := (Upd.drew _ _).trans hx
                replace hl := hl.ext hx
                replace hm := hm.ext hx
                have hE := Upd.refl (fun _ => False) W
                refine id (X_fldS (v := m) (o := (((i : Nat) : Int) : Int).toNat * 8) Fd43_2 rfl hm.sv (by omega) ?_)
                exact ⟨hE, rfl⟩
              refine ⟨.det (fun val => (.agg (ptC b.2.2.2.2.1).toArray)), ⟨fun _ _ hv => rfl, fun _ _ _ _ _ => trivial⟩, fun val h_ W hx he => ⟨⟨45, rfl, rfl⟩, ?_⟩, ?_⟩
              · replace hx := (Upd.drew _ _).trans hx
                replace hl := hl.ext hx
                replace hm := hm.ext hx
                have hE := Upd.refl (fun _ => False) W
                refine id (X_loadA (xs := ptC b.2.2.2.2.1) A41 rfl (iover hm (Int.toNat_natCast _) hbi) rfl ?_)
                exact ⟨hE, rfl⟩
              refine ⟨.det (fun val => (.bool (false))), ⟨fun _ _ hv => rfl, fun _ _ _ _ _ => trivial⟩, fun val h_ W hx he => ⟨⟨45, rfl, rfl⟩, ?_⟩, ?_⟩
              · replace hx := (Upd.drew _ _).trans hx
                replace hl := hl.ext hx
                replace hm := hm.ext hx
                have hE := Upd.refl (fun _ => False) W
                refine id (X_eqP (p := a.2.2.2.2.1) (q := b.2.2.2.2.1) (r := false) Tryd.underlying41 u28 (by kernel_rfl) (by decide) ⟨rfl, rfl, rfl, rfl⟩ Tryd.underlying5 Tryd.underlying37 (by kernel_rfl) Tryd.underlying36 (ie := _) rfl (by kernel_rfl) Tryd.underlying38 Tryd.underlying39 (by kernel_rfl) rfl rfl (.inr ⟨rfl, by rw [hs14]; rfl⟩) ?_)
                exact ⟨hE, rfl⟩
              refine ⟨.det (fun val => (.bool (false))), ⟨fun _ _ hv => rfl, fun _ _ _ _ _ => trivial⟩, fun val h_ W hx he => ⟨trivial, ?_⟩, ?_⟩
              · replace hx := (Upd.drew _ _).trans hx
                replace hl := hl.ext hx
                replace hm := hm.ext hx
                have hE := Upd.refl (fun _ => False) W
                refine id (X_pick (t := false) (v := (.bool (false))) rfl rfl ?_)
                exact ⟨hE, rfl⟩
              refine ⟨.det (fun val => (.bool (false))), ⟨fun _ _ hv => rfl, fun _ _ _ _ _ => trivial⟩, fun val h_ W hx he => ⟨trivial, ?_⟩, ?_⟩
              · replace hx := (Upd.drew _ _).trans hx
                replace hl := hl.ext hx
                replace hm := hm.ext hx
                have hE := Upd.refl (fun _ => False) W
                refine id (X_move (v := (.bool (false))) rfl ?_)
                exact ⟨hE, rfl⟩
              refine ⟨.det (fun val => l), ⟨fun _ _ hv => rfl, fun _ _ _ _ _ => trivial⟩, fun val h_ W hx he => ⟨⟨58, rfl, rfl⟩, ?_⟩, ?_⟩
              · replace hx := (Upd.drew _ _).trans hx
                replace hl := hl.ext hx
                replace hm := hm.ext hx
                have hE := Upd.refl (fun _ => False) W
                refine id (X_move (v := l) rfl ?_)
                exact ⟨hE, rfl⟩
              refine ⟨.det (fun val => (.int .i64 (((i : Nat) : Int)))), ⟨fun _ _ hv => rfl, fun _ _ _ _ _ => trivial⟩, fun val h_ W hx he => ⟨⟨58, rfl, rfl⟩, ?_⟩, ?_⟩
              · replace hx := (Upd.drew _ _).trans hx
                replace hl := hl.ext hx
                replace hm := hm.ext hx
                have hE := Upd.refl (fun _ => False) W
                refine id (X_move (v := (.int .i64 (((i : Nat) : Int)))) rfl ?_)
                exact ⟨hE, rfl⟩
              refine ⟨.det (fun val => (pof l ((((i : Nat) : Int) : Int).toNat * 8))), ⟨fun _ _ hv => rfl, fun _ _ _ _ _ => trivial⟩, fun val h_ W hx he => ⟨⟨58, rfl, rfl⟩, ?_⟩, ?_⟩
              · replace hx := (Upd.drew _ _).trans hx
                replace hl := hl.ext hx
                replace hm := hm.ext hx
                have hE := Upd.refl (fun _ => False) W
                refine id (X_idx (v := l) (n := es.length) (k := .i64) (i := ((i : Nat) : Int)) S22 rfl hl.sv rfl (by omega) (by omega) ?_)
                exact ⟨hE, rfl⟩
              refine ⟨.det (fun val => (pof l ((((i : Nat) : Int) : Int).toNat * 8 + 7))), ⟨fun _ _ hv => rfl, fun _ _ _ _ _ => trivial⟩, fun val h_ W hx he => ⟨⟨58, rfl, rfl⟩, ?_⟩, ?_⟩
              · replace hx := (Upd.drew _ _).trans hx
                replace hl := hl.ext hx
                replace hm := hm.ext hx
                have hE := Upd.refl (fun _ => False) W
                refine id (X_fldS (v := l) (o := (((i : Nat) : Int) : Int).toNat * 8) Fd43_3 rfl hl.sv (by omega) ?_)
                exact ⟨hE, rfl⟩
              refine ⟨.det (fun val => (.int .u16 (a.2.2.2.2.2))), ⟨fun _ _ hv => rfl, fun _ _ _ _ _ => trivial⟩, fun val h_ W hx he => ⟨⟨58, rfl, rfl⟩, ?_⟩, ?_⟩
              · replace hx := (Upd.drew _ _).trans hx
                replace hl := hl.ext hx
                replace hm := hm.ext hx
                have hE := Upd.refl (fun _ => False) W
                refine id (X_load (v := .int .u16 a.2.2.2.2.2) T36 rfl (isize hl (Int.toNat_natCast _) hai) ?_)
                exact ⟨hE, rfl⟩
              refine ⟨.det (fun val => m), ⟨fun _ _ hv => rfl, fun _ _ _ _ _ => trivial⟩, fun val h_ W hx he => ⟨⟨58, rfl, rfl⟩, ?_⟩, ?_⟩
              · replace hx := (Upd.drew _ _).trans hx
                replace hl := hl.ext hx
                replace hm := hm.ext hx
                have hE := Upd.refl (fun _ => False) W
                refine id (X_move (v := m) rfl ?_)
                exact ⟨hE, rfl⟩
              refine ⟨.det (fun val => (.int .i64 (((i : Nat) : Int)))), ⟨fun _ _ hv => rfl, fun _ _ _ _ _ => trivial⟩, fun val h_ W hx he => ⟨⟨58, rfl, rfl⟩, ?_⟩, ?_⟩
              · replace hx := (Upd.drew _ _).trans hx
                replace hl := hl.ext hx
                replace hm := hm.ext hx
                have hE := Upd.refl (fun _ => False) W
                refine id (X_move (v := (.int .i64 (((i : Nat) : Int)))) rfl ?_)
                exact ⟨hE, rfl⟩
              refine ⟨.det (fun val => (pof m ((((i : Nat) : Int) : Int).toNat * 8))), ⟨fun _ _ hv => rfl, fun _ _ _ _ _ => trivial⟩, fun val h_ W hx he => ⟨⟨58, rfl, rfl⟩, ?_⟩, ?_⟩
              · replace hx := (Upd.drew _ _).trans hx
                replace hl := hl.ext hx
                replace hm := hm.ext hx
                have hE := Upd.refl (fun _ => False) W
                refine id (X_idx (v := m) (n := fs.length) (k := .i64) (i := ((i : Nat) : Int)) S22 rfl hm.sv rfl (by omega) (by omega) ?_)
                exact ⟨hE, rfl⟩
              refine ⟨.det (fun val => (pof m ((((i : Nat) : Int) : Int).toNat * 8 + 7))), ⟨fun _ _ hv => rfl, fun _ _ _ _ _ => trivial⟩, fun val h_ W hx he => ⟨⟨58, rfl, rfl⟩, ?_⟩, ?_⟩
              · replace hx := (Upd.drew _ _).trans hx
                replace hl := hl.ext hx
                replace hm := hm.ext hx
                have hE := Upd.refl (fun _ => False) W
                refine id (X_fldS (v := m) (o := (((i : Nat) : Int) : Int).toNat * 8) Fd43_3 rfl hm.sv (by omega) ?_)
                exact ⟨hE, rfl⟩
              refine ⟨.det (fun val => (.int .u16 (b.2.2.2.2.2))), ⟨fun _ _ hv => rfl, fun _ _ _ _ _ => trivial⟩, fun val h_ W hx he => ⟨⟨58, rfl, rfl⟩, ?_⟩, ?_⟩
              · replace hx := (Upd.drew _ _).trans hx
                replace hl := hl.ext hx
                replace hm := hm.ext hx
                have hE := Upd.refl (fun _ => False) W
                refine id (X_load (v := .int .u16 b.2.2.2.2.2) T36 rfl (isize hm (Int.toNat_natCast _) hbi) ?_)
                exact ⟨hE, rfl⟩
              intro val W16 hx16 he16
              replace hx16 := (Upd.drew _ _).trans hx16
              have hz16 := hx16.size
              replace hl := hl.ext hx16
              replace hm := hm.ext hx16
              replace hE := hE.trans (Ext.upd hx16)
              refine L_gy (dj := 58) rfl rfl rfl (X_cmp (k := .u16) (a := a.2.2.2.2.2) (b := b.2.2.2.2.2) (r := false) rfl rfl rfl (decide_eq_false (p := ((a.2.2.2.2.2) : Int) ≠ ((b.2.2.2.2.2) : Int)) (by omega)) ?_)
              refine L_op rfl (X_pick (t := false) (v := (.bool (false))) rfl rfl ?_)
              refine L_nil ?_
              refine T_n ?_
              refine W_cf rfl ?_
              refine W_skip ?_
              refine B_n ?_
              refine T_n ?_
              refine W_reg ?_
              refine L_op rfl (X_move (v := (.int .i64 (((i : Nat) : Int)))) rfl ?_)
              refine L_op rfl (X_arith (k := .i64) (a := ((i : Nat) : Int)) (b := 1) (r := ((i + 1 : Nat) : Int)) rfl rfl rfl (iadd64 (by omega) (by omega) (by omega)) ?_)
              refine L_op rfl (X_assign (v := (.int .i64 (((i + 1 : Nat) : Int)))) rfl ?_)
              refine L_nil ?_
              refine T_n ?_
              exact ⟨rfl, i + 1, ⟨⟨hi, hl, hm, hE, same_step hai hbi hz (same_it (by simpa [scmp] using hs4) (by simpa [scmp] using hs8) (by simpa using hs14) (of_decide_eq_true hs15))⟩, (by show es.length - (i + 1) < es.length - i; omega)⟩, (Out.mk rfl), ⟨rfl, trivial⟩⟩
            · have hs15_ := of_decide_eq_false hs15
              refine W_draw 52 [[], [], [0, 1], [0, 1, 2], [0, 1, 2, 3], [0, 1, 2, 3, 4], [], [], [6, 7], [6, 7, 8], [6, 7, 8, 9], [6, 7, 8, 9, 10], [0, 1, 2, 3, 4, 5, 6, 7, 8, 9, 10, 11], [0, 1, 2, 3, 4, 5, 6, 7, 8, 9, 10, 11, 12], [0, 1, 2, 3, 4, 5, 6, 7, 8, 9, 10, 11, 12, 13], [0, 1, 2, 3, 4, 5, 6, 7, 8, 9, 10, 11, 12, 13], [0, 1, 2, 3, 4, 5, 6, 7, 8, 9, 10, 11, 12, 13, 14, 15], [0, 1, 2, 3, 4, 5, 6, 7, 8, 9, 10, 11, 12, 13, 14, 15, 16], [0, 1, 2, 3, 4, 5, 6, 7, 8, 9, 10, 11, 12, 13, 14, 15, 16, 17], [0, 1, 2, 3, 4, 5, 6, 7, 8, 9, 10, 11, 12, 13, 14, 15, 16, 17, 18], [0, 1, 2, 3, 4, 5, 6, 7, 8, 9, 10, 11, 12, 13], [0, 1, 2, 3, 4, 5, 6, 7, 8, 9, 10, 11, 12, 13], [0, 1, 2, 3, 4, 5, 6, 7, 8, 9, 10, 11, 12, 13, 20, 21], [0, 1, 2, 3, 4, 5, 6, 7, 8, 9, 10, 11, 12, 13, 20, 21, 22], [0, 1, 2, 3, 4, 5, 6, 7, 8, 9, 10, 11, 12, 13, 20, 21, 22, 23], [0, 1, 2, 3, 4, 5, 6, 7, 8, 9, 10, 11, 12, 13, 20, 21, 22, 23, 24], [0, 1, 2, 3, 4, 5, 6, 7, 8, 9, 10, 11, 12, 13, 14, 15, 16, 17, 18, 19, 20, 21, 22, 23, 24, 25], [0, 1, 2, 3, 4, 5, 6, 7, 8, 9, 10, 11, 12, 13, 14, 15, 16, 17, 18, 19, 20, 21, 22, 23, 24, 25, 26], [0, 1, 2, 3, 4, 5, 6, 7, 8, 9, 10, 11, 12, 13, 14, 15, 16, 17, 18, 19, 20, 21, 22, 23, 24, 25, 26, 27], [0, 1, 2, 3, 4, 5, 6, 7, 8, 9, 10, 11, 12, 13, 14, 15, 16, 17, 18, 19, 20, 21, 22, 23, 24, 25, 26, 27, 28], [0, 1, 2, 3, 4, 5, 6, 7, 8, 9, 10, 11, 12, 13, 14, 15, 16, 17, 18, 19, 20, 21, 22, 23, 24, 25, 26, 27, 28], [0, 1, 2, 3, 4, 5, 6, 7, 8, 9, 10, 11, 12, 13, 14, 15, 16, 17, 18, 19, 20, 21, 22, 23, 24, 25, 26, 27, 28, 29, 30], [0, 1, 2, 3, 4, 5, 6, 7, 8, 9, 10, 11, 12, 13, 14, 15, 16, 17, 18, 19, 20, 21, 22, 23, 24, 25, 26, 27, 28, 29, 30, 31], [0, 1, 2, 3, 4, 5, 6, 7, 8, 9, 10, 11, 12, 13, 14, 15, 16, 17, 18, 19, 20, 21, 22, 23, 24, 25, 26, 27, 28, 29, 30, 31, 32], [0, 1, 2, 3, 4, 5, 6, 7, 8, 9, 10, 11, 12, 13, 14, 15, 16, 17, 18, 19, 20, 21, 22, 23, 24, 25, 26, 27, 28], [0, 1, 2, 3, 4, 5, 6, 7, 8, 9, 10, 11, 12, 13, 14, 15, 16, 17, 18, 19, 20, 21, 22, 23, 24, 25, 26, 27, 28], [0, 1, 2, 3, 4, 5, 6, 7, 8, 9, 10, 11, 12, 13, 14, 15, 16, 17, 18, 19, 20, 21, 22, 23, 24, 25, 26, 27, 28, 34, 35], [0, 1, 2, 3, 4, 5, 6, 7, 8, 9, 10, 11, 12, 13, 14, 15, 16, 17, 18, 19, 20, 21, 22, 23, 24, 25, 26, 27, 28, 34, 35, 36], [0, 1, 2, 3, 4, 5, 6, 7, 8, 9, 10, 11, 12, 13, 14, 15, 16, 17, 18, 19, 20, 21, 22, 23, 24, 25, 26, 27, 28, 34, 35, 36, 37], [0, 1, 2, 3, 4, 5, 6, 7, 8, 9, 10, 11, 12, 13, 14, 15, 16, 17, 18, 19, 20, 21, 22, 23, 24, 25, 26, 27, 28, 29, 30, 31, 32, 33, 34, 35, 36, 37, 38], [0, 1, 2, 3, 4, 5, 6, 7, 8, 9, 10, 11, 12, 13, 14, 15, 16, 17, 18, 19, 20, 21, 22, 23, 24, 25, 26, 27, 28, 29, 30, 31, 32, 33, 34, 35, 36, 37, 38, 39], [0, 1, 2, 3, 4, 5, 6, 7, 8, 9, 10, 11, 12, 13, 14, 15, 16, 17, 18, 19, 20, 21, 22, 23, 24, 25, 26, 27, 28, 29, 30, 31, 32, 33, 34, 35, 36, 37, 38, 39, 40], [0, 1, 2, 3, 4, 5, 6, 7, 8, 9, 10, 11, 12, 13, 14, 15, 16, 17, 18, 19, 20, 21, 22, 23, 24, 25, 26, 27, 28, 29, 30, 31, 32, 33, 34, 35, 36, 37, 38, 39, 40, 41], [0, 1, 2, 3, 4, 5, 6, 7, 8, 9, 10, 11, 12, 13, 14, 15, 16, 17, 18, 19, 20, 21, 22, 23, 24, 25, 26, 27, 28, 29, 30, 31, 32, 33, 34, 35, 36, 37, 38, 39, 40, 41], [0, 1, 2, 3, 4, 5, 6, 7, 8, 9, 10, 11, 12, 13, 14, 15, 16, 17, 18, 19, 20, 21, 22, 23, 24, 25, 26, 27, 28, 29, 30, 31, 32, 33, 34, 35, 36, 37, 38, 39, 40, 41, 42, 43], [0, 1, 2, 3, 4, 5, 6, 7, 8, 9, 10, 11, 12, 13, 14, 15, 16, 17, 18, 19, 20, 21, 22, 23, 24, 25, 26, 27, 28, 29, 30, 31, 32, 33, 34, 35, 36, 37, 38, 39, 40, 41, 42, 43, 44], [0, 1, 2, 3, 4, 5, 6, 7, 8, 9, 10, 11, 12, 13, 14, 15, 16, 17, 18, 19, 20, 21, 22, 23, 24, 25, 26, 27, 28, 29, 30, 31, 32, 33, 34, 35, 36, 37, 38, 39, 40, 41, 42, 43, 44, 45], [0, 1, 2, 3, 4, 5, 6, 7, 8, 9, 10, 11, 12, 13, 14, 15, 16, 17, 18, 19, 20, 21, 22, 23, 24, 25, 26, 27, 28, 29, 30, 31, 32, 33, 34, 35, 36, 37, 38, 39, 40, 41], [0, 1, 2, 3, 4, 5, 6, 7, 8, 9, 10, 11, 12, 13, 14, 15, 16, 17, 18, 19, 20, 21, 22, 23, 24, 25, 26, 27, 28, 29, 30, 31, 32, 33, 34, 35, 36, 37, 38, 39, 40, 41], [0, 1, 2, 3, 4, 5, 6, 7, 8, 9, 10, 11, 12, 13, 14, 15, 16, 17, 18, 19, 20, 21, 22, 23, 24, 25, 26, 27, 28, 29, 30, 31, 32, 33, 34, 35, 36, 37, 38, 39, 40, 41, 47, 48], [0, 1, 2, 3, 4, 5, 6, 7, 8, 9, 10, 11, 12, 13, 14, 15, 16, 17, 18, 19, 20, 21, 22, 23, 24, 25, 26, 27, 28, 29, 30, 31, 32, 33, 34, 35, 36, 37, 38, 39, 40, 41, 47, 48, 49], [0, 1, 2, 3, 4, 5, 6, 7, 8, 9, 10, 11, 12, 13, 14, 15, 16, 17, 18, 19, 20, 21, 22, 23, 24, 25, 26, 27, 28, 29, 30, 31, 32, 33, 34, 35, 36, 37, 38, 39, 40, 41, 47, 48, 49, 50], [0, 1, 2, 3, 4, 5, 6, 7, 8, 9, 10, 11, 12, 13, 14, 15, 16, 17, 18, 19, 20, 21, 22, 23, 24, 25, 26, 27, 28, 29, 30, 31, 32, 33, 34, 35, 36, 37, 38, 39, 40, 41, 42, 43, 44, 45, 46, 47, 48, 49, 50, 51], [0, 1, 2, 3, 4, 5, 6, 7, 8, 9, 10, 11, 12, 13, 14, 15, 16, 17, 18, 19, 20, 21, 22, 23, 24, 25, 26, 27, 28, 29, 30, 31, 32, 33, 34, 35, 36, 37, 38, 39, 40, 41, 42, 43, 44, 45, 46, 47, 48, 49, 50, 51, 52]] mixed (by kernel_rfl) ?_
              refine ⟨.det (fun val => l), ⟨fun _ _ hv => rfl, fun _ _ _ _ _ => trivial⟩, fun val h_ W hx he => ⟨trivial, ?_⟩, ?_⟩
              · replace hx := (Upd.drew _ _).trans hx
                replace hl := hl.ext hx
                replace hm := hm.ext hx
                have hE := Upd.refl (fun _ => False) W
                refine id (X_move (v := l) rfl ?_)
                exact ⟨hE, rfl⟩
              refine ⟨.det (fun val => (.int .i64 (((i : Nat) : Int)))), ⟨fun _ _ hv => rfl, fun _ _ _ _ _ => trivial⟩, fun val h_ W hx he => ⟨trivial, ?_⟩, ?_⟩
              · replace hx := (Upd.drew _ _).trans hx
                replace hl := hl.ext hx
                replace hm := hm.ext hx
                have hE := Upd.refl (fun _ => False) W
                refine id (X_move (v := (.int .i64 (((i : Nat) : Int)))) rfl ?_)
                exact ⟨hE, rfl⟩
              refine ⟨.det (fun val => (pof l ((((i : Nat) : Int) : Int).toNat * 8))), ⟨fun _ _ hv => rfl, fun _ _ _ _ _ => trivial⟩, fun val h_ W hx he => ⟨trivial, ?_⟩, ?_⟩
              · replace hx := (Upd.drew _ _).trans hx
                replace hl := hl.ext hx
                replace hm := hm.ext hx
                have hE := Upd.refl (fun _ => False) W
                refine id (X_idx (v := l) (n := es.length) (k := .i64) (i := ((i : Nat) : Int)) S22 rfl hl.sv rfl (by omega) (by omega) ?_)
                exact ⟨hE, rfl⟩
              refine ⟨.det (fun val => (pof l ((((i : Nat) : Int) : Int).toNat * 8 + 0))), ⟨fun _ _ hv => rfl, fun _ _ _ _ _ => trivial⟩, fun val h_ W hx he => ⟨trivial, ?_⟩, ?_⟩
              · replace hx := (Upd.drew _ _).trans hx
                replace hl := hl.ext hx
                replace hm := hm.ext hx
                have hE := Upd.refl (fun _ => False) W
                refine id (X_fldS (v := l) (o := (((i : Nat) : Int) : Int).toNat * 8) Fd43_0 rfl hl.sv (by omega) ?_)
                exact ⟨hE, rfl⟩
              refine ⟨.det (fun val => a.1), ⟨fun _ _ hv => rfl, fun _ _ _ _ _ => trivial⟩, fun val h_ W hx he => ⟨trivial, ?_⟩, ?_⟩
              · replace hx := (Upd.drew _ _).trans hx
                replace hl := hl.ext hx
                replace hm := hm.ext hx
                have hE := Upd.refl (fun _ => False) W
                refine id (X_load (v := a.1) T35 rfl (ikey hl (Int.toNat_natCast _) hai) ?_)
                exact ⟨hE, rfl⟩
              refine ⟨.det (fun val => (strV (a.2.2.1))), ⟨fun _ _ hv => rfl, fun _ _ _ _ _ => trivial⟩, fun val h_ W hx he => ⟨trivial, ?_⟩, ?_⟩
              · replace hx := (Upd.drew _ _).trans hx
                replace hl := hl.ext hx
                replace hm := hm.ext hx
                have hE := Upd.refl (fun _ => False) W
                refine id (X_str (v := a.1) (l := a.2.2.1) Tryd.underlying35 Tryd.underlying5 Tryd.underlying9 rfl (irdk hl hai) ?_)
                exact ⟨hE, rfl⟩
              refine ⟨.det (fun val => m), ⟨fun _ _ hv => rfl, fun _ _ _ _ _ => trivial⟩, fun val h_ W hx he => ⟨trivial, ?_⟩, ?_⟩
              · replace hx := (Upd.drew _ _).trans hx
                replace hl := hl.ext hx
                replace hm := hm.ext hx
                have hE := Upd.refl (fun _ => False) W
                refine id (X_move (v := m) rfl ?_)
                exact ⟨hE, rfl⟩
              refine ⟨.det (fun val => (.int .i64 (((i : Nat) : Int)))), ⟨fun _ _ hv => rfl, fun _ _ _ _ _ => trivial⟩, fun val h_ W hx he => ⟨trivial, ?_⟩, ?_⟩
              · replace hx := (Upd.drew _ _).trans hx
                replace hl := hl.ext hx
                replace hm := hm.ext hx
                have hE := Upd.refl (fun _ => False) W
                refine id (X_move (v := (.int .i64 (((i : Nat) : Int)))) rfl ?_)
                exact ⟨hE, rfl⟩
              refine ⟨.det (fun val => (pof m ((((i : Nat) : Int) : Int).toNat * 8))), ⟨fun _ _ hv => rfl, fun _ _ _ _ _ => trivial⟩, fun val h_ W hx he => ⟨trivial, ?_⟩, ?_⟩
              · replace hx := (Upd.drew _ _).trans hx
                replace hl := hl.ext hx
                replace hm := hm.ext hx
                have hE := Upd.refl (fun _ => False) W
                refine id (X_idx (v := m) (n := fs.length) (k := .i64) (i := ((i : Nat) : Int)) S22 rfl hm.sv rfl (by omega) (by omega) ?_)
                exact ⟨hE, rfl⟩
              refine ⟨.det (fun val => (pof m ((((i : Nat) : Int) : Int).toNat * 8 + 0))), ⟨fun _ _ hv => rfl, fun _ _ _ _ _ => trivial⟩, fun val h_ W hx he => ⟨trivial, ?_⟩, ?_⟩
              · replace hx := (Upd.drew _ _).trans hx
                replace hl := hl.ext hx
                replace hm := hm.ext hx
                have hE := Upd.refl (fun _ => False) W
                refine id (X_fldS (v := m) (o := (((i : Nat) : Int) : Int).toNat * 8) Fd43_0 rfl hm.sv (by omega) ?_)
                exact ⟨hE, rfl⟩
              refine ⟨.det (fun val => b.1), ⟨fun _ _ hv => rfl, fun _ _ _ _ _ => trivial⟩, fun val h_ W hx he => ⟨trivial, ?_⟩, ?_⟩
              · replace hx := (Upd.drew _ _).trans hx
                replace hl := hl.ext hx
                replace hm := hm.ext hx
                have hE := Upd.refl (fun _ => False) W
                refine id (X_load (v := b.1) T35 rfl (ikey hm (Int.toNat_natCast _) hbi) ?_)
                exact ⟨hE, rfl⟩
              refine ⟨.det (fun val => (strV (b.2.2.1))), ⟨fun _ _ hv => rfl, fun _ _ _ _ _ => trivial⟩, fun val h_ W hx he => ⟨trivial, ?_⟩, ?_⟩
              · replace hx := (Upd.drew _ _).trans hx
                replace hl := hl.ext hx
                replace hm := hm.ext hx
                have hE := Upd.refl (fun _ => False) W
                refine id (X_str (v := b.1) (l := b.2.2.1) Tryd.underlying35 Tryd.underlying5 Tryd.underlying9 rfl (irdk hm hbi) ?_)
                exact ⟨hE, rfl⟩
              refine ⟨.det (fun val => (.bool (false))), ⟨fun _ _ hv => rfl, fun _ _ _ _ _ => trivial⟩, fun val h_ W hx he => ⟨trivial, ?_⟩, ?_⟩
              · replace hx := (Upd.drew _ _).trans hx
                replace hl := hl.ext hx
                replace hm := hm.ext hx
                have hE := Upd.refl (fun _ => False) W
                refine id (X_scmp (a := a.2.2.1) (b := b.2.2.1) (r := false) rfl rfl rfl hs4 ?_)
                exact ⟨hE, rfl⟩
              refine ⟨.det (fun val => (.bool (false))), ⟨fun _ _ hv => rfl, fun _ _ _ _ _ => trivial⟩, fun val h_ W hx he => ⟨trivial, ?_⟩, ?_⟩
              · replace hx := (Upd.drew _ _).trans hx
                replace hl := hl.ext hx
                replace hm := hm.ext hx
                have hE := Upd.refl (fun _ => False) W
                refine id (X_move (v := (.bool (false))) rfl ?_)
                exact ⟨hE, rfl⟩
              refine ⟨.det (fun val => l), ⟨fun _ _ hv => rfl, fun _ _ _ _ _ => trivial⟩, fun val h_ W hx he => ⟨⟨30, rfl, rfl⟩, ?_⟩, ?_⟩
              · replace hx := (Upd.drew _ _).trans hx
                replace hl := hl.ext hx
                replace hm := hm.ext hx
                have hE := Upd.refl (fun _ => False) W
                refine id (X_move (v := l) rfl ?_)
                exact ⟨hE, rfl⟩
              refine ⟨.det (fun val => (.int .i64 (((i : Nat) : Int)))), ⟨fun _ _ hv => rfl, fun _ _ _ _ _ => trivial⟩, fun val h_ W hx he => ⟨⟨30, rfl, rfl⟩, ?_⟩, ?_⟩
              · replace hx := (Upd.drew _ _).trans hx
                replace hl := hl.ext hx
                replace hm := hm.ext hx
                have hE := Upd.refl (fun _ => False) W
                refine id (X_move (v := (.int .i64 (((i : Nat) : Int)))) rfl ?_)
                exact ⟨hE, rfl⟩
              refine ⟨.det (fun val => (pof l ((((i : Nat) : Int) : Int).toNat * 8))), ⟨fun _ _ hv => rfl, fun _ _ _ _ _ => trivial⟩, fun val h_ W hx he => ⟨⟨30, rfl, rfl⟩, ?_⟩, ?_⟩
              · replace hx := (Upd.drew _ _).trans hx
                replace hl := hl.ext hx
                replace hm := hm.ext hx
                have hE := Upd.refl (fun _ => False) W
                refine id (X_idx (v := l) (n := es.length) (k := .i64) (i := ((i : Nat) : Int)) S22 rfl hl.sv rfl (by omega) (by omega) ?_)
                exact ⟨hE, rfl⟩
              refine ⟨.det (fun val => (pof l ((((i : Nat) : Int) : Int).toNat * 8 + 1))), ⟨fun _ _ hv => rfl, fun _ _ _ _ _ => trivial⟩, fun val h_ W hx he => ⟨⟨30, rfl, rfl⟩, ?_⟩, ?_⟩
              · replace hx := (Upd.drew _ _).trans hx
                replace hl := hl.ext hx
                replace hm := hm.ext hx
                have hE := Upd.refl (fun _ => False) W
                refine id (X_fldS (v := l) (o := (((i : Nat) : Int) : Int).toNat * 8) Fd43_1 rfl hl.sv (by omega) ?_)
                exact ⟨hE, rfl⟩
              refine ⟨.det (fun val => a.2.1), ⟨fun _ _ hv => rfl, fun _ _ _ _ _ => trivial⟩, fun val h_ W hx he => ⟨⟨30, rfl, rfl⟩, ?_⟩, ?_⟩
              · replace hx := (Upd.drew _ _).trans hx
                replace hl := hl.ext hx
                replace hm := hm.ext hx
                have hE := Upd.refl (fun _ => False) W
                refine id (X_load (v := a.2.1) T35 rfl (ival hl (Int.toNat_natCast _) hai) ?_)
                exact ⟨hE, rfl⟩
              refine ⟨.det (fun val => (strV (a.2.2.2.1))), ⟨fun _ _ hv => rfl, fun _ _ _ _ _ => trivial⟩, fun val h_ W hx he => ⟨⟨30, rfl, rfl⟩, ?_⟩, ?_⟩
              · replace hx := (Upd.drew _ _).trans hx
                replace hl := hl.ext hx
                replace hm := hm.ext hx
                have hE := Upd.refl (fun _ => False) W
                refine id (X_str (v := a.2.1) (l := a.2.2.2.1) Tryd.underlying35 Tryd.underlying5 Tryd.underlying9 rfl (irdv hl hai) ?_)
                exact ⟨hE, rfl⟩
              refine ⟨.det (fun val => m), ⟨fun _ _ hv => rfl, fun _ _ _ _ _ => trivial⟩, fun val h_ W hx he => ⟨⟨30, rfl, rfl⟩, ?_⟩, ?_⟩
              · replace hx := (Upd.drew _ _).trans hx
                replace hl := hl.ext hx
                replace hm := hm.ext hx
                have hE := Upd.refl (fun _ => False) W
                refine id (X_move (v := m) rfl ?_)
                exact ⟨hE, rfl⟩
              refine ⟨.det (fun val => (.int .i64 (((i : Nat) : Int)))), ⟨fun _ _ hv => rfl, fun _ _ _ _ _ => trivial⟩, fun val h_ W hx he => ⟨⟨30, rfl, rfl⟩, ?_⟩, ?_⟩
              · replace hx := (Upd.drew _ _).trans hx
                replace hl := hl.ext hx
                replace hm := hm.ext hx
                have hE := Upd.refl (fun _ => False) W
                refine id (X_move (v := (.int .i64 (((i : Nat) : Int)))) rfl ?_)
                exact ⟨hE, rfl⟩
              refine ⟨.det (fun val => (pof m ((((i : Nat) : Int) : Int).toNat * 8))), ⟨fun _ _ hv => rfl, fun _ _ _ _ _ => trivial⟩, fun val h_ W hx he => ⟨⟨30, rfl, rfl⟩, ?_⟩, ?_⟩
              · replace hx := (Upd.drew _ _).trans hx
                replace hl := hl.ext hx
                replace hm := hm.ext hx
                have hE := Upd.refl (fun _ => False) W
                refine id (X_idx (v := m) (n := fs.length) (k := .i64) (i := ((i : Nat) : Int)) S22 rfl hm.sv rfl (by omega) (by omega) ?_)
                exact ⟨hE, rfl⟩
              refine ⟨.det (fun val => (pof m ((((i : Nat) : Int) : Int).toNat * 8 + 1))), ⟨fun _ _ hv => rfl, fun _ _ _ _ _ => trivial⟩, fun val h_ W hx he => ⟨⟨30, rfl, rfl⟩, ?_⟩, ?_⟩
              · replace hx := (Upd.drew _ _).trans hx
                replace hl := hl.ext hx
                replace hm := hm.ext hx
                have hE := Upd.refl (fun _ => False) W
                refine id (X_fldS (v := m) (o := (((i : Nat) : Int) : Int).toNat * 8) Fd43_1 rfl hm.sv (by omega) ?_)
                exact ⟨hE, rfl⟩
              refine ⟨.det (fun val => b.2.1), ⟨fun _ _ hv => rfl, fun _ _ _ _ _ => trivial⟩, fun val h_ W hx he => ⟨⟨30, rfl, rfl⟩, ?_⟩, ?_⟩
              · replace hx := (Upd.drew _ _).trans hx
                replace hl := hl.ext hx
                replace hm := hm.ext hx
                have hE := Upd.refl (fun _ => False) W
                refine id (X_load (v := b.2.1) T35 rfl (ival hm (Int.toNat_natCast _) hbi) ?_)
                exact ⟨hE, rfl⟩
              refine ⟨.det (fun val => (strV (b.2.2.2.1))), ⟨fun _ _ hv => rfl, fun _ _ _ _ _ => trivial⟩, fun val h_ W hx he => ⟨⟨30, rfl, rfl⟩, ?_⟩, ?_⟩
              · replace hx := (Upd.drew _ _).trans hx
                replace hl := hl.ext hx
                replace hm := hm.ext hx
                have hE := Upd.refl (fun _ => False) W
                refine id (X_str (v := b.2.1) (l := b.2.2.2.1) Tryd.underlying35 Tryd.underlying5 Tryd.underlying9 rfl (irdv hm hbi) ?_)
                exact ⟨hE, rfl⟩
              refine ⟨.det (fun val => (.bool (false))), ⟨fun _ _ hv => rfl, fun _ _ _ _ _ => trivial⟩, fun val h_ W hx he => ⟨⟨30, rfl, rfl⟩, ?_⟩, ?_⟩
              · replace hx := (Upd.drew _ _).trans hx
                replace hl := hl.ext hx
                replace hm := hm.ext hx
                have hE := Upd.refl (fun _ => False) W
                refine id (X_scmp (a := a.2.2.2.1) (b := b.2.2.2.1) (r := false) rfl rfl rfl hs8 ?_)
                exact ⟨hE, rfl⟩
              refine ⟨.det (fun val => (.bool (false))), ⟨fun _ _ hv => rfl, fun _ _ _ _ _ => trivial⟩, fun val h_ W hx he => ⟨trivial, ?_⟩, ?_⟩
              · replace hx := (Upd.drew _ _).trans hx
                replace hl := hl.ext hx
                replace hm := hm.ext hx
                have hE := Upd.refl (fun _ => False) W
                refine id (X_pick (t := false) (v := (.bool (false))) rfl rfl ?_)
                exact ⟨hE, rfl⟩
              refine ⟨.det (fun val => (.bool (false))), ⟨fun _ _ hv => rfl, fun _ _ _ _ _ => trivial⟩, fun val h_ W hx he => ⟨trivial, ?_⟩, ?_⟩
              · replace hx := (Upd.drew _ _).trans hx
                replace hl := hl.ext hx
                replace hm := hm.ext hx
                have hE := Upd.refl (fun _ => False) W
                refine id (X_move (v := (.bool (false))) rfl ?_)
                exact ⟨hE, rfl⟩
              refine ⟨.det (fun val => l), ⟨fun _ _ hv => rfl, fun _ _ _ _ _ => trivial⟩, fun val h_ W hx he => ⟨⟨45, rfl, rfl⟩, ?_⟩, ?_⟩
              · replace hx := (Upd.drew _ _).trans hx
                replace hl := hl.ext hx
                replace hm := hm.ext hx
                have hE := Upd.refl (fun _ => False) W
                refine id (X_move (v := l) rfl ?_)
                exact ⟨hE, rfl⟩
              refine ⟨.det (fun val => (.int .i64 (((i : Nat) : Int)))), ⟨fun _ _ hv => rfl, fun _ _ _ _ _ => trivial⟩, fun val h_ W hx he => ⟨⟨45, rfl, rfl⟩, ?_⟩, ?_⟩
              · replace hx := (Upd.drew _ _).trans hx
                replace hl := hl.ext hx
                replace hm := hm.ext hx
                have hE := Upd.refl (fun _ => False) W
                refine id (X_move (v := (.int .i64 (((i : Nat) : Int)))) rfl ?_)
                exact ⟨hE, rfl⟩
              refine ⟨.det (fun val => (pof l ((((i : Nat) : Int) : Int).toNat * 8))), ⟨fun _ _ hv => rfl, fun _ _ _ _ _ => trivial⟩, fun val h_ W hx he => ⟨⟨45, rfl, rfl⟩, ?_⟩, ?_⟩
              · replace hx := (Upd.drew _ _).trans hx
                replace hl := hl.ext hx
                replace hm := hm.ext hx
                have hE := Upd.refl (fun _ => False) W
                refine id (X_idx (v := l) (n := es.length) (k := .i64) (i := ((i : Nat) : Int)) S22 rfl hl.sv rfl (by omega) (by omega) ?_)
                exact ⟨hE, rfl⟩
              refine ⟨.det (fun val => (pof l ((((i : Nat) : Int) : Int).toNat * 8 + 2))), ⟨fun _ _ hv => rfl, fun _ _ _ _ _ => trivial⟩, fun val h_ W hx he => ⟨⟨45, rfl, rfl⟩, ?_⟩, ?_⟩
              · replace hx := (Upd.drew _ _).trans hx
                replace hl := hl.ext hx
                replace hm := hm.ext hx
                have hE := Upd.refl (fun _ => False) W
                refine id (X_fldS (v := l) (o := (((i : Nat) : Int) : Int).toNat * 8) Fd43_2 rfl hl.sv (by omega) ?_)
                exact ⟨hE, rfl⟩
              refine ⟨.det (fun val => (.agg (ptC a.2.2.2.2.1).toArray)), ⟨fun _ _ hv => rfl, fun _ _ _ _ _ => trivial⟩, fun val h_ W hx he => ⟨⟨45, rfl, rfl⟩, ?_⟩, ?_⟩
              · replace hx := (Upd.drew _ _).trans hx
                replace hl := hl.ext hx
                replace hm := hm.ext hx
                have hE := Upd.refl (fun _ => False) W
                refine id (X_loadA (xs := ptC a.2.2.2.2.1) A41 rfl (iover hl (Int.toNat_natCast _) hai) rfl ?_)
                exact ⟨hE, rfl⟩
              refine ⟨.det (fun val => m), ⟨fun _ _ hv => rfl, fun _ _ _ _ _ => trivial⟩, fun val h_ W hx he => ⟨⟨45, rfl, rfl⟩, ?_⟩, ?_⟩
              · replace hx := (Upd.drew _ _).trans hx
                replace hl := hl.ext hx
                replace hm := hm.ext hx
                have hE := Upd.refl (fun _ => False) W
                refine id (X_move (v := m) rfl ?_)
                exact ⟨hE, rfl⟩
              refine ⟨.det (fun val => (.int .i64 (((i : Nat) : Int)))), ⟨fun _ _ hv => rfl, fun _ _ _ _ _ => trivial⟩, fun val h_ W hx he => ⟨⟨45, rfl, rfl⟩, ?_⟩, ?_⟩
              · replace hx := (Upd.drew _ _).trans hx
                replace hl := hl.ext hx
                replace hm := hm.ext hx
                have hE := Upd.refl (fun _ => False) W
                refine id (X_move (v := (.int .i64 (((i : Nat) : Int)))) rfl ?_)
                exact ⟨hE, rfl⟩
              refine ⟨.det (fun val => (pof m ((((i : Nat) : Int) : Int).toNat * 8))), ⟨fun _ _ hv => rfl, fun _ _ _ _ _ => trivial⟩, fun val h_ W hx he => ⟨⟨45, rfl, rfl⟩, ?_⟩, ?_⟩
              · replace hx := (Upd.drew _ _).trans hx
                replace hl := hl.ext hx
                replace hm := hm.ext hx
                have hE := Upd.refl (fun _ => False) W
                refine id (X_idx (v := m) (n := fs.length) (k := .i64) (i := ((i : Nat) : Int)) S22 rfl hm.sv rfl (by omega) (by omega) ?_)
                exact ⟨hE, rfl⟩
              refine ⟨.det (fun val => (pof m ((((i : Nat) : Int) : Int).toNat * 8 + 2))), ⟨fun _ _ hv => rfl, fun _ _ _ _ _ => trivial⟩, fun val h_ W hx he => ⟨⟨45, rfl, rfl⟩, ?_⟩, ?_⟩
              · replace hx := (Upd.drew _ _).trans hx
                replace hl := hl.ext hx
                replace hm := hm.ext hx
                have hE := Upd.refl (fun _ => False) W
                refine id (X_fldS (v := m) (o := (((i : Nat) : Int) : Int).toNat * 8) Fd43_2 rfl hm.sv (by omega) ?_)
                exact ⟨hE, rfl⟩
              refine ⟨.det (fun val => (.agg (ptC b.2.2.2.2.1).toArray)), ⟨fun _ _ hv => rfl, fun _ _ _ _ _ => trivial⟩, fun val h_ W hx he => ⟨⟨45, rfl, rfl⟩, ?_⟩, ?_⟩
              · replace hx := (Upd.drew _ _).trans hx
                replace hl := hl.ext hx
                replace hm := hm.ext hx
                have hE := Upd.refl (fun _ => False) W
                refine id (X_loadA (xs := ptC b.2.2.2.2.1) A41 rfl (iover hm (Int.toNat_natCast _) hbi) rfl ?_)
                exact ⟨hE, rfl⟩
              refine ⟨.det (fun val => (.bool (false))), ⟨fun _ _ hv => rfl, fun _ _ _ _ _ => trivial⟩, fun val h_ W hx he => ⟨⟨45, rfl, rfl⟩, ?_⟩, ?_⟩
              · replace hx := (Upd.drew _ _).trans hx
                replace hl := hl.ext hx
                replace hm := hm.ext hx
                have hE := Upd.refl (fun _ => False) W
                refine id (X_eqP (p := a.2.2.2.2.1) (q := b.2.2.2.2.1) (r := false) Tryd.underlying41 u28 (by kernel_rfl) (by decide) ⟨rfl, rfl, rfl, rfl⟩ Tryd.underlying5 Tryd.underlying37 (by kernel_rfl) Tryd.underlying36 (ie := _) rfl (by kernel_rfl) Tryd.underlying38 Tryd.underlying39 (by kernel_rfl) rfl rfl (.inr ⟨rfl, by rw [hs14]; rfl⟩) ?_)
                exact ⟨hE, rfl⟩
              refine ⟨.det (fun val => (.bool (false))), ⟨fun _ _ hv => rfl, fun _ _ _ _ _ => trivial⟩, fun val h_ W hx he => ⟨trivial, ?_⟩, ?_⟩
              · replace hx := (Upd.drew _ _).trans hx
                replace hl := hl.ext hx
                replace hm := hm.ext hx
                have hE := Upd.refl (fun _ => False) W
                refine id (X_pick (t := false) (v := (.bool (false))) rfl rfl ?_)
                exact ⟨hE, rfl⟩
              refine ⟨.det (fun val => (.bool (false))), ⟨fun _ _ hv => rfl, fun _ _ _ _ _ => trivial⟩, fun val h_ W hx he => ⟨trivial, ?_⟩, ?_⟩
              · replace hx := (Upd.drew _ _).trans hx
                replace hl := hl.ext hx
                replace hm := hm.ext hx
                have hE := Upd.refl (fun _ => False) W
                refine id (X_move (v := (.bool (false))) rfl ?_)
                exact ⟨hE, rfl⟩
              refine ⟨.det (fun val => l), ⟨fun _ _ hv => rfl, fun _ _ _ _ _ => trivial⟩, fun val h_ W hx he => ⟨⟨58, rfl, rfl⟩, ?_⟩, ?_⟩
              · replace hx := (Upd.drew _ _).trans hx
                replace hl := hl.ext hx
                replace hm := hm.ext hx
                have hE := Upd.refl (fun _ => False) W
                refine id (X_move (v := l) rfl ?_)
                exact ⟨hE, rfl⟩
              refine ⟨.det (fun val => (.int .i64 (((i : Nat) : Int)))), ⟨fun _ _ hv => rfl, fun _ _ _ _ _ => trivial⟩, fun val h_ W hx he => ⟨⟨58, rfl, rfl⟩, ?_⟩, ?_⟩
              · replace hx := (Upd.drew _ _).trans hx
                replace hl := hl.ext hx
                replace hm := hm.ext hx
                have hE := Upd.refl (fun _ => False) W
                refine id (X_move (v := (.int .i64 (((i : Nat) : Int)))) rfl ?_)
                exact ⟨hE, rfl⟩
              refine ⟨.det (fun val => (pof l ((((i : Nat) : Int) : Int).toNat * 8))), ⟨fun _ _ hv => rfl, fun _ _ _ _ _ => trivial⟩, fun val h_ W hx he => ⟨⟨58, rfl, rfl⟩, ?_⟩, ?_⟩
              · replace hx := (Upd.drew _ _).trans hx
                replace hl := hl.ext hx
                replace hm := hm.ext hx
                have hE := Upd.refl (fun _ => False) W
                refine id (X_idx (v := l) (n := es.length) (k := .i64) (i := ((i : Nat) : Int)) S22 rfl hl.sv rfl (by omega) (by omega) ?_)
                exact ⟨hE, rfl⟩
              refine ⟨.det (fun val => (pof l ((((i : Nat) : Int) : Int).toNat * 8 + 7))), ⟨fun _ _ hv => rfl, fun _ _ _ _ _ => trivial⟩, fun val h_ W hx he => ⟨⟨58, rfl, rfl⟩, ?_⟩, ?_⟩
              · replace hx := (Upd.drew _ _).trans hx
                replace hl := hl.ext hx
                replace hm := hm.ext hx
                have hE := Upd.refl (fun _ => False) W
                refine id (X_fldS (v := l) (o := (((i : Nat) : Int) : Int).toNat * 8) Fd43_3 rfl hl.sv (by omega) ?_)
                exact ⟨hE, rfl⟩
              refine ⟨.det (fun val => (.int .u16 (a.2.2.2.2.2))), ⟨fun _ _ hv => rfl, fun _ _ _ _ _ => trivial⟩, fun val h_ W hx he => ⟨⟨58, rfl, rfl⟩, ?_⟩, ?_⟩
              · replace hx := (Upd.drew _ _).trans hx
                replace hl := hl.ext hx
                replace hm := hm.ext hx
                have hE := Upd.refl (fun _ => False) W
                refine id (X_load (v := .int .u16 a.2.2.2.2.2) T36 rfl (isize hl (Int.toNat_natCast _) hai) ?_)
                exact ⟨hE, rfl⟩
              refine ⟨.det (fun val => m), ⟨fun _ _ hv => rfl, fun _ _ _ _ _ => trivial⟩, fun val h_ W hx he => ⟨⟨58, rfl, rfl⟩, ?_⟩, ?_⟩
              · replace hx := (Upd.drew _ _).trans hx
                replace hl := hl.ext hx
                replace hm := hm.ext hx
                have hE := Upd.refl (fun _ => False) W
                refine id (X_move (v := m) rfl ?_)
                exact ⟨hE, rfl⟩
              refine ⟨.det (fun val => (.int .i64 (((i : Nat) : Int)))), ⟨fun _ _ hv => rfl, fun _ _ _ _ _ => trivial⟩, fun val h_ W hx he => ⟨⟨58, rfl, rfl⟩, ?_⟩, ?_⟩
              · replace hx := (Upd.drew _ _).trans hx
                replace hl := hl.ext hx
                replace hm := hm.ext hx
                have hE := Upd.refl (fun _ => False) W
                refine id (X_move (v := (.int .i64 (((i : Nat) : Int)))) rfl ?_)
                exact ⟨hE, rfl⟩
              refine ⟨.det (fun val => (pof m ((((i : Nat) : Int) : Int).toNat * 8))), ⟨fun _ _ hv => rfl, fun _ _ _ _ _ => trivial⟩, fun val h_ W hx he => ⟨⟨58, rfl, rfl⟩, ?_⟩, ?_⟩
              · replace hx := (Upd.drew _ _).trans hx
                replace hl := hl.ext hx
                replace hm := hm.ext hx
                have hE := Upd.refl (fun _ => False) W
                refine id (X_idx (v := m) (n := fs.length) (k := .i64) (i := ((i : Nat) : Int)) S22 rfl hm.sv rfl (by omega) (by omega) ?_)
                exact ⟨hE, rfl⟩
              refine ⟨.det (fun val => (pof m ((((i : Nat) : Int) : Int).toNat * 8 + 7))), ⟨fun _ _ hv => rfl, fun _ _ _ _ _ => trivial⟩, fun val h_ W hx he => ⟨⟨58, rfl, rfl⟩, ?_⟩, ?_⟩
              · replace hx := (Upd.drew _ _).trans hx
                replace hl := hl.ext hx
                replace hm := hm.ext hx
                have hE := Upd.refl (fun _ => False) W
                refine id (X_fldS (v := m) (o := (((i : Nat) : Int) : Int).toNat * 8) Fd43_3 rfl hm.sv (by omega) ?_)
                exact ⟨hE, rfl⟩
              refine ⟨.det (fun val => (.int .u16 (b.2.2.2.2.2))), ⟨fun _ _ hv => rfl, fun _ _ _ _ _ => trivial⟩, fun val h_ W hx he => ⟨⟨58, rfl, rfl⟩, ?_⟩, ?_⟩
              · replace hx := (Upd.drew _ _).trans hx
                replace hl := hl.ext hx
                replace hm := hm.ext hx
                have hE := Upd.refl (fun _ => False) W
                refine id (X_load (v := .int .u16 b.2.2.2.2.2) T36 rfl (isize hm (Int.toNat_natCast _) hbi) ?_)
                exact ⟨hE, rfl⟩
              intro val W21 hx21 he21
              replace hx21 := (Upd.drew _ _).trans hx21
              have hz21 := hx21.size
              replace hl := hl.ext hx21
              replace hm := hm.ext hx21
              replace hE := hE.trans (Ext.upd hx21)
              refine L_gy (dj := 58) rfl rfl rfl (X_cmp (k := .u16) (a := a.2.2.2.2.2) (b := b.2.2.2.2.2) (r := true) rfl rfl rfl (decide_eq_true (p := ((a.2.2.2.2.2) : Int) ≠ ((b.2.2.2.2.2) : Int)) (by omega)) ?_)
              refine L_op rfl (X_pick (t := false) (v := (.bool (true))) rfl rfl ?_)
              refine L_nil ?_
              refine T_n ?_
              refine W_ct rfl ?_
              refine W_seq ?_
              refine W_reg ?_
              refine L_op rfl (X_assign (v := (.bool (false))) rfl ?_)
              refine L_nil ?_
              refine T_n ?_
              refine W_ret ?_
              refine B_r ?_
              refine T_r ?_
              refine T_r ?_
              refine B_r ?_
              refine T_r ?_
              exact BQ_r (End_1 Tryd.results13 (v := .bool false) rfl ⟨⟨false, rfl, ⟨fun h => (by cases h), fun h => (by have h1 := same_no hai hbi h; exact (of_decide_eq_false hs15 (by rw [h1])).elim)⟩⟩, Ext.upd hE⟩)
          · refine W_draw 52 [[], [], [0, 1], [0, 1, 2], [0, 1, 2, 3], [0, 1, 2, 3, 4], [], [], [6, 7], [6, 7, 8], [6, 7, 8, 9], [6, 7, 8, 9, 10], [0, 1, 2, 3, 4, 5, 6, 7, 8, 9, 10, 11], [0, 1, 2, 3, 4, 5, 6, 7, 8, 9, 10, 11, 12], [0, 1, 2, 3, 4, 5, 6, 7, 8, 9, 10, 11, 12, 13], [0, 1, 2, 3, 4, 5, 6, 7, 8, 9, 10, 11, 12, 13], [0, 1, 2, 3, 4, 5, 6, 7, 8, 9, 10, 11, 12, 13, 14, 15], [0, 1, 2, 3, 4, 5, 6, 7, 8, 9, 10, 11, 12, 13, 14, 15, 16], [0, 1, 2, 3, 4, 5, 6, 7, 8, 9, 10, 11, 12, 13, 14, 15, 16, 17], [0, 1, 2, 3, 4, 5, 6, 7, 8, 9, 10, 11, 12, 13, 14, 15, 16, 17, 18], [0, 1, 2, 3, 4, 5, 6, 7, 8, 9, 10, 11, 12, 13], [0, 1, 2, 3, 4, 5, 6, 7, 8, 9, 10, 11, 12, 13], [0, 1, 2, 3, 4, 5, 6, 7, 8, 9, 10, 11, 12, 13, 20, 21], [0, 1, 2, 3, 4, 5, 6, 7, 8, 9, 10, 11, 12, 13, 20, 21, 22], [0, 1, 2, 3, 4, 5, 6, 7, 8, 9, 10, 11, 12, 13, 20, 21, 22, 23], [0, 1, 2, 3, 4, 5, 6, 7, 8, 9, 10, 11, 12, 13, 20, 21, 22, 23, 24], [0, 1, 2, 3, 4, 5, 6, 7, 8, 9, 10, 11, 12, 13, 14, 15, 16, 17, 18, 19, 20, 21, 22, 23, 24, 25], [0, 1, 2, 3, 4, 5, 6, 7, 8, 9, 10, 11, 12, 13, 14, 15, 16, 17, 18, 19, 20, 21, 22, 23, 24, 25, 26], [0, 1, 2, 3, 4, 5, 6, 7, 8, 9, 10, 11, 12, 13, 14, 15, 16, 17, 18, 19, 20, 21, 22, 23, 24, 25, 26, 27], [0, 1, 2, 3, 4, 5, 6, 7, 8, 9, 10, 11, 12, 13, 14, 15, 16, 17, 18, 19, 20, 21, 22, 23, 24, 25, 26, 27, 28], [0, 1, 2, 3, 4, 5, 6, 7, 8, 9, 10, 11, 12, 13, 14, 15, 16, 17, 18, 19, 20, 21, 22, 23, 24, 25, 26, 27, 28], [0, 1, 2, 3, 4, 5, 6, 7, 8, 9, 10, 11, 12, 13, 14, 15, 16, 17, 18, 19, 20, 21, 22, 23, 24, 25, 26, 27, 28, 29, 30], [0, 1, 2, 3, 4, 5, 6, 7, 8, 9, 10, 11, 12, 13, 14, 15, 16, 17, 18, 19, 20, 21, 22, 23, 24, 25, 26, 27, 28, 29, 30, 31], [0, 1, 2, 3, 4, 5, 6, 7, 8, 9, 10, 11, 12, 13, 14, 15, 16, 17, 18, 19, 20, 21, 22, 23, 24, 25, 26, 27, 28, 29, 30, 31, 32], [0, 1, 2, 3, 4, 5, 6, 7, 8, 9, 10, 11, 12, 13, 14, 15, 16, 17, 18, 19, 20, 21, 22, 23, 24, 25, 26, 27, 28], [0, 1, 2, 3, 4, 5, 6, 7, 8, 9, 10, 11, 12, 13, 14, 15, 16, 17, 18, 19, 20, 21, 22, 23, 24, 25, 26, 27, 28], [0, 1, 2, 3, 4, 5, 6, 7, 8, 9, 10, 11, 12, 13, 14, 15, 16, 17, 18, 19, 20, 21, 22, 23, 24, 25, 26, 27, 28, 34, 35], [0, 1, 2, 3, 4, 5, 6, 7, 8, 9, 10, 11, 12, 13, 14, 15, 16, 17, 18, 19, 20, 21, 22, 23, 24, 25, 26, 27, 28, 34, 35, 36], [0, 1, 2, 3, 4, 5, 6, 7, 8, 9, 10, 11, 12, 13, 14, 15, 16, 17, 18, 19, 20, 21, 22, 23, 24, 25, 26, 27, 28, 34, 35, 36, 37], [0, 1, 2, 3, 4, 5, 6, 7, 8, 9, 10, 11, 12, 13, 14, 15, 16, 17, 18, 19, 20, 21, 22, 23, 24, 25, 26, 27, 28, 29, 30, 31, 32, 33, 34, 35, 36, 37, 38], [0, 1, 2, 3, 4, 5, 6, 7, 8, 9, 10, 11, 12, 13, 14, 15, 16, 17, 18, 19, 20, 21, 22, 23, 24, 25, 26, 27, 28, 29, 30, 31, 32, 33, 34, 35, 36, 37, 38, 39], [0, 1, 2, 3, 4, 5, 6, 7, 8, 9, 10, 11, 12, 13, 14, 15, 16, 17, 18, 19, 20, 21, 22, 23, 24, 25, 26, 27, 28, 29, 30, 31, 32, 33, 34, 35, 36, 37, 38, 39, 40], [0, 1, 2, 3, 4, 5, 6, 7, 8, 9, 10, 11, 12, 13, 14, 15, 16, 17, 18, 19, 20, 21, 22, 23, 24, 25, 26, 27, 28, 29, 30, 31, 32, 33, 34, 35, 36, 37, 38, 39, 40, 41], [0, 1, 2, 3, 4, 5, 6, 7, 8, 9, 10, 11, 12, 13, 14, 15, 16, 17, 18, 19, 20, 21, 22, 23, 24, 25, 26, 27, 28, 29, 30, 31, 32, 33, 34, 35, 36, 37, 38, 39, 40, 41], [0, 1, 2, 3, 4, 5, 6, 7, 8, 9, 10, 11, 12, 13, 14, 15, 16, 17, 18, 19, 20, 21, 22, 23, 24, 25, 26, 27, 28, 29, 30, 31, 32, 33, 34, 35, 36, 37, 38, 39, 40, 41, 42, 43], [0, 1, 2, 3, 4, 5, 6, 7, 8, 9, 10, 11, 12, 13, 14, 15, 16, 17, 18, 19, 20, 21, 22, 23, 24, 25, 26, 27, 28, 29, 30, 31, 32, 33, 34, 35, 36, 37, 38, 39, 40, 41, 42, 43, 44], [0, 1, 2, 3, 4, 5, 6, 7, 8, 9, 10, 11, 12, 13, 14, 15, 16, 17, 18, 19, 20, 21, 22, 23, 24, 25, 26, 27, 28, 29, 30, 31, 32, 33, 34, 35, 36, 37, 38, 39, 40, 41, 42, 43, 44, 45], [0, 1, 2, 3, 4, 5, 6, 7, 8, 9, 10, 11, 12, 13, 14, 15, 16, 17, 18, 19, 20, 21, 22, 23, 24, 25, 26, 27, 28, 29, 30, 31, 32, 33, 34, 35, 36, 37, 38, 39, 40, 41], [0, 1, 2, 3, 4, 5, 6, 7, 8, 9, 10, 11, 12, 13, 14, 15, 16, 17, 18, 19, 20, 21, 22, 23, 24, 25, 26, 27, 28, 29, 30, 31, 32, 33, 34, 35, 36, 37, 38, 39, 40, 41], [0, 1, 2, 3, 4, 5, 6, 7, 8, 9, 10, 11, 12, 13, 14, 15, 16, 17, 18, 19, 20, 21, 22, 23, 24, 25, 26, 27, 28, 29, 30, 31, 32, 33, 34, 35, 36, 37, 38, 39, 40, 41, 47, 48], [0, 1, 2, 3, 4, 5, 6, 7, 8, 9, 10, 11, 12, 13, 14, 15, 16, 17, 18, 19, 20, 21, 22, 23, 24, 25, 26, 27, 28, 29, 30, 31, 32, 33, 34, 35, 36, 37, 38, 39, 40, 41, 47, 48, 49], [0, 1, 2, 3, 4, 5, 6, 7, 8, 9, 10, 11, 12, 13, 14, 15, 16, 17, 18, 19, 20, 21, 22, 23, 24, 25, 26, 27, 28, 29, 30, 31, 32, 33, 34, 35, 36, 37, 38, 39, 40, 41, 47, 48, 49, 50], [0, 1, 2, 3, 4, 5, 6, 7, 8, 9, 10, 11, 12, 13, 14, 15, 16, 17, 18, 19, 20, 21, 22, 23, 24, 25, 26, 27, 28, 29, 30, 31, 32, 33, 34, 35, 36, 37, 38, 39, 40, 41, 42, 43, 44, 45, 46, 47, 48, 49, 50, 51], [0, 1, 2, 3, 4, 5, 6, 7, 8, 9, 10, 11, 12, 13, 14, 15, 16, 17, 18, 19, 20, 21, 22, 23, 24, 25, 26, 27, 28, 29, 30, 31, 32, 33, 34, 35, 36, 37, 38, 39, 40, 41, 42, 43, 44, 45, 46, 47, 48, 49, 50, 51, 52]] mixed (by kernel_rfl) ?_
            refine ⟨.det (fun val => l), ⟨fun _ _ hv => rfl, fun _ _ _ _ _ => trivial⟩, fun val h_ W hx he => ⟨trivial, ?_⟩, ?_⟩
            · replace hx := (Upd.drew _ _).trans hx
              replace hl := hl.ext hx
              replace hm := hm.ext hx
              have hE := Upd.refl (fun _ => False) W
              refine id (X_move (v := l) rfl ?_)
              exact ⟨hE, rfl⟩
            refine ⟨.det (fun val => (.int .i64 (((i : Nat) : Int)))), ⟨fun _ _ hv => rfl, fun _ _ _ _ _ => trivial⟩, fun val h_ W hx he => ⟨trivial, ?_⟩, ?_⟩
            · replace hx := (Upd.drew _ _).trans hx
              replace hl := hl.ext hx
              replace hm := hm.ext hx
              have hE := Upd.refl (fun _ => False) W
              refine id (X_move (v := (.int .i64 (((i : Nat) : Int)))) rfl ?_)
              exact ⟨hE, rfl⟩
            refine ⟨.det (fun val => (pof l ((((i : Nat) : Int) : Int).toNat * 8))), ⟨fun _ _ hv => rfl, fun _ _ _ _ _ => trivial⟩, fun val h_ W hx he => ⟨trivial, ?_⟩, ?_⟩
            · replace hx := (Upd.drew _ _).trans hx
              replace hl := hl.ext hx
              replace hm := hm.ext hx
              have hE := Upd.refl (fun _ => False) W
              refine id (X_idx (v := l) (n := es.length) (k := .i64) (i := ((i : Nat) : Int)) S22 rfl hl.sv rfl (by omega) (by omega) ?_)
              exact ⟨hE, rfl⟩
            refine ⟨.det (fun val => (pof l ((((i : Nat) : Int) : Int).toNat * 8 + 0))), ⟨fun _ _ hv => rfl, fun _ _ _ _ _ => trivial⟩, fun val h_ W hx he => ⟨trivial, ?_⟩, ?_⟩
            · replace hx := (Upd.drew _ _).trans hx
              replace hl := hl.ext hx
              replace hm := hm.ext hx
              have hE := Upd.refl (fun _ => False) W
              refine id (X_fldS (v := l) (o := (((i : Nat) : Int) : Int).toNat * 8) Fd43_0 rfl hl.sv (by omega) ?_)
              exact ⟨hE, rfl⟩
            refine ⟨.det (fun val => a.1), ⟨fun _ _ hv => rfl, fun _ _ _ _ _ => trivial⟩, fun val h_ W hx he => ⟨trivial, ?_⟩, ?_⟩
            · replace hx := (Upd.drew _ _).trans hx
              replace hl := hl.ext hx
              replace hm := hm.ext hx
              have hE := Upd.refl (fun _ => False) W
              refine id (X_load (v := a.1) T35 rfl (ikey hl (Int.toNat_natCast _) hai) ?_)
              exact ⟨hE, rfl⟩
            refine ⟨.det (fun val => (strV (a.2.2.1))), ⟨fun _ _ hv => rfl, fun _ _ _ _ _ => trivial⟩, fun val h_ W hx he => ⟨trivial, ?_⟩, ?_⟩
            · replace hx := (Upd.drew _ _).trans hx
              replace hl := hl.ext hx
              replace hm := hm.ext hx
              have hE := Upd.refl (fun _ => False) W
              refine id (X_str (v := a.1) (l := a.2.2.1) Tryd.underlying35 Tryd.underlying5 Tryd.underlying9 rfl (irdk hl hai) ?_)
              exact ⟨hE, rfl⟩
            refine ⟨.det (fun val => m), ⟨fun _ _ hv => rfl, fun _ _ _ _ _ => trivial⟩, fun val h_ W hx he => ⟨trivial, ?_⟩, ?_⟩
            · replace hx := (Upd.drew _ _).trans hx
              replace hl := hl.ext hx
              replace hm := hm.ext hx
              have hE := Upd.refl (fun _ => False) W
              refine id (X_move (v := m) rfl ?_)
              exact ⟨hE, rfl⟩
            refine ⟨.det (fun val => (.int .i64 (((i : Nat) : Int)))), ⟨fun _ _ hv => rfl, fun _ _ _ _ _ => trivial⟩, fun val h_ W hx he => ⟨trivial, ?_⟩, ?_⟩
            · replace hx := (Upd.drew _ _).trans hx
              replace hl := hl.ext hx
              replace hm := hm.ext hx
              have hE := Upd.refl (fun _ => False) W
              refine id (X_move (v := (.int .i64 (((i : Nat) : Int)))) rfl ?_)
              exact ⟨hE, rfl⟩
            refine ⟨.det (fun val => (pof m ((((i : Nat) : Int) : Int).toNat * 8))), ⟨fun _ _ hv => rfl, fun _ _ _ _ _ => trivial⟩, fun val h_ W hx he => ⟨trivial, ?_⟩, ?_⟩
            · replace hx := (Upd.drew _ _).trans hx
              replace hl := hl.ext hx
              replace hm := hm.ext hx
              have hE := Upd.refl (fun _ => False) W
              refine id (X_idx (v := m) (n := fs.length) (k := .i64) (i := ((i : Nat) : Int)) S22 rfl hm.sv rfl (by omega) (by omega) ?_)
              exact ⟨hE, rfl⟩
            refine ⟨.det (fun val => (pof m ((((i : Nat) : Int) : Int).toNat * 8 + 0))), ⟨fun _ _ hv => rfl, fun _ _ _ _ _ => trivial⟩, fun val h_ W hx he => ⟨trivial, ?_⟩, ?_⟩
            · replace hx := (Upd.drew _ _).trans hx
              replace hl := hl.ext hx
              replace hm := hm.ext hx
              have hE := Upd.refl (fun _ => False) W
              refine id (X_fldS (v := m) (o := (((i : Nat) : Int) : Int).toNat * 8) Fd43_0 rfl hm.sv (by omega) ?_)
              exact ⟨hE, rfl⟩
            refine ⟨.det (fun val => b.1), ⟨fun _ _ hv => rfl, fun _ _ _ _ _ => trivial⟩, fun val h_ W hx he => ⟨trivial, ?_⟩, ?_⟩
            · replace hx := (Upd.drew _ _).trans hx
              replace hl := hl.ext hx
              replace hm := hm.ext hx
              have hE := Upd.refl (fun _ => False) W
              refine id (X_load (v := b.1) T35 rfl (ikey hm (Int.toNat_natCast _) hbi) ?_)
              exact ⟨hE, rfl⟩
            refine ⟨.det (fun val => (strV (b.2.2.1))), ⟨fun _ _ hv => rfl, fun _ _ _ _ _ => trivial⟩, fun val h_ W hx he => ⟨trivial, ?_⟩, ?_⟩
            · replace hx := (Upd.drew _ _).trans hx
              replace hl := hl.ext hx
              replace hm := hm.ext hx
              have hE := Upd.refl (fun _ => False) W
              refine id (X_str (v := b.1) (l := b.2.2.1) Tryd.underlying35 Tryd.underlying5 Tryd.underlying9 rfl (irdk hm hbi) ?_)
              exact ⟨hE, rfl⟩
            refine ⟨.det (fun val => (.bool (false))), ⟨fun _ _ hv => rfl, fun _ _ _ _ _ => trivial⟩, fun val h_ W hx he => ⟨trivial, ?_⟩, ?_⟩
            · replace hx := (Upd.drew _ _).trans hx
              replace hl := hl.ext hx
              replace hm := hm.ext hx
              have hE := Upd.refl (fun _ => False) W
              refine id (X_scmp (a := a.2.2.1) (b := b.2.2.1) (r := false) rfl rfl rfl hs4 ?_)
              exact ⟨hE, rfl⟩
            refine ⟨.det (fun val => (.bool (false))), ⟨fun _ _ hv => rfl, fun _ _ _ _ _ => trivial⟩, fun val h_ W hx he => ⟨trivial, ?_⟩, ?_⟩
            · replace hx := (Upd.drew _ _).trans hx
              replace hl := hl.ext hx
              replace hm := hm.ext hx
              have hE := Upd.refl (fun _ => False) W
              refine id (X_move (v := (.bool (false))) rfl ?_)
              exact ⟨hE, rfl⟩
            refine ⟨.det (fun val => l), ⟨fun _ _ hv => rfl, fun _ _ _ _ _ => trivial⟩, fun val h_ W hx he => ⟨⟨30, rfl, rfl⟩, ?_⟩, ?_⟩
            · replace hx := (Upd.drew _ _).trans hx
              replace hl := hl.ext hx
              replace hm := hm.ext hx
              have hE := Upd.refl (fun _ => False) W
              refine id (X_move (v := l) rfl ?_)
              exact ⟨hE, rfl⟩
            refine ⟨.det (fun val => (.int .i64 (((i : Nat) : Int)))), ⟨fun _ _ hv => rfl, fun _ _ _ _ _ => trivial⟩, fun val h_ W hx he => ⟨⟨30, rfl, rfl⟩, ?_⟩, ?_⟩
            · replace hx := (Upd.drew _ _).trans hx
              replace hl := hl.ext hx
              replace hm := hm.ext hx
              have hE := Upd.refl (fun _ => False) W
              refine id (X_move (v := (.int .i64 (((i : Nat) : Int)))) rfl ?_)
              exact ⟨hE, rfl⟩
            refine ⟨.det (fun val => (pof l ((((i : Nat) : Int) : Int).toNat * 8))), ⟨fun _ _ hv => rfl, fun _ _ _ _ _ => trivial⟩, fun val h_ W hx he => ⟨⟨30, rfl, rfl⟩, ?_⟩, ?_⟩
            · replace hx := (Upd.drew _ _).trans hx
              replace hl := hl.ext hx
              replace hm := hm.ext hx
              have hE := Upd.refl (fun _ => False) W
              refine id (X_idx (v := l) (n := es.length) (k := .i64) (i := ((i : Nat) : Int)) S22 rfl hl.sv rfl (by omega) (by omega) ?_)
              exact ⟨hE, rfl⟩
            refine ⟨.det (fun val => (pof l ((((i : Nat) : Int) : Int).toNat * 8 + 1))), ⟨fun _ _ hv => rfl, fun _ _ _ _ _ => trivial⟩, fun val h_ W hx he => ⟨⟨30, rfl, rfl⟩, ?_⟩, ?_⟩
            · replace hx := (Upd.drew _ _).trans hx
              replace hl := hl.ext hx
              replace hm := hm.ext hx
              have hE := Upd.refl (fun _ => False) W
              refine id (X_fldS (v := l) (o := (((i : Nat) : Int) : Int).toNat * 8) Fd43_1 rfl hl.sv (by omega) ?_)
              exact ⟨hE, rfl⟩
            refine ⟨.det (fun val => a.2.1), ⟨fun _ _ hv => rfl, fun _ _ _ _ _ => trivial⟩, fun val h_ W hx he => ⟨⟨30, rfl, rfl⟩, ?_⟩, ?_⟩
            · replace hx := (Upd.drew _ _).trans hx
              replace hl := hl.ext hx
              replace hm := hm.ext hx
              have hE := Upd.refl (fun _ => False) W
              refine id (X_load (v := a.2.1) T35 rfl (ival hl (Int.toNat_natCast _) hai) ?_)
              exact ⟨hE, rfl⟩
            refine ⟨.det (fun val => (strV (a.2.2.2.1))), ⟨fun _ _ hv => rfl, fun _ _ _ _ _ => trivial⟩, fun val h_ W hx he => ⟨⟨30, rfl, rfl⟩, ?_⟩, ?_⟩
            · replace hx := (Upd.drew _ _).trans hx
              replace hl := hl.ext hx
              replace hm := hm.ext hx
              have hE := Upd.refl (fun _ => False) W
              refine id (X_str (v := a.2.1) (l := a.2.2.2.1) Tryd.underlying35 Tryd.underlying5 Tryd.underlying9 rfl (irdv hl hai) ?_)
              exact ⟨hE, rfl⟩
            refine ⟨.det (fun val => m), ⟨fun _ _ hv => rfl, fun _ _ _ _ _ => trivial⟩, fun val h_ W hx he => ⟨⟨30, rfl, rfl⟩, ?_⟩, ?_⟩
            · replace hx := (Upd.drew _ _).trans hx
              replace hl := hl.ext hx
              replace hm := hm.ext hx
              have hE := Upd.refl (fun _ => False) W
              refine id (X_move (v := m) rfl ?_)
              exact ⟨hE, rfl⟩
            refine ⟨.det (fun val => (.int .i64 (((i : Nat) : Int)))), ⟨fun _ _ hv => rfl, fun _ _ _ _ _ => trivial⟩, fun val h_ W hx he => ⟨⟨30, rfl, rfl⟩, ?_⟩, ?_⟩
            · replace hx := (Upd.drew _ _).trans hx
              replace hl := hl.ext hx
              replace hm := hm.ext hx
              have hE := Upd.refl (fun _ => False) W
              refine id (X_move (v := (.int .i64 (((i : Nat) : Int)))) rfl ?_)
              exact ⟨hE, rfl⟩
            refine ⟨.det (fun val => (pof m ((((i : Nat) : Int) : Int).toNat * 8))), ⟨fun _ _ hv => rfl, fun _ _ _ _ _ => trivial⟩, fun val h_ W hx he => ⟨⟨30, rfl, rfl⟩, ?_⟩, ?_⟩
            · replace hx := (Upd.drew _ _).trans hx
              replace hl := hl.ext hx
              replace hm := hm.ext hx
              have hE := Upd.refl (fun _ => False) W
              refine id (X_idx (v := m) (n := fs.length) (k := .i64) (i := ((i : Nat) : Int)) S22 rfl hm.sv rfl (by omega) (by omega) ?_)
              exact ⟨hE, rfl⟩
            refine ⟨.det (fun val => (pof m ((((i : Nat) : Int) : Int).toNat * 8 + 1))), ⟨fun _ _ hv => rfl, fun _ _ _ _ _ => trivial⟩, fun val h_ W hx he => ⟨⟨30, rfl, rfl⟩, ?_⟩, ?_⟩
            · replace hx := (Upd.drew _ _).trans hx
              replace hl := hl.ext hx
              replace hm := hm.ext hx
              have hE := Upd.refl (fun _ => False) W
              refine id (X_fldS (v := m) (o := (((i : Nat) : Int) : Int).toNat * 8) Fd43_1 rfl hm.sv (by omega) ?_)
              exact ⟨hE, rfl⟩
            refine ⟨.det (fun val => b.2.1), ⟨fun _ _ hv => rfl, fun _ _ _ _ _ => trivial⟩, fun val h_ W hx he => ⟨⟨30, rfl, rfl⟩, ?_⟩, ?_⟩
            · replace hx := (Upd.drew _ _).trans hx
              replace hl := hl.ext hx
              replace hm := hm.ext hx
              have hE := Upd.refl (fun _ => False) W
              refine id (X_load (v := b.2.1) T35 rfl (ival hm (Int.toNat_natCast _) hbi) ?_)
              exact ⟨hE, rfl⟩
            refine ⟨.det (fun val => (strV (b.2.2.2.1))), ⟨fun _ _ hv => rfl, fun _ _ _ _ _ => trivial⟩, fun val h_ W hx he => ⟨⟨30, rfl, rfl⟩, ?_⟩, ?_⟩
            · replace hx := (Upd.drew _ _).trans hx
              replace hl := hl.ext hx
              replace hm := hm.ext hx
              have hE := Upd.refl (fun _ => False) W
              refine id (X_str (v := b.2.1) (l := b.2.2.2.1) Tryd.underlying35 Tryd.underlying5 Tryd.underlying9 rfl (irdv hm hbi) ?_)
              exact ⟨hE, rfl⟩
            refine ⟨.det (fun val => (.bool (false))), ⟨fun _ _ hv => rfl, fun _ _ _ _ _ => trivial⟩, fun val h_ W hx he => ⟨⟨30, rfl, rfl⟩, ?_⟩, ?_⟩
            · replace hx := (Upd.drew _ _).trans hx
              replace hl := hl.ext hx
              replace hm := hm.ext hx
              have hE := Upd.refl (fun _ => False) W
              refine id (X_scmp (a := a.2.2.2.1) (b := b.2.2.2.1) (r := false) rfl rfl rfl hs8 ?_)
              exact ⟨hE, rfl⟩
            refine ⟨.det (fun val => (.bool (false))), ⟨fun _ _ hv => rfl, fun _ _ _ _ _ => trivial⟩, fun val h_ W hx he => ⟨trivial, ?_⟩, ?_⟩
            · replace hx := (Upd.drew _ _).trans hx
              replace hl := hl.ext hx
              replace hm := hm.ext hx
              have hE := Upd.refl (fun _ => False) W
              refine id (X_pick (t := false) (v := (.bool (false))) rfl rfl ?_)
              exact ⟨hE, rfl⟩
            refine ⟨.det (fun val => (.bool (false))), ⟨fun _ _ hv => rfl, fun _ _ _ _ _ => trivial⟩, fun val h_ W hx he => ⟨trivial, ?_⟩, ?_⟩
            · replace hx := (Upd.drew _ _).trans hx
              replace hl := hl.ext hx
              replace hm := hm.ext hx
              have hE := Upd.refl (fun _ => False) W
              refine id (X_move (v := (.bool (false))) rfl ?_)
              exact ⟨hE, rfl⟩
            refine ⟨.det (fun val => l), ⟨fun _ _ hv => rfl, fun _ _ _ _ _ => trivial⟩, fun val h_ W hx he => ⟨⟨45, rfl, rfl⟩, ?_⟩, ?_⟩
            · replace hx := (Upd.drew _ _).trans hx
              replace hl := hl.ext hx
              replace hm := hm.ext hx
              have hE := Upd.refl (fun _ => False) W
              refine id (X_move (v := l) rfl ?_)
              exact ⟨hE, rfl⟩
            refine ⟨.det (fun val => (.int .i64 (((i : Nat) : Int)))), ⟨fun _ _ hv => rfl, fun _ _ _ _ _ => trivial⟩, fun val h_ W hx he => ⟨⟨45, rfl, rfl⟩, ?_⟩, ?_⟩
            · replace hx := (Upd.drew _ _).trans hx
              replace hl := hl.ext hx
              replace hm := hm.ext hx
              have hE := Upd.refl (fun _ => False) W
              refine id (X_move (v := (.int .i64 (((i : Nat) : Int)))) rfl ?_)
              exact ⟨hE, rfl⟩
            refine ⟨.det (fun val => (pof l ((((i : Nat) : Int) : Int).toNat * 8))), ⟨fun _ _ hv => rfl, fun _ _ _ _ _ => trivial⟩, fun val h_ W hx he => ⟨⟨45, rfl, rfl⟩, ?_⟩, ?_⟩
            · replace hx := (Upd.drew _ _).trans hx
              replace hl := hl.ext hx
              replace hm := hm.ext hx
              have hE := Upd.refl (fun _ => False) W
              refine id (X_idx (v := l) (n := es.length) (k := .i64) (i := ((i : Nat) : Int)) S22 rfl hl.sv rfl (by omega) (by omega) ?_)
              exact ⟨hE, rfl⟩
            refine ⟨.det (fun val => (pof l ((((i : Nat) : Int) : Int).toNat * 8 + 2))), ⟨fun _ _ hv => rfl, fun _ _ _ _ _ => trivial⟩, fun val h_ W hx he => ⟨⟨45, rfl, rfl⟩, ?_⟩, ?_⟩
            · replace hx := (Upd.drew _ _).trans hx
              replace hl := hl.ext hx
              replace hm := hm.ext hx
              have hE := Upd.refl (fun _ => False) W
              refine id (X_fldS (v := l) (o := (((i : Nat) : Int) : Int).toNat * 8) Fd43_2 rfl hl.sv (by omega) ?_)
              exact ⟨hE, rfl⟩
            refine ⟨.det (fun val => (.agg (ptC a.2.2.2.2.1).toArray)), ⟨fun _ _ hv => rfl, fun _ _ _ _ _ => trivial⟩, fun val h_ W hx he => ⟨⟨45, rfl, rfl⟩, ?_⟩, ?_⟩
            · replace hx := (Upd.drew _ _).trans hx
              replace hl := hl.ext hx
              replace hm := hm.ext hx
              have hE := Upd.refl (fun _ => False) W
              refine id (X_loadA (xs := ptC a.2.2.2.2.1) A41 rfl (iover hl (Int.toNat_natCast _) hai) rfl ?_)
              exact ⟨hE, rfl⟩
            refine ⟨.det (fun val => m), ⟨fun _ _ hv => rfl, fun _ _ _ _ _ => trivial⟩, fun val h_ W hx he => ⟨⟨45, rfl, rfl⟩, ?_⟩, ?_⟩
            · replace hx := (Upd.drew _ _).trans hx
              replace hl := hl.ext hx
              replace hm := hm.ext hx
              have hE := Upd.refl (fun _ => False) W
              refine id (X_move (v := m) rfl ?_)
              exact ⟨hE, rfl⟩
            refine ⟨.det (fun val => (.int .i64 (((i : Nat) : Int)))), ⟨fun _ _ hv => rfl, fun _ _ _ _ _ => trivial⟩, fun val h_ W hx he => ⟨⟨45, rfl, rfl⟩, ?_⟩, ?_⟩
            · replace hx := (Upd.drew _ _).trans hx
              replace hl := hl.ext hx
              replace hm := hm.ext hx
              have hE := Upd.refl (fun _ => False) W
              refine id (X_move (v := (.int .i64 (((i : Nat) : Int)))) rfl ?_)
              exact ⟨hE, rfl⟩
            refine ⟨.det (fun val => (pof m ((((i : Nat) : Int) : Int).toNat * 8))), ⟨fun _ _ hv => rfl, fun _ _ _ _ _ => trivial⟩, fun val h_ W hx he => ⟨⟨45, rfl, rfl⟩, ?_⟩, ?_⟩
            · replace hx := (Upd.drew _ _).trans hx
              replace hl := hl.ext hx
              replace hm := hm.ext hx
              have hE := Upd.refl (fun _ => False) W
              refine id (X_idx (v := m) (n := fs.length) (k := .i64) (i := ((i : Nat) : Int)) S22 rfl hm.sv rfl (by omega) (by omega) ?_)
              exact ⟨hE, rfl⟩
            refine ⟨.det (fun val => (pof m ((((i : Nat) : Int) : Int).toNat * 8 + 2))), ⟨fun _ _ hv => rfl, fun _ _ _ _ _ => trivial⟩, fun val h_ W hx he => ⟨⟨45, rfl, rfl⟩, ?_⟩, ?_⟩
            · replace hx := (Upd.drew _ _).trans hx
              replace hl := hl.ext hx
              replace hm := hm.ext hx
              have hE := Upd.refl (fun _ => False) W
              refine id (X_fldS (v := m) (o := (((i : Nat) : Int) : Int).toNat * 8) Fd43_2 rfl hm.sv (by omega) ?_)
              exact ⟨hE, rfl⟩
            refine ⟨.det (fun val => (.agg (ptC b.2.2.2.2.1).toArray)), ⟨fun _ _ hv => rfl, fun _ _ _ _ _ => trivial⟩, fun val h_ W hx he => ⟨⟨45, rfl, rfl⟩, ?_⟩, ?_⟩
            · replace hx := (Upd.drew _ _).trans hx
              replace hl := hl.ext hx
              replace hm := hm.ext hx
              have hE := Upd.refl (fun _ => False) W
              refine id (X_loadA (xs := ptC b.2.2.2.2.1) A41 rfl (iover hm (Int.toNat_natCast _) hbi) rfl ?_)
              exact ⟨hE, rfl⟩
            refine ⟨.det (fun val => (.bool (true))), ⟨fun _ _ hv => rfl, fun _ _ _ _ _ => trivial⟩, fun val h_ W hx he => ⟨⟨45, rfl, rfl⟩, ?_⟩, ?_⟩
            · replace hx := (Upd.drew _ _).trans hx
              replace hl := hl.ext hx
              replace hm := hm.ext hx
              have hE := Upd.refl (fun _ => False) W
              refine id (X_eqP (p := a.2.2.2.2.1) (q := b.2.2.2.2.1) (r := true) Tryd.underlying41 u28 (by kernel_rfl) (by decide) ⟨rfl, rfl, rfl, rfl⟩ Tryd.underlying5 Tryd.underlying37 (by kernel_rfl) Tryd.underlying36 (ie := _) rfl (by kernel_rfl) Tryd.underlying38 Tryd.underlying39 (by kernel_rfl) rfl rfl (.inr ⟨rfl, by rw [hs14]; rfl⟩) ?_)
              exact ⟨hE, rfl⟩
            refine ⟨.det (fun val => (.bool (true))), ⟨fun _ _ hv => rfl, fun _ _ _ _ _ => trivial⟩, fun val h_ W hx he => ⟨trivial, ?_⟩, ?_⟩
            · replace hx := (Upd.drew _ _).trans hx
              replace hl := hl.ext hx
              replace hm := hm.ext hx
              have hE := Upd.refl (fun _ => False) W
              refine id (X_pick (t := false) (v := (.bool (true))) rfl rfl ?_)
              exact ⟨hE, rfl⟩
            refine ⟨.det (fun val => (.bool (true))), ⟨fun _ _ hv => rfl, fun _ _ _ _ _ => trivial⟩, fun val h_ W hx he => ⟨trivial, ?_⟩, ?_⟩
            · replace hx := (Upd.drew _ _).trans hx
              replace hl := hl.ext hx
              replace hm := hm.ext hx
              have hE := Upd.refl (fun _ => False) W
              refine id (X_move (v := (.bool (true))) rfl ?_)
              exact ⟨hE, rfl⟩
            refine ⟨.no, ⟨fun _ _ _ => trivial, fun _ _ _ _ _ => trivial⟩, fun val h_ W hx he => ⟨58, rfl, .inl rfl⟩, ?_⟩
            refine ⟨.no, ⟨fun _ _ _ => trivial, fun _ _ _ _ _ => trivial⟩, fun val h_ W hx he => ⟨58, rfl, .inl rfl⟩, ?_⟩
            refine ⟨.no, ⟨fun _ _ _ => trivial, fun _ _ _ _ _ => trivial⟩, fun val h_ W hx he => ⟨58, rfl, .inl rfl⟩, ?_⟩
            refine ⟨.no, ⟨fun _ _ _ => trivial, fun _ _ _ _ _ => trivial⟩, fun val h_ W hx he => ⟨58, rfl, .inl rfl⟩, ?_⟩
            refine ⟨.no, ⟨fun _ _ _ => trivial, fun _ _ _ _ _ => trivial⟩, fun val h_ W hx he => ⟨58, rfl, .inl rfl⟩, ?_⟩
            refine ⟨.no, ⟨fun _ _ _ => trivial, fun _ _ _ _ _ => trivial⟩, fun val h_ W hx he => ⟨58, rfl, .inl rfl⟩, ?_⟩
            refine ⟨.no, ⟨fun _ _ _ => trivial, fun _ _ _ _ _ => trivial⟩, fun val h_ W hx he => ⟨58, rfl, .inl rfl⟩, ?_⟩
            refine ⟨.no, ⟨fun _ _ _ => trivial, fun _ _ _ _ _ => trivial⟩, fun val h_ W hx he => ⟨58, rfl, .inl rfl⟩, ?_⟩
            refine ⟨.no, ⟨fun _ _ _ => trivial, fun _ _ _ _ _ => trivial⟩, fun val h_ W hx he => ⟨58, rfl, .inl rfl⟩, ?_⟩
            refine ⟨.no, ⟨fun _ _ _ => trivial, fun _ _ _ _ _ => trivial⟩, fun val h_ W hx he => ⟨58, rfl, .inl rfl⟩, ?_⟩
            intro val W26 hx26 he26
            replace hx26 := (Upd.drew _ _).trans hx26
            have hz26 := hx26.size
            replace hl := hl.ext hx26
            replace hm := hm.ext hx26
            replace hE := hE.trans (Ext.upd hx26)
            refine L_gn (dj := 58) (t := true) rfl rfl rfl rfl ?_
            refine L_op rfl (X_pick (t := true) (v := (.bool (true))) rfl rfl ?_)
            refine L_nil ?_
            refine T_n ?_
            refine W_ct rfl ?_
            refine W_seq ?_
            refine W_reg ?_
            refine L_op rfl (X_assign (v := (.bool (false))) rfl ?_)
            refine L_nil ?_
            refine T_n ?_
            refine W_ret ?_
            refine B_r ?_
            refine T_r ?_
            refine T_r ?_
            refine B_r ?_
            refine T_r ?_
            exact BQ_r (End_1 Tryd.results13 (v := .bool false) rfl ⟨⟨false, rfl, ⟨fun h => (by cases h), fun h => (by have h1 := same_no hai hbi h; exact (ne_of_beq_false hs14 (by rw [h1])).elim)⟩⟩, Ext.upd hE⟩)
    · refine L_op rfl (X_cmp (k := .i64) (a := ((i : Nat) : Int)) (b := ((es.length : Nat) : Int)) (r := false) rfl rfl rfl (decide_eq_false (p := ((((i : Nat) : Int)) : Int) < ((((es.length : Nat) : Int)) : Int)) (by omega)) ?_)
      refine L_nil ?_
      refine T_n ?_
      refine W_cf rfl ?_
      refine W_exit ?_
      refine T_e ?_
      refine T_e ?_
      refine B_x ?_
      refine T_n ?_
      refine W_seq ?_
      refine W_reg ?_
      refine L_op rfl (X_assign (v := (.bool (true))) rfl ?_)
      refine L_nil ?_
      refine T_n ?_
      refine W_ret ?_
      exact BQ_r (End_1 Tryd.results13 (v := .bool true) rfl ⟨⟨true, rfl, ⟨fun _ => same_all hz (by omega) (by omega), fun _ => rfl⟩⟩, Ext.upd hE⟩)
end Go.Proofs.YtmddmghgkkjbiaaDoor
