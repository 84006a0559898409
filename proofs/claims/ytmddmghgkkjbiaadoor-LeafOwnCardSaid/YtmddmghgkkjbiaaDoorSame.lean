/-
  The contracts of leaves: Same. (Printed by wip/gen/t06o.py of this repo.)
-/
import Derived.Test.YtmddmghgkkjbiaaDoorWakes
import Derived.Test.YtmddmghgkkjbiaaDoorBaseS
namespace Go.Proofs.YtmddmghgkkjbiaaDoor
open Go Go.SL Go.Proofs
set_option linter.unusedVariables false

theorem c_beq (a b : Value) (l m : List UInt8) (w : World) (ha : Rd w 1 a l.length (l.map byteV)) (hb : Rd w 1 b m.length (m.map byteV)) : CT Tryd.prog 31 #[a, b] w fun v w' => v = .bool (l == m) ∧ w = w' := by
  refine CT_of Tryd.func31 rfl rfl rfl ?_
  refine W_seq ?_
  refine W_reg ?_
  refine L_op rfl (X_assign (v := (.bool (false))) rfl ?_)
  refine L_nil ?_
  refine T_n ?_
  refine W_seq ?_
  refine W_reg ?_
  refine L_op rfl (X_move (v := a) rfl ?_)
  refine L_op rfl (X_str (v := a) (l := l) Tryd.underlying35 Tryd.underlying5 Tryd.underlying9 rfl ha ?_)
  refine L_op rfl (X_move (v := b) rfl ?_)
  refine L_op rfl (X_str (v := b) (l := m) Tryd.underlying35 Tryd.underlying5 Tryd.underlying9 rfl hb ?_)
  refine L_op rfl (X_scmp (a := l) (b := m) (r := l == m) rfl rfl rfl rfl ?_)
  refine L_op rfl (X_assign (v := (.bool (l == m))) rfl ?_)
  refine L_nil ?_
  refine T_n ?_
  refine W_ret ?_
  exact BQ_r (End_1 Tryd.results31 (v := .bool (l == m)) rfl ⟨rfl, rfl⟩)

theorem c_same1 (a b : IE) (w : World) (hka : Rd w 1 a.1 a.2.2.1.length (a.2.2.1.map byteV)) (hva : Rd w 1 a.2.1 a.2.2.2.1.length (a.2.2.2.1.map byteV)) (hkb : Rd w 1 b.1 b.2.2.1.length (b.2.2.1.map byteV)) (hvb : Rd w 1 b.2.1 b.2.2.2.1.length (b.2.2.2.1.map byteV)) : CT Tryd.prog 30 #[(.agg (itC a).toArray), (.agg (itC b).toArray)] w fun v w' => (∃ g, v = .bool g ∧ (g = true ↔ a.2.2 = b.2.2)) ∧ Ext w w' := by
  obtain ⟨n0, hn0⟩ : ∃ n, n = w.heap.size := ⟨_, rfl⟩
  have hU : Upd (fun i => n0 ≤ i) w w := Upd.refl _ _
  refine CT_of Tryd.func30 rfl rfl rfl ?_
  refine W_seq ?_
  refine W_reg ?_
  refine L_op rfl (X_box (v := .agg (itC a).toArray) (c := (itC a).toArray) rfl rfl ?_)
  intro bxa wxa hnxa
  have hbnxa := hnxa.num; have hbsxa := hnxa.size
  replace hU := hU.trans (Ext.upd hnxa.ext)
  replace hka := hka.ext hnxa.ext
  replace hva := hva.ext hnxa.ext
  replace hkb := hkb.ext hnxa.ext
  replace hvb := hvb.ext hnxa.ext
  have hBxa := hnxa.blk
  refine L_op rfl (X_box (v := .agg (itC b).toArray) (c := (itC b).toArray) rfl rfl ?_)
  intro bxb wxb hnxb
  have hbnxb := hnxb.num; have hbsxb := hnxb.size
  replace hU := hU.trans (Ext.upd hnxb.ext)
  replace hka := hka.ext hnxb.ext
  replace hva := hva.ext hnxb.ext
  replace hkb := hkb.ext hnxb.ext
  replace hvb := hvb.ext hnxb.ext
  replace hBxa := hBxa.ext hnxb.ext
  have hBxb := hnxb.blk
  refine L_op rfl (X_assign (v := (.bool (false))) rfl ?_)
  refine L_nil ?_
  refine T_n ?_
  refine W_seq ?_
  refine W_reg ?_
  refine L_op rfl (X_fldP (b := bxa) (o := 0) (r := 0) Fd43_0 rfl rfl ?_)
  refine L_op rfl (X_load (p := (ptr bxa (0))) (v := a.1) T35 rfl (hBxa.at1 rfl) ?_)
  refine L_op rfl (X_fldP (b := bxb) (o := 0) (r := 0) Fd43_0 rfl rfl ?_)
  refine L_op rfl (X_load (p := (ptr bxb (0))) (v := b.1) T35 rfl (hBxb.at1 rfl) ?_)
  refine L_op rfl (X_fn (vs := [a.1, b.1]) en31 rfl (CT.mono (c_beq _ _ a.2.2.1 b.2.2.1 _ hka hkb) ?_))
  rintro _ _ ⟨rfl, rfl⟩
  rcases Bool.eq_false_or_eq_true (a.2.2.1 == b.2.2.1) with hc1 | hc1
  · rw [hc1]
    refine L_op rfl (X_move (v := (.bool (true))) rfl ?_)
    refine L_gy (dj := 10) rfl rfl rfl (X_fldP (b := bxa) (o := 0) (r := 1) Fd43_1 rfl rfl ?_)
    refine L_gy (dj := 10) rfl rfl rfl (X_load (p := (ptr bxa (1))) (v := a.2.1) T35 rfl (hBxa.at1 rfl) ?_)
    refine L_gy (dj := 10) rfl rfl rfl (X_fldP (b := bxb) (o := 0) (r := 1) Fd43_1 rfl rfl ?_)
    refine L_gy (dj := 10) rfl rfl rfl (X_load (p := (ptr bxb (1))) (v := b.2.1) T35 rfl (hBxb.at1 rfl) ?_)
    refine L_gy (dj := 10) rfl rfl rfl (X_fn (vs := [a.2.1, b.2.1]) en31 rfl (CT.mono (c_beq _ _ a.2.2.2.1 b.2.2.2.1 _ hva hvb) ?_))
    rintro _ _ ⟨rfl, rfl⟩
    rcases Bool.eq_false_or_eq_true (a.2.2.2.1 == b.2.2.2.1) with hc2 | hc2
    · rw [hc2]
      refine L_op rfl (X_pick (t := true) (v := (.bool (true))) rfl rfl ?_)
      refine L_op rfl (X_move (v := (.bool (true))) rfl ?_)
      refine L_gy (dj := 17) rfl rfl rfl (X_fldP (b := bxa) (o := 0) (r := 2) Fd43_2 rfl rfl ?_)
      refine L_gy (dj := 17) rfl rfl rfl (X_loadA (p := (ptr bxa (2))) (xs := ptC a.2.2.2.2.1) A41 rfl (it_over hBxa) rfl ?_)
      refine L_gy (dj := 17) rfl rfl rfl (X_fldP (b := bxb) (o := 0) (r := 2) Fd43_2 rfl rfl ?_)
      refine L_gy (dj := 17) rfl rfl rfl (X_loadA (p := (ptr bxb (2))) (xs := ptC b.2.2.2.2.1) A41 rfl (it_over hBxb) rfl ?_)
      rcases Bool.eq_false_or_eq_true (a.2.2.2.2.1 == b.2.2.2.2.1) with hc3 | hc3
      · refine L_gy (dj := 17) rfl rfl rfl (X_eqP (p := a.2.2.2.2.1) (q := b.2.2.2.2.1) (r := true) Tryd.underlying41 u28 (by kernel_rfl) (by decide) ⟨rfl, rfl, rfl, rfl⟩ Tryd.underlying5 Tryd.underlying37 (by kernel_rfl) Tryd.underlying36 (ie := _) rfl (by kernel_rfl) Tryd.underlying38 Tryd.underlying39 (by kernel_rfl) rfl rfl (.inl ⟨rfl, hc3⟩) ?_)
        refine L_op rfl (X_pick (t := true) (v := (.bool (true))) rfl rfl ?_)
        refine L_op rfl (X_move (v := (.bool (true))) rfl ?_)
        refine L_gy (dj := 24) rfl rfl rfl (X_fldP (b := bxa) (o := 0) (r := 7) Fd43_3 rfl rfl ?_)
        refine L_gy (dj := 24) rfl rfl rfl (X_load (p := (ptr bxa (7))) (v := (.int .u16 (a.2.2.2.2.2))) T36 rfl (hBxa.at1 rfl) ?_)
        refine L_gy (dj := 24) rfl rfl rfl (X_fldP (b := bxb) (o := 0) (r := 7) Fd43_3 rfl rfl ?_)
        refine L_gy (dj := 24) rfl rfl rfl (X_load (p := (ptr bxb (7))) (v := (.int .u16 (b.2.2.2.2.2))) T36 rfl (hBxb.at1 rfl) ?_)
        by_cases hc4 : (a.2.2.2.2.2 : Int) = (b.2.2.2.2.2)
        · refine L_gy (dj := 24) rfl rfl rfl (X_cmp (k := .u16) (a := a.2.2.2.2.2) (b := b.2.2.2.2.2) (r := true) rfl rfl rfl (decide_eq_true (p := ((a.2.2.2.2.2) : Int) = ((b.2.2.2.2.2) : Int)) (by omega)) ?_)
          refine L_op rfl (X_pick (t := true) (v := (.bool (true))) rfl rfl ?_)
          refine L_op rfl (X_assign (v := (.bool (true))) rfl ?_)
          refine L_nil ?_
          refine T_n ?_
          refine W_ret ?_
          exact BQ_r (End_1 Tryd.results30 (v := .bool true) rfl ⟨⟨true, rfl, ⟨fun _ => same_it (eq_of_beq hc1) (eq_of_beq hc2) (eq_of_beq hc3) (by omega), fun _ => rfl⟩⟩, hU.own hn0⟩)
        · refine L_gy (dj := 24) rfl rfl rfl (X_cmp (k := .u16) (a := a.2.2.2.2.2) (b := b.2.2.2.2.2) (r := false) rfl rfl rfl (decide_eq_false (p := ((a.2.2.2.2.2) : Int) = ((b.2.2.2.2.2) : Int)) (by omega)) ?_)
          refine L_op rfl (X_pick (t := true) (v := (.bool (false))) rfl rfl ?_)
          refine L_op rfl (X_assign (v := (.bool (false))) rfl ?_)
          refine L_nil ?_
          refine T_n ?_
          refine W_ret ?_
          exact BQ_r (End_1 Tryd.results30 (v := .bool false) rfl ⟨⟨false, rfl, ⟨fun h => (by cases h), fun h => (by have h9 : a.2.2.2.2.2 = b.2.2.2.2.2 := (by rw [h]); omega)⟩⟩, hU.own hn0⟩)
      · refine L_gy (dj := 17) rfl rfl rfl (X_eqP (p := a.2.2.2.2.1) (q := b.2.2.2.2.1) (r := false) Tryd.underlying41 u28 (by kernel_rfl) (by decide) ⟨rfl, rfl, rfl, rfl⟩ Tryd.underlying5 Tryd.underlying37 (by kernel_rfl) Tryd.underlying36 (ie := _) rfl (by kernel_rfl) Tryd.underlying38 Tryd.underlying39 (by kernel_rfl) rfl rfl (.inl ⟨rfl, hc3⟩) ?_)
        refine L_op rfl (X_pick (t := true) (v := (.bool (false))) rfl rfl ?_)
        refine L_op rfl (X_move (v := (.bool (false))) rfl ?_)
        refine L_gn (dj := 24) (t := false) rfl rfl rfl rfl ?_
        refine L_gn (dj := 24) (t := false) rfl rfl rfl rfl ?_
        refine L_gn (dj := 24) (t := false) rfl rfl rfl rfl ?_
        refine L_gn (dj := 24) (t := false) rfl rfl rfl rfl ?_
        refine L_gn (dj := 24) (t := false) rfl rfl rfl rfl ?_
        refine L_op rfl (X_pick (t := false) (v := (.bool (false))) rfl rfl ?_)
        refine L_op rfl (X_assign (v := (.bool (false))) rfl ?_)
        refine L_nil ?_
        refine T_n ?_
        refine W_ret ?_
        exact BQ_r (End_1 Tryd.results30 (v := .bool false) rfl ⟨⟨false, rfl, ⟨fun h => (by cases h), fun h => (ne_of_beq_false hc3 (by rw [h])).elim⟩⟩, hU.own hn0⟩)
    · rw [hc2]
      refine L_op rfl (X_pick (t := true) (v := (.bool (false))) rfl rfl ?_)
      refine L_op rfl (X_move (v := (.bool (false))) rfl ?_)
      refine L_gn (dj := 17) (t := false) rfl rfl rfl rfl ?_
      refine L_gn (dj := 17) (t := false) rfl rfl rfl rfl ?_
      refine L_gn (dj := 17) (t := false) rfl rfl rfl rfl ?_
      refine L_gn (dj := 17) (t := false) rfl rfl rfl rfl ?_
      refine L_gn (dj := 17) (t := false) rfl rfl rfl rfl ?_
      refine L_op rfl (X_pick (t := false) (v := (.bool (false))) rfl rfl ?_)
      refine L_op rfl (X_move (v := (.bool (false))) rfl ?_)
      refine L_gn (dj := 24) (t := false) rfl rfl rfl rfl ?_
      refine L_gn (dj := 24) (t := false) rfl rfl rfl rfl ?_
      refine L_gn (dj := 24) (t := false) rfl rfl rfl rfl ?_
      refine L_gn (dj := 24) (t := false) rfl rfl rfl rfl ?_
      refine L_gn (dj := 24) (t := false) rfl rfl rfl rfl ?_
      refine L_op rfl (X_pick (t := false) (v := (.bool (false))) rfl rfl ?_)
      refine L_op rfl (X_assign (v := (.bool (false))) rfl ?_)
      refine L_nil ?_
      refine T_n ?_
      refine W_ret ?_
      exact BQ_r (End_1 Tryd.results30 (v := .bool false) rfl ⟨⟨false, rfl, ⟨fun h => (by cases h), fun h => (ne_of_beq_false hc2 (by rw [h])).elim⟩⟩, hU.own hn0⟩)
  · rw [hc1]
    refine L_op rfl (X_move (v := (.bool (false))) rfl ?_)
    refine L_gn (dj := 10) (t := false) rfl rfl rfl rfl ?_
    refine L_gn (dj := 10) (t := false) rfl rfl rfl rfl ?_
    refine L_gn (dj := 10) (t := false) rfl rfl rfl rfl ?_
    refine L_gn (dj := 10) (t := false) rfl rfl rfl rfl ?_
    refine L_gn (dj := 10) (t := false) rfl rfl rfl rfl ?_
    refine L_op rfl (X_pick (t := false) (v := (.bool (false))) rfl rfl ?_)
    refine L_op rfl (X_move (v := (.bool (false))) rfl ?_)
    refine L_gn (dj := 17) (t := false) rfl rfl rfl rfl ?_
    refine L_gn (dj := 17) (t := false) rfl rfl rfl rfl ?_
    refine L_gn (dj := 17) (t := false) rfl rfl rfl rfl ?_
    refine L_gn (dj := 17) (t := false) rfl rfl rfl rfl ?_
    refine L_gn (dj := 17) (t := false) rfl rfl rfl rfl ?_
    refine L_op rfl (X_pick (t := false) (v := (.bool (false))) rfl rfl ?_)
    refine L_op rfl (X_move (v := (.bool (false))) rfl ?_)
    refine L_gn (dj := 24) (t := false) rfl rfl rfl rfl ?_
    refine L_gn (dj := 24) (t := false) rfl rfl rfl rfl ?_
    refine L_gn (dj := 24) (t := false) rfl rfl rfl rfl ?_
    refine L_gn (dj := 24) (t := false) rfl rfl rfl rfl ?_
    refine L_gn (dj := 24) (t := false) rfl rfl rfl rfl ?_
    refine L_op rfl (X_pick (t := false) (v := (.bool (false))) rfl rfl ?_)
    refine L_op rfl (X_assign (v := (.bool (false))) rfl ?_)
    refine L_nil ?_
    refine T_n ?_
    refine W_ret ?_
    exact BQ_r (End_1 Tryd.results30 (v := .bool false) rfl ⟨⟨false, rfl, ⟨fun h => (by cases h), fun h => (ne_of_beq_false hc1 (by rw [h])).elim⟩⟩, hU.own hn0⟩)

theorem c_equalFunc (l m : Value) (es fs : List IE) (w : World) (lo hi lo2 hi2 : Nat) (hup : hi ≤ w.heap.size) (hup2 : hi2 ≤ w.heap.size) (hl : NRd LT w lo hi l es) (hm : NRd LT w lo2 hi2 m fs) : CT Tryd.prog 29 #[l, m, (.func (.func 30) #[] #[])] w fun v w' => (∃ g, v = .bool g ∧ (g = true ↔ dsI es = dsI fs)) ∧ Ext w w' := by
  obtain ⟨n0, hn0⟩ : ∃ n, n = w.heap.size := ⟨_, rfl⟩
  have hU : Upd (fun i => n0 ≤ i) w w := Upd.refl _ _
  have hmx := hl.sv.len
  rw [← hn0] at hup hup2
  refine CT_of Tryd.func29 rfl rfl rfl ?_
  refine W_seq ?_
  refine W_reg ?_
  refine L_op rfl (X_assign (v := (.bool (false))) rfl ?_)
  refine L_nil ?_
  refine T_n ?_
  refine W_seq ?_
  refine W_seq ?_
  refine W_reg ?_
  refine L_op rfl (X_move (v := l) rfl ?_)
  refine L_op rfl (X_len (v := l) (n := es.length) Tryd.underlying22 rfl hl.sv ?_)
  refine L_op rfl (X_move (v := m) rfl ?_)
  refine L_op rfl (X_len (v := m) (n := fs.length) Tryd.underlying22 rfl hm.sv ?_)
  by_cases hc1 : (((es.length : Nat) : Int) : Int) ≠ (((fs.length : Nat) : Int))
  · refine L_op rfl (X_cmp (k := .i64) (a := ((es.length : Nat) : Int)) (b := ((fs.length : Nat) : Int)) (r := true) rfl rfl rfl (decide_eq_true (p := ((((es.length : Nat) : Int)) : Int) ≠ ((((fs.length : Nat) : Int)) : Int)) (by omega)) ?_)
    refine L_nil ?_
    refine T_n ?_
    refine W_ct rfl ?_
    refine W_seq ?_
    refine W_reg ?_
    refine L_op rfl (X_assign (v := (.bool (false))) rfl ?_)
    refine L_nil ?_
    refine T_n ?_
    refine W_ret ?_
    refine T_r ?_
    exact BQ_r (End_1 Tryd.results29 (v := .bool false) rfl ⟨⟨false, rfl, ⟨fun h => (by cases h), fun h => (by have h1 := same_len h; omega)⟩⟩, hU.own hn0⟩)
  · refine L_op rfl (X_cmp (k := .i64) (a := ((es.length : Nat) : Int)) (b := ((fs.length : Nat) : Int)) (r := false) rfl rfl rfl (decide_eq_false (p := ((((es.length : Nat) : Int)) : Int) ≠ ((((fs.length : Nat) : Int)) : Int)) (by omega)) ?_)
    refine L_nil ?_
    refine T_n ?_
    refine W_cf rfl ?_
    refine W_skip ?_
    refine T_n ?_
    refine W_seq ?_
    refine W_seq ?_
    refine W_reg ?_
    refine L_op rfl (X_move (v := l) rfl ?_)
    refine L_op rfl (X_len (v := l) (n := es.length) Tryd.underlying22 rfl hl.sv ?_)
    refine L_op rfl (X_move (v := (.int .i64 (0))) rfl ?_)
    refine L_nil ?_
    refine T_n ?_
    refine W_block ?_
    refine W_loop (α := Nat) [6, 7, 8, 9, 17, 18, 19, 20, 21, 22, 23, 24, 25, 26, 27, 28, 29, 30, 31] (fun i => [(17, (.int .i64 (((i : Nat) : Int))))]) (fun i w_ => i ≤ es.length ∧ NRd LT w_ lo hi l es ∧ NRd LT w_ lo2 hi2 m fs ∧ dsI (es.take i) = dsI (fs.take i) ∧ Upd (fun i => n0 ≤ i) w w_) (fun i => es.length - i) ⟨rfl, 0, ⟨Nat.zero_le _, hl, hm, rfl, hU⟩, Out.refl _ _, ⟨rfl, trivial⟩⟩ ?_
    rintro i w2 _ ⟨hil, hl, hm, hz, hU⟩
    have hsz_ := hU.size
    refine W_seq ?_
    refine W_reg ?_
    by_cases hc3 : (((i : Nat) : Int) : Int) < (((es.length : Nat) : Int))
    · refine L_op rfl (X_cmp (k := .i64) (a := ((i : Nat) : Int)) (b := ((es.length : Nat) : Int)) (r := true) rfl rfl rfl (decide_eq_true (p := ((((i : Nat) : Int)) : Int) < ((((es.length : Nat) : Int)) : Int)) (by omega)) ?_)
      have hi : i < es.length := by omega
      obtain ⟨a, hai⟩ : ∃ a, es[i]? = some a := ⟨_, List.getElem?_eq_getElem hi⟩
      obtain ⟨b, hbi⟩ : ∃ b, fs[i]? = some b := ⟨_, List.getElem?_eq_getElem (by omega)⟩
      refine L_nil ?_
      refine T_n ?_
      refine W_seq ?_
      refine W_ct rfl ?_
      refine W_skip ?_
      refine T_n ?_
      refine W_seq ?_
      refine W_block ?_
      refine W_seq ?_
      refine W_reg ?_
      refine L_op rfl (X_move (v := (.int .i64 (((i : Nat) : Int)))) rfl ?_)
      refine L_op rfl (X_idx (v := l) (n := es.length) (k := .i64) (i := ((i : Nat) : Int)) S22 rfl hl.sv rfl (by omega) (by omega) ?_)
      refine L_op rfl (X_loadA (xs := itC a) A43 rfl (iall hl (Int.toNat_natCast _) hai) rfl ?_)
      refine L_op rfl (X_alloc (z := (.agg #[(.slice none 0 0), (.slice none 0 0), (.int .u8 (0)), (.int .u16 (0)), (.int .u16 (0)), (.int .u32 (0)), (.int .u64 (0)), (.int .u16 (0))])) (c := #[(.slice none 0 0), (.slice none 0 0), (.int .u8 (0)), (.int .u16 (0)), (.int .u16 (0)), (.int .u32 (0)), (.int .u64 (0)), (.int .u16 (0))]) Zv43 rfl ?_)
      intro b4 w4 hn4
      have hbn4 := hn4.num; have hbs4 := hn4.size
      replace hl := hl.ext hn4.ext
      replace hm := hm.ext hn4.ext
      replace hU := hU.trans (Ext.upd hn4.ext)
      have hB4 := hn4.blk
      refine L_op rfl (X_assign (v := (.int .i64 (((i : Nat) : Int)))) rfl ?_)
      refine L_op0 (X_storeW (b := b4) (ys := itC a) A43 rfl rfl (ione hl hai) rfl hB4 rfl ?_)
      intro w5 hu5 hb5
      have hz5 := hu5.size
      replace hl := hl.upd hu5 fun i h1 h2 h => by have h : i = b4 := h; omega
      replace hm := hm.upd hu5 fun i h1 h2 h => by have h : i = b4 := h; omega
      replace hU := hU.trans (hu5.mono fun i _ h => by have h : i = b4 := h; show n0 ≤ i; omega)
      replace hB4 := hb5
      refine L_nil ?_
      refine T_n ?_
      refine W_seq ?_
      refine W_reg ?_
      refine L_op rfl (X_move (v := m) rfl ?_)
      refine L_op rfl (X_move (v := (.int .i64 (((i : Nat) : Int)))) rfl ?_)
      refine L_op rfl (X_idx (v := m) (n := fs.length) (k := .i64) (i := ((i : Nat) : Int)) S22 rfl hm.sv rfl (by omega) (by omega) ?_)
      refine L_op rfl (X_loadA (xs := itC b) A43 rfl (iall hm (Int.toNat_natCast _) hbi) rfl ?_)
      refine L_op rfl (X_alloc (z := (.agg #[(.slice none 0 0), (.slice none 0 0), (.int .u8 (0)), (.int .u16 (0)), (.int .u16 (0)), (.int .u32 (0)), (.int .u64 (0)), (.int .u16 (0))])) (c := #[(.slice none 0 0), (.slice none 0 0), (.int .u8 (0)), (.int .u16 (0)), (.int .u16 (0)), (.int .u32 (0)), (.int .u64 (0)), (.int .u16 (0))]) Zv43 rfl ?_)
      intro b6 w6 hn6
      have hbn6 := hn6.num; have hbs6 := hn6.size
      replace hl := hl.ext hn6.ext
      replace hm := hm.ext hn6.ext
      replace hU := hU.trans (Ext.upd hn6.ext)
      replace hB4 := hB4.ext hn6.ext
      have hB6 := hn6.blk
      refine L_op0 (X_storeW (b := b6) (ys := itC b) A43 rfl rfl (ione hm hbi) rfl hB6 rfl ?_)
      intro w7 hu7 hb7
      have hz7 := hu7.size
      replace hl := hl.upd hu7 fun i h1 h2 h => by have h : i = b6 := h; omega
      replace hm := hm.upd hu7 fun i h1 h2 h => by have h : i = b6 := h; omega
      replace hU := hU.trans (hu7.mono fun i _ h => by have h : i = b6 := h; show n0 ≤ i; omega)
      replace hB4 := hB4.upd hu7 fun h => by have h : b4 = b6 := h; omega
      replace hB6 := hb7
      refine L_nil ?_
      refine T_n ?_
      refine W_seq ?_
      refine W_reg ?_
      refine L_op rfl (X_move (v := (.func (.func 30) #[] #[])) rfl ?_)
      refine L_op rfl (X_loadA (p := (ptr b4 (0))) (xs := itC a) A43 rfl hB4.atAll rfl ?_)
      refine L_op rfl (X_loadA (p := (ptr b6 (0))) (xs := itC b) A43 rfl hB6.atAll rfl ?_)
      refine L_op rfl (X_cl (vs := [.agg (itC a).toArray, .agg (itC b).toArray]) (cap := []) en30 rfl rfl (CT.mono (c_same1 a b _ (irdk hl hai) (irdv hl hai) (irdk hm hbi) (irdv hm hbi)) ?_))
      rintro _ w8 ⟨⟨g1, rfl, hg1⟩, hu8⟩
      have hz8 := hu8.size
      replace hl := hl.ext hu8
      replace hm := hm.ext hu8
      replace hU := hU.trans (Ext.upd hu8)
      replace hB4 := hB4.ext hu8
      replace hB6 := hB6.ext hu8
      rcases Bool.eq_false_or_eq_true (g1) with hc9 | hc9
      · rw [hc9]
        refine L_op rfl (X_not (b := true) (r := false) rfl rfl ?_)
        refine L_nil ?_
        refine T_n ?_
        refine W_cf rfl ?_
        refine W_skip ?_
        refine B_n ?_
        refine T_n ?_
        refine W_reg ?_
        refine L_op rfl (X_arith (k := .i64) (a := ((i : Nat) : Int)) (b := 1) (r := ((i + 1 : Nat) : Int)) rfl rfl rfl (iadd64 (by omega) (by omega) (by omega)) ?_)
        refine L_op rfl (X_move (v := (.int .i64 (((i + 1 : Nat) : Int)))) rfl ?_)
        refine L_nil ?_
        refine T_n ?_
        exact ⟨rfl, i + 1, ⟨⟨hi, hl, hm, same_step hai hbi hz (hg1.1 hc9), hU⟩, (by show es.length - (i + 1) < es.length - i; omega)⟩, (Out.mk rfl), ⟨rfl, trivial⟩⟩
      · rw [hc9]
        refine L_op rfl (X_not (b := false) (r := true) rfl rfl ?_)
        refine L_nil ?_
        refine T_n ?_
        refine W_ct rfl ?_
        refine W_seq ?_
        refine W_reg ?_
        refine L_op rfl (X_assign (v := (.bool (false))) rfl ?_)
        refine L_nil ?_
        refine T_n ?_
        refine W_ret ?_
        refine B_r ?_
        refine T_r ?_
        refine T_r ?_
        refine B_r ?_
        refine T_r ?_
        exact BQ_r (End_1 Tryd.results29 (v := .bool false) rfl ⟨⟨false, rfl, ⟨fun h => (by cases h), fun h => (by have h1 := hg1.2 (same_no hai hbi h); rw [hc9] at h1; cases h1)⟩⟩, hU.own hn0⟩)
    · refine L_op rfl (X_cmp (k := .i64) (a := ((i : Nat) : Int)) (b := ((es.length : Nat) : Int)) (r := false) rfl rfl rfl (decide_eq_false (p := ((((i : Nat) : Int)) : Int) < ((((es.length : Nat) : Int)) : Int)) (by omega)) ?_)
      refine L_nil ?_
      refine T_n ?_
      refine W_seq ?_
      refine W_cf rfl ?_
      refine W_exit ?_
      refine T_e ?_
      refine T_e ?_
      refine B_x ?_
      refine T_n ?_
      refine W_seq ?_
      refine W_reg ?_
      refine L_op rfl (X_assign (v := (.bool (true))) rfl ?_)
      refine L_nil ?_
      refine T_n ?_
      refine W_ret ?_
      exact BQ_r (End_1 Tryd.results29 (v := .bool true) rfl ⟨⟨true, rfl, ⟨fun _ => same_all hz (by omega) (by omega), fun _ => rfl⟩⟩, hU.own hn0⟩)

theorem c_sameI (l m : Value) (es fs : List IE) (w : World) (lo hi lo2 hi2 : Nat) (hup : hi ≤ w.heap.size) (hup2 : hi2 ≤ w.heap.size) (hl : NRd LT w lo hi l es) (hm : NRd LT w lo2 hi2 m fs) : CT Tryd.prog 15 #[l, m] w fun v w' => (∃ g, v = .bool g ∧ (g = true ↔ dsI es = dsI fs)) ∧ Ext w w' := by
  refine CT_of Tryd.func15 rfl rfl rfl ?_
  refine W_seq ?_
  refine W_reg ?_
  refine L_op rfl (X_assign (v := (.bool (false))) rfl ?_)
  refine L_nil ?_
  refine T_n ?_
  refine W_seq ?_
  refine W_reg ?_
  refine L_op rfl (X_move (v := l) rfl ?_)
  refine L_op rfl (X_move (v := m) rfl ?_)
  refine L_op rfl (X_fn (vs := [l, m, (.func (.func 30) #[] #[])]) en29 rfl (CT.mono (c_equalFunc l m es fs _ lo hi lo2 hi2 hup hup2 hl hm) ?_))
  rintro _ w1 ⟨⟨g, rfl, hg⟩, hu1⟩
  refine L_op rfl (X_assign (v := (.bool (g))) rfl ?_)
  refine L_nil ?_
  refine T_n ?_
  refine W_ret ?_
  exact BQ_r (End_1 Tryd.results15 (v := .bool g) rfl ⟨⟨g, rfl, hg⟩, hu1⟩)
end Go.Proofs.YtmddmghgkkjbiaaDoor
