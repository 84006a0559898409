/-
  The walk of KidsFind. (Printed by wip/gen/t16find.py of this repo.)
-/
import Derived.Test.YtpjhadhniokgjaaKidsW
namespace Go.Proofs.Ytpjhadhniokgjaa
open Go Go.SL Go.Proofs

theorem bl_irr : ∀ a : List UInt8, Op.bytesLess a a = false
  | [] => rfl
  | x :: a => by simp [Op.bytesLess, bl_irr a, UInt8.lt_irrefl]
theorem bl_trans : ∀ a b c : List UInt8, Op.bytesLess a b = true → Op.bytesLess b c = true → Op.bytesLess a c = true
  | _, _, [], _, h => by simp [Op.bytesLess] at h
  | _, [], _ :: _, h, _ => by simp [Op.bytesLess] at h
  | [], _ :: _, _ :: _, _, _ => rfl
  | x :: a, y :: b, z :: c, h, h' => by
    simp only [Op.bytesLess, Bool.or_eq_true, decide_eq_true_eq, Bool.and_eq_true, beq_iff_eq] at h h' ⊢
    rcases h with h | ⟨rfl, h⟩
    · rcases h' with h' | ⟨rfl, h'⟩
      · exact .inl (UInt8.lt_trans h h')
      · exact .inl h
    · rcases h' with h' | ⟨rfl, h'⟩
      · exact .inl h'
      · exact .inr ⟨rfl, bl_trans a b c h h'⟩
theorem lt_cmp {a b : List UInt8} (h : Op.bytesLess a b = true) : 0 < cmpB b a := by
  have h1 := le_cmp b a
  have h2 : Op.bytesLess b a = false := by
    cases h3 : Op.bytesLess b a with
    | false => rfl
    | true => have := bl_trans a b a h h3; rw [bl_irr] at this; cases this
  have h4 : (b == a) = false := by
    cases h5 : (b == a) with
    | false => rfl
    | true => rw [beq_iff_eq] at h5; subst h5; rw [bl_irr] at h; cases h
  rw [h2, h4] at h1
  have := of_decide_eq_false h1
  omega
theorem cmp_self (a : List UInt8) : cmpB a a ≤ 0 := by
  have h := le_cmp a a
  rw [beq_self_eq_true, Bool.or_true] at h
  exact of_decide_eq_true h
theorem cmp_nil (m : List UInt8) : cmpB [] m ≤ 0 := by
  have h := le_cmp [] m
  cases m with
  | nil => exact cmp_self []
  | cons x m => exact of_decide_eq_true (h.trans rfl)
theorem rises_lt {es : List KE} (h : Rises es) : ∀ (k i : Nat) (a b : KE), es[i]? = some a → es[i + 1 + k]? = some b → Op.bytesLess a.2.1 b.2.1 = true
  | 0, i, a, b, ha, hb => h.2.2 i a b ha hb
  | k + 1, i, a, b, ha, hb => by
    have hlt := (List.getElem?_eq_some_iff.1 hb).1
    obtain ⟨c, hc⟩ : ∃ c, es[i + 1 + k]? = some c := ⟨_, List.getElem?_eq_getElem (by omega)⟩
    exact bl_trans _ _ _ (rises_lt h k i a c ha hc) (h.2.2 (i + 1 + k) c b hc (by rw [show i + 1 + k + 1 = i + 1 + (k + 1) by omega]; exact hb))
theorem find_self {es : List KE} (h : Rises es) {i : Nat} {e : KE} (he : es[i]? = some e) : FindSpec es e.2.1 i :=
  .inl ⟨e, he, cmp_self _, fun j e' hj he' => lt_cmp (rises_lt h (j - i - 1) i e e' he (by rw [show i + 1 + (j - i - 1) = j by omega]; exact he'))⟩
theorem find_in {es : List KE} (h : Rises es) {m : List UInt8} {at_ : Nat} (hf : FindSpec es m at_) : ∃ e, es[at_]? = some e ∧ cmpB e.2.1 m ≤ 0 ∧ ∀ (j : Nat) (e' : KE), at_ < j → es[j]? = some e' → 0 < cmpB e'.2.1 m := by
  rcases hf with hf | ⟨rfl, hf⟩
  · exact hf
  · obtain ⟨h2, h0, _⟩ := h
    obtain ⟨e, he⟩ : ∃ e, es[0]? = some e := ⟨_, List.getElem?_eq_getElem (by omega)⟩
    have h3 := hf 0 e he
    have h4 : e.2.1 = [] := List.eq_nil_of_length_eq_zero (h0 e he)
    rw [h4] at h3
    have := cmp_nil m
    omega
theorem find_nil {m : List UInt8} {at_ : Nat} (hf : FindSpec [] m at_) : at_ = 0 := by
  rcases hf with ⟨e, he, _⟩ | ⟨rfl, _⟩
  · simp at he
  · rfl
theorem leq_of {a b : List UInt8} (h : 0 < cmpB a b) : scmp .leq a b = false := by
  have h1 := le_cmp a b
  show (Op.bytesLess a b || a == b) = false
  rw [← h1]
  exact decide_eq_false (by omega)
theorem gtr_of {a b : List UInt8} (h : cmpB a b ≤ 0) : scmp .gtr a b = false := by
  have h1 := le_cmp a b
  show (!(Op.bytesLess a b || a == b)) = false
  rw [← h1, decide_eq_true h]; rfl

theorem c_kidsFind (l key : Value) (es : List KE) (m : List UInt8) (w : World) (hl : NRd LK w 0 w.heap.size l es) (hk : Rd w 1 key m.length (m.map byteV)) : CT Try.prog 4 #[l, key] w fun v w' => v = .bool true ∧ Ext w w' := by
  obtain ⟨n0, hn0⟩ : ∃ n, n = w.heap.size := ⟨_, rfl⟩
  have hU : Upd (fun i => n0 ≤ i) w w := Upd.refl _ _
  have hk_b : ∀ i, rbk key = some i → i < n0 := by rw [hn0]; exact fun i hi => hk.bound (by decide) hi
  rw [← hn0] at hl
  have hmx := hl.sv.len
  refine CT_of Try.func4 rfl rfl rfl ?_
  refine W_seq ?_
  refine W_reg ?_
  refine L_op rfl (X_assign (v := (.bool (false))) rfl ?_)
  refine L_nil ?_
  refine T_n ?_
  refine W_seq ?_
  refine W_seq ?_
  refine W_reg ?_
  refine L_op rfl (X_move (v := l) rfl ?_)
  refine L_op rfl (X_fn (vs := [l]) en7 rfl (CT.mono (c_great _ es _ _ _ hl) ?_))
  rintro _ _ ⟨⟨gG, rfl, hgG⟩, rfl⟩
  rcases Bool.eq_false_or_eq_true (gG) with hc1 | hc1
  · rw [hc1]
    refine L_op rfl (X_move (v := (.bool (true))) rfl ?_)
    refine L_gn (dj := 9) (t := true) rfl rfl rfl rfl ?_
    refine L_gn (dj := 9) (t := true) rfl rfl rfl rfl ?_
    refine L_gn (dj := 9) (t := true) rfl rfl rfl rfl ?_
    refine L_op rfl (X_pick (t := true) (v := (.bool (true))) rfl rfl ?_)
    refine L_op rfl (X_move (v := (.bool (true))) rfl ?_)
    refine L_gn (dj := 14) (t := true) rfl rfl rfl rfl ?_
    refine L_gn (dj := 14) (t := true) rfl rfl rfl rfl ?_
    refine L_gn (dj := 14) (t := true) rfl rfl rfl rfl ?_
    refine L_op rfl (X_pick (t := true) (v := (.bool (true))) rfl rfl ?_)
    refine L_nil ?_
    refine T_n ?_
    refine W_ct rfl ?_
    refine W_seq ?_
    refine W_reg ?_
    refine L_op rfl (X_fn (vs := []) en9 rfl (CT.mono (c_wakes _) ?_))
    rintro vb2 w2 ⟨hvb2, hu2⟩
    have hz2 := hu2.size
    replace hl := hl.ext hu2
    replace hk := hk.ext hu2
    replace hU := hU.trans (Ext.upd hu2)
    subst hvb2
    refine L_op rfl (X_assign (v := (.bool (true))) rfl ?_)
    refine L_nil ?_
    refine T_n ?_
    refine W_ret ?_
    refine T_r ?_
    exact BQ_r (End_1 Try.results4 (v := .bool true) rfl ⟨rfl, hU.own hn0⟩)
  · rw [hc1]
    refine L_op rfl (X_move (v := (.bool (false))) rfl ?_)
    refine L_gy (dj := 9) rfl rfl rfl (X_move (v := key) rfl ?_)
    refine L_gy (dj := 9) rfl rfl rfl (X_len (v := key) (n := m.length) Try.underlying23 rfl hk.sv ?_)
    by_cases hc3 : (((m.length : Nat) : Int) : Int) > (60)
    · refine L_gy (dj := 9) rfl rfl rfl (X_cmp (k := .i64) (a := ((m.length : Nat) : Int)) (b := 60) (r := true) rfl rfl rfl (decide_eq_true (p := ((60) : Int) < ((((m.length : Nat) : Int)) : Int)) (by omega)) ?_)
      refine L_op rfl (X_pick (t := false) (v := (.bool (true))) rfl rfl ?_)
      refine L_op rfl (X_move (v := (.bool (true))) rfl ?_)
      refine L_gn (dj := 14) (t := true) rfl rfl rfl rfl ?_
      refine L_gn (dj := 14) (t := true) rfl rfl rfl rfl ?_
      refine L_gn (dj := 14) (t := true) rfl rfl rfl rfl ?_
      refine L_op rfl (X_pick (t := true) (v := (.bool (true))) rfl rfl ?_)
      refine L_nil ?_
      refine T_n ?_
      refine W_ct rfl ?_
      refine W_seq ?_
      refine W_reg ?_
      refine L_op rfl (X_fn (vs := []) en9 rfl (CT.mono (c_wakes _) ?_))
      rintro vb4 w4 ⟨hvb4, hu4⟩
      have hz4 := hu4.size
      replace hl := hl.ext hu4
      replace hk := hk.ext hu4
      replace hU := hU.trans (Ext.upd hu4)
      subst hvb4
      refine L_op rfl (X_assign (v := (.bool (true))) rfl ?_)
      refine L_nil ?_
      refine T_n ?_
      refine W_ret ?_
      refine T_r ?_
      exact BQ_r (End_1 Try.results4 (v := .bool true) rfl ⟨rfl, hU.own hn0⟩)
    · refine L_gy (dj := 9) rfl rfl rfl (X_cmp (k := .i64) (a := ((m.length : Nat) : Int)) (b := 60) (r := false) rfl rfl rfl (decide_eq_false (p := ((60) : Int) < ((((m.length : Nat) : Int)) : Int)) (by omega)) ?_)
      refine L_op rfl (X_pick (t := false) (v := (.bool (false))) rfl rfl ?_)
      refine L_op rfl (X_move (v := (.bool (false))) rfl ?_)
      refine L_gy (dj := 14) rfl rfl rfl (X_move (v := l) rfl ?_)
      refine L_gy (dj := 14) rfl rfl rfl (X_fn (vs := [l]) en8 rfl (CT.mono (c_rises _ es _ _ _ hl) ?_))
      rintro _ w5 ⟨⟨gR, rfl, hgR⟩, hu5⟩
      have hz5 := hu5.size
      replace hl := hl.ext hu5
      replace hk := hk.ext hu5
      replace hU := hU.trans (Ext.upd hu5)
      rcases Bool.eq_false_or_eq_true (gR) with hc6 | hc6
      · rw [hc6]
        refine L_gy (dj := 14) rfl rfl rfl (X_not (b := true) (r := false) rfl rfl ?_)
        refine L_op rfl (X_pick (t := false) (v := (.bool (false))) rfl rfl ?_)
        refine L_nil ?_
        refine T_n ?_
        refine W_cf rfl ?_
        refine W_skip ?_
        refine T_n ?_
        refine W_seq ?_
        refine W_reg ?_
        refine L_op rfl (X_move (v := l) rfl ?_)
        refine L_op rfl (X_move (v := key) rfl ?_)
        refine L_op rfl (X_fn (vs := [l, key]) en14 rfl (CT.mono (c_find l key es m _ 0 n0 (by omega) hl hk) ?_))
        rintro _ w7 ⟨⟨at0, rfl, hF⟩, hu7⟩
        have hz7 := hu7.size
        replace hl := hl.ext hu7
        replace hk := hk.ext hu7
        replace hU := hU.trans (Ext.upd hu7)
        have hRi : Rises es := hgR.1 (by assumption)
        obtain ⟨e0, he0, hle0, hgt0⟩ := find_in hRi hF
        have hat0 := (List.getElem?_eq_some_iff.1 he0).1
        refine L_op rfl (X_assign (v := (.int .i64 (((at0 : Nat) : Int)))) rfl ?_)
        refine L_nil ?_
        refine T_n ?_
        refine W_seq ?_
        refine W_seq ?_
        rcases Bool.eq_false_or_eq_true (decide (at0 + 1 < es.length)) with hs8 | hs8
        · have hat1 := of_decide_eq_true hs8
          obtain ⟨e1, he1⟩ : ∃ e, es[at0 + 1]? = some e := ⟨_, List.getElem?_eq_getElem hat1⟩
          refine W_draw 35 [[], [0], [0, 1], [0, 1, 2], [0, 1, 2], [0, 1, 2, 4], [0, 1, 2, 3, 4, 5], [0, 1, 2, 3, 4, 5, 6], [0, 1, 2, 3, 4, 5, 6, 7], [0, 1, 2, 3, 4, 5, 6, 7, 8], [0, 1, 2, 3, 4, 5, 6, 7, 8], [0, 1, 2, 3, 4, 5, 6, 7, 8, 9, 10], [0, 1, 2, 3, 4, 5, 6, 7, 8, 9, 10, 11], [0, 1, 2, 3, 4, 5, 6, 7, 8, 9, 10, 11, 12], [0, 1, 2, 3, 4, 5, 6, 7, 8, 9, 10, 11, 12, 13], [0, 1, 2, 3, 4, 5, 6, 7, 8], [0, 1, 2, 3, 4, 5, 6, 7, 8, 15], [0, 1, 2, 3, 4, 5, 6, 7, 8, 9, 10, 11, 12, 13, 14, 15, 16], [0, 1, 2, 3, 4, 5, 6, 7, 8, 9, 10, 11, 12, 13, 14, 15, 16, 17], [0, 1, 2, 3, 4, 5, 6, 7, 8, 9, 10, 11, 12, 13, 14, 15, 16, 17, 18], [0, 1, 2, 3, 4, 5, 6, 7, 8, 9, 10, 11, 12, 13, 14, 15, 16, 17, 18, 19], [0, 1, 2, 3, 4, 5, 6, 7, 8, 9, 10, 11, 12, 13, 14, 15, 16, 17, 18, 19, 20], [0, 1, 2, 3, 4, 5, 6, 7, 8, 9, 10, 11, 12, 13, 14, 15, 16, 17, 18, 19], [0, 1, 2, 3, 4, 5, 6, 7, 8, 9, 10, 11, 12, 13, 14, 15, 16, 17, 18, 19, 22], [0, 1, 2, 3, 4, 5, 6, 7, 8, 9, 10, 11, 12, 13, 14, 15, 16, 17, 18, 19, 20, 21, 22, 23], [0, 1, 2, 3, 4, 5, 6, 7, 8, 9, 10, 11, 12, 13, 14, 15, 16, 17, 18, 19, 20, 21, 22, 23, 24], [0, 1, 2, 3, 4, 5, 6, 7, 8, 9, 10, 11, 12, 13, 14, 15, 16, 17, 18, 19, 20, 21, 22, 23, 24, 25], [0, 1, 2, 3, 4, 5, 6, 7, 8, 9, 10, 11, 12, 13, 14, 15, 16, 17, 18, 19, 20, 21, 22, 23, 24, 25], [0, 1, 2, 3, 4, 5, 6, 7, 8, 9, 10, 11, 12, 13, 14, 15, 16, 17, 18, 19, 20, 21, 22, 23, 24, 25, 27], [0, 1, 2, 3, 4, 5, 6, 7, 8, 9, 10, 11, 12, 13, 14, 15, 16, 17, 18, 19, 20, 21, 22, 23, 24, 25, 26, 27, 28], [0, 1, 2, 3, 4, 5, 6, 7, 8, 9, 10, 11, 12, 13, 14, 15, 16, 17, 18, 19, 20, 21, 22, 23, 24, 25, 26, 27, 28, 29], [0, 1, 2, 3, 4, 5, 6, 7, 8, 9, 10, 11, 12, 13, 14, 15, 16, 17, 18, 19, 20, 21, 22, 23, 24, 25, 26, 27, 28, 29, 30], [0, 1, 2, 3, 4, 5, 6, 7, 8, 9, 10, 11, 12, 13, 14, 15, 16, 17, 18, 19, 20, 21, 22, 23, 24, 25, 26, 27, 28, 29, 30, 31], [0, 1, 2, 3, 4, 5, 6, 7, 8, 9, 10, 11, 12, 13, 14, 15, 16, 17, 18, 19, 20, 21, 22, 23, 24, 25], [0, 1, 2, 3, 4, 5, 6, 7, 8, 9, 10, 11, 12, 13, 14, 15, 16, 17, 18, 19, 20, 21, 22, 23, 24, 25, 33], [0, 1, 2, 3, 4, 5, 6, 7, 8, 9, 10, 11, 12, 13, 14, 15, 16, 17, 18, 19, 20, 21, 22, 23, 24, 25, 26, 27, 28, 29, 30, 31, 32, 33, 34], [0, 1, 2, 3, 4, 5, 6, 7, 8, 9, 10, 11, 12, 13, 14, 15, 16, 17, 18, 19, 20, 21, 22, 23, 24, 25, 26, 27, 28, 29, 30, 31, 32, 33, 34, 35], [0, 1, 2, 3, 4, 5, 6, 7, 8, 9, 10, 11, 12, 13, 14, 15, 16, 17, 18, 19, 20, 21, 22, 23, 24, 25, 26, 27, 28, 29, 30, 31, 32, 33, 34, 35, 36]] mixed (by kernel_rfl) ?_
          refine ⟨.det (fun val => (.int .i64 (((at0 : Nat) : Int)))), ⟨fun _ _ hv => rfl, fun _ _ _ _ _ => trivial⟩, fun val h_ W hx he => ⟨trivial, ?_⟩, ?_⟩
          · replace hx := (Upd.drew _ _).trans hx
            replace hl := hl.ext hx
            replace hk := hk.ext hx
            have hE := Upd.refl (fun _ => False) W
            refine id (X_move (v := (.int .i64 (((at0 : Nat) : Int)))) rfl ?_)
            exact ⟨hE, rfl⟩
          refine ⟨.det (fun val => (.bool (false))), ⟨fun _ _ hv => rfl, fun _ _ _ _ _ => trivial⟩, fun val h_ W hx he => ⟨trivial, ?_⟩, ?_⟩
          · replace hx := (Upd.drew _ _).trans hx
            replace hl := hl.ext hx
            replace hk := hk.ext hx
            have hE := Upd.refl (fun _ => False) W
            refine id (X_cmp (k := .i64) (a := ((at0 : Nat) : Int)) (b := 0) (r := false) rfl rfl rfl (decide_eq_false (p := ((((at0 : Nat) : Int)) : Int) < ((0) : Int)) (by omega)) ?_)
            exact ⟨hE, rfl⟩
          refine ⟨.det (fun val => (.bool (false))), ⟨fun _ _ hv => rfl, fun _ _ _ _ _ => trivial⟩, fun val h_ W hx he => ⟨trivial, ?_⟩, ?_⟩
          · replace hx := (Upd.drew _ _).trans hx
            replace hl := hl.ext hx
            replace hk := hk.ext hx
            have hE := Upd.refl (fun _ => False) W
            refine id (X_move (v := (.bool (false))) rfl ?_)
            exact ⟨hE, rfl⟩
          refine ⟨.det (fun val => (.int .i64 (((at0 : Nat) : Int)))), ⟨fun _ _ hv => rfl, fun _ _ _ _ _ => trivial⟩, fun val h_ W hx he => ⟨⟨25, rfl, rfl⟩, ?_⟩, ?_⟩
          · replace hx := (Upd.drew _ _).trans hx
            replace hl := hl.ext hx
            replace hk := hk.ext hx
            have hE := Upd.refl (fun _ => False) W
            refine id (X_move (v := (.int .i64 (((at0 : Nat) : Int)))) rfl ?_)
            exact ⟨hE, rfl⟩
          refine ⟨.det (fun val => l), ⟨fun _ _ hv => rfl, fun _ _ _ _ _ => trivial⟩, fun val h_ W hx he => ⟨⟨25, rfl, rfl⟩, ?_⟩, ?_⟩
          · replace hx := (Upd.drew _ _).trans hx
            replace hl := hl.ext hx
            replace hk := hk.ext hx
            have hE := Upd.refl (fun _ => False) W
            refine id (X_move (v := l) rfl ?_)
            exact ⟨hE, rfl⟩
          refine ⟨.det (fun val => (.int .i64 (((es.length : Nat) : Int)))), ⟨fun _ _ hv => rfl, fun _ _ _ _ _ => trivial⟩, fun val h_ W hx he => ⟨⟨25, rfl, rfl⟩, ?_⟩, ?_⟩
          · replace hx := (Upd.drew _ _).trans hx
            replace hl := hl.ext hx
            replace hk := hk.ext hx
            have hE := Upd.refl (fun _ => False) W
            refine id (X_len (v := l) (n := es.length) Try.underlying22 rfl hl.sv ?_)
            exact ⟨hE, rfl⟩
          refine ⟨.det (fun val => (.bool (false))), ⟨fun _ _ hv => rfl, fun _ _ _ _ _ => trivial⟩, fun val h_ W hx he => ⟨⟨25, rfl, rfl⟩, ?_⟩, ?_⟩
          · replace hx := (Upd.drew _ _).trans hx
            replace hl := hl.ext hx
            replace hk := hk.ext hx
            have hE := Upd.refl (fun _ => False) W
            refine id (X_cmp (k := .i64) (a := ((at0 : Nat) : Int)) (b := ((es.length : Nat) : Int)) (r := false) rfl rfl rfl (decide_eq_false (p := ((((es.length : Nat) : Int)) : Int) ≤ ((((at0 : Nat) : Int)) : Int)) (by omega)) ?_)
            exact ⟨hE, rfl⟩
          refine ⟨.det (fun val => (.bool (false))), ⟨fun _ _ hv => rfl, fun _ _ _ _ _ => trivial⟩, fun val h_ W hx he => ⟨trivial, ?_⟩, ?_⟩
          · replace hx := (Upd.drew _ _).trans hx
            replace hl := hl.ext hx
            replace hk := hk.ext hx
            have hE := Upd.refl (fun _ => False) W
            refine id (X_pick (t := false) (v := (.bool (false))) rfl rfl ?_)
            exact ⟨hE, rfl⟩
          refine ⟨.det (fun val => (.bool (false))), ⟨fun _ _ hv => rfl, fun _ _ _ _ _ => trivial⟩, fun val h_ W hx he => ⟨trivial, ?_⟩, ?_⟩
          · replace hx := (Upd.drew _ _).trans hx
            replace hl := hl.ext hx
            replace hk := hk.ext hx
            have hE := Upd.refl (fun _ => False) W
            refine id (X_move (v := (.bool (false))) rfl ?_)
            exact ⟨hE, rfl⟩
          refine ⟨.det (fun val => l), ⟨fun _ _ hv => rfl, fun _ _ _ _ _ => trivial⟩, fun val h_ W hx he => ⟨⟨31, rfl, rfl⟩, ?_⟩, ?_⟩
          · replace hx := (Upd.drew _ _).trans hx
            replace hl := hl.ext hx
            replace hk := hk.ext hx
            have hE := Upd.refl (fun _ => False) W
            refine id (X_move (v := l) rfl ?_)
            exact ⟨hE, rfl⟩
          refine ⟨.det (fun val => (.int .i64 (((at0 : Nat) : Int)))), ⟨fun _ _ hv => rfl, fun _ _ _ _ _ => trivial⟩, fun val h_ W hx he => ⟨⟨31, rfl, rfl⟩, ?_⟩, ?_⟩
          · replace hx := (Upd.drew _ _).trans hx
            replace hl := hl.ext hx
            replace hk := hk.ext hx
            have hE := Upd.refl (fun _ => False) W
            refine id (X_move (v := (.int .i64 (((at0 : Nat) : Int)))) rfl ?_)
            exact ⟨hE, rfl⟩
          refine ⟨.det (fun val => (pof l ((((at0 : Nat) : Int) : Int).toNat * 6))), ⟨fun _ _ hv => rfl, fun _ _ _ _ _ => trivial⟩, fun val h_ W hx he => ⟨⟨31, rfl, rfl⟩, ?_⟩, ?_⟩
          · replace hx := (Upd.drew _ _).trans hx
            replace hl := hl.ext hx
            replace hk := hk.ext hx
            have hE := Upd.refl (fun _ => False) W
            refine id (X_idx (v := l) (n := es.length) (k := .i64) (i := ((at0 : Nat) : Int)) S22 rfl hl.sv rfl (by omega) (by omega) ?_)
            exact ⟨hE, rfl⟩
          refine ⟨.det (fun val => (pof l ((((at0 : Nat) : Int) : Int).toNat * 6 + 0))), ⟨fun _ _ hv => rfl, fun _ _ _ _ _ => trivial⟩, fun val h_ W hx he => ⟨⟨31, rfl, rfl⟩, ?_⟩, ?_⟩
          · replace hx := (Upd.drew _ _).trans hx
            replace hl := hl.ext hx
            replace hk := hk.ext hx
            have hE := Upd.refl (fun _ => False) W
            refine id (X_fldS (v := l) (o := (((at0 : Nat) : Int) : Int).toNat * 6) Fd39_0 rfl hl.sv (by omega) ?_)
            exact ⟨hE, rfl⟩
          refine ⟨.det (fun val => e0.1), ⟨fun _ _ hv => rfl, fun _ _ _ _ _ => trivial⟩, fun val h_ W hx he => ⟨⟨31, rfl, rfl⟩, ?_⟩, ?_⟩
          · replace hx := (Upd.drew _ _).trans hx
            replace hl := hl.ext hx
            replace hk := hk.ext hx
            have hE := Upd.refl (fun _ => False) W
            refine id (X_load (v := e0.1) T23 rfl (kkey hl (Int.toNat_natCast _) he0) ?_)
            exact ⟨hE, rfl⟩
          refine ⟨.det (fun val => (strV (e0.2.1))), ⟨fun _ _ hv => rfl, fun _ _ _ _ _ => trivial⟩, fun val h_ W hx he => ⟨⟨31, rfl, rfl⟩, ?_⟩, ?_⟩
          · replace hx := (Upd.drew _ _).trans hx
            replace hl := hl.ext hx
            replace hk := hk.ext hx
            have hE := Upd.refl (fun _ => False) W
            refine id (X_str (v := e0.1) (l := e0.2.1) Try.underlying23 Try.underlying5 Try.underlying9 rfl (krd hl he0) ?_)
            exact ⟨hE, rfl⟩
          refine ⟨.det (fun val => key), ⟨fun _ _ hv => rfl, fun _ _ _ _ _ => trivial⟩, fun val h_ W hx he => ⟨⟨31, rfl, rfl⟩, ?_⟩, ?_⟩
          · replace hx := (Upd.drew _ _).trans hx
            replace hl := hl.ext hx
            replace hk := hk.ext hx
            have hE := Upd.refl (fun _ => False) W
            refine id (X_move (v := key) rfl ?_)
            exact ⟨hE, rfl⟩
          refine ⟨.det (fun val => (strV (m))), ⟨fun _ _ hv => rfl, fun _ _ _ _ _ => trivial⟩, fun val h_ W hx he => ⟨⟨31, rfl, rfl⟩, ?_⟩, ?_⟩
          · replace hx := (Upd.drew _ _).trans hx
            replace hl := hl.ext hx
            replace hk := hk.ext hx
            have hE := Upd.refl (fun _ => False) W
            refine id (X_str (v := key) (l := m) Try.underlying23 Try.underlying5 Try.underlying9 rfl hk ?_)
            exact ⟨hE, rfl⟩
          refine ⟨.det (fun val => (.bool (false))), ⟨fun _ _ hv => rfl, fun _ _ _ _ _ => trivial⟩, fun val h_ W hx he => ⟨⟨31, rfl, rfl⟩, ?_⟩, ?_⟩
          · replace hx := (Upd.drew _ _).trans hx
            replace hl := hl.ext hx
            replace hk := hk.ext hx
            have hE := Upd.refl (fun _ => False) W
            refine id (X_scmp (a := e0.2.1) (b := m) (r := false) rfl rfl rfl (gtr_of hle0) ?_)
            exact ⟨hE, rfl⟩
          refine ⟨.det (fun val => (.bool (false))), ⟨fun _ _ hv => rfl, fun _ _ _ _ _ => trivial⟩, fun val h_ W hx he => ⟨trivial, ?_⟩, ?_⟩
          · replace hx := (Upd.drew _ _).trans hx
            replace hl := hl.ext hx
            replace hk := hk.ext hx
            have hE := Upd.refl (fun _ => False) W
            refine id (X_pick (t := false) (v := (.bool (false))) rfl rfl ?_)
            exact ⟨hE, rfl⟩
          refine ⟨.det (fun val => (.bool (false))), ⟨fun _ _ hv => rfl, fun _ _ _ _ _ => trivial⟩, fun val h_ W hx he => ⟨trivial, ?_⟩, ?_⟩
          · replace hx := (Upd.drew _ _).trans hx
            replace hl := hl.ext hx
            replace hk := hk.ext hx
            have hE := Upd.refl (fun _ => False) W
            refine id (X_move (v := (.bool (false))) rfl ?_)
            exact ⟨hE, rfl⟩
          refine ⟨.det (fun val => (.int .i64 (((at0 : Nat) : Int)))), ⟨fun _ _ hv => rfl, fun _ _ _ _ _ => trivial⟩, fun val h_ W hx he => ⟨⟨42, rfl, rfl⟩, ?_⟩, ?_⟩
          · replace hx := (Upd.drew _ _).trans hx
            replace hl := hl.ext hx
            replace hk := hk.ext hx
            have hE := Upd.refl (fun _ => False) W
            refine id (X_move (v := (.int .i64 (((at0 : Nat) : Int)))) rfl ?_)
            exact ⟨hE, rfl⟩
          refine ⟨.det (fun val => (.int .i64 (((at0 + 1 : Nat) : Int)))), ⟨fun _ _ hv => rfl, fun _ _ _ _ _ => trivial⟩, fun val h_ W hx he => ⟨⟨42, rfl, rfl⟩, ?_⟩, ?_⟩
          · replace hx := (Upd.drew _ _).trans hx
            replace hl := hl.ext hx
            replace hk := hk.ext hx
            have hE := Upd.refl (fun _ => False) W
            refine id (X_arith (k := .i64) (a := ((at0 : Nat) : Int)) (b := 1) (r := ((at0 + 1 : Nat) : Int)) rfl rfl rfl (iadd64 (by omega) (by omega) (by omega)) ?_)
            exact ⟨hE, rfl⟩
          refine ⟨.det (fun val => l), ⟨fun _ _ hv => rfl, fun _ _ _ _ _ => trivial⟩, fun val h_ W hx he => ⟨⟨42, rfl, rfl⟩, ?_⟩, ?_⟩
          · replace hx := (Upd.drew _ _).trans hx
            replace hl := hl.ext hx
            replace hk := hk.ext hx
            have hE := Upd.refl (fun _ => False) W
            refine id (X_move (v := l) rfl ?_)
            exact ⟨hE, rfl⟩
          refine ⟨.det (fun val => (.int .i64 (((es.length : Nat) : Int)))), ⟨fun _ _ hv => rfl, fun _ _ _ _ _ => trivial⟩, fun val h_ W hx he => ⟨⟨42, rfl, rfl⟩, ?_⟩, ?_⟩
          · replace hx := (Upd.drew _ _).trans hx
            replace hl := hl.ext hx
            replace hk := hk.ext hx
            have hE := Upd.refl (fun _ => False) W
            refine id (X_len (v := l) (n := es.length) Try.underlying22 rfl hl.sv ?_)
            exact ⟨hE, rfl⟩
          refine ⟨.det (fun val => (.bool (true))), ⟨fun _ _ hv => rfl, fun _ _ _ _ _ => trivial⟩, fun val h_ W hx he => ⟨⟨42, rfl, rfl⟩, ?_⟩, ?_⟩
          · replace hx := (Upd.drew _ _).trans hx
            replace hl := hl.ext hx
            replace hk := hk.ext hx
            have hE := Upd.refl (fun _ => False) W
            refine id (X_cmp (k := .i64) (a := ((at0 + 1 : Nat) : Int)) (b := ((es.length : Nat) : Int)) (r := true) rfl rfl rfl (decide_eq_true (p := (((at0 + 1 : Nat) : Int) < ((es.length : Nat) : Int))) (by have := of_decide_eq_true hs8; omega)) ?_)
            exact ⟨hE, rfl⟩
          refine ⟨.det (fun val => (.bool (true))), ⟨fun _ _ hv => rfl, fun _ _ _ _ _ => trivial⟩, fun val h_ W hx he => ⟨⟨42, rfl, rfl⟩, ?_⟩, ?_⟩
          · replace hx := (Upd.drew _ _).trans hx
            replace hl := hl.ext hx
            replace hk := hk.ext hx
            have hE := Upd.refl (fun _ => False) W
            refine id (X_move (v := (.bool (true))) rfl ?_)
            exact ⟨hE, rfl⟩
          refine ⟨.det (fun val => l), ⟨fun _ _ hv => rfl, fun _ _ _ _ _ => trivial⟩, fun val h_ W hx he => ⟨⟨48, rfl, rfl⟩, ?_⟩, ?_⟩
          · replace hx := (Upd.drew _ _).trans hx
            replace hl := hl.ext hx
            replace hk := hk.ext hx
            have hE := Upd.refl (fun _ => False) W
            refine id (X_move (v := l) rfl ?_)
            exact ⟨hE, rfl⟩
          refine ⟨.det (fun val => (.int .i64 (((at0 : Nat) : Int)))), ⟨fun _ _ hv => rfl, fun _ _ _ _ _ => trivial⟩, fun val h_ W hx he => ⟨⟨48, rfl, rfl⟩, ?_⟩, ?_⟩
          · replace hx := (Upd.drew _ _).trans hx
            replace hl := hl.ext hx
            replace hk := hk.ext hx
            have hE := Upd.refl (fun _ => False) W
            refine id (X_move (v := (.int .i64 (((at0 : Nat) : Int)))) rfl ?_)
            exact ⟨hE, rfl⟩
          refine ⟨.det (fun val => (.int .i64 (((at0 + 1 : Nat) : Int)))), ⟨fun _ _ hv => rfl, fun _ _ _ _ _ => trivial⟩, fun val h_ W hx he => ⟨⟨48, rfl, rfl⟩, ?_⟩, ?_⟩
          · replace hx := (Upd.drew _ _).trans hx
            replace hl := hl.ext hx
            replace hk := hk.ext hx
            have hE := Upd.refl (fun _ => False) W
            refine id (X_arith (k := .i64) (a := ((at0 : Nat) : Int)) (b := 1) (r := ((at0 + 1 : Nat) : Int)) rfl rfl rfl (iadd64 (by omega) (by omega) (by omega)) ?_)
            exact ⟨hE, rfl⟩
          refine ⟨.det (fun val => (pof l ((((at0 + 1 : Nat) : Int) : Int).toNat * 6))), ⟨fun _ _ hv => rfl, fun _ _ _ _ _ => trivial⟩, fun val h_ W hx he => ⟨⟨48, rfl, rfl⟩, ?_⟩, ?_⟩
          · replace hx := (Upd.drew _ _).trans hx
            replace hl := hl.ext hx
            replace hk := hk.ext hx
            have hE := Upd.refl (fun _ => False) W
            refine id (X_idx (v := l) (n := es.length) (k := .i64) (i := ((at0 + 1 : Nat) : Int)) S22 rfl hl.sv rfl (by omega) (by omega) ?_)
            exact ⟨hE, rfl⟩
          refine ⟨.det (fun val => (pof l ((((at0 + 1 : Nat) : Int) : Int).toNat * 6 + 0))), ⟨fun _ _ hv => rfl, fun _ _ _ _ _ => trivial⟩, fun val h_ W hx he => ⟨⟨48, rfl, rfl⟩, ?_⟩, ?_⟩
          · replace hx := (Upd.drew _ _).trans hx
            replace hl := hl.ext hx
            replace hk := hk.ext hx
            have hE := Upd.refl (fun _ => False) W
            refine id (X_fldS (v := l) (o := (((at0 + 1 : Nat) : Int) : Int).toNat * 6) Fd39_0 rfl hl.sv (by omega) ?_)
            exact ⟨hE, rfl⟩
          refine ⟨.det (fun val => e1.1), ⟨fun _ _ hv => rfl, fun _ _ _ _ _ => trivial⟩, fun val h_ W hx he => ⟨⟨48, rfl, rfl⟩, ?_⟩, ?_⟩
          · replace hx := (Upd.drew _ _).trans hx
            replace hl := hl.ext hx
            replace hk := hk.ext hx
            have hE := Upd.refl (fun _ => False) W
            refine id (X_load (v := e1.1) T23 rfl (kkey hl (Int.toNat_natCast _) he1) ?_)
            exact ⟨hE, rfl⟩
          refine ⟨.det (fun val => (strV (e1.2.1))), ⟨fun _ _ hv => rfl, fun _ _ _ _ _ => trivial⟩, fun val h_ W hx he => ⟨⟨48, rfl, rfl⟩, ?_⟩, ?_⟩
          · replace hx := (Upd.drew _ _).trans hx
            replace hl := hl.ext hx
            replace hk := hk.ext hx
            have hE := Upd.refl (fun _ => False) W
            refine id (X_str (v := e1.1) (l := e1.2.1) Try.underlying23 Try.underlying5 Try.underlying9 rfl (krd hl he1) ?_)
            exact ⟨hE, rfl⟩
          refine ⟨.det (fun val => key), ⟨fun _ _ hv => rfl, fun _ _ _ _ _ => trivial⟩, fun val h_ W hx he => ⟨⟨48, rfl, rfl⟩, ?_⟩, ?_⟩
          · replace hx := (Upd.drew _ _).trans hx
            replace hl := hl.ext hx
            replace hk := hk.ext hx
            have hE := Upd.refl (fun _ => False) W
            refine id (X_move (v := key) rfl ?_)
            exact ⟨hE, rfl⟩
          refine ⟨.det (fun val => (strV (m))), ⟨fun _ _ hv => rfl, fun _ _ _ _ _ => trivial⟩, fun val h_ W hx he => ⟨⟨48, rfl, rfl⟩, ?_⟩, ?_⟩
          · replace hx := (Upd.drew _ _).trans hx
            replace hl := hl.ext hx
            replace hk := hk.ext hx
            have hE := Upd.refl (fun _ => False) W
            refine id (X_str (v := key) (l := m) Try.underlying23 Try.underlying5 Try.underlying9 rfl hk ?_)
            exact ⟨hE, rfl⟩
          intro val W9 hx9 he9
          replace hx9 := (Upd.drew _ _).trans hx9
          have hz9 := hx9.size
          replace hl := hl.ext hx9
          replace hk := hk.ext hx9
          replace hU := hU.trans (Ext.upd hx9)
          refine L_gy (dj := 48) rfl rfl rfl (X_scmp (a := e1.2.1) (b := m) (r := false) rfl rfl rfl (leq_of (hgt0 _ _ (Nat.lt_succ_self _) he1)) ?_)
          refine L_gy (dj := 42) rfl rfl rfl (X_pick (t := true) (v := (.bool (false))) rfl rfl ?_)
          refine L_op rfl (X_pick (t := false) (v := (.bool (false))) rfl rfl ?_)
          refine L_nil ?_
          refine T_n ?_
          refine W_cf rfl ?_
          refine W_skip ?_
          refine T_n ?_
          refine W_seq ?_
          refine W_seq ?_
          refine W_reg ?_
          refine L_op rfl (X_assign (v := (.int .i64 (0))) rfl ?_)
          refine L_nil ?_
          refine T_n ?_
          refine W_block ?_
          refine W_loop (α := Nat) [4, 6, 61, 62, 63, 64, 65, 66, 67, 68, 69, 70, 71, 72, 73, 74, 75] (fun i => [(6, (.int .i64 (((i : Nat) : Int))))]) (fun i w_ => i ≤ es.length ∧ NRd LK w_ 0 n0 l es ∧ Rd w_ 1 key m.length (m.map byteV) ∧ Upd (fun i => n0 ≤ i) w w_) (fun i => es.length - i) ⟨rfl, 0, ⟨Nat.zero_le _, hl, hk, hU⟩, Out.refl _ _, ⟨rfl, trivial⟩⟩ ?_
          rintro i w12 _ ⟨hil, hl, hk, hU⟩
          have hsz_ := hU.size
          refine W_seq ?_
          refine W_seq ?_
          refine W_reg ?_
          refine L_op rfl (X_move (v := (.int .i64 (((i : Nat) : Int)))) rfl ?_)
          refine L_op rfl (X_move (v := l) rfl ?_)
          refine L_op rfl (X_len (v := l) (n := es.length) Try.underlying22 rfl hl.sv ?_)
          by_cases hc13 : (((i : Nat) : Int) : Int) < (((es.length : Nat) : Int))
          · refine L_op rfl (X_cmp (k := .i64) (a := ((i : Nat) : Int)) (b := ((es.length : Nat) : Int)) (r := true) rfl rfl rfl (decide_eq_true (p := ((((i : Nat) : Int)) : Int) < ((((es.length : Nat) : Int)) : Int)) (by omega)) ?_)
            have hi : i < es.length := by omega
            obtain ⟨e, he⟩ : ∃ e, es[i]? = some e := ⟨_, List.getElem?_eq_getElem hi⟩
            refine L_nil ?_
            refine T_n ?_
            refine W_ct rfl ?_
            refine W_skip ?_
            refine T_n ?_
            refine W_seq ?_
            refine W_block ?_
            refine W_seq ?_
            refine W_reg ?_
            refine L_op rfl (X_move (v := l) rfl ?_)
            refine L_op rfl (X_move (v := l) rfl ?_)
            refine L_op rfl (X_move (v := (.int .i64 (((i : Nat) : Int)))) rfl ?_)
            refine L_op rfl (X_idx (v := l) (n := es.length) (k := .i64) (i := ((i : Nat) : Int)) S22 rfl hl.sv rfl (by omega) (by omega) ?_)
            refine L_op rfl (X_fldS (v := l) (o := (((i : Nat) : Int) : Int).toNat * 6) Fd39_0 rfl hl.sv (by omega) ?_)
            refine L_op rfl (X_load (v := e.1) T23 rfl (kkey hl (Int.toNat_natCast _) he) ?_)
            refine L_op rfl (X_fn (vs := [l, e.1]) en14 rfl (CT.mono (c_find l e.1 es e.2.1 _ 0 n0 (by have := hU.size; omega) hl (krd hl he)) ?_))
            rintro _ w15 ⟨⟨ati, rfl, hFi⟩, hu15⟩
            have hz15 := hu15.size
            replace hl := hl.ext hu15
            replace hk := hk.ext hu15
            replace hU := hU.trans (Ext.upd hu15)
            obtain rfl := find_uniq (find_self hRi he) hFi
            refine L_op rfl (X_move (v := (.int .i64 (((i : Nat) : Int)))) rfl ?_)
            refine L_op rfl (X_cmp (k := .i64) (a := ((i : Nat) : Int)) (b := ((i : Nat) : Int)) (r := false) rfl rfl rfl (decide_eq_false (fun h => h rfl)) ?_)
            refine L_nil ?_
            refine T_n ?_
            refine W_cf rfl ?_
            refine W_skip ?_
            refine B_n ?_
            refine T_n ?_
            refine W_reg ?_
            refine L_op rfl (X_move (v := (.int .i64 (((i : Nat) : Int)))) rfl ?_)
            refine L_op rfl (X_arith (k := .i64) (a := ((i : Nat) : Int)) (b := 1) (r := ((i + 1 : Nat) : Int)) rfl rfl rfl (iadd64 (by omega) (by omega) (by omega)) ?_)
            refine L_op rfl (X_assign (v := (.int .i64 (((i + 1 : Nat) : Int)))) rfl ?_)
            refine L_nil ?_
            refine T_n ?_
            exact ⟨rfl, i + 1, ⟨⟨hi, hl, hk, hU⟩, (by show es.length - (i + 1) < es.length - i; omega)⟩, (Out.mk rfl), ⟨rfl, trivial⟩⟩
          · refine L_op rfl (X_cmp (k := .i64) (a := ((i : Nat) : Int)) (b := ((es.length : Nat) : Int)) (r := false) rfl rfl rfl (decide_eq_false (p := ((((i : Nat) : Int)) : Int) < ((((es.length : Nat) : Int)) : Int)) (by omega)) ?_)
            refine L_nil ?_
            refine T_n ?_
            refine W_cf rfl ?_
            refine W_exit ?_
            refine T_e ?_
            refine T_e ?_
            refine B_x ?_
            refine T_n ?_
            refine W_seq ?_
            refine W_reg ?_
            refine L_op rfl (X_move (v := key) rfl ?_)
            refine L_op rfl (X_fn (vs := [(.slice none 0 0), key]) en14 rfl (CT.mono (c_find (.slice none 0 0) key [] m _ 0 0 (Nat.zero_le _) (NRd.nil _ _ _) hk) ?_))
            rintro _ w16 ⟨⟨atn, rfl, hFn⟩, hu16⟩
            have hz16 := hu16.size
            replace hl := hl.ext hu16
            replace hk := hk.ext hu16
            replace hU := hU.trans (Ext.upd hu16)
            obtain rfl := find_nil hFn
            refine L_op rfl (X_cmp (k := .i64) (a := 0) (b := 0) (r := true) rfl rfl rfl rfl ?_)
            refine L_op rfl (X_move (v := (.bool (true))) rfl ?_)
            refine L_gy (dj := 79) rfl rfl rfl (X_fn (vs := []) en9 rfl (CT.mono (c_wakes _) ?_))
            rintro vb17 w17 ⟨hvb17, hu17⟩
            have hz17 := hu17.size
            replace hl := hl.ext hu17
            replace hk := hk.ext hu17
            replace hU := hU.trans (Ext.upd hu17)
            subst hvb17
            refine L_op rfl (X_pick (t := true) (v := (.bool (true))) rfl rfl ?_)
            refine L_op rfl (X_assign (v := (.bool (true))) rfl ?_)
            refine L_nil ?_
            refine T_n ?_
            refine W_ret ?_
            exact BQ_r (End_1 Try.results4 (v := .bool true) rfl ⟨rfl, hU.own hn0⟩)
        · refine W_draw 35 [[], [0], [0, 1], [0, 1, 2], [0, 1, 2], [0, 1, 2, 4], [0, 1, 2, 3, 4, 5], [0, 1, 2, 3, 4, 5, 6], [0, 1, 2, 3, 4, 5, 6, 7], [0, 1, 2, 3, 4, 5, 6, 7, 8], [0, 1, 2, 3, 4, 5, 6, 7, 8], [0, 1, 2, 3, 4, 5, 6, 7, 8, 9, 10], [0, 1, 2, 3, 4, 5, 6, 7, 8, 9, 10, 11], [0, 1, 2, 3, 4, 5, 6, 7, 8, 9, 10, 11, 12], [0, 1, 2, 3, 4, 5, 6, 7, 8, 9, 10, 11, 12, 13], [0, 1, 2, 3, 4, 5, 6, 7, 8], [0, 1, 2, 3, 4, 5, 6, 7, 8, 15], [0, 1, 2, 3, 4, 5, 6, 7, 8, 9, 10, 11, 12, 13, 14, 15, 16], [0, 1, 2, 3, 4, 5, 6, 7, 8, 9, 10, 11, 12, 13, 14, 15, 16, 17], [0, 1, 2, 3, 4, 5, 6, 7, 8, 9, 10, 11, 12, 13, 14, 15, 16, 17, 18], [0, 1, 2, 3, 4, 5, 6, 7, 8, 9, 10, 11, 12, 13, 14, 15, 16, 17, 18, 19], [0, 1, 2, 3, 4, 5, 6, 7, 8, 9, 10, 11, 12, 13, 14, 15, 16, 17, 18, 19, 20], [0, 1, 2, 3, 4, 5, 6, 7, 8, 9, 10, 11, 12, 13, 14, 15, 16, 17, 18, 19], [0, 1, 2, 3, 4, 5, 6, 7, 8, 9, 10, 11, 12, 13, 14, 15, 16, 17, 18, 19, 22], [0, 1, 2, 3, 4, 5, 6, 7, 8, 9, 10, 11, 12, 13, 14, 15, 16, 17, 18, 19, 20, 21, 22, 23], [0, 1, 2, 3, 4, 5, 6, 7, 8, 9, 10, 11, 12, 13, 14, 15, 16, 17, 18, 19, 20, 21, 22, 23, 24], [0, 1, 2, 3, 4, 5, 6, 7, 8, 9, 10, 11, 12, 13, 14, 15, 16, 17, 18, 19, 20, 21, 22, 23, 24, 25], [0, 1, 2, 3, 4, 5, 6, 7, 8, 9, 10, 11, 12, 13, 14, 15, 16, 17, 18, 19, 20, 21, 22, 23, 24, 25], [0, 1, 2, 3, 4, 5, 6, 7, 8, 9, 10, 11, 12, 13, 14, 15, 16, 17, 18, 19, 20, 21, 22, 23, 24, 25, 27], [0, 1, 2, 3, 4, 5, 6, 7, 8, 9, 10, 11, 12, 13, 14, 15, 16, 17, 18, 19, 20, 21, 22, 23, 24, 25, 26, 27, 28], [0, 1, 2, 3, 4, 5, 6, 7, 8, 9, 10, 11, 12, 13, 14, 15, 16, 17, 18, 19, 20, 21, 22, 23, 24, 25, 26, 27, 28, 29], [0, 1, 2, 3, 4, 5, 6, 7, 8, 9, 10, 11, 12, 13, 14, 15, 16, 17, 18, 19, 20, 21, 22, 23, 24, 25, 26, 27, 28, 29, 30], [0, 1, 2, 3, 4, 5, 6, 7, 8, 9, 10, 11, 12, 13, 14, 15, 16, 17, 18, 19, 20, 21, 22, 23, 24, 25, 26, 27, 28, 29, 30, 31], [0, 1, 2, 3, 4, 5, 6, 7, 8, 9, 10, 11, 12, 13, 14, 15, 16, 17, 18, 19, 20, 21, 22, 23, 24, 25], [0, 1, 2, 3, 4, 5, 6, 7, 8, 9, 10, 11, 12, 13, 14, 15, 16, 17, 18, 19, 20, 21, 22, 23, 24, 25, 33], [0, 1, 2, 3, 4, 5, 6, 7, 8, 9, 10, 11, 12, 13, 14, 15, 16, 17, 18, 19, 20, 21, 22, 23, 24, 25, 26, 27, 28, 29, 30, 31, 32, 33, 34], [0, 1, 2, 3, 4, 5, 6, 7, 8, 9, 10, 11, 12, 13, 14, 15, 16, 17, 18, 19, 20, 21, 22, 23, 24, 25, 26, 27, 28, 29, 30, 31, 32, 33, 34, 35], [0, 1, 2, 3, 4, 5, 6, 7, 8, 9, 10, 11, 12, 13, 14, 15, 16, 17, 18, 19, 20, 21, 22, 23, 24, 25, 26, 27, 28, 29, 30, 31, 32, 33, 34, 35, 36]] mixed (by kernel_rfl) ?_
          refine ⟨.det (fun val => (.int .i64 (((at0 : Nat) : Int)))), ⟨fun _ _ hv => rfl, fun _ _ _ _ _ => trivial⟩, fun val h_ W hx he => ⟨trivial, ?_⟩, ?_⟩
          · replace hx := (Upd.drew _ _).trans hx
            replace hl := hl.ext hx
            replace hk := hk.ext hx
            have hE := Upd.refl (fun _ => False) W
            refine id (X_move (v := (.int .i64 (((at0 : Nat) : Int)))) rfl ?_)
            exact ⟨hE, rfl⟩
          refine ⟨.det (fun val => (.bool (false))), ⟨fun _ _ hv => rfl, fun _ _ _ _ _ => trivial⟩, fun val h_ W hx he => ⟨trivial, ?_⟩, ?_⟩
          · replace hx := (Upd.drew _ _).trans hx
            replace hl := hl.ext hx
            replace hk := hk.ext hx
            have hE := Upd.refl (fun _ => False) W
            refine id (X_cmp (k := .i64) (a := ((at0 : Nat) : Int)) (b := 0) (r := false) rfl rfl rfl (decide_eq_false (p := ((((at0 : Nat) : Int)) : Int) < ((0) : Int)) (by omega)) ?_)
            exact ⟨hE, rfl⟩
          refine ⟨.det (fun val => (.bool (false))), ⟨fun _ _ hv => rfl, fun _ _ _ _ _ => trivial⟩, fun val h_ W hx he => ⟨trivial, ?_⟩, ?_⟩
          · replace hx := (Upd.drew _ _).trans hx
            replace hl := hl.ext hx
            replace hk := hk.ext hx
            have hE := Upd.refl (fun _ => False) W
            refine id (X_move (v := (.bool (false))) rfl ?_)
            exact ⟨hE, rfl⟩
          refine ⟨.det (fun val => (.int .i64 (((at0 : Nat) : Int)))), ⟨fun _ _ hv => rfl, fun _ _ _ _ _ => trivial⟩, fun val h_ W hx he => ⟨⟨25, rfl, rfl⟩, ?_⟩, ?_⟩
          · replace hx := (Upd.drew _ _).trans hx
            replace hl := hl.ext hx
            replace hk := hk.ext hx
            have hE := Upd.refl (fun _ => False) W
            refine id (X_move (v := (.int .i64 (((at0 : Nat) : Int)))) rfl ?_)
            exact ⟨hE, rfl⟩
          refine ⟨.det (fun val => l), ⟨fun _ _ hv => rfl, fun _ _ _ _ _ => trivial⟩, fun val h_ W hx he => ⟨⟨25, rfl, rfl⟩, ?_⟩, ?_⟩
          · replace hx := (Upd.drew _ _).trans hx
            replace hl := hl.ext hx
            replace hk := hk.ext hx
            have hE := Upd.refl (fun _ => False) W
            refine id (X_move (v := l) rfl ?_)
            exact ⟨hE, rfl⟩
          refine ⟨.det (fun val => (.int .i64 (((es.length : Nat) : Int)))), ⟨fun _ _ hv => rfl, fun _ _ _ _ _ => trivial⟩, fun val h_ W hx he => ⟨⟨25, rfl, rfl⟩, ?_⟩, ?_⟩
          · replace hx := (Upd.drew _ _).trans hx
            replace hl := hl.ext hx
            replace hk := hk.ext hx
            have hE := Upd.refl (fun _ => False) W
            refine id (X_len (v := l) (n := es.length) Try.underlying22 rfl hl.sv ?_)
            exact ⟨hE, rfl⟩
          refine ⟨.det (fun val => (.bool (false))), ⟨fun _ _ hv => rfl, fun _ _ _ _ _ => trivial⟩, fun val h_ W hx he => ⟨⟨25, rfl, rfl⟩, ?_⟩, ?_⟩
          · replace hx := (Upd.drew _ _).trans hx
            replace hl := hl.ext hx
            replace hk := hk.ext hx
            have hE := Upd.refl (fun _ => False) W
            refine id (X_cmp (k := .i64) (a := ((at0 : Nat) : Int)) (b := ((es.length : Nat) : Int)) (r := false) rfl rfl rfl (decide_eq_false (p := ((((es.length : Nat) : Int)) : Int) ≤ ((((at0 : Nat) : Int)) : Int)) (by omega)) ?_)
            exact ⟨hE, rfl⟩
          refine ⟨.det (fun val => (.bool (false))), ⟨fun _ _ hv => rfl, fun _ _ _ _ _ => trivial⟩, fun val h_ W hx he => ⟨trivial, ?_⟩, ?_⟩
          · replace hx := (Upd.drew _ _).trans hx
            replace hl := hl.ext hx
            replace hk := hk.ext hx
            have hE := Upd.refl (fun _ => False) W
            refine id (X_pick (t := false) (v := (.bool (false))) rfl rfl ?_)
            exact ⟨hE, rfl⟩
          refine ⟨.det (fun val => (.bool (false))), ⟨fun _ _ hv => rfl, fun _ _ _ _ _ => trivial⟩, fun val h_ W hx he => ⟨trivial, ?_⟩, ?_⟩
          · replace hx := (Upd.drew _ _).trans hx
            replace hl := hl.ext hx
            replace hk := hk.ext hx
            have hE := Upd.refl (fun _ => False) W
            refine id (X_move (v := (.bool (false))) rfl ?_)
            exact ⟨hE, rfl⟩
          refine ⟨.det (fun val => l), ⟨fun _ _ hv => rfl, fun _ _ _ _ _ => trivial⟩, fun val h_ W hx he => ⟨⟨31, rfl, rfl⟩, ?_⟩, ?_⟩
          · replace hx := (Upd.drew _ _).trans hx
            replace hl := hl.ext hx
            replace hk := hk.ext hx
            have hE := Upd.refl (fun _ => False) W
            refine id (X_move (v := l) rfl ?_)
            exact ⟨hE, rfl⟩
          refine ⟨.det (fun val => (.int .i64 (((at0 : Nat) : Int)))), ⟨fun _ _ hv => rfl, fun _ _ _ _ _ => trivial⟩, fun val h_ W hx he => ⟨⟨31, rfl, rfl⟩, ?_⟩, ?_⟩
          · replace hx := (Upd.drew _ _).trans hx
            replace hl := hl.ext hx
            replace hk := hk.ext hx
            have hE := Upd.refl (fun _ => False) W
            refine id (X_move (v := (.int .i64 (((at0 : Nat) : Int)))) rfl ?_)
            exact ⟨hE, rfl⟩
          refine ⟨.det (fun val => (pof l ((((at0 : Nat) : Int) : Int).toNat * 6))), ⟨fun _ _ hv => rfl, fun _ _ _ _ _ => trivial⟩, fun val h_ W hx he => ⟨⟨31, rfl, rfl⟩, ?_⟩, ?_⟩
          · replace hx := (Upd.drew _ _).trans hx
            replace hl := hl.ext hx
            replace hk := hk.ext hx
            have hE := Upd.refl (fun _ => False) W
            refine id (X_idx (v := l) (n := es.length) (k := .i64) (i := ((at0 : Nat) : Int)) S22 rfl hl.sv rfl (by omega) (by omega) ?_)
            exact ⟨hE, rfl⟩
          refine ⟨.det (fun val => (pof l ((((at0 : Nat) : Int) : Int).toNat * 6 + 0))), ⟨fun _ _ hv => rfl, fun _ _ _ _ _ => trivial⟩, fun val h_ W hx he => ⟨⟨31, rfl, rfl⟩, ?_⟩, ?_⟩
          · replace hx := (Upd.drew _ _).trans hx
            replace hl := hl.ext hx
            replace hk := hk.ext hx
            have hE := Upd.refl (fun _ => False) W
            refine id (X_fldS (v := l) (o := (((at0 : Nat) : Int) : Int).toNat * 6) Fd39_0 rfl hl.sv (by omega) ?_)
            exact ⟨hE, rfl⟩
          refine ⟨.det (fun val => e0.1), ⟨fun _ _ hv => rfl, fun _ _ _ _ _ => trivial⟩, fun val h_ W hx he => ⟨⟨31, rfl, rfl⟩, ?_⟩, ?_⟩
          · replace hx := (Upd.drew _ _).trans hx
            replace hl := hl.ext hx
            replace hk := hk.ext hx
            have hE := Upd.refl (fun _ => False) W
            refine id (X_load (v := e0.1) T23 rfl (kkey hl (Int.toNat_natCast _) he0) ?_)
            exact ⟨hE, rfl⟩
          refine ⟨.det (fun val => (strV (e0.2.1))), ⟨fun _ _ hv => rfl, fun _ _ _ _ _ => trivial⟩, fun val h_ W hx he => ⟨⟨31, rfl, rfl⟩, ?_⟩, ?_⟩
          · replace hx := (Upd.drew _ _).trans hx
            replace hl := hl.ext hx
            replace hk := hk.ext hx
            have hE := Upd.refl (fun _ => False) W
            refine id (X_str (v := e0.1) (l := e0.2.1) Try.underlying23 Try.underlying5 Try.underlying9 rfl (krd hl he0) ?_)
            exact ⟨hE, rfl⟩
          refine ⟨.det (fun val => key), ⟨fun _ _ hv => rfl, fun _ _ _ _ _ => trivial⟩, fun val h_ W hx he => ⟨⟨31, rfl, rfl⟩, ?_⟩, ?_⟩
          · replace hx := (Upd.drew _ _).trans hx
            replace hl := hl.ext hx
            replace hk := hk.ext hx
            have hE := Upd.refl (fun _ => False) W
            refine id (X_move (v := key) rfl ?_)
            exact ⟨hE, rfl⟩
          refine ⟨.det (fun val => (strV (m))), ⟨fun _ _ hv => rfl, fun _ _ _ _ _ => trivial⟩, fun val h_ W hx he => ⟨⟨31, rfl, rfl⟩, ?_⟩, ?_⟩
          · replace hx := (Upd.drew _ _).trans hx
            replace hl := hl.ext hx
            replace hk := hk.ext hx
            have hE := Upd.refl (fun _ => False) W
            refine id (X_str (v := key) (l := m) Try.underlying23 Try.underlying5 Try.underlying9 rfl hk ?_)
            exact ⟨hE, rfl⟩
          refine ⟨.det (fun val => (.bool (false))), ⟨fun _ _ hv => rfl, fun _ _ _ _ _ => trivial⟩, fun val h_ W hx he => ⟨⟨31, rfl, rfl⟩, ?_⟩, ?_⟩
          · replace hx := (Upd.drew _ _).trans hx
            replace hl := hl.ext hx
            replace hk := hk.ext hx
            have hE := Upd.refl (fun _ => False) W
            refine id (X_scmp (a := e0.2.1) (b := m) (r := false) rfl rfl rfl (gtr_of hle0) ?_)
            exact ⟨hE, rfl⟩
          refine ⟨.det (fun val => (.bool (false))), ⟨fun _ _ hv => rfl, fun _ _ _ _ _ => trivial⟩, fun val h_ W hx he => ⟨trivial, ?_⟩, ?_⟩
          · replace hx := (Upd.drew _ _).trans hx
            replace hl := hl.ext hx
            replace hk := hk.ext hx
            have hE := Upd.refl (fun _ => False) W
            refine id (X_pick (t := false) (v := (.bool (false))) rfl rfl ?_)
            exact ⟨hE, rfl⟩
          refine ⟨.det (fun val => (.bool (false))), ⟨fun _ _ hv => rfl, fun _ _ _ _ _ => trivial⟩, fun val h_ W hx he => ⟨trivial, ?_⟩, ?_⟩
          · replace hx := (Upd.drew _ _).trans hx
            replace hl := hl.ext hx
            replace hk := hk.ext hx
            have hE := Upd.refl (fun _ => False) W
            refine id (X_move (v := (.bool (false))) rfl ?_)
            exact ⟨hE, rfl⟩
          refine ⟨.det (fun val => (.int .i64 (((at0 : Nat) : Int)))), ⟨fun _ _ hv => rfl, fun _ _ _ _ _ => trivial⟩, fun val h_ W hx he => ⟨⟨42, rfl, rfl⟩, ?_⟩, ?_⟩
          · replace hx := (Upd.drew _ _).trans hx
            replace hl := hl.ext hx
            replace hk := hk.ext hx
            have hE := Upd.refl (fun _ => False) W
            refine id (X_move (v := (.int .i64 (((at0 : Nat) : Int)))) rfl ?_)
            exact ⟨hE, rfl⟩
          refine ⟨.det (fun val => (.int .i64 (((at0 + 1 : Nat) : Int)))), ⟨fun _ _ hv => rfl, fun _ _ _ _ _ => trivial⟩, fun val h_ W hx he => ⟨⟨42, rfl, rfl⟩, ?_⟩, ?_⟩
          · replace hx := (Upd.drew _ _).trans hx
            replace hl := hl.ext hx
            replace hk := hk.ext hx
            have hE := Upd.refl (fun _ => False) W
            refine id (X_arith (k := .i64) (a := ((at0 : Nat) : Int)) (b := 1) (r := ((at0 + 1 : Nat) : Int)) rfl rfl rfl (iadd64 (by omega) (by omega) (by omega)) ?_)
            exact ⟨hE, rfl⟩
          refine ⟨.det (fun val => l), ⟨fun _ _ hv => rfl, fun _ _ _ _ _ => trivial⟩, fun val h_ W hx he => ⟨⟨42, rfl, rfl⟩, ?_⟩, ?_⟩
          · replace hx := (Upd.drew _ _).trans hx
            replace hl := hl.ext hx
            replace hk := hk.ext hx
            have hE := Upd.refl (fun _ => False) W
            refine id (X_move (v := l) rfl ?_)
            exact ⟨hE, rfl⟩
          refine ⟨.det (fun val => (.int .i64 (((es.length : Nat) : Int)))), ⟨fun _ _ hv => rfl, fun _ _ _ _ _ => trivial⟩, fun val h_ W hx he => ⟨⟨42, rfl, rfl⟩, ?_⟩, ?_⟩
          · replace hx := (Upd.drew _ _).trans hx
            replace hl := hl.ext hx
            replace hk := hk.ext hx
            have hE := Upd.refl (fun _ => False) W
            refine id (X_len (v := l) (n := es.length) Try.underlying22 rfl hl.sv ?_)
            exact ⟨hE, rfl⟩
          refine ⟨.det (fun val => (.bool (false))), ⟨fun _ _ hv => rfl, fun _ _ _ _ _ => trivial⟩, fun val h_ W hx he => ⟨⟨42, rfl, rfl⟩, ?_⟩, ?_⟩
          · replace hx := (Upd.drew _ _).trans hx
            replace hl := hl.ext hx
            replace hk := hk.ext hx
            have hE := Upd.refl (fun _ => False) W
            refine id (X_cmp (k := .i64) (a := ((at0 + 1 : Nat) : Int)) (b := ((es.length : Nat) : Int)) (r := false) rfl rfl rfl (decide_eq_false (p := (((at0 + 1 : Nat) : Int) < ((es.length : Nat) : Int))) (by have := of_decide_eq_false hs8; omega)) ?_)
            exact ⟨hE, rfl⟩
          refine ⟨.det (fun val => (.bool (false))), ⟨fun _ _ hv => rfl, fun _ _ _ _ _ => trivial⟩, fun val h_ W hx he => ⟨⟨42, rfl, rfl⟩, ?_⟩, ?_⟩
          · replace hx := (Upd.drew _ _).trans hx
            replace hl := hl.ext hx
            replace hk := hk.ext hx
            have hE := Upd.refl (fun _ => False) W
            refine id (X_move (v := (.bool (false))) rfl ?_)
            exact ⟨hE, rfl⟩
          refine ⟨.no, ⟨fun _ _ _ => trivial, fun _ _ _ _ _ => trivial⟩, fun val h_ W hx he => ⟨48, rfl, .inl rfl⟩, ?_⟩
          refine ⟨.no, ⟨fun _ _ _ => trivial, fun _ _ _ _ _ => trivial⟩, fun val h_ W hx he => ⟨48, rfl, .inl rfl⟩, ?_⟩
          refine ⟨.no, ⟨fun _ _ _ => trivial, fun _ _ _ _ _ => trivial⟩, fun val h_ W hx he => ⟨48, rfl, .inl rfl⟩, ?_⟩
          refine ⟨.no, ⟨fun _ _ _ => trivial, fun _ _ _ _ _ => trivial⟩, fun val h_ W hx he => ⟨48, rfl, .inl rfl⟩, ?_⟩
          refine ⟨.no, ⟨fun _ _ _ => trivial, fun _ _ _ _ _ => trivial⟩, fun val h_ W hx he => ⟨48, rfl, .inl rfl⟩, ?_⟩
          refine ⟨.no, ⟨fun _ _ _ => trivial, fun _ _ _ _ _ => trivial⟩, fun val h_ W hx he => ⟨48, rfl, .inl rfl⟩, ?_⟩
          refine ⟨.no, ⟨fun _ _ _ => trivial, fun _ _ _ _ _ => trivial⟩, fun val h_ W hx he => ⟨48, rfl, .inl rfl⟩, ?_⟩
          refine ⟨.no, ⟨fun _ _ _ => trivial, fun _ _ _ _ _ => trivial⟩, fun val h_ W hx he => ⟨48, rfl, .inl rfl⟩, ?_⟩
          refine ⟨.no, ⟨fun _ _ _ => trivial, fun _ _ _ _ _ => trivial⟩, fun val h_ W hx he => ⟨48, rfl, .inl rfl⟩, ?_⟩
          intro val W18 hx18 he18
          replace hx18 := (Upd.drew _ _).trans hx18
          have hz18 := hx18.size
          replace hl := hl.ext hx18
          replace hk := hk.ext hx18
          replace hU := hU.trans (Ext.upd hx18)
          refine L_gn (dj := 48) (t := false) rfl rfl rfl rfl ?_
          refine L_gy (dj := 42) rfl rfl rfl (X_pick (t := false) (v := (.bool (false))) rfl rfl ?_)
          refine L_op rfl (X_pick (t := false) (v := (.bool (false))) rfl rfl ?_)
          refine L_nil ?_
          refine T_n ?_
          refine W_cf rfl ?_
          refine W_skip ?_
          refine T_n ?_
          refine W_seq ?_
          refine W_seq ?_
          refine W_reg ?_
          refine L_op rfl (X_assign (v := (.int .i64 (0))) rfl ?_)
          refine L_nil ?_
          refine T_n ?_
          refine W_block ?_
          refine W_loop (α := Nat) [4, 6, 61, 62, 63, 64, 65, 66, 67, 68, 69, 70, 71, 72, 73, 74, 75] (fun i => [(6, (.int .i64 (((i : Nat) : Int))))]) (fun i w_ => i ≤ es.length ∧ NRd LK w_ 0 n0 l es ∧ Rd w_ 1 key m.length (m.map byteV) ∧ Upd (fun i => n0 ≤ i) w w_) (fun i => es.length - i) ⟨rfl, 0, ⟨Nat.zero_le _, hl, hk, hU⟩, Out.refl _ _, ⟨rfl, trivial⟩⟩ ?_
          rintro i w20 _ ⟨hil, hl, hk, hU⟩
          have hsz_ := hU.size
          refine W_seq ?_
          refine W_seq ?_
          refine W_reg ?_
          refine L_op rfl (X_move (v := (.int .i64 (((i : Nat) : Int)))) rfl ?_)
          refine L_op rfl (X_move (v := l) rfl ?_)
          refine L_op rfl (X_len (v := l) (n := es.length) Try.underlying22 rfl hl.sv ?_)
          by_cases hc21 : (((i : Nat) : Int) : Int) < (((es.length : Nat) : Int))
          · refine L_op rfl (X_cmp (k := .i64) (a := ((i : Nat) : Int)) (b := ((es.length : Nat) : Int)) (r := true) rfl rfl rfl (decide_eq_true (p := ((((i : Nat) : Int)) : Int) < ((((es.length : Nat) : Int)) : Int)) (by omega)) ?_)
            have hi : i < es.length := by omega
            obtain ⟨e, he⟩ : ∃ e, es[i]? = some e := ⟨_, List.getElem?_eq_getElem hi⟩
            refine L_nil ?_
            refine T_n ?_
            refine W_ct rfl ?_
            refine W_skip ?_
            refine T_n ?_
            refine W_seq ?_
            refine W_block ?_
            refine W_seq ?_
            refine W_reg ?_
            refine L_op rfl (X_move (v := l) rfl ?_)
            refine L_op rfl (X_move (v := l) rfl ?_)
            refine L_op rfl (X_move (v := (.int .i64 (((i : Nat) : Int)))) rfl ?_)
            refine L_op rfl (X_idx (v := l) (n := es.length) (k := .i64) (i := ((i : Nat) : Int)) S22 rfl hl.sv rfl (by omega) (by omega) ?_)
            refine L_op rfl (X_fldS (v := l) (o := (((i : Nat) : Int) : Int).toNat * 6) Fd39_0 rfl hl.sv (by omega) ?_)
            refine L_op rfl (X_load (v := e.1) T23 rfl (kkey hl (Int.toNat_natCast _) he) ?_)
            refine L_op rfl (X_fn (vs := [l, e.1]) en14 rfl (CT.mono (c_find l e.1 es e.2.1 _ 0 n0 (by have := hU.size; omega) hl (krd hl he)) ?_))
            rintro _ w23 ⟨⟨ati, rfl, hFi⟩, hu23⟩
            have hz23 := hu23.size
            replace hl := hl.ext hu23
            replace hk := hk.ext hu23
            replace hU := hU.trans (Ext.upd hu23)
            obtain rfl := find_uniq (find_self hRi he) hFi
            refine L_op rfl (X_move (v := (.int .i64 (((i : Nat) : Int)))) rfl ?_)
            refine L_op rfl (X_cmp (k := .i64) (a := ((i : Nat) : Int)) (b := ((i : Nat) : Int)) (r := false) rfl rfl rfl (decide_eq_false (fun h => h rfl)) ?_)
            refine L_nil ?_
            refine T_n ?_
            refine W_cf rfl ?_
            refine W_skip ?_
            refine B_n ?_
            refine T_n ?_
            refine W_reg ?_
            refine L_op rfl (X_move (v := (.int .i64 (((i : Nat) : Int)))) rfl ?_)
            refine L_op rfl (X_arith (k := .i64) (a := ((i : Nat) : Int)) (b := 1) (r := ((i + 1 : Nat) : Int)) rfl rfl rfl (iadd64 (by omega) (by omega) (by omega)) ?_)
            refine L_op rfl (X_assign (v := (.int .i64 (((i + 1 : Nat) : Int)))) rfl ?_)
            refine L_nil ?_
            refine T_n ?_
            exact ⟨rfl, i + 1, ⟨⟨hi, hl, hk, hU⟩, (by show es.length - (i + 1) < es.length - i; omega)⟩, (Out.mk rfl), ⟨rfl, trivial⟩⟩
          · refine L_op rfl (X_cmp (k := .i64) (a := ((i : Nat) : Int)) (b := ((es.length : Nat) : Int)) (r := false) rfl rfl rfl (decide_eq_false (p := ((((i : Nat) : Int)) : Int) < ((((es.length : Nat) : Int)) : Int)) (by omega)) ?_)
            refine L_nil ?_
            refine T_n ?_
            refine W_cf rfl ?_
            refine W_exit ?_
            refine T_e ?_
            refine T_e ?_
            refine B_x ?_
            refine T_n ?_
            refine W_seq ?_
            refine W_reg ?_
            refine L_op rfl (X_move (v := key) rfl ?_)
            refine L_op rfl (X_fn (vs := [(.slice none 0 0), key]) en14 rfl (CT.mono (c_find (.slice none 0 0) key [] m _ 0 0 (Nat.zero_le _) (NRd.nil _ _ _) hk) ?_))
            rintro _ w24 ⟨⟨atn, rfl, hFn⟩, hu24⟩
            have hz24 := hu24.size
            replace hl := hl.ext hu24
            replace hk := hk.ext hu24
            replace hU := hU.trans (Ext.upd hu24)
            obtain rfl := find_nil hFn
            refine L_op rfl (X_cmp (k := .i64) (a := 0) (b := 0) (r := true) rfl rfl rfl rfl ?_)
            refine L_op rfl (X_move (v := (.bool (true))) rfl ?_)
            refine L_gy (dj := 79) rfl rfl rfl (X_fn (vs := []) en9 rfl (CT.mono (c_wakes _) ?_))
            rintro vb25 w25 ⟨hvb25, hu25⟩
            have hz25 := hu25.size
            replace hl := hl.ext hu25
            replace hk := hk.ext hu25
            replace hU := hU.trans (Ext.upd hu25)
            subst hvb25
            refine L_op rfl (X_pick (t := true) (v := (.bool (true))) rfl rfl ?_)
            refine L_op rfl (X_assign (v := (.bool (true))) rfl ?_)
            refine L_nil ?_
            refine T_n ?_
            refine W_ret ?_
            exact BQ_r (End_1 Try.results4 (v := .bool true) rfl ⟨rfl, hU.own hn0⟩)
      · rw [hc6]
        refine L_gy (dj := 14) rfl rfl rfl (X_not (b := false) (r := true) rfl rfl ?_)
        refine L_op rfl (X_pick (t := false) (v := (.bool (true))) rfl rfl ?_)
        refine L_nil ?_
        refine T_n ?_
        refine W_ct rfl ?_
        refine W_seq ?_
        refine W_reg ?_
        refine L_op rfl (X_fn (vs := []) en9 rfl (CT.mono (c_wakes _) ?_))
        rintro vb26 w26 ⟨hvb26, hu26⟩
        have hz26 := hu26.size
        replace hl := hl.ext hu26
        replace hk := hk.ext hu26
        replace hU := hU.trans (Ext.upd hu26)
        subst hvb26
        refine L_op rfl (X_assign (v := (.bool (true))) rfl ?_)
        refine L_nil ?_
        refine T_n ?_
        refine W_ret ?_
        refine T_r ?_
        exact BQ_r (End_1 Try.results4 (v := .bool true) rfl ⟨rfl, hU.own hn0⟩)
end Go.Proofs.Ytpjhadhniokgjaa
