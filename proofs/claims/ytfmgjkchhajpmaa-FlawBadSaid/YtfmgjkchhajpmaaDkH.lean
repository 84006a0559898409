/-
  Contracts of chapter 04: Spoil. (Printed by wip/gen/t04k.py of this repo.)
-/
import Derived.Test.YtfmgjkchhajpmaaDkG
import Derived.Test.YtfmgjkchhajpmaaBaseVI
import Derived.Test.YtfmgjkchhajpmaaLaidI
namespace Go.Proofs.Ytfmgjkchhajpmaa
open Go Go.SL Go.Proofs
set_option linter.unusedVariables false

theorem cnt_lt : ∀ {bs : List Int}, bs.Pairwise (· < ·) → ∀ n : Int, (∀ (j : Nat) (a : Int), j < bs.countP (fun x => decide (x < n)) → bs[j]? = some a → a < n) ∧ ∀ a : Int, bs[bs.countP (fun x => decide (x < n))]? = some a → n ≤ a
  | [], _, n => ⟨fun j a h => absurd h (Nat.not_lt_zero j), fun a h => by cases h⟩
  | x :: r, hp, n => by
    obtain ⟨h1, h2⟩ := List.pairwise_cons.1 hp
    obtain ⟨i1, i2⟩ := cnt_lt h2 n
    by_cases hx : x < n
    · have e : (x :: r).countP (fun x => decide (x < n)) = r.countP (fun x => decide (x < n)) + 1 := List.countP_cons_of_pos (by simpa using hx)
      rw [e]
      refine ⟨fun j a hj ha => ?_, fun a ha => i2 a (by simpa using ha)⟩
      cases j with
      | zero => simp at ha; subst ha; exact hx
      | succ j => exact i1 j a (by omega) (by simpa using ha)
    · have e0 : r.countP (fun x => decide (x < n)) = 0 := List.countP_eq_zero.2 fun y hy => by have := h1 y hy; simp; omega
      have e : (x :: r).countP (fun x => decide (x < n)) = 0 := by rw [List.countP_cons_of_neg (by simpa using hx), e0]
      rw [e]
      exact ⟨fun j a hj => absurd hj (Nat.not_lt_zero j), fun a ha => by simp at ha; subst ha; omega⟩
theorem ins_lt {us : List Int} {k : Nat} {x : Int} (hp : us.Pairwise (· < ·)) (h1 : ∀ (j : Nat) (a : Int), j < k → us[j]? = some a → a < x) (h2 : ∀ a : Int, us[k]? = some a → x < a) : (us.take k ++ x :: us.drop k).Pairwise (· < ·) := by
  have hl : ∀ a ∈ us.take k, a < x := fun a ha => by
    obtain ⟨j, hj, rfl⟩ := List.getElem_of_mem ha
    rw [List.length_take] at hj
    exact h1 j _ (by omega) (by rw [List.getElem_take]; exact List.getElem?_eq_getElem (by omega))
  have hr : ∀ b ∈ us.drop k, x < b := fun b hb => by
    obtain ⟨j, hj, rfl⟩ := List.getElem_of_mem hb
    rw [List.length_drop] at hj
    rw [List.getElem_drop]
    have h3 := h2 _ (List.getElem?_eq_getElem (show k < us.length by omega))
    rcases Nat.eq_zero_or_pos j with h0 | h0
    · subst h0; exact h3
    · have h4 := (List.pairwise_iff_getElem.1 hp) k (k + j) (by omega) (by omega) (by omega)
      omega
  refine List.pairwise_append.2 ⟨hp.sublist (List.take_sublist _ _), List.pairwise_cons.2 ⟨hr, hp.sublist (List.drop_sublist _ _)⟩, fun a ha b hb => ?_⟩
  rcases List.mem_cons.1 hb with rfl | hb
  · exact hl a ha
  · have := hl a ha; have := hr b hb; omega
theorem ins_mem {us : List Int} {k : Nat} {x y : Int} : y ∈ us.take k ++ x :: us.drop k ↔ y ∈ us ∨ y = x := by
  have h : y ∈ us ↔ y ∈ us.take k ∨ y ∈ us.drop k := by
    rw [← List.mem_append, List.take_append_drop]
  rw [List.mem_append, List.mem_cons, h]
  constructor
  · rintro (h | h | h)
    · exact .inl (.inl h)
    · exact .inr h
    · exact .inl (.inr h)
  · rintro ((h | h) | h)
    · exact .inl h
    · exact .inr (.inr h)
    · exact .inr (.inl h)
theorem ins_len {us : List Int} {k : Nat} {x : Int} : (us.take k ++ x :: us.drop k).length = us.length + 1 := by
  simp only [List.length_append, List.length_cons, List.length_take, List.length_drop]; omega
theorem li_push (us : List Int) (a : Int) : us.flatMap LI.cel ++ [.int .i64 a] = (us ++ [a]).flatMap LI.cel := by rw [List.flatMap_append]; rfl
theorem pw_le {us : List Int} (h : us.Pairwise (· < ·)) : us.Pairwise (· ≤ ·) := h.imp fun h => Int.le_of_lt h
theorem cnt_ins {bs : List Int} (hp : bs.Pairwise (· < ·)) {n : Int} {m : Nat} (hm : m = bs.countP (fun x => decide (x < n))) (hn : bs.contains n = false) : (bs.take m ++ n :: bs.drop m).Pairwise (· < ·) ∧ ∀ y, y ∈ bs.take m ++ n :: bs.drop m ↔ y ∈ bs ∨ y = n := by
  obtain ⟨h1, h2⟩ := cnt_lt hp n
  subst hm
  refine ⟨ins_lt hp h1 fun a ha => ?_, fun y => ins_mem⟩
  have h3 := h2 a ha
  have h4 : a ≠ n := fun e => by
    subst e
    have h5 : bs.contains a = true := List.contains_iff_mem.2 (List.mem_of_getElem? ha)
    rw [hn] at h5; cases h5
  omega

theorem c_spoil (pv cv bv : Value) (ps : List Pg) (cs : List Wr) (bs : List Int) (off : Bool) (n : Int) (w : World) (lo up : Nat) (hup : up ≤ w.heap.size) (hp : NRd LP w lo up pv ps) (hc : NRd LW w lo up cv cs) (hb : NRd LI w lo up bv bs) (hpL : ps.length ≤ 1048576) (hcL : cs.length ≤ 1048576) (hbL : bs.length ≤ 1048576) (hpw : bs.Pairwise (· < ·)) : CT Try.prog 15 #[(.agg #[pv, cv, bv, (.bool (off))]), (.int .i64 (n))] w fun v w' => ∃ p2 c2 i2 ds e, v = .tuple #[.agg #[p2, c2, i2, .bool off], .int .i64 e] ∧ NOwn LP w' 33 5 w.heap.size w'.heap.size p2 ps ∧ NOwn LW w' 35 5 w.heap.size w'.heap.size c2 cs ∧ NOwn LI w' 3 5 w.heap.size w'.heap.size i2 ds ∧ (0 ≤ n ∧ n < ps.length → e = 0 ∧ ds.Pairwise (· < ·) ∧ (∀ y, y ∈ ds ↔ y ∈ bs ∨ y = n) ∧ ds.length ≤ bs.length + 1) ∧ (¬ (0 ≤ n ∧ n < ps.length) → e = 2 ∧ ds = bs) ∧ Ext w w' := by
  obtain ⟨n0, hn0⟩ : ∃ n, n = w.heap.size := ⟨_, rfl⟩
  have hU : Upd (fun i => n0 ≤ i) w w := Upd.refl _ _
  have hpl := hp.sv.len
  have hcl := hc.sv.len
  have hbl := hb.sv.len
  rw [← hn0] at hup
  refine CT_of Try.func15 rfl rfl rfl ?_
  refine W_seq ?_
  refine W_reg ?_
  refine L_op rfl (X_box (v := (.agg #[pv, cv, bv, (.bool (off))])) (c := ([pv, cv, bv, (.bool (off))]).toArray) rfl rfl ?_)
  intro b1 w1 hn1
  have hbn1 := hn1.num; have hbs1 := hn1.size
  replace hp := hp.ext hn1.ext
  replace hc := hc.ext hn1.ext
  replace hb := hb.ext hn1.ext
  replace hU := hU.trans (Ext.upd hn1.ext)
  have hB1 := hn1.blk
  refine L_op rfl (X_alloc (z := (.agg #[(.slice none 0 0), (.slice none 0 0), (.slice none 0 0), (.bool (false))])) (c := #[(.slice none 0 0), (.slice none 0 0), (.slice none 0 0), (.bool (false))]) Zv26 rfl ?_)
  intro b2 w2 hn2
  have hbn2 := hn2.num; have hbs2 := hn2.size
  replace hp := hp.ext hn2.ext
  replace hc := hc.ext hn2.ext
  replace hb := hb.ext hn2.ext
  replace hU := hU.trans (Ext.upd hn2.ext)
  replace hB1 := hB1.ext hn2.ext
  have hB2 := hn2.blk
  refine L_op rfl (X_assign (v := (.int .i64 (0))) rfl ?_)
  refine L_nil ?_
  refine T_n ?_
  refine W_seq ?_
  refine W_reg ?_
  refine L_op rfl (X_loadA (p := (ptr b1 (0))) (xs := [pv, cv, bv, (.bool (off))]) A26 rfl hB1.atAll rfl ?_)
  obtain ⟨s0, hs0⟩ : ∃ n, n = w2.heap.size := ⟨_, rfl⟩
  refine L_op rfl (X_fn (vs := [(.agg ([pv, cv, bv, (.bool (off))]).toArray)]) en25 rfl (CT.mono (c_own pv cv bv ps cs bs off _ lo up (by omega) hp hc hb hpL hcL hbL) ?_))
  rintro _ w3 ⟨p_2, c_2, i_2, rfl, hP2, hC2, hI2, hu3⟩
  have hz3 := hu3.size
  rw [← hs0] at hP2 hC2 hI2
  obtain ⟨us0, hus0_⟩ : ∃ n, n = w3.heap.size := ⟨_, rfl⟩
  rw [← hus0_] at hP2 hC2 hI2
  replace hp := hp.ext hu3
  replace hc := hc.ext hu3
  replace hb := hb.ext hu3
  replace hU := hU.trans (Ext.upd hu3)
  replace hB1 := hB1.ext hu3
  replace hB2 := hB2.ext hu3
  refine L_op0 (X_storeW (b := b1) (ys := [p_2, c_2, i_2, (.bool (off))]) A26 rfl rfl (List.forall_mem_cons.2 ⟨(hP2.1.sv.one), (List.forall_mem_cons.2 ⟨(hC2.1.sv.one), (List.forall_mem_cons.2 ⟨(hI2.1.sv.one), (List.forall_mem_cons.2 ⟨rfl, (fun _ h => by cases h)⟩)⟩)⟩)⟩) rfl hB1 rfl ?_)
  intro w4 hu4 hb4
  have hz4 := hu4.size
  replace hp := hp.upd hu4 fun i h1 h2 h => by have h : i = b1 := h; omega
  replace hc := hc.upd hu4 fun i h1 h2 h => by have h : i = b1 := h; omega
  replace hb := hb.upd hu4 fun i h1 h2 h => by have h : i = b1 := h; omega
  replace hU := hU.trans (hu4.mono fun i _ h => by have h : i = b1 := h; show n0 ≤ i; omega)
  replace hB2 := hB2.upd hu4 fun h => by have h : b2 = b1 := h; omega
  replace hP2 := hP2.upd hu4 fun i h1 h2 h => by have h : i = b1 := h; omega
  replace hC2 := hC2.upd hu4 fun i h1 h2 h => by have h : i = b1 := h; omega
  replace hI2 := hI2.upd hu4 fun i h1 h2 h => by have h : i = b1 := h; omega
  replace hB1 : Blk w4 b1 #[p_2, c_2, i_2, (.bool (off))] 26 := hb4
  refine L_nil ?_
  refine T_n ?_
  refine W_seq ?_
  refine W_seq ?_
  refine W_reg ?_
  refine L_op rfl (X_move (v := (.int .i64 (n))) rfl ?_)
  by_cases hc5 : (n : Int) < (0)
  · refine L_op rfl (X_cmp (k := .i64) (a := n) (b := 0) (r := true) rfl rfl rfl (decide_eq_true (p := ((n) : Int) < ((0) : Int)) (by omega)) ?_)
    refine L_op rfl (X_move (v := (.bool (true))) rfl ?_)
    refine L_gn (dj := 12) (t := true) rfl rfl rfl rfl ?_
    refine L_gn (dj := 12) (t := true) rfl rfl rfl rfl ?_
    refine L_gn (dj := 12) (t := true) rfl rfl rfl rfl ?_
    refine L_gn (dj := 12) (t := true) rfl rfl rfl rfl ?_
    refine L_gn (dj := 12) (t := true) rfl rfl rfl rfl ?_
    refine L_op rfl (X_pick (t := true) (v := (.bool (true))) rfl rfl ?_)
    refine L_nil ?_
    refine T_n ?_
    refine W_ct rfl ?_
    refine W_seq ?_
    refine W_reg ?_
    refine L_op rfl (X_loadA (p := (ptr b1 (0))) (xs := [p_2, c_2, i_2, (.bool (off))]) A26 rfl hB1.atAll rfl ?_)
    refine L_op0 (X_storeW (b := b2) (ys := [p_2, c_2, i_2, (.bool (off))]) A26 rfl rfl (List.forall_mem_cons.2 ⟨(hP2.1.sv.one), (List.forall_mem_cons.2 ⟨(hC2.1.sv.one), (List.forall_mem_cons.2 ⟨(hI2.1.sv.one), (List.forall_mem_cons.2 ⟨rfl, (fun _ h => by cases h)⟩)⟩)⟩)⟩) rfl hB2 rfl ?_)
    intro w6 hu6 hb6
    have hz6 := hu6.size
    replace hp := hp.upd hu6 fun i h1 h2 h => by have h : i = b2 := h; omega
    replace hc := hc.upd hu6 fun i h1 h2 h => by have h : i = b2 := h; omega
    replace hb := hb.upd hu6 fun i h1 h2 h => by have h : i = b2 := h; omega
    replace hU := hU.trans (hu6.mono fun i _ h => by have h : i = b2 := h; show n0 ≤ i; omega)
    replace hP2 := hP2.upd hu6 fun i h1 h2 h => by have h : i = b2 := h; omega
    replace hC2 := hC2.upd hu6 fun i h1 h2 h => by have h : i = b2 := h; omega
    replace hI2 := hI2.upd hu6 fun i h1 h2 h => by have h : i = b2 := h; omega
    replace hB1 := hB1.upd hu6 fun h => by have h : b1 = b2 := h; omega
    replace hB2 : Blk w6 b2 #[p_2, c_2, i_2, (.bool (off))] 26 := hb6
    refine L_op rfl (X_assign (v := (.int .i64 (2))) rfl ?_)
    refine L_nil ?_
    refine T_n ?_
    refine W_ret ?_
    refine T_r ?_
    exact BQ_r (End_2 Try.results15 (RV_A A26 rfl hB2.atAll rfl) (v2 := .int .i64 2) rfl ⟨_, _, _, bs, 2, rfl, hP2.mono (by omega) (by omega), hC2.mono (by omega) (by omega), hI2.mono (by omega) (by omega), fun h => by omega, fun _ => ⟨rfl, rfl⟩, hU.own hn0⟩)
  · refine L_op rfl (X_cmp (k := .i64) (a := n) (b := 0) (r := false) rfl rfl rfl (decide_eq_false (p := ((n) : Int) < ((0) : Int)) (by omega)) ?_)
    refine L_op rfl (X_move (v := (.bool (false))) rfl ?_)
    refine L_gy (dj := 12) rfl rfl rfl (X_move (v := (.int .i64 (n))) rfl ?_)
    refine L_gy (dj := 12) rfl rfl rfl (X_fldP (b := b1) (o := 0) (r := 0) Fd26_0 rfl rfl ?_)
    refine L_gy (dj := 12) rfl rfl rfl (X_load (p := (ptr b1 (0))) (v := p_2) T22 rfl (hB1.at1 rfl) ?_)
    refine L_gy (dj := 12) rfl rfl rfl (X_len (v := p_2) (n := ps.length) Try.underlying22 rfl hP2.1.sv ?_)
    by_cases hc7 : (n : Int) ≥ (((ps.length : Nat) : Int))
    · refine L_gy (dj := 12) rfl rfl rfl (X_cmp (k := .i64) (a := n) (b := ((ps.length : Nat) : Int)) (r := true) rfl rfl rfl (decide_eq_true (p := ((((ps.length : Nat) : Int)) : Int) ≤ ((n) : Int)) (by omega)) ?_)
      refine L_op rfl (X_pick (t := false) (v := (.bool (true))) rfl rfl ?_)
      refine L_nil ?_
      refine T_n ?_
      refine W_ct rfl ?_
      refine W_seq ?_
      refine W_reg ?_
      refine L_op rfl (X_loadA (p := (ptr b1 (0))) (xs := [p_2, c_2, i_2, (.bool (off))]) A26 rfl hB1.atAll rfl ?_)
      refine L_op0 (X_storeW (b := b2) (ys := [p_2, c_2, i_2, (.bool (off))]) A26 rfl rfl (List.forall_mem_cons.2 ⟨(hP2.1.sv.one), (List.forall_mem_cons.2 ⟨(hC2.1.sv.one), (List.forall_mem_cons.2 ⟨(hI2.1.sv.one), (List.forall_mem_cons.2 ⟨rfl, (fun _ h => by cases h)⟩)⟩)⟩)⟩) rfl hB2 rfl ?_)
      intro w8 hu8 hb8
      have hz8 := hu8.size
      replace hp := hp.upd hu8 fun i h1 h2 h => by have h : i = b2 := h; omega
      replace hc := hc.upd hu8 fun i h1 h2 h => by have h : i = b2 := h; omega
      replace hb := hb.upd hu8 fun i h1 h2 h => by have h : i = b2 := h; omega
      replace hU := hU.trans (hu8.mono fun i _ h => by have h : i = b2 := h; show n0 ≤ i; omega)
      replace hP2 := hP2.upd hu8 fun i h1 h2 h => by have h : i = b2 := h; omega
      replace hC2 := hC2.upd hu8 fun i h1 h2 h => by have h : i = b2 := h; omega
      replace hI2 := hI2.upd hu8 fun i h1 h2 h => by have h : i = b2 := h; omega
      replace hB1 := hB1.upd hu8 fun h => by have h : b1 = b2 := h; omega
      replace hB2 : Blk w8 b2 #[p_2, c_2, i_2, (.bool (off))] 26 := hb8
      refine L_op rfl (X_assign (v := (.int .i64 (2))) rfl ?_)
      refine L_nil ?_
      refine T_n ?_
      refine W_ret ?_
      refine T_r ?_
      exact BQ_r (End_2 Try.results15 (RV_A A26 rfl hB2.atAll rfl) (v2 := .int .i64 2) rfl ⟨_, _, _, bs, 2, rfl, hP2.mono (by omega) (by omega), hC2.mono (by omega) (by omega), hI2.mono (by omega) (by omega), fun h => by omega, fun _ => ⟨rfl, rfl⟩, hU.own hn0⟩)
    · refine L_gy (dj := 12) rfl rfl rfl (X_cmp (k := .i64) (a := n) (b := ((ps.length : Nat) : Int)) (r := false) rfl rfl rfl (decide_eq_false (p := ((((ps.length : Nat) : Int)) : Int) ≤ ((n) : Int)) (by omega)) ?_)
      refine L_op rfl (X_pick (t := false) (v := (.bool (false))) rfl rfl ?_)
      refine L_nil ?_
      refine T_n ?_
      refine W_cf rfl ?_
      refine W_skip ?_
      refine T_n ?_
      refine W_seq ?_
      refine W_seq ?_
      refine W_reg ?_
      refine L_op rfl (X_fldP (b := b1) (o := 0) (r := 2) Fd26_2 rfl rfl ?_)
      refine L_op rfl (X_load (p := (ptr b1 (2))) (v := i_2) T24 rfl (hB1.at1 rfl) ?_)
      refine L_op rfl (X_move (v := (.int .i64 (n))) rfl ?_)
      obtain ⟨m, hm⟩ : ∃ m, m = bs.countP (fun x => decide (x < n)) := ⟨_, rfl⟩
      have hml : m ≤ bs.length := by rw [hm]; exact List.countP_le_length
      have hcs_ := c_searchL Try.lays25 hI2.rd (pw_le hpw) (by omega) n
      rw [← hm] at hcs_
      refine L_op rfl (X_fn (vs := [i_2, (.int .i64 (n))]) en32 rfl (CT.mono (hcs_) ?_))
      rintro _ w9 ⟨rfl, hu9⟩
      have hz9 := hu9.size
      replace hp := hp.ext hu9
      replace hc := hc.ext hu9
      replace hb := hb.ext hu9
      replace hU := hU.trans (Ext.upd hu9)
      replace hB2 := hB2.ext hu9
      replace hP2 := hP2.ext hu9
      replace hC2 := hC2.ext hu9
      replace hI2 := hI2.ext hu9
      replace hB1 := hB1.ext hu9
      rcases Bool.eq_false_or_eq_true (bs.contains n) with hcn | hcn
      · rw [hcn]
        refine L_op rfl (X_move (v := (.tuple #[(.int .i64 (((m : Nat) : Int))), (.bool (true))])) rfl ?_)
        refine L_op rfl (X_extract (l := [(.int .i64 (((m : Nat) : Int))), (.bool (true))]) (v := (.int .i64 (((m : Nat) : Int)))) rfl rfl ?_)
        refine L_op rfl (X_extract (l := [(.int .i64 (((m : Nat) : Int))), (.bool (true))]) (v := (.bool (true))) rfl rfl ?_)
        refine L_op rfl (X_assign (v := (.int .i64 (((m : Nat) : Int)))) rfl ?_)
        refine L_op rfl (X_assign (v := (.bool (true))) rfl ?_)
        refine L_nil ?_
        refine T_n ?_
        refine W_seq ?_
        refine W_reg ?_
        refine L_op rfl (X_move (v := (.bool (true))) rfl ?_)
        refine L_op rfl (X_not (b := true) (r := false) rfl rfl ?_)
        refine L_nil ?_
        refine T_n ?_
        refine W_cf rfl ?_
        refine W_skip ?_
        refine T_n ?_
        refine W_seq ?_
        refine W_reg ?_
        refine L_op rfl (X_loadA (p := (ptr b1 (0))) (xs := [p_2, c_2, i_2, (.bool (off))]) A26 rfl hB1.atAll rfl ?_)
        refine L_op0 (X_storeW (b := b2) (ys := [p_2, c_2, i_2, (.bool (off))]) A26 rfl rfl (List.forall_mem_cons.2 ⟨(hP2.1.sv.one), (List.forall_mem_cons.2 ⟨(hC2.1.sv.one), (List.forall_mem_cons.2 ⟨(hI2.1.sv.one), (List.forall_mem_cons.2 ⟨rfl, (fun _ h => by cases h)⟩)⟩)⟩)⟩) rfl hB2 rfl ?_)
        intro w10 hu10 hb10
        have hz10 := hu10.size
        replace hp := hp.upd hu10 fun i h1 h2 h => by have h : i = b2 := h; omega
        replace hc := hc.upd hu10 fun i h1 h2 h => by have h : i = b2 := h; omega
        replace hb := hb.upd hu10 fun i h1 h2 h => by have h : i = b2 := h; omega
        replace hU := hU.trans (hu10.mono fun i _ h => by have h : i = b2 := h; show n0 ≤ i; omega)
        replace hP2 := hP2.upd hu10 fun i h1 h2 h => by have h : i = b2 := h; omega
        replace hC2 := hC2.upd hu10 fun i h1 h2 h => by have h : i = b2 := h; omega
        replace hI2 := hI2.upd hu10 fun i h1 h2 h => by have h : i = b2 := h; omega
        replace hB1 := hB1.upd hu10 fun h => by have h : b1 = b2 := h; omega
        replace hB2 : Blk w10 b2 #[p_2, c_2, i_2, (.bool (off))] 26 := hb10
        refine L_op rfl (X_assign (v := (.int .i64 (0))) rfl ?_)
        refine L_nil ?_
        refine T_n ?_
        refine W_ret ?_
        exact BQ_r (End_2 Try.results15 (RV_A A26 rfl hB2.atAll rfl) (v2 := .int .i64 0) rfl ⟨_, _, _, bs, 0, rfl, hP2.mono (by omega) (by omega), hC2.mono (by omega) (by omega), hI2.mono (by omega) (by omega), fun _ => ⟨rfl, hpw, fun y => ⟨.inl, fun h => h.elim id fun e => e ▸ List.contains_iff_mem.1 hcn⟩, by omega⟩, fun h => absurd ⟨by omega, by omega⟩ h, hU.own hn0⟩)
      · rw [hcn]
        refine L_op rfl (X_move (v := (.tuple #[(.int .i64 (((m : Nat) : Int))), (.bool (false))])) rfl ?_)
        refine L_op rfl (X_extract (l := [(.int .i64 (((m : Nat) : Int))), (.bool (false))]) (v := (.int .i64 (((m : Nat) : Int)))) rfl rfl ?_)
        refine L_op rfl (X_extract (l := [(.int .i64 (((m : Nat) : Int))), (.bool (false))]) (v := (.bool (false))) rfl rfl ?_)
        refine L_op rfl (X_assign (v := (.int .i64 (((m : Nat) : Int)))) rfl ?_)
        refine L_op rfl (X_assign (v := (.bool (false))) rfl ?_)
        refine L_nil ?_
        refine T_n ?_
        refine W_seq ?_
        refine W_reg ?_
        refine L_op rfl (X_move (v := (.bool (false))) rfl ?_)
        refine L_op rfl (X_not (b := false) (r := true) rfl rfl ?_)
        refine L_nil ?_
        refine T_n ?_
        refine W_ct rfl ?_
        refine W_reg ?_
        refine L_op rfl (X_fldP (b := b1) (o := 0) (r := 2) Fd26_2 rfl rfl ?_)
        refine L_op rfl (X_load (p := (ptr b1 (2))) (v := i_2) T24 rfl (hB1.at1 rfl) ?_)
        refine L_op rfl (X_move (v := (.int .i64 (((m : Nat) : Int)))) rfl ?_)
        refine L_op rfl (X_move (v := (.int .i64 (n))) rfl ?_)
        refine L_op rfl (X_buildSlice1 (vs := [(.int .i64 (n))]) S24 (by decide) rfl rfl (List.forall_mem_cons.2 ⟨rfl, (fun _ h => by cases h)⟩) ?_)
        intro b11 w11 hn11
        have hbn11 := hn11.num; have hbs11 := hn11.size
        replace hp := hp.ext hn11.ext
        replace hc := hc.ext hn11.ext
        replace hb := hb.ext hn11.ext
        replace hU := hU.trans (Ext.upd hn11.ext)
        replace hB2 := hB2.ext hn11.ext
        replace hP2 := hP2.ext hn11.ext
        replace hC2 := hC2.ext hn11.ext
        replace hI2 := hI2.ext hn11.ext
        replace hB1 := hB1.ext hn11.ext
        have hB11 := hn11.blk
        refine L_op rfl (X_fn (vs := [i_2, (.int .i64 (((m : Nat) : Int))), (.slice (some ⟨b11, 0, none⟩) 1 1)]) en33 rfl (CT.mono (c_insertL Try.lays21 (er := 3) (eb := 5) (lo := s0) (up := us0) (vb := b11) (y := n) (i := m) rfl hI2 hB11 (by omega) hml (by omega) (by omega)) ?_))
        rintro i_5 w9_ ⟨hI5, hu9_, _⟩
        have hz9_ := hu9_.size
        obtain ⟨u5, hu5_⟩ : ∃ u, u = w9_.heap.size := ⟨_, rfl⟩
        rw [← hu5_] at hI5
        replace hP2 := NOwn.upd' (fun _ => rfl) hP2 hu9_ fun b h1 h2 => absurd (hP2.1.types hI2.1 h1 h2) (by decide)
        replace hC2 := NOwn.upd' (fun _ => rfl) hC2 hu9_ fun b h1 h2 => absurd (hC2.1.types hI2.1 h1 h2) (by decide)
        replace hp := hp.upd hu9_ fun i h1 h2 h => by have h1_ := hI2.1.lt h; have h2_ := hI2.2.1 _ h; omega
        replace hc := hc.upd hu9_ fun i h1 h2 h => by have h1_ := hI2.1.lt h; have h2_ := hI2.2.1 _ h; omega
        replace hb := hb.upd hu9_ fun i h1 h2 h => by have h1_ := hI2.1.lt h; have h2_ := hI2.2.1 _ h; omega
        replace hU := hU.trans (hu9_.mono fun i _ h => by have h1_ := hI2.1.lt h; have h2_ := hI2.2.1 _ h; show n0 ≤ i; omega)
        replace hB2 := hB2.upd hu9_ fun h => by have h1_ := hI2.1.lt h; have h2_ := hI2.2.1 _ h; omega
        replace hB1 := hB1.upd hu9_ fun h => by have h1_ := hI2.1.lt h; have h2_ := hI2.2.1 _ h; omega
        refine L_op rfl (X_fldP (b := b1) (o := 0) (r := 2) Fd26_2 rfl rfl ?_)
        refine L_op0 (X_store (b := b1) (o := 2) T24 rfl rfl (hI5.1.sv.one) hB1 (by show (2 : Nat) < 4; decide) ?_)
        intro w12 hu12 hb12
        have hz12 := hu12.size
        replace hp := hp.upd hu12 fun i h1 h2 h => by have h : i = b1 := h; omega
        replace hc := hc.upd hu12 fun i h1 h2 h => by have h : i = b1 := h; omega
        replace hb := hb.upd hu12 fun i h1 h2 h => by have h : i = b1 := h; omega
        replace hU := hU.trans (hu12.mono fun i _ h => by have h : i = b1 := h; show n0 ≤ i; omega)
        replace hB2 := hB2.upd hu12 fun h => by have h : b2 = b1 := h; omega
        replace hP2 := hP2.upd hu12 fun i h1 h2 h => by have h : i = b1 := h; omega
        replace hC2 := hC2.upd hu12 fun i h1 h2 h => by have h : i = b1 := h; omega
        replace hI5 := hI5.upd hu12 fun i h1 h2 h => by have h : i = b1 := h; omega
        replace hB1 : Blk w12 b1 #[p_2, c_2, i_5, (.bool (off))] 26 := hb12
        refine L_nil ?_
        refine T_n ?_
        refine W_seq ?_
        refine W_reg ?_
        refine L_op rfl (X_loadA (p := (ptr b1 (0))) (xs := [p_2, c_2, i_5, (.bool (off))]) A26 rfl hB1.atAll rfl ?_)
        refine L_op0 (X_storeW (b := b2) (ys := [p_2, c_2, i_5, (.bool (off))]) A26 rfl rfl (List.forall_mem_cons.2 ⟨(hP2.1.sv.one), (List.forall_mem_cons.2 ⟨(hC2.1.sv.one), (List.forall_mem_cons.2 ⟨(hI5.1.sv.one), (List.forall_mem_cons.2 ⟨rfl, (fun _ h => by cases h)⟩)⟩)⟩)⟩) rfl hB2 rfl ?_)
        intro w13 hu13 hb13
        have hz13 := hu13.size
        replace hp := hp.upd hu13 fun i h1 h2 h => by have h : i = b2 := h; omega
        replace hc := hc.upd hu13 fun i h1 h2 h => by have h : i = b2 := h; omega
        replace hb := hb.upd hu13 fun i h1 h2 h => by have h : i = b2 := h; omega
        replace hU := hU.trans (hu13.mono fun i _ h => by have h : i = b2 := h; show n0 ≤ i; omega)
        replace hP2 := hP2.upd hu13 fun i h1 h2 h => by have h : i = b2 := h; omega
        replace hC2 := hC2.upd hu13 fun i h1 h2 h => by have h : i = b2 := h; omega
        replace hI5 := hI5.upd hu13 fun i h1 h2 h => by have h : i = b2 := h; omega
        replace hB1 := hB1.upd hu13 fun h => by have h : b1 = b2 := h; omega
        replace hB2 : Blk w13 b2 #[p_2, c_2, i_5, (.bool (off))] 26 := hb13
        refine L_op rfl (X_assign (v := (.int .i64 (0))) rfl ?_)
        refine L_nil ?_
        refine T_n ?_
        refine W_ret ?_
        exact BQ_r (End_2 Try.results15 (RV_A A26 rfl hB2.atAll rfl) (v2 := .int .i64 0) rfl ⟨_, _, _, (bs.take m ++ n :: bs.drop m), 0, rfl, hP2.mono (by omega) (by omega), hC2.mono (by omega) (by omega), hI5.mono (by omega) (by omega), fun _ => ⟨rfl, (cnt_ins hpw hm hcn).1, (cnt_ins hpw hm hcn).2, by rw [ins_len]; omega⟩, fun h => absurd ⟨by omega, by omega⟩ h, hU.own hn0⟩)

theorem c_spoilR (pv cv bv : Value) (ps : List Pg) (cs : List Wr) (bs : List Int) (off : Bool) (n : Int) (w : World) (lo up : Nat) (hup : up ≤ w.heap.size) (hp : NRd LP w lo up pv ps) (hc : NRd LW w lo up cv cs) (hb : NRd LI w lo up bv bs) (hpL : ps.length ≤ 1048576) (hcL : cs.length ≤ 1048576) (hbL : bs.length ≤ 1048576) (hpw : bs.Pairwise (· < ·)) : CT Try.prog 19 #[(.agg #[pv, cv, bv, (.bool (off))]), (.int .i64 (n))] w fun v w' => ∃ p2 c2 i2 ds e, v = .tuple #[.agg #[p2, c2, i2, .bool off], .int .i64 e] ∧ NOwn LP w' 33 5 w.heap.size w'.heap.size p2 ps ∧ NOwn LW w' 35 5 w.heap.size w'.heap.size c2 cs ∧ NOwn LI w' 3 5 w.heap.size w'.heap.size i2 ds ∧ (0 ≤ n ∧ n < ps.length → e = 0 ∧ ds.Pairwise (· < ·) ∧ (∀ y, y ∈ ds ↔ y ∈ bs ∨ y = n) ∧ ds.length ≤ bs.length + 1) ∧ (¬ (0 ≤ n ∧ n < ps.length) → e = 2 ∧ ds = bs) ∧ Ext w w' := by
  obtain ⟨n0, hn0⟩ : ∃ n, n = w.heap.size := ⟨_, rfl⟩
  have hU : Upd (fun i => n0 ≤ i) w w := Upd.refl _ _
  have hpl := hp.sv.len
  have hcl := hc.sv.len
  have hbl := hb.sv.len
  rw [← hn0] at hup
  refine CT_of Try.func19 rfl rfl rfl ?_
  refine W_seq ?_
  refine W_reg ?_
  refine L_op rfl (X_box (v := (.agg #[pv, cv, bv, (.bool (off))])) (c := ([pv, cv, bv, (.bool (off))]).toArray) rfl rfl ?_)
  intro b1 w1 hn1
  have hbn1 := hn1.num; have hbs1 := hn1.size
  replace hp := hp.ext hn1.ext
  replace hc := hc.ext hn1.ext
  replace hb := hb.ext hn1.ext
  replace hU := hU.trans (Ext.upd hn1.ext)
  have hB1 := hn1.blk
  refine L_op rfl (X_alloc (z := (.agg #[(.slice none 0 0), (.slice none 0 0), (.slice none 0 0), (.bool (false))])) (c := #[(.slice none 0 0), (.slice none 0 0), (.slice none 0 0), (.bool (false))]) Zv26 rfl ?_)
  intro b2 w2 hn2
  have hbn2 := hn2.num; have hbs2 := hn2.size
  replace hp := hp.ext hn2.ext
  replace hc := hc.ext hn2.ext
  replace hb := hb.ext hn2.ext
  replace hU := hU.trans (Ext.upd hn2.ext)
  replace hB1 := hB1.ext hn2.ext
  have hB2 := hn2.blk
  refine L_op rfl (X_assign (v := (.int .i64 (0))) rfl ?_)
  refine L_nil ?_
  refine T_n ?_
  refine W_seq ?_
  refine W_reg ?_
  refine L_op rfl (X_loadA (p := (ptr b1 (0))) (xs := [pv, cv, bv, (.bool (off))]) A26 rfl hB1.atAll rfl ?_)
  obtain ⟨s0, hs0⟩ : ∃ n, n = w2.heap.size := ⟨_, rfl⟩
  refine L_op rfl (X_fn (vs := [(.agg ([pv, cv, bv, (.bool (off))]).toArray)]) en12 rfl (CT.mono (c_ownR pv cv bv ps cs bs off _ lo up (by omega) hp hc hb hpL hcL hbL) ?_))
  rintro _ w3 ⟨p_2, c_2, i_2, rfl, hP2, hC2, hI2, hu3⟩
  have hz3 := hu3.size
  rw [← hs0] at hP2 hC2 hI2
  obtain ⟨us0, hus0_⟩ : ∃ n, n = w3.heap.size := ⟨_, rfl⟩
  rw [← hus0_] at hP2 hC2 hI2
  replace hp := hp.ext hu3
  replace hc := hc.ext hu3
  replace hb := hb.ext hu3
  replace hU := hU.trans (Ext.upd hu3)
  replace hB1 := hB1.ext hu3
  replace hB2 := hB2.ext hu3
  refine L_op rfl (X_alloc (z := (.agg #[(.slice none 0 0), (.slice none 0 0), (.slice none 0 0), (.bool (false))])) (c := #[(.slice none 0 0), (.slice none 0 0), (.slice none 0 0), (.bool (false))]) Zv26 rfl ?_)
  intro b4 w4 hn4
  have hbn4 := hn4.num; have hbs4 := hn4.size
  replace hp := hp.ext hn4.ext
  replace hc := hc.ext hn4.ext
  replace hb := hb.ext hn4.ext
  replace hU := hU.trans (Ext.upd hn4.ext)
  replace hB1 := hB1.ext hn4.ext
  replace hB2 := hB2.ext hn4.ext
  replace hP2 := hP2.ext hn4.ext
  replace hC2 := hC2.ext hn4.ext
  replace hI2 := hI2.ext hn4.ext
  have hB4 := hn4.blk
  refine L_op0 (X_storeW (b := b4) (ys := [p_2, c_2, i_2, (.bool (off))]) A26 rfl rfl (List.forall_mem_cons.2 ⟨(hP2.1.sv.one), (List.forall_mem_cons.2 ⟨(hC2.1.sv.one), (List.forall_mem_cons.2 ⟨(hI2.1.sv.one), (List.forall_mem_cons.2 ⟨rfl, (fun _ h => by cases h)⟩)⟩)⟩)⟩) rfl hB4 rfl ?_)
  intro w5 hu5 hb5
  have hz5 := hu5.size
  replace hp := hp.upd hu5 fun i h1 h2 h => by have h : i = b4 := h; omega
  replace hc := hc.upd hu5 fun i h1 h2 h => by have h : i = b4 := h; omega
  replace hb := hb.upd hu5 fun i h1 h2 h => by have h : i = b4 := h; omega
  replace hU := hU.trans (hu5.mono fun i _ h => by have h : i = b4 := h; show n0 ≤ i; omega)
  replace hB1 := hB1.upd hu5 fun h => by have h : b1 = b4 := h; omega
  replace hB2 := hB2.upd hu5 fun h => by have h : b2 = b4 := h; omega
  replace hP2 := hP2.upd hu5 fun i h1 h2 h => by have h : i = b4 := h; omega
  replace hC2 := hC2.upd hu5 fun i h1 h2 h => by have h : i = b4 := h; omega
  replace hI2 := hI2.upd hu5 fun i h1 h2 h => by have h : i = b4 := h; omega
  replace hB4 : Blk w5 b4 #[p_2, c_2, i_2, (.bool (off))] 26 := hb5
  refine L_nil ?_
  refine T_n ?_
  refine W_seq ?_
  refine W_seq ?_
  refine W_reg ?_
  refine L_op rfl (X_move (v := (.int .i64 (n))) rfl ?_)
  by_cases hc6 : (n : Int) < (0)
  · refine L_op rfl (X_cmp (k := .i64) (a := n) (b := 0) (r := true) rfl rfl rfl (decide_eq_true (p := ((n) : Int) < ((0) : Int)) (by omega)) ?_)
    refine L_op rfl (X_move (v := (.bool (true))) rfl ?_)
    refine L_gn (dj := 14) (t := true) rfl rfl rfl rfl ?_
    refine L_gn (dj := 14) (t := true) rfl rfl rfl rfl ?_
    refine L_gn (dj := 14) (t := true) rfl rfl rfl rfl ?_
    refine L_gn (dj := 14) (t := true) rfl rfl rfl rfl ?_
    refine L_gn (dj := 14) (t := true) rfl rfl rfl rfl ?_
    refine L_op rfl (X_pick (t := true) (v := (.bool (true))) rfl rfl ?_)
    refine L_nil ?_
    refine T_n ?_
    refine W_ct rfl ?_
    refine W_seq ?_
    refine W_reg ?_
    refine L_op rfl (X_loadA (p := (ptr b4 (0))) (xs := [p_2, c_2, i_2, (.bool (off))]) A26 rfl hB4.atAll rfl ?_)
    refine L_op0 (X_storeW (b := b2) (ys := [p_2, c_2, i_2, (.bool (off))]) A26 rfl rfl (List.forall_mem_cons.2 ⟨(hP2.1.sv.one), (List.forall_mem_cons.2 ⟨(hC2.1.sv.one), (List.forall_mem_cons.2 ⟨(hI2.1.sv.one), (List.forall_mem_cons.2 ⟨rfl, (fun _ h => by cases h)⟩)⟩)⟩)⟩) rfl hB2 rfl ?_)
    intro w7 hu7 hb7
    have hz7 := hu7.size
    replace hp := hp.upd hu7 fun i h1 h2 h => by have h : i = b2 := h; omega
    replace hc := hc.upd hu7 fun i h1 h2 h => by have h : i = b2 := h; omega
    replace hb := hb.upd hu7 fun i h1 h2 h => by have h : i = b2 := h; omega
    replace hU := hU.trans (hu7.mono fun i _ h => by have h : i = b2 := h; show n0 ≤ i; omega)
    replace hB1 := hB1.upd hu7 fun h => by have h : b1 = b2 := h; omega
    replace hP2 := hP2.upd hu7 fun i h1 h2 h => by have h : i = b2 := h; omega
    replace hC2 := hC2.upd hu7 fun i h1 h2 h => by have h : i = b2 := h; omega
    replace hI2 := hI2.upd hu7 fun i h1 h2 h => by have h : i = b2 := h; omega
    replace hB4 := hB4.upd hu7 fun h => by have h : b4 = b2 := h; omega
    replace hB2 : Blk w7 b2 #[p_2, c_2, i_2, (.bool (off))] 26 := hb7
    refine L_op rfl (X_assign (v := (.int .i64 (2))) rfl ?_)
    refine L_nil ?_
    refine T_n ?_
    refine W_ret ?_
    refine T_r ?_
    exact BQ_r (End_2 Try.results19 (RV_A A26 rfl hB2.atAll rfl) (v2 := .int .i64 2) rfl ⟨_, _, _, bs, 2, rfl, hP2.mono (by omega) (by omega), hC2.mono (by omega) (by omega), hI2.mono (by omega) (by omega), fun h => by omega, fun _ => ⟨rfl, rfl⟩, hU.own hn0⟩)
  · refine L_op rfl (X_cmp (k := .i64) (a := n) (b := 0) (r := false) rfl rfl rfl (decide_eq_false (p := ((n) : Int) < ((0) : Int)) (by omega)) ?_)
    refine L_op rfl (X_move (v := (.bool (false))) rfl ?_)
    refine L_gy (dj := 14) rfl rfl rfl (X_move (v := (.int .i64 (n))) rfl ?_)
    refine L_gy (dj := 14) rfl rfl rfl (X_fldP (b := b1) (o := 0) (r := 0) Fd26_0 rfl rfl ?_)
    refine L_gy (dj := 14) rfl rfl rfl (X_load (p := (ptr b1 (0))) (v := pv) T22 rfl (hB1.at1 rfl) ?_)
    refine L_gy (dj := 14) rfl rfl rfl (X_len (v := pv) (n := ps.length) Try.underlying22 rfl hp.sv ?_)
    by_cases hc8 : (n : Int) ≥ (((ps.length : Nat) : Int))
    · refine L_gy (dj := 14) rfl rfl rfl (X_cmp (k := .i64) (a := n) (b := ((ps.length : Nat) : Int)) (r := true) rfl rfl rfl (decide_eq_true (p := ((((ps.length : Nat) : Int)) : Int) ≤ ((n) : Int)) (by omega)) ?_)
      refine L_op rfl (X_pick (t := false) (v := (.bool (true))) rfl rfl ?_)
      refine L_nil ?_
      refine T_n ?_
      refine W_ct rfl ?_
      refine W_seq ?_
      refine W_reg ?_
      refine L_op rfl (X_loadA (p := (ptr b4 (0))) (xs := [p_2, c_2, i_2, (.bool (off))]) A26 rfl hB4.atAll rfl ?_)
      refine L_op0 (X_storeW (b := b2) (ys := [p_2, c_2, i_2, (.bool (off))]) A26 rfl rfl (List.forall_mem_cons.2 ⟨(hP2.1.sv.one), (List.forall_mem_cons.2 ⟨(hC2.1.sv.one), (List.forall_mem_cons.2 ⟨(hI2.1.sv.one), (List.forall_mem_cons.2 ⟨rfl, (fun _ h => by cases h)⟩)⟩)⟩)⟩) rfl hB2 rfl ?_)
      intro w9 hu9 hb9
      have hz9 := hu9.size
      replace hp := hp.upd hu9 fun i h1 h2 h => by have h : i = b2 := h; omega
      replace hc := hc.upd hu9 fun i h1 h2 h => by have h : i = b2 := h; omega
      replace hb := hb.upd hu9 fun i h1 h2 h => by have h : i = b2 := h; omega
      replace hU := hU.trans (hu9.mono fun i _ h => by have h : i = b2 := h; show n0 ≤ i; omega)
      replace hB1 := hB1.upd hu9 fun h => by have h : b1 = b2 := h; omega
      replace hP2 := hP2.upd hu9 fun i h1 h2 h => by have h : i = b2 := h; omega
      replace hC2 := hC2.upd hu9 fun i h1 h2 h => by have h : i = b2 := h; omega
      replace hI2 := hI2.upd hu9 fun i h1 h2 h => by have h : i = b2 := h; omega
      replace hB4 := hB4.upd hu9 fun h => by have h : b4 = b2 := h; omega
      replace hB2 : Blk w9 b2 #[p_2, c_2, i_2, (.bool (off))] 26 := hb9
      refine L_op rfl (X_assign (v := (.int .i64 (2))) rfl ?_)
      refine L_nil ?_
      refine T_n ?_
      refine W_ret ?_
      refine T_r ?_
      exact BQ_r (End_2 Try.results19 (RV_A A26 rfl hB2.atAll rfl) (v2 := .int .i64 2) rfl ⟨_, _, _, bs, 2, rfl, hP2.mono (by omega) (by omega), hC2.mono (by omega) (by omega), hI2.mono (by omega) (by omega), fun h => by omega, fun _ => ⟨rfl, rfl⟩, hU.own hn0⟩)
    · refine L_gy (dj := 14) rfl rfl rfl (X_cmp (k := .i64) (a := n) (b := ((ps.length : Nat) : Int)) (r := false) rfl rfl rfl (decide_eq_false (p := ((((ps.length : Nat) : Int)) : Int) ≤ ((n) : Int)) (by omega)) ?_)
      refine L_op rfl (X_pick (t := false) (v := (.bool (false))) rfl rfl ?_)
      refine L_nil ?_
      refine T_n ?_
      refine W_cf rfl ?_
      refine W_skip ?_
      refine T_n ?_
      refine W_seq ?_
      refine W_reg ?_
      refine L_op rfl (X_assign (v := (.slice none 0 0)) rfl ?_)
      refine L_nil ?_
      refine T_n ?_
      refine W_seq ?_
      refine W_reg ?_
      refine L_op rfl (X_assign (v := (.bool (false))) rfl ?_)
      refine L_nil ?_
      refine T_n ?_
      refine W_seq ?_
      refine W_seq ?_
      refine W_reg ?_
      refine L_op rfl (X_assign (v := (.int .i64 (0))) rfl ?_)
      refine L_nil ?_
      refine T_n ?_
      refine W_block ?_
      have hBT := hB4
      have hbT_ := hBT.lt
      obtain ⟨sL, hsL⟩ : ∃ n, n = w5.heap.size := ⟨_, rfl⟩
      refine W_loop (α := Nat × Bool × Value × List Int) [7, 8, 9, 22, 23, 24, 25, 26, 27, 28, 29, 30, 31, 32, 33, 34, 35, 36, 37, 38, 39, 40, 41, 42, 43, 44, 45, 46, 47, 48, 49, 50, 51, 52, 53, 54, 55, 56, 57, 58] (fun ⟨i, g, u, us⟩ => [(9, (.int .i64 (((i : Nat) : Int)))), (8, (.bool (g))), (7, u)]) (fun ⟨i, g, u, us⟩ w_ => i ≤ bs.length ∧ NOwn LI w_ 3 5 sL w_.heap.size u us ∧ us.length ≤ i + (if g = true then 1 else 0) ∧ SP bs n i g us ∧ sL ≤ w_.heap.size ∧ NOwn LP w_ 33 5 s0 us0 p_2 ps ∧ NOwn LW w_ 35 5 s0 us0 c_2 cs ∧ NOwn LI w_ 3 5 s0 us0 i_2 bs ∧ NRd LI w_ lo up bv bs ∧ Blk w_ b1 #[pv, cv, bv, .bool off] 26 ∧ Blk w_ b2 #[.slice none 0 0, .slice none 0 0, .slice none 0 0, .bool false] 26 ∧ Blk w_ b4 #[p_2, c_2, i_2, .bool off] 26 ∧ Upd (fun i => n0 ≤ i) w w_) (fun ⟨i, g, u, us⟩ => bs.length - i) ⟨rfl, (0, false, .slice none 0 0, []), ⟨Nat.zero_le _, NOwn.nil _ _ _ _ _, Nat.zero_le _, sp_nil _ _, by omega, hP2, hC2, hI2, hb, hB1, hB2, hBT, hU⟩, Out.refl _ _, ⟨rfl, rfl, rfl, trivial⟩⟩ ?_
      rintro ⟨i, g, u, us⟩ w10 _ ⟨hil, hN, hul, hSP, hsLw, hP2, hC2, hI2, hb, hB1, hB2, hBT, hU⟩
      have hsz_ := hU.size
      have hbTl := hBT.lt
      obtain ⟨s9, hs9⟩ : ∃ n, n = w10.heap.size := ⟨_, rfl⟩
      rw [← hs9] at hN
      refine W_seq ?_
      refine W_seq ?_
      refine W_reg ?_
      refine L_op rfl (X_move (v := (.int .i64 (((i : Nat) : Int)))) rfl ?_)
      refine L_op rfl (X_fldP (b := b1) (o := 0) (r := 2) Fd26_2 rfl rfl ?_)
      refine L_op rfl (X_load (p := (ptr b1 (2))) (v := bv) T24 rfl (hB1.at1 rfl) ?_)
      refine L_op rfl (X_len (v := bv) (n := bs.length) Try.underlying24 rfl hb.sv ?_)
      by_cases hc11 : (((i : Nat) : Int) : Int) < (((bs.length : Nat) : Int))
      · refine L_op rfl (X_cmp (k := .i64) (a := ((i : Nat) : Int)) (b := ((bs.length : Nat) : Int)) (r := true) rfl rfl rfl (decide_eq_true (p := ((((i : Nat) : Int)) : Int) < ((((bs.length : Nat) : Int)) : Int)) (by omega)) ?_)
        have hi : i < bs.length := by omega
        obtain ⟨a, hai⟩ : ∃ a, bs[i]? = some a := ⟨_, List.getElem?_eq_getElem hi⟩
        refine L_nil ?_
        refine T_n ?_
        refine W_ct rfl ?_
        refine W_skip ?_
        refine T_n ?_
        refine W_seq ?_
        refine W_block ?_
        refine W_seq ?_
        refine W_seq ?_
        refine W_reg ?_
        rcases Bool.eq_false_or_eq_true g with rfl | rfl
        · refine L_op rfl (X_move (v := (.bool (true))) rfl ?_)
          refine L_op rfl (X_not (b := true) (r := false) rfl rfl ?_)
          refine L_op rfl (X_move (v := (.bool (false))) rfl ?_)
          refine L_gn (dj := 31) (t := false) rfl rfl rfl rfl ?_
          refine L_gn (dj := 31) (t := false) rfl rfl rfl rfl ?_
          refine L_gn (dj := 31) (t := false) rfl rfl rfl rfl ?_
          refine L_gn (dj := 31) (t := false) rfl rfl rfl rfl ?_
          refine L_gn (dj := 31) (t := false) rfl rfl rfl rfl ?_
          refine L_gn (dj := 31) (t := false) rfl rfl rfl rfl ?_
          refine L_gn (dj := 31) (t := false) rfl rfl rfl rfl ?_
          refine L_op rfl (X_pick (t := false) (v := (.bool (false))) rfl rfl ?_)
          refine L_nil ?_
          refine T_n ?_
          refine W_cf rfl ?_
          refine W_skip ?_
          refine T_n ?_
          refine W_seq ?_
          refine W_reg ?_
          refine L_op rfl (X_fldP (b := b1) (o := 0) (r := 2) Fd26_2 rfl rfl ?_)
          refine L_op rfl (X_load (p := (ptr b1 (2))) (v := bv) T24 rfl (hB1.at1 rfl) ?_)
          refine L_op rfl (X_move (v := (.int .i64 (((i : Nat) : Int)))) rfl ?_)
          refine L_op rfl (X_idx (v := bv) (n := bs.length) (k := .i64) (i := ((i : Nat) : Int)) S24 rfl hb.sv rfl (by omega) (by omega) ?_)
          refine L_op rfl (X_load (v := .int .i64 a) T3 rfl (iat hb (Int.toNat_natCast _) hai) ?_)
          refine L_op rfl (X_move (v := (.int .i64 (n))) rfl ?_)
          by_cases hc12 : (a : Int) ≠ (n)
          · refine L_op rfl (X_cmp (k := .i64) (a := a) (b := n) (r := true) rfl rfl rfl (decide_eq_true (p := ((a) : Int) ≠ ((n) : Int)) (by omega)) ?_)
            refine L_nil ?_
            refine T_n ?_
            refine W_ct rfl ?_
            refine W_reg ?_
            refine L_op rfl (X_move (v := u) rfl ?_)
            refine L_op rfl (X_fldP (b := b1) (o := 0) (r := 2) Fd26_2 rfl rfl ?_)
            refine L_op rfl (X_load (p := (ptr b1 (2))) (v := bv) T24 rfl (hB1.at1 rfl) ?_)
            refine L_op rfl (X_move (v := (.int .i64 (((i : Nat) : Int)))) rfl ?_)
            refine L_op rfl (X_idx (v := bv) (n := bs.length) (k := .i64) (i := ((i : Nat) : Int)) S24 rfl hb.sv rfl (by omega) (by omega) ?_)
            refine L_op rfl (X_load (v := .int .i64 a) T3 rfl (iat hb (Int.toNat_natCast _) hai) ?_)
            refine L_op rfl (X_buildSlice1 (vs := [(.int .i64 (a))]) S24 (by decide) rfl rfl (List.forall_mem_cons.2 ⟨rfl, (fun _ h => by cases h)⟩) ?_)
            intro b13 w13 hn13
            have hbn13 := hn13.num; have hbs13 := hn13.size
            replace hP2 := hP2.ext hn13.ext
            replace hC2 := hC2.ext hn13.ext
            replace hI2 := hI2.ext hn13.ext
            replace hN := hN.ext hn13.ext
            replace hb := hb.ext hn13.ext
            replace hB1 := hB1.ext hn13.ext
            replace hB2 := hB2.ext hn13.ext
            replace hBT := hBT.ext hn13.ext
            replace hU := hU.trans (Ext.upd hn13.ext)
            have hB13 := hn13.blk
            refine L_op rfl (X_append (B := sL) (n := us.length) (s := u) (x := (.slice (some ⟨b13, 0, none⟩) 1 1)) S24 ⟨_, Try.underlying24⟩ rfl rfl hN.1 (m := 1) (ys := [.int .i64 a]) (hB13.rd (o := 0) (n := 1) (c := 1) (sz := 1) (by decide) (by decide) rfl (fun j u hj => by rw [Nat.zero_add]; simpa using hj)) (List.forall_mem_cons.2 ⟨rfl, fun _ h => by cases h⟩) (by simp at hul; (try simp only [List.length_append, List.length_cons, List.length_nil]); unfold maxLen; omega) (by simp at hul; (try simp only [List.length_append, List.length_cons, List.length_nil]); omega) (by omega) ?_)
            intro v6 w6_ hO6 hu6 _
            have hz6_ := hu6.size
            have hN6 : NOwn LI w6_ 3 5 sL w6_.heap.size v6 (us ++ [a]) := NOwn.of (fun _ => rfl) (hO6.eq (by simp only [List.length_append, List.length_cons, List.length_nil]) (li_push _ _)) fun b hb => (hO6.lt hb).2
            have hub6 := fun b (hb : obk u = some b) => (⟨(hN.1.lt hb).1, hN.2.1 b hb⟩ : sL ≤ b ∧ b < s9)
            replace hP2 := hP2.upd hu6 fun i h1 h2 h => by have h := hub6 _ h; omega
            replace hC2 := hC2.upd hu6 fun i h1 h2 h => by have h := hub6 _ h; omega
            replace hI2 := hI2.upd hu6 fun i h1 h2 h => by have h := hub6 _ h; omega
            replace hb := hb.upd hu6 fun i h1 h2 h => by have h := hub6 _ h; omega
            replace hB1 := hB1.upd hu6 fun h => by have h := hub6 _ h; omega
            replace hB2 := hB2.upd hu6 fun h => by have h := hub6 _ h; omega
            replace hBT := hBT.upd hu6 fun h => by have h := hub6 _ h; omega
            replace hU := hU.trans (hu6.mono fun i _ h => by have h := hub6 _ h; show n0 ≤ i; omega)
            obtain ⟨u6, hu6_⟩ : ∃ n, n = w6_.heap.size := ⟨_, rfl⟩
            rw [← hu6_] at hN6
            refine L_op rfl (X_assign (v := v6) rfl ?_)
            refine L_nil ?_
            refine B_n ?_
            refine T_n ?_
            refine W_reg ?_
            refine L_op rfl (X_move (v := (.int .i64 (((i : Nat) : Int)))) rfl ?_)
            refine L_op rfl (X_arith (k := .i64) (a := ((i : Nat) : Int)) (b := 1) (r := ((i + 1 : Nat) : Int)) rfl rfl rfl (iadd64 (by omega) (by omega) (by omega)) ?_)
            refine L_op rfl (X_assign (v := (.int .i64 (((i + 1 : Nat) : Int)))) rfl ?_)
            refine L_nil ?_
            refine T_n ?_
            exact ⟨rfl, (i + 1, true, v6, us ++ [a]), ⟨⟨hi, hN6.mono (Nat.le_refl _) (by omega), by simp only [List.length_append, List.length_cons, List.length_nil] at *; simp at hul ⊢; omega, sp_on hpw hai hSP, by omega, hP2, hC2, hI2, hb, hB1, hB2, hBT, hU⟩, (by show bs.length - (i + 1) < bs.length - i; omega)⟩, (Out.mk rfl), ⟨rfl, rfl, rfl, trivial⟩⟩
          · exact absurd (hSP.2.1 n ((hSP.2.2.2 n).2 (.inr ⟨rfl, rfl⟩)) i a (Nat.le_refl _) hai) (by omega)
        · refine L_op rfl (X_move (v := (.bool (false))) rfl ?_)
          refine L_op rfl (X_not (b := false) (r := true) rfl rfl ?_)
          refine L_op rfl (X_move (v := (.bool (true))) rfl ?_)
          refine L_gy (dj := 31) rfl rfl rfl (X_fldP (b := b1) (o := 0) (r := 2) Fd26_2 rfl rfl ?_)
          refine L_gy (dj := 31) rfl rfl rfl (X_load (p := (ptr b1 (2))) (v := bv) T24 rfl (hB1.at1 rfl) ?_)
          refine L_gy (dj := 31) rfl rfl rfl (X_move (v := (.int .i64 (((i : Nat) : Int)))) rfl ?_)
          refine L_gy (dj := 31) rfl rfl rfl (X_idx (v := bv) (n := bs.length) (k := .i64) (i := ((i : Nat) : Int)) S24 rfl hb.sv rfl (by omega) (by omega) ?_)
          refine L_gy (dj := 31) rfl rfl rfl (X_load (v := .int .i64 a) T3 rfl (iat hb (Int.toNat_natCast _) hai) ?_)
          refine L_gy (dj := 31) rfl rfl rfl (X_move (v := (.int .i64 (n))) rfl ?_)
          by_cases hc14 : (a : Int) ≥ (n)
          · refine L_gy (dj := 31) rfl rfl rfl (X_cmp (k := .i64) (a := a) (b := n) (r := true) rfl rfl rfl (decide_eq_true (p := ((n) : Int) ≤ ((a) : Int)) (by omega)) ?_)
            refine L_op rfl (X_pick (t := true) (v := (.bool (true))) rfl rfl ?_)
            refine L_nil ?_
            refine T_n ?_
            refine W_ct rfl ?_
            refine W_seq ?_
            refine W_reg ?_
            refine L_op rfl (X_move (v := u) rfl ?_)
            refine L_op rfl (X_move (v := (.int .i64 (n))) rfl ?_)
            refine L_op rfl (X_buildSlice1 (vs := [(.int .i64 (n))]) S24 (by decide) rfl rfl (List.forall_mem_cons.2 ⟨rfl, (fun _ h => by cases h)⟩) ?_)
            intro b15 w15 hn15
            have hbn15 := hn15.num; have hbs15 := hn15.size
            replace hP2 := hP2.ext hn15.ext
            replace hC2 := hC2.ext hn15.ext
            replace hI2 := hI2.ext hn15.ext
            replace hN := hN.ext hn15.ext
            replace hb := hb.ext hn15.ext
            replace hB1 := hB1.ext hn15.ext
            replace hB2 := hB2.ext hn15.ext
            replace hBT := hBT.ext hn15.ext
            replace hU := hU.trans (Ext.upd hn15.ext)
            have hB15 := hn15.blk
            refine L_op rfl (X_append (B := sL) (n := us.length) (s := u) (x := (.slice (some ⟨b15, 0, none⟩) 1 1)) S24 ⟨_, Try.underlying24⟩ rfl rfl hN.1 (m := 1) (ys := [.int .i64 n]) (hB15.rd (o := 0) (n := 1) (c := 1) (sz := 1) (by decide) (by decide) rfl (fun j u hj => by rw [Nat.zero_add]; simpa using hj)) (List.forall_mem_cons.2 ⟨rfl, fun _ h => by cases h⟩) (by simp at hul; (try simp only [List.length_append, List.length_cons, List.length_nil]); unfold maxLen; omega) (by simp at hul; (try simp only [List.length_append, List.length_cons, List.length_nil]); omega) (by omega) ?_)
            intro v5 w5_ hO5 hu5 _
            have hz5_ := hu5.size
            have hN5 : NOwn LI w5_ 3 5 sL w5_.heap.size v5 (us ++ [n]) := NOwn.of (fun _ => rfl) (hO5.eq (by simp only [List.length_append, List.length_cons, List.length_nil]) (li_push _ _)) fun b hb => (hO5.lt hb).2
            have hub5 := fun b (hb : obk u = some b) => (⟨(hN.1.lt hb).1, hN.2.1 b hb⟩ : sL ≤ b ∧ b < s9)
            replace hP2 := hP2.upd hu5 fun i h1 h2 h => by have h := hub5 _ h; omega
            replace hC2 := hC2.upd hu5 fun i h1 h2 h => by have h := hub5 _ h; omega
            replace hI2 := hI2.upd hu5 fun i h1 h2 h => by have h := hub5 _ h; omega
            replace hb := hb.upd hu5 fun i h1 h2 h => by have h := hub5 _ h; omega
            replace hB1 := hB1.upd hu5 fun h => by have h := hub5 _ h; omega
            replace hB2 := hB2.upd hu5 fun h => by have h := hub5 _ h; omega
            replace hBT := hBT.upd hu5 fun h => by have h := hub5 _ h; omega
            replace hU := hU.trans (hu5.mono fun i _ h => by have h := hub5 _ h; show n0 ≤ i; omega)
            obtain ⟨u5, hu5_⟩ : ∃ n, n = w5_.heap.size := ⟨_, rfl⟩
            rw [← hu5_] at hN5
            refine L_op rfl (X_assign (v := v5) rfl ?_)
            refine L_nil ?_
            refine T_n ?_
            refine W_reg ?_
            refine L_op rfl (X_assign (v := (.bool (true))) rfl ?_)
            refine L_nil ?_
            refine T_n ?_
            refine W_seq ?_
            refine W_reg ?_
            refine L_op rfl (X_fldP (b := b1) (o := 0) (r := 2) Fd26_2 rfl rfl ?_)
            refine L_op rfl (X_load (p := (ptr b1 (2))) (v := bv) T24 rfl (hB1.at1 rfl) ?_)
            refine L_op rfl (X_move (v := (.int .i64 (((i : Nat) : Int)))) rfl ?_)
            refine L_op rfl (X_idx (v := bv) (n := bs.length) (k := .i64) (i := ((i : Nat) : Int)) S24 rfl hb.sv rfl (by omega) (by omega) ?_)
            refine L_op rfl (X_load (v := .int .i64 a) T3 rfl (iat hb (Int.toNat_natCast _) hai) ?_)
            refine L_op rfl (X_move (v := (.int .i64 (n))) rfl ?_)
            by_cases hc16 : (a : Int) ≠ (n)
            · refine L_op rfl (X_cmp (k := .i64) (a := a) (b := n) (r := true) rfl rfl rfl (decide_eq_true (p := ((a) : Int) ≠ ((n) : Int)) (by omega)) ?_)
              refine L_nil ?_
              refine T_n ?_
              refine W_ct rfl ?_
              refine W_reg ?_
              refine L_op rfl (X_move (v := v5) rfl ?_)
              refine L_op rfl (X_fldP (b := b1) (o := 0) (r := 2) Fd26_2 rfl rfl ?_)
              refine L_op rfl (X_load (p := (ptr b1 (2))) (v := bv) T24 rfl (hB1.at1 rfl) ?_)
              refine L_op rfl (X_move (v := (.int .i64 (((i : Nat) : Int)))) rfl ?_)
              refine L_op rfl (X_idx (v := bv) (n := bs.length) (k := .i64) (i := ((i : Nat) : Int)) S24 rfl hb.sv rfl (by omega) (by omega) ?_)
              refine L_op rfl (X_load (v := .int .i64 a) T3 rfl (iat hb (Int.toNat_natCast _) hai) ?_)
              refine L_op rfl (X_buildSlice1 (vs := [(.int .i64 (a))]) S24 (by decide) rfl rfl (List.forall_mem_cons.2 ⟨rfl, (fun _ h => by cases h)⟩) ?_)
              intro b17 w17 hn17
              have hbn17 := hn17.num; have hbs17 := hn17.size
              replace hP2 := hP2.ext hn17.ext
              replace hC2 := hC2.ext hn17.ext
              replace hI2 := hI2.ext hn17.ext
              replace hb := hb.ext hn17.ext
              replace hB1 := hB1.ext hn17.ext
              replace hB2 := hB2.ext hn17.ext
              replace hBT := hBT.ext hn17.ext
              replace hU := hU.trans (Ext.upd hn17.ext)
              replace hN5 := hN5.ext hn17.ext
              have hB17 := hn17.blk
              refine L_op rfl (X_append (B := sL) (n := (us ++ [n]).length) (s := v5) (x := (.slice (some ⟨b17, 0, none⟩) 1 1)) S24 ⟨_, Try.underlying24⟩ rfl rfl hN5.1 (m := 1) (ys := [.int .i64 a]) (hB17.rd (o := 0) (n := 1) (c := 1) (sz := 1) (by decide) (by decide) rfl (fun j u hj => by rw [Nat.zero_add]; simpa using hj)) (List.forall_mem_cons.2 ⟨rfl, fun _ h => by cases h⟩) (by simp at hul; (try simp only [List.length_append, List.length_cons, List.length_nil]); unfold maxLen; omega) (by simp at hul; (try simp only [List.length_append, List.length_cons, List.length_nil]); omega) (by omega) ?_)
              intro v6 w6_ hO6 hu6 _
              have hz6_ := hu6.size
              have hN6 : NOwn LI w6_ 3 5 sL w6_.heap.size v6 ((us ++ [n]) ++ [a]) := NOwn.of (fun _ => rfl) (hO6.eq (by simp only [List.length_append, List.length_cons, List.length_nil]) (li_push _ _)) fun b hb => (hO6.lt hb).2
              have hub6 := fun b (hb : obk v5 = some b) => (⟨(hN5.1.lt hb).1, hN5.2.1 b hb⟩ : sL ≤ b ∧ b < u5)
              replace hP2 := hP2.upd hu6 fun i h1 h2 h => by have h := hub6 _ h; omega
              replace hC2 := hC2.upd hu6 fun i h1 h2 h => by have h := hub6 _ h; omega
              replace hI2 := hI2.upd hu6 fun i h1 h2 h => by have h := hub6 _ h; omega
              replace hb := hb.upd hu6 fun i h1 h2 h => by have h := hub6 _ h; omega
              replace hB1 := hB1.upd hu6 fun h => by have h := hub6 _ h; omega
              replace hB2 := hB2.upd hu6 fun h => by have h := hub6 _ h; omega
              replace hBT := hBT.upd hu6 fun h => by have h := hub6 _ h; omega
              replace hU := hU.trans (hu6.mono fun i _ h => by have h := hub6 _ h; show n0 ≤ i; omega)
              obtain ⟨u6, hu6_⟩ : ∃ n, n = w6_.heap.size := ⟨_, rfl⟩
              rw [← hu6_] at hN6
              refine L_op rfl (X_assign (v := v6) rfl ?_)
              refine L_nil ?_
              refine B_n ?_
              refine T_n ?_
              refine W_reg ?_
              refine L_op rfl (X_move (v := (.int .i64 (((i : Nat) : Int)))) rfl ?_)
              refine L_op rfl (X_arith (k := .i64) (a := ((i : Nat) : Int)) (b := 1) (r := ((i + 1 : Nat) : Int)) rfl rfl rfl (iadd64 (by omega) (by omega) (by omega)) ?_)
              refine L_op rfl (X_assign (v := (.int .i64 (((i + 1 : Nat) : Int)))) rfl ?_)
              refine L_nil ?_
              refine T_n ?_
              exact ⟨rfl, (i + 1, true, v6, (us ++ [n]) ++ [a]), ⟨⟨hi, hN6.mono (Nat.le_refl _) (by omega), by simp only [List.length_append, List.length_cons, List.length_nil] at *; simp at hul ⊢; omega, sp_gt hpw hai (by omega) hSP, by omega, hP2, hC2, hI2, hb, hB1, hB2, hBT, hU⟩, (by show bs.length - (i + 1) < bs.length - i; omega)⟩, (Out.mk rfl), ⟨rfl, rfl, rfl, trivial⟩⟩
            · refine L_op rfl (X_cmp (k := .i64) (a := a) (b := n) (r := false) rfl rfl rfl (decide_eq_false (p := ((a) : Int) ≠ ((n) : Int)) (by omega)) ?_)
              refine L_nil ?_
              refine T_n ?_
              refine W_cf rfl ?_
              refine W_skip ?_
              refine B_n ?_
              refine T_n ?_
              refine W_reg ?_
              refine L_op rfl (X_move (v := (.int .i64 (((i : Nat) : Int)))) rfl ?_)
              refine L_op rfl (X_arith (k := .i64) (a := ((i : Nat) : Int)) (b := 1) (r := ((i + 1 : Nat) : Int)) rfl rfl rfl (iadd64 (by omega) (by omega) (by omega)) ?_)
              refine L_op rfl (X_assign (v := (.int .i64 (((i + 1 : Nat) : Int)))) rfl ?_)
              refine L_nil ?_
              refine T_n ?_
              exact ⟨rfl, (i + 1, true, v5, us ++ [n]), ⟨⟨hi, hN5.mono (Nat.le_refl _) (by omega), by simp only [List.length_append, List.length_cons, List.length_nil] at *; simp at hul ⊢; omega, sp_eq hpw hai (by omega) hSP, by omega, hP2, hC2, hI2, hb, hB1, hB2, hBT, hU⟩, (by show bs.length - (i + 1) < bs.length - i; omega)⟩, (Out.mk rfl), ⟨rfl, rfl, rfl, trivial⟩⟩
          · refine L_gy (dj := 31) rfl rfl rfl (X_cmp (k := .i64) (a := a) (b := n) (r := false) rfl rfl rfl (decide_eq_false (p := ((n) : Int) ≤ ((a) : Int)) (by omega)) ?_)
            refine L_op rfl (X_pick (t := true) (v := (.bool (false))) rfl rfl ?_)
            refine L_nil ?_
            refine T_n ?_
            refine W_cf rfl ?_
            refine W_skip ?_
            refine T_n ?_
            refine W_seq ?_
            refine W_reg ?_
            refine L_op rfl (X_fldP (b := b1) (o := 0) (r := 2) Fd26_2 rfl rfl ?_)
            refine L_op rfl (X_load (p := (ptr b1 (2))) (v := bv) T24 rfl (hB1.at1 rfl) ?_)
            refine L_op rfl (X_move (v := (.int .i64 (((i : Nat) : Int)))) rfl ?_)
            refine L_op rfl (X_idx (v := bv) (n := bs.length) (k := .i64) (i := ((i : Nat) : Int)) S24 rfl hb.sv rfl (by omega) (by omega) ?_)
            refine L_op rfl (X_load (v := .int .i64 a) T3 rfl (iat hb (Int.toNat_natCast _) hai) ?_)
            refine L_op rfl (X_move (v := (.int .i64 (n))) rfl ?_)
            by_cases hc18 : (a : Int) ≠ (n)
            · refine L_op rfl (X_cmp (k := .i64) (a := a) (b := n) (r := true) rfl rfl rfl (decide_eq_true (p := ((a) : Int) ≠ ((n) : Int)) (by omega)) ?_)
              refine L_nil ?_
              refine T_n ?_
              refine W_ct rfl ?_
              refine W_reg ?_
              refine L_op rfl (X_move (v := u) rfl ?_)
              refine L_op rfl (X_fldP (b := b1) (o := 0) (r := 2) Fd26_2 rfl rfl ?_)
              refine L_op rfl (X_load (p := (ptr b1 (2))) (v := bv) T24 rfl (hB1.at1 rfl) ?_)
              refine L_op rfl (X_move (v := (.int .i64 (((i : Nat) : Int)))) rfl ?_)
              refine L_op rfl (X_idx (v := bv) (n := bs.length) (k := .i64) (i := ((i : Nat) : Int)) S24 rfl hb.sv rfl (by omega) (by omega) ?_)
              refine L_op rfl (X_load (v := .int .i64 a) T3 rfl (iat hb (Int.toNat_natCast _) hai) ?_)
              refine L_op rfl (X_buildSlice1 (vs := [(.int .i64 (a))]) S24 (by decide) rfl rfl (List.forall_mem_cons.2 ⟨rfl, (fun _ h => by cases h)⟩) ?_)
              intro b19 w19 hn19
              have hbn19 := hn19.num; have hbs19 := hn19.size
              replace hP2 := hP2.ext hn19.ext
              replace hC2 := hC2.ext hn19.ext
              replace hI2 := hI2.ext hn19.ext
              replace hN := hN.ext hn19.ext
              replace hb := hb.ext hn19.ext
              replace hB1 := hB1.ext hn19.ext
              replace hB2 := hB2.ext hn19.ext
              replace hBT := hBT.ext hn19.ext
              replace hU := hU.trans (Ext.upd hn19.ext)
              have hB19 := hn19.blk
              refine L_op rfl (X_append (B := sL) (n := us.length) (s := u) (x := (.slice (some ⟨b19, 0, none⟩) 1 1)) S24 ⟨_, Try.underlying24⟩ rfl rfl hN.1 (m := 1) (ys := [.int .i64 a]) (hB19.rd (o := 0) (n := 1) (c := 1) (sz := 1) (by decide) (by decide) rfl (fun j u hj => by rw [Nat.zero_add]; simpa using hj)) (List.forall_mem_cons.2 ⟨rfl, fun _ h => by cases h⟩) (by simp at hul; (try simp only [List.length_append, List.length_cons, List.length_nil]); unfold maxLen; omega) (by simp at hul; (try simp only [List.length_append, List.length_cons, List.length_nil]); omega) (by omega) ?_)
              intro v6 w6_ hO6 hu6 _
              have hz6_ := hu6.size
              have hN6 : NOwn LI w6_ 3 5 sL w6_.heap.size v6 (us ++ [a]) := NOwn.of (fun _ => rfl) (hO6.eq (by simp only [List.length_append, List.length_cons, List.length_nil]) (li_push _ _)) fun b hb => (hO6.lt hb).2
              have hub6 := fun b (hb : obk u = some b) => (⟨(hN.1.lt hb).1, hN.2.1 b hb⟩ : sL ≤ b ∧ b < s9)
              replace hP2 := hP2.upd hu6 fun i h1 h2 h => by have h := hub6 _ h; omega
              replace hC2 := hC2.upd hu6 fun i h1 h2 h => by have h := hub6 _ h; omega
              replace hI2 := hI2.upd hu6 fun i h1 h2 h => by have h := hub6 _ h; omega
              replace hb := hb.upd hu6 fun i h1 h2 h => by have h := hub6 _ h; omega
              replace hB1 := hB1.upd hu6 fun h => by have h := hub6 _ h; omega
              replace hB2 := hB2.upd hu6 fun h => by have h := hub6 _ h; omega
              replace hBT := hBT.upd hu6 fun h => by have h := hub6 _ h; omega
              replace hU := hU.trans (hu6.mono fun i _ h => by have h := hub6 _ h; show n0 ≤ i; omega)
              obtain ⟨u6, hu6_⟩ : ∃ n, n = w6_.heap.size := ⟨_, rfl⟩
              rw [← hu6_] at hN6
              refine L_op rfl (X_assign (v := v6) rfl ?_)
              refine L_nil ?_
              refine B_n ?_
              refine T_n ?_
              refine W_reg ?_
              refine L_op rfl (X_move (v := (.int .i64 (((i : Nat) : Int)))) rfl ?_)
              refine L_op rfl (X_arith (k := .i64) (a := ((i : Nat) : Int)) (b := 1) (r := ((i + 1 : Nat) : Int)) rfl rfl rfl (iadd64 (by omega) (by omega) (by omega)) ?_)
              refine L_op rfl (X_assign (v := (.int .i64 (((i + 1 : Nat) : Int)))) rfl ?_)
              refine L_nil ?_
              refine T_n ?_
              exact ⟨rfl, (i + 1, false, v6, us ++ [a]), ⟨⟨hi, hN6.mono (Nat.le_refl _) (by omega), by simp only [List.length_append, List.length_cons, List.length_nil] at *; simp at hul ⊢; omega, sp_lt hpw hai (by omega) hSP, by omega, hP2, hC2, hI2, hb, hB1, hB2, hBT, hU⟩, (by show bs.length - (i + 1) < bs.length - i; omega)⟩, (Out.mk rfl), ⟨rfl, rfl, rfl, trivial⟩⟩
            · exfalso; omega
      · refine L_op rfl (X_cmp (k := .i64) (a := ((i : Nat) : Int)) (b := ((bs.length : Nat) : Int)) (r := false) rfl rfl rfl (decide_eq_false (p := ((((i : Nat) : Int)) : Int) < ((((bs.length : Nat) : Int)) : Int)) (by omega)) ?_)
        have hib : bs.length ≤ i := by omega
        refine L_nil ?_
        refine T_n ?_
        refine W_cf rfl ?_
        refine W_exit ?_
        refine T_e ?_
        refine T_e ?_
        refine B_x ?_
        refine T_n ?_
        refine W_seq ?_
        refine W_seq ?_
        refine W_reg ?_
        rcases Bool.eq_false_or_eq_true g with rfl | rfl
        · obtain ⟨zs, hzs, hz1, hz2⟩ := sp_end (by omega) hSP
          rw [if_pos rfl] at hzs; rw [hzs] at hz1 hz2
          have hul2 : us.length ≤ bs.length + 1 := by simp at hul; omega
          refine L_op rfl (X_move (v := (.bool (true))) rfl ?_)
          refine L_op rfl (X_not (b := true) (r := false) rfl rfl ?_)
          refine L_nil ?_
          refine T_n ?_
          refine W_cf rfl ?_
          refine W_skip ?_
          refine T_n ?_
          refine W_seq ?_
          refine W_reg ?_
          refine L_op rfl (X_move (v := u) rfl ?_)
          refine L_op rfl (X_fldP (b := b4) (o := 0) (r := 2) Fd26_2 rfl rfl ?_)
          refine L_op0 (X_store (b := b4) (o := 2) T24 rfl rfl (hN.1.sv.one) hBT (by show (2 : Nat) < 4; decide) ?_)
          intro w20 hu20 hb20
          have hz20 := hu20.size
          replace hP2 := hP2.upd hu20 fun i h1 h2 h => by have h : i = b4 := h; omega
          replace hC2 := hC2.upd hu20 fun i h1 h2 h => by have h : i = b4 := h; omega
          replace hI2 := hI2.upd hu20 fun i h1 h2 h => by have h : i = b4 := h; omega
          replace hN := hN.upd hu20 fun i h1 h2 h => by have h : i = b4 := h; omega
          replace hb := hb.upd hu20 fun i h1 h2 h => by have h : i = b4 := h; omega
          replace hB1 := hB1.upd hu20 fun h => by have h : b1 = b4 := h; omega
          replace hB2 := hB2.upd hu20 fun h => by have h : b2 = b4 := h; omega
          replace hU := hU.trans (hu20.mono fun i _ h => by have h : i = b4 := h; show n0 ≤ i; omega)
          replace hBT : Blk w20 b4 #[p_2, c_2, u, (.bool (off))] 26 := hb20
          refine L_nil ?_
          refine T_n ?_
          refine W_seq ?_
          refine W_reg ?_
          refine L_op rfl (X_loadA (p := (ptr b4 (0))) (xs := [p_2, c_2, u, (.bool (off))]) A26 rfl hBT.atAll rfl ?_)
          refine L_op0 (X_storeW (b := b2) (ys := [p_2, c_2, u, (.bool (off))]) A26 rfl rfl (List.forall_mem_cons.2 ⟨(hP2.1.sv.one), (List.forall_mem_cons.2 ⟨(hC2.1.sv.one), (List.forall_mem_cons.2 ⟨(hN.1.sv.one), (List.forall_mem_cons.2 ⟨rfl, (fun _ h => by cases h)⟩)⟩)⟩)⟩) rfl hB2 rfl ?_)
          intro w21 hu21 hb21
          have hz21 := hu21.size
          replace hP2 := hP2.upd hu21 fun i h1 h2 h => by have h : i = b2 := h; omega
          replace hC2 := hC2.upd hu21 fun i h1 h2 h => by have h : i = b2 := h; omega
          replace hI2 := hI2.upd hu21 fun i h1 h2 h => by have h : i = b2 := h; omega
          replace hN := hN.upd hu21 fun i h1 h2 h => by have h : i = b2 := h; omega
          replace hb := hb.upd hu21 fun i h1 h2 h => by have h : i = b2 := h; omega
          replace hB1 := hB1.upd hu21 fun h => by have h : b1 = b2 := h; omega
          replace hU := hU.trans (hu21.mono fun i _ h => by have h : i = b2 := h; show n0 ≤ i; omega)
          replace hBT := hBT.upd hu21 fun h => by have h : b4 = b2 := h; omega
          replace hB2 : Blk w21 b2 #[p_2, c_2, u, (.bool (off))] 26 := hb21
          refine L_op rfl (X_assign (v := (.int .i64 (0))) rfl ?_)
          refine L_nil ?_
          refine T_n ?_
          refine W_ret ?_
          exact BQ_r (End_2 Try.results19 (RV_A A26 rfl hB2.atAll rfl) (v2 := .int .i64 0) rfl ⟨_, _, _, us, 0, rfl, hP2.mono (by omega) (by omega), hC2.mono (by omega) (by omega), hN.mono (by omega) (by omega), fun _ => ⟨rfl, hz1, hz2, by omega⟩, fun h => absurd ⟨by omega, by omega⟩ h, hU.own hn0⟩)
        · obtain ⟨zs, hzs, hz1, hz2⟩ := sp_end (by omega) hSP
          rw [if_neg (by decide)] at hzs; rw [hzs] at hz1 hz2
          have hul2 : us.length ≤ bs.length + 0 := by simp at hul; omega
          refine L_op rfl (X_move (v := (.bool (false))) rfl ?_)
          refine L_op rfl (X_not (b := false) (r := true) rfl rfl ?_)
          refine L_nil ?_
          refine T_n ?_
          refine W_ct rfl ?_
          refine W_reg ?_
          refine L_op rfl (X_move (v := u) rfl ?_)
          refine L_op rfl (X_move (v := (.int .i64 (n))) rfl ?_)
          refine L_op rfl (X_buildSlice1 (vs := [(.int .i64 (n))]) S24 (by decide) rfl rfl (List.forall_mem_cons.2 ⟨rfl, (fun _ h => by cases h)⟩) ?_)
          intro b22 w22 hn22
          have hbn22 := hn22.num; have hbs22 := hn22.size
          replace hP2 := hP2.ext hn22.ext
          replace hC2 := hC2.ext hn22.ext
          replace hI2 := hI2.ext hn22.ext
          replace hN := hN.ext hn22.ext
          replace hb := hb.ext hn22.ext
          replace hB1 := hB1.ext hn22.ext
          replace hB2 := hB2.ext hn22.ext
          replace hBT := hBT.ext hn22.ext
          replace hU := hU.trans (Ext.upd hn22.ext)
          have hB22 := hn22.blk
          refine L_op rfl (X_append (B := sL) (n := us.length) (s := u) (x := (.slice (some ⟨b22, 0, none⟩) 1 1)) S24 ⟨_, Try.underlying24⟩ rfl rfl hN.1 (m := 1) (ys := [.int .i64 n]) (hB22.rd (o := 0) (n := 1) (c := 1) (sz := 1) (by decide) (by decide) rfl (fun j u hj => by rw [Nat.zero_add]; simpa using hj)) (List.forall_mem_cons.2 ⟨rfl, fun _ h => by cases h⟩) (by simp at hul; (try simp only [List.length_append, List.length_cons, List.length_nil]); unfold maxLen; omega) (by simp at hul; (try simp only [List.length_append, List.length_cons, List.length_nil]); omega) (by omega) ?_)
          intro v7 w7_ hO7 hu7 _
          have hz7_ := hu7.size
          have hN7 : NOwn LI w7_ 3 5 sL w7_.heap.size v7 (us ++ [n]) := NOwn.of (fun _ => rfl) (hO7.eq (by simp only [List.length_append, List.length_cons, List.length_nil]) (li_push _ _)) fun b hb => (hO7.lt hb).2
          have hub7 := fun b (hb : obk u = some b) => (⟨(hN.1.lt hb).1, hN.2.1 b hb⟩ : sL ≤ b ∧ b < s9)
          replace hP2 := hP2.upd hu7 fun i h1 h2 h => by have h := hub7 _ h; omega
          replace hC2 := hC2.upd hu7 fun i h1 h2 h => by have h := hub7 _ h; omega
          replace hI2 := hI2.upd hu7 fun i h1 h2 h => by have h := hub7 _ h; omega
          replace hb := hb.upd hu7 fun i h1 h2 h => by have h := hub7 _ h; omega
          replace hB1 := hB1.upd hu7 fun h => by have h := hub7 _ h; omega
          replace hB2 := hB2.upd hu7 fun h => by have h := hub7 _ h; omega
          replace hBT := hBT.upd hu7 fun h => by have h := hub7 _ h; omega
          replace hU := hU.trans (hu7.mono fun i _ h => by have h := hub7 _ h; show n0 ≤ i; omega)
          obtain ⟨u7, hu7_⟩ : ∃ n, n = w7_.heap.size := ⟨_, rfl⟩
          rw [← hu7_] at hN7
          refine L_op rfl (X_assign (v := v7) rfl ?_)
          refine L_nil ?_
          refine T_n ?_
          refine W_seq ?_
          refine W_reg ?_
          refine L_op rfl (X_move (v := v7) rfl ?_)
          refine L_op rfl (X_fldP (b := b4) (o := 0) (r := 2) Fd26_2 rfl rfl ?_)
          refine L_op0 (X_store (b := b4) (o := 2) T24 rfl rfl (hN7.1.sv.one) hBT (by show (2 : Nat) < 4; decide) ?_)
          intro w23 hu23 hb23
          have hz23 := hu23.size
          replace hP2 := hP2.upd hu23 fun i h1 h2 h => by have h : i = b4 := h; omega
          replace hC2 := hC2.upd hu23 fun i h1 h2 h => by have h : i = b4 := h; omega
          replace hI2 := hI2.upd hu23 fun i h1 h2 h => by have h : i = b4 := h; omega
          replace hb := hb.upd hu23 fun i h1 h2 h => by have h : i = b4 := h; omega
          replace hB1 := hB1.upd hu23 fun h => by have h : b1 = b4 := h; omega
          replace hB2 := hB2.upd hu23 fun h => by have h : b2 = b4 := h; omega
          replace hU := hU.trans (hu23.mono fun i _ h => by have h : i = b4 := h; show n0 ≤ i; omega)
          replace hN7 := hN7.upd hu23 fun i h1 h2 h => by have h : i = b4 := h; omega
          replace hBT : Blk w23 b4 #[p_2, c_2, v7, (.bool (off))] 26 := hb23
          refine L_nil ?_
          refine T_n ?_
          refine W_seq ?_
          refine W_reg ?_
          refine L_op rfl (X_loadA (p := (ptr b4 (0))) (xs := [p_2, c_2, v7, (.bool (off))]) A26 rfl hBT.atAll rfl ?_)
          refine L_op0 (X_storeW (b := b2) (ys := [p_2, c_2, v7, (.bool (off))]) A26 rfl rfl (List.forall_mem_cons.2 ⟨(hP2.1.sv.one), (List.forall_mem_cons.2 ⟨(hC2.1.sv.one), (List.forall_mem_cons.2 ⟨(hN7.1.sv.one), (List.forall_mem_cons.2 ⟨rfl, (fun _ h => by cases h)⟩)⟩)⟩)⟩) rfl hB2 rfl ?_)
          intro w24 hu24 hb24
          have hz24 := hu24.size
          replace hP2 := hP2.upd hu24 fun i h1 h2 h => by have h : i = b2 := h; omega
          replace hC2 := hC2.upd hu24 fun i h1 h2 h => by have h : i = b2 := h; omega
          replace hI2 := hI2.upd hu24 fun i h1 h2 h => by have h : i = b2 := h; omega
          replace hb := hb.upd hu24 fun i h1 h2 h => by have h : i = b2 := h; omega
          replace hB1 := hB1.upd hu24 fun h => by have h : b1 = b2 := h; omega
          replace hU := hU.trans (hu24.mono fun i _ h => by have h : i = b2 := h; show n0 ≤ i; omega)
          replace hN7 := hN7.upd hu24 fun i h1 h2 h => by have h : i = b2 := h; omega
          replace hBT := hBT.upd hu24 fun h => by have h : b4 = b2 := h; omega
          replace hB2 : Blk w24 b2 #[p_2, c_2, v7, (.bool (off))] 26 := hb24
          refine L_op rfl (X_assign (v := (.int .i64 (0))) rfl ?_)
          refine L_nil ?_
          refine T_n ?_
          refine W_ret ?_
          exact BQ_r (End_2 Try.results19 (RV_A A26 rfl hB2.atAll rfl) (v2 := .int .i64 0) rfl ⟨_, _, _, (us ++ [n]), 0, rfl, hP2.mono (by omega) (by omega), hC2.mono (by omega) (by omega), hN7.mono (by omega) (by omega), fun _ => ⟨rfl, hz1, hz2, by rw [List.length_append]; show us.length + 1 ≤ _; omega⟩, fun h => absurd ⟨by omega, by omega⟩ h, hU.own hn0⟩)
end Go.Proofs.Ytfmgjkchhajpmaa
