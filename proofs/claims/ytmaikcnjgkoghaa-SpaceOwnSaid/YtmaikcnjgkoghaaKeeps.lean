/-
 The walk of SpaceKeeps. (Printed by wip/gen/t13p.py of this repo.)
-/
import Derived.Test.YtmaikcnjgkoghaaKeepLaw
namespace Go.Proofs.Ytmaikcnjgkoghaa
open Go Go.SL Go.Proofs
set_option linter.unusedVariables false

theorem wrap_u32 {a : Int} (h0 : 0 ≤ a) (h1 : a < 4294967296) : IntKind.u32.wrap a = a := by
 have e : (2 : Int) ^ 32 = 4294967296 := by decide
 simp only [IntKind.wrap, IntKind.signed, IntKind.bits, e, Bool.false_and, Bool.false_eq_true, if_false]
 omega
theorem ok_ins {s : Sp} {n t : Int} {k : Nat} (h : s.Ok) (h0 : 0 ≤ t) (h1 : t < 4294967296) : ∀ x ∈ insL s.ls k (n, t), 0 ≤ x.2 ∧ x.2 < 4294967296 := by
 intro x hx
 unfold insL at hx
 rcases List.mem_append.1 hx with h2 | h2
 ·exact h x (List.mem_of_mem_take h2)
 ·rcases List.mem_cons.1 h2 with rfl | h2
  ·exact ⟨h0, h1⟩
  ·exact h x (List.mem_of_mem_drop h2)
theorem drop_cons {α : Type} {l : List α} {i : Nat} (h : i < l.length) : ∃ a r, l.drop i = a :: r ∧ l.drop (i + 1) = r ∧ l.take (i + 1) = l.take i ++ [a] := by
 refine ⟨l[i], l.drop (i + 1), List.drop_eq_getElem_cons h, rfl, ?_⟩
 rw [List.take_add_one, List.getElem?_eq_getElem h]; rfl
theorem head_get {α : Type} {l : List α} {a : α} {r : List α} (h : l = a :: r) : l[0]? = some a := by rw [h]; rfl

set_option maxRecDepth 10000 in
set_option maxHeartbeats 2000000 in
theorem c_spaceKeeps (s : Sp) (n t u pin : Int) (w : World) (hs : s.Rd w 0 w.heap.size) (hok : s.Ok) (ht : 0 ≤ t ∧ t < 4294967296) (hu_ : 0 ≤ u ∧ u < 4294967296) (hp_ : 0 ≤ pin ∧ pin < 4294967296) : CT Try.prog 3 #[(.agg #[(.int .i64 (s.sz)), s.uv, s.lv]), (.int .i64 (n)), (.int .u32 (t)), (.int .u32 (u)), (.int .u32 (pin))] w fun v w' => v = .bool true ∧ Ext w w' := by
 obtain ⟨n0, hn0⟩ : ∃ n, n = w.heap.size := ⟨_, rfl⟩
 have hU : Upd (fun i => n0 ≤ i) w w := Upd.refl _ _
 rw [← hn0] at hs
 have hul := hs.1.sv.len; have hll := hs.2.sv.len
 refine CT_of Try.func3 rfl rfl rfl ?_
 refine W_seq ?_
 refine W_reg ?_
 refine L_op rfl (X_box (v := (.agg #[(.int .i64 (s.sz)), s.uv, s.lv])) (c := ([(.int .i64 (s.sz)), s.uv, s.lv]).toArray) rfl rfl ?_)
 intro b1 w1 hn1
 have hbn1 := hn1.num; have hbs1 := hn1.size
 replace hs := hs.ext hn1.ext
 replace hU := hU.trans (Ext.upd hn1.ext)
 have hB1 := hn1.blk
 refine L_op rfl (X_assign (v := (.bool (false))) rfl ?_)
 refine L_nil ?_
 refine T_n ?_
 refine W_seq ?_
 refine W_seq ?_
 refine W_reg ?_
 refine L_op rfl (X_loadA (p := (ptr b1 (0))) (xs := [(.int .i64 (s.sz)), s.uv, s.lv]) A25 rfl hB1.atAll rfl ?_)
 have hcr_ := c_great s w1 0 n0 hs
 refine L_op rfl (X_fn (vs := [(.agg ([(.int .i64 (s.sz)), s.uv, s.lv]).toArray)]) en6 rfl ?_)
 refine CT.mono hcr_ ?_
 clear hcr_
 rintro _ w2 ⟨⟨gG, rfl, hgG⟩, hu2⟩
 have hz2 := hu2.size
 replace hs := hs.ext hu2
 replace hU := hU.trans (Ext.upd hu2)
 replace hB1 := hB1.ext hu2
 rcases Bool.eq_false_or_eq_true (gG) with hc3 | hc3
 ·rw [hc3]
  refine L_op rfl (X_move (v := (.bool (true))) rfl ?_)
  refine L_gn (dj := 23) (t := true) rfl rfl rfl rfl ?_
  refine L_gn (dj := 23) (t := true) rfl rfl rfl rfl ?_
  refine L_gn (dj := 23) (t := true) rfl rfl rfl rfl ?_
  refine L_op rfl (X_pick (t := true) (v := (.bool (true))) rfl rfl ?_)
  refine L_op rfl (X_move (v := (.bool (true))) rfl ?_)
  refine L_gn (dj := 28) (t := true) rfl rfl rfl rfl ?_
  refine L_gn (dj := 28) (t := true) rfl rfl rfl rfl ?_
  refine L_op rfl (X_pick (t := true) (v := (.bool (true))) rfl rfl ?_)
  refine L_nil ?_
  refine T_n ?_
  refine W_ct rfl ?_
  refine W_seq ?_
  refine W_reg ?_
  refine L_op rfl (X_fn (vs := []) en8 rfl (CT.mono (c_wakes _) ?_))
  rintro _ w4 ⟨rfl, hu4⟩
  have hz4 := hu4.size
  replace hs := hs.ext hu4
  replace hU := hU.trans (Ext.upd hu4)
  replace hB1 := hB1.ext hu4
  refine L_op rfl (X_assign (v := (.bool (true))) rfl ?_)
  refine L_nil ?_
  refine T_n ?_
  refine W_ret ?_
  refine T_r ?_
  exact BQ_r (End_1 Try.results3 (v := .bool true) rfl ⟨rfl, hU.own hn0⟩)
 ·rw [hc3]
  refine L_op rfl (X_move (v := (.bool (false))) rfl ?_)
  refine L_gy (dj := 23) rfl rfl rfl (X_loadA (p := (ptr b1 (0))) (xs := [(.int .i64 (s.sz)), s.uv, s.lv]) A25 rfl hB1.atAll rfl ?_)
  have hcr_ := c_mayR s w2 0 n0 hs
  refine L_gy (dj := 23) rfl rfl rfl (X_fn (vs := [(.agg ([(.int .i64 (s.sz)), s.uv, s.lv]).toArray)]) en7 rfl ?_)
  refine CT.mono hcr_ ?_
  clear hcr_
  rintro _ w5 ⟨⟨gM, rfl, hgM⟩, hu5⟩
  have hz5 := hu5.size
  replace hs := hs.ext hu5
  replace hU := hU.trans (Ext.upd hu5)
  replace hB1 := hB1.ext hu5
  rcases Bool.eq_false_or_eq_true (gM) with hc6 | hc6
  ·rw [hc6]
   refine L_gy (dj := 23) rfl rfl rfl (X_not (b := true) (r := false) rfl rfl ?_)
   refine L_op rfl (X_pick (t := false) (v := (.bool (false))) rfl rfl ?_)
   refine L_op rfl (X_move (v := (.bool (false))) rfl ?_)
   refine L_gy (dj := 28) rfl rfl rfl (X_move (v := (.int .u32 (t))) rfl ?_)
   by_cases hc7 : (t : Int) > (1073741824)
   ·refine L_gy (dj := 28) rfl rfl rfl (X_cmp (k := .u32) (a := t) (b := 1073741824) (r := true) rfl rfl rfl (decide_eq_true (p := ((1073741824) : Int) < ((t) : Int)) (by omega)) ?_)
    refine L_op rfl (X_pick (t := false) (v := (.bool (true))) rfl rfl ?_)
    refine L_nil ?_
    refine T_n ?_
    refine W_ct rfl ?_
    refine W_seq ?_
    refine W_reg ?_
    refine L_op rfl (X_fn (vs := []) en8 rfl (CT.mono (c_wakes _) ?_))
    rintro _ w8 ⟨rfl, hu8⟩
    have hz8 := hu8.size
    replace hs := hs.ext hu8
    replace hU := hU.trans (Ext.upd hu8)
    replace hB1 := hB1.ext hu8
    refine L_op rfl (X_assign (v := (.bool (true))) rfl ?_)
    refine L_nil ?_
    refine T_n ?_
    refine W_ret ?_
    refine T_r ?_
    exact BQ_r (End_1 Try.results3 (v := .bool true) rfl ⟨rfl, hU.own hn0⟩)
   ·refine L_gy (dj := 28) rfl rfl rfl (X_cmp (k := .u32) (a := t) (b := 1073741824) (r := false) rfl rfl rfl (decide_eq_false (p := ((1073741824) : Int) < ((t) : Int)) (by omega)) ?_)
    refine L_op rfl (X_pick (t := false) (v := (.bool (false))) rfl rfl ?_)
    refine L_nil ?_
    refine T_n ?_
    refine W_cf rfl ?_
    refine W_skip ?_
    refine T_n ?_
    refine W_seq ?_
    refine W_reg ?_
    refine L_op rfl (X_loadA (p := (ptr b1 (0))) (xs := [(.int .i64 (s.sz)), s.uv, s.lv]) A25 rfl hB1.atAll rfl ?_)
    refine L_op rfl (X_move (v := (.int .i64 (n))) rfl ?_)
    refine L_op rfl (X_move (v := (.int .u32 (t))) rfl ?_)
    have hM := hgM.1 hc6
    have hng : ¬ (300 < s.us.length ∨ 300 < s.ls.length) := fun h_ => by have h2_ := hgG.2 h_; rw [hc3] at h2_; cases h2_
    obtain ⟨sF, hsF⟩ : ∃ n, n = w5.heap.size := ⟨_, rfl⟩
    have hcr_ := c_free s n t w5 0 n0 (by omega) hs (by omega) (by omega)
    refine L_op rfl (X_fn (vs := [(.agg ([(.int .i64 (s.sz)), s.uv, s.lv]).toArray), (.int .i64 (n)), (.int .u32 (t))]) en9 rfl ?_)
    refine CT.mono hcr_ ?_
    clear hcr_
    rintro vF w9 ⟨hno, hyes, hu9⟩
    have hz9 := hu9.size
    obtain ⟨uF, huF⟩ : ∃ n, n = w9.heap.size := ⟨_, rfl⟩
    replace hs := hs.ext hu9
    replace hU := hU.trans (Ext.upd hu9)
    replace hB1 := hB1.ext hu9
    rw [← hsF, ← huF] at hno hyes
    by_cases hH : HeldS s n
    ·obtain ⟨o, k, rfl, hoO, hosz, hous, hpos, hols⟩ := hyes hH
     clear hno hyes
     replace hols : o.ls = insL s.ls k (n, t) := hols
     have hoR := hoO.rd
     refine L_op rfl (X_move (v := (.tuple #[(.agg #[(.int .i64 (o.sz)), o.uv, o.lv]), (.int .i64 (0))])) rfl ?_)
     refine L_op rfl (X_extract (l := [(.agg #[(.int .i64 (o.sz)), o.uv, o.lv]), (.int .i64 (0))]) (v := (.agg #[(.int .i64 (o.sz)), o.uv, o.lv])) rfl rfl ?_)
     refine L_op rfl (X_extract (l := [(.agg #[(.int .i64 (o.sz)), o.uv, o.lv]), (.int .i64 (0))]) (v := (.int .i64 (0))) rfl rfl ?_)
     refine L_op rfl (X_alloc (z := (.agg #[(.int .i64 (0)), (.slice none 0 0), (.slice none 0 0)])) (c := #[(.int .i64 (0)), (.slice none 0 0), (.slice none 0 0)]) Zv25 rfl ?_)
     intro b10 w10 hn10
     have hbn10 := hn10.num; have hbs10 := hn10.size
     replace hs := hs.ext hn10.ext
     replace hU := hU.trans (Ext.upd hn10.ext)
     replace hB1 := hB1.ext hn10.ext
     replace hoR := hoR.ext hn10.ext
     have hB10 := hn10.blk
     refine L_op0 (X_storeW (b := b10) (ys := [(.int .i64 (o.sz)), o.uv, o.lv]) A25 rfl rfl (List.forall_mem_cons.2 ⟨rfl, (List.forall_mem_cons.2 ⟨(hoR.1.sv.one), (List.forall_mem_cons.2 ⟨(hoR.2.sv.one), (fun _ h => by cases h)⟩)⟩)⟩) rfl hB10 rfl ?_)
     intro w11 hu11 hb11
     have hz11 := hu11.size
     replace hs := hs.upd hu11 fun i h1 h2 h => by have h : i = b10 := h; omega
     replace hU := hU.trans (hu11.mono fun i _ h => by have h : i = b10 := h; show n0 ≤ i; omega)
     replace hB1 := hB1.upd hu11 fun h => by have h : b1 = b10 := h; omega
     replace hoR := hoR.upd hu11 fun i h1 h2 h => by have h : i = b10 := h; omega
     replace hB10 : Blk w11 b10 #[(.int .i64 (o.sz)), o.uv, o.lv] 25 := hb11
     refine L_op rfl (X_assign (v := (.int .i64 (0))) rfl ?_)
     refine L_nil ?_
     refine T_n ?_
     refine W_seq ?_
     refine W_seq ?_
     refine W_reg ?_
     refine L_op rfl (X_move (v := (.int .i64 (0))) rfl ?_)
     refine L_op rfl (X_cmp (k := .i64) (a := 0) (b := 0) (r := false) rfl rfl rfl rfl ?_)
     refine L_nil ?_
     refine T_n ?_
     refine W_cf rfl ?_
     refine W_skip ?_
     refine T_n ?_
     refine W_seq ?_
     refine W_reg ?_
     refine L_op rfl (X_move (v := (.int .u32 (u))) rfl ?_)
     refine L_op rfl (X_move (v := (.int .u32 (t))) rfl ?_)
     refine L_op rfl (X_arith (k := .u32) (a := t) (b := 4) (r := (t + 4)) rfl rfl rfl (wrap_u32 (by omega) (by omega)) ?_)
     by_cases hc12 : (u : Int) ≥ ((t + 4))
     ·refine L_op rfl (X_cmp (k := .u32) (a := u) (b := (t + 4)) (r := true) rfl rfl rfl (decide_eq_true (p := (((t + 4)) : Int) ≤ ((u) : Int)) (by omega)) ?_)
      refine L_op rfl (X_move (v := (.bool (true))) rfl ?_)
      refine L_gy (dj := 56) rfl rfl rfl (X_move (v := (.int .u32 (pin))) rfl ?_)
      refine L_gy (dj := 56) rfl rfl rfl (X_move (v := (.int .u32 (t))) rfl ?_)
      by_cases hc13 : (pin : Int) ≥ (t)
      ·refine L_gy (dj := 56) rfl rfl rfl (X_cmp (k := .u32) (a := pin) (b := t) (r := true) rfl rfl rfl (decide_eq_true (p := ((t) : Int) ≤ ((pin) : Int)) (by omega)) ?_)
       refine L_op rfl (X_pick (t := true) (v := (.bool (true))) rfl rfl ?_)
       refine L_op rfl (X_assign (v := (.bool (true))) rfl ?_)
       refine L_nil ?_
       refine T_n ?_
       refine W_seq ?_
       refine W_seq ?_
       have hfr : (t + 4 ≤ u ∧ t ≤ pin) := by omega
       have hMo : MayS o.sz o.us o.ls := by rw [hosz, hous, hols]; exact may_ins hH hpos
       have hoOk : o.Ok := by unfold Sp.Ok; rw [hols]; exact ok_ins hok (by omega) (by omega)
       have hkl := keeps_len (t := t) (u := u) (pin := pin) hH hpos
       refine W_reg ?_
       refine L_op rfl (X_loadA (p := (ptr b10 (0))) (xs := [(.int .i64 (o.sz)), o.uv, o.lv]) A25 rfl hB10.atAll rfl ?_)
       have hcr_ := c_may o w11 sF uF (by omega) hoR
       refine L_op rfl (X_fn (vs := [(.agg ([(.int .i64 (o.sz)), o.uv, o.lv]).toArray)]) en11 rfl ?_)
       refine CT.mono hcr_ ?_
       clear hcr_
       rintro _ w14 ⟨⟨g14, rfl, hg14⟩, hu14⟩
       have hz14 := hu14.size
       replace hs := hs.ext hu14
       replace hU := hU.trans (Ext.upd hu14)
       replace hB1 := hB1.ext hu14
       replace hoR := hoR.ext hu14
       replace hB10 := hB10.ext hu14
       obtain rfl : g14 = true := hg14.2 hMo
       refine L_op rfl (X_not (b := true) (r := false) rfl rfl ?_)
       refine L_nil ?_
       refine T_n ?_
       refine W_cf rfl ?_
       refine W_skip ?_
       refine T_n ?_
       refine W_seq ?_
       refine W_reg ?_
       refine L_op rfl (X_loadA (p := (ptr b1 (0))) (xs := [(.int .i64 (s.sz)), s.uv, s.lv]) A25 rfl hB1.atAll rfl ?_)
       refine L_op rfl (X_move (v := (.int .u32 (u))) rfl ?_)
       refine L_op rfl (X_move (v := (.int .u32 (pin))) rfl ?_)
       refine L_op rfl (X_buildSlice1 (vs := [(.int .u32 (pin))]) S52 (by decide) rfl rfl (List.forall_mem_cons.2 ⟨rfl, (fun _ h => by cases h)⟩) ?_)
       intro b15 w15 hn15
       have hbn15 := hn15.num; have hbs15 := hn15.size
       replace hs := hs.ext hn15.ext
       replace hU := hU.trans (Ext.upd hn15.ext)
       replace hB1 := hB1.ext hn15.ext
       replace hoR := hoR.ext hn15.ext
       replace hB10 := hB10.ext hn15.ext
       have hB15 := hn15.blk
       have hcr_ := c_left s u (.slice (some ⟨b15, 0, none⟩) 1 1) [pin] w15 0 n0 0 w15.heap.size (by omega) (Nat.le_refl _) hok (by omega) (by omega) hs (NRd.of (es := [pin]) (fun _ => rfl) (hB15.rd (o := 0) (n := 1) (c := 1) (sz := 1) (by decide) (by decide) rfl (fun j u hj => by rw [Nat.zero_add]; simpa [LU] using hj)) (fun b hb => by cases hb; exact ⟨Nat.zero_le _, hB15.lt⟩))
       refine L_op rfl (X_fn (vs := [(.agg ([(.int .i64 (s.sz)), s.uv, s.lv]).toArray), (.int .u32 (u)), (.slice (some ⟨b15, 0, none⟩) 1 1)]) en12 rfl ?_)
       refine CT.mono hcr_ ?_
       clear hcr_
       rintro _ w16 ⟨rfl, hu16⟩
       have hz16 := hu16.size
       replace hs := hs.ext hu16
       replace hU := hU.trans (Ext.upd hu16)
       replace hB1 := hB1.ext hu16
       replace hoR := hoR.ext hu16
       replace hB10 := hB10.ext hu16
       obtain ⟨nn, hnn⟩ : ∃ x, x = (opL s.sz s.us s.ls u [pin]).length := ⟨_, rfl⟩
       rw [← hnn]
       refine L_op rfl (X_assign (v := (.int .i64 (((nn : Nat) : Int)))) rfl ?_)
       refine L_nil ?_
       refine T_n ?_
       refine W_seq ?_
       refine W_reg ?_
       refine L_op rfl (X_loadA (p := (ptr b10 (0))) (xs := [(.int .i64 (o.sz)), o.uv, o.lv]) A25 rfl hB10.atAll rfl ?_)
       refine L_op rfl (X_move (v := (.int .u32 (u))) rfl ?_)
       refine L_op rfl (X_move (v := (.int .u32 (pin))) rfl ?_)
       refine L_op rfl (X_buildSlice1 (vs := [(.int .u32 (pin))]) S52 (by decide) rfl rfl (List.forall_mem_cons.2 ⟨rfl, (fun _ h => by cases h)⟩) ?_)
       intro b17 w17 hn17
       have hbn17 := hn17.num; have hbs17 := hn17.size
       replace hs := hs.ext hn17.ext
       replace hU := hU.trans (Ext.upd hn17.ext)
       replace hB1 := hB1.ext hn17.ext
       replace hoR := hoR.ext hn17.ext
       replace hB10 := hB10.ext hn17.ext
       have hB17 := hn17.blk
       have hcr_ := c_left o u (.slice (some ⟨b17, 0, none⟩) 1 1) [pin] w17 sF uF 0 w17.heap.size (by omega) (Nat.le_refl _) hoOk (by omega) (by omega) hoR (NRd.of (es := [pin]) (fun _ => rfl) (hB17.rd (o := 0) (n := 1) (c := 1) (sz := 1) (by decide) (by decide) rfl (fun j u hj => by rw [Nat.zero_add]; simpa [LU] using hj)) (fun b hb => by cases hb; exact ⟨Nat.zero_le _, hB17.lt⟩))
       refine L_op rfl (X_fn (vs := [(.agg ([(.int .i64 (o.sz)), o.uv, o.lv]).toArray), (.int .u32 (u)), (.slice (some ⟨b17, 0, none⟩) 1 1)]) en12 rfl ?_)
       refine CT.mono hcr_ ?_
       clear hcr_
       rintro _ w18 ⟨rfl, hu18⟩
       have hz18 := hu18.size
       replace hs := hs.ext hu18
       replace hU := hU.trans (Ext.upd hu18)
       replace hB1 := hB1.ext hu18
       replace hoR := hoR.ext hu18
       replace hB10 := hB10.ext hu18
       obtain ⟨mm, hmm⟩ : ∃ x, x = (opL o.sz o.us o.ls u [pin]).length := ⟨_, rfl⟩
       rw [← hmm]
       refine L_op rfl (X_assign (v := (.int .i64 (((mm : Nat) : Int)))) rfl ?_)
       refine L_nil ?_
       refine T_n ?_
       refine W_seq ?_
       refine W_seq ?_
       have hlen2 : (opL s.sz s.us (insL s.ls k (n, t)) u [pin]).length = mm := by rw [hmm, hosz, hous, hols]
       rw [hlen2, ← hnn] at hkl
       have hmn : mm = nn + 1 := hkl.1 hfr
       have hml := opL_le (sz := o.sz) (us := o.us) (ls := o.ls) (u := u) (ps := [pin])
       rw [← hmm, hous] at hml
       have hslen := hM.1.1.2.2; have hs256 := hM.1.1.2.1
       refine W_reg ?_
       refine L_op rfl (X_move (v := (.bool (true))) rfl ?_)
       refine L_op rfl (X_move (v := (.bool (true))) rfl ?_)
       refine L_gy (dj := 75) rfl rfl rfl (X_move (v := (.int .i64 (((mm : Nat) : Int)))) rfl ?_)
       refine L_gy (dj := 75) rfl rfl rfl (X_move (v := (.int .i64 (((nn : Nat) : Int)))) rfl ?_)
       refine L_gy (dj := 75) rfl rfl rfl (X_arith (k := .i64) (a := ((nn : Nat) : Int)) (b := 1) (r := ((nn + 1 : Nat) : Int)) rfl rfl rfl (iadd64 (by omega) (by omega) (by omega)) ?_)
       refine L_gy (dj := 75) rfl rfl rfl (X_cmp (k := .i64) (a := ((mm : Nat) : Int)) (b := ((nn + 1 : Nat) : Int)) (r := false) rfl rfl rfl (decide_eq_false (p := ((((mm : Nat) : Int)) : Int) ≠ ((((nn + 1 : Nat) : Int)) : Int)) (by omega)) ?_)
       refine L_op rfl (X_pick (t := true) (v := (.bool (false))) rfl rfl ?_)
       refine L_op rfl (X_move (v := (.bool (false))) rfl ?_)
       refine L_gy (dj := 81) rfl rfl rfl (X_move (v := (.bool (true))) rfl ?_)
       refine L_gy (dj := 81) rfl rfl rfl (X_not (b := true) (r := false) rfl rfl ?_)
       refine L_gy (dj := 81) rfl rfl rfl (X_move (v := (.bool (false))) rfl ?_)
       refine L_gn (dj := 84) (t := false) rfl rfl rfl rfl ?_
       refine L_gn (dj := 84) (t := false) rfl rfl rfl rfl ?_
       refine L_gn (dj := 84) (t := false) rfl rfl rfl rfl ?_
       refine L_gy (dj := 81) rfl rfl rfl (X_pick (t := false) (v := (.bool (false))) rfl rfl ?_)
       refine L_op rfl (X_pick (t := false) (v := (.bool (false))) rfl rfl ?_)
       refine L_op rfl (X_move (v := (.bool (false))) rfl ?_)
       refine L_gy (dj := 90) rfl rfl rfl (X_move (v := (.int .i64 (((mm : Nat) : Int)))) rfl ?_)
       refine L_gy (dj := 90) rfl rfl rfl (X_fldP (b := b1) (o := 0) (r := 0) Fd25_0 rfl rfl ?_)
       refine L_gy (dj := 90) rfl rfl rfl (X_load (p := (ptr b1 (0))) (v := (.int .i64 (s.sz))) T3 rfl (hB1.at1 rfl) ?_)
       refine L_gy (dj := 90) rfl rfl rfl (X_cmp (k := .i64) (a := ((mm : Nat) : Int)) (b := s.sz) (r := false) rfl rfl rfl (decide_eq_false (p := ((s.sz) : Int) < ((((mm : Nat) : Int)) : Int)) (by omega)) ?_)
       refine L_op rfl (X_pick (t := false) (v := (.bool (false))) rfl rfl ?_)
       refine L_nil ?_
       refine T_n ?_
       refine W_cf rfl ?_
       refine W_skip ?_
       refine T_n ?_
       refine W_seq ?_
       refine W_reg ?_
       refine L_op rfl (X_assign (v := (.bool (false))) rfl ?_)
       refine L_nil ?_
       refine T_n ?_
       refine W_seq ?_
       refine W_seq ?_
       refine W_reg ?_
       refine L_op rfl (X_assign (v := (.int .i64 (0))) rfl ?_)
       refine L_nil ?_
       refine T_n ?_
       refine W_block ?_
       obtain ⟨OL, hOL⟩ : ∃ l, l = (opL o.sz o.us o.ls u [pin]) := ⟨_, rfl⟩
       rw [← hOL] at hmm
       obtain ⟨nL, hnL⟩ : ∃ n, n = w18.heap.size := ⟨_, rfl⟩
       have hb11 := hB10.lt
       refine W_loop (α := Nat × Bool × Sp × Nat × Nat) [10, 16, 17, 18, 19, 20, 96, 97, 98, 99, 100, 101, 102, 103, 104, 105, 106, 107, 108, 109, 110, 111, 112, 113, 114, 115, 116, 117, 118, 119, 120, 121, 122, 123, 124, 125, 126, 127, 128, 129, 130, 131, 132, 133, 134, 135, 136, 137, 138, 139] (fun ⟨i, sn, z, lz, uz⟩ => [(17, (.int .i64 (((i : Nat) : Int)))), (16, (.bool (sn)))]) (fun ⟨i, sn, z, lz, uz⟩ w_ => i ≤ mm + 1 ∧ (sn = true ↔ n.toNat ∈ OL.take i) ∧ z.Rd w_ lz uz ∧ uz ≤ w_.heap.size ∧ (uz ≤ b10 ∨ b10 < lz) ∧ Blk w_ b10 #[.int .i64 z.sz, z.uv, z.lv] 25 ∧ MayS z.sz z.us z.ls ∧ z.Ok ∧ opL z.sz z.us z.ls u [pin] = OL.drop i ∧ Upd (fun i => n0 ≤ i) w w_ ∧ nL ≤ w_.heap.size) (fun ⟨i, sn, z, lz, uz⟩ => mm + 1 - i) ⟨rfl, (0, false, o, sF, uF), ⟨Nat.zero_le _, ⟨fun h_ => (by cases h_), fun h_ => (by rw [List.take_zero] at h_; cases h_)⟩, hoR, by omega, by omega, hB10, hMo, hoOk, by rw [hOL]; rfl, hU, by omega⟩, Out.refl _ _, ⟨rfl, rfl, trivial⟩⟩ ?_
       rintro ⟨i, sn, z, lz, uz⟩ w19 _ ⟨hil, hsn, hz, huz, hbz, hB10, hMz, hzOk, hop, hU, hnLw⟩
       have hsz_ := hU.size
       refine W_seq ?_
       refine W_seq ?_
       refine W_reg ?_
       refine L_op rfl (X_move (v := (.int .i64 (((i : Nat) : Int)))) rfl ?_)
       refine L_op rfl (X_move (v := (.int .i64 (((mm : Nat) : Int)))) rfl ?_)
       by_cases hc20 : (((i : Nat) : Int) : Int) ≤ (((mm : Nat) : Int))
       ·refine L_op rfl (X_cmp (k := .i64) (a := ((i : Nat) : Int)) (b := ((mm : Nat) : Int)) (r := true) rfl rfl rfl (decide_eq_true (p := ((((i : Nat) : Int)) : Int) ≤ ((((mm : Nat) : Int)) : Int)) (by omega)) ?_)
        refine L_nil ?_
        refine T_n ?_
        refine W_ct rfl ?_
        refine W_skip ?_
        refine T_n ?_
        refine W_seq ?_
        refine W_block ?_
        refine W_seq ?_
        refine W_reg ?_
        refine L_op rfl (X_loadA (p := (ptr b10 (0))) (xs := [(.int .i64 (z.sz)), z.uv, z.lv]) A25 rfl hB10.atAll rfl ?_)
        refine L_op rfl (X_move (v := (.int .u32 (u))) rfl ?_)
        refine L_op rfl (X_move (v := (.int .u32 (pin))) rfl ?_)
        refine L_op rfl (X_buildSlice1 (vs := [(.int .u32 (pin))]) S52 (by decide) rfl rfl (List.forall_mem_cons.2 ⟨rfl, (fun _ h => by cases h)⟩) ?_)
        intro b21 w21 hn21
        have hbn21 := hn21.num; have hbs21 := hn21.size
        replace hz := hz.ext hn21.ext
        replace hB10 := hB10.ext hn21.ext
        replace hU := hU.trans (Ext.upd hn21.ext)
        have hB21 := hn21.blk
        have hzl := hMz.1.1.2.2; have hz256 := hMz.1.1.2.1; have hzls := rise_len (may_rise hMz)
        obtain ⟨sY, hsY⟩ : ∃ n, n = w21.heap.size := ⟨_, rfl⟩
        have hcr_ := c_take z u (.slice (some ⟨b21, 0, none⟩) 1 1) [pin] w21 lz uz 0 w21.heap.size (by omega) (Nat.le_refl _) hzOk (by omega) (by omega) hz (NRd.of (es := [pin]) (fun _ => rfl) (hB21.rd (o := 0) (n := 1) (c := 1) (sz := 1) (by decide) (by decide) rfl (fun j u hj => by rw [Nat.zero_add]; simpa [LU] using hj)) (fun b hb => by cases hb; exact ⟨Nat.zero_le _, hB21.lt⟩)) (by omega) (by omega)
        refine L_op rfl (X_fn (vs := [(.agg ([(.int .i64 (z.sz)), z.uv, z.lv]).toArray), (.int .u32 (u)), (.slice (some ⟨b21, 0, none⟩) 1 1)]) en13 rfl ?_)
        refine CT.mono hcr_ ?_
        clear hcr_
        rintro _ w22 ⟨y, rfl, hyO, hysz, hyus, hyls, hu22⟩
        have hz22_ := hu22.size
        obtain ⟨uY, huY⟩ : ∃ n, n = w22.heap.size := ⟨_, rfl⟩
        rw [← hsY, ← huY] at hyO
        have hy := hyO.rd
        replace hz := hz.ext hu22
        replace hB10 := hB10.ext hu22
        replace hU := hU.trans (Ext.upd hu22)
        by_cases hi : i < mm
        ·obtain ⟨a, r, hdr, hdr2, htk⟩ := drop_cons (l := OL) (i := i) (by omega)
         rw [hdr] at hop
         obtain ⟨hopt, hal⟩ := op_take hMz hop
         have htd : takeD z.sz z.us z.ls u [pin] = ((a : Int), z.us.set a true, keepL z.ls a, 0) := take_hit hMz (head_get hop)
         rw [htd] at hyus hyls ⊢
         replace hyus : y.us = z.us.set a true := hyus
         replace hyls : y.ls = keepL z.ls a := hyls
         have hMy : MayS y.sz y.us y.ls := by rw [hysz, hyus, hyls]; exact may_take hMz hal
         have hyOk : y.Ok := by unfold Sp.Ok; rw [hyls]; exact fun x hx => hzOk x (List.mem_filter.1 hx).1
         have hopy : opL y.sz y.us y.ls u [pin] = OL.drop (i + 1) := by rw [hysz, hyus, hyls, hdr2]; exact hopt
         refine L_op rfl (X_move (v := (.tuple #[(.int .i64 (((a : Nat) : Int))), (.agg #[(.int .i64 (y.sz)), y.uv, y.lv]), (.int .i64 (0))])) rfl ?_)
         refine L_op rfl (X_extract (l := [(.int .i64 (((a : Nat) : Int))), (.agg #[(.int .i64 (y.sz)), y.uv, y.lv]), (.int .i64 (0))]) (v := (.int .i64 (((a : Nat) : Int)))) rfl rfl ?_)
         refine L_op rfl (X_extract (l := [(.int .i64 (((a : Nat) : Int))), (.agg #[(.int .i64 (y.sz)), y.uv, y.lv]), (.int .i64 (0))]) (v := (.agg #[(.int .i64 (y.sz)), y.uv, y.lv])) rfl rfl ?_)
         refine L_op rfl (X_extract (l := [(.int .i64 (((a : Nat) : Int))), (.agg #[(.int .i64 (y.sz)), y.uv, y.lv]), (.int .i64 (0))]) (v := (.int .i64 (0))) rfl rfl ?_)
         refine L_op rfl (X_alloc (z := (.agg #[(.int .i64 (0)), (.slice none 0 0), (.slice none 0 0)])) (c := #[(.int .i64 (0)), (.slice none 0 0), (.slice none 0 0)]) Zv25 rfl ?_)
         intro b23 w23 hn23
         have hbn23 := hn23.num; have hbs23 := hn23.size
         replace hz := hz.ext hn23.ext
         replace hB10 := hB10.ext hn23.ext
         replace hU := hU.trans (Ext.upd hn23.ext)
         replace hy := hy.ext hn23.ext
         have hB23 := hn23.blk
         refine L_op rfl (X_assign (v := (.int .i64 (((a : Nat) : Int)))) rfl ?_)
         refine L_op0 (X_storeW (b := b23) (ys := [(.int .i64 (y.sz)), y.uv, y.lv]) A25 rfl rfl (List.forall_mem_cons.2 ⟨rfl, (List.forall_mem_cons.2 ⟨(hy.1.sv.one), (List.forall_mem_cons.2 ⟨(hy.2.sv.one), (fun _ h => by cases h)⟩)⟩)⟩) rfl hB23 rfl ?_)
         intro w24 hu24 hb24
         have hz24 := hu24.size
         replace hz := hz.upd hu24 fun i h1 h2 h => by have h : i = b23 := h; omega
         replace hB10 := hB10.upd hu24 fun h => by have h : b10 = b23 := h; omega
         replace hU := hU.trans (hu24.mono fun i _ h => by have h : i = b23 := h; show n0 ≤ i; omega)
         replace hy := hy.upd hu24 fun i h1 h2 h => by have h : i = b23 := h; omega
         replace hB23 : Blk w24 b23 #[(.int .i64 (y.sz)), y.uv, y.lv] 25 := hb24
         refine L_op rfl (X_assign (v := (.int .i64 (0))) rfl ?_)
         refine L_nil ?_
         refine T_n ?_
         refine W_seq ?_
         refine W_seq ?_
         refine W_reg ?_
         refine L_op rfl (X_move (v := (.int .i64 (0))) rfl ?_)
         refine L_op rfl (X_cmp (k := .i64) (a := 0) (b := 0) (r := true) rfl rfl rfl rfl ?_)
         refine L_op rfl (X_move (v := (.int .i64 (((i : Nat) : Int)))) rfl ?_)
         refine L_op rfl (X_move (v := (.int .i64 (((mm : Nat) : Int)))) rfl ?_)
         refine L_op rfl (X_cmp (k := .i64) (a := ((i : Nat) : Int)) (b := ((mm : Nat) : Int)) (r := true) rfl rfl rfl (decide_eq_true (p := ((i : Nat) : Int) < ((mm : Nat) : Int)) (by omega)) ?_)
         refine L_op rfl (X_cmpBool (a := true) (b := true) (r := false) Try.underlying4 rfl rfl (.inr ⟨rfl, rfl⟩) ?_)
         refine L_op rfl (X_move (v := (.bool (false))) rfl ?_)
         refine L_gy (dj := 116) rfl rfl rfl (X_move (v := (.int .i64 (0))) rfl ?_)
         refine L_gy (dj := 116) rfl rfl rfl (X_cmp (k := .i64) (a := 0) (b := 0) (r := false) rfl rfl rfl rfl ?_)
         refine L_gy (dj := 116) rfl rfl rfl (X_move (v := (.bool (false))) rfl ?_)
         refine L_gn (dj := 119) (t := false) rfl rfl rfl rfl ?_
         refine L_gn (dj := 119) (t := false) rfl rfl rfl rfl ?_
         refine L_gy (dj := 116) rfl rfl rfl (X_pick (t := false) (v := (.bool (false))) rfl rfl ?_)
         refine L_op rfl (X_pick (t := false) (v := (.bool (false))) rfl rfl ?_)
         refine L_op rfl (X_move (v := (.bool (false))) rfl ?_)
         refine L_gy (dj := 124) rfl rfl rfl (X_loadA (p := (ptr b23 (0))) (xs := [(.int .i64 (y.sz)), y.uv, y.lv]) A25 rfl hB23.atAll rfl ?_)
         have hcr_ := c_may y w24 sY uY (by omega) hy
         refine L_gy (dj := 124) rfl rfl rfl (X_fn (vs := [(.agg ([(.int .i64 (y.sz)), y.uv, y.lv]).toArray)]) en11 rfl ?_)
         refine CT.mono hcr_ ?_
         clear hcr_
         rintro _ w25 ⟨⟨g25, rfl, hg25⟩, hu25⟩
         have hz25 := hu25.size
         replace hz := hz.ext hu25
         replace hB10 := hB10.ext hu25
         replace hU := hU.trans (Ext.upd hu25)
         replace hy := hy.ext hu25
         replace hB23 := hB23.ext hu25
         obtain rfl : g25 = true := hg25.2 hMy
         refine L_gy (dj := 124) rfl rfl rfl (X_not (b := true) (r := false) rfl rfl ?_)
         refine L_op rfl (X_pick (t := false) (v := (.bool (false))) rfl rfl ?_)
         refine L_nil ?_
         refine T_n ?_
         refine W_cf rfl ?_
         refine W_skip ?_
         refine T_n ?_
         refine W_seq ?_
         refine W_reg ?_
         rcases Bool.eq_false_or_eq_true sn with hsn_ | hsn_
         ·subst hsn_
          refine L_op rfl (X_move (v := (.bool (true))) rfl ?_)
          refine L_op rfl (X_move (v := (.bool (true))) rfl ?_)
          refine L_gn (dj := 130) (t := true) rfl rfl rfl rfl ?_
          refine L_gn (dj := 130) (t := true) rfl rfl rfl rfl ?_
          refine L_gn (dj := 130) (t := true) rfl rfl rfl rfl ?_
          refine L_gu (dj := 133) rfl rfl rfl ?_
          refine L_gu (dj := 133) rfl rfl rfl ?_
          refine L_gu (dj := 133) rfl rfl rfl ?_
          refine L_gn (dj := 130) (t := true) rfl rfl rfl rfl ?_
          refine L_op rfl (X_pick (t := true) (v := (.bool (true))) rfl rfl ?_)
          refine L_op rfl (X_assign (v := (.bool (true))) rfl ?_)
          refine L_nil ?_
          refine T_n ?_
          refine W_reg ?_
          refine L_op rfl (X_loadA (p := (ptr b23 (0))) (xs := [(.int .i64 (y.sz)), y.uv, y.lv]) A25 rfl hB23.atAll rfl ?_)
          refine L_op0 (X_storeW (b := b10) (ys := [(.int .i64 (y.sz)), y.uv, y.lv]) A25 rfl rfl (List.forall_mem_cons.2 ⟨rfl, (List.forall_mem_cons.2 ⟨(hy.1.sv.one), (List.forall_mem_cons.2 ⟨(hy.2.sv.one), (fun _ h => by cases h)⟩)⟩)⟩) rfl hB10 rfl ?_)
          intro w26 hu26 hb26
          have hz26 := hu26.size
          replace hz := hz.upd hu26 fun i h1 h2 h => by have h : i = b10 := h; omega
          replace hU := hU.trans (hu26.mono fun i _ h => by have h : i = b10 := h; show n0 ≤ i; omega)
          replace hy := hy.upd hu26 fun i h1 h2 h => by have h : i = b10 := h; omega
          replace hB23 := hB23.upd hu26 fun h => by have h : b23 = b10 := h; omega
          replace hB10 : Blk w26 b10 #[(.int .i64 (y.sz)), y.uv, y.lv] 25 := hb26
          refine L_nil ?_
          refine B_n ?_
          refine T_n ?_
          refine W_reg ?_
          refine L_op rfl (X_move (v := (.int .i64 (((i : Nat) : Int)))) rfl ?_)
          refine L_op rfl (X_arith (k := .i64) (a := ((i : Nat) : Int)) (b := 1) (r := ((i + 1 : Nat) : Int)) rfl rfl rfl (iadd64 (by omega) (by omega) (by omega)) ?_)
          refine L_op rfl (X_assign (v := (.int .i64 (((i + 1 : Nat) : Int)))) rfl ?_)
          refine L_nil ?_
          refine T_n ?_
          exact ⟨rfl, (i + 1, true, y, sY, uY), ⟨⟨by omega, ⟨fun _ => by rw [htk]; exact List.mem_append.2 (.inl (hsn.1 rfl)), fun _ => rfl⟩, hy, by omega, .inr (by omega), hB10, hMy, hyOk, hopy, hU, by omega⟩, (by show mm + 1 - (i + 1) < mm + 1 - i; omega)⟩, (Out.mk rfl), ⟨rfl, rfl, trivial⟩⟩
         ·subst hsn_
          refine L_op rfl (X_move (v := (.bool (false))) rfl ?_)
          refine L_op rfl (X_move (v := (.bool (false))) rfl ?_)
          refine L_gy (dj := 130) rfl rfl rfl (X_move (v := (.int .i64 (0))) rfl ?_)
          refine L_gy (dj := 130) rfl rfl rfl (X_cmp (k := .i64) (a := 0) (b := 0) (r := true) rfl rfl rfl rfl ?_)
          refine L_gy (dj := 130) rfl rfl rfl (X_move (v := (.bool (true))) rfl ?_)
          refine L_gy (dj := 133) rfl rfl rfl (X_move (v := (.int .i64 (((a : Nat) : Int)))) rfl ?_)
          refine L_gy (dj := 133) rfl rfl rfl (X_move (v := (.int .i64 (n))) rfl ?_)
          by_cases hc27 : (((a : Nat) : Int) : Int) = (n)
          ·refine L_gy (dj := 133) rfl rfl rfl (X_cmp (k := .i64) (a := ((a : Nat) : Int)) (b := n) (r := true) rfl rfl rfl (decide_eq_true (p := ((((a : Nat) : Int)) : Int) = ((n) : Int)) (by omega)) ?_)
           refine L_gy (dj := 130) rfl rfl rfl (X_pick (t := true) (v := (.bool (true))) rfl rfl ?_)
           refine L_op rfl (X_pick (t := false) (v := (.bool (true))) rfl rfl ?_)
           refine L_op rfl (X_assign (v := (.bool (true))) rfl ?_)
           refine L_nil ?_
           refine T_n ?_
           refine W_reg ?_
           refine L_op rfl (X_loadA (p := (ptr b23 (0))) (xs := [(.int .i64 (y.sz)), y.uv, y.lv]) A25 rfl hB23.atAll rfl ?_)
           refine L_op0 (X_storeW (b := b10) (ys := [(.int .i64 (y.sz)), y.uv, y.lv]) A25 rfl rfl (List.forall_mem_cons.2 ⟨rfl, (List.forall_mem_cons.2 ⟨(hy.1.sv.one), (List.forall_mem_cons.2 ⟨(hy.2.sv.one), (fun _ h => by cases h)⟩)⟩)⟩) rfl hB10 rfl ?_)
           intro w28 hu28 hb28
           have hz28 := hu28.size
           replace hz := hz.upd hu28 fun i h1 h2 h => by have h : i = b10 := h; omega
           replace hU := hU.trans (hu28.mono fun i _ h => by have h : i = b10 := h; show n0 ≤ i; omega)
           replace hy := hy.upd hu28 fun i h1 h2 h => by have h : i = b10 := h; omega
           replace hB23 := hB23.upd hu28 fun h => by have h : b23 = b10 := h; omega
           replace hB10 : Blk w28 b10 #[(.int .i64 (y.sz)), y.uv, y.lv] 25 := hb28
           refine L_nil ?_
           refine B_n ?_
           refine T_n ?_
           refine W_reg ?_
           refine L_op rfl (X_move (v := (.int .i64 (((i : Nat) : Int)))) rfl ?_)
           refine L_op rfl (X_arith (k := .i64) (a := ((i : Nat) : Int)) (b := 1) (r := ((i + 1 : Nat) : Int)) rfl rfl rfl (iadd64 (by omega) (by omega) (by omega)) ?_)
           refine L_op rfl (X_assign (v := (.int .i64 (((i + 1 : Nat) : Int)))) rfl ?_)
           refine L_nil ?_
           refine T_n ?_
           exact ⟨rfl, (i + 1, true, y, sY, uY), ⟨⟨by omega, ⟨fun _ => by rw [htk]; exact List.mem_append.2 (.inr (by rw [List.mem_singleton]; omega)), fun _ => rfl⟩, hy, by omega, .inr (by omega), hB10, hMy, hyOk, hopy, hU, by omega⟩, (by show mm + 1 - (i + 1) < mm + 1 - i; omega)⟩, (Out.mk rfl), ⟨rfl, rfl, trivial⟩⟩
          ·refine L_gy (dj := 133) rfl rfl rfl (X_cmp (k := .i64) (a := ((a : Nat) : Int)) (b := n) (r := false) rfl rfl rfl (decide_eq_false (p := ((((a : Nat) : Int)) : Int) = ((n) : Int)) (by omega)) ?_)
           refine L_gy (dj := 130) rfl rfl rfl (X_pick (t := true) (v := (.bool (false))) rfl rfl ?_)
           refine L_op rfl (X_pick (t := false) (v := (.bool (false))) rfl rfl ?_)
           refine L_op rfl (X_assign (v := (.bool (false))) rfl ?_)
           refine L_nil ?_
           refine T_n ?_
           refine W_reg ?_
           refine L_op rfl (X_loadA (p := (ptr b23 (0))) (xs := [(.int .i64 (y.sz)), y.uv, y.lv]) A25 rfl hB23.atAll rfl ?_)
           refine L_op0 (X_storeW (b := b10) (ys := [(.int .i64 (y.sz)), y.uv, y.lv]) A25 rfl rfl (List.forall_mem_cons.2 ⟨rfl, (List.forall_mem_cons.2 ⟨(hy.1.sv.one), (List.forall_mem_cons.2 ⟨(hy.2.sv.one), (fun _ h => by cases h)⟩)⟩)⟩) rfl hB10 rfl ?_)
           intro w29 hu29 hb29
           have hz29 := hu29.size
           replace hz := hz.upd hu29 fun i h1 h2 h => by have h : i = b10 := h; omega
           replace hU := hU.trans (hu29.mono fun i _ h => by have h : i = b10 := h; show n0 ≤ i; omega)
           replace hy := hy.upd hu29 fun i h1 h2 h => by have h : i = b10 := h; omega
           replace hB23 := hB23.upd hu29 fun h => by have h : b23 = b10 := h; omega
           replace hB10 : Blk w29 b10 #[(.int .i64 (y.sz)), y.uv, y.lv] 25 := hb29
           refine L_nil ?_
           refine B_n ?_
           refine T_n ?_
           refine W_reg ?_
           refine L_op rfl (X_move (v := (.int .i64 (((i : Nat) : Int)))) rfl ?_)
           refine L_op rfl (X_arith (k := .i64) (a := ((i : Nat) : Int)) (b := 1) (r := ((i + 1 : Nat) : Int)) rfl rfl rfl (iadd64 (by omega) (by omega) (by omega)) ?_)
           refine L_op rfl (X_assign (v := (.int .i64 (((i + 1 : Nat) : Int)))) rfl ?_)
           refine L_nil ?_
           refine T_n ?_
           exact ⟨rfl, (i + 1, false, y, sY, uY), ⟨⟨by omega, ⟨fun h_ => (by cases h_), fun h_ => (by rw [htk] at h_; rcases List.mem_append.1 h_ with h_ | h_; (· exact hsn.2 h_); (· rw [List.mem_singleton] at h_; have h4_ := hH.2.1; omega))⟩, hy, by omega, .inr (by omega), hB10, hMy, hyOk, hopy, hU, by omega⟩, (by show mm + 1 - (i + 1) < mm + 1 - i; omega)⟩, (Out.mk rfl), ⟨rfl, rfl, trivial⟩⟩
        ·have hdr : OL.drop i = [] := List.drop_of_length_le (by omega)
         rw [hdr] at hop
         have htd : takeD z.sz z.us z.ls u [pin] = (0, z.us, z.ls, 130) := take_nil hMz hop
         rw [htd] at hyus hyls ⊢
         replace hyus : y.us = z.us := hyus
         replace hyls : y.ls = z.ls := hyls
         have hMy : MayS y.sz y.us y.ls := by rw [hysz, hyus, hyls]; exact hMz
         have hyOk : y.Ok := by unfold Sp.Ok; rw [hyls]; exact hzOk
         have hopy : opL y.sz y.us y.ls u [pin] = OL.drop (i + 1) := by rw [hysz, hyus, hyls, hop]; exact (List.drop_of_length_le (by omega)).symm
         have htk : OL.take (i + 1) = OL.take i := by rw [List.take_of_length_le (by omega), List.take_of_length_le (by omega)]
         refine L_op rfl (X_move (v := (.tuple #[(.int .i64 (0)), (.agg #[(.int .i64 (y.sz)), y.uv, y.lv]), (.int .i64 (130))])) rfl ?_)
         refine L_op rfl (X_extract (l := [(.int .i64 (0)), (.agg #[(.int .i64 (y.sz)), y.uv, y.lv]), (.int .i64 (130))]) (v := (.int .i64 (0))) rfl rfl ?_)
         refine L_op rfl (X_extract (l := [(.int .i64 (0)), (.agg #[(.int .i64 (y.sz)), y.uv, y.lv]), (.int .i64 (130))]) (v := (.agg #[(.int .i64 (y.sz)), y.uv, y.lv])) rfl rfl ?_)
         refine L_op rfl (X_extract (l := [(.int .i64 (0)), (.agg #[(.int .i64 (y.sz)), y.uv, y.lv]), (.int .i64 (130))]) (v := (.int .i64 (130))) rfl rfl ?_)
         refine L_op rfl (X_alloc (z := (.agg #[(.int .i64 (0)), (.slice none 0 0), (.slice none 0 0)])) (c := #[(.int .i64 (0)), (.slice none 0 0), (.slice none 0 0)]) Zv25 rfl ?_)
         intro b30 w30 hn30
         have hbn30 := hn30.num; have hbs30 := hn30.size
         replace hz := hz.ext hn30.ext
         replace hB10 := hB10.ext hn30.ext
         replace hU := hU.trans (Ext.upd hn30.ext)
         replace hy := hy.ext hn30.ext
         have hB30 := hn30.blk
         refine L_op rfl (X_assign (v := (.int .i64 (0))) rfl ?_)
         refine L_op0 (X_storeW (b := b30) (ys := [(.int .i64 (y.sz)), y.uv, y.lv]) A25 rfl rfl (List.forall_mem_cons.2 ⟨rfl, (List.forall_mem_cons.2 ⟨(hy.1.sv.one), (List.forall_mem_cons.2 ⟨(hy.2.sv.one), (fun _ h => by cases h)⟩)⟩)⟩) rfl hB30 rfl ?_)
         intro w31 hu31 hb31
         have hz31 := hu31.size
         replace hz := hz.upd hu31 fun i h1 h2 h => by have h : i = b30 := h; omega
         replace hB10 := hB10.upd hu31 fun h => by have h : b10 = b30 := h; omega
         replace hU := hU.trans (hu31.mono fun i _ h => by have h : i = b30 := h; show n0 ≤ i; omega)
         replace hy := hy.upd hu31 fun i h1 h2 h => by have h : i = b30 := h; omega
         replace hB30 : Blk w31 b30 #[(.int .i64 (y.sz)), y.uv, y.lv] 25 := hb31
         refine L_op rfl (X_assign (v := (.int .i64 (130))) rfl ?_)
         refine L_nil ?_
         refine T_n ?_
         refine W_seq ?_
         refine W_seq ?_
         refine W_reg ?_
         refine L_op rfl (X_move (v := (.int .i64 (130))) rfl ?_)
         refine L_op rfl (X_cmp (k := .i64) (a := 130) (b := 0) (r := false) rfl rfl rfl rfl ?_)
         refine L_op rfl (X_move (v := (.int .i64 (((i : Nat) : Int)))) rfl ?_)
         refine L_op rfl (X_move (v := (.int .i64 (((mm : Nat) : Int)))) rfl ?_)
         refine L_op rfl (X_cmp (k := .i64) (a := ((i : Nat) : Int)) (b := ((mm : Nat) : Int)) (r := false) rfl rfl rfl (decide_eq_false (p := ((i : Nat) : Int) < ((mm : Nat) : Int)) (by omega)) ?_)
         refine L_op rfl (X_cmpBool (a := false) (b := false) (r := false) Try.underlying4 rfl rfl (.inr ⟨rfl, rfl⟩) ?_)
         refine L_op rfl (X_move (v := (.bool (false))) rfl ?_)
         refine L_gy (dj := 116) rfl rfl rfl (X_move (v := (.int .i64 (130))) rfl ?_)
         refine L_gy (dj := 116) rfl rfl rfl (X_cmp (k := .i64) (a := 130) (b := 0) (r := true) rfl rfl rfl rfl ?_)
         refine L_gy (dj := 116) rfl rfl rfl (X_move (v := (.bool (true))) rfl ?_)
         refine L_gy (dj := 119) rfl rfl rfl (X_move (v := (.int .i64 (130))) rfl ?_)
         refine L_gy (dj := 119) rfl rfl rfl (X_cmp (k := .i64) (a := 130) (b := 130) (r := false) rfl rfl rfl rfl ?_)
         refine L_gy (dj := 116) rfl rfl rfl (X_pick (t := true) (v := (.bool (false))) rfl rfl ?_)
         refine L_op rfl (X_pick (t := false) (v := (.bool (false))) rfl rfl ?_)
         refine L_op rfl (X_move (v := (.bool (false))) rfl ?_)
         refine L_gy (dj := 124) rfl rfl rfl (X_loadA (p := (ptr b30 (0))) (xs := [(.int .i64 (y.sz)), y.uv, y.lv]) A25 rfl hB30.atAll rfl ?_)
         have hcr_ := c_may y w31 sY uY (by omega) hy
         refine L_gy (dj := 124) rfl rfl rfl (X_fn (vs := [(.agg ([(.int .i64 (y.sz)), y.uv, y.lv]).toArray)]) en11 rfl ?_)
         refine CT.mono hcr_ ?_
         clear hcr_
         rintro _ w32 ⟨⟨g32, rfl, hg32⟩, hu32⟩
         have hz32 := hu32.size
         replace hz := hz.ext hu32
         replace hB10 := hB10.ext hu32
         replace hU := hU.trans (Ext.upd hu32)
         replace hy := hy.ext hu32
         replace hB30 := hB30.ext hu32
         obtain rfl : g32 = true := hg32.2 hMy
         refine L_gy (dj := 124) rfl rfl rfl (X_not (b := true) (r := false) rfl rfl ?_)
         refine L_op rfl (X_pick (t := false) (v := (.bool (false))) rfl rfl ?_)
         refine L_nil ?_
         refine T_n ?_
         refine W_cf rfl ?_
         refine W_skip ?_
         refine T_n ?_
         refine W_seq ?_
         refine W_reg ?_
         rcases Bool.eq_false_or_eq_true sn with hsn_ | hsn_
         ·subst hsn_
          refine L_op rfl (X_move (v := (.bool (true))) rfl ?_)
          refine L_op rfl (X_move (v := (.bool (true))) rfl ?_)
          refine L_gn (dj := 130) (t := true) rfl rfl rfl rfl ?_
          refine L_gn (dj := 130) (t := true) rfl rfl rfl rfl ?_
          refine L_gn (dj := 130) (t := true) rfl rfl rfl rfl ?_
          refine L_gu (dj := 133) rfl rfl rfl ?_
          refine L_gu (dj := 133) rfl rfl rfl ?_
          refine L_gu (dj := 133) rfl rfl rfl ?_
          refine L_gn (dj := 130) (t := true) rfl rfl rfl rfl ?_
          refine L_op rfl (X_pick (t := true) (v := (.bool (true))) rfl rfl ?_)
          refine L_op rfl (X_assign (v := (.bool (true))) rfl ?_)
          refine L_nil ?_
          refine T_n ?_
          refine W_reg ?_
          refine L_op rfl (X_loadA (p := (ptr b30 (0))) (xs := [(.int .i64 (y.sz)), y.uv, y.lv]) A25 rfl hB30.atAll rfl ?_)
          refine L_op0 (X_storeW (b := b10) (ys := [(.int .i64 (y.sz)), y.uv, y.lv]) A25 rfl rfl (List.forall_mem_cons.2 ⟨rfl, (List.forall_mem_cons.2 ⟨(hy.1.sv.one), (List.forall_mem_cons.2 ⟨(hy.2.sv.one), (fun _ h => by cases h)⟩)⟩)⟩) rfl hB10 rfl ?_)
          intro w33 hu33 hb33
          have hz33 := hu33.size
          replace hz := hz.upd hu33 fun i h1 h2 h => by have h : i = b10 := h; omega
          replace hU := hU.trans (hu33.mono fun i _ h => by have h : i = b10 := h; show n0 ≤ i; omega)
          replace hy := hy.upd hu33 fun i h1 h2 h => by have h : i = b10 := h; omega
          replace hB30 := hB30.upd hu33 fun h => by have h : b30 = b10 := h; omega
          replace hB10 : Blk w33 b10 #[(.int .i64 (y.sz)), y.uv, y.lv] 25 := hb33
          refine L_nil ?_
          refine B_n ?_
          refine T_n ?_
          refine W_reg ?_
          refine L_op rfl (X_move (v := (.int .i64 (((i : Nat) : Int)))) rfl ?_)
          refine L_op rfl (X_arith (k := .i64) (a := ((i : Nat) : Int)) (b := 1) (r := ((i + 1 : Nat) : Int)) rfl rfl rfl (iadd64 (by omega) (by omega) (by omega)) ?_)
          refine L_op rfl (X_assign (v := (.int .i64 (((i + 1 : Nat) : Int)))) rfl ?_)
          refine L_nil ?_
          refine T_n ?_
          exact ⟨rfl, (i + 1, true, y, sY, uY), ⟨⟨by omega, ⟨fun _ => by rw [htk]; exact hsn.1 rfl, fun _ => rfl⟩, hy, by omega, .inr (by omega), hB10, hMy, hyOk, hopy, hU, by omega⟩, (by show mm + 1 - (i + 1) < mm + 1 - i; omega)⟩, (Out.mk rfl), ⟨rfl, rfl, trivial⟩⟩
         ·subst hsn_
          refine L_op rfl (X_move (v := (.bool (false))) rfl ?_)
          refine L_op rfl (X_move (v := (.bool (false))) rfl ?_)
          refine L_gy (dj := 130) rfl rfl rfl (X_move (v := (.int .i64 (130))) rfl ?_)
          refine L_gy (dj := 130) rfl rfl rfl (X_cmp (k := .i64) (a := 130) (b := 0) (r := false) rfl rfl rfl rfl ?_)
          refine L_gy (dj := 130) rfl rfl rfl (X_move (v := (.bool (false))) rfl ?_)
          refine L_gn (dj := 133) (t := false) rfl rfl rfl rfl ?_
          refine L_gn (dj := 133) (t := false) rfl rfl rfl rfl ?_
          refine L_gn (dj := 133) (t := false) rfl rfl rfl rfl ?_
          refine L_gy (dj := 130) rfl rfl rfl (X_pick (t := false) (v := (.bool (false))) rfl rfl ?_)
          refine L_op rfl (X_pick (t := false) (v := (.bool (false))) rfl rfl ?_)
          refine L_op rfl (X_assign (v := (.bool (false))) rfl ?_)
          refine L_nil ?_
          refine T_n ?_
          refine W_reg ?_
          refine L_op rfl (X_loadA (p := (ptr b30 (0))) (xs := [(.int .i64 (y.sz)), y.uv, y.lv]) A25 rfl hB30.atAll rfl ?_)
          refine L_op0 (X_storeW (b := b10) (ys := [(.int .i64 (y.sz)), y.uv, y.lv]) A25 rfl rfl (List.forall_mem_cons.2 ⟨rfl, (List.forall_mem_cons.2 ⟨(hy.1.sv.one), (List.forall_mem_cons.2 ⟨(hy.2.sv.one), (fun _ h => by cases h)⟩)⟩)⟩) rfl hB10 rfl ?_)
          intro w34 hu34 hb34
          have hz34 := hu34.size
          replace hz := hz.upd hu34 fun i h1 h2 h => by have h : i = b10 := h; omega
          replace hU := hU.trans (hu34.mono fun i _ h => by have h : i = b10 := h; show n0 ≤ i; omega)
          replace hy := hy.upd hu34 fun i h1 h2 h => by have h : i = b10 := h; omega
          replace hB30 := hB30.upd hu34 fun h => by have h : b30 = b10 := h; omega
          replace hB10 : Blk w34 b10 #[(.int .i64 (y.sz)), y.uv, y.lv] 25 := hb34
          refine L_nil ?_
          refine B_n ?_
          refine T_n ?_
          refine W_reg ?_
          refine L_op rfl (X_move (v := (.int .i64 (((i : Nat) : Int)))) rfl ?_)
          refine L_op rfl (X_arith (k := .i64) (a := ((i : Nat) : Int)) (b := 1) (r := ((i + 1 : Nat) : Int)) rfl rfl rfl (iadd64 (by omega) (by omega) (by omega)) ?_)
          refine L_op rfl (X_assign (v := (.int .i64 (((i + 1 : Nat) : Int)))) rfl ?_)
          refine L_nil ?_
          refine T_n ?_
          exact ⟨rfl, (i + 1, false, y, sY, uY), ⟨⟨by omega, ⟨fun h_ => (by cases h_), fun h_ => (by rw [htk] at h_; exact hsn.2 h_)⟩, hy, by omega, .inr (by omega), hB10, hMy, hyOk, hopy, hU, by omega⟩, (by show mm + 1 - (i + 1) < mm + 1 - i; omega)⟩, (Out.mk rfl), ⟨rfl, rfl, trivial⟩⟩
       ·refine L_op rfl (X_cmp (k := .i64) (a := ((i : Nat) : Int)) (b := ((mm : Nat) : Int)) (r := false) rfl rfl rfl (decide_eq_false (p := ((((i : Nat) : Int)) : Int) ≤ ((((mm : Nat) : Int)) : Int)) (by omega)) ?_)
        have hin_ := (free_ins (t := t) (u := u) (pin := pin) (k := k) hH).1
        have hlt_ : n.toNat < s.us.length := by have h5_ := hH.2.2.1; have h6_ := hH.1.1.1.2.2; have h7_ := hH.2.1; omega
        have hmem : n.toNat ∈ OL ↔ t + 4 ≤ u ∧ t ≤ pin := by rw [hOL, op_mem hMo, hous, hols, hin_]; exact ⟨fun h_ => h_.2, fun h_ => ⟨hlt_, h_⟩⟩
        rw [List.take_of_length_le (by omega), hmem] at hsn
        obtain rfl : sn = true := hsn.2 hfr
        refine L_nil ?_
        refine T_n ?_
        refine W_cf rfl ?_
        refine W_exit ?_
        refine T_e ?_
        refine T_e ?_
        refine B_x ?_
        refine T_n ?_
        refine W_seq ?_
        refine W_reg ?_
        refine L_op rfl (X_move (v := (.bool (true))) rfl ?_)
        refine L_op rfl (X_move (v := (.bool (true))) rfl ?_)
        refine L_op rfl (X_cmpBool (a := true) (b := true) (r := true) Try.underlying4 rfl rfl (.inl ⟨rfl, rfl⟩) ?_)
        refine L_op rfl (X_move (v := (.bool (true))) rfl ?_)
        refine L_gy (dj := 143) rfl rfl rfl (X_fn (vs := []) en8 rfl (CT.mono (c_wakes _) ?_))
        rintro _ w35 ⟨rfl, hu35⟩
        have hz35 := hu35.size
        replace hz := hz.ext hu35
        replace hB10 := hB10.ext hu35
        replace hU := hU.trans (Ext.upd hu35)
        refine L_op rfl (X_pick (t := true) (v := (.bool (true))) rfl rfl ?_)
        refine L_op rfl (X_assign (v := (.bool (true))) rfl ?_)
        refine L_nil ?_
        refine T_n ?_
        refine W_ret ?_
        exact BQ_r (End_1 Try.results3 (v := .bool true) rfl ⟨rfl, hU.own hn0⟩)
      ·refine L_gy (dj := 56) rfl rfl rfl (X_cmp (k := .u32) (a := pin) (b := t) (r := false) rfl rfl rfl (decide_eq_false (p := ((t) : Int) ≤ ((pin) : Int)) (by omega)) ?_)
       refine L_op rfl (X_pick (t := true) (v := (.bool (false))) rfl rfl ?_)
       refine L_op rfl (X_assign (v := (.bool (false))) rfl ?_)
       refine L_nil ?_
       refine T_n ?_
       refine W_seq ?_
       refine W_seq ?_
       have hfr : ¬ (t + 4 ≤ u ∧ t ≤ pin) := by omega
       have hMo : MayS o.sz o.us o.ls := by rw [hosz, hous, hols]; exact may_ins hH hpos
       have hoOk : o.Ok := by unfold Sp.Ok; rw [hols]; exact ok_ins hok (by omega) (by omega)
       have hkl := keeps_len (t := t) (u := u) (pin := pin) hH hpos
       refine W_reg ?_
       refine L_op rfl (X_loadA (p := (ptr b10 (0))) (xs := [(.int .i64 (o.sz)), o.uv, o.lv]) A25 rfl hB10.atAll rfl ?_)
       have hcr_ := c_may o w11 sF uF (by omega) hoR
       refine L_op rfl (X_fn (vs := [(.agg ([(.int .i64 (o.sz)), o.uv, o.lv]).toArray)]) en11 rfl ?_)
       refine CT.mono hcr_ ?_
       clear hcr_
       rintro _ w36 ⟨⟨g36, rfl, hg36⟩, hu36⟩
       have hz36 := hu36.size
       replace hs := hs.ext hu36
       replace hU := hU.trans (Ext.upd hu36)
       replace hB1 := hB1.ext hu36
       replace hoR := hoR.ext hu36
       replace hB10 := hB10.ext hu36
       obtain rfl : g36 = true := hg36.2 hMo
       refine L_op rfl (X_not (b := true) (r := false) rfl rfl ?_)
       refine L_nil ?_
       refine T_n ?_
       refine W_cf rfl ?_
       refine W_skip ?_
       refine T_n ?_
       refine W_seq ?_
       refine W_reg ?_
       refine L_op rfl (X_loadA (p := (ptr b1 (0))) (xs := [(.int .i64 (s.sz)), s.uv, s.lv]) A25 rfl hB1.atAll rfl ?_)
       refine L_op rfl (X_move (v := (.int .u32 (u))) rfl ?_)
       refine L_op rfl (X_move (v := (.int .u32 (pin))) rfl ?_)
       refine L_op rfl (X_buildSlice1 (vs := [(.int .u32 (pin))]) S52 (by decide) rfl rfl (List.forall_mem_cons.2 ⟨rfl, (fun _ h => by cases h)⟩) ?_)
       intro b37 w37 hn37
       have hbn37 := hn37.num; have hbs37 := hn37.size
       replace hs := hs.ext hn37.ext
       replace hU := hU.trans (Ext.upd hn37.ext)
       replace hB1 := hB1.ext hn37.ext
       replace hoR := hoR.ext hn37.ext
       replace hB10 := hB10.ext hn37.ext
       have hB37 := hn37.blk
       have hcr_ := c_left s u (.slice (some ⟨b37, 0, none⟩) 1 1) [pin] w37 0 n0 0 w37.heap.size (by omega) (Nat.le_refl _) hok (by omega) (by omega) hs (NRd.of (es := [pin]) (fun _ => rfl) (hB37.rd (o := 0) (n := 1) (c := 1) (sz := 1) (by decide) (by decide) rfl (fun j u hj => by rw [Nat.zero_add]; simpa [LU] using hj)) (fun b hb => by cases hb; exact ⟨Nat.zero_le _, hB37.lt⟩))
       refine L_op rfl (X_fn (vs := [(.agg ([(.int .i64 (s.sz)), s.uv, s.lv]).toArray), (.int .u32 (u)), (.slice (some ⟨b37, 0, none⟩) 1 1)]) en12 rfl ?_)
       refine CT.mono hcr_ ?_
       clear hcr_
       rintro _ w38 ⟨rfl, hu38⟩
       have hz38 := hu38.size
       replace hs := hs.ext hu38
       replace hU := hU.trans (Ext.upd hu38)
       replace hB1 := hB1.ext hu38
       replace hoR := hoR.ext hu38
       replace hB10 := hB10.ext hu38
       obtain ⟨nn, hnn⟩ : ∃ x, x = (opL s.sz s.us s.ls u [pin]).length := ⟨_, rfl⟩
       rw [← hnn]
       refine L_op rfl (X_assign (v := (.int .i64 (((nn : Nat) : Int)))) rfl ?_)
       refine L_nil ?_
       refine T_n ?_
       refine W_seq ?_
       refine W_reg ?_
       refine L_op rfl (X_loadA (p := (ptr b10 (0))) (xs := [(.int .i64 (o.sz)), o.uv, o.lv]) A25 rfl hB10.atAll rfl ?_)
       refine L_op rfl (X_move (v := (.int .u32 (u))) rfl ?_)
       refine L_op rfl (X_move (v := (.int .u32 (pin))) rfl ?_)
       refine L_op rfl (X_buildSlice1 (vs := [(.int .u32 (pin))]) S52 (by decide) rfl rfl (List.forall_mem_cons.2 ⟨rfl, (fun _ h => by cases h)⟩) ?_)
       intro b39 w39 hn39
       have hbn39 := hn39.num; have hbs39 := hn39.size
       replace hs := hs.ext hn39.ext
       replace hU := hU.trans (Ext.upd hn39.ext)
       replace hB1 := hB1.ext hn39.ext
       replace hoR := hoR.ext hn39.ext
       replace hB10 := hB10.ext hn39.ext
       have hB39 := hn39.blk
       have hcr_ := c_left o u (.slice (some ⟨b39, 0, none⟩) 1 1) [pin] w39 sF uF 0 w39.heap.size (by omega) (Nat.le_refl _) hoOk (by omega) (by omega) hoR (NRd.of (es := [pin]) (fun _ => rfl) (hB39.rd (o := 0) (n := 1) (c := 1) (sz := 1) (by decide) (by decide) rfl (fun j u hj => by rw [Nat.zero_add]; simpa [LU] using hj)) (fun b hb => by cases hb; exact ⟨Nat.zero_le _, hB39.lt⟩))
       refine L_op rfl (X_fn (vs := [(.agg ([(.int .i64 (o.sz)), o.uv, o.lv]).toArray), (.int .u32 (u)), (.slice (some ⟨b39, 0, none⟩) 1 1)]) en12 rfl ?_)
       refine CT.mono hcr_ ?_
       clear hcr_
       rintro _ w40 ⟨rfl, hu40⟩
       have hz40 := hu40.size
       replace hs := hs.ext hu40
       replace hU := hU.trans (Ext.upd hu40)
       replace hB1 := hB1.ext hu40
       replace hoR := hoR.ext hu40
       replace hB10 := hB10.ext hu40
       obtain ⟨mm, hmm⟩ : ∃ x, x = (opL o.sz o.us o.ls u [pin]).length := ⟨_, rfl⟩
       rw [← hmm]
       refine L_op rfl (X_assign (v := (.int .i64 (((mm : Nat) : Int)))) rfl ?_)
       refine L_nil ?_
       refine T_n ?_
       refine W_seq ?_
       refine W_seq ?_
       have hlen2 : (opL s.sz s.us (insL s.ls k (n, t)) u [pin]).length = mm := by rw [hmm, hosz, hous, hols]
       rw [hlen2, ← hnn] at hkl
       have hmn : mm = nn := hkl.2 hfr
       have hml := opL_le (sz := o.sz) (us := o.us) (ls := o.ls) (u := u) (ps := [pin])
       rw [← hmm, hous] at hml
       have hslen := hM.1.1.2.2; have hs256 := hM.1.1.2.1
       refine W_reg ?_
       refine L_op rfl (X_move (v := (.bool (false))) rfl ?_)
       refine L_op rfl (X_move (v := (.bool (false))) rfl ?_)
       refine L_gn (dj := 75) (t := false) rfl rfl rfl rfl ?_
       refine L_gn (dj := 75) (t := false) rfl rfl rfl rfl ?_
       refine L_gn (dj := 75) (t := false) rfl rfl rfl rfl ?_
       refine L_gn (dj := 75) (t := false) rfl rfl rfl rfl ?_
       refine L_op rfl (X_pick (t := false) (v := (.bool (false))) rfl rfl ?_)
       refine L_op rfl (X_move (v := (.bool (false))) rfl ?_)
       refine L_gy (dj := 81) rfl rfl rfl (X_move (v := (.bool (false))) rfl ?_)
       refine L_gy (dj := 81) rfl rfl rfl (X_not (b := false) (r := true) rfl rfl ?_)
       refine L_gy (dj := 81) rfl rfl rfl (X_move (v := (.bool (true))) rfl ?_)
       refine L_gy (dj := 84) rfl rfl rfl (X_move (v := (.int .i64 (((mm : Nat) : Int)))) rfl ?_)
       refine L_gy (dj := 84) rfl rfl rfl (X_move (v := (.int .i64 (((nn : Nat) : Int)))) rfl ?_)
       refine L_gy (dj := 84) rfl rfl rfl (X_cmp (k := .i64) (a := ((mm : Nat) : Int)) (b := ((nn : Nat) : Int)) (r := false) rfl rfl rfl (decide_eq_false (p := ((((mm : Nat) : Int)) : Int) ≠ ((((nn : Nat) : Int)) : Int)) (by omega)) ?_)
       refine L_gy (dj := 81) rfl rfl rfl (X_pick (t := true) (v := (.bool (false))) rfl rfl ?_)
       refine L_op rfl (X_pick (t := false) (v := (.bool (false))) rfl rfl ?_)
       refine L_op rfl (X_move (v := (.bool (false))) rfl ?_)
       refine L_gy (dj := 90) rfl rfl rfl (X_move (v := (.int .i64 (((mm : Nat) : Int)))) rfl ?_)
       refine L_gy (dj := 90) rfl rfl rfl (X_fldP (b := b1) (o := 0) (r := 0) Fd25_0 rfl rfl ?_)
       refine L_gy (dj := 90) rfl rfl rfl (X_load (p := (ptr b1 (0))) (v := (.int .i64 (s.sz))) T3 rfl (hB1.at1 rfl) ?_)
       refine L_gy (dj := 90) rfl rfl rfl (X_cmp (k := .i64) (a := ((mm : Nat) : Int)) (b := s.sz) (r := false) rfl rfl rfl (decide_eq_false (p := ((s.sz) : Int) < ((((mm : Nat) : Int)) : Int)) (by omega)) ?_)
       refine L_op rfl (X_pick (t := false) (v := (.bool (false))) rfl rfl ?_)
       refine L_nil ?_
       refine T_n ?_
       refine W_cf rfl ?_
       refine W_skip ?_
       refine T_n ?_
       refine W_seq ?_
       refine W_reg ?_
       refine L_op rfl (X_assign (v := (.bool (false))) rfl ?_)
       refine L_nil ?_
       refine T_n ?_
       refine W_seq ?_
       refine W_seq ?_
       refine W_reg ?_
       refine L_op rfl (X_assign (v := (.int .i64 (0))) rfl ?_)
       refine L_nil ?_
       refine T_n ?_
       refine W_block ?_
       obtain ⟨OL, hOL⟩ : ∃ l, l = (opL o.sz o.us o.ls u [pin]) := ⟨_, rfl⟩
       rw [← hOL] at hmm
       obtain ⟨nL, hnL⟩ : ∃ n, n = w40.heap.size := ⟨_, rfl⟩
       have hb11 := hB10.lt
       refine W_loop (α := Nat × Bool × Sp × Nat × Nat) [10, 16, 17, 18, 19, 20, 96, 97, 98, 99, 100, 101, 102, 103, 104, 105, 106, 107, 108, 109, 110, 111, 112, 113, 114, 115, 116, 117, 118, 119, 120, 121, 122, 123, 124, 125, 126, 127, 128, 129, 130, 131, 132, 133, 134, 135, 136, 137, 138, 139] (fun ⟨i, sn, z, lz, uz⟩ => [(17, (.int .i64 (((i : Nat) : Int)))), (16, (.bool (sn)))]) (fun ⟨i, sn, z, lz, uz⟩ w_ => i ≤ mm + 1 ∧ (sn = true ↔ n.toNat ∈ OL.take i) ∧ z.Rd w_ lz uz ∧ uz ≤ w_.heap.size ∧ (uz ≤ b10 ∨ b10 < lz) ∧ Blk w_ b10 #[.int .i64 z.sz, z.uv, z.lv] 25 ∧ MayS z.sz z.us z.ls ∧ z.Ok ∧ opL z.sz z.us z.ls u [pin] = OL.drop i ∧ Upd (fun i => n0 ≤ i) w w_ ∧ nL ≤ w_.heap.size) (fun ⟨i, sn, z, lz, uz⟩ => mm + 1 - i) ⟨rfl, (0, false, o, sF, uF), ⟨Nat.zero_le _, ⟨fun h_ => (by cases h_), fun h_ => (by rw [List.take_zero] at h_; cases h_)⟩, hoR, by omega, by omega, hB10, hMo, hoOk, by rw [hOL]; rfl, hU, by omega⟩, Out.refl _ _, ⟨rfl, rfl, trivial⟩⟩ ?_
       rintro ⟨i, sn, z, lz, uz⟩ w41 _ ⟨hil, hsn, hz, huz, hbz, hB10, hMz, hzOk, hop, hU, hnLw⟩
       have hsz_ := hU.size
       refine W_seq ?_
       refine W_seq ?_
       refine W_reg ?_
       refine L_op rfl (X_move (v := (.int .i64 (((i : Nat) : Int)))) rfl ?_)
       refine L_op rfl (X_move (v := (.int .i64 (((mm : Nat) : Int)))) rfl ?_)
       by_cases hc42 : (((i : Nat) : Int) : Int) ≤ (((mm : Nat) : Int))
       ·refine L_op rfl (X_cmp (k := .i64) (a := ((i : Nat) : Int)) (b := ((mm : Nat) : Int)) (r := true) rfl rfl rfl (decide_eq_true (p := ((((i : Nat) : Int)) : Int) ≤ ((((mm : Nat) : Int)) : Int)) (by omega)) ?_)
        refine L_nil ?_
        refine T_n ?_
        refine W_ct rfl ?_
        refine W_skip ?_
        refine T_n ?_
        refine W_seq ?_
        refine W_block ?_
        refine W_seq ?_
        refine W_reg ?_
        refine L_op rfl (X_loadA (p := (ptr b10 (0))) (xs := [(.int .i64 (z.sz)), z.uv, z.lv]) A25 rfl hB10.atAll rfl ?_)
        refine L_op rfl (X_move (v := (.int .u32 (u))) rfl ?_)
        refine L_op rfl (X_move (v := (.int .u32 (pin))) rfl ?_)
        refine L_op rfl (X_buildSlice1 (vs := [(.int .u32 (pin))]) S52 (by decide) rfl rfl (List.forall_mem_cons.2 ⟨rfl, (fun _ h => by cases h)⟩) ?_)
        intro b43 w43 hn43
        have hbn43 := hn43.num; have hbs43 := hn43.size
        replace hz := hz.ext hn43.ext
        replace hB10 := hB10.ext hn43.ext
        replace hU := hU.trans (Ext.upd hn43.ext)
        have hB43 := hn43.blk
        have hzl := hMz.1.1.2.2; have hz256 := hMz.1.1.2.1; have hzls := rise_len (may_rise hMz)
        obtain ⟨sY, hsY⟩ : ∃ n, n = w43.heap.size := ⟨_, rfl⟩
        have hcr_ := c_take z u (.slice (some ⟨b43, 0, none⟩) 1 1) [pin] w43 lz uz 0 w43.heap.size (by omega) (Nat.le_refl _) hzOk (by omega) (by omega) hz (NRd.of (es := [pin]) (fun _ => rfl) (hB43.rd (o := 0) (n := 1) (c := 1) (sz := 1) (by decide) (by decide) rfl (fun j u hj => by rw [Nat.zero_add]; simpa [LU] using hj)) (fun b hb => by cases hb; exact ⟨Nat.zero_le _, hB43.lt⟩)) (by omega) (by omega)
        refine L_op rfl (X_fn (vs := [(.agg ([(.int .i64 (z.sz)), z.uv, z.lv]).toArray), (.int .u32 (u)), (.slice (some ⟨b43, 0, none⟩) 1 1)]) en13 rfl ?_)
        refine CT.mono hcr_ ?_
        clear hcr_
        rintro _ w44 ⟨y, rfl, hyO, hysz, hyus, hyls, hu44⟩
        have hz44_ := hu44.size
        obtain ⟨uY, huY⟩ : ∃ n, n = w44.heap.size := ⟨_, rfl⟩
        rw [← hsY, ← huY] at hyO
        have hy := hyO.rd
        replace hz := hz.ext hu44
        replace hB10 := hB10.ext hu44
        replace hU := hU.trans (Ext.upd hu44)
        by_cases hi : i < mm
        ·obtain ⟨a, r, hdr, hdr2, htk⟩ := drop_cons (l := OL) (i := i) (by omega)
         rw [hdr] at hop
         obtain ⟨hopt, hal⟩ := op_take hMz hop
         have htd : takeD z.sz z.us z.ls u [pin] = ((a : Int), z.us.set a true, keepL z.ls a, 0) := take_hit hMz (head_get hop)
         rw [htd] at hyus hyls ⊢
         replace hyus : y.us = z.us.set a true := hyus
         replace hyls : y.ls = keepL z.ls a := hyls
         have hMy : MayS y.sz y.us y.ls := by rw [hysz, hyus, hyls]; exact may_take hMz hal
         have hyOk : y.Ok := by unfold Sp.Ok; rw [hyls]; exact fun x hx => hzOk x (List.mem_filter.1 hx).1
         have hopy : opL y.sz y.us y.ls u [pin] = OL.drop (i + 1) := by rw [hysz, hyus, hyls, hdr2]; exact hopt
         refine L_op rfl (X_move (v := (.tuple #[(.int .i64 (((a : Nat) : Int))), (.agg #[(.int .i64 (y.sz)), y.uv, y.lv]), (.int .i64 (0))])) rfl ?_)
         refine L_op rfl (X_extract (l := [(.int .i64 (((a : Nat) : Int))), (.agg #[(.int .i64 (y.sz)), y.uv, y.lv]), (.int .i64 (0))]) (v := (.int .i64 (((a : Nat) : Int)))) rfl rfl ?_)
         refine L_op rfl (X_extract (l := [(.int .i64 (((a : Nat) : Int))), (.agg #[(.int .i64 (y.sz)), y.uv, y.lv]), (.int .i64 (0))]) (v := (.agg #[(.int .i64 (y.sz)), y.uv, y.lv])) rfl rfl ?_)
         refine L_op rfl (X_extract (l := [(.int .i64 (((a : Nat) : Int))), (.agg #[(.int .i64 (y.sz)), y.uv, y.lv]), (.int .i64 (0))]) (v := (.int .i64 (0))) rfl rfl ?_)
         refine L_op rfl (X_alloc (z := (.agg #[(.int .i64 (0)), (.slice none 0 0), (.slice none 0 0)])) (c := #[(.int .i64 (0)), (.slice none 0 0), (.slice none 0 0)]) Zv25 rfl ?_)
         intro b45 w45 hn45
         have hbn45 := hn45.num; have hbs45 := hn45.size
         replace hz := hz.ext hn45.ext
         replace hB10 := hB10.ext hn45.ext
         replace hU := hU.trans (Ext.upd hn45.ext)
         replace hy := hy.ext hn45.ext
         have hB45 := hn45.blk
         refine L_op rfl (X_assign (v := (.int .i64 (((a : Nat) : Int)))) rfl ?_)
         refine L_op0 (X_storeW (b := b45) (ys := [(.int .i64 (y.sz)), y.uv, y.lv]) A25 rfl rfl (List.forall_mem_cons.2 ⟨rfl, (List.forall_mem_cons.2 ⟨(hy.1.sv.one), (List.forall_mem_cons.2 ⟨(hy.2.sv.one), (fun _ h => by cases h)⟩)⟩)⟩) rfl hB45 rfl ?_)
         intro w46 hu46 hb46
         have hz46 := hu46.size
         replace hz := hz.upd hu46 fun i h1 h2 h => by have h : i = b45 := h; omega
         replace hB10 := hB10.upd hu46 fun h => by have h : b10 = b45 := h; omega
         replace hU := hU.trans (hu46.mono fun i _ h => by have h : i = b45 := h; show n0 ≤ i; omega)
         replace hy := hy.upd hu46 fun i h1 h2 h => by have h : i = b45 := h; omega
         replace hB45 : Blk w46 b45 #[(.int .i64 (y.sz)), y.uv, y.lv] 25 := hb46
         refine L_op rfl (X_assign (v := (.int .i64 (0))) rfl ?_)
         refine L_nil ?_
         refine T_n ?_
         refine W_seq ?_
         refine W_seq ?_
         refine W_reg ?_
         refine L_op rfl (X_move (v := (.int .i64 (0))) rfl ?_)
         refine L_op rfl (X_cmp (k := .i64) (a := 0) (b := 0) (r := true) rfl rfl rfl rfl ?_)
         refine L_op rfl (X_move (v := (.int .i64 (((i : Nat) : Int)))) rfl ?_)
         refine L_op rfl (X_move (v := (.int .i64 (((mm : Nat) : Int)))) rfl ?_)
         refine L_op rfl (X_cmp (k := .i64) (a := ((i : Nat) : Int)) (b := ((mm : Nat) : Int)) (r := true) rfl rfl rfl (decide_eq_true (p := ((i : Nat) : Int) < ((mm : Nat) : Int)) (by omega)) ?_)
         refine L_op rfl (X_cmpBool (a := true) (b := true) (r := false) Try.underlying4 rfl rfl (.inr ⟨rfl, rfl⟩) ?_)
         refine L_op rfl (X_move (v := (.bool (false))) rfl ?_)
         refine L_gy (dj := 116) rfl rfl rfl (X_move (v := (.int .i64 (0))) rfl ?_)
         refine L_gy (dj := 116) rfl rfl rfl (X_cmp (k := .i64) (a := 0) (b := 0) (r := false) rfl rfl rfl rfl ?_)
         refine L_gy (dj := 116) rfl rfl rfl (X_move (v := (.bool (false))) rfl ?_)
         refine L_gn (dj := 119) (t := false) rfl rfl rfl rfl ?_
         refine L_gn (dj := 119) (t := false) rfl rfl rfl rfl ?_
         refine L_gy (dj := 116) rfl rfl rfl (X_pick (t := false) (v := (.bool (false))) rfl rfl ?_)
         refine L_op rfl (X_pick (t := false) (v := (.bool (false))) rfl rfl ?_)
         refine L_op rfl (X_move (v := (.bool (false))) rfl ?_)
         refine L_gy (dj := 124) rfl rfl rfl (X_loadA (p := (ptr b45 (0))) (xs := [(.int .i64 (y.sz)), y.uv, y.lv]) A25 rfl hB45.atAll rfl ?_)
         have hcr_ := c_may y w46 sY uY (by omega) hy
         refine L_gy (dj := 124) rfl rfl rfl (X_fn (vs := [(.agg ([(.int .i64 (y.sz)), y.uv, y.lv]).toArray)]) en11 rfl ?_)
         refine CT.mono hcr_ ?_
         clear hcr_
         rintro _ w47 ⟨⟨g47, rfl, hg47⟩, hu47⟩
         have hz47 := hu47.size
         replace hz := hz.ext hu47
         replace hB10 := hB10.ext hu47
         replace hU := hU.trans (Ext.upd hu47)
         replace hy := hy.ext hu47
         replace hB45 := hB45.ext hu47
         obtain rfl : g47 = true := hg47.2 hMy
         refine L_gy (dj := 124) rfl rfl rfl (X_not (b := true) (r := false) rfl rfl ?_)
         refine L_op rfl (X_pick (t := false) (v := (.bool (false))) rfl rfl ?_)
         refine L_nil ?_
         refine T_n ?_
         refine W_cf rfl ?_
         refine W_skip ?_
         refine T_n ?_
         refine W_seq ?_
         refine W_reg ?_
         rcases Bool.eq_false_or_eq_true sn with hsn_ | hsn_
         ·subst hsn_
          refine L_op rfl (X_move (v := (.bool (true))) rfl ?_)
          refine L_op rfl (X_move (v := (.bool (true))) rfl ?_)
          refine L_gn (dj := 130) (t := true) rfl rfl rfl rfl ?_
          refine L_gn (dj := 130) (t := true) rfl rfl rfl rfl ?_
          refine L_gn (dj := 130) (t := true) rfl rfl rfl rfl ?_
          refine L_gu (dj := 133) rfl rfl rfl ?_
          refine L_gu (dj := 133) rfl rfl rfl ?_
          refine L_gu (dj := 133) rfl rfl rfl ?_
          refine L_gn (dj := 130) (t := true) rfl rfl rfl rfl ?_
          refine L_op rfl (X_pick (t := true) (v := (.bool (true))) rfl rfl ?_)
          refine L_op rfl (X_assign (v := (.bool (true))) rfl ?_)
          refine L_nil ?_
          refine T_n ?_
          refine W_reg ?_
          refine L_op rfl (X_loadA (p := (ptr b45 (0))) (xs := [(.int .i64 (y.sz)), y.uv, y.lv]) A25 rfl hB45.atAll rfl ?_)
          refine L_op0 (X_storeW (b := b10) (ys := [(.int .i64 (y.sz)), y.uv, y.lv]) A25 rfl rfl (List.forall_mem_cons.2 ⟨rfl, (List.forall_mem_cons.2 ⟨(hy.1.sv.one), (List.forall_mem_cons.2 ⟨(hy.2.sv.one), (fun _ h => by cases h)⟩)⟩)⟩) rfl hB10 rfl ?_)
          intro w48 hu48 hb48
          have hz48 := hu48.size
          replace hz := hz.upd hu48 fun i h1 h2 h => by have h : i = b10 := h; omega
          replace hU := hU.trans (hu48.mono fun i _ h => by have h : i = b10 := h; show n0 ≤ i; omega)
          replace hy := hy.upd hu48 fun i h1 h2 h => by have h : i = b10 := h; omega
          replace hB45 := hB45.upd hu48 fun h => by have h : b45 = b10 := h; omega
          replace hB10 : Blk w48 b10 #[(.int .i64 (y.sz)), y.uv, y.lv] 25 := hb48
          refine L_nil ?_
          refine B_n ?_
          refine T_n ?_
          refine W_reg ?_
          refine L_op rfl (X_move (v := (.int .i64 (((i : Nat) : Int)))) rfl ?_)
          refine L_op rfl (X_arith (k := .i64) (a := ((i : Nat) : Int)) (b := 1) (r := ((i + 1 : Nat) : Int)) rfl rfl rfl (iadd64 (by omega) (by omega) (by omega)) ?_)
          refine L_op rfl (X_assign (v := (.int .i64 (((i + 1 : Nat) : Int)))) rfl ?_)
          refine L_nil ?_
          refine T_n ?_
          exact ⟨rfl, (i + 1, true, y, sY, uY), ⟨⟨by omega, ⟨fun _ => by rw [htk]; exact List.mem_append.2 (.inl (hsn.1 rfl)), fun _ => rfl⟩, hy, by omega, .inr (by omega), hB10, hMy, hyOk, hopy, hU, by omega⟩, (by show mm + 1 - (i + 1) < mm + 1 - i; omega)⟩, (Out.mk rfl), ⟨rfl, rfl, trivial⟩⟩
         ·subst hsn_
          refine L_op rfl (X_move (v := (.bool (false))) rfl ?_)
          refine L_op rfl (X_move (v := (.bool (false))) rfl ?_)
          refine L_gy (dj := 130) rfl rfl rfl (X_move (v := (.int .i64 (0))) rfl ?_)
          refine L_gy (dj := 130) rfl rfl rfl (X_cmp (k := .i64) (a := 0) (b := 0) (r := true) rfl rfl rfl rfl ?_)
          refine L_gy (dj := 130) rfl rfl rfl (X_move (v := (.bool (true))) rfl ?_)
          refine L_gy (dj := 133) rfl rfl rfl (X_move (v := (.int .i64 (((a : Nat) : Int)))) rfl ?_)
          refine L_gy (dj := 133) rfl rfl rfl (X_move (v := (.int .i64 (n))) rfl ?_)
          by_cases hc49 : (((a : Nat) : Int) : Int) = (n)
          ·refine L_gy (dj := 133) rfl rfl rfl (X_cmp (k := .i64) (a := ((a : Nat) : Int)) (b := n) (r := true) rfl rfl rfl (decide_eq_true (p := ((((a : Nat) : Int)) : Int) = ((n) : Int)) (by omega)) ?_)
           refine L_gy (dj := 130) rfl rfl rfl (X_pick (t := true) (v := (.bool (true))) rfl rfl ?_)
           refine L_op rfl (X_pick (t := false) (v := (.bool (true))) rfl rfl ?_)
           refine L_op rfl (X_assign (v := (.bool (true))) rfl ?_)
           refine L_nil ?_
           refine T_n ?_
           refine W_reg ?_
           refine L_op rfl (X_loadA (p := (ptr b45 (0))) (xs := [(.int .i64 (y.sz)), y.uv, y.lv]) A25 rfl hB45.atAll rfl ?_)
           refine L_op0 (X_storeW (b := b10) (ys := [(.int .i64 (y.sz)), y.uv, y.lv]) A25 rfl rfl (List.forall_mem_cons.2 ⟨rfl, (List.forall_mem_cons.2 ⟨(hy.1.sv.one), (List.forall_mem_cons.2 ⟨(hy.2.sv.one), (fun _ h => by cases h)⟩)⟩)⟩) rfl hB10 rfl ?_)
           intro w50 hu50 hb50
           have hz50 := hu50.size
           replace hz := hz.upd hu50 fun i h1 h2 h => by have h : i = b10 := h; omega
           replace hU := hU.trans (hu50.mono fun i _ h => by have h : i = b10 := h; show n0 ≤ i; omega)
           replace hy := hy.upd hu50 fun i h1 h2 h => by have h : i = b10 := h; omega
           replace hB45 := hB45.upd hu50 fun h => by have h : b45 = b10 := h; omega
           replace hB10 : Blk w50 b10 #[(.int .i64 (y.sz)), y.uv, y.lv] 25 := hb50
           refine L_nil ?_
           refine B_n ?_
           refine T_n ?_
           refine W_reg ?_
           refine L_op rfl (X_move (v := (.int .i64 (((i : Nat) : Int)))) rfl ?_)
           refine L_op rfl (X_arith (k := .i64) (a := ((i : Nat) : Int)) (b := 1) (r := ((i + 1 : Nat) : Int)) rfl rfl rfl (iadd64 (by omega) (by omega) (by omega)) ?_)
           refine L_op rfl (X_assign (v := (.int .i64 (((i + 1 : Nat) : Int)))) rfl ?_)
           refine L_nil ?_
           refine T_n ?_
           exact ⟨rfl, (i + 1, true, y, sY, uY), ⟨⟨by omega, ⟨fun _ => by rw [htk]; exact List.mem_append.2 (.inr (by rw [List.mem_singleton]; omega)), fun _ => rfl⟩, hy, by omega, .inr (by omega), hB10, hMy, hyOk, hopy, hU, by omega⟩, (by show mm + 1 - (i + 1) < mm + 1 - i; omega)⟩, (Out.mk rfl), ⟨rfl, rfl, trivial⟩⟩
          ·refine L_gy (dj := 133) rfl rfl rfl (X_cmp (k := .i64) (a := ((a : Nat) : Int)) (b := n) (r := false) rfl rfl rfl (decide_eq_false (p := ((((a : Nat) : Int)) : Int) = ((n) : Int)) (by omega)) ?_)
           refine L_gy (dj := 130) rfl rfl rfl (X_pick (t := true) (v := (.bool (false))) rfl rfl ?_)
           refine L_op rfl (X_pick (t := false) (v := (.bool (false))) rfl rfl ?_)
           refine L_op rfl (X_assign (v := (.bool (false))) rfl ?_)
           refine L_nil ?_
           refine T_n ?_
           refine W_reg ?_
           refine L_op rfl (X_loadA (p := (ptr b45 (0))) (xs := [(.int .i64 (y.sz)), y.uv, y.lv]) A25 rfl hB45.atAll rfl ?_)
           refine L_op0 (X_storeW (b := b10) (ys := [(.int .i64 (y.sz)), y.uv, y.lv]) A25 rfl rfl (List.forall_mem_cons.2 ⟨rfl, (List.forall_mem_cons.2 ⟨(hy.1.sv.one), (List.forall_mem_cons.2 ⟨(hy.2.sv.one), (fun _ h => by cases h)⟩)⟩)⟩) rfl hB10 rfl ?_)
           intro w51 hu51 hb51
           have hz51 := hu51.size
           replace hz := hz.upd hu51 fun i h1 h2 h => by have h : i = b10 := h; omega
           replace hU := hU.trans (hu51.mono fun i _ h => by have h : i = b10 := h; show n0 ≤ i; omega)
           replace hy := hy.upd hu51 fun i h1 h2 h => by have h : i = b10 := h; omega
           replace hB45 := hB45.upd hu51 fun h => by have h : b45 = b10 := h; omega
           replace hB10 : Blk w51 b10 #[(.int .i64 (y.sz)), y.uv, y.lv] 25 := hb51
           refine L_nil ?_
           refine B_n ?_
           refine T_n ?_
           refine W_reg ?_
           refine L_op rfl (X_move (v := (.int .i64 (((i : Nat) : Int)))) rfl ?_)
           refine L_op rfl (X_arith (k := .i64) (a := ((i : Nat) : Int)) (b := 1) (r := ((i + 1 : Nat) : Int)) rfl rfl rfl (iadd64 (by omega) (by omega) (by omega)) ?_)
           refine L_op rfl (X_assign (v := (.int .i64 (((i + 1 : Nat) : Int)))) rfl ?_)
           refine L_nil ?_
           refine T_n ?_
           exact ⟨rfl, (i + 1, false, y, sY, uY), ⟨⟨by omega, ⟨fun h_ => (by cases h_), fun h_ => (by rw [htk] at h_; rcases List.mem_append.1 h_ with h_ | h_; (· exact hsn.2 h_); (· rw [List.mem_singleton] at h_; have h4_ := hH.2.1; omega))⟩, hy, by omega, .inr (by omega), hB10, hMy, hyOk, hopy, hU, by omega⟩, (by show mm + 1 - (i + 1) < mm + 1 - i; omega)⟩, (Out.mk rfl), ⟨rfl, rfl, trivial⟩⟩
        ·have hdr : OL.drop i = [] := List.drop_of_length_le (by omega)
         rw [hdr] at hop
         have htd : takeD z.sz z.us z.ls u [pin] = (0, z.us, z.ls, 130) := take_nil hMz hop
         rw [htd] at hyus hyls ⊢
         replace hyus : y.us = z.us := hyus
         replace hyls : y.ls = z.ls := hyls
         have hMy : MayS y.sz y.us y.ls := by rw [hysz, hyus, hyls]; exact hMz
         have hyOk : y.Ok := by unfold Sp.Ok; rw [hyls]; exact hzOk
         have hopy : opL y.sz y.us y.ls u [pin] = OL.drop (i + 1) := by rw [hysz, hyus, hyls, hop]; exact (List.drop_of_length_le (by omega)).symm
         have htk : OL.take (i + 1) = OL.take i := by rw [List.take_of_length_le (by omega), List.take_of_length_le (by omega)]
         refine L_op rfl (X_move (v := (.tuple #[(.int .i64 (0)), (.agg #[(.int .i64 (y.sz)), y.uv, y.lv]), (.int .i64 (130))])) rfl ?_)
         refine L_op rfl (X_extract (l := [(.int .i64 (0)), (.agg #[(.int .i64 (y.sz)), y.uv, y.lv]), (.int .i64 (130))]) (v := (.int .i64 (0))) rfl rfl ?_)
         refine L_op rfl (X_extract (l := [(.int .i64 (0)), (.agg #[(.int .i64 (y.sz)), y.uv, y.lv]), (.int .i64 (130))]) (v := (.agg #[(.int .i64 (y.sz)), y.uv, y.lv])) rfl rfl ?_)
         refine L_op rfl (X_extract (l := [(.int .i64 (0)), (.agg #[(.int .i64 (y.sz)), y.uv, y.lv]), (.int .i64 (130))]) (v := (.int .i64 (130))) rfl rfl ?_)
         refine L_op rfl (X_alloc (z := (.agg #[(.int .i64 (0)), (.slice none 0 0), (.slice none 0 0)])) (c := #[(.int .i64 (0)), (.slice none 0 0), (.slice none 0 0)]) Zv25 rfl ?_)
         intro b52 w52 hn52
         have hbn52 := hn52.num; have hbs52 := hn52.size
         replace hz := hz.ext hn52.ext
         replace hB10 := hB10.ext hn52.ext
         replace hU := hU.trans (Ext.upd hn52.ext)
         replace hy := hy.ext hn52.ext
         have hB52 := hn52.blk
         refine L_op rfl (X_assign (v := (.int .i64 (0))) rfl ?_)
         refine L_op0 (X_storeW (b := b52) (ys := [(.int .i64 (y.sz)), y.uv, y.lv]) A25 rfl rfl (List.forall_mem_cons.2 ⟨rfl, (List.forall_mem_cons.2 ⟨(hy.1.sv.one), (List.forall_mem_cons.2 ⟨(hy.2.sv.one), (fun _ h => by cases h)⟩)⟩)⟩) rfl hB52 rfl ?_)
         intro w53 hu53 hb53
         have hz53 := hu53.size
         replace hz := hz.upd hu53 fun i h1 h2 h => by have h : i = b52 := h; omega
         replace hB10 := hB10.upd hu53 fun h => by have h : b10 = b52 := h; omega
         replace hU := hU.trans (hu53.mono fun i _ h => by have h : i = b52 := h; show n0 ≤ i; omega)
         replace hy := hy.upd hu53 fun i h1 h2 h => by have h : i = b52 := h; omega
         replace hB52 : Blk w53 b52 #[(.int .i64 (y.sz)), y.uv, y.lv] 25 := hb53
         refine L_op rfl (X_assign (v := (.int .i64 (130))) rfl ?_)
         refine L_nil ?_
         refine T_n ?_
         refine W_seq ?_
         refine W_seq ?_
         refine W_reg ?_
         refine L_op rfl (X_move (v := (.int .i64 (130))) rfl ?_)
         refine L_op rfl (X_cmp (k := .i64) (a := 130) (b := 0) (r := false) rfl rfl rfl rfl ?_)
         refine L_op rfl (X_move (v := (.int .i64 (((i : Nat) : Int)))) rfl ?_)
         refine L_op rfl (X_move (v := (.int .i64 (((mm : Nat) : Int)))) rfl ?_)
         refine L_op rfl (X_cmp (k := .i64) (a := ((i : Nat) : Int)) (b := ((mm : Nat) : Int)) (r := false) rfl rfl rfl (decide_eq_false (p := ((i : Nat) : Int) < ((mm : Nat) : Int)) (by omega)) ?_)
         refine L_op rfl (X_cmpBool (a := false) (b := false) (r := false) Try.underlying4 rfl rfl (.inr ⟨rfl, rfl⟩) ?_)
         refine L_op rfl (X_move (v := (.bool (false))) rfl ?_)
         refine L_gy (dj := 116) rfl rfl rfl (X_move (v := (.int .i64 (130))) rfl ?_)
         refine L_gy (dj := 116) rfl rfl rfl (X_cmp (k := .i64) (a := 130) (b := 0) (r := true) rfl rfl rfl rfl ?_)
         refine L_gy (dj := 116) rfl rfl rfl (X_move (v := (.bool (true))) rfl ?_)
         refine L_gy (dj := 119) rfl rfl rfl (X_move (v := (.int .i64 (130))) rfl ?_)
         refine L_gy (dj := 119) rfl rfl rfl (X_cmp (k := .i64) (a := 130) (b := 130) (r := false) rfl rfl rfl rfl ?_)
         refine L_gy (dj := 116) rfl rfl rfl (X_pick (t := true) (v := (.bool (false))) rfl rfl ?_)
         refine L_op rfl (X_pick (t := false) (v := (.bool (false))) rfl rfl ?_)
         refine L_op rfl (X_move (v := (.bool (false))) rfl ?_)
         refine L_gy (dj := 124) rfl rfl rfl (X_loadA (p := (ptr b52 (0))) (xs := [(.int .i64 (y.sz)), y.uv, y.lv]) A25 rfl hB52.atAll rfl ?_)
         have hcr_ := c_may y w53 sY uY (by omega) hy
         refine L_gy (dj := 124) rfl rfl rfl (X_fn (vs := [(.agg ([(.int .i64 (y.sz)), y.uv, y.lv]).toArray)]) en11 rfl ?_)
         refine CT.mono hcr_ ?_
         clear hcr_
         rintro _ w54 ⟨⟨g54, rfl, hg54⟩, hu54⟩
         have hz54 := hu54.size
         replace hz := hz.ext hu54
         replace hB10 := hB10.ext hu54
         replace hU := hU.trans (Ext.upd hu54)
         replace hy := hy.ext hu54
         replace hB52 := hB52.ext hu54
         obtain rfl : g54 = true := hg54.2 hMy
         refine L_gy (dj := 124) rfl rfl rfl (X_not (b := true) (r := false) rfl rfl ?_)
         refine L_op rfl (X_pick (t := false) (v := (.bool (false))) rfl rfl ?_)
         refine L_nil ?_
         refine T_n ?_
         refine W_cf rfl ?_
         refine W_skip ?_
         refine T_n ?_
         refine W_seq ?_
         refine W_reg ?_
         rcases Bool.eq_false_or_eq_true sn with hsn_ | hsn_
         ·subst hsn_
          refine L_op rfl (X_move (v := (.bool (true))) rfl ?_)
          refine L_op rfl (X_move (v := (.bool (true))) rfl ?_)
          refine L_gn (dj := 130) (t := true) rfl rfl rfl rfl ?_
          refine L_gn (dj := 130) (t := true) rfl rfl rfl rfl ?_
          refine L_gn (dj := 130) (t := true) rfl rfl rfl rfl ?_
          refine L_gu (dj := 133) rfl rfl rfl ?_
          refine L_gu (dj := 133) rfl rfl rfl ?_
          refine L_gu (dj := 133) rfl rfl rfl ?_
          refine L_gn (dj := 130) (t := true) rfl rfl rfl rfl ?_
          refine L_op rfl (X_pick (t := true) (v := (.bool (true))) rfl rfl ?_)
          refine L_op rfl (X_assign (v := (.bool (true))) rfl ?_)
          refine L_nil ?_
          refine T_n ?_
          refine W_reg ?_
          refine L_op rfl (X_loadA (p := (ptr b52 (0))) (xs := [(.int .i64 (y.sz)), y.uv, y.lv]) A25 rfl hB52.atAll rfl ?_)
          refine L_op0 (X_storeW (b := b10) (ys := [(.int .i64 (y.sz)), y.uv, y.lv]) A25 rfl rfl (List.forall_mem_cons.2 ⟨rfl, (List.forall_mem_cons.2 ⟨(hy.1.sv.one), (List.forall_mem_cons.2 ⟨(hy.2.sv.one), (fun _ h => by cases h)⟩)⟩)⟩) rfl hB10 rfl ?_)
          intro w55 hu55 hb55
          have hz55 := hu55.size
          replace hz := hz.upd hu55 fun i h1 h2 h => by have h : i = b10 := h; omega
          replace hU := hU.trans (hu55.mono fun i _ h => by have h : i = b10 := h; show n0 ≤ i; omega)
          replace hy := hy.upd hu55 fun i h1 h2 h => by have h : i = b10 := h; omega
          replace hB52 := hB52.upd hu55 fun h => by have h : b52 = b10 := h; omega
          replace hB10 : Blk w55 b10 #[(.int .i64 (y.sz)), y.uv, y.lv] 25 := hb55
          refine L_nil ?_
          refine B_n ?_
          refine T_n ?_
          refine W_reg ?_
          refine L_op rfl (X_move (v := (.int .i64 (((i : Nat) : Int)))) rfl ?_)
          refine L_op rfl (X_arith (k := .i64) (a := ((i : Nat) : Int)) (b := 1) (r := ((i + 1 : Nat) : Int)) rfl rfl rfl (iadd64 (by omega) (by omega) (by omega)) ?_)
          refine L_op rfl (X_assign (v := (.int .i64 (((i + 1 : Nat) : Int)))) rfl ?_)
          refine L_nil ?_
          refine T_n ?_
          exact ⟨rfl, (i + 1, true, y, sY, uY), ⟨⟨by omega, ⟨fun _ => by rw [htk]; exact hsn.1 rfl, fun _ => rfl⟩, hy, by omega, .inr (by omega), hB10, hMy, hyOk, hopy, hU, by omega⟩, (by show mm + 1 - (i + 1) < mm + 1 - i; omega)⟩, (Out.mk rfl), ⟨rfl, rfl, trivial⟩⟩
         ·subst hsn_
          refine L_op rfl (X_move (v := (.bool (false))) rfl ?_)
          refine L_op rfl (X_move (v := (.bool (false))) rfl ?_)
          refine L_gy (dj := 130) rfl rfl rfl (X_move (v := (.int .i64 (130))) rfl ?_)
          refine L_gy (dj := 130) rfl rfl rfl (X_cmp (k := .i64) (a := 130) (b := 0) (r := false) rfl rfl rfl rfl ?_)
          refine L_gy (dj := 130) rfl rfl rfl (X_move (v := (.bool (false))) rfl ?_)
          refine L_gn (dj := 133) (t := false) rfl rfl rfl rfl ?_
          refine L_gn (dj := 133) (t := false) rfl rfl rfl rfl ?_
          refine L_gn (dj := 133) (t := false) rfl rfl rfl rfl ?_
          refine L_gy (dj := 130) rfl rfl rfl (X_pick (t := false) (v := (.bool (false))) rfl rfl ?_)
          refine L_op rfl (X_pick (t := false) (v := (.bool (false))) rfl rfl ?_)
          refine L_op rfl (X_assign (v := (.bool (false))) rfl ?_)
          refine L_nil ?_
          refine T_n ?_
          refine W_reg ?_
          refine L_op rfl (X_loadA (p := (ptr b52 (0))) (xs := [(.int .i64 (y.sz)), y.uv, y.lv]) A25 rfl hB52.atAll rfl ?_)
          refine L_op0 (X_storeW (b := b10) (ys := [(.int .i64 (y.sz)), y.uv, y.lv]) A25 rfl rfl (List.forall_mem_cons.2 ⟨rfl, (List.forall_mem_cons.2 ⟨(hy.1.sv.one), (List.forall_mem_cons.2 ⟨(hy.2.sv.one), (fun _ h => by cases h)⟩)⟩)⟩) rfl hB10 rfl ?_)
          intro w56 hu56 hb56
          have hz56 := hu56.size
          replace hz := hz.upd hu56 fun i h1 h2 h => by have h : i = b10 := h; omega
          replace hU := hU.trans (hu56.mono fun i _ h => by have h : i = b10 := h; show n0 ≤ i; omega)
          replace hy := hy.upd hu56 fun i h1 h2 h => by have h : i = b10 := h; omega
          replace hB52 := hB52.upd hu56 fun h => by have h : b52 = b10 := h; omega
          replace hB10 : Blk w56 b10 #[(.int .i64 (y.sz)), y.uv, y.lv] 25 := hb56
          refine L_nil ?_
          refine B_n ?_
          refine T_n ?_
          refine W_reg ?_
          refine L_op rfl (X_move (v := (.int .i64 (((i : Nat) : Int)))) rfl ?_)
          refine L_op rfl (X_arith (k := .i64) (a := ((i : Nat) : Int)) (b := 1) (r := ((i + 1 : Nat) : Int)) rfl rfl rfl (iadd64 (by omega) (by omega) (by omega)) ?_)
          refine L_op rfl (X_assign (v := (.int .i64 (((i + 1 : Nat) : Int)))) rfl ?_)
          refine L_nil ?_
          refine T_n ?_
          exact ⟨rfl, (i + 1, false, y, sY, uY), ⟨⟨by omega, ⟨fun h_ => (by cases h_), fun h_ => (by rw [htk] at h_; exact hsn.2 h_)⟩, hy, by omega, .inr (by omega), hB10, hMy, hyOk, hopy, hU, by omega⟩, (by show mm + 1 - (i + 1) < mm + 1 - i; omega)⟩, (Out.mk rfl), ⟨rfl, rfl, trivial⟩⟩
       ·refine L_op rfl (X_cmp (k := .i64) (a := ((i : Nat) : Int)) (b := ((mm : Nat) : Int)) (r := false) rfl rfl rfl (decide_eq_false (p := ((((i : Nat) : Int)) : Int) ≤ ((((mm : Nat) : Int)) : Int)) (by omega)) ?_)
        have hin_ := (free_ins (t := t) (u := u) (pin := pin) (k := k) hH).1
        have hlt_ : n.toNat < s.us.length := by have h5_ := hH.2.2.1; have h6_ := hH.1.1.1.2.2; have h7_ := hH.2.1; omega
        have hmem : n.toNat ∈ OL ↔ t + 4 ≤ u ∧ t ≤ pin := by rw [hOL, op_mem hMo, hous, hols, hin_]; exact ⟨fun h_ => h_.2, fun h_ => ⟨hlt_, h_⟩⟩
        rw [List.take_of_length_le (by omega), hmem] at hsn
        obtain rfl : sn = false := Bool.eq_false_iff.2 fun h_ => hfr (hsn.1 h_)
        refine L_nil ?_
        refine T_n ?_
        refine W_cf rfl ?_
        refine W_exit ?_
        refine T_e ?_
        refine T_e ?_
        refine B_x ?_
        refine T_n ?_
        refine W_seq ?_
        refine W_reg ?_
        refine L_op rfl (X_move (v := (.bool (false))) rfl ?_)
        refine L_op rfl (X_move (v := (.bool (false))) rfl ?_)
        refine L_op rfl (X_cmpBool (a := false) (b := false) (r := true) Try.underlying4 rfl rfl (.inl ⟨rfl, rfl⟩) ?_)
        refine L_op rfl (X_move (v := (.bool (true))) rfl ?_)
        refine L_gy (dj := 143) rfl rfl rfl (X_fn (vs := []) en8 rfl (CT.mono (c_wakes _) ?_))
        rintro _ w57 ⟨rfl, hu57⟩
        have hz57 := hu57.size
        replace hz := hz.ext hu57
        replace hB10 := hB10.ext hu57
        replace hU := hU.trans (Ext.upd hu57)
        refine L_op rfl (X_pick (t := true) (v := (.bool (true))) rfl rfl ?_)
        refine L_op rfl (X_assign (v := (.bool (true))) rfl ?_)
        refine L_nil ?_
        refine T_n ?_
        refine W_ret ?_
        exact BQ_r (End_1 Try.results3 (v := .bool true) rfl ⟨rfl, hU.own hn0⟩)
     ·refine L_op rfl (X_cmp (k := .u32) (a := u) (b := (t + 4)) (r := false) rfl rfl rfl (decide_eq_false (p := (((t + 4)) : Int) ≤ ((u) : Int)) (by omega)) ?_)
      refine L_op rfl (X_move (v := (.bool (false))) rfl ?_)
      refine L_gn (dj := 56) (t := false) rfl rfl rfl rfl ?_
      refine L_gn (dj := 56) (t := false) rfl rfl rfl rfl ?_
      refine L_gn (dj := 56) (t := false) rfl rfl rfl rfl ?_
      refine L_op rfl (X_pick (t := false) (v := (.bool (false))) rfl rfl ?_)
      refine L_op rfl (X_assign (v := (.bool (false))) rfl ?_)
      refine L_nil ?_
      refine T_n ?_
      refine W_seq ?_
      refine W_seq ?_
      have hfr : ¬ (t + 4 ≤ u ∧ t ≤ pin) := by omega
      have hMo : MayS o.sz o.us o.ls := by rw [hosz, hous, hols]; exact may_ins hH hpos
      have hoOk : o.Ok := by unfold Sp.Ok; rw [hols]; exact ok_ins hok (by omega) (by omega)
      have hkl := keeps_len (t := t) (u := u) (pin := pin) hH hpos
      refine W_reg ?_
      refine L_op rfl (X_loadA (p := (ptr b10 (0))) (xs := [(.int .i64 (o.sz)), o.uv, o.lv]) A25 rfl hB10.atAll rfl ?_)
      have hcr_ := c_may o w11 sF uF (by omega) hoR
      refine L_op rfl (X_fn (vs := [(.agg ([(.int .i64 (o.sz)), o.uv, o.lv]).toArray)]) en11 rfl ?_)
      refine CT.mono hcr_ ?_
      clear hcr_
      rintro _ w58 ⟨⟨g58, rfl, hg58⟩, hu58⟩
      have hz58 := hu58.size
      replace hs := hs.ext hu58
      replace hU := hU.trans (Ext.upd hu58)
      replace hB1 := hB1.ext hu58
      replace hoR := hoR.ext hu58
      replace hB10 := hB10.ext hu58
      obtain rfl : g58 = true := hg58.2 hMo
      refine L_op rfl (X_not (b := true) (r := false) rfl rfl ?_)
      refine L_nil ?_
      refine T_n ?_
      refine W_cf rfl ?_
      refine W_skip ?_
      refine T_n ?_
      refine W_seq ?_
      refine W_reg ?_
      refine L_op rfl (X_loadA (p := (ptr b1 (0))) (xs := [(.int .i64 (s.sz)), s.uv, s.lv]) A25 rfl hB1.atAll rfl ?_)
      refine L_op rfl (X_move (v := (.int .u32 (u))) rfl ?_)
      refine L_op rfl (X_move (v := (.int .u32 (pin))) rfl ?_)
      refine L_op rfl (X_buildSlice1 (vs := [(.int .u32 (pin))]) S52 (by decide) rfl rfl (List.forall_mem_cons.2 ⟨rfl, (fun _ h => by cases h)⟩) ?_)
      intro b59 w59 hn59
      have hbn59 := hn59.num; have hbs59 := hn59.size
      replace hs := hs.ext hn59.ext
      replace hU := hU.trans (Ext.upd hn59.ext)
      replace hB1 := hB1.ext hn59.ext
      replace hoR := hoR.ext hn59.ext
      replace hB10 := hB10.ext hn59.ext
      have hB59 := hn59.blk
      have hcr_ := c_left s u (.slice (some ⟨b59, 0, none⟩) 1 1) [pin] w59 0 n0 0 w59.heap.size (by omega) (Nat.le_refl _) hok (by omega) (by omega) hs (NRd.of (es := [pin]) (fun _ => rfl) (hB59.rd (o := 0) (n := 1) (c := 1) (sz := 1) (by decide) (by decide) rfl (fun j u hj => by rw [Nat.zero_add]; simpa [LU] using hj)) (fun b hb => by cases hb; exact ⟨Nat.zero_le _, hB59.lt⟩))
      refine L_op rfl (X_fn (vs := [(.agg ([(.int .i64 (s.sz)), s.uv, s.lv]).toArray), (.int .u32 (u)), (.slice (some ⟨b59, 0, none⟩) 1 1)]) en12 rfl ?_)
      refine CT.mono hcr_ ?_
      clear hcr_
      rintro _ w60 ⟨rfl, hu60⟩
      have hz60 := hu60.size
      replace hs := hs.ext hu60
      replace hU := hU.trans (Ext.upd hu60)
      replace hB1 := hB1.ext hu60
      replace hoR := hoR.ext hu60
      replace hB10 := hB10.ext hu60
      obtain ⟨nn, hnn⟩ : ∃ x, x = (opL s.sz s.us s.ls u [pin]).length := ⟨_, rfl⟩
      rw [← hnn]
      refine L_op rfl (X_assign (v := (.int .i64 (((nn : Nat) : Int)))) rfl ?_)
      refine L_nil ?_
      refine T_n ?_
      refine W_seq ?_
      refine W_reg ?_
      refine L_op rfl (X_loadA (p := (ptr b10 (0))) (xs := [(.int .i64 (o.sz)), o.uv, o.lv]) A25 rfl hB10.atAll rfl ?_)
      refine L_op rfl (X_move (v := (.int .u32 (u))) rfl ?_)
      refine L_op rfl (X_move (v := (.int .u32 (pin))) rfl ?_)
      refine L_op rfl (X_buildSlice1 (vs := [(.int .u32 (pin))]) S52 (by decide) rfl rfl (List.forall_mem_cons.2 ⟨rfl, (fun _ h => by cases h)⟩) ?_)
      intro b61 w61 hn61
      have hbn61 := hn61.num; have hbs61 := hn61.size
      replace hs := hs.ext hn61.ext
      replace hU := hU.trans (Ext.upd hn61.ext)
      replace hB1 := hB1.ext hn61.ext
      replace hoR := hoR.ext hn61.ext
      replace hB10 := hB10.ext hn61.ext
      have hB61 := hn61.blk
      have hcr_ := c_left o u (.slice (some ⟨b61, 0, none⟩) 1 1) [pin] w61 sF uF 0 w61.heap.size (by omega) (Nat.le_refl _) hoOk (by omega) (by omega) hoR (NRd.of (es := [pin]) (fun _ => rfl) (hB61.rd (o := 0) (n := 1) (c := 1) (sz := 1) (by decide) (by decide) rfl (fun j u hj => by rw [Nat.zero_add]; simpa [LU] using hj)) (fun b hb => by cases hb; exact ⟨Nat.zero_le _, hB61.lt⟩))
      refine L_op rfl (X_fn (vs := [(.agg ([(.int .i64 (o.sz)), o.uv, o.lv]).toArray), (.int .u32 (u)), (.slice (some ⟨b61, 0, none⟩) 1 1)]) en12 rfl ?_)
      refine CT.mono hcr_ ?_
      clear hcr_
      rintro _ w62 ⟨rfl, hu62⟩
      have hz62 := hu62.size
      replace hs := hs.ext hu62
      replace hU := hU.trans (Ext.upd hu62)
      replace hB1 := hB1.ext hu62
      replace hoR := hoR.ext hu62
      replace hB10 := hB10.ext hu62
      obtain ⟨mm, hmm⟩ : ∃ x, x = (opL o.sz o.us o.ls u [pin]).length := ⟨_, rfl⟩
      rw [← hmm]
      refine L_op rfl (X_assign (v := (.int .i64 (((mm : Nat) : Int)))) rfl ?_)
      refine L_nil ?_
      refine T_n ?_
      refine W_seq ?_
      refine W_seq ?_
      have hlen2 : (opL s.sz s.us (insL s.ls k (n, t)) u [pin]).length = mm := by rw [hmm, hosz, hous, hols]
      rw [hlen2, ← hnn] at hkl
      have hmn : mm = nn := hkl.2 hfr
      have hml := opL_le (sz := o.sz) (us := o.us) (ls := o.ls) (u := u) (ps := [pin])
      rw [← hmm, hous] at hml
      have hslen := hM.1.1.2.2; have hs256 := hM.1.1.2.1
      refine W_reg ?_
      refine L_op rfl (X_move (v := (.bool (false))) rfl ?_)
      refine L_op rfl (X_move (v := (.bool (false))) rfl ?_)
      refine L_gn (dj := 75) (t := false) rfl rfl rfl rfl ?_
      refine L_gn (dj := 75) (t := false) rfl rfl rfl rfl ?_
      refine L_gn (dj := 75) (t := false) rfl rfl rfl rfl ?_
      refine L_gn (dj := 75) (t := false) rfl rfl rfl rfl ?_
      refine L_op rfl (X_pick (t := false) (v := (.bool (false))) rfl rfl ?_)
      refine L_op rfl (X_move (v := (.bool (false))) rfl ?_)
      refine L_gy (dj := 81) rfl rfl rfl (X_move (v := (.bool (false))) rfl ?_)
      refine L_gy (dj := 81) rfl rfl rfl (X_not (b := false) (r := true) rfl rfl ?_)
      refine L_gy (dj := 81) rfl rfl rfl (X_move (v := (.bool (true))) rfl ?_)
      refine L_gy (dj := 84) rfl rfl rfl (X_move (v := (.int .i64 (((mm : Nat) : Int)))) rfl ?_)
      refine L_gy (dj := 84) rfl rfl rfl (X_move (v := (.int .i64 (((nn : Nat) : Int)))) rfl ?_)
      refine L_gy (dj := 84) rfl rfl rfl (X_cmp (k := .i64) (a := ((mm : Nat) : Int)) (b := ((nn : Nat) : Int)) (r := false) rfl rfl rfl (decide_eq_false (p := ((((mm : Nat) : Int)) : Int) ≠ ((((nn : Nat) : Int)) : Int)) (by omega)) ?_)
      refine L_gy (dj := 81) rfl rfl rfl (X_pick (t := true) (v := (.bool (false))) rfl rfl ?_)
      refine L_op rfl (X_pick (t := false) (v := (.bool (false))) rfl rfl ?_)
      refine L_op rfl (X_move (v := (.bool (false))) rfl ?_)
      refine L_gy (dj := 90) rfl rfl rfl (X_move (v := (.int .i64 (((mm : Nat) : Int)))) rfl ?_)
      refine L_gy (dj := 90) rfl rfl rfl (X_fldP (b := b1) (o := 0) (r := 0) Fd25_0 rfl rfl ?_)
      refine L_gy (dj := 90) rfl rfl rfl (X_load (p := (ptr b1 (0))) (v := (.int .i64 (s.sz))) T3 rfl (hB1.at1 rfl) ?_)
      refine L_gy (dj := 90) rfl rfl rfl (X_cmp (k := .i64) (a := ((mm : Nat) : Int)) (b := s.sz) (r := false) rfl rfl rfl (decide_eq_false (p := ((s.sz) : Int) < ((((mm : Nat) : Int)) : Int)) (by omega)) ?_)
      refine L_op rfl (X_pick (t := false) (v := (.bool (false))) rfl rfl ?_)
      refine L_nil ?_
      refine T_n ?_
      refine W_cf rfl ?_
      refine W_skip ?_
      refine T_n ?_
      refine W_seq ?_
      refine W_reg ?_
      refine L_op rfl (X_assign (v := (.bool (false))) rfl ?_)
      refine L_nil ?_
      refine T_n ?_
      refine W_seq ?_
      refine W_seq ?_
      refine W_reg ?_
      refine L_op rfl (X_assign (v := (.int .i64 (0))) rfl ?_)
      refine L_nil ?_
      refine T_n ?_
      refine W_block ?_
      obtain ⟨OL, hOL⟩ : ∃ l, l = (opL o.sz o.us o.ls u [pin]) := ⟨_, rfl⟩
      rw [← hOL] at hmm
      obtain ⟨nL, hnL⟩ : ∃ n, n = w62.heap.size := ⟨_, rfl⟩
      have hb11 := hB10.lt
      refine W_loop (α := Nat × Bool × Sp × Nat × Nat) [10, 16, 17, 18, 19, 20, 96, 97, 98, 99, 100, 101, 102, 103, 104, 105, 106, 107, 108, 109, 110, 111, 112, 113, 114, 115, 116, 117, 118, 119, 120, 121, 122, 123, 124, 125, 126, 127, 128, 129, 130, 131, 132, 133, 134, 135, 136, 137, 138, 139] (fun ⟨i, sn, z, lz, uz⟩ => [(17, (.int .i64 (((i : Nat) : Int)))), (16, (.bool (sn)))]) (fun ⟨i, sn, z, lz, uz⟩ w_ => i ≤ mm + 1 ∧ (sn = true ↔ n.toNat ∈ OL.take i) ∧ z.Rd w_ lz uz ∧ uz ≤ w_.heap.size ∧ (uz ≤ b10 ∨ b10 < lz) ∧ Blk w_ b10 #[.int .i64 z.sz, z.uv, z.lv] 25 ∧ MayS z.sz z.us z.ls ∧ z.Ok ∧ opL z.sz z.us z.ls u [pin] = OL.drop i ∧ Upd (fun i => n0 ≤ i) w w_ ∧ nL ≤ w_.heap.size) (fun ⟨i, sn, z, lz, uz⟩ => mm + 1 - i) ⟨rfl, (0, false, o, sF, uF), ⟨Nat.zero_le _, ⟨fun h_ => (by cases h_), fun h_ => (by rw [List.take_zero] at h_; cases h_)⟩, hoR, by omega, by omega, hB10, hMo, hoOk, by rw [hOL]; rfl, hU, by omega⟩, Out.refl _ _, ⟨rfl, rfl, trivial⟩⟩ ?_
      rintro ⟨i, sn, z, lz, uz⟩ w63 _ ⟨hil, hsn, hz, huz, hbz, hB10, hMz, hzOk, hop, hU, hnLw⟩
      have hsz_ := hU.size
      refine W_seq ?_
      refine W_seq ?_
      refine W_reg ?_
      refine L_op rfl (X_move (v := (.int .i64 (((i : Nat) : Int)))) rfl ?_)
      refine L_op rfl (X_move (v := (.int .i64 (((mm : Nat) : Int)))) rfl ?_)
      by_cases hc64 : (((i : Nat) : Int) : Int) ≤ (((mm : Nat) : Int))
      ·refine L_op rfl (X_cmp (k := .i64) (a := ((i : Nat) : Int)) (b := ((mm : Nat) : Int)) (r := true) rfl rfl rfl (decide_eq_true (p := ((((i : Nat) : Int)) : Int) ≤ ((((mm : Nat) : Int)) : Int)) (by omega)) ?_)
       refine L_nil ?_
       refine T_n ?_
       refine W_ct rfl ?_
       refine W_skip ?_
       refine T_n ?_
       refine W_seq ?_
       refine W_block ?_
       refine W_seq ?_
       refine W_reg ?_
       refine L_op rfl (X_loadA (p := (ptr b10 (0))) (xs := [(.int .i64 (z.sz)), z.uv, z.lv]) A25 rfl hB10.atAll rfl ?_)
       refine L_op rfl (X_move (v := (.int .u32 (u))) rfl ?_)
       refine L_op rfl (X_move (v := (.int .u32 (pin))) rfl ?_)
       refine L_op rfl (X_buildSlice1 (vs := [(.int .u32 (pin))]) S52 (by decide) rfl rfl (List.forall_mem_cons.2 ⟨rfl, (fun _ h => by cases h)⟩) ?_)
       intro b65 w65 hn65
       have hbn65 := hn65.num; have hbs65 := hn65.size
       replace hz := hz.ext hn65.ext
       replace hB10 := hB10.ext hn65.ext
       replace hU := hU.trans (Ext.upd hn65.ext)
       have hB65 := hn65.blk
       have hzl := hMz.1.1.2.2; have hz256 := hMz.1.1.2.1; have hzls := rise_len (may_rise hMz)
       obtain ⟨sY, hsY⟩ : ∃ n, n = w65.heap.size := ⟨_, rfl⟩
       have hcr_ := c_take z u (.slice (some ⟨b65, 0, none⟩) 1 1) [pin] w65 lz uz 0 w65.heap.size (by omega) (Nat.le_refl _) hzOk (by omega) (by omega) hz (NRd.of (es := [pin]) (fun _ => rfl) (hB65.rd (o := 0) (n := 1) (c := 1) (sz := 1) (by decide) (by decide) rfl (fun j u hj => by rw [Nat.zero_add]; simpa [LU] using hj)) (fun b hb => by cases hb; exact ⟨Nat.zero_le _, hB65.lt⟩)) (by omega) (by omega)
       refine L_op rfl (X_fn (vs := [(.agg ([(.int .i64 (z.sz)), z.uv, z.lv]).toArray), (.int .u32 (u)), (.slice (some ⟨b65, 0, none⟩) 1 1)]) en13 rfl ?_)
       refine CT.mono hcr_ ?_
       clear hcr_
       rintro _ w66 ⟨y, rfl, hyO, hysz, hyus, hyls, hu66⟩
       have hz66_ := hu66.size
       obtain ⟨uY, huY⟩ : ∃ n, n = w66.heap.size := ⟨_, rfl⟩
       rw [← hsY, ← huY] at hyO
       have hy := hyO.rd
       replace hz := hz.ext hu66
       replace hB10 := hB10.ext hu66
       replace hU := hU.trans (Ext.upd hu66)
       by_cases hi : i < mm
       ·obtain ⟨a, r, hdr, hdr2, htk⟩ := drop_cons (l := OL) (i := i) (by omega)
        rw [hdr] at hop
        obtain ⟨hopt, hal⟩ := op_take hMz hop
        have htd : takeD z.sz z.us z.ls u [pin] = ((a : Int), z.us.set a true, keepL z.ls a, 0) := take_hit hMz (head_get hop)
        rw [htd] at hyus hyls ⊢
        replace hyus : y.us = z.us.set a true := hyus
        replace hyls : y.ls = keepL z.ls a := hyls
        have hMy : MayS y.sz y.us y.ls := by rw [hysz, hyus, hyls]; exact may_take hMz hal
        have hyOk : y.Ok := by unfold Sp.Ok; rw [hyls]; exact fun x hx => hzOk x (List.mem_filter.1 hx).1
        have hopy : opL y.sz y.us y.ls u [pin] = OL.drop (i + 1) := by rw [hysz, hyus, hyls, hdr2]; exact hopt
        refine L_op rfl (X_move (v := (.tuple #[(.int .i64 (((a : Nat) : Int))), (.agg #[(.int .i64 (y.sz)), y.uv, y.lv]), (.int .i64 (0))])) rfl ?_)
        refine L_op rfl (X_extract (l := [(.int .i64 (((a : Nat) : Int))), (.agg #[(.int .i64 (y.sz)), y.uv, y.lv]), (.int .i64 (0))]) (v := (.int .i64 (((a : Nat) : Int)))) rfl rfl ?_)
        refine L_op rfl (X_extract (l := [(.int .i64 (((a : Nat) : Int))), (.agg #[(.int .i64 (y.sz)), y.uv, y.lv]), (.int .i64 (0))]) (v := (.agg #[(.int .i64 (y.sz)), y.uv, y.lv])) rfl rfl ?_)
        refine L_op rfl (X_extract (l := [(.int .i64 (((a : Nat) : Int))), (.agg #[(.int .i64 (y.sz)), y.uv, y.lv]), (.int .i64 (0))]) (v := (.int .i64 (0))) rfl rfl ?_)
        refine L_op rfl (X_alloc (z := (.agg #[(.int .i64 (0)), (.slice none 0 0), (.slice none 0 0)])) (c := #[(.int .i64 (0)), (.slice none 0 0), (.slice none 0 0)]) Zv25 rfl ?_)
        intro b67 w67 hn67
        have hbn67 := hn67.num; have hbs67 := hn67.size
        replace hz := hz.ext hn67.ext
        replace hB10 := hB10.ext hn67.ext
        replace hU := hU.trans (Ext.upd hn67.ext)
        replace hy := hy.ext hn67.ext
        have hB67 := hn67.blk
        refine L_op rfl (X_assign (v := (.int .i64 (((a : Nat) : Int)))) rfl ?_)
        refine L_op0 (X_storeW (b := b67) (ys := [(.int .i64 (y.sz)), y.uv, y.lv]) A25 rfl rfl (List.forall_mem_cons.2 ⟨rfl, (List.forall_mem_cons.2 ⟨(hy.1.sv.one), (List.forall_mem_cons.2 ⟨(hy.2.sv.one), (fun _ h => by cases h)⟩)⟩)⟩) rfl hB67 rfl ?_)
        intro w68 hu68 hb68
        have hz68 := hu68.size
        replace hz := hz.upd hu68 fun i h1 h2 h => by have h : i = b67 := h; omega
        replace hB10 := hB10.upd hu68 fun h => by have h : b10 = b67 := h; omega
        replace hU := hU.trans (hu68.mono fun i _ h => by have h : i = b67 := h; show n0 ≤ i; omega)
        replace hy := hy.upd hu68 fun i h1 h2 h => by have h : i = b67 := h; omega
        replace hB67 : Blk w68 b67 #[(.int .i64 (y.sz)), y.uv, y.lv] 25 := hb68
        refine L_op rfl (X_assign (v := (.int .i64 (0))) rfl ?_)
        refine L_nil ?_
        refine T_n ?_
        refine W_seq ?_
        refine W_seq ?_
        refine W_reg ?_
        refine L_op rfl (X_move (v := (.int .i64 (0))) rfl ?_)
        refine L_op rfl (X_cmp (k := .i64) (a := 0) (b := 0) (r := true) rfl rfl rfl rfl ?_)
        refine L_op rfl (X_move (v := (.int .i64 (((i : Nat) : Int)))) rfl ?_)
        refine L_op rfl (X_move (v := (.int .i64 (((mm : Nat) : Int)))) rfl ?_)
        refine L_op rfl (X_cmp (k := .i64) (a := ((i : Nat) : Int)) (b := ((mm : Nat) : Int)) (r := true) rfl rfl rfl (decide_eq_true (p := ((i : Nat) : Int) < ((mm : Nat) : Int)) (by omega)) ?_)
        refine L_op rfl (X_cmpBool (a := true) (b := true) (r := false) Try.underlying4 rfl rfl (.inr ⟨rfl, rfl⟩) ?_)
        refine L_op rfl (X_move (v := (.bool (false))) rfl ?_)
        refine L_gy (dj := 116) rfl rfl rfl (X_move (v := (.int .i64 (0))) rfl ?_)
        refine L_gy (dj := 116) rfl rfl rfl (X_cmp (k := .i64) (a := 0) (b := 0) (r := false) rfl rfl rfl rfl ?_)
        refine L_gy (dj := 116) rfl rfl rfl (X_move (v := (.bool (false))) rfl ?_)
        refine L_gn (dj := 119) (t := false) rfl rfl rfl rfl ?_
        refine L_gn (dj := 119) (t := false) rfl rfl rfl rfl ?_
        refine L_gy (dj := 116) rfl rfl rfl (X_pick (t := false) (v := (.bool (false))) rfl rfl ?_)
        refine L_op rfl (X_pick (t := false) (v := (.bool (false))) rfl rfl ?_)
        refine L_op rfl (X_move (v := (.bool (false))) rfl ?_)
        refine L_gy (dj := 124) rfl rfl rfl (X_loadA (p := (ptr b67 (0))) (xs := [(.int .i64 (y.sz)), y.uv, y.lv]) A25 rfl hB67.atAll rfl ?_)
        have hcr_ := c_may y w68 sY uY (by omega) hy
        refine L_gy (dj := 124) rfl rfl rfl (X_fn (vs := [(.agg ([(.int .i64 (y.sz)), y.uv, y.lv]).toArray)]) en11 rfl ?_)
        refine CT.mono hcr_ ?_
        clear hcr_
        rintro _ w69 ⟨⟨g69, rfl, hg69⟩, hu69⟩
        have hz69 := hu69.size
        replace hz := hz.ext hu69
        replace hB10 := hB10.ext hu69
        replace hU := hU.trans (Ext.upd hu69)
        replace hy := hy.ext hu69
        replace hB67 := hB67.ext hu69
        obtain rfl : g69 = true := hg69.2 hMy
        refine L_gy (dj := 124) rfl rfl rfl (X_not (b := true) (r := false) rfl rfl ?_)
        refine L_op rfl (X_pick (t := false) (v := (.bool (false))) rfl rfl ?_)
        refine L_nil ?_
        refine T_n ?_
        refine W_cf rfl ?_
        refine W_skip ?_
        refine T_n ?_
        refine W_seq ?_
        refine W_reg ?_
        rcases Bool.eq_false_or_eq_true sn with hsn_ | hsn_
        ·subst hsn_
         refine L_op rfl (X_move (v := (.bool (true))) rfl ?_)
         refine L_op rfl (X_move (v := (.bool (true))) rfl ?_)
         refine L_gn (dj := 130) (t := true) rfl rfl rfl rfl ?_
         refine L_gn (dj := 130) (t := true) rfl rfl rfl rfl ?_
         refine L_gn (dj := 130) (t := true) rfl rfl rfl rfl ?_
         refine L_gu (dj := 133) rfl rfl rfl ?_
         refine L_gu (dj := 133) rfl rfl rfl ?_
         refine L_gu (dj := 133) rfl rfl rfl ?_
         refine L_gn (dj := 130) (t := true) rfl rfl rfl rfl ?_
         refine L_op rfl (X_pick (t := true) (v := (.bool (true))) rfl rfl ?_)
         refine L_op rfl (X_assign (v := (.bool (true))) rfl ?_)
         refine L_nil ?_
         refine T_n ?_
         refine W_reg ?_
         refine L_op rfl (X_loadA (p := (ptr b67 (0))) (xs := [(.int .i64 (y.sz)), y.uv, y.lv]) A25 rfl hB67.atAll rfl ?_)
         refine L_op0 (X_storeW (b := b10) (ys := [(.int .i64 (y.sz)), y.uv, y.lv]) A25 rfl rfl (List.forall_mem_cons.2 ⟨rfl, (List.forall_mem_cons.2 ⟨(hy.1.sv.one), (List.forall_mem_cons.2 ⟨(hy.2.sv.one), (fun _ h => by cases h)⟩)⟩)⟩) rfl hB10 rfl ?_)
         intro w70 hu70 hb70
         have hz70 := hu70.size
         replace hz := hz.upd hu70 fun i h1 h2 h => by have h : i = b10 := h; omega
         replace hU := hU.trans (hu70.mono fun i _ h => by have h : i = b10 := h; show n0 ≤ i; omega)
         replace hy := hy.upd hu70 fun i h1 h2 h => by have h : i = b10 := h; omega
         replace hB67 := hB67.upd hu70 fun h => by have h : b67 = b10 := h; omega
         replace hB10 : Blk w70 b10 #[(.int .i64 (y.sz)), y.uv, y.lv] 25 := hb70
         refine L_nil ?_
         refine B_n ?_
         refine T_n ?_
         refine W_reg ?_
         refine L_op rfl (X_move (v := (.int .i64 (((i : Nat) : Int)))) rfl ?_)
         refine L_op rfl (X_arith (k := .i64) (a := ((i : Nat) : Int)) (b := 1) (r := ((i + 1 : Nat) : Int)) rfl rfl rfl (iadd64 (by omega) (by omega) (by omega)) ?_)
         refine L_op rfl (X_assign (v := (.int .i64 (((i + 1 : Nat) : Int)))) rfl ?_)
         refine L_nil ?_
         refine T_n ?_
         exact ⟨rfl, (i + 1, true, y, sY, uY), ⟨⟨by omega, ⟨fun _ => by rw [htk]; exact List.mem_append.2 (.inl (hsn.1 rfl)), fun _ => rfl⟩, hy, by omega, .inr (by omega), hB10, hMy, hyOk, hopy, hU, by omega⟩, (by show mm + 1 - (i + 1) < mm + 1 - i; omega)⟩, (Out.mk rfl), ⟨rfl, rfl, trivial⟩⟩
        ·subst hsn_
         refine L_op rfl (X_move (v := (.bool (false))) rfl ?_)
         refine L_op rfl (X_move (v := (.bool (false))) rfl ?_)
         refine L_gy (dj := 130) rfl rfl rfl (X_move (v := (.int .i64 (0))) rfl ?_)
         refine L_gy (dj := 130) rfl rfl rfl (X_cmp (k := .i64) (a := 0) (b := 0) (r := true) rfl rfl rfl rfl ?_)
         refine L_gy (dj := 130) rfl rfl rfl (X_move (v := (.bool (true))) rfl ?_)
         refine L_gy (dj := 133) rfl rfl rfl (X_move (v := (.int .i64 (((a : Nat) : Int)))) rfl ?_)
         refine L_gy (dj := 133) rfl rfl rfl (X_move (v := (.int .i64 (n))) rfl ?_)
         by_cases hc71 : (((a : Nat) : Int) : Int) = (n)
         ·refine L_gy (dj := 133) rfl rfl rfl (X_cmp (k := .i64) (a := ((a : Nat) : Int)) (b := n) (r := true) rfl rfl rfl (decide_eq_true (p := ((((a : Nat) : Int)) : Int) = ((n) : Int)) (by omega)) ?_)
          refine L_gy (dj := 130) rfl rfl rfl (X_pick (t := true) (v := (.bool (true))) rfl rfl ?_)
          refine L_op rfl (X_pick (t := false) (v := (.bool (true))) rfl rfl ?_)
          refine L_op rfl (X_assign (v := (.bool (true))) rfl ?_)
          refine L_nil ?_
          refine T_n ?_
          refine W_reg ?_
          refine L_op rfl (X_loadA (p := (ptr b67 (0))) (xs := [(.int .i64 (y.sz)), y.uv, y.lv]) A25 rfl hB67.atAll rfl ?_)
          refine L_op0 (X_storeW (b := b10) (ys := [(.int .i64 (y.sz)), y.uv, y.lv]) A25 rfl rfl (List.forall_mem_cons.2 ⟨rfl, (List.forall_mem_cons.2 ⟨(hy.1.sv.one), (List.forall_mem_cons.2 ⟨(hy.2.sv.one), (fun _ h => by cases h)⟩)⟩)⟩) rfl hB10 rfl ?_)
          intro w72 hu72 hb72
          have hz72 := hu72.size
          replace hz := hz.upd hu72 fun i h1 h2 h => by have h : i = b10 := h; omega
          replace hU := hU.trans (hu72.mono fun i _ h => by have h : i = b10 := h; show n0 ≤ i; omega)
          replace hy := hy.upd hu72 fun i h1 h2 h => by have h : i = b10 := h; omega
          replace hB67 := hB67.upd hu72 fun h => by have h : b67 = b10 := h; omega
          replace hB10 : Blk w72 b10 #[(.int .i64 (y.sz)), y.uv, y.lv] 25 := hb72
          refine L_nil ?_
          refine B_n ?_
          refine T_n ?_
          refine W_reg ?_
          refine L_op rfl (X_move (v := (.int .i64 (((i : Nat) : Int)))) rfl ?_)
          refine L_op rfl (X_arith (k := .i64) (a := ((i : Nat) : Int)) (b := 1) (r := ((i + 1 : Nat) : Int)) rfl rfl rfl (iadd64 (by omega) (by omega) (by omega)) ?_)
          refine L_op rfl (X_assign (v := (.int .i64 (((i + 1 : Nat) : Int)))) rfl ?_)
          refine L_nil ?_
          refine T_n ?_
          exact ⟨rfl, (i + 1, true, y, sY, uY), ⟨⟨by omega, ⟨fun _ => by rw [htk]; exact List.mem_append.2 (.inr (by rw [List.mem_singleton]; omega)), fun _ => rfl⟩, hy, by omega, .inr (by omega), hB10, hMy, hyOk, hopy, hU, by omega⟩, (by show mm + 1 - (i + 1) < mm + 1 - i; omega)⟩, (Out.mk rfl), ⟨rfl, rfl, trivial⟩⟩
         ·refine L_gy (dj := 133) rfl rfl rfl (X_cmp (k := .i64) (a := ((a : Nat) : Int)) (b := n) (r := false) rfl rfl rfl (decide_eq_false (p := ((((a : Nat) : Int)) : Int) = ((n) : Int)) (by omega)) ?_)
          refine L_gy (dj := 130) rfl rfl rfl (X_pick (t := true) (v := (.bool (false))) rfl rfl ?_)
          refine L_op rfl (X_pick (t := false) (v := (.bool (false))) rfl rfl ?_)
          refine L_op rfl (X_assign (v := (.bool (false))) rfl ?_)
          refine L_nil ?_
          refine T_n ?_
          refine W_reg ?_
          refine L_op rfl (X_loadA (p := (ptr b67 (0))) (xs := [(.int .i64 (y.sz)), y.uv, y.lv]) A25 rfl hB67.atAll rfl ?_)
          refine L_op0 (X_storeW (b := b10) (ys := [(.int .i64 (y.sz)), y.uv, y.lv]) A25 rfl rfl (List.forall_mem_cons.2 ⟨rfl, (List.forall_mem_cons.2 ⟨(hy.1.sv.one), (List.forall_mem_cons.2 ⟨(hy.2.sv.one), (fun _ h => by cases h)⟩)⟩)⟩) rfl hB10 rfl ?_)
          intro w73 hu73 hb73
          have hz73 := hu73.size
          replace hz := hz.upd hu73 fun i h1 h2 h => by have h : i = b10 := h; omega
          replace hU := hU.trans (hu73.mono fun i _ h => by have h : i = b10 := h; show n0 ≤ i; omega)
          replace hy := hy.upd hu73 fun i h1 h2 h => by have h : i = b10 := h; omega
          replace hB67 := hB67.upd hu73 fun h => by have h : b67 = b10 := h; omega
          replace hB10 : Blk w73 b10 #[(.int .i64 (y.sz)), y.uv, y.lv] 25 := hb73
          refine L_nil ?_
          refine B_n ?_
          refine T_n ?_
          refine W_reg ?_
          refine L_op rfl (X_move (v := (.int .i64 (((i : Nat) : Int)))) rfl ?_)
          refine L_op rfl (X_arith (k := .i64) (a := ((i : Nat) : Int)) (b := 1) (r := ((i + 1 : Nat) : Int)) rfl rfl rfl (iadd64 (by omega) (by omega) (by omega)) ?_)
          refine L_op rfl (X_assign (v := (.int .i64 (((i + 1 : Nat) : Int)))) rfl ?_)
          refine L_nil ?_
          refine T_n ?_
          exact ⟨rfl, (i + 1, false, y, sY, uY), ⟨⟨by omega, ⟨fun h_ => (by cases h_), fun h_ => (by rw [htk] at h_; rcases List.mem_append.1 h_ with h_ | h_; (· exact hsn.2 h_); (· rw [List.mem_singleton] at h_; have h4_ := hH.2.1; omega))⟩, hy, by omega, .inr (by omega), hB10, hMy, hyOk, hopy, hU, by omega⟩, (by show mm + 1 - (i + 1) < mm + 1 - i; omega)⟩, (Out.mk rfl), ⟨rfl, rfl, trivial⟩⟩
       ·have hdr : OL.drop i = [] := List.drop_of_length_le (by omega)
        rw [hdr] at hop
        have htd : takeD z.sz z.us z.ls u [pin] = (0, z.us, z.ls, 130) := take_nil hMz hop
        rw [htd] at hyus hyls ⊢
        replace hyus : y.us = z.us := hyus
        replace hyls : y.ls = z.ls := hyls
        have hMy : MayS y.sz y.us y.ls := by rw [hysz, hyus, hyls]; exact hMz
        have hyOk : y.Ok := by unfold Sp.Ok; rw [hyls]; exact hzOk
        have hopy : opL y.sz y.us y.ls u [pin] = OL.drop (i + 1) := by rw [hysz, hyus, hyls, hop]; exact (List.drop_of_length_le (by omega)).symm
        have htk : OL.take (i + 1) = OL.take i := by rw [List.take_of_length_le (by omega), List.take_of_length_le (by omega)]
        refine L_op rfl (X_move (v := (.tuple #[(.int .i64 (0)), (.agg #[(.int .i64 (y.sz)), y.uv, y.lv]), (.int .i64 (130))])) rfl ?_)
        refine L_op rfl (X_extract (l := [(.int .i64 (0)), (.agg #[(.int .i64 (y.sz)), y.uv, y.lv]), (.int .i64 (130))]) (v := (.int .i64 (0))) rfl rfl ?_)
        refine L_op rfl (X_extract (l := [(.int .i64 (0)), (.agg #[(.int .i64 (y.sz)), y.uv, y.lv]), (.int .i64 (130))]) (v := (.agg #[(.int .i64 (y.sz)), y.uv, y.lv])) rfl rfl ?_)
        refine L_op rfl (X_extract (l := [(.int .i64 (0)), (.agg #[(.int .i64 (y.sz)), y.uv, y.lv]), (.int .i64 (130))]) (v := (.int .i64 (130))) rfl rfl ?_)
        refine L_op rfl (X_alloc (z := (.agg #[(.int .i64 (0)), (.slice none 0 0), (.slice none 0 0)])) (c := #[(.int .i64 (0)), (.slice none 0 0), (.slice none 0 0)]) Zv25 rfl ?_)
        intro b74 w74 hn74
        have hbn74 := hn74.num; have hbs74 := hn74.size
        replace hz := hz.ext hn74.ext
        replace hB10 := hB10.ext hn74.ext
        replace hU := hU.trans (Ext.upd hn74.ext)
        replace hy := hy.ext hn74.ext
        have hB74 := hn74.blk
        refine L_op rfl (X_assign (v := (.int .i64 (0))) rfl ?_)
        refine L_op0 (X_storeW (b := b74) (ys := [(.int .i64 (y.sz)), y.uv, y.lv]) A25 rfl rfl (List.forall_mem_cons.2 ⟨rfl, (List.forall_mem_cons.2 ⟨(hy.1.sv.one), (List.forall_mem_cons.2 ⟨(hy.2.sv.one), (fun _ h => by cases h)⟩)⟩)⟩) rfl hB74 rfl ?_)
        intro w75 hu75 hb75
        have hz75 := hu75.size
        replace hz := hz.upd hu75 fun i h1 h2 h => by have h : i = b74 := h; omega
        replace hB10 := hB10.upd hu75 fun h => by have h : b10 = b74 := h; omega
        replace hU := hU.trans (hu75.mono fun i _ h => by have h : i = b74 := h; show n0 ≤ i; omega)
        replace hy := hy.upd hu75 fun i h1 h2 h => by have h : i = b74 := h; omega
        replace hB74 : Blk w75 b74 #[(.int .i64 (y.sz)), y.uv, y.lv] 25 := hb75
        refine L_op rfl (X_assign (v := (.int .i64 (130))) rfl ?_)
        refine L_nil ?_
        refine T_n ?_
        refine W_seq ?_
        refine W_seq ?_
        refine W_reg ?_
        refine L_op rfl (X_move (v := (.int .i64 (130))) rfl ?_)
        refine L_op rfl (X_cmp (k := .i64) (a := 130) (b := 0) (r := false) rfl rfl rfl rfl ?_)
        refine L_op rfl (X_move (v := (.int .i64 (((i : Nat) : Int)))) rfl ?_)
        refine L_op rfl (X_move (v := (.int .i64 (((mm : Nat) : Int)))) rfl ?_)
        refine L_op rfl (X_cmp (k := .i64) (a := ((i : Nat) : Int)) (b := ((mm : Nat) : Int)) (r := false) rfl rfl rfl (decide_eq_false (p := ((i : Nat) : Int) < ((mm : Nat) : Int)) (by omega)) ?_)
        refine L_op rfl (X_cmpBool (a := false) (b := false) (r := false) Try.underlying4 rfl rfl (.inr ⟨rfl, rfl⟩) ?_)
        refine L_op rfl (X_move (v := (.bool (false))) rfl ?_)
        refine L_gy (dj := 116) rfl rfl rfl (X_move (v := (.int .i64 (130))) rfl ?_)
        refine L_gy (dj := 116) rfl rfl rfl (X_cmp (k := .i64) (a := 130) (b := 0) (r := true) rfl rfl rfl rfl ?_)
        refine L_gy (dj := 116) rfl rfl rfl (X_move (v := (.bool (true))) rfl ?_)
        refine L_gy (dj := 119) rfl rfl rfl (X_move (v := (.int .i64 (130))) rfl ?_)
        refine L_gy (dj := 119) rfl rfl rfl (X_cmp (k := .i64) (a := 130) (b := 130) (r := false) rfl rfl rfl rfl ?_)
        refine L_gy (dj := 116) rfl rfl rfl (X_pick (t := true) (v := (.bool (false))) rfl rfl ?_)
        refine L_op rfl (X_pick (t := false) (v := (.bool (false))) rfl rfl ?_)
        refine L_op rfl (X_move (v := (.bool (false))) rfl ?_)
        refine L_gy (dj := 124) rfl rfl rfl (X_loadA (p := (ptr b74 (0))) (xs := [(.int .i64 (y.sz)), y.uv, y.lv]) A25 rfl hB74.atAll rfl ?_)
        have hcr_ := c_may y w75 sY uY (by omega) hy
        refine L_gy (dj := 124) rfl rfl rfl (X_fn (vs := [(.agg ([(.int .i64 (y.sz)), y.uv, y.lv]).toArray)]) en11 rfl ?_)
        refine CT.mono hcr_ ?_
        clear hcr_
        rintro _ w76 ⟨⟨g76, rfl, hg76⟩, hu76⟩
        have hz76 := hu76.size
        replace hz := hz.ext hu76
        replace hB10 := hB10.ext hu76
        replace hU := hU.trans (Ext.upd hu76)
        replace hy := hy.ext hu76
        replace hB74 := hB74.ext hu76
        obtain rfl : g76 = true := hg76.2 hMy
        refine L_gy (dj := 124) rfl rfl rfl (X_not (b := true) (r := false) rfl rfl ?_)
        refine L_op rfl (X_pick (t := false) (v := (.bool (false))) rfl rfl ?_)
        refine L_nil ?_
        refine T_n ?_
        refine W_cf rfl ?_
        refine W_skip ?_
        refine T_n ?_
        refine W_seq ?_
        refine W_reg ?_
        rcases Bool.eq_false_or_eq_true sn with hsn_ | hsn_
        ·subst hsn_
         refine L_op rfl (X_move (v := (.bool (true))) rfl ?_)
         refine L_op rfl (X_move (v := (.bool (true))) rfl ?_)
         refine L_gn (dj := 130) (t := true) rfl rfl rfl rfl ?_
         refine L_gn (dj := 130) (t := true) rfl rfl rfl rfl ?_
         refine L_gn (dj := 130) (t := true) rfl rfl rfl rfl ?_
         refine L_gu (dj := 133) rfl rfl rfl ?_
         refine L_gu (dj := 133) rfl rfl rfl ?_
         refine L_gu (dj := 133) rfl rfl rfl ?_
         refine L_gn (dj := 130) (t := true) rfl rfl rfl rfl ?_
         refine L_op rfl (X_pick (t := true) (v := (.bool (true))) rfl rfl ?_)
         refine L_op rfl (X_assign (v := (.bool (true))) rfl ?_)
         refine L_nil ?_
         refine T_n ?_
         refine W_reg ?_
         refine L_op rfl (X_loadA (p := (ptr b74 (0))) (xs := [(.int .i64 (y.sz)), y.uv, y.lv]) A25 rfl hB74.atAll rfl ?_)
         refine L_op0 (X_storeW (b := b10) (ys := [(.int .i64 (y.sz)), y.uv, y.lv]) A25 rfl rfl (List.forall_mem_cons.2 ⟨rfl, (List.forall_mem_cons.2 ⟨(hy.1.sv.one), (List.forall_mem_cons.2 ⟨(hy.2.sv.one), (fun _ h => by cases h)⟩)⟩)⟩) rfl hB10 rfl ?_)
         intro w77 hu77 hb77
         have hz77 := hu77.size
         replace hz := hz.upd hu77 fun i h1 h2 h => by have h : i = b10 := h; omega
         replace hU := hU.trans (hu77.mono fun i _ h => by have h : i = b10 := h; show n0 ≤ i; omega)
         replace hy := hy.upd hu77 fun i h1 h2 h => by have h : i = b10 := h; omega
         replace hB74 := hB74.upd hu77 fun h => by have h : b74 = b10 := h; omega
         replace hB10 : Blk w77 b10 #[(.int .i64 (y.sz)), y.uv, y.lv] 25 := hb77
         refine L_nil ?_
         refine B_n ?_
         refine T_n ?_
         refine W_reg ?_
         refine L_op rfl (X_move (v := (.int .i64 (((i : Nat) : Int)))) rfl ?_)
         refine L_op rfl (X_arith (k := .i64) (a := ((i : Nat) : Int)) (b := 1) (r := ((i + 1 : Nat) : Int)) rfl rfl rfl (iadd64 (by omega) (by omega) (by omega)) ?_)
         refine L_op rfl (X_assign (v := (.int .i64 (((i + 1 : Nat) : Int)))) rfl ?_)
         refine L_nil ?_
         refine T_n ?_
         exact ⟨rfl, (i + 1, true, y, sY, uY), ⟨⟨by omega, ⟨fun _ => by rw [htk]; exact hsn.1 rfl, fun _ => rfl⟩, hy, by omega, .inr (by omega), hB10, hMy, hyOk, hopy, hU, by omega⟩, (by show mm + 1 - (i + 1) < mm + 1 - i; omega)⟩, (Out.mk rfl), ⟨rfl, rfl, trivial⟩⟩
        ·subst hsn_
         refine L_op rfl (X_move (v := (.bool (false))) rfl ?_)
         refine L_op rfl (X_move (v := (.bool (false))) rfl ?_)
         refine L_gy (dj := 130) rfl rfl rfl (X_move (v := (.int .i64 (130))) rfl ?_)
         refine L_gy (dj := 130) rfl rfl rfl (X_cmp (k := .i64) (a := 130) (b := 0) (r := false) rfl rfl rfl rfl ?_)
         refine L_gy (dj := 130) rfl rfl rfl (X_move (v := (.bool (false))) rfl ?_)
         refine L_gn (dj := 133) (t := false) rfl rfl rfl rfl ?_
         refine L_gn (dj := 133) (t := false) rfl rfl rfl rfl ?_
         refine L_gn (dj := 133) (t := false) rfl rfl rfl rfl ?_
         refine L_gy (dj := 130) rfl rfl rfl (X_pick (t := false) (v := (.bool (false))) rfl rfl ?_)
         refine L_op rfl (X_pick (t := false) (v := (.bool (false))) rfl rfl ?_)
         refine L_op rfl (X_assign (v := (.bool (false))) rfl ?_)
         refine L_nil ?_
         refine T_n ?_
         refine W_reg ?_
         refine L_op rfl (X_loadA (p := (ptr b74 (0))) (xs := [(.int .i64 (y.sz)), y.uv, y.lv]) A25 rfl hB74.atAll rfl ?_)
         refine L_op0 (X_storeW (b := b10) (ys := [(.int .i64 (y.sz)), y.uv, y.lv]) A25 rfl rfl (List.forall_mem_cons.2 ⟨rfl, (List.forall_mem_cons.2 ⟨(hy.1.sv.one), (List.forall_mem_cons.2 ⟨(hy.2.sv.one), (fun _ h => by cases h)⟩)⟩)⟩) rfl hB10 rfl ?_)
         intro w78 hu78 hb78
         have hz78 := hu78.size
         replace hz := hz.upd hu78 fun i h1 h2 h => by have h : i = b10 := h; omega
         replace hU := hU.trans (hu78.mono fun i _ h => by have h : i = b10 := h; show n0 ≤ i; omega)
         replace hy := hy.upd hu78 fun i h1 h2 h => by have h : i = b10 := h; omega
         replace hB74 := hB74.upd hu78 fun h => by have h : b74 = b10 := h; omega
         replace hB10 : Blk w78 b10 #[(.int .i64 (y.sz)), y.uv, y.lv] 25 := hb78
         refine L_nil ?_
         refine B_n ?_
         refine T_n ?_
         refine W_reg ?_
         refine L_op rfl (X_move (v := (.int .i64 (((i : Nat) : Int)))) rfl ?_)
         refine L_op rfl (X_arith (k := .i64) (a := ((i : Nat) : Int)) (b := 1) (r := ((i + 1 : Nat) : Int)) rfl rfl rfl (iadd64 (by omega) (by omega) (by omega)) ?_)
         refine L_op rfl (X_assign (v := (.int .i64 (((i + 1 : Nat) : Int)))) rfl ?_)
         refine L_nil ?_
         refine T_n ?_
         exact ⟨rfl, (i + 1, false, y, sY, uY), ⟨⟨by omega, ⟨fun h_ => (by cases h_), fun h_ => (by rw [htk] at h_; exact hsn.2 h_)⟩, hy, by omega, .inr (by omega), hB10, hMy, hyOk, hopy, hU, by omega⟩, (by show mm + 1 - (i + 1) < mm + 1 - i; omega)⟩, (Out.mk rfl), ⟨rfl, rfl, trivial⟩⟩
      ·refine L_op rfl (X_cmp (k := .i64) (a := ((i : Nat) : Int)) (b := ((mm : Nat) : Int)) (r := false) rfl rfl rfl (decide_eq_false (p := ((((i : Nat) : Int)) : Int) ≤ ((((mm : Nat) : Int)) : Int)) (by omega)) ?_)
       have hin_ := (free_ins (t := t) (u := u) (pin := pin) (k := k) hH).1
       have hlt_ : n.toNat < s.us.length := by have h5_ := hH.2.2.1; have h6_ := hH.1.1.1.2.2; have h7_ := hH.2.1; omega
       have hmem : n.toNat ∈ OL ↔ t + 4 ≤ u ∧ t ≤ pin := by rw [hOL, op_mem hMo, hous, hols, hin_]; exact ⟨fun h_ => h_.2, fun h_ => ⟨hlt_, h_⟩⟩
       rw [List.take_of_length_le (by omega), hmem] at hsn
       obtain rfl : sn = false := Bool.eq_false_iff.2 fun h_ => hfr (hsn.1 h_)
       refine L_nil ?_
       refine T_n ?_
       refine W_cf rfl ?_
       refine W_exit ?_
       refine T_e ?_
       refine T_e ?_
       refine B_x ?_
       refine T_n ?_
       refine W_seq ?_
       refine W_reg ?_
       refine L_op rfl (X_move (v := (.bool (false))) rfl ?_)
       refine L_op rfl (X_move (v := (.bool (false))) rfl ?_)
       refine L_op rfl (X_cmpBool (a := false) (b := false) (r := true) Try.underlying4 rfl rfl (.inl ⟨rfl, rfl⟩) ?_)
       refine L_op rfl (X_move (v := (.bool (true))) rfl ?_)
       refine L_gy (dj := 143) rfl rfl rfl (X_fn (vs := []) en8 rfl (CT.mono (c_wakes _) ?_))
       rintro _ w79 ⟨rfl, hu79⟩
       have hz79 := hu79.size
       replace hz := hz.ext hu79
       replace hB10 := hB10.ext hu79
       replace hU := hU.trans (Ext.upd hu79)
       refine L_op rfl (X_pick (t := true) (v := (.bool (true))) rfl rfl ?_)
       refine L_op rfl (X_assign (v := (.bool (true))) rfl ?_)
       refine L_nil ?_
       refine T_n ?_
       refine W_ret ?_
       exact BQ_r (End_1 Try.results3 (v := .bool true) rfl ⟨rfl, hU.own hn0⟩)
    ·obtain ⟨o, rfl, hoO, hosz, hous, hols⟩ := hno hH
     clear hno hyes
     have hoR := hoO.rd
     refine L_op rfl (X_move (v := (.tuple #[(.agg #[(.int .i64 (o.sz)), o.uv, o.lv]), (.int .i64 (2))])) rfl ?_)
     refine L_op rfl (X_extract (l := [(.agg #[(.int .i64 (o.sz)), o.uv, o.lv]), (.int .i64 (2))]) (v := (.agg #[(.int .i64 (o.sz)), o.uv, o.lv])) rfl rfl ?_)
     refine L_op rfl (X_extract (l := [(.agg #[(.int .i64 (o.sz)), o.uv, o.lv]), (.int .i64 (2))]) (v := (.int .i64 (2))) rfl rfl ?_)
     refine L_op rfl (X_alloc (z := (.agg #[(.int .i64 (0)), (.slice none 0 0), (.slice none 0 0)])) (c := #[(.int .i64 (0)), (.slice none 0 0), (.slice none 0 0)]) Zv25 rfl ?_)
     intro b80 w80 hn80
     have hbn80 := hn80.num; have hbs80 := hn80.size
     replace hs := hs.ext hn80.ext
     replace hU := hU.trans (Ext.upd hn80.ext)
     replace hB1 := hB1.ext hn80.ext
     replace hoR := hoR.ext hn80.ext
     have hB80 := hn80.blk
     refine L_op0 (X_storeW (b := b80) (ys := [(.int .i64 (o.sz)), o.uv, o.lv]) A25 rfl rfl (List.forall_mem_cons.2 ⟨rfl, (List.forall_mem_cons.2 ⟨(hoR.1.sv.one), (List.forall_mem_cons.2 ⟨(hoR.2.sv.one), (fun _ h => by cases h)⟩)⟩)⟩) rfl hB80 rfl ?_)
     intro w81 hu81 hb81
     have hz81 := hu81.size
     replace hs := hs.upd hu81 fun i h1 h2 h => by have h : i = b80 := h; omega
     replace hU := hU.trans (hu81.mono fun i _ h => by have h : i = b80 := h; show n0 ≤ i; omega)
     replace hB1 := hB1.upd hu81 fun h => by have h : b1 = b80 := h; omega
     replace hoR := hoR.upd hu81 fun i h1 h2 h => by have h : i = b80 := h; omega
     replace hB80 : Blk w81 b80 #[(.int .i64 (o.sz)), o.uv, o.lv] 25 := hb81
     refine L_op rfl (X_assign (v := (.int .i64 (2))) rfl ?_)
     refine L_nil ?_
     refine T_n ?_
     refine W_seq ?_
     refine W_seq ?_
     refine W_reg ?_
     refine L_op rfl (X_move (v := (.int .i64 (2))) rfl ?_)
     refine L_op rfl (X_cmp (k := .i64) (a := 2) (b := 0) (r := true) rfl rfl rfl rfl ?_)
     refine L_nil ?_
     refine T_n ?_
     refine W_ct rfl ?_
     refine W_seq ?_
     refine W_reg ?_
     refine L_op rfl (X_move (v := (.int .i64 (2))) rfl ?_)
     refine L_op rfl (X_cmp (k := .i64) (a := 2) (b := 2) (r := true) rfl rfl rfl rfl ?_)
     refine L_op rfl (X_move (v := (.bool (true))) rfl ?_)
     refine L_gy (dj := 44) rfl rfl rfl (X_loadA (p := (ptr b80 (0))) (xs := [(.int .i64 (o.sz)), o.uv, o.lv]) A25 rfl hB80.atAll rfl ?_)
     refine L_gy (dj := 44) rfl rfl rfl (X_loadA (p := (ptr b1 (0))) (xs := [(.int .i64 (s.sz)), s.uv, s.lv]) A25 rfl hB1.atAll rfl ?_)
     have hcr_ := c_sameL o s w81 sF uF 0 n0 hoR hs
     refine L_gy (dj := 44) rfl rfl rfl (X_fn (vs := [(.agg ([(.int .i64 (o.sz)), o.uv, o.lv]).toArray), (.agg ([(.int .i64 (s.sz)), s.uv, s.lv]).toArray)]) en10 rfl ?_)
     refine CT.mono hcr_ ?_
     clear hcr_
     rintro _ w82 ⟨⟨gS, rfl, hgS⟩, hu82⟩
     have hz82 := hu82.size
     replace hs := hs.ext hu82
     replace hU := hU.trans (Ext.upd hu82)
     replace hB1 := hB1.ext hu82
     replace hoR := hoR.ext hu82
     replace hB80 := hB80.ext hu82
     obtain rfl : gS = true := hgS.2 ⟨hosz, hous, hols⟩
     refine L_op rfl (X_pick (t := true) (v := (.bool (true))) rfl rfl ?_)
     refine L_op rfl (X_move (v := (.bool (true))) rfl ?_)
     refine L_gy (dj := 49) rfl rfl rfl (X_fn (vs := []) en8 rfl (CT.mono (c_wakes _) ?_))
     rintro _ w83 ⟨rfl, hu83⟩
     have hz83 := hu83.size
     replace hs := hs.ext hu83
     replace hU := hU.trans (Ext.upd hu83)
     replace hB1 := hB1.ext hu83
     replace hoR := hoR.ext hu83
     replace hB80 := hB80.ext hu83
     refine L_op rfl (X_pick (t := true) (v := (.bool (true))) rfl rfl ?_)
     refine L_op rfl (X_assign (v := (.bool (true))) rfl ?_)
     refine L_nil ?_
     refine T_n ?_
     refine W_ret ?_
     refine T_r ?_
     exact BQ_r (End_1 Try.results3 (v := .bool true) rfl ⟨rfl, hU.own hn0⟩)
  ·rw [hc6]
   refine L_gy (dj := 23) rfl rfl rfl (X_not (b := false) (r := true) rfl rfl ?_)
   refine L_op rfl (X_pick (t := false) (v := (.bool (true))) rfl rfl ?_)
   refine L_op rfl (X_move (v := (.bool (true))) rfl ?_)
   refine L_gn (dj := 28) (t := true) rfl rfl rfl rfl ?_
   refine L_gn (dj := 28) (t := true) rfl rfl rfl rfl ?_
   refine L_op rfl (X_pick (t := true) (v := (.bool (true))) rfl rfl ?_)
   refine L_nil ?_
   refine T_n ?_
   refine W_ct rfl ?_
   refine W_seq ?_
   refine W_reg ?_
   refine L_op rfl (X_fn (vs := []) en8 rfl (CT.mono (c_wakes _) ?_))
   rintro _ w84 ⟨rfl, hu84⟩
   have hz84 := hu84.size
   replace hs := hs.ext hu84
   replace hU := hU.trans (Ext.upd hu84)
   replace hB1 := hB1.ext hu84
   refine L_op rfl (X_assign (v := (.bool (true))) rfl ?_)
   refine L_nil ?_
   refine T_n ?_
   refine W_ret ?_
   refine T_r ?_
   exact BQ_r (End_1 Try.results3 (v := .bool true) rfl ⟨rfl, hU.own hn0⟩)
end Go.Proofs.Ytmaikcnjgkoghaa
