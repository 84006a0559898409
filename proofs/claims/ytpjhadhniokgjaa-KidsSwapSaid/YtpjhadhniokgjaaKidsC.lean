/-
  More contracts of chapter 16: copies. (Printed by wip/gen/t16c.py of this repo.)
-/
import Derived.Test.YtpjhadhniokgjaaKidsB
import Derived.Test.YtpjhadhniokgjaaBaseJ
namespace Go.Proofs.Ytpjhadhniokgjaa
open Go Go.SL Go.Proofs

theorem c_clone (b : Value) (l : List UInt8) (w : World) (hl : l.length ≤ 140737488355328) (hb : Rd w 1 b l.length (l.map byteV)) : CT Try.prog 25 #[b] w fun v w' => Own w' w.heap.size 5 1 v l.length (l.map byteV) ∧ Ext w w' := by
  obtain ⟨a, c, rfl, hnil⟩ := hb.parts
  obtain ⟨n0, hn0⟩ : ∃ n, n = w.heap.size := ⟨_, rfl⟩
  have hU : Upd (fun i => n0 ≤ i) w w := Upd.refl _ _
  have hb_b : ∀ i, rbk (.slice a l.length c) = some i → i < n0 := by rw [hn0]; exact fun i hi => hb.bound (by decide) hi
  refine CT_of Try.func25 rfl rfl rfl ?_
  refine W_seq ?_
  refine W_reg ?_
  refine L_op rfl (X_assign (v := (.slice none 0 0)) rfl ?_)
  refine L_nil ?_
  refine T_n ?_
  refine W_seq ?_
  refine W_seq ?_
  refine W_reg ?_
  refine L_op rfl (X_move (v := (.slice a l.length c)) rfl ?_)
  rcases Bool.eq_false_or_eq_true a.isNone with ha | ha
  · refine L_op rfl (X_nilS (a := a) (r := true) Try.underlying23 rfl (.inl ⟨rfl, ha⟩) ?_)
    refine L_nil ?_
    refine T_n ?_
    refine W_ct rfl ?_
    refine W_seq ?_
    refine W_reg ?_
    refine L_op rfl (X_assign (v := (.slice none 0 0)) rfl ?_)
    refine L_nil ?_
    refine T_n ?_
    refine W_ret ?_
    refine T_r ?_
    exact BQ_r (End_1 Try.results25 (v := .slice none 0 0) rfl ⟨(Own.nil _ _ _ _).emp (hnil ha) (by rw [List.eq_nil_of_length_eq_zero (hnil ha)]; rfl), hU.own hn0⟩)
  · refine L_op rfl (X_nilS (a := a) (r := false) Try.underlying23 rfl (.inl ⟨rfl, ha⟩) ?_)
    refine L_nil ?_
    refine T_n ?_
    refine W_cf rfl ?_
    refine W_skip ?_
    refine T_n ?_
    refine W_seq ?_
    refine W_reg ?_
    refine L_op rfl (X_buildSlice1 (vs := []) S23 (by decide) rfl rfl (fun _ h => by cases h) ?_)
    intro b1 w1 hn1
    have hbn1 := hn1.num; have hbs1 := hn1.size
    replace hb := hb.ext hn1.ext
    replace hU := hU.trans (Ext.upd hn1.ext)
    have hB1 := hn1.blk
    refine L_op rfl (X_move (v := (.slice a l.length c)) rfl ?_)
    refine L_op rfl (X_append (B := n0) (s := (.slice (some ⟨b1, 0, none⟩) 0 0)) (x := .slice a l.length c) S23 ⟨_, Try.underlying23⟩ rfl rfl (Own.zero _ _ _ _ _) hb (byteV_one _) (by unfold maxLen; omega) (by omega) (by omega) ?_)
    intro v2 w2 hO hu2 ho2
    replace hO := hO.eq (Nat.zero_add _) (List.nil_append _)
    replace hb := hb.ext hu2.nobk
    replace hU := hU.trans (Ext.upd hu2.nobk)
    replace hB1 := hB1.ext hu2.nobk
    refine L_op rfl (X_assign (v := v2) rfl ?_)
    refine L_nil ?_
    refine T_n ?_
    refine W_ret ?_
    exact BQ_r (End_1 Try.results25 (v := v2) rfl ⟨hO.more (by omega), hU.own hn0⟩)

theorem c_all (s : Value) (n : Nat) (w : World) (hs : SV s n) : CT Try.prog 24 #[s] w fun v w' => v = .func (.func 29) #[] #[ptr w.heap.size 0] ∧ Blk w' w.heap.size #[s] 62 ∧ Ext w w' ∧ w'.heap.size = w.heap.size + 1 := by
  obtain ⟨n0, hn0⟩ : ∃ n, n = w.heap.size := ⟨_, rfl⟩
  have hU : Upd (fun i => n0 ≤ i) w w := Upd.refl _ _
  refine CT_of Try.func24 rfl rfl rfl ?_
  refine W_seq ?_
  refine W_reg ?_
  refine L_op rfl (X_box (v := s) (c := #[s]) rfl (hs.cells) ?_)
  intro b1 w1 hn1
  have hbn1 := hn1.num; have hbs1 := hn1.size
  replace hU := hU.trans (Ext.upd hn1.ext)
  have hB1 := hn1.blk
  refine L_op rfl (X_assign (v := .nilFunc) rfl ?_)
  refine L_nil ?_
  refine T_n ?_
  refine W_seq ?_
  refine W_reg ?_
  refine L_op rfl (X_makeFunc (vs := [ptr b1 0]) rfl ?_)
  refine L_op rfl (X_assign (v := (.func (.func 29) #[] #[ptr b1 0])) rfl ?_)
  refine L_nil ?_
  refine T_n ?_
  refine W_ret ?_
  exact BQ_r (End_1 Try.results24 (v := .func (.func 29) #[] #[ptr b1 0]) rfl ⟨by rw [hbn1], hbn1 ▸ hB1, hU.own hn0, hbs1⟩)

abbrev RS := List (Value × List KE)
def flR (rs : RS) : List KE := rs.flatMap (·.2)
def cntR (rs : RS) (i : Nat) : Nat := (flR (rs.take i)).length
theorem cntR_step {rs : RS} {i : Nat} {r : Value × List KE} (h : rs[i]? = some r) : cntR rs (i + 1) = cntR rs i + r.2.length := by
  unfold cntR flR
  rw [List.take_add_one, h, List.flatMap_append, List.length_append]
  simp
theorem cntR_all (rs : RS) : cntR rs rs.length = (flR rs).length := by unfold cntR; rw [List.take_length]
theorem flR_at {rs : RS} {i j : Nat} {r : Value × List KE} {e : KE} (h : rs[i]? = some r) (he : r.2[j]? = some e) : (flR rs)[cntR rs i + j]? = some e := by
  have hi := (List.getElem?_eq_some_iff.1 h).1
  have e1 : flR rs = flR (rs.take i) ++ (r.2 ++ flR (rs.drop (i + 1))) := by
    have h2 : rs = rs.take i ++ r :: rs.drop (i + 1) := by
      rw [List.getElem?_eq_getElem hi] at h
      cases h
      rw [← List.drop_eq_getElem_cons hi, List.take_append_drop]
    unfold flR
    conv => lhs; rw [h2]
    rw [List.flatMap_append, List.flatMap_cons]
  rw [e1, List.getElem?_append_right (by unfold cntR; omega)]
  unfold cntR
  rw [Nat.add_sub_cancel_left, List.getElem?_append_left (List.getElem?_eq_some_iff.1 he).1, he]
theorem cntR_lt {rs : RS} {i j : Nat} {r : Value × List KE} (h : rs[i]? = some r) (hj : j < r.2.length) : cntR rs i + j < (flR rs).length := by
  have := flR_at h (List.getElem?_eq_getElem hj)
  exact (List.getElem?_eq_some_iff.1 this).1
/-- what a round over rows of kids is handed: a kid with a key of its own, laid since the last round -/
def YK (ks : List KE) : Nat → List Value → World → World → Prop := fun k x W0 W => ∃ kv e, ks[k]? = some e ∧ x = [kidV (kv, e.2)] ∧ BOwn W 5 W0.heap.size W.heap.size (kv, e.2.1)

theorem c_all1 (so : Value) (rs : RS) (b1 : Nat) (w : World) (lo up : Nat) (hup : up ≤ w.heap.size) (hB : Blk w b1 #[so] 62) (hso : Rd w 1 so rs.length (rs.map (·.1))) (hrs : ∀ r ∈ rs, NRd LK w lo up r.1 r.2) (hkl : ∀ r ∈ rs, ∀ e ∈ r.2, e.2.1.length ≤ 140737488355328) :
    IterG Try.prog 29 [ptr b1 0] (flR rs).length (YK (flR rs)) w (fun b => b < w.heap.size) (fun _ => False) := by
  intro lp J Jx W Db hu0 hDb hJs hJxs hy hJ0
  obtain ⟨n0, hn0⟩ : ∃ n, n = w.heap.size := ⟨_, rfl⟩
  have hU : Upd (fun i => n0 ≤ i) w W := hu0.mono fun i _ h => by rw [hn0]; exact Nat.not_lt.1 h
  replace hDb : ∀ b, Db b → ¬ b < n0 := by rw [hn0]; exact hDb
  have hb1 : b1 < n0 := by rw [hn0]; exact hB.lt
  replace hB := hB.upd hU fun h => by have h : n0 ≤ b1 := h; omega
  rw [← hn0] at hup
  have hmx := hso.len
  have hmr : ∀ r ∈ rs, r.2.length ≤ 9223372036854775807 := fun r hr => (hrs r hr).sv.len
  show CT Try.prog 29 #[.func (.yield lp) #[] #[], ptr b1 0] W _
  refine CT_of Try.func29 rfl rfl rfl ?_
  refine W_seq ?_
  refine W_reg ?_
  refine L_op rfl (X_load (v := so) T62 rfl (hB.at1 rfl) ?_)
  refine L_op rfl (X_len (v := so) (n := rs.length) Try.underlying62 rfl hso.sv ?_)
  refine L_op rfl (X_move (v := (.int .i64 (0))) rfl ?_)
  refine L_nil ?_
  refine T_n ?_
  refine W_block ?_
  refine W_loop (α := Nat) [4, 6, 9, 10, 11, 12, 13, 14, 15, 16, 17, 18, 19, 20, 21, 22, 23, 24, 25, 26, 27, 28] (fun i => [(9, (.int .i64 (((i : Nat) : Int))))]) (fun i w_ => i ≤ rs.length ∧ J (cntR rs i) w_ ∧ Upd (fun i => n0 ≤ i) w w_) (fun i => rs.length - i) ⟨rfl, 0, ⟨Nat.zero_le _, hJ0, hU⟩, Out.refl _ _, ⟨rfl, trivial⟩⟩ ?_
  rintro i w1 _ ⟨hil, hJ, hU⟩
  refine W_seq ?_
  refine W_reg ?_
  by_cases hc2 : (((i : Nat) : Int) : Int) < (((rs.length : Nat) : Int))
  · refine L_op rfl (X_cmp (k := .i64) (a := ((i : Nat) : Int)) (b := ((rs.length : Nat) : Int)) (r := true) rfl rfl rfl (decide_eq_true (p := ((((i : Nat) : Int)) : Int) < ((((rs.length : Nat) : Int)) : Int)) (by omega)) ?_)
    have hi : i < rs.length := by omega
    obtain ⟨r, hri⟩ : ∃ r, rs[i]? = some r := ⟨_, List.getElem?_eq_getElem hi⟩
    have hrl := hmr r (List.mem_of_getElem? hri)
    refine L_nil ?_
    refine T_n ?_
    refine W_seq ?_
    refine W_ct rfl ?_
    refine W_skip ?_
    refine T_n ?_
    refine W_seq ?_
    refine W_block ?_
    refine W_seq ?_
    refine W_reg ?_
    refine L_op rfl (X_idx (v := so) (n := rs.length) (k := .i64) (i := ((i : Nat) : Int)) S62 rfl hso.sv rfl (by omega) (by omega) ?_)
    have hsoW := hso.old (by decide) (hn0 ▸ hU)
    refine L_op rfl (X_load (v := r.1) T22 rfl (hsoW.cell (by rw [show (((i : Nat) : Int).toNat * 1) = i by omega, List.getElem?_map, hri]; rfl)) ?_)
    refine L_op rfl (X_assign (v := r.1) rfl ?_)
    refine L_nil ?_
    refine T_n ?_
    refine W_seq ?_
    refine W_reg ?_
    refine L_op rfl (X_move (v := r.1) rfl ?_)
    refine L_op rfl (X_len (v := r.1) (n := r.2.length) Try.underlying22 rfl (hrs r (List.mem_of_getElem? hri)).sv ?_)
    refine L_op rfl (X_move (v := (.int .i64 (0))) rfl ?_)
    refine L_nil ?_
    refine T_n ?_
    refine W_block ?_
    refine W_loop (α := Nat) [6, 15, 16, 17, 18, 19, 20, 21, 22, 23, 24, 25, 26, 27] (fun j => [(15, (.int .i64 (((j : Nat) : Int))))]) (fun j w_ => j ≤ r.2.length ∧ J (cntR rs i + j) w_ ∧ Upd (fun i => n0 ≤ i) w w_) (fun j => r.2.length - j) ⟨rfl, 0, ⟨Nat.zero_le _, hJ, hU⟩, Out.refl _ _, ⟨rfl, trivial⟩⟩ ?_
    rintro j w3 _ ⟨hjl, hJ, hU⟩
    have hsz_ := hU.size
    have hX := Upd.refl (fun _ => False) w3
    refine W_seq ?_
    refine W_reg ?_
    by_cases hc4 : (((j : Nat) : Int) : Int) < (((r.2.length : Nat) : Int))
    · refine L_op rfl (X_cmp (k := .i64) (a := ((j : Nat) : Int)) (b := ((r.2.length : Nat) : Int)) (r := true) rfl rfl rfl (decide_eq_true (p := ((((j : Nat) : Int)) : Int) < ((((r.2.length : Nat) : Int)) : Int)) (by omega)) ?_)
      have hj : j < r.2.length := by omega
      refine L_nil ?_
      refine T_n ?_
      refine W_seq ?_
      refine W_ct rfl ?_
      refine W_skip ?_
      refine T_n ?_
      refine W_seq ?_
      refine W_block ?_
      refine W_seq ?_
      refine W_reg ?_
      refine L_op rfl (X_idx (v := r.1) (n := r.2.length) (k := .i64) (i := ((j : Nat) : Int)) S22 rfl (hrs r (List.mem_of_getElem? hri)).sv rfl (by omega) (by omega) ?_)
      have hrow := (hrs r (List.mem_of_getElem? hri)).upd hU fun i h1 h2 h => by have h : n0 ≤ i := h; omega
      obtain ⟨e, hej⟩ : ∃ e, r.2[j]? = some e := ⟨_, List.getElem?_eq_getElem hj⟩
      refine L_op rfl (X_loadA (xs := e.1 :: ptC e.2.2) A39 rfl (kall hrow (Int.toNat_natCast _) hej) rfl ?_)
      refine L_op rfl (X_alloc (z := (.agg #[(.slice none 0 0), (.int .u8 (0)), (.int .u16 (0)), (.int .u16 (0)), (.int .u32 (0)), (.int .u64 (0))])) (c := #[(.slice none 0 0), (.int .u8 (0)), (.int .u16 (0)), (.int .u16 (0)), (.int .u32 (0)), (.int .u64 (0))]) Zv39 rfl ?_)
      intro b5 w5 hn5
      have hbn5 := hn5.num; have hbs5 := hn5.size
      replace hU := hU.trans (Ext.upd hn5.ext)
      replace hX := hX.trans hn5.ext
      replace hrow := hrow.ext hn5.ext
      have hB5 := hn5.blk
      refine L_op0 (X_storeW (b := b5) (ys := e.1 :: ptC e.2.2) A39 rfl rfl (kone hrow hej) rfl hB5 rfl ?_)
      intro w6 hu6 hb6
      have hz6 := hu6.size
      replace hU := hU.trans (hu6.mono fun i _ h => by have h : i = b5 := h; show n0 ≤ i; omega)
      replace hX := hX.comp hu6 (fun _ _ h => h) fun i hi h => by have h : i = b5 := h; omega
      replace hrow := hrow.upd hu6 fun i h1 h2 h => by have h : i = b5 := h; omega
      replace hB5 := hb6
      refine L_nil ?_
      refine T_n ?_
      refine W_seq ?_
      refine W_reg ?_
      refine L_op rfl (X_fldP (b := b5) (o := 0) (r := 0) Fd39_0 rfl rfl ?_)
      refine L_op rfl (X_load (p := (ptr b5 (0))) (v := e.1) T23 rfl (hB5.at1 rfl) ?_)
      refine L_op rfl (X_fn (vs := [e.1]) en25 rfl (CT.mono (c_clone _ e.2.1 _ (hkl _ (List.mem_of_getElem? hri) _ (List.mem_of_getElem? hej)) (krd hrow hej)) ?_))
      rintro kv w9 ⟨hK, hu9⟩
      have hz9 := hu9.size
      replace hU := hU.trans (Ext.upd hu9)
      replace hX := hX.trans hu9
      replace hrow := hrow.ext hu9
      replace hB5 := hB5.ext hu9
      have hK_b : ∀ b, obk kv = some b → b < w9.heap.size := fun b hb => (hK.lt hb).2
      refine L_op rfl (X_fldP (b := b5) (o := 0) (r := 0) Fd39_0 rfl rfl ?_)
      refine L_op0 (X_store (b := b5) (o := 0) (v := kv) T23 rfl rfl hK.sv.one hB5 (by show (0 : Nat) < 6; decide) ?_)
      intro w7 hu7 hb7
      have hz7 := hu7.size
      replace hK := hK.upd hu7 fun i hi h => by have h : i = b5 := h; have := (hK.lt hi).1; omega
      replace hU := hU.trans (hu7.mono fun i _ h => by have h : i = b5 := h; show n0 ≤ i; omega)
      replace hX := hX.comp hu7 (fun _ _ h => h) fun i hi h => by have h : i = b5 := h; omega
      replace hrow := hrow.upd hu7 fun i h1 h2 h => by have h : i = b5 := h; omega
      replace hB5 : Blk w7 b5 (kv :: ptC e.2.2).toArray 39 := hb7
      refine L_nil ?_
      refine T_n ?_
      refine W_seq ?_
      refine W_reg ?_
      refine L_op rfl (X_move (v := (.func (.yield lp) #[] #[])) rfl ?_)
      refine L_op rfl (X_loadA (p := (ptr b5 (0))) (xs := kv :: ptC e.2.2) A39 rfl (hB5.atAll) rfl ?_)
      refine L_op rfl (X_yield (vs := [kidV (kv, e.2)]) rfl rfl (YieldC.mono (hy (cntR rs i + j) _ _ _ ⟨cntR_lt hri hj, kv, e, flR_at hri hej, rfl, hK.more (by have := hX.size; omega), fun b hb => (hK.lt hb).2⟩ hJ hX) ?_))
      rintro _ W2 (⟨rfl, hJ2, hu⟩ | ⟨rfl, hJx⟩)
      · replace hU := hU.trans (hu.mono fun i _ h => Nat.not_lt.1 (hDb i h))
        refine L_op rfl (X_not (b := true) (r := false) rfl rfl ?_)
        refine L_nil ?_
        refine T_n ?_
        refine W_cf rfl ?_
        refine W_skip ?_
        refine B_n ?_
        refine T_n ?_
        refine W_reg ?_
        refine L_op rfl (X_arith (k := .i64) (a := ((j : Nat) : Int)) (b := 1) (r := ((j + 1 : Nat) : Int)) rfl rfl rfl (iadd64 (by omega) (by omega) (by omega)) ?_)
        refine L_op rfl (X_move (v := (.int .i64 (((j + 1 : Nat) : Int)))) rfl ?_)
        refine L_nil ?_
        refine T_n ?_
        exact ⟨rfl, j + 1, ⟨⟨hj, hJ2, hU⟩, (by show r.2.length - (j + 1) < r.2.length - j; omega)⟩, (Out.mk rfl), ⟨rfl, trivial⟩⟩
      · refine L_op rfl (X_not (b := false) (r := true) rfl rfl ?_)
        refine L_nil ?_
        refine T_n ?_
        refine W_ct rfl ?_
        refine W_ret ?_
        refine B_r ?_
        refine T_r ?_
        refine T_r ?_
        refine B_r ?_
        refine B_r ?_
        refine T_r ?_
        refine T_r ?_
        refine B_r ?_
        exact BQ_r (End_0 Try.results29 (.inr ⟨cntR rs i + j, cntR_lt hri hj, hJx⟩))
    · refine L_op rfl (X_cmp (k := .i64) (a := ((j : Nat) : Int)) (b := ((r.2.length : Nat) : Int)) (r := false) rfl rfl rfl (decide_eq_false (p := ((((j : Nat) : Int)) : Int) < ((((r.2.length : Nat) : Int)) : Int)) (by omega)) ?_)
      obtain rfl : j = r.2.length := by omega
      rw [← cntR_step hri] at hJ
      refine L_nil ?_
      refine T_n ?_
      refine W_seq ?_
      refine W_cf rfl ?_
      refine W_exit ?_
      refine T_e ?_
      refine T_e ?_
      refine B_x ?_
      refine B_n ?_
      refine T_n ?_
      refine W_reg ?_
      refine L_op rfl (X_arith (k := .i64) (a := ((i : Nat) : Int)) (b := 1) (r := ((i + 1 : Nat) : Int)) rfl rfl rfl (iadd64 (by omega) (by omega) (by omega)) ?_)
      refine L_op rfl (X_move (v := (.int .i64 (((i + 1 : Nat) : Int)))) rfl ?_)
      refine L_nil ?_
      refine T_n ?_
      exact ⟨rfl, i + 1, ⟨⟨hi, hJ, hU⟩, (by show rs.length - (i + 1) < rs.length - i; omega)⟩, (Out.in_ rfl rfl (Out.mk rfl)), ⟨rfl, trivial⟩⟩
  · refine L_op rfl (X_cmp (k := .i64) (a := ((i : Nat) : Int)) (b := ((rs.length : Nat) : Int)) (r := false) rfl rfl rfl (decide_eq_false (p := ((((i : Nat) : Int)) : Int) < ((((rs.length : Nat) : Int)) : Int)) (by omega)) ?_)
    obtain rfl : i = rs.length := by omega
    refine L_nil ?_
    refine T_n ?_
    refine W_seq ?_
    refine W_cf rfl ?_
    refine W_exit ?_
    refine T_e ?_
    refine T_e ?_
    refine B_x ?_
    exact BQ_n (End_0 Try.results29 (.inl (cntR_all rs ▸ hJ)))
end Go.Proofs.Ytpjhadhniokgjaa
