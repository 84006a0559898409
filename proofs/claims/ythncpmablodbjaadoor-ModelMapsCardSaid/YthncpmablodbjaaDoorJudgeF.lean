/-
  The model: the maps of judges. (Printed by wip/gen/t31l.py of this repo.)
-/
import Derived.Test.YthncpmablodbjaaDoorJudgeE
namespace Go.Proofs.YthncpmablodbjaaDoor
open Go Go.SL Go.Proofs
set_option linter.unusedVariables false

def asksF : Int → Option Value := putF (putF (putF (putF (fun _ => none) 0 (Fn 63)) 1 (Fn 65)) 7 (Fn 66)) 8 (Fn 67)
def writesF : Int → Option Value := putF (putF (putF (putF (putF (fun _ => none) 2 (Fn 68)) 3 (Fn 69)) 4 (Fn 70)) 5 (Fn 71)) 6 (Fn 72)
/-- the map of judges, at the kinds that are asked for -/
def judF (F : Int → Option Value) : Prop := F 0 = some (Fn 63) ∧ F 2 = some (Fn 68) ∧ F 3 = some (Fn 69)
def overF (F G : Int → Option Value) : Int → Option Value := fun k => match G k with | some v => some v | none => F k
def seenF (F G : Int → Option Value) (S : List Int) : Int → Option Value := fun k => if k ∈ S then overF F G k else F k
theorem seen_nil (F G : Int → Option Value) (k : Int) : F k = seenF F G [] k := by unfold seenF; rw [if_neg (by simp)]
theorem seen_put {F G : Int → Option Value} {S : List Int} {k : Int} {v : Value} (h : G k = some v) (j : Int) : putF (seenF F G S) k v j = seenF F G (k :: S) j := by
  unfold putF seenF
  by_cases hj : j = k
  · subst hj
    rw [if_pos rfl, if_pos (by simp)]
    unfold overF
    rw [h]
  · rw [if_neg hj]
    by_cases hs : j ∈ S
    · rw [if_pos hs, if_pos (by simp [hs])]
    · rw [if_neg hs, if_neg (by simp [hs, hj])]
theorem seen_all {F G : Int → Option Value} {S : List Int} (h : ∀ k v, G k = some v → k ∈ S) (k : Int) : seenF F G S k = overF F G k := by
  unfold seenF
  by_cases hs : k ∈ S
  · rw [if_pos hs]
  · rw [if_neg hs]
    unfold overF
    cases hg : G k with
    | none => rfl
    | some v => exact absurd (h k v hg) hs

theorem c_asks (w : World) : CT Tryd.prog 35 #[] w fun v w' => ∃ b, v = .map (some b) ∧ w.heap.size ≤ b ∧ MapAt .u8 w' b asksF ∧ Ext w w' := by
  obtain ⟨n0, hn0⟩ : ∃ n, n = w.heap.size := ⟨_, rfl⟩
  have hU : Upd (fun i => n0 ≤ i) w w := Upd.refl _ _
  refine CT_of Tryd.func35 rfl rfl rfl ?_
  refine W_seq ?_
  refine W_reg ?_
  refine L_op rfl (X_assign (v := (.map none)) rfl ?_)
  refine L_nil ?_
  refine T_n ?_
  refine W_seq ?_
  refine W_reg ?_
  refine L_op rfl (X_makeMap (q := .u8) fun bm w1 hbm hz1 hu1 hM => ?_)
  replace hU := hU.trans (Ext.upd hu1)
  refine L_op0 (X_insert (k := 0) (v := (.func (.func 63) #[] #[])) Tryd.underlying66 Tryd.underlying5 rfl rfl rfl hM fun w2 hM2 hu2 => ?_)
  have hz2 := hu2.size
  replace hU := hU.trans (hu2.mono fun i _ h => by have h : i = bm := h; show n0 ≤ i; omega)
  replace hM := hM2
  refine L_op0 (X_insert (k := 1) (v := (.func (.func 65) #[] #[])) Tryd.underlying66 Tryd.underlying5 rfl rfl rfl hM fun w3 hM3 hu3 => ?_)
  have hz3 := hu3.size
  replace hU := hU.trans (hu3.mono fun i _ h => by have h : i = bm := h; show n0 ≤ i; omega)
  replace hM := hM3
  refine L_op0 (X_insert (k := 7) (v := (.func (.func 66) #[] #[])) Tryd.underlying66 Tryd.underlying5 rfl rfl rfl hM fun w4 hM4 hu4 => ?_)
  have hz4 := hu4.size
  replace hU := hU.trans (hu4.mono fun i _ h => by have h : i = bm := h; show n0 ≤ i; omega)
  replace hM := hM4
  refine L_op0 (X_insert (k := 8) (v := (.func (.func 67) #[] #[])) Tryd.underlying66 Tryd.underlying5 rfl rfl rfl hM fun w5 hM5 hu5 => ?_)
  have hz5 := hu5.size
  replace hU := hU.trans (hu5.mono fun i _ h => by have h : i = bm := h; show n0 ≤ i; omega)
  replace hM := hM5
  refine L_op rfl (X_move (v := (.map (some bm))) rfl ?_)
  refine L_op rfl (X_assign (v := (.map (some bm))) rfl ?_)
  refine L_nil ?_
  refine T_n ?_
  refine W_ret ?_
  exact BQ_r (End_1 Tryd.results35 (v := .map (some bm)) rfl ⟨bm, rfl, by omega, hM, hU.own hn0⟩)

theorem c_writes (w : World) : CT Tryd.prog 37 #[] w fun v w' => ∃ b, v = .map (some b) ∧ w.heap.size ≤ b ∧ MapAt .u8 w' b writesF ∧ Ext w w' := by
  obtain ⟨n0, hn0⟩ : ∃ n, n = w.heap.size := ⟨_, rfl⟩
  have hU : Upd (fun i => n0 ≤ i) w w := Upd.refl _ _
  refine CT_of Tryd.func37 rfl rfl rfl ?_
  refine W_seq ?_
  refine W_reg ?_
  refine L_op rfl (X_assign (v := (.map none)) rfl ?_)
  refine L_nil ?_
  refine T_n ?_
  refine W_seq ?_
  refine W_reg ?_
  refine L_op rfl (X_makeMap (q := .u8) fun bm w1 hbm hz1 hu1 hM => ?_)
  replace hU := hU.trans (Ext.upd hu1)
  refine L_op0 (X_insert (k := 2) (v := (.func (.func 68) #[] #[])) Tryd.underlying66 Tryd.underlying5 rfl rfl rfl hM fun w2 hM2 hu2 => ?_)
  have hz2 := hu2.size
  replace hU := hU.trans (hu2.mono fun i _ h => by have h : i = bm := h; show n0 ≤ i; omega)
  replace hM := hM2
  refine L_op0 (X_insert (k := 3) (v := (.func (.func 69) #[] #[])) Tryd.underlying66 Tryd.underlying5 rfl rfl rfl hM fun w3 hM3 hu3 => ?_)
  have hz3 := hu3.size
  replace hU := hU.trans (hu3.mono fun i _ h => by have h : i = bm := h; show n0 ≤ i; omega)
  replace hM := hM3
  refine L_op0 (X_insert (k := 4) (v := (.func (.func 70) #[] #[])) Tryd.underlying66 Tryd.underlying5 rfl rfl rfl hM fun w4 hM4 hu4 => ?_)
  have hz4 := hu4.size
  replace hU := hU.trans (hu4.mono fun i _ h => by have h : i = bm := h; show n0 ≤ i; omega)
  replace hM := hM4
  refine L_op0 (X_insert (k := 5) (v := (.func (.func 71) #[] #[])) Tryd.underlying66 Tryd.underlying5 rfl rfl rfl hM fun w5 hM5 hu5 => ?_)
  have hz5 := hu5.size
  replace hU := hU.trans (hu5.mono fun i _ h => by have h : i = bm := h; show n0 ≤ i; omega)
  replace hM := hM5
  refine L_op0 (X_insert (k := 6) (v := (.func (.func 72) #[] #[])) Tryd.underlying66 Tryd.underlying5 rfl rfl rfl hM fun w6 hM6 hu6 => ?_)
  have hz6 := hu6.size
  replace hU := hU.trans (hu6.mono fun i _ h => by have h : i = bm := h; show n0 ≤ i; omega)
  replace hM := hM6
  refine L_op rfl (X_move (v := (.map (some bm))) rfl ?_)
  refine L_op rfl (X_assign (v := (.map (some bm))) rfl ?_)
  refine L_nil ?_
  refine T_n ?_
  refine W_ret ?_
  exact BQ_r (End_1 Tryd.results37 (v := .map (some bm)) rfl ⟨bm, rfl, by omega, hM, hU.own hn0⟩)

theorem c_befalls (w : World) : CT Tryd.prog 38 #[] w fun v w' => ∃ b F, v = .map (some b) ∧ w.heap.size ≤ b ∧ MapAt .u8 w' b F ∧ (F 0 = none ∧ F 2 = none ∧ F 3 = none) ∧ Ext w w' := by
  obtain ⟨n0, hn0⟩ : ∃ n, n = w.heap.size := ⟨_, rfl⟩
  have hU : Upd (fun i => n0 ≤ i) w w := Upd.refl _ _
  refine CT_of Tryd.func38 rfl rfl rfl ?_
  refine W_seq ?_
  refine W_reg ?_
  refine L_op rfl (X_assign (v := (.map none)) rfl ?_)
  refine L_nil ?_
  refine T_n ?_
  refine W_seq ?_
  refine W_reg ?_
  refine L_op rfl (X_alloc (z := .nilFunc) (c := #[.nilFunc]) Zv64 rfl ?_)
  intro b1 w1 hn1
  have hbn1 := hn1.num; have hbs1 := hn1.size
  replace hU := hU.trans (Ext.upd hn1.ext)
  have hB1 := hn1.blk
  refine L_op0 (X_store (b := b1) (o := 0) T64 rfl rfl rfl hB1 (by show (0 : Nat) < 1; decide) ?_)
  intro w2 hu2 hb2
  have hz2 := hu2.size
  replace hU := hU.trans (hu2.mono fun i _ h => by have h : i = b1 := h; show n0 ≤ i; omega)
  replace hB1 : Blk w2 b1 #[(.func (.func 73) #[] #[])] 64 := hb2
  refine L_nil ?_
  refine T_n ?_
  refine W_seq ?_
  refine W_reg ?_
  refine L_op rfl (X_alloc (z := .nilFunc) (c := #[.nilFunc]) Zv64 rfl ?_)
  intro b3 w3 hn3
  have hbn3 := hn3.num; have hbs3 := hn3.size
  replace hU := hU.trans (Ext.upd hn3.ext)
  replace hB1 := hB1.ext hn3.ext
  have hB3 := hn3.blk
  refine L_op0 (X_store (b := b3) (o := 0) T64 rfl rfl rfl hB3 (by show (0 : Nat) < 1; decide) ?_)
  intro w4 hu4 hb4
  have hz4 := hu4.size
  replace hU := hU.trans (hu4.mono fun i _ h => by have h : i = b3 := h; show n0 ≤ i; omega)
  replace hB1 := hB1.upd hu4 fun h => by have h : b1 = b3 := h; omega
  replace hB3 : Blk w4 b3 #[(.func (.func 74) #[] #[])] 64 := hb4
  refine L_nil ?_
  refine T_n ?_
  refine W_seq ?_
  refine W_reg ?_
  refine L_op rfl (X_makeMap (q := .u8) fun bm w5 hbm hz5 hu5 hM => ?_)
  replace hU := hU.trans (Ext.upd hu5)
  replace hB1 := hB1.ext hu5
  replace hB3 := hB3.ext hu5
  refine L_op rfl (X_makeFunc (vs := [(ptr b1 (0))]) rfl ?_)
  refine L_op0 (X_insert (k := 9) (v := (.func (.func 75) #[] #[(ptr b1 (0))])) Tryd.underlying66 Tryd.underlying5 rfl rfl rfl hM fun w6 hM6 hu6 => ?_)
  have hz6 := hu6.size
  replace hU := hU.trans (hu6.mono fun i _ h => by have h : i = bm := h; show n0 ≤ i; omega)
  replace hB1 := hB1.upd hu6 fun h => by have h : b1 = bm := h; omega
  replace hB3 := hB3.upd hu6 fun h => by have h : b3 = bm := h; omega
  replace hM := hM6
  refine L_op rfl (X_makeFunc (vs := [(ptr b1 (0))]) rfl ?_)
  refine L_op0 (X_insert (k := 10) (v := (.func (.func 76) #[] #[(ptr b1 (0))])) Tryd.underlying66 Tryd.underlying5 rfl rfl rfl hM fun w7 hM7 hu7 => ?_)
  have hz7 := hu7.size
  replace hU := hU.trans (hu7.mono fun i _ h => by have h : i = bm := h; show n0 ≤ i; omega)
  replace hB1 := hB1.upd hu7 fun h => by have h : b1 = bm := h; omega
  replace hB3 := hB3.upd hu7 fun h => by have h : b3 = bm := h; omega
  replace hM := hM7
  refine L_op rfl (X_makeFunc (vs := [(ptr b3 (0))]) rfl ?_)
  refine L_op0 (X_insert (k := 11) (v := (.func (.func 77) #[] #[(ptr b3 (0))])) Tryd.underlying66 Tryd.underlying5 rfl rfl rfl hM fun w8 hM8 hu8 => ?_)
  have hz8 := hu8.size
  replace hU := hU.trans (hu8.mono fun i _ h => by have h : i = bm := h; show n0 ≤ i; omega)
  replace hB1 := hB1.upd hu8 fun h => by have h : b1 = bm := h; omega
  replace hB3 := hB3.upd hu8 fun h => by have h : b3 = bm := h; omega
  replace hM := hM8
  refine L_op0 (X_insert (k := 12) (v := (.func (.func 78) #[] #[])) Tryd.underlying66 Tryd.underlying5 rfl rfl rfl hM fun w9 hM9 hu9 => ?_)
  have hz9 := hu9.size
  replace hU := hU.trans (hu9.mono fun i _ h => by have h : i = bm := h; show n0 ≤ i; omega)
  replace hB1 := hB1.upd hu9 fun h => by have h : b1 = bm := h; omega
  replace hB3 := hB3.upd hu9 fun h => by have h : b3 = bm := h; omega
  replace hM := hM9
  refine L_op rfl (X_load (p := (ptr b3 (0))) (v := (.func (.func 74) #[] #[])) T64 rfl (hB3.at1 rfl) ?_)
  refine L_op0 (X_insert (k := 13) (v := (.func (.func 74) #[] #[])) Tryd.underlying66 Tryd.underlying5 rfl rfl rfl hM fun w10 hM10 hu10 => ?_)
  have hz10 := hu10.size
  replace hU := hU.trans (hu10.mono fun i _ h => by have h : i = bm := h; show n0 ≤ i; omega)
  replace hB1 := hB1.upd hu10 fun h => by have h : b1 = bm := h; omega
  replace hB3 := hB3.upd hu10 fun h => by have h : b3 = bm := h; omega
  replace hM := hM10
  refine L_op rfl (X_load (p := (ptr b3 (0))) (v := (.func (.func 74) #[] #[])) T64 rfl (hB3.at1 rfl) ?_)
  refine L_op0 (X_insert (k := 14) (v := (.func (.func 74) #[] #[])) Tryd.underlying66 Tryd.underlying5 rfl rfl rfl hM fun w11 hM11 hu11 => ?_)
  have hz11 := hu11.size
  replace hU := hU.trans (hu11.mono fun i _ h => by have h : i = bm := h; show n0 ≤ i; omega)
  replace hB1 := hB1.upd hu11 fun h => by have h : b1 = bm := h; omega
  replace hB3 := hB3.upd hu11 fun h => by have h : b3 = bm := h; omega
  replace hM := hM11
  refine L_op0 (X_insert (k := 15) (v := (.func (.func 79) #[] #[])) Tryd.underlying66 Tryd.underlying5 rfl rfl rfl hM fun w12 hM12 hu12 => ?_)
  have hz12 := hu12.size
  replace hU := hU.trans (hu12.mono fun i _ h => by have h : i = bm := h; show n0 ≤ i; omega)
  replace hB1 := hB1.upd hu12 fun h => by have h : b1 = bm := h; omega
  replace hB3 := hB3.upd hu12 fun h => by have h : b3 = bm := h; omega
  replace hM := hM12
  refine L_op0 (X_insert (k := 16) (v := (.func (.func 80) #[] #[])) Tryd.underlying66 Tryd.underlying5 rfl rfl rfl hM fun w13 hM13 hu13 => ?_)
  have hz13 := hu13.size
  replace hU := hU.trans (hu13.mono fun i _ h => by have h : i = bm := h; show n0 ≤ i; omega)
  replace hB1 := hB1.upd hu13 fun h => by have h : b1 = bm := h; omega
  replace hB3 := hB3.upd hu13 fun h => by have h : b3 = bm := h; omega
  replace hM := hM13
  refine L_op rfl (X_move (v := (.map (some bm))) rfl ?_)
  refine L_op rfl (X_assign (v := (.map (some bm))) rfl ?_)
  refine L_nil ?_
  refine T_n ?_
  refine W_ret ?_
  exact BQ_r (End_1 Tryd.results38 (v := .map (some bm)) rfl ⟨bm, _, rfl, by omega, hM, ⟨rfl, rfl, rfl⟩, hU.own hn0⟩)

theorem c_copy (b1 b2 : Nat) (F G : Int → Option Value) (w : World) (hne : b1 ≠ b2) (h1 : MapAt .u8 w b1 F) (h2 : MapAt .u8 w b2 G) : CT Tryd.prog 36 #[(.map (some b1)), (.map (some b2))] w fun v w' => v = .tuple #[] ∧ MapAt .u8 w' b1 (overF F G) ∧ Upd (fun i => i = b1) w w' := by
  obtain ⟨n0, hn0⟩ : ∃ n, n = w.heap.size := ⟨_, rfl⟩
  have hU : Upd (fun i => i = b1 ∨ n0 ≤ i) w w := Upd.refl _ _
  refine CT_of Tryd.func36 rfl rfl rfl ?_
  refine W_seq ?_
  refine W_reg ?_
  refine L_op rfl (X_move (v := (.map (some b2))) rfl ?_)
  refine L_op rfl (X_range Tryd.underlying66 rfl h2 fun r w1 cnt0 hr hz1 hu1 hI => ?_)
  have hb1l := h1.lt; have hb2l := h2.lt
  replace h1 := MapAt.ext h1 hu1
  replace hU := hU.trans (Ext.upd hu1)
  refine L_nil ?_
  refine T_n ?_
  refine W_block ?_
  refine W_loop (α := List Int × Option Int × Nat) [4, 5, 8, 9, 10, 11, 12, 13, 14, 15] (fun ⟨S_, last, cnt⟩ => []) (fun ⟨S_, last, cnt⟩ w_ => MapAt .u8 w_ b1 (seenF F G S_) ∧ IterAt .u8 w_ r b2 G S_ last cnt ∧ Upd (fun i => i = b1 ∨ n0 ≤ i) w w_) (fun ⟨S_, last, cnt⟩ => cnt) ⟨rfl, ([], none, cnt0), ⟨h1.eq (seen_nil F G), hI, hU⟩, Out.refl _ _, trivial⟩ ?_
  rintro ⟨S_, last, cnt⟩ w2 _ ⟨h1, hI, hU⟩
  have hil := hI.lt
  refine W_seq ?_
  refine W_reg ?_
  refine L_op rfl (X_next rfl hI ?_ ?_)
  · intro hend
    refine L_op rfl (X_extract (l := [(.bool (false))]) (v := (.bool (false))) rfl rfl ?_)
    refine L_nil ?_
    refine T_n ?_
    refine W_seq ?_
    refine W_cf rfl ?_
    refine W_exit ?_
    refine T_e ?_
    refine T_e ?_
    refine B_x ?_
    exact BQ_n (End_0 Tryd.results36 ⟨rfl, h1.eq (seen_all hend), hU.mono fun i hi h => h.resolve_right (by omega)⟩)
  · intro k v w5 n hk hkS hn hI5 hu5
    have hz5 := hu5.size
    replace h1 := MapAt.upd h1 hu5 (fun h => by have h : b1 = r := h; omega)
    replace hU := hU.trans (hu5.mono fun i _ h => by have h : i = r := h; show i = b1 ∨ n0 ≤ i; omega)
    refine L_op rfl (X_extract (l := [(.bool (true)), (.int .u8 (k)), v]) (v := (.bool (true))) rfl rfl ?_)
    refine L_nil ?_
    refine T_n ?_
    refine W_seq ?_
    refine W_ct rfl ?_
    refine W_skip ?_
    refine T_n ?_
    refine W_block ?_
    refine W_seq ?_
    refine W_reg ?_
    refine L_op rfl (X_entry rfl hI5 hk ?_)
    refine L_op rfl (X_extract (l := [(.int .u8 (k)), v]) (v := (.int .u8 (k))) rfl rfl ?_)
    refine L_op rfl (X_extract (l := [(.int .u8 (k)), v]) (v := v) rfl rfl ?_)
    refine L_op rfl (X_assign (v := (.int .u8 (k))) rfl ?_)
    refine L_op rfl (X_assign (v := v) rfl ?_)
    refine L_nil ?_
    refine T_n ?_
    refine W_reg ?_
    refine L_op rfl (X_move (v := (.map (some b1))) rfl ?_)
    refine L_op rfl (X_move (v := (.int .u8 (k))) rfl ?_)
    refine L_op rfl (X_move (v := v) rfl ?_)
    refine L_op0 (X_mapUpdate (k := k) (v := v) Tryd.underlying66 Tryd.underlying5 rfl rfl rfl h1 fun w6 h16 hu6 => ?_)
    have hz6 := hu6.size
    replace hU := hU.trans (hu6.mono fun i _ h => by have h : i = b1 := h; show i = b1 ∨ n0 ≤ i; omega)
    replace hI5 := hI5.upd hu6 (fun h => by have h : b2 = b1 := h; omega) (fun h => by have h : r = b1 := h; omega)
    have h17 := h16.eq (seen_put hk)
    refine L_nil ?_
    refine B_n ?_
    refine T_n ?_
    exact ⟨rfl, (k :: S_, some k, n), ⟨⟨h17, hI5, hU⟩, (by show n < cnt; exact hn)⟩, (Out.mk rfl), trivial⟩

theorem c_judges (w : World) : CT Tryd.prog 27 #[] w fun v w' => ∃ b F, v = .map (some b) ∧ MapAt .u8 w' b F ∧ judF F ∧ Ext w w' := by
  obtain ⟨n0, hn0⟩ : ∃ n, n = w.heap.size := ⟨_, rfl⟩
  have hU : Upd (fun i => n0 ≤ i) w w := Upd.refl _ _
  refine CT_of Tryd.func27 rfl rfl rfl ?_
  refine W_seq ?_
  refine W_reg ?_
  refine L_op rfl (X_assign (v := (.map none)) rfl ?_)
  refine L_nil ?_
  refine T_n ?_
  refine W_seq ?_
  refine W_reg ?_
  have hcr_ := c_asks w
  refine L_op rfl (X_fn (vs := []) en35 rfl ?_)
  refine CT.mono hcr_ ?_
  clear hcr_
  rintro _ w1 ⟨ba, rfl, hlba, hba, hu1⟩
  have hz1 := hu1.size
  replace hU := hU.trans (Ext.upd hu1)
  have hltba := hba.lt
  refine L_op rfl (X_assign (v := (.map (some ba))) rfl ?_)
  refine L_nil ?_
  refine T_n ?_
  refine W_seq ?_
  refine W_reg ?_
  refine L_op rfl (X_move (v := (.map (some ba))) rfl ?_)
  have hcr_ := c_writes w1
  refine L_op rfl (X_fn (vs := []) en37 rfl ?_)
  refine CT.mono hcr_ ?_
  clear hcr_
  rintro _ w2 ⟨bw, rfl, hlbw, hbw, hu2⟩
  have hz2 := hu2.size
  replace hU := hU.trans (Ext.upd hu2)
  replace hba := MapAt.ext hba hu2
  have hltbw := hbw.lt
  have hcr_ := c_copy ba bw _ _ w2 (by omega) hba hbw
  refine L_op rfl (X_fn (vs := [(.map (some ba)), (.map (some bw))]) en36 rfl ?_)
  refine CT.mono hcr_ ?_
  clear hcr_
  rintro _ w3 ⟨rfl, hm3, hu3⟩
  have hz3 := hu3.size
  replace hU := hU.trans (hu3.mono fun i _ h => by have h : i = ba := h; show n0 ≤ i; omega)
  replace hbw := MapAt.upd hbw hu3 (fun h => by have h : bw = ba := h; omega)
  replace hba := hm3
  refine L_nil ?_
  refine T_n ?_
  refine W_seq ?_
  refine W_reg ?_
  refine L_op rfl (X_move (v := (.map (some ba))) rfl ?_)
  have hcr_ := c_befalls w3
  refine L_op rfl (X_fn (vs := []) en38 rfl ?_)
  refine CT.mono hcr_ ?_
  clear hcr_
  rintro _ w4 ⟨bf, G, rfl, hlbf, hbf, ⟨g0, g2, g3⟩, hu4⟩
  have hz4 := hu4.size
  replace hU := hU.trans (Ext.upd hu4)
  replace hbw := MapAt.ext hbw hu4
  replace hba := MapAt.ext hba hu4
  have hltbf := hbf.lt
  have hcr_ := c_copy ba bf _ _ w4 (by omega) hba hbf
  refine L_op rfl (X_fn (vs := [(.map (some ba)), (.map (some bf))]) en36 rfl ?_)
  refine CT.mono hcr_ ?_
  clear hcr_
  rintro _ w5 ⟨rfl, hm5, hu5⟩
  have hz5 := hu5.size
  replace hU := hU.trans (hu5.mono fun i _ h => by have h : i = ba := h; show n0 ≤ i; omega)
  replace hbw := MapAt.upd hbw hu5 (fun h => by have h : bw = ba := h; omega)
  replace hbf := MapAt.upd hbf hu5 (fun h => by have h : bf = ba := h; omega)
  replace hba := hm5
  refine L_nil ?_
  refine T_n ?_
  refine W_seq ?_
  refine W_reg ?_
  refine L_op rfl (X_move (v := (.map (some ba))) rfl ?_)
  refine L_op rfl (X_assign (v := (.map (some ba))) rfl ?_)
  refine L_nil ?_
  refine T_n ?_
  refine W_ret ?_
  exact BQ_r (End_1 Tryd.results27 (v := .map (some ba)) rfl ⟨ba, _, rfl, hba, ⟨by unfold overF; rw [g0]; rfl, by unfold overF; rw [g2]; rfl, by unfold overF; rw [g3]; rfl⟩, hU.own hn0⟩)
end Go.Proofs.YthncpmablodbjaaDoor
