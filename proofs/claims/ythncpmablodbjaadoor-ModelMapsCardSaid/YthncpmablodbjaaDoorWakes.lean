/-
  What the document says of a put without a writer. (Printed by wip/gen/t31p.py of this repo.)
-/
import Derived.Test.YthncpmablodbjaaDoorJudgeI
namespace Go.Proofs.YthncpmablodbjaaDoor
open Go Go.SL Go.Proofs
set_option linter.unusedVariables false

def m0L : List Value := [.int .i64 32, .int .u32 1, (.slice none 0 0), (.slice none 0 0), (.int .u8 (0)), .int .u8 3, (.int .u32 (0)), (.slice none 0 0), (.slice none 0 0), (.int .u8 (0)), (.int .u8 (0)), (.int .u32 (0)), (.slice none 0 0), (.slice none 0 0), (.int .u8 (0)), (.int .u8 (0)), (.bool (false)), (.bool (false)), (.bool (false)), (.bool (false)), (.bool (false)), (.bool (false)), (.bool (false)), (.bool (false)), (.int .u32 (0)), (.slice none 0 0), (.slice none 0 0), (.int .u8 (0)), (.int .u8 (0)), (.int .u32 (0)), (.slice none 0 0), (.slice none 0 0), (.int .u8 (0)), (.int .u8 (0)), (.int .u32 (0)), (.slice none 0 0), (.slice none 0 0), (.int .u8 (0)), (.int .u8 (0)), (.int .u32 (0)), (.slice none 0 0), (.slice none 0 0), (.int .u8 (0)), (.int .u8 (0)), (.int .u32 (0)), (.slice none 0 0), (.slice none 0 0), (.int .u8 (0)), (.int .u8 (0)), (.int .u32 (0)), (.slice none 0 0), (.slice none 0 0), (.int .u8 (0)), (.int .u8 (0)), (.int .u32 (0)), (.slice none 0 0), (.slice none 0 0), (.int .u8 (0)), (.int .u8 (0)), (.int .u32 (0)), (.slice none 0 0), (.slice none 0 0), (.int .u8 (0)), (.int .u8 (0)), (.bool (false)), (.bool (false)), (.bool (false)), (.bool (false)), (.bool (false)), (.bool (false)), (.bool (false)), (.int .u8 (0)), (.int .u32 (0)), (.slice none 0 0), (.slice none 0 0), (.int .u8 (0)), (.int .u8 (0))]
/-- a new model of 32 pages -/
def m0 : Nat → Value := fun k => m0L.getD k (.bool false)
theorem m0_one : OneM m0 := fun k => by
  show (m0L.getD k (.bool false)).oneCell' = true
  rw [List.getD_eq_getElem?_getD]
  cases h : m0L[k]? with
  | none => rfl
  | some v =>
    have hm : ∀ u ∈ m0L, u.oneCell' = true := by decide
    exact hm v (List.mem_of_getElem? h)
theorem built27n : Tryd.prog.built 27 [(0, .int .u32 1), (4, .int .u8 3)] = some #[.int .u32 1, .slice none 0 0, .slice none 0 0, .int .u8 0, .int .u8 3] := by kernel_rfl
theorem built40n : Tryd.prog.built 40 [(0, .int .i64 32), (1, .agg #[.int .u32 1, .slice none 0 0, .slice none 0 0, .int .u8 0, .int .u8 3])] = some (cellsM m0).toArray := by kernel_rfl
theorem brd_of {w : World} {b : Nat} {l : List UInt8} (h : ∀ (j : Nat) (v : Value), (l.map byteV).toArray[j]? = some v → w.cell? ⟨b, j, none⟩ = some v) (hl : l.length ≤ maxLen) : BRd w b (b + 1) (.slice (some ⟨b, 0, none⟩) l.length l.length, l) :=
  ⟨⟨by rw [List.length_map, Nat.mul_one], _, _, rfl, Nat.le_refl _, hl, fun _ => ⟨b, 0, rfl, fun j u hj => by rw [Nat.zero_add]; exact h j u (by simpa using hj)⟩⟩, fun c hc => by
    have : b = c := by
      cases l with
      | nil => cases hc
      | cons a r => simpa [rbk] using hc
    subst this
    exact ⟨Nat.le_refl _, Nat.lt_succ_self _⟩⟩
theorem brd_blk {w : World} {b t : Nat} {l : List UInt8} (h : Blk w b (l.map byteV).toArray t) (hl : l.length ≤ maxLen) : BRd w b (b + 1) (.slice (some ⟨b, 0, none⟩) l.length l.length, l) := brd_of (fun j v hj => h.cell hj) hl

theorem c_new (w : World) : CT Tryd.prog 9 #[(.int .i64 (32))] w fun v w' => v = .agg (cellsM m0).toArray ∧ Ext w w' := by
  obtain ⟨n0, hn0⟩ : ∃ n, n = w.heap.size := ⟨_, rfl⟩
  have hU : Upd (fun i => n0 ≤ i) w w := Upd.refl _ _
  refine CT_of Tryd.func9 rfl rfl rfl ?_
  refine W_seq ?_
  refine W_reg ?_
  refine L_op rfl (X_alloc (z := zv40) (c := zc40.toArray) Zv40 rfl ?_)
  intro b1 w1 hn1
  have hbn1 := hn1.num; have hbs1 := hn1.size
  replace hU := hU.trans (Ext.upd hn1.ext)
  have hB1 := hn1.blk
  refine L_nil ?_
  refine T_n ?_
  refine W_seq ?_
  refine W_reg ?_
  refine L_op rfl (X_move (v := (.int .i64 (32))) rfl ?_)
  refine L_op rfl (X_build built27n ?_)
  refine L_op rfl (X_build built40n ?_)
  refine L_op0 (X_storeW (b := b1) (ys := cellsM m0) A40 rfl rfl (m0_one).all rfl hB1 (by rw [List.size_toArray]; exact rfl) ?_)
  intro w2 hu2 hb2
  have hz2 := hu2.size
  replace hU := hU.trans (hu2.mono fun i _ h => by have h : i = b1 := h; show n0 ≤ i; omega)
  replace hB1 : Blk w2 b1 (cellsM m0).toArray 40 := hb2
  refine L_nil ?_
  refine T_n ?_
  refine W_ret ?_
  exact BQ_r (End_1 Tryd.results9 (RV_A A40 rfl hB1.atAll rfl) ⟨rfl, hU.own hn0⟩)

theorem dr0 : DrA (begM m0) ⟨1, .slice none 0 0, [], .slice none 0 0, [], 0, 3⟩ := ⟨rfl, rfl, rfl, rfl, rfl⟩
theorem r0 (w : World) (lo up : Nat) : Sn.R w lo up ⟨1, .slice none 0 0, [], .slice none 0 0, [], 0, 3⟩ := ⟨NRd.nil _ _ _, NRd.nil _ _ _, rfl, (fun j e h => by cases h), (fun j e h => by cases h), by decide⟩

theorem c_wakes (w : World) : CT Tryd.prog 4 #[] w fun v w' => v = .bool true ∧ Ext w w' := by
  obtain ⟨n0, hn0⟩ : ∃ n, n = w.heap.size := ⟨_, rfl⟩
  have hU : Upd (fun i => n0 ≤ i) w w := Upd.refl _ _
  refine CT_of Tryd.func4 rfl rfl rfl ?_
  refine W_seq ?_
  refine W_reg ?_
  refine L_op rfl (X_assign (v := (.bool (false))) rfl ?_)
  refine L_nil ?_
  refine T_n ?_
  refine W_seq ?_
  refine W_reg ?_
  have hcr_ := c_new w
  refine L_op rfl (X_fn (vs := [(.int .i64 (32))]) en9 rfl ?_)
  refine CT.mono hcr_ ?_
  clear hcr_
  rintro _ w1 ⟨rfl, hu1⟩
  have hz1 := hu1.size
  replace hU := hU.trans (Ext.upd hu1)
  refine L_op rfl (X_alloc (z := zv40) (c := zc40.toArray) Zv40 rfl ?_)
  intro b2 w2 hn2
  have hbn2 := hn2.num; have hbs2 := hn2.size
  replace hU := hU.trans (Ext.upd hn2.ext)
  have hB2 := hn2.blk
  refine L_op0 (X_storeW (b := b2) (ys := cellsM m0) A40 rfl rfl (m0_one).all rfl hB2 (by rw [List.size_toArray]; exact rfl) ?_)
  intro w3 hu3 hb3
  have hz3 := hu3.size
  replace hU := hU.trans (hu3.mono fun i _ h => by have h : i = b2 := h; show n0 ≤ i; omega)
  replace hB2 : Blk w3 b2 (cellsM m0).toArray 40 := hb3
  refine L_nil ?_
  refine T_n ?_
  refine W_seq ?_
  refine W_reg ?_
  refine L_op rfl (X_buildSlice1 (vs := [(.int .u8 (97))]) S23 (by decide) rfl rfl (List.forall_mem_cons.2 ⟨rfl, (fun _ h => by cases h)⟩) ?_)
  intro b4 w4 hn4
  have hbn4 := hn4.num; have hbs4 := hn4.size
  replace hU := hU.trans (Ext.upd hn4.ext)
  replace hB2 := hB2.ext hn4.ext
  have hB4 := hn4.blk
  have r2a : BRd w4 b4 (b4 + 1) ((.slice (some ⟨b4, 0, none⟩) 1 1), [97]) := brd_blk (l := [97]) hB4 (by decide)
  clear r2a
  refine L_op rfl (X_convSame Tryd.underlying23 Tryd.underlying5 rfl hB4 ?_)
  intro w5 hu5 hc5
  have hz5 := hu5.size
  replace hU := hU.trans (hu5.mono fun i _ h => by have h : i = b4 := h; show n0 ≤ i; omega)
  replace hB2 := hB2.upd hu5 fun h => by have h : b2 = b4 := h; omega
  have r2a : BRd w5 b4 (b4 + 1) ((.slice (some ⟨b4, 0, none⟩) 1 1), [97]) := brd_of (l := [97]) hc5 (by decide)
  refine L_op rfl (X_buildSlice1 (vs := [(.int .u8 (1))]) S23 (by decide) rfl rfl (List.forall_mem_cons.2 ⟨rfl, (fun _ h => by cases h)⟩) ?_)
  intro b6 w6 hn6
  have hbn6 := hn6.num; have hbs6 := hn6.size
  replace hU := hU.trans (Ext.upd hn6.ext)
  replace hB2 := hB2.ext hn6.ext
  replace r2a := r2a.ext hn6.ext
  have hB6 := hn6.blk
  have r2b : BRd w6 b6 (b6 + 1) ((.slice (some ⟨b6, 0, none⟩) 1 1), [1]) := brd_blk (l := [1]) hB6 (by decide)
  refine L_op rfl (X_build (c := ([(.int .u8 (3)), (.int .i64 (0)), (.int .i64 (0)), (.slice (some ⟨b4, 0, none⟩) 1 1), (.slice (some ⟨b6, 0, none⟩) 1 1)]).toArray) rfl ?_)
  refine L_op rfl (X_alloc (z := (.agg #[(.int .u8 (0)), (.int .i64 (0)), (.int .i64 (0)), (.slice none 0 0), (.slice none 0 0)])) (c := #[(.int .u8 (0)), (.int .i64 (0)), (.int .i64 (0)), (.slice none 0 0), (.slice none 0 0)]) Zv43 rfl ?_)
  intro b7 w7 hn7
  have hbn7 := hn7.num; have hbs7 := hn7.size
  replace hU := hU.trans (Ext.upd hn7.ext)
  replace hB2 := hB2.ext hn7.ext
  replace r2a := r2a.ext hn7.ext
  replace r2b := r2b.ext hn7.ext
  have hB7 := hn7.blk
  refine L_op0 (X_storeW (b := b7) (ys := [(.int .u8 (3)), (.int .i64 (0)), (.int .i64 (0)), (.slice (some ⟨b4, 0, none⟩) 1 1), (.slice (some ⟨b6, 0, none⟩) 1 1)]) A43 rfl rfl (List.forall_mem_cons.2 ⟨rfl, (List.forall_mem_cons.2 ⟨rfl, (List.forall_mem_cons.2 ⟨rfl, (List.forall_mem_cons.2 ⟨rfl, (List.forall_mem_cons.2 ⟨rfl, (fun _ h => by cases h)⟩)⟩)⟩)⟩)⟩) rfl hB7 rfl ?_)
  intro w9 hu9 hb9
  have hz9 := hu9.size
  replace hU := hU.trans (hu9.mono fun i _ h => by have h : i = b7 := h; show n0 ≤ i; omega)
  replace hB2 := hB2.upd hu9 fun h => by have h : b2 = b7 := h; omega
  replace r2a := r2a.upd hu9 fun i h1 h2 h => by have h : i = b7 := h; omega
  replace r2b := r2b.upd hu9 fun i h1 h2 h => by have h : i = b7 := h; omega
  replace hB7 : Blk w9 b7 #[(.int .u8 (3)), (.int .i64 (0)), (.int .i64 (0)), (.slice (some ⟨b4, 0, none⟩) 1 1), (.slice (some ⟨b6, 0, none⟩) 1 1)] 43 := hb9
  refine L_nil ?_
  refine T_n ?_
  refine W_seq ?_
  refine W_reg ?_
  refine L_op rfl (X_loadA (p := (ptr b2 (0))) (xs := cellsM m0) A40 rfl hB2.atAll rfl ?_)
  refine L_op rfl (X_loadA (p := (ptr b7 (0))) (xs := [(.int .u8 (3)), (.int .i64 (0)), (.int .i64 (0)), (.slice (some ⟨b4, 0, none⟩) 1 1), (.slice (some ⟨b6, 0, none⟩) 1 1)]) A43 rfl hB7.atAll rfl ?_)
  refine L_op rfl (X_build (c := ([(.int .i64 (0)), (.bool (false)), (.slice none 0 0), (.slice none 0 0), (.int .i64 (0))]).toArray) rfl ?_)
  have hq : Opr.R w9 0 w9.heap.size ⟨3, 0, 0, (.slice (some ⟨b4, 0, none⟩) 1 1), [97], (.slice (some ⟨b6, 0, none⟩) 1 1), [1]⟩ := ⟨(r2a.mono (Nat.zero_le _) (by omega)), (r2b.mono (Nat.zero_le _) (by omega)), Nat.le_of_ble_eq_true rfl, Nat.le_of_ble_eq_true rfl⟩
  have ha : Ans.R w9 0 w9.heap.size ⟨0, false, .slice none 0 0, [], .slice none 0 0, [], 0⟩ := ⟨BRd.nil _ _ _, (BRd.nil _ _ _)⟩
  have hcr_ := c_judgeA m0 m0_one ⟨rfl, rfl, rfl, rfl, rfl⟩ false rfl rfl rfl _ _ w9 0 w9.heap.size (Nat.le_refl _) hq ha rfl false rfl rfl rfl
  refine L_op rfl (X_fn (vs := [(.agg (cellsM m0).toArray), (.agg ([(.int .u8 (3)), (.int .i64 (0)), (.int .i64 (0)), (.slice (some ⟨b4, 0, none⟩) 1 1), (.slice (some ⟨b6, 0, none⟩) 1 1)]).toArray), (.agg ([(.int .i64 (0)), (.bool (false)), (.slice none 0 0), (.slice none 0 0), (.int .i64 (0))]).toArray)]) en10 rfl ?_)
  refine CT.mono hcr_ ?_
  clear hcr_
  rintro _ w10 ⟨c2, rfl, hone2, hu10⟩
  clear hq ha
  have hz10 := hu10.size
  replace hU := hU.trans (Ext.upd hu10)
  replace hB2 := hB2.ext hu10
  replace r2a := r2a.ext hu10
  replace r2b := r2b.ext hu10
  replace hB7 := hB7.ext hu10
  refine L_op rfl (X_move (v := (.tuple #[(.agg (cellsM c2).toArray), (.bool (false))])) rfl ?_)
  refine L_op rfl (X_extract (l := [(.agg (cellsM c2).toArray), (.bool (false))]) (v := (.agg (cellsM c2).toArray)) rfl rfl ?_)
  refine L_op rfl (X_extract (l := [(.agg (cellsM c2).toArray), (.bool (false))]) (v := (.bool (false))) rfl rfl ?_)
  refine L_op rfl (X_alloc (z := zv40) (c := zc40.toArray) Zv40 rfl ?_)
  intro b11 w11 hn11
  have hbn11 := hn11.num; have hbs11 := hn11.size
  replace hU := hU.trans (Ext.upd hn11.ext)
  replace hB2 := hB2.ext hn11.ext
  replace r2a := r2a.ext hn11.ext
  replace r2b := r2b.ext hn11.ext
  replace hB7 := hB7.ext hn11.ext
  have hB11 := hn11.blk
  refine L_op0 (X_storeW (b := b11) (ys := cellsM c2) A40 rfl rfl (hone2).all rfl hB11 (by rw [List.size_toArray]; exact rfl) ?_)
  intro w12 hu12 hb12
  have hz12 := hu12.size
  replace hU := hU.trans (hu12.mono fun i _ h => by have h : i = b11 := h; show n0 ≤ i; omega)
  replace hB2 := hB2.upd hu12 fun h => by have h : b2 = b11 := h; omega
  replace r2a := r2a.upd hu12 fun i h1 h2 h => by have h : i = b11 := h; omega
  replace r2b := r2b.upd hu12 fun i h1 h2 h => by have h : i = b11 := h; omega
  replace hB7 := hB7.upd hu12 fun h => by have h : b7 = b11 := h; omega
  replace hB11 : Blk w12 b11 (cellsM c2).toArray 40 := hb12
  refine L_op rfl (X_assign (v := (.bool (false))) rfl ?_)
  refine L_nil ?_
  refine T_n ?_
  refine W_seq ?_
  refine W_reg ?_
  refine L_op rfl (X_loadA (p := (ptr b2 (0))) (xs := cellsM m0) A40 rfl hB2.atAll rfl ?_)
  refine L_op rfl (X_loadA (p := (ptr b7 (0))) (xs := [(.int .u8 (3)), (.int .i64 (0)), (.int .i64 (0)), (.slice (some ⟨b4, 0, none⟩) 1 1), (.slice (some ⟨b6, 0, none⟩) 1 1)]) A43 rfl hB7.atAll rfl ?_)
  refine L_op rfl (X_build (c := ([(.int .i64 (2)), (.bool (false)), (.slice none 0 0), (.slice none 0 0), (.int .i64 (0))]).toArray) rfl ?_)
  have hq : Opr.R w12 0 w12.heap.size ⟨3, 0, 0, (.slice (some ⟨b4, 0, none⟩) 1 1), [97], (.slice (some ⟨b6, 0, none⟩) 1 1), [1]⟩ := ⟨(r2a.mono (Nat.zero_le _) (by omega)), (r2b.mono (Nat.zero_le _) (by omega)), Nat.le_of_ble_eq_true rfl, Nat.le_of_ble_eq_true rfl⟩
  have ha : Ans.R w12 0 w12.heap.size ⟨2, false, .slice none 0 0, [], .slice none 0 0, [], 0⟩ := ⟨BRd.nil _ _ _, (BRd.nil _ _ _)⟩
  have hcr_ := c_judgeA m0 m0_one ⟨rfl, rfl, rfl, rfl, rfl⟩ false rfl rfl rfl _ _ w12 0 w12.heap.size (Nat.le_refl _) hq ha rfl true rfl rfl rfl
  refine L_op rfl (X_fn (vs := [(.agg (cellsM m0).toArray), (.agg ([(.int .u8 (3)), (.int .i64 (0)), (.int .i64 (0)), (.slice (some ⟨b4, 0, none⟩) 1 1), (.slice (some ⟨b6, 0, none⟩) 1 1)]).toArray), (.agg ([(.int .i64 (2)), (.bool (false)), (.slice none 0 0), (.slice none 0 0), (.int .i64 (0))]).toArray)]) en10 rfl ?_)
  refine CT.mono hcr_ ?_
  clear hcr_
  rintro _ w13 ⟨c3, rfl, hone3, hu13⟩
  clear hq ha
  have hz13 := hu13.size
  replace hU := hU.trans (Ext.upd hu13)
  replace hB2 := hB2.ext hu13
  replace r2a := r2a.ext hu13
  replace r2b := r2b.ext hu13
  replace hB7 := hB7.ext hu13
  replace hB11 := hB11.ext hu13
  refine L_op rfl (X_move (v := (.tuple #[(.agg (cellsM c3).toArray), (.bool (true))])) rfl ?_)
  refine L_op rfl (X_extract (l := [(.agg (cellsM c3).toArray), (.bool (true))]) (v := (.agg (cellsM c3).toArray)) rfl rfl ?_)
  refine L_op rfl (X_extract (l := [(.agg (cellsM c3).toArray), (.bool (true))]) (v := (.bool (true))) rfl rfl ?_)
  refine L_op rfl (X_alloc (z := zv40) (c := zc40.toArray) Zv40 rfl ?_)
  intro b14 w14 hn14
  have hbn14 := hn14.num; have hbs14 := hn14.size
  replace hU := hU.trans (Ext.upd hn14.ext)
  replace hB2 := hB2.ext hn14.ext
  replace r2a := r2a.ext hn14.ext
  replace r2b := r2b.ext hn14.ext
  replace hB7 := hB7.ext hn14.ext
  replace hB11 := hB11.ext hn14.ext
  have hB14 := hn14.blk
  refine L_op0 (X_storeW (b := b14) (ys := cellsM c3) A40 rfl rfl (hone3).all rfl hB14 (by rw [List.size_toArray]; exact rfl) ?_)
  intro w15 hu15 hb15
  have hz15 := hu15.size
  replace hU := hU.trans (hu15.mono fun i _ h => by have h : i = b14 := h; show n0 ≤ i; omega)
  replace hB2 := hB2.upd hu15 fun h => by have h : b2 = b14 := h; omega
  replace r2a := r2a.upd hu15 fun i h1 h2 h => by have h : i = b14 := h; omega
  replace r2b := r2b.upd hu15 fun i h1 h2 h => by have h : i = b14 := h; omega
  replace hB7 := hB7.upd hu15 fun h => by have h : b7 = b14 := h; omega
  replace hB11 := hB11.upd hu15 fun h => by have h : b11 = b14 := h; omega
  replace hB14 : Blk w15 b14 (cellsM c3).toArray 40 := hb15
  refine L_op rfl (X_assign (v := (.bool (true))) rfl ?_)
  refine L_nil ?_
  refine T_n ?_
  refine W_seq ?_
  refine W_reg ?_
  refine L_op rfl (X_loadA (p := (ptr b2 (0))) (xs := cellsM m0) A40 rfl hB2.atAll rfl ?_)
  refine L_op rfl (X_build (c := ([(.int .u8 (2)), (.int .i64 (0)), (.int .i64 (0)), (.slice none 0 0), (.slice none 0 0)]).toArray) rfl ?_)
  refine L_op rfl (X_build (c := ([(.int .i64 (0)), (.bool (false)), (.slice none 0 0), (.slice none 0 0), (.int .i64 (0))]).toArray) rfl ?_)
  have hq : Opr.R w15 0 w15.heap.size ⟨2, 0, 0, .slice none 0 0, [], .slice none 0 0, []⟩ := ⟨(BRd.nil _ _ _), (BRd.nil _ _ _), Nat.le_of_ble_eq_true rfl, Nat.le_of_ble_eq_true rfl⟩
  have ha : Ans.R w15 0 w15.heap.size ⟨0, false, .slice none 0 0, [], .slice none 0 0, [], 0⟩ := ⟨BRd.nil _ _ _, (BRd.nil _ _ _)⟩
  have hcr_ := c_judgeC m0 m0_one ⟨rfl, rfl, rfl, rfl, rfl⟩ false rfl _ _ w15 0 w15.heap.size (Nat.le_refl _) hq ha rfl true rfl rfl rfl
  refine L_op rfl (X_fn (vs := [(.agg (cellsM m0).toArray), (.agg ([(.int .u8 (2)), (.int .i64 (0)), (.int .i64 (0)), (.slice none 0 0), (.slice none 0 0)]).toArray), (.agg ([(.int .i64 (0)), (.bool (false)), (.slice none 0 0), (.slice none 0 0), (.int .i64 (0))]).toArray)]) en10 rfl ?_)
  refine CT.mono hcr_ ?_
  clear hcr_
  rintro _ w16 ⟨rfl, hone, hu16⟩
  clear hq ha
  have hz16 := hu16.size
  replace hU := hU.trans (Ext.upd hu16)
  replace hB2 := hB2.ext hu16
  replace r2a := r2a.ext hu16
  replace r2b := r2b.ext hu16
  replace hB7 := hB7.ext hu16
  replace hB11 := hB11.ext hu16
  replace hB14 := hB14.ext hu16
  refine L_op rfl (X_move (v := (.tuple #[(.agg (cellsM (begM m0)).toArray), (.bool (true))])) rfl ?_)
  refine L_op rfl (X_extract (l := [(.agg (cellsM (begM m0)).toArray), (.bool (true))]) (v := (.agg (cellsM (begM m0)).toArray)) rfl rfl ?_)
  refine L_op rfl (X_extract (l := [(.agg (cellsM (begM m0)).toArray), (.bool (true))]) (v := (.bool (true))) rfl rfl ?_)
  refine L_op rfl (X_alloc (z := zv40) (c := zc40.toArray) Zv40 rfl ?_)
  intro b17 w17 hn17
  have hbn17 := hn17.num; have hbs17 := hn17.size
  replace hU := hU.trans (Ext.upd hn17.ext)
  replace hB2 := hB2.ext hn17.ext
  replace r2a := r2a.ext hn17.ext
  replace r2b := r2b.ext hn17.ext
  replace hB7 := hB7.ext hn17.ext
  replace hB11 := hB11.ext hn17.ext
  replace hB14 := hB14.ext hn17.ext
  have hB17 := hn17.blk
  refine L_op0 (X_storeW (b := b17) (ys := cellsM (begM m0)) A40 rfl rfl (hone).all rfl hB17 (by rw [List.size_toArray]; exact rfl) ?_)
  intro w18 hu18 hb18
  have hz18 := hu18.size
  replace hU := hU.trans (hu18.mono fun i _ h => by have h : i = b17 := h; show n0 ≤ i; omega)
  replace hB2 := hB2.upd hu18 fun h => by have h : b2 = b17 := h; omega
  replace r2a := r2a.upd hu18 fun i h1 h2 h => by have h : i = b17 := h; omega
  replace r2b := r2b.upd hu18 fun i h1 h2 h => by have h : i = b17 := h; omega
  replace hB7 := hB7.upd hu18 fun h => by have h : b7 = b17 := h; omega
  replace hB11 := hB11.upd hu18 fun h => by have h : b11 = b17 := h; omega
  replace hB14 := hB14.upd hu18 fun h => by have h : b14 = b17 := h; omega
  replace hB17 : Blk w18 b17 (cellsM (begM m0)).toArray 40 := hb18
  refine L_op rfl (X_assign (v := (.bool (true))) rfl ?_)
  refine L_nil ?_
  refine T_n ?_
  refine W_seq ?_
  refine W_reg ?_
  refine L_op rfl (X_loadA (p := (ptr b17 (0))) (xs := cellsM (begM m0)) A40 rfl hB17.atAll rfl ?_)
  refine L_op rfl (X_loadA (p := (ptr b7 (0))) (xs := [(.int .u8 (3)), (.int .i64 (0)), (.int .i64 (0)), (.slice (some ⟨b4, 0, none⟩) 1 1), (.slice (some ⟨b6, 0, none⟩) 1 1)]) A43 rfl hB7.atAll rfl ?_)
  refine L_op rfl (X_build (c := ([(.int .i64 (0)), (.bool (false)), (.slice none 0 0), (.slice none 0 0), (.int .i64 (0))]).toArray) rfl ?_)
  have hq : Opr.R w18 0 w18.heap.size ⟨3, 0, 0, (.slice (some ⟨b4, 0, none⟩) 1 1), [97], (.slice (some ⟨b6, 0, none⟩) 1 1), [1]⟩ := ⟨(r2a.mono (Nat.zero_le _) (by omega)), (r2b.mono (Nat.zero_le _) (by omega)), Nat.le_of_ble_eq_true rfl, Nat.le_of_ble_eq_true rfl⟩
  have ha : Ans.R w18 0 w18.heap.size ⟨0, false, .slice none 0 0, [], .slice none 0 0, [], 0⟩ := ⟨BRd.nil _ _ _, (BRd.nil _ _ _)⟩
  have hcr_ := c_judgeB (begM m0) hone ⟨rfl, rfl, rfl, rfl, rfl⟩ true rfl rfl rfl _ _ w18 0 w18.heap.size (Nat.le_refl _) hq ha rfl true rfl rfl ⟨1, .slice none 0 0, [], .slice none 0 0, [], 0, 3⟩ dr0 (r0 _ _ _) (by decide) rfl rfl
  refine L_op rfl (X_fn (vs := [(.agg (cellsM (begM m0)).toArray), (.agg ([(.int .u8 (3)), (.int .i64 (0)), (.int .i64 (0)), (.slice (some ⟨b4, 0, none⟩) 1 1), (.slice (some ⟨b6, 0, none⟩) 1 1)]).toArray), (.agg ([(.int .i64 (0)), (.bool (false)), (.slice none 0 0), (.slice none 0 0), (.int .i64 (0))]).toArray)]) en10 rfl ?_)
  refine CT.mono hcr_ ?_
  clear hcr_
  rintro _ w19 ⟨c4, o, rfl, hone4, hcl4, hwr4, hD4, hoR, hok, hov, hu19⟩
  clear hq ha
  have hz19 := hu19.size
  obtain ⟨n9, hn9⟩ : ∃ n, n = w18.heap.size := ⟨_, rfl⟩
  obtain ⟨m9, hm9⟩ : ∃ n, n = w19.heap.size := ⟨_, rfl⟩
  rw [← hn9, ← hm9] at hoR
  replace hU := hU.trans (Ext.upd hu19)
  replace hB2 := hB2.ext hu19
  replace r2a := r2a.ext hu19
  replace r2b := r2b.ext hu19
  replace hB7 := hB7.ext hu19
  replace hB11 := hB11.ext hu19
  replace hB14 := hB14.ext hu19
  replace hB17 := hB17.ext hu19
  refine L_op rfl (X_move (v := (.tuple #[(.agg (cellsM c4).toArray), (.bool (true))])) rfl ?_)
  refine L_op rfl (X_extract (l := [(.agg (cellsM c4).toArray), (.bool (true))]) (v := (.agg (cellsM c4).toArray)) rfl rfl ?_)
  refine L_op rfl (X_extract (l := [(.agg (cellsM c4).toArray), (.bool (true))]) (v := (.bool (true))) rfl rfl ?_)
  refine L_op0 (X_storeW (b := b17) (ys := cellsM c4) A40 rfl rfl (hone4).all rfl hB17 (by rw [List.size_toArray]; exact rfl) ?_)
  intro w20 hu20 hb20
  have hz20 := hu20.size
  replace hU := hU.trans (hu20.mono fun i _ h => by have h : i = b17 := h; show n0 ≤ i; omega)
  replace hB2 := hB2.upd hu20 fun h => by have h : b2 = b17 := h; omega
  replace r2a := r2a.upd hu20 fun i h1 h2 h => by have h : i = b17 := h; omega
  replace r2b := r2b.upd hu20 fun i h1 h2 h => by have h : i = b17 := h; omega
  replace hB7 := hB7.upd hu20 fun h => by have h : b7 = b17 := h; omega
  replace hB11 := hB11.upd hu20 fun h => by have h : b11 = b17 := h; omega
  replace hB14 := hB14.upd hu20 fun h => by have h : b14 = b17 := h; omega
  replace hoR := hoR.upd hu20 fun i h1 h2 h => by have h : i = b17 := h; omega
  replace hB17 : Blk w20 b17 (cellsM c4).toArray 40 := hb20
  refine L_op rfl (X_assign (v := (.bool (true))) rfl ?_)
  refine L_nil ?_
  refine T_n ?_
  refine W_seq ?_
  refine W_reg ?_
  refine L_op rfl (X_loadA (p := (ptr b17 (0))) (xs := cellsM c4) A40 rfl hB17.atAll rfl ?_)
  refine L_op rfl (X_buildSlice1 (vs := [(.int .u8 (97))]) S23 (by decide) rfl rfl (List.forall_mem_cons.2 ⟨rfl, (fun _ h => by cases h)⟩) ?_)
  intro b21 w21 hn21
  have hbn21 := hn21.num; have hbs21 := hn21.size
  replace hU := hU.trans (Ext.upd hn21.ext)
  replace hB2 := hB2.ext hn21.ext
  replace r2a := r2a.ext hn21.ext
  replace r2b := r2b.ext hn21.ext
  replace hB7 := hB7.ext hn21.ext
  replace hB11 := hB11.ext hn21.ext
  replace hB14 := hB14.ext hn21.ext
  replace hoR := hoR.ext hn21.ext
  replace hB17 := hB17.ext hn21.ext
  have hB21 := hn21.blk
  have r7a : BRd w21 b21 (b21 + 1) ((.slice (some ⟨b21, 0, none⟩) 1 1), [97]) := brd_blk (l := [97]) hB21 (by decide)
  clear r7a
  refine L_op rfl (X_convSame Tryd.underlying23 Tryd.underlying5 rfl hB21 ?_)
  intro w22 hu22 hc22
  have hz22 := hu22.size
  replace hU := hU.trans (hu22.mono fun i _ h => by have h : i = b21 := h; show n0 ≤ i; omega)
  replace hB2 := hB2.upd hu22 fun h => by have h : b2 = b21 := h; omega
  replace r2a := r2a.upd hu22 fun i h1 h2 h => by have h : i = b21 := h; omega
  replace r2b := r2b.upd hu22 fun i h1 h2 h => by have h : i = b21 := h; omega
  replace hB7 := hB7.upd hu22 fun h => by have h : b7 = b21 := h; omega
  replace hB11 := hB11.upd hu22 fun h => by have h : b11 = b21 := h; omega
  replace hB14 := hB14.upd hu22 fun h => by have h : b14 = b21 := h; omega
  replace hoR := hoR.upd hu22 fun i h1 h2 h => by have h : i = b21 := h; omega
  replace hB17 := hB17.upd hu22 fun h => by have h : b17 = b21 := h; omega
  have r7a : BRd w22 b21 (b21 + 1) ((.slice (some ⟨b21, 0, none⟩) 1 1), [97]) := brd_of (l := [97]) hc22 (by decide)
  refine L_op rfl (X_build (c := ([(.int .u8 (0)), (.int .i64 (0)), (.int .i64 (0)), (.slice (some ⟨b21, 0, none⟩) 1 1), (.slice none 0 0)]).toArray) rfl ?_)
  refine L_op rfl (X_buildSlice1 (vs := [(.int .u8 (1))]) S23 (by decide) rfl rfl (List.forall_mem_cons.2 ⟨rfl, (fun _ h => by cases h)⟩) ?_)
  intro b23 w23 hn23
  have hbn23 := hn23.num; have hbs23 := hn23.size
  replace hU := hU.trans (Ext.upd hn23.ext)
  replace hB2 := hB2.ext hn23.ext
  replace r2a := r2a.ext hn23.ext
  replace r2b := r2b.ext hn23.ext
  replace hB7 := hB7.ext hn23.ext
  replace hB11 := hB11.ext hn23.ext
  replace hB14 := hB14.ext hn23.ext
  replace hoR := hoR.ext hn23.ext
  replace hB17 := hB17.ext hn23.ext
  replace r7a := r7a.ext hn23.ext
  have hB23 := hn23.blk
  have r7b : BRd w23 b23 (b23 + 1) ((.slice (some ⟨b23, 0, none⟩) 1 1), [1]) := brd_blk (l := [1]) hB23 (by decide)
  refine L_op rfl (X_build (c := ([(.int .i64 (0)), (.bool (true)), (.slice none 0 0), (.slice (some ⟨b23, 0, none⟩) 1 1), (.int .i64 (0))]).toArray) rfl ?_)
  have hq : Opr.R w23 0 w23.heap.size ⟨0, 0, 0, (.slice (some ⟨b21, 0, none⟩) 1 1), [97], .slice none 0 0, []⟩ := ⟨(r7a.mono (Nat.zero_le _) (by omega)), (BRd.nil _ _ _), Nat.le_of_ble_eq_true rfl, Nat.le_of_ble_eq_true rfl⟩
  have ha : Ans.R w23 0 w23.heap.size ⟨0, true, .slice none 0 0, [], (.slice (some ⟨b23, 0, none⟩) 1 1), [1], 0⟩ := ⟨BRd.nil _ _ _, (r7b.mono (Nat.zero_le _) (by omega))⟩
  have hcr_ := c_judgeD c4 hone4 hcl4 true hwr4 _ _ w23 0 w23.heap.size (Nat.le_refl _) hq ha rfl true rfl rfl o hD4 (hoR.mono (Nat.zero_le _) (by omega)) rfl (by rw [hok, hov]; rfl)
  refine L_op rfl (X_fn (vs := [(.agg (cellsM c4).toArray), (.agg ([(.int .u8 (0)), (.int .i64 (0)), (.int .i64 (0)), (.slice (some ⟨b21, 0, none⟩) 1 1), (.slice none 0 0)]).toArray), (.agg ([(.int .i64 (0)), (.bool (true)), (.slice none 0 0), (.slice (some ⟨b23, 0, none⟩) 1 1), (.int .i64 (0))]).toArray)]) en10 rfl ?_)
  refine CT.mono hcr_ ?_
  clear hcr_
  rintro _ w24 ⟨rfl, hu24⟩
  clear hq ha
  have hz24 := hu24.size
  replace hU := hU.trans (Ext.upd hu24)
  replace hB2 := hB2.ext hu24
  replace r2a := r2a.ext hu24
  replace r2b := r2b.ext hu24
  replace hB7 := hB7.ext hu24
  replace hB11 := hB11.ext hu24
  replace hB14 := hB14.ext hu24
  replace hoR := hoR.ext hu24
  replace hB17 := hB17.ext hu24
  replace r7a := r7a.ext hu24
  replace r7b := r7b.ext hu24
  refine L_op rfl (X_move (v := (.tuple #[(.agg (cellsM c4).toArray), (.bool (true))])) rfl ?_)
  refine L_op rfl (X_extract (l := [(.agg (cellsM c4).toArray), (.bool (true))]) (v := (.agg (cellsM c4).toArray)) rfl rfl ?_)
  refine L_op rfl (X_extract (l := [(.agg (cellsM c4).toArray), (.bool (true))]) (v := (.bool (true))) rfl rfl ?_)
  refine L_op rfl (X_alloc (z := zv40) (c := zc40.toArray) Zv40 rfl ?_)
  intro b25 w25 hn25
  have hbn25 := hn25.num; have hbs25 := hn25.size
  replace hU := hU.trans (Ext.upd hn25.ext)
  replace hB2 := hB2.ext hn25.ext
  replace r2a := r2a.ext hn25.ext
  replace r2b := r2b.ext hn25.ext
  replace hB7 := hB7.ext hn25.ext
  replace hB11 := hB11.ext hn25.ext
  replace hB14 := hB14.ext hn25.ext
  replace hoR := hoR.ext hn25.ext
  replace hB17 := hB17.ext hn25.ext
  replace r7a := r7a.ext hn25.ext
  replace r7b := r7b.ext hn25.ext
  have hB25 := hn25.blk
  refine L_op0 (X_storeW (b := b25) (ys := cellsM c4) A40 rfl rfl (hone4).all rfl hB25 (by rw [List.size_toArray]; exact rfl) ?_)
  intro w26 hu26 hb26
  have hz26 := hu26.size
  replace hU := hU.trans (hu26.mono fun i _ h => by have h : i = b25 := h; show n0 ≤ i; omega)
  replace hB2 := hB2.upd hu26 fun h => by have h : b2 = b25 := h; omega
  replace r2a := r2a.upd hu26 fun i h1 h2 h => by have h : i = b25 := h; omega
  replace r2b := r2b.upd hu26 fun i h1 h2 h => by have h : i = b25 := h; omega
  replace hB7 := hB7.upd hu26 fun h => by have h : b7 = b25 := h; omega
  replace hB11 := hB11.upd hu26 fun h => by have h : b11 = b25 := h; omega
  replace hB14 := hB14.upd hu26 fun h => by have h : b14 = b25 := h; omega
  replace hoR := hoR.upd hu26 fun i h1 h2 h => by have h : i = b25 := h; omega
  replace hB17 := hB17.upd hu26 fun h => by have h : b17 = b25 := h; omega
  replace r7a := r7a.upd hu26 fun i h1 h2 h => by have h : i = b25 := h; omega
  replace r7b := r7b.upd hu26 fun i h1 h2 h => by have h : i = b25 := h; omega
  replace hB25 : Blk w26 b25 (cellsM c4).toArray 40 := hb26
  refine L_op rfl (X_assign (v := (.bool (true))) rfl ?_)
  refine L_nil ?_
  refine T_n ?_
  refine W_seq ?_
  refine W_reg ?_
  refine L_op rfl (X_loadA (p := (ptr b17 (0))) (xs := cellsM c4) A40 rfl hB17.atAll rfl ?_)
  refine L_op rfl (X_buildSlice1 (vs := [(.int .u8 (97))]) S23 (by decide) rfl rfl (List.forall_mem_cons.2 ⟨rfl, (fun _ h => by cases h)⟩) ?_)
  intro b27 w27 hn27
  have hbn27 := hn27.num; have hbs27 := hn27.size
  replace hU := hU.trans (Ext.upd hn27.ext)
  replace hB2 := hB2.ext hn27.ext
  replace r2a := r2a.ext hn27.ext
  replace r2b := r2b.ext hn27.ext
  replace hB7 := hB7.ext hn27.ext
  replace hB11 := hB11.ext hn27.ext
  replace hB14 := hB14.ext hn27.ext
  replace hoR := hoR.ext hn27.ext
  replace hB17 := hB17.ext hn27.ext
  replace r7a := r7a.ext hn27.ext
  replace r7b := r7b.ext hn27.ext
  replace hB25 := hB25.ext hn27.ext
  have hB27 := hn27.blk
  have r8a : BRd w27 b27 (b27 + 1) ((.slice (some ⟨b27, 0, none⟩) 1 1), [97]) := brd_blk (l := [97]) hB27 (by decide)
  clear r8a
  refine L_op rfl (X_convSame Tryd.underlying23 Tryd.underlying5 rfl hB27 ?_)
  intro w28 hu28 hc28
  have hz28 := hu28.size
  replace hU := hU.trans (hu28.mono fun i _ h => by have h : i = b27 := h; show n0 ≤ i; omega)
  replace hB2 := hB2.upd hu28 fun h => by have h : b2 = b27 := h; omega
  replace r2a := r2a.upd hu28 fun i h1 h2 h => by have h : i = b27 := h; omega
  replace r2b := r2b.upd hu28 fun i h1 h2 h => by have h : i = b27 := h; omega
  replace hB7 := hB7.upd hu28 fun h => by have h : b7 = b27 := h; omega
  replace hB11 := hB11.upd hu28 fun h => by have h : b11 = b27 := h; omega
  replace hB14 := hB14.upd hu28 fun h => by have h : b14 = b27 := h; omega
  replace hoR := hoR.upd hu28 fun i h1 h2 h => by have h : i = b27 := h; omega
  replace hB17 := hB17.upd hu28 fun h => by have h : b17 = b27 := h; omega
  replace r7a := r7a.upd hu28 fun i h1 h2 h => by have h : i = b27 := h; omega
  replace r7b := r7b.upd hu28 fun i h1 h2 h => by have h : i = b27 := h; omega
  replace hB25 := hB25.upd hu28 fun h => by have h : b25 = b27 := h; omega
  have r8a : BRd w28 b27 (b27 + 1) ((.slice (some ⟨b27, 0, none⟩) 1 1), [97]) := brd_of (l := [97]) hc28 (by decide)
  refine L_op rfl (X_build (c := ([(.int .u8 (0)), (.int .i64 (0)), (.int .i64 (0)), (.slice (some ⟨b27, 0, none⟩) 1 1), (.slice none 0 0)]).toArray) rfl ?_)
  refine L_op rfl (X_buildSlice1 (vs := [(.int .u8 (2))]) S23 (by decide) rfl rfl (List.forall_mem_cons.2 ⟨rfl, (fun _ h => by cases h)⟩) ?_)
  intro b29 w29 hn29
  have hbn29 := hn29.num; have hbs29 := hn29.size
  replace hU := hU.trans (Ext.upd hn29.ext)
  replace hB2 := hB2.ext hn29.ext
  replace r2a := r2a.ext hn29.ext
  replace r2b := r2b.ext hn29.ext
  replace hB7 := hB7.ext hn29.ext
  replace hB11 := hB11.ext hn29.ext
  replace hB14 := hB14.ext hn29.ext
  replace hoR := hoR.ext hn29.ext
  replace hB17 := hB17.ext hn29.ext
  replace r7a := r7a.ext hn29.ext
  replace r7b := r7b.ext hn29.ext
  replace hB25 := hB25.ext hn29.ext
  replace r8a := r8a.ext hn29.ext
  have hB29 := hn29.blk
  have r8b : BRd w29 b29 (b29 + 1) ((.slice (some ⟨b29, 0, none⟩) 1 1), [2]) := brd_blk (l := [2]) hB29 (by decide)
  refine L_op rfl (X_build (c := ([(.int .i64 (0)), (.bool (true)), (.slice none 0 0), (.slice (some ⟨b29, 0, none⟩) 1 1), (.int .i64 (0))]).toArray) rfl ?_)
  have hq : Opr.R w29 0 w29.heap.size ⟨0, 0, 0, (.slice (some ⟨b27, 0, none⟩) 1 1), [97], .slice none 0 0, []⟩ := ⟨(r8a.mono (Nat.zero_le _) (by omega)), (BRd.nil _ _ _), Nat.le_of_ble_eq_true rfl, Nat.le_of_ble_eq_true rfl⟩
  have ha : Ans.R w29 0 w29.heap.size ⟨0, true, .slice none 0 0, [], (.slice (some ⟨b29, 0, none⟩) 1 1), [2], 0⟩ := ⟨BRd.nil _ _ _, (r8b.mono (Nat.zero_le _) (by omega))⟩
  have hcr_ := c_judgeD c4 hone4 hcl4 true hwr4 _ _ w29 0 w29.heap.size (Nat.le_refl _) hq ha rfl false rfl rfl o hD4 (hoR.mono (Nat.zero_le _) (by omega)) rfl (by rw [hok, hov]; rfl)
  refine L_op rfl (X_fn (vs := [(.agg (cellsM c4).toArray), (.agg ([(.int .u8 (0)), (.int .i64 (0)), (.int .i64 (0)), (.slice (some ⟨b27, 0, none⟩) 1 1), (.slice none 0 0)]).toArray), (.agg ([(.int .i64 (0)), (.bool (true)), (.slice none 0 0), (.slice (some ⟨b29, 0, none⟩) 1 1), (.int .i64 (0))]).toArray)]) en10 rfl ?_)
  refine CT.mono hcr_ ?_
  clear hcr_
  rintro _ w30 ⟨rfl, hu30⟩
  clear hq ha
  have hz30 := hu30.size
  replace hU := hU.trans (Ext.upd hu30)
  replace hB2 := hB2.ext hu30
  replace r2a := r2a.ext hu30
  replace r2b := r2b.ext hu30
  replace hB7 := hB7.ext hu30
  replace hB11 := hB11.ext hu30
  replace hB14 := hB14.ext hu30
  replace hoR := hoR.ext hu30
  replace hB17 := hB17.ext hu30
  replace r7a := r7a.ext hu30
  replace r7b := r7b.ext hu30
  replace hB25 := hB25.ext hu30
  replace r8a := r8a.ext hu30
  replace r8b := r8b.ext hu30
  refine L_op rfl (X_move (v := (.tuple #[(.agg (cellsM c4).toArray), (.bool (false))])) rfl ?_)
  refine L_op rfl (X_extract (l := [(.agg (cellsM c4).toArray), (.bool (false))]) (v := (.agg (cellsM c4).toArray)) rfl rfl ?_)
  refine L_op rfl (X_extract (l := [(.agg (cellsM c4).toArray), (.bool (false))]) (v := (.bool (false))) rfl rfl ?_)
  refine L_op rfl (X_alloc (z := zv40) (c := zc40.toArray) Zv40 rfl ?_)
  intro b31 w31 hn31
  have hbn31 := hn31.num; have hbs31 := hn31.size
  replace hU := hU.trans (Ext.upd hn31.ext)
  replace hB2 := hB2.ext hn31.ext
  replace r2a := r2a.ext hn31.ext
  replace r2b := r2b.ext hn31.ext
  replace hB7 := hB7.ext hn31.ext
  replace hB11 := hB11.ext hn31.ext
  replace hB14 := hB14.ext hn31.ext
  replace hoR := hoR.ext hn31.ext
  replace hB17 := hB17.ext hn31.ext
  replace r7a := r7a.ext hn31.ext
  replace r7b := r7b.ext hn31.ext
  replace hB25 := hB25.ext hn31.ext
  replace r8a := r8a.ext hn31.ext
  replace r8b := r8b.ext hn31.ext
  have hB31 := hn31.blk
  refine L_op0 (X_storeW (b := b31) (ys := cellsM c4) A40 rfl rfl (hone4).all rfl hB31 (by rw [List.size_toArray]; exact rfl) ?_)
  intro w32 hu32 hb32
  have hz32 := hu32.size
  replace hU := hU.trans (hu32.mono fun i _ h => by have h : i = b31 := h; show n0 ≤ i; omega)
  replace hB2 := hB2.upd hu32 fun h => by have h : b2 = b31 := h; omega
  replace r2a := r2a.upd hu32 fun i h1 h2 h => by have h : i = b31 := h; omega
  replace r2b := r2b.upd hu32 fun i h1 h2 h => by have h : i = b31 := h; omega
  replace hB7 := hB7.upd hu32 fun h => by have h : b7 = b31 := h; omega
  replace hB11 := hB11.upd hu32 fun h => by have h : b11 = b31 := h; omega
  replace hB14 := hB14.upd hu32 fun h => by have h : b14 = b31 := h; omega
  replace hoR := hoR.upd hu32 fun i h1 h2 h => by have h : i = b31 := h; omega
  replace hB17 := hB17.upd hu32 fun h => by have h : b17 = b31 := h; omega
  replace r7a := r7a.upd hu32 fun i h1 h2 h => by have h : i = b31 := h; omega
  replace r7b := r7b.upd hu32 fun i h1 h2 h => by have h : i = b31 := h; omega
  replace hB25 := hB25.upd hu32 fun h => by have h : b25 = b31 := h; omega
  replace r8a := r8a.upd hu32 fun i h1 h2 h => by have h : i = b31 := h; omega
  replace r8b := r8b.upd hu32 fun i h1 h2 h => by have h : i = b31 := h; omega
  replace hB31 : Blk w32 b31 (cellsM c4).toArray 40 := hb32
  refine L_op rfl (X_assign (v := (.bool (false))) rfl ?_)
  refine L_nil ?_
  refine T_n ?_
  refine W_seq ?_
  refine W_reg ?_
  refine L_op rfl (X_fldP (b := b2) (o := 0) (r := 1) Fd40_1 rfl rfl ?_)
  refine L_op rfl (X_fldP (b := b2) (o := 1) (r := 1) Fd27_0 rfl rfl ?_)
  refine L_op rfl (X_load (p := (ptr b2 (1))) (v := (.int .u32 (1))) T25 rfl (hB2.at1 (congrArg some rfl)) ?_)
  refine L_op rfl (X_cmp (k := .u32) (a := 1) (b := 1) (r := true) rfl rfl rfl rfl ?_)
  refine L_op rfl (X_move (v := (.bool (true))) rfl ?_)
  refine L_gy (dj := 71) rfl rfl rfl (X_move (v := (.bool (false))) rfl ?_)
  refine L_gy (dj := 71) rfl rfl rfl (X_not (b := false) (r := true) rfl rfl ?_)
  refine L_op rfl (X_pick (t := true) (v := (.bool (true))) rfl rfl ?_)
  refine L_op rfl (X_move (v := (.bool (true))) rfl ?_)
  refine L_gy (dj := 75) rfl rfl rfl (X_move (v := (.bool (true))) rfl ?_)
  refine L_op rfl (X_pick (t := true) (v := (.bool (true))) rfl rfl ?_)
  refine L_op rfl (X_move (v := (.bool (true))) rfl ?_)
  refine L_gy (dj := 78) rfl rfl rfl (X_move (v := (.bool (true))) rfl ?_)
  refine L_op rfl (X_pick (t := true) (v := (.bool (true))) rfl rfl ?_)
  refine L_op rfl (X_move (v := (.bool (true))) rfl ?_)
  refine L_gy (dj := 81) rfl rfl rfl (X_move (v := (.bool (true))) rfl ?_)
  refine L_op rfl (X_pick (t := true) (v := (.bool (true))) rfl rfl ?_)
  refine L_op rfl (X_move (v := (.bool (true))) rfl ?_)
  refine L_gy (dj := 84) rfl rfl rfl (X_move (v := (.bool (true))) rfl ?_)
  refine L_op rfl (X_pick (t := true) (v := (.bool (true))) rfl rfl ?_)
  refine L_op rfl (X_move (v := (.bool (true))) rfl ?_)
  refine L_gy (dj := 87) rfl rfl rfl (X_move (v := (.bool (false))) rfl ?_)
  refine L_gy (dj := 87) rfl rfl rfl (X_not (b := false) (r := true) rfl rfl ?_)
  refine L_op rfl (X_pick (t := true) (v := (.bool (true))) rfl rfl ?_)
  refine L_op rfl (X_move (v := (.bool (true))) rfl ?_)
  refine L_gy (dj := 91) rfl rfl rfl (X_loadA (p := (ptr b2 (0))) (xs := cellsM m0) A40 rfl hB2.atAll rfl ?_)
  have hcr_ := c_strictM m0 m0_one rfl rfl false false rfl rfl w32 0 0 (Nat.zero_le _)
  refine L_gy (dj := 91) rfl rfl rfl (X_fn (vs := [(.agg (cellsM m0).toArray)]) en11 rfl ?_)
  refine CT.mono hcr_ ?_
  clear hcr_
  rintro _ w33 ⟨rfl, hu33⟩
  have hz33 := hu33.size
  replace hU := hU.trans (Ext.upd hu33)
  replace hB2 := hB2.ext hu33
  replace r2a := r2a.ext hu33
  replace r2b := r2b.ext hu33
  replace hB7 := hB7.ext hu33
  replace hB11 := hB11.ext hu33
  replace hB14 := hB14.ext hu33
  replace hoR := hoR.ext hu33
  replace hB17 := hB17.ext hu33
  replace r7a := r7a.ext hu33
  replace r7b := r7b.ext hu33
  replace hB25 := hB25.ext hu33
  replace r8a := r8a.ext hu33
  replace r8b := r8b.ext hu33
  replace hB31 := hB31.ext hu33
  refine L_op rfl (X_pick (t := true) (v := (.bool (true))) rfl rfl ?_)
  refine L_op rfl (X_assign (v := (.bool (true))) rfl ?_)
  refine L_nil ?_
  refine T_n ?_
  refine W_ret ?_
  exact BQ_r (End_1 Tryd.results4 (v := .bool true) rfl ⟨rfl, hU.own hn0⟩)
end Go.Proofs.YthncpmablodbjaaDoor
