/-
  The contracts of chains: wakes. (Printed by wip/gen/t08j.py of this repo.)
-/
import Derived.Test.YtmggaahkfidfaaaDoorChainLaw
import Derived.Test.YtmggaahkfidfaaaDoorBaseS
namespace Go.Proofs.YtmggaahkfidfaaaDoor
open Go Go.SL Go.Proofs
set_option linter.unusedVariables false

section conv
variable {ρ : Option Nat} {P : Program} {ty : TypeId} {f : Fr} {w : World} {K : Value → World → Prop}
theorem X_convMark {t e b n : Nat} {cs : Array Value} {te : TypeId} {l : List UInt8} {x : Operand} (hs : P.underlying t = some (.slice e)) (he : P.underlying e = some (.int .u8)) (hx : ev f x = .slice (some ⟨b, 0, none⟩) n n) (hB : Blk w b cs te)
    (hcs : ∀ (j : Nat) (u : Value), (l.map byteV)[j]? = some u → cs[j]? = some u) (hn : l.length = n) (hm : n ≤ 9223372036854775807)
    (h : ∀ w', Upd (fun i => i = b) w w' → Rd w' 1 (.slice (some ⟨b, 0, none⟩) n n) l.length (l.map byteV) → K (.slice (some ⟨b, 0, none⟩) n n) w') : Exec ρ P (.convert t t x) ty f w K := by
  subst hn
  have hsh : w.shape? b = some (te, cs.size) := by
    unfold Blk at hB
    simp [World.shape?, hB]
  have hfz : (w.freeze ⟨b, cs.size, none⟩ 1).heap[b]? = some (.cells cs te (cs.size, cs.size + 1)) := by
    unfold Blk at hB
    simp [World.freeze, Array.getElem?_modify, hB]
  refine X_sv (convert t t (ev f x)) (fun _ => by simp) (fun o ho _ => by unfold execOp; rw [ho]) (w' := w.freeze ⟨b, cs.size, none⟩ 1) ?_ (h _ ?_ ?_)
  · rw [hx]
    simp [convert, run_underlying hs, run_underlying he, markStringish, hsh]
  · refine ⟨rfl, rfl, rfl, by simp [World.freeze], fun i hi hd => ?_⟩
    simp only [World.freeze]
    simp [Array.getElem?_modify]
    intro h2
    exact absurd h2.symm hd
  · refine ⟨by simp, _, _, rfl, Nat.le_refl _, by unfold maxLen; omega, fun _ => ⟨b, 0, rfl, fun j u hj => ?_⟩⟩
    rw [Nat.zero_add]
    unfold World.cell?
    simp only [hfz]
    simpa using hcs j u hj
end conv

theorem c_wakes (w : World) (hT : TabR w) : CT Tryd.prog 7 #[] w fun v w' => v = .bool true ∧ Ext w w' := by
  obtain ⟨n0, hn0⟩ : ∃ n, n = w.heap.size := ⟨_, rfl⟩
  have hU : Upd (fun i => n0 ≤ i) w w := Upd.refl _ _
  have hn1 := tab_pos hT
  refine CT_of Tryd.func7 rfl rfl rfl ?_
  refine W_seq ?_
  refine W_reg ?_
  refine L_op rfl (X_assign (v := (.bool (false))) rfl ?_)
  refine L_nil ?_
  refine T_n ?_
  refine W_seq ?_
  refine W_reg ?_
  refine L_op rfl (X_buildSlice1 (vs := [(.int .u8 (97)), (.int .u8 (98))]) S22 (by decide) rfl rfl (List.forall_mem_cons.2 ⟨rfl, (List.forall_mem_cons.2 ⟨rfl, (fun _ h => by cases h)⟩)⟩) ?_)
  intro b1 w1 hn1
  have hbn1 := hn1.num; have hbs1 := hn1.size
  replace hU := hU.trans (Ext.upd hn1.ext)
  replace hT := hT.ext hn1.ext
  have hB1 := hn1.blk
  refine L_op rfl (X_convMark (l := [(97 : UInt8), (98 : UInt8)]) Tryd.underlying22 Tryd.underlying5 rfl hB1 (fun j u hj => by simpa [byteV] using hj) rfl (by decide) ?_)
  intro w2 hu2 hc2
  have hz2 := hu2.size
  replace hU := hU.trans (hu2.mono fun i _ h => by have h : i = b1 := h; show n0 ≤ i; omega)
  replace hT := hT.upd hu2 fun i h1 h2 h => by have h : i = b1 := h; omega
  have hc2_b : ∀ i, rbk (.slice (some ⟨b1, 0, none⟩) 2 2) = some i → i < w2.heap.size := fun i hi => hc2.bound (by decide) hi
  refine L_op rfl (X_build built28z ?_)
  refine L_op rfl (X_fn (vs := [(.slice (some ⟨b1, 0, none⟩) 2 2), (.agg (ptC ptZ).toArray)]) en8 rfl (CT.mono (c_encode (.slice (some ⟨b1, 0, none⟩) 2 2) [(97 : UInt8), 98] ptZ _ ptZ_ok hc2 hT) ?_))
  rintro _ w3 ⟨rfl, hu3⟩
  have hz3 := hu3.size
  replace hU := hU.trans (Ext.upd hu3)
  replace hT := hT.ext hu3
  replace hc2 := hc2.ext hu3
  rw [show encE [(97 : UInt8), 98] ptZ = 0 from encE_ok enc_ab]
  refine L_op rfl (X_move (v := (.tuple #[(.agg (((encP [(97 : UInt8), 98] ptZ)).map byteV).toArray), (.int .i64 (0))])) rfl ?_)
  refine L_op rfl (X_extract (l := [(.agg (((encP [(97 : UInt8), 98] ptZ)).map byteV).toArray), (.int .i64 (0))]) (v := (.agg (((encP [(97 : UInt8), 98] ptZ)).map byteV).toArray)) rfl rfl ?_)
  refine L_op rfl (X_extract (l := [(.agg (((encP [(97 : UInt8), 98] ptZ)).map byteV).toArray), (.int .i64 (0))]) (v := (.int .i64 (0))) rfl rfl ?_)
  refine L_op rfl (X_alloc (z := zv30) (c := zc30.toArray) Zv30 rfl ?_)
  intro b4 w4 hn4
  have hbn4 := hn4.num; have hbs4 := hn4.size
  replace hU := hU.trans (Ext.upd hn4.ext)
  replace hT := hT.ext hn4.ext
  replace hc2 := hc2.ext hn4.ext
  have hB4 := hn4.blk
  rw [zc30_eq] at hB4
  refine L_op0 (X_storeW (b := b4) (ys := (((encP [(97 : UInt8), 98] ptZ)).map byteV)) A30 rfl rfl (byteV_one _) (by rw [List.length_map]; exact (encP_len _ _)) hB4 (by rw [List.size_toArray]; exact (by rw [List.length_map]; exact List.length_replicate)) ?_)
  intro w5 hu5 hb5
  have hz5 := hu5.size
  replace hU := hU.trans (hu5.mono fun i _ h => by have h : i = b4 := h; show n0 ≤ i; omega)
  replace hT := hT.upd hu5 fun i h1 h2 h => by have h : i = b4 := h; omega
  replace hc2 := hc2.upd hu5 fun i hi h => by have hi := hc2_b _ hi; have h : i = b4 := h; omega
  replace hB4 := hb5
  refine L_op rfl (X_assign (v := (.int .i64 (0))) rfl ?_)
  refine L_nil ?_
  refine T_n ?_
  refine W_seq ?_
  refine W_reg ?_
  refine L_op rfl (X_loadA (p := (ptr b4 (0))) (xs := (((encP [(97 : UInt8), 98] ptZ)).map byteV)) A30 rfl hB4.atAll (by rw [List.length_map]; exact (encP_len _ _)) ?_)
  obtain ⟨sD6, hsD6⟩ : ∃ n, n = w5.heap.size := ⟨_, rfl⟩
  refine L_op rfl (X_fn (vs := [(.agg ((((encP [(97 : UInt8), 98] ptZ)).map byteV)).toArray)]) en10 rfl (CT.mono (c_decode (encP [(97 : UInt8), 98] ptZ) _ (encP_len _ _) hT) ?_))
  rintro _ w6 ⟨s6, rfl, hO6, hu6⟩
  have hz6 := hu6.size
  rw [← hsD6] at hO6
  replace hU := hU.trans (Ext.upd hu6)
  replace hT := hT.ext hu6
  replace hc2 := hc2.ext hu6
  replace hB4 := hB4.ext hu6
  rw [(dec_of enc_ab ptZ_ok).2.1, (dec_of enc_ab ptZ_ok).2.2]
  rw [(dec_of enc_ab ptZ_ok).1] at hO6
  have hO6_c : ∀ b, obk s6 = some b → sD6 ≤ b ∧ b < w6.heap.size := fun b hb => hO6.lt hb
  refine L_op rfl (X_move (v := (.tuple #[s6, (.agg (ptC ptZ).toArray), (.int .i64 (0))])) rfl ?_)
  refine L_op rfl (X_extract (l := [s6, (.agg (ptC ptZ).toArray), (.int .i64 (0))]) (v := s6) rfl rfl ?_)
  refine L_op rfl (X_extract (l := [s6, (.agg (ptC ptZ).toArray), (.int .i64 (0))]) (v := (.agg (ptC ptZ).toArray)) rfl rfl ?_)
  refine L_op rfl (X_extract (l := [s6, (.agg (ptC ptZ).toArray), (.int .i64 (0))]) (v := (.int .i64 (0))) rfl rfl ?_)
  refine L_op rfl (X_alloc (z := (.agg #[(.int .u8 (0)), (.int .u16 (0)), (.int .u16 (0)), (.int .u32 (0)), (.int .u64 (0))])) (c := #[(.int .u8 (0)), (.int .u16 (0)), (.int .u16 (0)), (.int .u32 (0)), (.int .u64 (0))]) Zv28 rfl ?_)
  intro b7 w7 hn7
  have hbn7 := hn7.num; have hbs7 := hn7.size
  replace hU := hU.trans (Ext.upd hn7.ext)
  replace hT := hT.ext hn7.ext
  replace hc2 := hc2.ext hn7.ext
  replace hB4 := hB4.ext hn7.ext
  replace hO6 := hO6.ext hn7.ext
  have hB7 := hn7.blk
  refine L_op rfl (X_assign (v := s6) rfl ?_)
  refine L_op0 (X_storeW (b := b7) (ys := [(.int .u8 (ptZ.1)), (.int .u16 (ptZ.2.1)), (.int .u16 (ptZ.2.2.1)), (.int .u32 (ptZ.2.2.2.1)), (.int .u64 (ptZ.2.2.2.2))]) A28 rfl rfl (List.forall_mem_cons.2 ⟨rfl, (List.forall_mem_cons.2 ⟨rfl, (List.forall_mem_cons.2 ⟨rfl, (List.forall_mem_cons.2 ⟨rfl, (List.forall_mem_cons.2 ⟨rfl, (fun _ h => by cases h)⟩)⟩)⟩)⟩)⟩) rfl hB7 rfl ?_)
  intro w8 hu8 hb8
  have hz8 := hu8.size
  replace hU := hU.trans (hu8.mono fun i _ h => by have h : i = b7 := h; show n0 ≤ i; omega)
  replace hT := hT.upd hu8 fun i h1 h2 h => by have h : i = b7 := h; omega
  replace hc2 := hc2.upd hu8 fun i hi h => by have hi := hc2_b _ hi; have h : i = b7 := h; omega
  replace hB4 := hB4.upd hu8 fun h => by have h : b4 = b7 := h; omega
  replace hO6 := hO6.upd hu8 fun i hi h => by have hi := hO6_c _ hi; have h : i = b7 := h; omega
  replace hB7 : Blk w8 b7 #[(.int .u8 (ptZ.1)), (.int .u16 (ptZ.2.1)), (.int .u16 (ptZ.2.2.1)), (.int .u32 (ptZ.2.2.2.1)), (.int .u64 (ptZ.2.2.2.2))] 28 := hb8
  refine L_op rfl (X_assign (v := (.int .i64 (0))) rfl ?_)
  refine L_nil ?_
  refine T_n ?_
  refine W_seq ?_
  refine W_reg ?_
  refine L_op rfl (X_build built28z ?_)
  refine L_op rfl (X_fn (vs := [(.slice none 0 0), (.agg (ptC ptZ).toArray)]) en8 rfl (CT.mono (c_encode (.slice none 0 0) ([] : List UInt8) ptZ _ ptZ_ok (Rd.nil _ 1) hT) ?_))
  rintro _ w9 ⟨rfl, hu9⟩
  have hz9 := hu9.size
  replace hU := hU.trans (Ext.upd hu9)
  replace hT := hT.ext hu9
  replace hc2 := hc2.ext hu9
  replace hB4 := hB4.ext hu9
  replace hO6 := hO6.ext hu9
  replace hB7 := hB7.ext hu9
  rw [encP_no enc_nil, encE_no enc_nil]
  refine L_op rfl (X_move (v := (.tuple #[(.agg (((List.replicate 256 (0 : UInt8))).map byteV).toArray), (.int .i64 (2))])) rfl ?_)
  refine L_op rfl (X_extract (l := [(.agg (((List.replicate 256 (0 : UInt8))).map byteV).toArray), (.int .i64 (2))]) (v := (.agg (((List.replicate 256 (0 : UInt8))).map byteV).toArray)) rfl rfl ?_)
  refine L_op rfl (X_extract (l := [(.agg (((List.replicate 256 (0 : UInt8))).map byteV).toArray), (.int .i64 (2))]) (v := (.int .i64 (2))) rfl rfl ?_)
  refine L_op rfl (X_alloc (z := zv30) (c := zc30.toArray) Zv30 rfl ?_)
  intro b10 w10 hn10
  have hbn10 := hn10.num; have hbs10 := hn10.size
  replace hU := hU.trans (Ext.upd hn10.ext)
  replace hT := hT.ext hn10.ext
  replace hc2 := hc2.ext hn10.ext
  replace hB4 := hB4.ext hn10.ext
  replace hO6 := hO6.ext hn10.ext
  replace hB7 := hB7.ext hn10.ext
  have hB10 := hn10.blk
  rw [zc30_eq] at hB10
  refine L_op0 (X_storeW (b := b10) (ys := (((List.replicate 256 (0 : UInt8))).map byteV)) A30 rfl rfl (byteV_one _) (by rw [List.length_map]; exact List.length_replicate) hB10 (by rw [List.size_toArray]; exact (by rw [List.length_map]; exact List.length_replicate)) ?_)
  intro w11 hu11 hb11
  have hz11 := hu11.size
  replace hU := hU.trans (hu11.mono fun i _ h => by have h : i = b10 := h; show n0 ≤ i; omega)
  replace hT := hT.upd hu11 fun i h1 h2 h => by have h : i = b10 := h; omega
  replace hc2 := hc2.upd hu11 fun i hi h => by have hi := hc2_b _ hi; have h : i = b10 := h; omega
  replace hB4 := hB4.upd hu11 fun h => by have h : b4 = b10 := h; omega
  replace hO6 := hO6.upd hu11 fun i hi h => by have hi := hO6_c _ hi; have h : i = b10 := h; omega
  replace hB7 := hB7.upd hu11 fun h => by have h : b7 = b10 := h; omega
  replace hB10 := hb11
  refine L_op rfl (X_assign (v := (.int .i64 (2))) rfl ?_)
  refine L_nil ?_
  refine T_n ?_
  refine W_seq ?_
  refine W_reg ?_
  refine L_op rfl (X_build built30z ?_)
  obtain ⟨sD12, hsD12⟩ : ∃ n, n = w11.heap.size := ⟨_, rfl⟩
  refine L_op rfl (X_fn (vs := [(.agg ((((List.replicate 256 (0 : UInt8))).map byteV)).toArray)]) en10 rfl (CT.mono (c_decode (List.replicate 256 (0 : UInt8)) _ List.length_replicate hT) ?_))
  rintro _ w12 ⟨s12, rfl, hO12, hu12⟩
  have hz12 := hu12.size
  rw [← hsD12] at hO12
  replace hU := hU.trans (Ext.upd hu12)
  replace hT := hT.ext hu12
  replace hc2 := hc2.ext hu12
  replace hB4 := hB4.ext hu12
  replace hO6 := hO6.ext hu12
  replace hB7 := hB7.ext hu12
  replace hB10 := hB10.ext hu12
  rw [dec_zero]
  have hO12_c : ∀ b, obk s12 = some b → sD12 ≤ b ∧ b < w12.heap.size := fun b hb => hO12.lt hb
  refine L_op rfl (X_move (v := (.tuple #[s12, (.agg (ptC (decN (List.replicate 256 (0 : UInt8)))).toArray), (.int .i64 (50))])) rfl ?_)
  refine L_op rfl (X_extract (l := [s12, (.agg (ptC (decN (List.replicate 256 (0 : UInt8)))).toArray), (.int .i64 (50))]) (v := s12) rfl rfl ?_)
  refine L_op rfl (X_extract (l := [s12, (.agg (ptC (decN (List.replicate 256 (0 : UInt8)))).toArray), (.int .i64 (50))]) (v := (.agg (ptC (decN (List.replicate 256 (0 : UInt8)))).toArray)) rfl rfl ?_)
  refine L_op rfl (X_extract (l := [s12, (.agg (ptC (decN (List.replicate 256 (0 : UInt8)))).toArray), (.int .i64 (50))]) (v := (.int .i64 (50))) rfl rfl ?_)
  refine L_op rfl (X_alloc (z := (.agg #[(.int .u8 (0)), (.int .u16 (0)), (.int .u16 (0)), (.int .u32 (0)), (.int .u64 (0))])) (c := #[(.int .u8 (0)), (.int .u16 (0)), (.int .u16 (0)), (.int .u32 (0)), (.int .u64 (0))]) Zv28 rfl ?_)
  intro b13 w13 hn13
  have hbn13 := hn13.num; have hbs13 := hn13.size
  replace hU := hU.trans (Ext.upd hn13.ext)
  replace hT := hT.ext hn13.ext
  replace hc2 := hc2.ext hn13.ext
  replace hB4 := hB4.ext hn13.ext
  replace hO6 := hO6.ext hn13.ext
  replace hB7 := hB7.ext hn13.ext
  replace hB10 := hB10.ext hn13.ext
  replace hO12 := hO12.ext hn13.ext
  have hB13 := hn13.blk
  refine L_op rfl (X_assign (v := s12) rfl ?_)
  refine L_op0 (X_storeW (b := b13) (ys := [(.int .u8 ((decN (List.replicate 256 (0 : UInt8))).1)), (.int .u16 ((decN (List.replicate 256 (0 : UInt8))).2.1)), (.int .u16 ((decN (List.replicate 256 (0 : UInt8))).2.2.1)), (.int .u32 ((decN (List.replicate 256 (0 : UInt8))).2.2.2.1)), (.int .u64 ((decN (List.replicate 256 (0 : UInt8))).2.2.2.2))]) A28 rfl rfl (List.forall_mem_cons.2 ⟨rfl, (List.forall_mem_cons.2 ⟨rfl, (List.forall_mem_cons.2 ⟨rfl, (List.forall_mem_cons.2 ⟨rfl, (List.forall_mem_cons.2 ⟨rfl, (fun _ h => by cases h)⟩)⟩)⟩)⟩)⟩) rfl hB13 rfl ?_)
  intro w14 hu14 hb14
  have hz14 := hu14.size
  replace hU := hU.trans (hu14.mono fun i _ h => by have h : i = b13 := h; show n0 ≤ i; omega)
  replace hT := hT.upd hu14 fun i h1 h2 h => by have h : i = b13 := h; omega
  replace hc2 := hc2.upd hu14 fun i hi h => by have hi := hc2_b _ hi; have h : i = b13 := h; omega
  replace hB4 := hB4.upd hu14 fun h => by have h : b4 = b13 := h; omega
  replace hO6 := hO6.upd hu14 fun i hi h => by have hi := hO6_c _ hi; have h : i = b13 := h; omega
  replace hB7 := hB7.upd hu14 fun h => by have h : b7 = b13 := h; omega
  replace hB10 := hB10.upd hu14 fun h => by have h : b10 = b13 := h; omega
  replace hO12 := hO12.upd hu14 fun i hi h => by have hi := hO12_c _ hi; have h : i = b13 := h; omega
  replace hB13 : Blk w14 b13 #[(.int .u8 ((decN (List.replicate 256 (0 : UInt8))).1)), (.int .u16 ((decN (List.replicate 256 (0 : UInt8))).2.1)), (.int .u16 ((decN (List.replicate 256 (0 : UInt8))).2.2.1)), (.int .u32 ((decN (List.replicate 256 (0 : UInt8))).2.2.2.1)), (.int .u64 ((decN (List.replicate 256 (0 : UInt8))).2.2.2.2))] 28 := hb14
  refine L_op rfl (X_assign (v := (.int .i64 (50))) rfl ?_)
  refine L_nil ?_
  refine T_n ?_
  refine W_seq ?_
  refine W_reg ?_
  refine L_op rfl (X_fn (vs := [(.int .i64 (200))]) en13 rfl (CT.mono (c_many 200 _ (by decide)) ?_))
  rintro _ _ ⟨rfl, rfl⟩
  rw [show manyN 200 = 1 by decide]
  refine L_op rfl (X_cmp (k := .i64) (a := 1) (b := 1) (r := true) rfl rfl rfl rfl ?_)
  refine L_op rfl (X_move (v := (.bool (true))) rfl ?_)
  refine L_gy (dj := 37) rfl rfl rfl (X_fn (vs := [(.int .i64 (201))]) en13 rfl (CT.mono (c_many 201 _ (by decide)) ?_))
  rintro _ _ ⟨rfl, rfl⟩
  rw [show manyN 201 = 2 by decide]
  refine L_gy (dj := 37) rfl rfl rfl (X_cmp (k := .i64) (a := 2) (b := 2) (r := true) rfl rfl rfl rfl ?_)
  refine L_op rfl (X_pick (t := true) (v := (.bool (true))) rfl rfl ?_)
  refine L_op rfl (X_move (v := (.bool (true))) rfl ?_)
  refine L_gy (dj := 41) rfl rfl rfl (X_move (v := (.int .i64 (0))) rfl ?_)
  refine L_gy (dj := 41) rfl rfl rfl (X_cmp (k := .i64) (a := 0) (b := 0) (r := true) rfl rfl rfl rfl ?_)
  refine L_op rfl (X_pick (t := true) (v := (.bool (true))) rfl rfl ?_)
  refine L_op rfl (X_move (v := (.bool (true))) rfl ?_)
  refine L_gy (dj := 45) rfl rfl rfl (X_idxAP (len := 256) (sz := 1) (b := b4) (o := 0) (k := .i64) (i := 0) (r := 0) Tryd.underlying30 Z5 rfl rfl (by omega) (by omega) rfl ?_)
  refine L_gy (dj := 45) rfl rfl rfl (X_load (p := (ptr b4 (0))) (v := .int .u8 3) T5 rfl (hB4.at1 (by rw [List.getElem?_toArray, List.getElem?_map, enc_0]; rfl)) ?_)
  refine L_gy (dj := 45) rfl rfl rfl (X_cmp (k := .u8) (a := 3) (b := 3) (r := true) rfl rfl rfl rfl ?_)
  refine L_op rfl (X_pick (t := true) (v := (.bool (true))) rfl rfl ?_)
  refine L_op rfl (X_move (v := (.bool (true))) rfl ?_)
  refine L_gy (dj := 50) rfl rfl rfl (X_idxAP (len := 256) (sz := 1) (b := b4) (o := 0) (k := .i64) (i := 1) (r := 1) Tryd.underlying30 Z5 rfl rfl (by omega) (by omega) rfl ?_)
  refine L_gy (dj := 50) rfl rfl rfl (X_load (p := (ptr b4 (1))) (v := .int .u8 2) T5 rfl (hB4.at1 (by rw [List.getElem?_toArray, List.getElem?_map, enc_1]; rfl)) ?_)
  refine L_gy (dj := 50) rfl rfl rfl (X_cmp (k := .u8) (a := 2) (b := 2) (r := true) rfl rfl rfl rfl ?_)
  refine L_op rfl (X_pick (t := true) (v := (.bool (true))) rfl rfl ?_)
  refine L_op rfl (X_move (v := (.bool (true))) rfl ?_)
  refine L_gy (dj := 55) rfl rfl rfl (X_move (v := (.int .i64 (0))) rfl ?_)
  refine L_gy (dj := 55) rfl rfl rfl (X_cmp (k := .i64) (a := 0) (b := 0) (r := true) rfl rfl rfl rfl ?_)
  refine L_op rfl (X_pick (t := true) (v := (.bool (true))) rfl rfl ?_)
  refine L_op rfl (X_move (v := (.bool (true))) rfl ?_)
  refine L_gy (dj := 59) rfl rfl rfl (X_move (v := s6) rfl ?_)
  refine L_gy (dj := 59) rfl rfl rfl (X_str (v := s6) (l := [(97 : UInt8), 98]) Tryd.underlying22 Tryd.underlying5 Tryd.underlying9 rfl hO6.rd ?_)
  refine L_gy (dj := 59) rfl rfl rfl (X_scmp (a := [(97 : UInt8), 98]) (b := [(97 : UInt8), 98]) (r := true) rfl rfl rfl rfl ?_)
  refine L_op rfl (X_pick (t := true) (v := (.bool (true))) rfl rfl ?_)
  refine L_op rfl (X_move (v := (.bool (true))) rfl ?_)
  refine L_gy (dj := 64) rfl rfl rfl (X_loadA (p := (ptr b7 (0))) (xs := ptC ptZ) A28 rfl hB7.atAll rfl ?_)
  refine L_gy (dj := 64) rfl rfl rfl (X_build built28z ?_)
  refine L_gy (dj := 64) rfl rfl rfl (X_eqP (p := ptZ) (q := ptZ) (r := true) Tryd.underlying28 u28 (by kernel_rfl) (by decide) ⟨rfl, rfl, rfl, rfl⟩ Tryd.underlying5 Tryd.underlying24 (by kernel_rfl) Tryd.underlying23 (ie := _) rfl (by kernel_rfl) Tryd.underlying25 Tryd.underlying26 (by kernel_rfl) rfl rfl (.inl ⟨rfl, (by decide)⟩) ?_)
  refine L_op rfl (X_pick (t := true) (v := (.bool (true))) rfl rfl ?_)
  refine L_op rfl (X_move (v := (.bool (true))) rfl ?_)
  refine L_gy (dj := 69) rfl rfl rfl (X_move (v := (.int .i64 (2))) rfl ?_)
  refine L_gy (dj := 69) rfl rfl rfl (X_cmp (k := .i64) (a := 2) (b := 2) (r := true) rfl rfl rfl rfl ?_)
  refine L_op rfl (X_pick (t := true) (v := (.bool (true))) rfl rfl ?_)
  refine L_op rfl (X_move (v := (.bool (true))) rfl ?_)
  refine L_gy (dj := 73) rfl rfl rfl (X_move (v := (.int .i64 (50))) rfl ?_)
  refine L_gy (dj := 73) rfl rfl rfl (X_cmp (k := .i64) (a := 50) (b := 50) (r := true) rfl rfl rfl rfl ?_)
  refine L_op rfl (X_pick (t := true) (v := (.bool (true))) rfl rfl ?_)
  refine L_op rfl (X_assign (v := (.bool (true))) rfl ?_)
  refine L_nil ?_
  refine T_n ?_
  refine W_ret ?_
  exact BQ_r (End_1 Tryd.results7 (v := .bool true) rfl ⟨rfl, hU.own hn0⟩)
end Go.Proofs.YtmggaahkfidfaaaDoor
