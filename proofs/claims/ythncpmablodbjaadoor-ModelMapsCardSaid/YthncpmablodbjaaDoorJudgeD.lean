/-
  The model: the map of refusals. (Printed by wip/gen/t31j.py of this repo.)
-/
import Derived.Test.YthncpmablodbjaaDoorJudgeC
namespace Go.Proofs.YthncpmablodbjaaDoor
open Go Go.SL Go.Proofs
set_option linter.unusedVariables false

abbrev Fn (g : Nat) : Value := .func (.func g) #[] #[]
/-- what stands at a kind in the map of refusals (of the kinds that are asked for) -/
def GoodR (w : World) (k : Int) (v : Value) : Prop :=
  (k = 0 → ∃ b, v = .slice (some ⟨b, 0, none⟩) 1 1 ∧ Blk w b #[.int .i64 140, Fn 42] 80) ∧
  (k = 2 → ∃ b, v = .slice (some ⟨b, 0, none⟩) 1 1 ∧ Blk w b #[.int .i64 250, Fn 46] 80) ∧
  (k = 3 → ∃ b, v = .slice (some ⟨b, 0, none⟩) 2 2 ∧ Blk w b #[.int .i64 2, Fn 44, .int .i64 2, Fn 47] 80)
/-- from one world to the next maps that are new may have grown by good entries; all else stays -/
structure RMap (N : Nat) (w w' : World) : Prop where
  os : w'.os = w.os
  tape : w'.tape = w.tape
  output : w'.output = w.output
  size : w.heap.size ≤ w'.heap.size
  blk : ∀ b, b < w.heap.size → w'.heap[b]? = w.heap[b]? ∨ (N ≤ b ∧ ∃ F F', MapAt .u8 w b F ∧ MapAt .u8 w' b F' ∧ (∀ k, (F k).isSome = true → (F' k).isSome = true) ∧ ∀ k v, F' k = some v → F k = some v ∨ GoodR w' k v)
theorem blk_rm {N : Nat} {w w' : World} {b : Nat} {c : Array Value} {t : TypeId} (h : Blk w b c t) (hr : RMap N w w') : Blk w' b c t := by
  rcases hr.blk b h.lt with h1 | ⟨_, F, _, hF, _⟩
  · exact h1.trans h
  · exact (hF.not_blk h).elim
theorem GoodR.rm {N : Nat} {w w' : World} {k : Int} {v : Value} (h : GoodR w k v) (hr : RMap N w w') : GoodR w' k v :=
  ⟨fun e => by obtain ⟨b, h1, h2⟩ := h.1 e; exact ⟨b, h1, blk_rm h2 hr⟩, fun e => by obtain ⟨b, h1, h2⟩ := h.2.1 e; exact ⟨b, h1, blk_rm h2 hr⟩, fun e => by obtain ⟨b, h1, h2⟩ := h.2.2 e; exact ⟨b, h1, blk_rm h2 hr⟩⟩
theorem RMap.ext {N : Nat} {w w' : World} (h : Ext w w') : RMap N w w' := ⟨h.os, h.tape, h.output, h.size, fun b hb => .inl (h.blk b hb fun hx => hx)⟩
theorem rmap_pre (N : Nat) : PreW (RMap N) where
  refl w := RMap.ext (Upd.refl _ w)
  trans {a b c} h k := ⟨k.os.trans h.os, k.tape.trans h.tape, k.output.trans h.output, Nat.le_trans h.size k.size, fun i hi => by
    rcases h.blk i hi with h1 | ⟨hn, F, F', hF, hF', hp, hg⟩
    · rcases k.blk i (Nat.lt_of_lt_of_le hi h.size) with h2 | ⟨hn, F, F', hF, hF', hp, hg⟩
      · exact .inl (h2.trans h1)
      · exact .inr ⟨hn, F, F', hF.of_heap h1.symm, hF', hp, hg⟩
    · rcases k.blk i (Nat.lt_of_lt_of_le hi h.size) with h2 | ⟨_, G, G', hG, hG', hp2, hg2⟩
      · exact .inr ⟨hn, F, F', hF, hF'.of_heap h2, hp, fun j v hv => (hg j v hv).imp id fun x => x.rm k⟩
      · have hu := hF'.uniq hG
        exact .inr ⟨hn, F, G', hF, hG', fun j hj => hp2 j (by rw [← hu]; exact hp j hj), fun j v hv => by
          rcases hg2 j v hv with h3 | h3
          · rw [← hu] at h3
            exact (hg j v h3).imp id fun x => x.rm k
          · exact .inr h3⟩⟩
def GoodM (w : World) (b : Nat) : Prop := ∃ F, MapAt .u8 w b F ∧ ∀ k v, F k = some v → GoodR w k v
def HasK (w : World) (b : Nat) (k : Int) : Prop := ∃ F, MapAt .u8 w b F ∧ (F k).isSome = true
theorem GoodM.lt {w : World} {b : Nat} (h : GoodM w b) : b < w.heap.size := by obtain ⟨F, hF, _⟩ := h; exact hF.lt
theorem GoodM.rm {N : Nat} {w w' : World} {b : Nat} (h : GoodM w b) (hr : RMap N w w') : GoodM w' b := by
  obtain ⟨F, hF, hg⟩ := h
  rcases hr.blk b hF.lt with h1 | ⟨_, G, G', hG, hG', _, hg2⟩
  · exact ⟨F, hF.of_heap h1, fun k v hv => (hg k v hv).rm hr⟩
  · refine ⟨G', hG', fun k v hv => ?_⟩
    rcases hg2 k v hv with h2 | h2
    · rw [← hF.uniq hG] at h2
      exact (hg k v h2).rm hr
    · exact h2
theorem HasK.rm {N : Nat} {w w' : World} {b : Nat} {k : Int} (h : HasK w b k) (hr : RMap N w w') : HasK w' b k := by
  obtain ⟨F, hF, hk⟩ := h
  rcases hr.blk b hF.lt with h1 | ⟨_, G, G', hG, hG', hp, _⟩
  · exact ⟨F, hF.of_heap h1, hk⟩
  · exact ⟨G', hG', hp k (by rw [← hF.uniq hG]; exact hk)⟩
/-- an entry is laid -/
theorem RMap.put {N : Nat} {w w' : World} {b : Nat} {F : Int → Option Value} {k : Int} {v : Value} (hN : N ≤ b) (hF : MapAt .u8 w b F) (hv : GoodR w k v) (hF' : MapAt .u8 w' b (putF F k v)) (hu : Upd (fun i => i = b) w w') : RMap N w w' := by
  have hb : ∀ i c t, Blk w i c t → Blk w' i c t := fun i c t h => h.upd hu fun e => by subst e; exact hF.not_blk h
  have hg : GoodR w' k v := ⟨fun e => by obtain ⟨b, h1, h2⟩ := hv.1 e; exact ⟨b, h1, hb _ _ _ h2⟩, fun e => by obtain ⟨b, h1, h2⟩ := hv.2.1 e; exact ⟨b, h1, hb _ _ _ h2⟩, fun e => by obtain ⟨b, h1, h2⟩ := hv.2.2 e; exact ⟨b, h1, hb _ _ _ h2⟩⟩
  refine ⟨hu.os, hu.tape, hu.output, hu.size, fun i hi => ?_⟩
  by_cases he : i = b
  · subst he
    refine .inr ⟨hN, F, putF F k v, hF, hF', fun j hj => ?_, fun j u hj => ?_⟩
    · unfold putF; split
      · rfl
      · exact hj
    · unfold putF at hj; split at hj
      · rename_i h; subst h; cases hj; exact .inr hg
      · exact .inl hj
  · exact .inl (hu.blk i hi he)
theorem HasK.put {w : World} {b : Nat} {F : Int → Option Value} {k : Int} {v : Value} (hF : MapAt .u8 w b (putF F k v)) : HasK w b k := ⟨_, hF, by unfold putF; rw [if_pos rfl]; rfl⟩
theorem GoodM.of {w : World} {b : Nat} {k : Int} (h : GoodM w b) (hk : HasK w b k) : ∃ F v, MapAt .u8 w b F ∧ F k = some v ∧ GoodR w k v := by
  obtain ⟨F, hF, hg⟩ := h
  obtain ⟨G, hG, hs⟩ := hk
  rw [← hF.uniq hG] at hs
  obtain ⟨v, hv⟩ := Option.isSome_iff_exists.1 hs
  exact ⟨F, v, hF, hv, hg k v hv⟩
theorem RMap.upd {N : Nat} {w w' : World} (h : RMap N w w') : Upd (fun i => N ≤ i) w w' := ⟨h.os, h.tape, h.output, h.size, fun i hi hn => (h.blk i hi).resolve_right fun h2 => hn h2.1⟩
/-- the map of refusals -/
structure RefM (w : World) (b : Nat) (F : Int → Option Value) : Prop where
  map : MapAt .u8 w b F
  k0 : ∃ v, F 0 = some v ∧ GoodR w 0 v
  k2 : ∃ v, F 2 = some v ∧ GoodR w 2 v
  k3 : ∃ v, F 3 = some v ∧ GoodR w 3 v
theorem RefM.ext {w w' : World} {b : Nat} {F : Int → Option Value} (h : RefM w b F) (hu : Ext w w') : RefM w' b F := by
  have hr : RMap 0 w w' := RMap.ext hu
  obtain ⟨v0, h0, g0⟩ := h.k0
  obtain ⟨v2, h2, g2⟩ := h.k2
  obtain ⟨v3, h3, g3⟩ := h.k3
  exact ⟨h.map.ext hu, ⟨v0, h0, g0.rm hr⟩, ⟨v2, h2, g2.rm hr⟩, ⟨v3, h3, g3.rm hr⟩⟩

set_option maxRecDepth 10000 in
set_option maxHeartbeats 2000000 in
theorem c_refusals (w : World) : CT Tryd.prog 32 #[] w fun v w' => ∃ b F, v = .map (some b) ∧ RefM w' b F ∧ Ext w w' := by
  obtain ⟨n0, hn0⟩ : ∃ n, n = w.heap.size := ⟨_, rfl⟩
  have hU : Upd (fun i => n0 ≤ i) w w := Upd.refl _ _
  refine CT_of Tryd.func32 rfl rfl rfl ?_
  refine W_seq ?_
  refine W_reg ?_
  refine L_op rfl (X_assign (v := (.map none)) rfl ?_)
  refine L_nil ?_
  refine T_n ?_
  refine W_seq ?_
  refine W_reg ?_
  refine L_op rfl (X_build (built80 140 42) ?_)
  refine L_op rfl (X_alloc (z := (.agg #[(.int .i64 (0)), .nilFunc])) (c := #[(.int .i64 (0)), .nilFunc]) Zv80 rfl ?_)
  intro b1 w1 hn1
  have hbn1 := hn1.num; have hbs1 := hn1.size
  replace hU := hU.trans (Ext.upd hn1.ext)
  have hB1 := hn1.blk
  refine L_op0 (X_storeW (b := b1) (ys := [(.int .i64 (140)), (.func (.func 42) #[] #[])]) A80 rfl rfl (List.forall_mem_cons.2 ⟨rfl, (List.forall_mem_cons.2 ⟨rfl, (fun _ h => by cases h)⟩)⟩) rfl hB1 rfl ?_)
  intro w2 hu2 hb2
  have hz2 := hu2.size
  replace hU := hU.trans (hu2.mono fun i _ h => by have h : i = b1 := h; show n0 ≤ i; omega)
  replace hB1 : Blk w2 b1 #[(.int .i64 (140)), (.func (.func 42) #[] #[])] 80 := hb2
  refine L_nil ?_
  refine T_n ?_
  refine W_seq ?_
  refine W_reg ?_
  refine L_op rfl (X_build (built80 2 44) ?_)
  refine L_op rfl (X_alloc (z := (.agg #[(.int .i64 (0)), .nilFunc])) (c := #[(.int .i64 (0)), .nilFunc]) Zv80 rfl ?_)
  intro b3 w3 hn3
  have hbn3 := hn3.num; have hbs3 := hn3.size
  replace hU := hU.trans (Ext.upd hn3.ext)
  replace hB1 := hB1.ext hn3.ext
  have hB3 := hn3.blk
  refine L_op0 (X_storeW (b := b3) (ys := [(.int .i64 (2)), (.func (.func 44) #[] #[])]) A80 rfl rfl (List.forall_mem_cons.2 ⟨rfl, (List.forall_mem_cons.2 ⟨rfl, (fun _ h => by cases h)⟩)⟩) rfl hB3 rfl ?_)
  intro w4 hu4 hb4
  have hz4 := hu4.size
  replace hU := hU.trans (hu4.mono fun i _ h => by have h : i = b3 := h; show n0 ≤ i; omega)
  replace hB1 := hB1.upd hu4 fun h => by have h : b1 = b3 := h; omega
  replace hB3 : Blk w4 b3 #[(.int .i64 (2)), (.func (.func 44) #[] #[])] 80 := hb4
  refine L_nil ?_
  refine T_n ?_
  refine W_seq ?_
  refine W_reg ?_
  refine L_op rfl (X_assign (v := (.func (.func 45) #[] #[])) rfl ?_)
  refine L_nil ?_
  refine T_n ?_
  refine W_seq ?_
  obtain ⟨N, hN⟩ : ∃ n, n = w4.heap.size := ⟨_, rfl⟩
  refine W_drawR 59 [[], [], [1], [0, 1, 2], [], [4], [0, 4, 5], [], [7], [0, 7, 8], [], [], [11], [10, 11, 12], [0, 10, 11, 12, 13], [], [], [11, 12, 16], [11, 12, 15, 16, 17], [0, 11, 12, 15, 16, 17, 18], [], [20], [0, 20, 21], [], [23], [0, 23, 24], [], [26], [0, 26, 27], [], [], [29, 30], [0, 29, 30, 31], [], [33], [0, 33, 34], [], [11, 12, 16, 17, 36], [], [11, 12, 16, 17, 36, 37, 38], [0, 11, 12, 16, 17, 36, 37, 38, 39], [], [11, 12, 16, 17, 36, 37, 41], [11, 12, 16, 17, 36, 37, 41, 42], [0, 11, 12, 16, 17, 36, 37, 41, 42, 43], [], [11, 12, 16, 17, 36, 37, 41, 42, 45], [], [], [11, 12, 16, 17, 36, 37, 41, 42, 45, 46, 47, 48], [0, 11, 12, 16, 17, 36, 37, 41, 42, 45, 46, 47, 48, 49], [], [11, 12, 16, 17, 36, 37, 41, 42, 45, 46, 51], [11, 12, 16, 17, 36, 37, 41, 42, 45, 46, 51, 52], [0, 11, 12, 16, 17, 36, 37, 41, 42, 45, 46, 51, 52, 53], [], [11, 12, 16, 17, 36, 37, 41, 42, 45, 46, 51, 52, 55], [11, 12, 16, 17, 36, 37, 41, 42, 45, 46, 51, 52, 55, 56], [0, 11, 12, 16, 17, 36, 37, 41, 42, 45, 46, 51, 52, 55, 56, 57], [0, 1, 2, 3, 4, 5, 6, 7, 8, 9, 10, 11, 12, 13, 14, 15, 16, 17, 18, 19, 20, 21, 22, 23, 24, 25, 26, 27, 28, 29, 30, 31, 32, 33, 34, 35, 36, 37, 38, 39, 40, 41, 42, 43, 44, 45, 46, 47, 48, 49, 50, 51, 52, 53, 54, 55, 56, 57, 58], [0, 1, 2, 3, 4, 5, 6, 7, 8, 9, 10, 11, 12, 13, 14, 15, 16, 17, 18, 19, 20, 21, 22, 23, 24, 25, 26, 27, 28, 29, 30, 31, 32, 33, 34, 35, 36, 37, 38, 39, 40, 41, 42, 43, 44, 45, 46, 47, 48, 49, 50, 51, 52, 53, 54, 55, 56, 57, 58, 59]] (RMap N) (rmap_pre N) mixed (by kernel_rfl) ?_
  refine ⟨.abs (fun _ x_ W_ => ∃ b, x_ = .map (some b) ∧ N ≤ b ∧ GoodM W_ b), ⟨fun _ _ _ => rfl, fun _ _ _ _ hu h => (by obtain ⟨b, h1, h2, h3⟩ := h; exact ⟨b, h1, h2, h3.rm hu⟩)⟩, fun val h_ W hx he => ⟨trivial, ?_⟩, ?_⟩
  · replace hx := (rmap_pre N).trans (RMap.ext (Upd.drew _ _)) hx
    replace hB1 := blk_rm hB1 hx
    replace hB3 := blk_rm hB3 hx
    have hxs := hx.size
    refine X_makeMap (q := .u8) fun b w5 hb hz hu hM => ?_
    exact ⟨RMap.ext hu, b, rfl, by omega, _, hM, fun k v h => by cases h⟩
  refine ⟨.det (fun val => (.agg ([(.int .i64 (140)), (.func (.func 42) #[] #[])]).toArray)), ⟨fun _ _ hv => rfl, fun _ _ _ _ _ => trivial⟩, fun val h_ W hx he => ⟨trivial, ?_⟩, ?_⟩
  · replace hx := (rmap_pre N).trans (RMap.ext (Upd.drew _ _)) hx
    replace hB1 := blk_rm hB1 hx
    replace hB3 := blk_rm hB3 hx
    refine id (X_loadA (p := (ptr b1 (0))) (xs := [(.int .i64 (140)), (.func (.func 42) #[] #[])]) A80 rfl hB1.atAll rfl ?_)
    exact ⟨(rmap_pre N).refl _, rfl⟩
  refine ⟨.abs (fun _ x_ W_ => ∃ b, x_ = .slice (some ⟨b, 0, none⟩) 1 1 ∧ Blk W_ b #[(.int .i64 (140)), (.func (.func 42) #[] #[])] 80), ⟨fun _ _ _ => rfl, fun _ _ _ _ hu h => (by obtain ⟨b, h1, h2⟩ := h; exact ⟨b, h1, blk_rm h2 hu⟩)⟩, fun val h_ W hx he => ⟨trivial, ?_⟩, ?_⟩
  · replace hx := (rmap_pre N).trans (RMap.ext (Upd.drew _ _)) hx
    replace hB1 := blk_rm hB1 hx
    replace hB3 := blk_rm hB3 hx
    refine X_buildSliceL (vs := [(.agg ([(.int .i64 (140)), (.func (.func 42) #[] #[])]).toArray)]) (c := [(.int .i64 (140)), (.func (.func 42) #[] #[])]) S75 (by decide) rfl rfl (List.forall_mem_cons.2 ⟨rfl, (fun _ h => by cases h)⟩) rfl ?_
    intro b w5 hn
    exact ⟨RMap.ext hn.ext, b, rfl, hn.blk⟩
  refine ⟨.abs (fun val _ W_ => ∃ b, val 0 = .map (some b) ∧ HasK W_ b 0), ⟨fun _ _ hv => (by simp only [hv 0 rfl]), fun _ _ _ _ hu h => (by obtain ⟨b, h1, h2⟩ := h; exact ⟨b, h1, h2.rm hu⟩)⟩, fun val h_ W hx he => ⟨trivial, ?_⟩, ?_⟩
  · replace hx := (rmap_pre N).trans (RMap.ext (Upd.drew _ _)) hx
    replace hB1 := blk_rm hB1 hx
    replace hB3 := blk_rm hB3 hx
    obtain ⟨⟨bs2, hbs2_, hBs2⟩, ⟨bm, hbm, hNm, hGm⟩, _⟩ := he
    obtain ⟨F, hF, hg⟩ := hGm
    refine X_insert (k := 0) Tryd.underlying76 Tryd.underlying5 hbm rfl hbs2_ hF fun w5 hF5 hu5 => ?_
    exact ⟨RMap.put hNm hF (k := 0) (v := .slice (some ⟨bs2, 0, none⟩) 1 1) ⟨fun h => ⟨bs2, rfl, hBs2⟩, fun h => absurd h (by decide), fun h => absurd h (by decide)⟩ hF5 hu5, bm, hbm, HasK.put hF5⟩
  refine ⟨.det (fun val => (.agg ([(.int .i64 (140)), (.func (.func 42) #[] #[])]).toArray)), ⟨fun _ _ hv => rfl, fun _ _ _ _ _ => trivial⟩, fun val h_ W hx he => ⟨trivial, ?_⟩, ?_⟩
  · replace hx := (rmap_pre N).trans (RMap.ext (Upd.drew _ _)) hx
    replace hB1 := blk_rm hB1 hx
    replace hB3 := blk_rm hB3 hx
    refine id (X_loadA (p := (ptr b1 (0))) (xs := [(.int .i64 (140)), (.func (.func 42) #[] #[])]) A80 rfl hB1.atAll rfl ?_)
    exact ⟨(rmap_pre N).refl _, rfl⟩
  refine ⟨.abs (fun _ x_ W_ => ∃ b, x_ = .slice (some ⟨b, 0, none⟩) 1 1 ∧ Blk W_ b #[(.int .i64 (140)), (.func (.func 42) #[] #[])] 80), ⟨fun _ _ _ => rfl, fun _ _ _ _ hu h => (by obtain ⟨b, h1, h2⟩ := h; exact ⟨b, h1, blk_rm h2 hu⟩)⟩, fun val h_ W hx he => ⟨trivial, ?_⟩, ?_⟩
  · replace hx := (rmap_pre N).trans (RMap.ext (Upd.drew _ _)) hx
    replace hB1 := blk_rm hB1 hx
    replace hB3 := blk_rm hB3 hx
    refine X_buildSliceL (vs := [(.agg ([(.int .i64 (140)), (.func (.func 42) #[] #[])]).toArray)]) (c := [(.int .i64 (140)), (.func (.func 42) #[] #[])]) S75 (by decide) rfl rfl (List.forall_mem_cons.2 ⟨rfl, (fun _ h => by cases h)⟩) rfl ?_
    intro b w5 hn
    exact ⟨RMap.ext hn.ext, b, rfl, hn.blk⟩
  refine ⟨.abs (fun val _ W_ => ∃ b, val 0 = .map (some b) ∧ HasK W_ b 1), ⟨fun _ _ hv => (by simp only [hv 0 rfl]), fun _ _ _ _ hu h => (by obtain ⟨b, h1, h2⟩ := h; exact ⟨b, h1, h2.rm hu⟩)⟩, fun val h_ W hx he => ⟨trivial, ?_⟩, ?_⟩
  · replace hx := (rmap_pre N).trans (RMap.ext (Upd.drew _ _)) hx
    replace hB1 := blk_rm hB1 hx
    replace hB3 := blk_rm hB3 hx
    obtain ⟨⟨bs5, hbs5_, hBs5⟩, ⟨bm, hbm, hNm, hGm⟩, _⟩ := he
    obtain ⟨F, hF, hg⟩ := hGm
    refine X_insert (k := 1) Tryd.underlying76 Tryd.underlying5 hbm rfl hbs5_ hF fun w5 hF5 hu5 => ?_
    exact ⟨RMap.put hNm hF (k := 1) (v := .slice (some ⟨bs5, 0, none⟩) 1 1) ⟨fun h => absurd h (by decide), fun h => absurd h (by decide), fun h => absurd h (by decide)⟩ hF5 hu5, bm, hbm, HasK.put hF5⟩
  refine ⟨.det (fun val => (.agg #[(.int .i64 (250)), (.func (.func 46) #[] #[])])), ⟨fun _ _ hv => rfl, fun _ _ _ _ _ => trivial⟩, fun val h_ W hx he => ⟨trivial, ?_⟩, ?_⟩
  · replace hx := (rmap_pre N).trans (RMap.ext (Upd.drew _ _)) hx
    replace hB1 := blk_rm hB1 hx
    replace hB3 := blk_rm hB3 hx
    refine id (X_build (built80 250 46) ?_)
    exact ⟨(rmap_pre N).refl _, rfl⟩
  refine ⟨.abs (fun _ x_ W_ => ∃ b, x_ = .slice (some ⟨b, 0, none⟩) 1 1 ∧ Blk W_ b #[(.int .i64 (250)), (.func (.func 46) #[] #[])] 80), ⟨fun _ _ _ => rfl, fun _ _ _ _ hu h => (by obtain ⟨b, h1, h2⟩ := h; exact ⟨b, h1, blk_rm h2 hu⟩)⟩, fun val h_ W hx he => ⟨trivial, ?_⟩, ?_⟩
  · replace hx := (rmap_pre N).trans (RMap.ext (Upd.drew _ _)) hx
    replace hB1 := blk_rm hB1 hx
    replace hB3 := blk_rm hB3 hx
    refine X_buildSliceL (vs := [(.agg #[(.int .i64 (250)), (.func (.func 46) #[] #[])])]) (c := [(.int .i64 (250)), (.func (.func 46) #[] #[])]) S75 (by decide) rfl rfl (List.forall_mem_cons.2 ⟨rfl, (fun _ h => by cases h)⟩) rfl ?_
    intro b w5 hn
    exact ⟨RMap.ext hn.ext, b, rfl, hn.blk⟩
  refine ⟨.abs (fun val _ W_ => ∃ b, val 0 = .map (some b) ∧ HasK W_ b 2), ⟨fun _ _ hv => (by simp only [hv 0 rfl]), fun _ _ _ _ hu h => (by obtain ⟨b, h1, h2⟩ := h; exact ⟨b, h1, h2.rm hu⟩)⟩, fun val h_ W hx he => ⟨trivial, ?_⟩, ?_⟩
  · replace hx := (rmap_pre N).trans (RMap.ext (Upd.drew _ _)) hx
    replace hB1 := blk_rm hB1 hx
    replace hB3 := blk_rm hB3 hx
    obtain ⟨⟨bs8, hbs8_, hBs8⟩, ⟨bm, hbm, hNm, hGm⟩, _⟩ := he
    obtain ⟨F, hF, hg⟩ := hGm
    refine X_insert (k := 2) Tryd.underlying76 Tryd.underlying5 hbm rfl hbs8_ hF fun w5 hF5 hu5 => ?_
    exact ⟨RMap.put hNm hF (k := 2) (v := .slice (some ⟨bs8, 0, none⟩) 1 1) ⟨fun h => absurd h (by decide), fun h => ⟨bs8, rfl, hBs8⟩, fun h => absurd h (by decide)⟩ hF5 hu5, bm, hbm, HasK.put hF5⟩
  refine ⟨.det (fun val => (.agg ([(.int .i64 (2)), (.func (.func 44) #[] #[])]).toArray)), ⟨fun _ _ hv => rfl, fun _ _ _ _ _ => trivial⟩, fun val h_ W hx he => ⟨trivial, ?_⟩, ?_⟩
  · replace hx := (rmap_pre N).trans (RMap.ext (Upd.drew _ _)) hx
    replace hB1 := blk_rm hB1 hx
    replace hB3 := blk_rm hB3 hx
    refine id (X_loadA (p := (ptr b3 (0))) (xs := [(.int .i64 (2)), (.func (.func 44) #[] #[])]) A80 rfl hB3.atAll rfl ?_)
    exact ⟨(rmap_pre N).refl _, rfl⟩
  refine ⟨.det (fun val => (.func (.func 45) #[] #[])), ⟨fun _ _ hv => rfl, fun _ _ _ _ _ => trivial⟩, fun val h_ W hx he => ⟨trivial, ?_⟩, ?_⟩
  · replace hx := (rmap_pre N).trans (RMap.ext (Upd.drew _ _)) hx
    replace hB1 := blk_rm hB1 hx
    replace hB3 := blk_rm hB3 hx
    refine id (X_move (v := (.func (.func 45) #[] #[])) rfl ?_)
    exact ⟨(rmap_pre N).refl _, rfl⟩
  refine ⟨.det (fun val => (.agg #[(.int .i64 (2)), (.func (.func 47) #[] #[])])), ⟨fun _ _ hv => rfl, fun _ _ _ _ _ => trivial⟩, fun val h_ W hx he => ⟨trivial, ?_⟩, ?_⟩
  · replace hx := (rmap_pre N).trans (RMap.ext (Upd.drew _ _)) hx
    replace hB1 := blk_rm hB1 hx
    replace hB3 := blk_rm hB3 hx
    refine X_cl (g := 45) (cap := []) (vs := [(.func (.func 47) #[] #[])]) en45 rfl rfl ?_
    refine CT.mono (c_rf3 47 W) ?_
    rintro _ w5 ⟨rfl, hu⟩
    exact ⟨RMap.ext hu, rfl⟩
  refine ⟨.abs (fun _ x_ W_ => ∃ b, x_ = .slice (some ⟨b, 0, none⟩) 2 2 ∧ Blk W_ b #[(.int .i64 (2)), (.func (.func 44) #[] #[]), (.int .i64 (2)), (.func (.func 47) #[] #[])] 80), ⟨fun _ _ _ => rfl, fun _ _ _ _ hu h => (by obtain ⟨b, h1, h2⟩ := h; exact ⟨b, h1, blk_rm h2 hu⟩)⟩, fun val h_ W hx he => ⟨trivial, ?_⟩, ?_⟩
  · replace hx := (rmap_pre N).trans (RMap.ext (Upd.drew _ _)) hx
    replace hB1 := blk_rm hB1 hx
    replace hB3 := blk_rm hB3 hx
    refine X_buildSliceL (vs := [(.agg ([(.int .i64 (2)), (.func (.func 44) #[] #[])]).toArray), (.agg #[(.int .i64 (2)), (.func (.func 47) #[] #[])])]) (c := [(.int .i64 (2)), (.func (.func 44) #[] #[]), (.int .i64 (2)), (.func (.func 47) #[] #[])]) S75 (by decide) rfl rfl (List.forall_mem_cons.2 ⟨rfl, (List.forall_mem_cons.2 ⟨rfl, (fun _ h => by cases h)⟩)⟩) rfl ?_
    intro b w5 hn
    exact ⟨RMap.ext hn.ext, b, rfl, hn.blk⟩
  refine ⟨.abs (fun val _ W_ => ∃ b, val 0 = .map (some b) ∧ HasK W_ b 3), ⟨fun _ _ hv => (by simp only [hv 0 rfl]), fun _ _ _ _ hu h => (by obtain ⟨b, h1, h2⟩ := h; exact ⟨b, h1, h2.rm hu⟩)⟩, fun val h_ W hx he => ⟨trivial, ?_⟩, ?_⟩
  · replace hx := (rmap_pre N).trans (RMap.ext (Upd.drew _ _)) hx
    replace hB1 := blk_rm hB1 hx
    replace hB3 := blk_rm hB3 hx
    obtain ⟨⟨bs13, hbs13_, hBs13⟩, ⟨bm, hbm, hNm, hGm⟩, _⟩ := he
    obtain ⟨F, hF, hg⟩ := hGm
    refine X_insert (k := 3) Tryd.underlying76 Tryd.underlying5 hbm rfl hbs13_ hF fun w5 hF5 hu5 => ?_
    exact ⟨RMap.put hNm hF (k := 3) (v := .slice (some ⟨bs13, 0, none⟩) 2 2) ⟨fun h => absurd h (by decide), fun h => absurd h (by decide), fun h => ⟨bs13, rfl, hBs13⟩⟩ hF5 hu5, bm, hbm, HasK.put hF5⟩
  refine ⟨.det (fun val => (.agg ([(.int .i64 (2)), (.func (.func 44) #[] #[])]).toArray)), ⟨fun _ _ hv => rfl, fun _ _ _ _ _ => trivial⟩, fun val h_ W hx he => ⟨trivial, ?_⟩, ?_⟩
  · replace hx := (rmap_pre N).trans (RMap.ext (Upd.drew _ _)) hx
    replace hB1 := blk_rm hB1 hx
    replace hB3 := blk_rm hB3 hx
    refine id (X_loadA (p := (ptr b3 (0))) (xs := [(.int .i64 (2)), (.func (.func 44) #[] #[])]) A80 rfl hB3.atAll rfl ?_)
    exact ⟨(rmap_pre N).refl _, rfl⟩
  refine ⟨.det (fun val => (.func (.func 45) #[] #[])), ⟨fun _ _ hv => rfl, fun _ _ _ _ _ => trivial⟩, fun val h_ W hx he => ⟨trivial, ?_⟩, ?_⟩
  · replace hx := (rmap_pre N).trans (RMap.ext (Upd.drew _ _)) hx
    replace hB1 := blk_rm hB1 hx
    replace hB3 := blk_rm hB3 hx
    refine id (X_move (v := (.func (.func 45) #[] #[])) rfl ?_)
    exact ⟨(rmap_pre N).refl _, rfl⟩
  refine ⟨.det (fun val => (.agg #[(.int .i64 (2)), (.func (.func 48) #[] #[])])), ⟨fun _ _ hv => rfl, fun _ _ _ _ _ => trivial⟩, fun val h_ W hx he => ⟨trivial, ?_⟩, ?_⟩
  · replace hx := (rmap_pre N).trans (RMap.ext (Upd.drew _ _)) hx
    replace hB1 := blk_rm hB1 hx
    replace hB3 := blk_rm hB3 hx
    refine X_cl (g := 45) (cap := []) (vs := [(.func (.func 48) #[] #[])]) en45 rfl rfl ?_
    refine CT.mono (c_rf3 48 W) ?_
    rintro _ w5 ⟨rfl, hu⟩
    exact ⟨RMap.ext hu, rfl⟩
  refine ⟨.abs (fun _ x_ W_ => ∃ b, x_ = .slice (some ⟨b, 0, none⟩) 2 2 ∧ Blk W_ b #[(.int .i64 (2)), (.func (.func 44) #[] #[]), (.int .i64 (2)), (.func (.func 48) #[] #[])] 80), ⟨fun _ _ _ => rfl, fun _ _ _ _ hu h => (by obtain ⟨b, h1, h2⟩ := h; exact ⟨b, h1, blk_rm h2 hu⟩)⟩, fun val h_ W hx he => ⟨trivial, ?_⟩, ?_⟩
  · replace hx := (rmap_pre N).trans (RMap.ext (Upd.drew _ _)) hx
    replace hB1 := blk_rm hB1 hx
    replace hB3 := blk_rm hB3 hx
    refine X_buildSliceL (vs := [(.agg ([(.int .i64 (2)), (.func (.func 44) #[] #[])]).toArray), (.agg #[(.int .i64 (2)), (.func (.func 48) #[] #[])])]) (c := [(.int .i64 (2)), (.func (.func 44) #[] #[]), (.int .i64 (2)), (.func (.func 48) #[] #[])]) S75 (by decide) rfl rfl (List.forall_mem_cons.2 ⟨rfl, (List.forall_mem_cons.2 ⟨rfl, (fun _ h => by cases h)⟩)⟩) rfl ?_
    intro b w5 hn
    exact ⟨RMap.ext hn.ext, b, rfl, hn.blk⟩
  refine ⟨.abs (fun val _ W_ => ∃ b, val 0 = .map (some b) ∧ HasK W_ b 4), ⟨fun _ _ hv => (by simp only [hv 0 rfl]), fun _ _ _ _ hu h => (by obtain ⟨b, h1, h2⟩ := h; exact ⟨b, h1, h2.rm hu⟩)⟩, fun val h_ W hx he => ⟨trivial, ?_⟩, ?_⟩
  · replace hx := (rmap_pre N).trans (RMap.ext (Upd.drew _ _)) hx
    replace hB1 := blk_rm hB1 hx
    replace hB3 := blk_rm hB3 hx
    obtain ⟨⟨bs18, hbs18_, hBs18⟩, ⟨bm, hbm, hNm, hGm⟩, _⟩ := he
    obtain ⟨F, hF, hg⟩ := hGm
    refine X_insert (k := 4) Tryd.underlying76 Tryd.underlying5 hbm rfl hbs18_ hF fun w5 hF5 hu5 => ?_
    exact ⟨RMap.put hNm hF (k := 4) (v := .slice (some ⟨bs18, 0, none⟩) 2 2) ⟨fun h => absurd h (by decide), fun h => absurd h (by decide), fun h => absurd h (by decide)⟩ hF5 hu5, bm, hbm, HasK.put hF5⟩
  refine ⟨.det (fun val => (.agg ([(.int .i64 (2)), (.func (.func 44) #[] #[])]).toArray)), ⟨fun _ _ hv => rfl, fun _ _ _ _ _ => trivial⟩, fun val h_ W hx he => ⟨trivial, ?_⟩, ?_⟩
  · replace hx := (rmap_pre N).trans (RMap.ext (Upd.drew _ _)) hx
    replace hB1 := blk_rm hB1 hx
    replace hB3 := blk_rm hB3 hx
    refine id (X_loadA (p := (ptr b3 (0))) (xs := [(.int .i64 (2)), (.func (.func 44) #[] #[])]) A80 rfl hB3.atAll rfl ?_)
    exact ⟨(rmap_pre N).refl _, rfl⟩
  refine ⟨.abs (fun _ x_ W_ => ∃ b, x_ = .slice (some ⟨b, 0, none⟩) 1 1 ∧ Blk W_ b #[(.int .i64 (2)), (.func (.func 44) #[] #[])] 80), ⟨fun _ _ _ => rfl, fun _ _ _ _ hu h => (by obtain ⟨b, h1, h2⟩ := h; exact ⟨b, h1, blk_rm h2 hu⟩)⟩, fun val h_ W hx he => ⟨trivial, ?_⟩, ?_⟩
  · replace hx := (rmap_pre N).trans (RMap.ext (Upd.drew _ _)) hx
    replace hB1 := blk_rm hB1 hx
    replace hB3 := blk_rm hB3 hx
    refine X_buildSliceL (vs := [(.agg ([(.int .i64 (2)), (.func (.func 44) #[] #[])]).toArray)]) (c := [(.int .i64 (2)), (.func (.func 44) #[] #[])]) S75 (by decide) rfl rfl (List.forall_mem_cons.2 ⟨rfl, (fun _ h => by cases h)⟩) rfl ?_
    intro b w5 hn
    exact ⟨RMap.ext hn.ext, b, rfl, hn.blk⟩
  refine ⟨.abs (fun val _ W_ => ∃ b, val 0 = .map (some b) ∧ HasK W_ b 5), ⟨fun _ _ hv => (by simp only [hv 0 rfl]), fun _ _ _ _ hu h => (by obtain ⟨b, h1, h2⟩ := h; exact ⟨b, h1, h2.rm hu⟩)⟩, fun val h_ W hx he => ⟨trivial, ?_⟩, ?_⟩
  · replace hx := (rmap_pre N).trans (RMap.ext (Upd.drew _ _)) hx
    replace hB1 := blk_rm hB1 hx
    replace hB3 := blk_rm hB3 hx
    obtain ⟨⟨bs21, hbs21_, hBs21⟩, ⟨bm, hbm, hNm, hGm⟩, _⟩ := he
    obtain ⟨F, hF, hg⟩ := hGm
    refine X_insert (k := 5) Tryd.underlying76 Tryd.underlying5 hbm rfl hbs21_ hF fun w5 hF5 hu5 => ?_
    exact ⟨RMap.put hNm hF (k := 5) (v := .slice (some ⟨bs21, 0, none⟩) 1 1) ⟨fun h => absurd h (by decide), fun h => absurd h (by decide), fun h => absurd h (by decide)⟩ hF5 hu5, bm, hbm, HasK.put hF5⟩
  refine ⟨.det (fun val => (.agg ([(.int .i64 (2)), (.func (.func 44) #[] #[])]).toArray)), ⟨fun _ _ hv => rfl, fun _ _ _ _ _ => trivial⟩, fun val h_ W hx he => ⟨trivial, ?_⟩, ?_⟩
  · replace hx := (rmap_pre N).trans (RMap.ext (Upd.drew _ _)) hx
    replace hB1 := blk_rm hB1 hx
    replace hB3 := blk_rm hB3 hx
    refine id (X_loadA (p := (ptr b3 (0))) (xs := [(.int .i64 (2)), (.func (.func 44) #[] #[])]) A80 rfl hB3.atAll rfl ?_)
    exact ⟨(rmap_pre N).refl _, rfl⟩
  refine ⟨.abs (fun _ x_ W_ => ∃ b, x_ = .slice (some ⟨b, 0, none⟩) 1 1 ∧ Blk W_ b #[(.int .i64 (2)), (.func (.func 44) #[] #[])] 80), ⟨fun _ _ _ => rfl, fun _ _ _ _ hu h => (by obtain ⟨b, h1, h2⟩ := h; exact ⟨b, h1, blk_rm h2 hu⟩)⟩, fun val h_ W hx he => ⟨trivial, ?_⟩, ?_⟩
  · replace hx := (rmap_pre N).trans (RMap.ext (Upd.drew _ _)) hx
    replace hB1 := blk_rm hB1 hx
    replace hB3 := blk_rm hB3 hx
    refine X_buildSliceL (vs := [(.agg ([(.int .i64 (2)), (.func (.func 44) #[] #[])]).toArray)]) (c := [(.int .i64 (2)), (.func (.func 44) #[] #[])]) S75 (by decide) rfl rfl (List.forall_mem_cons.2 ⟨rfl, (fun _ h => by cases h)⟩) rfl ?_
    intro b w5 hn
    exact ⟨RMap.ext hn.ext, b, rfl, hn.blk⟩
  refine ⟨.abs (fun val _ W_ => ∃ b, val 0 = .map (some b) ∧ HasK W_ b 6), ⟨fun _ _ hv => (by simp only [hv 0 rfl]), fun _ _ _ _ hu h => (by obtain ⟨b, h1, h2⟩ := h; exact ⟨b, h1, h2.rm hu⟩)⟩, fun val h_ W hx he => ⟨trivial, ?_⟩, ?_⟩
  · replace hx := (rmap_pre N).trans (RMap.ext (Upd.drew _ _)) hx
    replace hB1 := blk_rm hB1 hx
    replace hB3 := blk_rm hB3 hx
    obtain ⟨⟨bs24, hbs24_, hBs24⟩, ⟨bm, hbm, hNm, hGm⟩, _⟩ := he
    obtain ⟨F, hF, hg⟩ := hGm
    refine X_insert (k := 6) Tryd.underlying76 Tryd.underlying5 hbm rfl hbs24_ hF fun w5 hF5 hu5 => ?_
    exact ⟨RMap.put hNm hF (k := 6) (v := .slice (some ⟨bs24, 0, none⟩) 1 1) ⟨fun h => absurd h (by decide), fun h => absurd h (by decide), fun h => absurd h (by decide)⟩ hF5 hu5, bm, hbm, HasK.put hF5⟩
  refine ⟨.det (fun val => (.agg #[(.int .i64 (140)), (.func (.func 49) #[] #[])])), ⟨fun _ _ hv => rfl, fun _ _ _ _ _ => trivial⟩, fun val h_ W hx he => ⟨trivial, ?_⟩, ?_⟩
  · replace hx := (rmap_pre N).trans (RMap.ext (Upd.drew _ _)) hx
    replace hB1 := blk_rm hB1 hx
    replace hB3 := blk_rm hB3 hx
    refine id (X_build (built80 140 49) ?_)
    exact ⟨(rmap_pre N).refl _, rfl⟩
  refine ⟨.abs (fun _ x_ W_ => ∃ b, x_ = .slice (some ⟨b, 0, none⟩) 1 1 ∧ Blk W_ b #[(.int .i64 (140)), (.func (.func 49) #[] #[])] 80), ⟨fun _ _ _ => rfl, fun _ _ _ _ hu h => (by obtain ⟨b, h1, h2⟩ := h; exact ⟨b, h1, blk_rm h2 hu⟩)⟩, fun val h_ W hx he => ⟨trivial, ?_⟩, ?_⟩
  · replace hx := (rmap_pre N).trans (RMap.ext (Upd.drew _ _)) hx
    replace hB1 := blk_rm hB1 hx
    replace hB3 := blk_rm hB3 hx
    refine X_buildSliceL (vs := [(.agg #[(.int .i64 (140)), (.func (.func 49) #[] #[])])]) (c := [(.int .i64 (140)), (.func (.func 49) #[] #[])]) S75 (by decide) rfl rfl (List.forall_mem_cons.2 ⟨rfl, (fun _ h => by cases h)⟩) rfl ?_
    intro b w5 hn
    exact ⟨RMap.ext hn.ext, b, rfl, hn.blk⟩
  refine ⟨.abs (fun val _ W_ => ∃ b, val 0 = .map (some b) ∧ HasK W_ b 7), ⟨fun _ _ hv => (by simp only [hv 0 rfl]), fun _ _ _ _ hu h => (by obtain ⟨b, h1, h2⟩ := h; exact ⟨b, h1, h2.rm hu⟩)⟩, fun val h_ W hx he => ⟨trivial, ?_⟩, ?_⟩
  · replace hx := (rmap_pre N).trans (RMap.ext (Upd.drew _ _)) hx
    replace hB1 := blk_rm hB1 hx
    replace hB3 := blk_rm hB3 hx
    obtain ⟨⟨bs27, hbs27_, hBs27⟩, ⟨bm, hbm, hNm, hGm⟩, _⟩ := he
    obtain ⟨F, hF, hg⟩ := hGm
    refine X_insert (k := 7) Tryd.underlying76 Tryd.underlying5 hbm rfl hbs27_ hF fun w5 hF5 hu5 => ?_
    exact ⟨RMap.put hNm hF (k := 7) (v := .slice (some ⟨bs27, 0, none⟩) 1 1) ⟨fun h => absurd h (by decide), fun h => absurd h (by decide), fun h => absurd h (by decide)⟩ hF5 hu5, bm, hbm, HasK.put hF5⟩
  refine ⟨.det (fun val => (.agg ([(.int .i64 (140)), (.func (.func 42) #[] #[])]).toArray)), ⟨fun _ _ hv => rfl, fun _ _ _ _ _ => trivial⟩, fun val h_ W hx he => ⟨trivial, ?_⟩, ?_⟩
  · replace hx := (rmap_pre N).trans (RMap.ext (Upd.drew _ _)) hx
    replace hB1 := blk_rm hB1 hx
    replace hB3 := blk_rm hB3 hx
    refine id (X_loadA (p := (ptr b1 (0))) (xs := [(.int .i64 (140)), (.func (.func 42) #[] #[])]) A80 rfl hB1.atAll rfl ?_)
    exact ⟨(rmap_pre N).refl _, rfl⟩
  refine ⟨.det (fun val => (.agg #[(.int .i64 (140)), (.func (.func 51) #[] #[])])), ⟨fun _ _ hv => rfl, fun _ _ _ _ _ => trivial⟩, fun val h_ W hx he => ⟨trivial, ?_⟩, ?_⟩
  · replace hx := (rmap_pre N).trans (RMap.ext (Upd.drew _ _)) hx
    replace hB1 := blk_rm hB1 hx
    replace hB3 := blk_rm hB3 hx
    refine id (X_build (built80 140 51) ?_)
    exact ⟨(rmap_pre N).refl _, rfl⟩
  refine ⟨.abs (fun _ x_ W_ => ∃ b, x_ = .slice (some ⟨b, 0, none⟩) 2 2 ∧ Blk W_ b #[(.int .i64 (140)), (.func (.func 42) #[] #[]), (.int .i64 (140)), (.func (.func 51) #[] #[])] 80), ⟨fun _ _ _ => rfl, fun _ _ _ _ hu h => (by obtain ⟨b, h1, h2⟩ := h; exact ⟨b, h1, blk_rm h2 hu⟩)⟩, fun val h_ W hx he => ⟨trivial, ?_⟩, ?_⟩
  · replace hx := (rmap_pre N).trans (RMap.ext (Upd.drew _ _)) hx
    replace hB1 := blk_rm hB1 hx
    replace hB3 := blk_rm hB3 hx
    refine X_buildSliceL (vs := [(.agg ([(.int .i64 (140)), (.func (.func 42) #[] #[])]).toArray), (.agg #[(.int .i64 (140)), (.func (.func 51) #[] #[])])]) (c := [(.int .i64 (140)), (.func (.func 42) #[] #[]), (.int .i64 (140)), (.func (.func 51) #[] #[])]) S75 (by decide) rfl rfl (List.forall_mem_cons.2 ⟨rfl, (List.forall_mem_cons.2 ⟨rfl, (fun _ h => by cases h)⟩)⟩) rfl ?_
    intro b w5 hn
    exact ⟨RMap.ext hn.ext, b, rfl, hn.blk⟩
  refine ⟨.abs (fun val _ W_ => ∃ b, val 0 = .map (some b) ∧ HasK W_ b 8), ⟨fun _ _ hv => (by simp only [hv 0 rfl]), fun _ _ _ _ hu h => (by obtain ⟨b, h1, h2⟩ := h; exact ⟨b, h1, h2.rm hu⟩)⟩, fun val h_ W hx he => ⟨trivial, ?_⟩, ?_⟩
  · replace hx := (rmap_pre N).trans (RMap.ext (Upd.drew _ _)) hx
    replace hB1 := blk_rm hB1 hx
    replace hB3 := blk_rm hB3 hx
    obtain ⟨⟨bs31, hbs31_, hBs31⟩, ⟨bm, hbm, hNm, hGm⟩, _⟩ := he
    obtain ⟨F, hF, hg⟩ := hGm
    refine X_insert (k := 8) Tryd.underlying76 Tryd.underlying5 hbm rfl hbs31_ hF fun w5 hF5 hu5 => ?_
    exact ⟨RMap.put hNm hF (k := 8) (v := .slice (some ⟨bs31, 0, none⟩) 2 2) ⟨fun h => absurd h (by decide), fun h => absurd h (by decide), fun h => absurd h (by decide)⟩ hF5 hu5, bm, hbm, HasK.put hF5⟩
  refine ⟨.det (fun val => (.agg #[(.int .i64 (250)), (.func (.func 52) #[] #[])])), ⟨fun _ _ hv => rfl, fun _ _ _ _ _ => trivial⟩, fun val h_ W hx he => ⟨trivial, ?_⟩, ?_⟩
  · replace hx := (rmap_pre N).trans (RMap.ext (Upd.drew _ _)) hx
    replace hB1 := blk_rm hB1 hx
    replace hB3 := blk_rm hB3 hx
    refine id (X_build (built80 250 52) ?_)
    exact ⟨(rmap_pre N).refl _, rfl⟩
  refine ⟨.abs (fun _ x_ W_ => ∃ b, x_ = .slice (some ⟨b, 0, none⟩) 1 1 ∧ Blk W_ b #[(.int .i64 (250)), (.func (.func 52) #[] #[])] 80), ⟨fun _ _ _ => rfl, fun _ _ _ _ hu h => (by obtain ⟨b, h1, h2⟩ := h; exact ⟨b, h1, blk_rm h2 hu⟩)⟩, fun val h_ W hx he => ⟨trivial, ?_⟩, ?_⟩
  · replace hx := (rmap_pre N).trans (RMap.ext (Upd.drew _ _)) hx
    replace hB1 := blk_rm hB1 hx
    replace hB3 := blk_rm hB3 hx
    refine X_buildSliceL (vs := [(.agg #[(.int .i64 (250)), (.func (.func 52) #[] #[])])]) (c := [(.int .i64 (250)), (.func (.func 52) #[] #[])]) S75 (by decide) rfl rfl (List.forall_mem_cons.2 ⟨rfl, (fun _ h => by cases h)⟩) rfl ?_
    intro b w5 hn
    exact ⟨RMap.ext hn.ext, b, rfl, hn.blk⟩
  refine ⟨.abs (fun val _ W_ => ∃ b, val 0 = .map (some b) ∧ HasK W_ b 9), ⟨fun _ _ hv => (by simp only [hv 0 rfl]), fun _ _ _ _ hu h => (by obtain ⟨b, h1, h2⟩ := h; exact ⟨b, h1, h2.rm hu⟩)⟩, fun val h_ W hx he => ⟨trivial, ?_⟩, ?_⟩
  · replace hx := (rmap_pre N).trans (RMap.ext (Upd.drew _ _)) hx
    replace hB1 := blk_rm hB1 hx
    replace hB3 := blk_rm hB3 hx
    obtain ⟨⟨bs34, hbs34_, hBs34⟩, ⟨bm, hbm, hNm, hGm⟩, _⟩ := he
    obtain ⟨F, hF, hg⟩ := hGm
    refine X_insert (k := 9) Tryd.underlying76 Tryd.underlying5 hbm rfl hbs34_ hF fun w5 hF5 hu5 => ?_
    exact ⟨RMap.put hNm hF (k := 9) (v := .slice (some ⟨bs34, 0, none⟩) 1 1) ⟨fun h => absurd h (by decide), fun h => absurd h (by decide), fun h => absurd h (by decide)⟩ hF5 hu5, bm, hbm, HasK.put hF5⟩
  refine ⟨.det (fun val => (.func (.func 45) #[] #[])), ⟨fun _ _ hv => rfl, fun _ _ _ _ _ => trivial⟩, fun val h_ W hx he => ⟨trivial, ?_⟩, ?_⟩
  · replace hx := (rmap_pre N).trans (RMap.ext (Upd.drew _ _)) hx
    replace hB1 := blk_rm hB1 hx
    replace hB3 := blk_rm hB3 hx
    refine id (X_move (v := (.func (.func 45) #[] #[])) rfl ?_)
    exact ⟨(rmap_pre N).refl _, rfl⟩
  refine ⟨.det (fun val => (.agg #[(.int .i64 (2)), (.func (.func 53) #[] #[])])), ⟨fun _ _ hv => rfl, fun _ _ _ _ _ => trivial⟩, fun val h_ W hx he => ⟨trivial, ?_⟩, ?_⟩
  · replace hx := (rmap_pre N).trans (RMap.ext (Upd.drew _ _)) hx
    replace hB1 := blk_rm hB1 hx
    replace hB3 := blk_rm hB3 hx
    refine X_cl (g := 45) (cap := []) (vs := [(.func (.func 53) #[] #[])]) en45 rfl rfl ?_
    refine CT.mono (c_rf3 53 W) ?_
    rintro _ w5 ⟨rfl, hu⟩
    exact ⟨RMap.ext hu, rfl⟩
  refine ⟨.det (fun val => (.agg #[(.int .i64 (30)), (.func (.func 54) #[] #[])])), ⟨fun _ _ hv => rfl, fun _ _ _ _ _ => trivial⟩, fun val h_ W hx he => ⟨trivial, ?_⟩, ?_⟩
  · replace hx := (rmap_pre N).trans (RMap.ext (Upd.drew _ _)) hx
    replace hB1 := blk_rm hB1 hx
    replace hB3 := blk_rm hB3 hx
    refine id (X_build (built80 30 54) ?_)
    exact ⟨(rmap_pre N).refl _, rfl⟩
  refine ⟨.abs (fun _ x_ W_ => ∃ b, x_ = .slice (some ⟨b, 0, none⟩) 2 2 ∧ Blk W_ b #[(.int .i64 (2)), (.func (.func 53) #[] #[]), (.int .i64 (30)), (.func (.func 54) #[] #[])] 80), ⟨fun _ _ _ => rfl, fun _ _ _ _ hu h => (by obtain ⟨b, h1, h2⟩ := h; exact ⟨b, h1, blk_rm h2 hu⟩)⟩, fun val h_ W hx he => ⟨trivial, ?_⟩, ?_⟩
  · replace hx := (rmap_pre N).trans (RMap.ext (Upd.drew _ _)) hx
    replace hB1 := blk_rm hB1 hx
    replace hB3 := blk_rm hB3 hx
    refine X_buildSliceL (vs := [(.agg #[(.int .i64 (2)), (.func (.func 53) #[] #[])]), (.agg #[(.int .i64 (30)), (.func (.func 54) #[] #[])])]) (c := [(.int .i64 (2)), (.func (.func 53) #[] #[]), (.int .i64 (30)), (.func (.func 54) #[] #[])]) S75 (by decide) rfl rfl (List.forall_mem_cons.2 ⟨rfl, (List.forall_mem_cons.2 ⟨rfl, (fun _ h => by cases h)⟩)⟩) rfl ?_
    intro b w5 hn
    exact ⟨RMap.ext hn.ext, b, rfl, hn.blk⟩
  refine ⟨.abs (fun val _ W_ => ∃ b, val 0 = .map (some b) ∧ HasK W_ b 10), ⟨fun _ _ hv => (by simp only [hv 0 rfl]), fun _ _ _ _ hu h => (by obtain ⟨b, h1, h2⟩ := h; exact ⟨b, h1, h2.rm hu⟩)⟩, fun val h_ W hx he => ⟨trivial, ?_⟩, ?_⟩
  · replace hx := (rmap_pre N).trans (RMap.ext (Upd.drew _ _)) hx
    replace hB1 := blk_rm hB1 hx
    replace hB3 := blk_rm hB3 hx
    obtain ⟨⟨bs39, hbs39_, hBs39⟩, ⟨bm, hbm, hNm, hGm⟩, _⟩ := he
    obtain ⟨F, hF, hg⟩ := hGm
    refine X_insert (k := 10) Tryd.underlying76 Tryd.underlying5 hbm rfl hbs39_ hF fun w5 hF5 hu5 => ?_
    exact ⟨RMap.put hNm hF (k := 10) (v := .slice (some ⟨bs39, 0, none⟩) 2 2) ⟨fun h => absurd h (by decide), fun h => absurd h (by decide), fun h => absurd h (by decide)⟩ hF5 hu5, bm, hbm, HasK.put hF5⟩
  refine ⟨.det (fun val => (.func (.func 45) #[] #[])), ⟨fun _ _ hv => rfl, fun _ _ _ _ _ => trivial⟩, fun val h_ W hx he => ⟨trivial, ?_⟩, ?_⟩
  · replace hx := (rmap_pre N).trans (RMap.ext (Upd.drew _ _)) hx
    replace hB1 := blk_rm hB1 hx
    replace hB3 := blk_rm hB3 hx
    refine id (X_move (v := (.func (.func 45) #[] #[])) rfl ?_)
    exact ⟨(rmap_pre N).refl _, rfl⟩
  refine ⟨.det (fun val => (.agg #[(.int .i64 (2)), (.func (.func 56) #[] #[])])), ⟨fun _ _ hv => rfl, fun _ _ _ _ _ => trivial⟩, fun val h_ W hx he => ⟨trivial, ?_⟩, ?_⟩
  · replace hx := (rmap_pre N).trans (RMap.ext (Upd.drew _ _)) hx
    replace hB1 := blk_rm hB1 hx
    replace hB3 := blk_rm hB3 hx
    refine X_cl (g := 45) (cap := []) (vs := [(.func (.func 56) #[] #[])]) en45 rfl rfl ?_
    refine CT.mono (c_rf3 56 W) ?_
    rintro _ w5 ⟨rfl, hu⟩
    exact ⟨RMap.ext hu, rfl⟩
  refine ⟨.abs (fun _ x_ W_ => ∃ b, x_ = .slice (some ⟨b, 0, none⟩) 1 1 ∧ Blk W_ b #[(.int .i64 (2)), (.func (.func 56) #[] #[])] 80), ⟨fun _ _ _ => rfl, fun _ _ _ _ hu h => (by obtain ⟨b, h1, h2⟩ := h; exact ⟨b, h1, blk_rm h2 hu⟩)⟩, fun val h_ W hx he => ⟨trivial, ?_⟩, ?_⟩
  · replace hx := (rmap_pre N).trans (RMap.ext (Upd.drew _ _)) hx
    replace hB1 := blk_rm hB1 hx
    replace hB3 := blk_rm hB3 hx
    refine X_buildSliceL (vs := [(.agg #[(.int .i64 (2)), (.func (.func 56) #[] #[])])]) (c := [(.int .i64 (2)), (.func (.func 56) #[] #[])]) S75 (by decide) rfl rfl (List.forall_mem_cons.2 ⟨rfl, (fun _ h => by cases h)⟩) rfl ?_
    intro b w5 hn
    exact ⟨RMap.ext hn.ext, b, rfl, hn.blk⟩
  refine ⟨.abs (fun val _ W_ => ∃ b, val 0 = .map (some b) ∧ HasK W_ b 11), ⟨fun _ _ hv => (by simp only [hv 0 rfl]), fun _ _ _ _ hu h => (by obtain ⟨b, h1, h2⟩ := h; exact ⟨b, h1, h2.rm hu⟩)⟩, fun val h_ W hx he => ⟨trivial, ?_⟩, ?_⟩
  · replace hx := (rmap_pre N).trans (RMap.ext (Upd.drew _ _)) hx
    replace hB1 := blk_rm hB1 hx
    replace hB3 := blk_rm hB3 hx
    obtain ⟨⟨bs43, hbs43_, hBs43⟩, ⟨bm, hbm, hNm, hGm⟩, _⟩ := he
    obtain ⟨F, hF, hg⟩ := hGm
    refine X_insert (k := 11) Tryd.underlying76 Tryd.underlying5 hbm rfl hbs43_ hF fun w5 hF5 hu5 => ?_
    exact ⟨RMap.put hNm hF (k := 11) (v := .slice (some ⟨bs43, 0, none⟩) 1 1) ⟨fun h => absurd h (by decide), fun h => absurd h (by decide), fun h => absurd h (by decide)⟩ hF5 hu5, bm, hbm, HasK.put hF5⟩
  refine ⟨.det (fun val => (.func (.func 45) #[] #[])), ⟨fun _ _ hv => rfl, fun _ _ _ _ _ => trivial⟩, fun val h_ W hx he => ⟨trivial, ?_⟩, ?_⟩
  · replace hx := (rmap_pre N).trans (RMap.ext (Upd.drew _ _)) hx
    replace hB1 := blk_rm hB1 hx
    replace hB3 := blk_rm hB3 hx
    refine id (X_move (v := (.func (.func 45) #[] #[])) rfl ?_)
    exact ⟨(rmap_pre N).refl _, rfl⟩
  refine ⟨.det (fun val => (.agg #[(.int .i64 (2)), (.func (.func 57) #[] #[])])), ⟨fun _ _ hv => rfl, fun _ _ _ _ _ => trivial⟩, fun val h_ W hx he => ⟨trivial, ?_⟩, ?_⟩
  · replace hx := (rmap_pre N).trans (RMap.ext (Upd.drew _ _)) hx
    replace hB1 := blk_rm hB1 hx
    replace hB3 := blk_rm hB3 hx
    refine X_cl (g := 45) (cap := []) (vs := [(.func (.func 57) #[] #[])]) en45 rfl rfl ?_
    refine CT.mono (c_rf3 57 W) ?_
    rintro _ w5 ⟨rfl, hu⟩
    exact ⟨RMap.ext hu, rfl⟩
  refine ⟨.det (fun val => (.agg #[(.int .i64 (250)), (.func (.func 58) #[] #[])])), ⟨fun _ _ hv => rfl, fun _ _ _ _ _ => trivial⟩, fun val h_ W hx he => ⟨trivial, ?_⟩, ?_⟩
  · replace hx := (rmap_pre N).trans (RMap.ext (Upd.drew _ _)) hx
    replace hB1 := blk_rm hB1 hx
    replace hB3 := blk_rm hB3 hx
    refine id (X_build (built80 250 58) ?_)
    exact ⟨(rmap_pre N).refl _, rfl⟩
  refine ⟨.det (fun val => (.agg #[(.int .i64 (30)), (.func (.func 59) #[] #[])])), ⟨fun _ _ hv => rfl, fun _ _ _ _ _ => trivial⟩, fun val h_ W hx he => ⟨trivial, ?_⟩, ?_⟩
  · replace hx := (rmap_pre N).trans (RMap.ext (Upd.drew _ _)) hx
    replace hB1 := blk_rm hB1 hx
    replace hB3 := blk_rm hB3 hx
    refine id (X_build (built80 30 59) ?_)
    exact ⟨(rmap_pre N).refl _, rfl⟩
  refine ⟨.abs (fun _ x_ W_ => ∃ b, x_ = .slice (some ⟨b, 0, none⟩) 3 3 ∧ Blk W_ b #[(.int .i64 (2)), (.func (.func 57) #[] #[]), (.int .i64 (250)), (.func (.func 58) #[] #[]), (.int .i64 (30)), (.func (.func 59) #[] #[])] 80), ⟨fun _ _ _ => rfl, fun _ _ _ _ hu h => (by obtain ⟨b, h1, h2⟩ := h; exact ⟨b, h1, blk_rm h2 hu⟩)⟩, fun val h_ W hx he => ⟨trivial, ?_⟩, ?_⟩
  · replace hx := (rmap_pre N).trans (RMap.ext (Upd.drew _ _)) hx
    replace hB1 := blk_rm hB1 hx
    replace hB3 := blk_rm hB3 hx
    refine X_buildSliceL (vs := [(.agg #[(.int .i64 (2)), (.func (.func 57) #[] #[])]), (.agg #[(.int .i64 (250)), (.func (.func 58) #[] #[])]), (.agg #[(.int .i64 (30)), (.func (.func 59) #[] #[])])]) (c := [(.int .i64 (2)), (.func (.func 57) #[] #[]), (.int .i64 (250)), (.func (.func 58) #[] #[]), (.int .i64 (30)), (.func (.func 59) #[] #[])]) S75 (by decide) rfl rfl (List.forall_mem_cons.2 ⟨rfl, (List.forall_mem_cons.2 ⟨rfl, (List.forall_mem_cons.2 ⟨rfl, (fun _ h => by cases h)⟩)⟩)⟩) rfl ?_
    intro b w5 hn
    exact ⟨RMap.ext hn.ext, b, rfl, hn.blk⟩
  refine ⟨.abs (fun val _ W_ => ∃ b, val 0 = .map (some b) ∧ HasK W_ b 12), ⟨fun _ _ hv => (by simp only [hv 0 rfl]), fun _ _ _ _ hu h => (by obtain ⟨b, h1, h2⟩ := h; exact ⟨b, h1, h2.rm hu⟩)⟩, fun val h_ W hx he => ⟨trivial, ?_⟩, ?_⟩
  · replace hx := (rmap_pre N).trans (RMap.ext (Upd.drew _ _)) hx
    replace hB1 := blk_rm hB1 hx
    replace hB3 := blk_rm hB3 hx
    obtain ⟨⟨bs49, hbs49_, hBs49⟩, ⟨bm, hbm, hNm, hGm⟩, _⟩ := he
    obtain ⟨F, hF, hg⟩ := hGm
    refine X_insert (k := 12) Tryd.underlying76 Tryd.underlying5 hbm rfl hbs49_ hF fun w5 hF5 hu5 => ?_
    exact ⟨RMap.put hNm hF (k := 12) (v := .slice (some ⟨bs49, 0, none⟩) 3 3) ⟨fun h => absurd h (by decide), fun h => absurd h (by decide), fun h => absurd h (by decide)⟩ hF5 hu5, bm, hbm, HasK.put hF5⟩
  refine ⟨.det (fun val => (.func (.func 45) #[] #[])), ⟨fun _ _ hv => rfl, fun _ _ _ _ _ => trivial⟩, fun val h_ W hx he => ⟨trivial, ?_⟩, ?_⟩
  · replace hx := (rmap_pre N).trans (RMap.ext (Upd.drew _ _)) hx
    replace hB1 := blk_rm hB1 hx
    replace hB3 := blk_rm hB3 hx
    refine id (X_move (v := (.func (.func 45) #[] #[])) rfl ?_)
    exact ⟨(rmap_pre N).refl _, rfl⟩
  refine ⟨.det (fun val => (.agg #[(.int .i64 (2)), (.func (.func 60) #[] #[])])), ⟨fun _ _ hv => rfl, fun _ _ _ _ _ => trivial⟩, fun val h_ W hx he => ⟨trivial, ?_⟩, ?_⟩
  · replace hx := (rmap_pre N).trans (RMap.ext (Upd.drew _ _)) hx
    replace hB1 := blk_rm hB1 hx
    replace hB3 := blk_rm hB3 hx
    refine X_cl (g := 45) (cap := []) (vs := [(.func (.func 60) #[] #[])]) en45 rfl rfl ?_
    refine CT.mono (c_rf3 60 W) ?_
    rintro _ w5 ⟨rfl, hu⟩
    exact ⟨RMap.ext hu, rfl⟩
  refine ⟨.abs (fun _ x_ W_ => ∃ b, x_ = .slice (some ⟨b, 0, none⟩) 1 1 ∧ Blk W_ b #[(.int .i64 (2)), (.func (.func 60) #[] #[])] 80), ⟨fun _ _ _ => rfl, fun _ _ _ _ hu h => (by obtain ⟨b, h1, h2⟩ := h; exact ⟨b, h1, blk_rm h2 hu⟩)⟩, fun val h_ W hx he => ⟨trivial, ?_⟩, ?_⟩
  · replace hx := (rmap_pre N).trans (RMap.ext (Upd.drew _ _)) hx
    replace hB1 := blk_rm hB1 hx
    replace hB3 := blk_rm hB3 hx
    refine X_buildSliceL (vs := [(.agg #[(.int .i64 (2)), (.func (.func 60) #[] #[])])]) (c := [(.int .i64 (2)), (.func (.func 60) #[] #[])]) S75 (by decide) rfl rfl (List.forall_mem_cons.2 ⟨rfl, (fun _ h => by cases h)⟩) rfl ?_
    intro b w5 hn
    exact ⟨RMap.ext hn.ext, b, rfl, hn.blk⟩
  refine ⟨.abs (fun val _ W_ => ∃ b, val 0 = .map (some b) ∧ HasK W_ b 13), ⟨fun _ _ hv => (by simp only [hv 0 rfl]), fun _ _ _ _ hu h => (by obtain ⟨b, h1, h2⟩ := h; exact ⟨b, h1, h2.rm hu⟩)⟩, fun val h_ W hx he => ⟨trivial, ?_⟩, ?_⟩
  · replace hx := (rmap_pre N).trans (RMap.ext (Upd.drew _ _)) hx
    replace hB1 := blk_rm hB1 hx
    replace hB3 := blk_rm hB3 hx
    obtain ⟨⟨bs53, hbs53_, hBs53⟩, ⟨bm, hbm, hNm, hGm⟩, _⟩ := he
    obtain ⟨F, hF, hg⟩ := hGm
    refine X_insert (k := 13) Tryd.underlying76 Tryd.underlying5 hbm rfl hbs53_ hF fun w5 hF5 hu5 => ?_
    exact ⟨RMap.put hNm hF (k := 13) (v := .slice (some ⟨bs53, 0, none⟩) 1 1) ⟨fun h => absurd h (by decide), fun h => absurd h (by decide), fun h => absurd h (by decide)⟩ hF5 hu5, bm, hbm, HasK.put hF5⟩
  refine ⟨.det (fun val => (.func (.func 45) #[] #[])), ⟨fun _ _ hv => rfl, fun _ _ _ _ _ => trivial⟩, fun val h_ W hx he => ⟨trivial, ?_⟩, ?_⟩
  · replace hx := (rmap_pre N).trans (RMap.ext (Upd.drew _ _)) hx
    replace hB1 := blk_rm hB1 hx
    replace hB3 := blk_rm hB3 hx
    refine id (X_move (v := (.func (.func 45) #[] #[])) rfl ?_)
    exact ⟨(rmap_pre N).refl _, rfl⟩
  refine ⟨.det (fun val => (.agg #[(.int .i64 (2)), (.func (.func 61) #[] #[])])), ⟨fun _ _ hv => rfl, fun _ _ _ _ _ => trivial⟩, fun val h_ W hx he => ⟨trivial, ?_⟩, ?_⟩
  · replace hx := (rmap_pre N).trans (RMap.ext (Upd.drew _ _)) hx
    replace hB1 := blk_rm hB1 hx
    replace hB3 := blk_rm hB3 hx
    refine X_cl (g := 45) (cap := []) (vs := [(.func (.func 61) #[] #[])]) en45 rfl rfl ?_
    refine CT.mono (c_rf3 61 W) ?_
    rintro _ w5 ⟨rfl, hu⟩
    exact ⟨RMap.ext hu, rfl⟩
  refine ⟨.abs (fun _ x_ W_ => ∃ b, x_ = .slice (some ⟨b, 0, none⟩) 1 1 ∧ Blk W_ b #[(.int .i64 (2)), (.func (.func 61) #[] #[])] 80), ⟨fun _ _ _ => rfl, fun _ _ _ _ hu h => (by obtain ⟨b, h1, h2⟩ := h; exact ⟨b, h1, blk_rm h2 hu⟩)⟩, fun val h_ W hx he => ⟨trivial, ?_⟩, ?_⟩
  · replace hx := (rmap_pre N).trans (RMap.ext (Upd.drew _ _)) hx
    replace hB1 := blk_rm hB1 hx
    replace hB3 := blk_rm hB3 hx
    refine X_buildSliceL (vs := [(.agg #[(.int .i64 (2)), (.func (.func 61) #[] #[])])]) (c := [(.int .i64 (2)), (.func (.func 61) #[] #[])]) S75 (by decide) rfl rfl (List.forall_mem_cons.2 ⟨rfl, (fun _ h => by cases h)⟩) rfl ?_
    intro b w5 hn
    exact ⟨RMap.ext hn.ext, b, rfl, hn.blk⟩
  refine ⟨.abs (fun val _ W_ => ∃ b, val 0 = .map (some b) ∧ HasK W_ b 14), ⟨fun _ _ hv => (by simp only [hv 0 rfl]), fun _ _ _ _ hu h => (by obtain ⟨b, h1, h2⟩ := h; exact ⟨b, h1, h2.rm hu⟩)⟩, fun val h_ W hx he => ⟨trivial, ?_⟩, ?_⟩
  · replace hx := (rmap_pre N).trans (RMap.ext (Upd.drew _ _)) hx
    replace hB1 := blk_rm hB1 hx
    replace hB3 := blk_rm hB3 hx
    obtain ⟨⟨bs57, hbs57_, hBs57⟩, ⟨bm, hbm, hNm, hGm⟩, _⟩ := he
    obtain ⟨F, hF, hg⟩ := hGm
    refine X_insert (k := 14) Tryd.underlying76 Tryd.underlying5 hbm rfl hbs57_ hF fun w5 hF5 hu5 => ?_
    exact ⟨RMap.put hNm hF (k := 14) (v := .slice (some ⟨bs57, 0, none⟩) 1 1) ⟨fun h => absurd h (by decide), fun h => absurd h (by decide), fun h => absurd h (by decide)⟩ hF5 hu5, bm, hbm, HasK.put hF5⟩
  intro val W9 hx9 he9
  replace hx9 := (rmap_pre N).trans (RMap.ext (Upd.drew _ _)) hx9
  obtain ⟨_, _, _, _, _, _, _, _, _, _, _, _, _, _, _, _, _, _, _, _, _, _, ⟨bi14, hbi14, hHi14⟩, _, ⟨bi9, hbi9, hHi9⟩, _, _, _, ⟨bi3, hbi3, hHi3⟩, _, ⟨bm, hbm, hNm, hGm⟩, _⟩ := he9
  obtain rfl : bm = bi3 := by rw [hbm] at hbi3; cases hbi3; rfl
  obtain rfl : bm = bi9 := by rw [hbm] at hbi9; cases hbi9; rfl
  obtain rfl : bm = bi14 := by rw [hbm] at hbi14; cases hbi14; rfl
  obtain ⟨F, v0, hF, hv0, hg0⟩ := hGm.of hHi3
  obtain ⟨F2, v2, hF2, hv2, hg2⟩ := hGm.of hHi9
  rw [hF2.uniq hF] at hv2
  obtain ⟨F3, v3, hF3, hv3, hg3⟩ := hGm.of hHi14
  rw [hF3.uniq hF] at hv3
  have hRM : RefM W9 bm F := ⟨hF, ⟨v0, hv0, hg0⟩, ⟨v2, hv2, hg2⟩, ⟨v3, hv3, hg3⟩⟩
  replace hU := hU.trans (hx9.upd.mono fun i _ h => by have h : N ≤ i := h; have h2 := hU.size; show n0 ≤ i; omega)
  refine L_op rfl (X_move (v := (val 0)) rfl ?_)
  refine L_op rfl (X_assign (v := (val 0)) rfl ?_)
  refine L_nil ?_
  refine T_n ?_
  refine W_ret ?_
  exact BQ_r (End_1 Tryd.results32 (v := val 0) rfl ⟨bm, F, hbm, hRM, hU.own hn0⟩)
end Go.Proofs.YthncpmablodbjaaDoor
