/-
  Arguments that are rows of items. (Printed by wip/gen/t06n.py of this repo.)
-/
import Derived.Test.YtmddmghgkkjbiaaDoorItems
import Derived.Test.YtmddmghgkkjbiaaDoorBaseO
namespace Go.Proofs.YtmddmghgkkjbiaaDoor
open Go Go.SL Go.Proofs
set_option linter.unusedVariables false

section open_
variable {H : Type} {enc : TypeId × Value → H} {P : Program} {W : World} {base : Nat} {fuel : Nat} {x : DataW H × List MemPlace}
open Go.ChangeShapes Go.WideShapes Go.RowKit Go.Deep
/-- what the program's tables say of items -/
structure ItTy (P : Program) (e : TypeId) : Prop where
  und : ∃ g0 g1 g2 g3 f0 f1 f2 f3 : Field, ∃ b te : TypeId, P.underlying e = some (.struct #[g0, g1, g2, g3]) ∧ g0.offset = 0 ∧ g1.offset = 1 ∧ g2.offset = 2 ∧ g3.offset = 7 ∧ P.underlying g0.type = some (.slice b) ∧ P.underlying g1.type = some (.slice b) ∧ P.underlying b = some (.int .u8) ∧ P.cellsOf b = 1 ∧ P.cellsOf g0.type = 1 ∧ P.cellsOf g1.type = 1 ∧
    P.underlying g2.type = some (.struct #[f0, f1, f2, f3]) ∧ P.cellsOf g2.type = 5 ∧ P.underlying g3.type = some (.int .u16) ∧ P.cellsOf g3.type = 1 ∧ f0.offset = 0 ∧ f1.offset = 1 ∧ f2.offset = 3 ∧ f3.offset = 4 ∧ P.underlying f0.type = some (.int .u8) ∧ P.underlying f1.type = some (.array 2 te) ∧ P.underlying te = some (.int .u16) ∧
    P.underlying f2.type = some (.int .u32) ∧ P.underlying f3.type = some (.int .u64) ∧ P.cellsOf f0.type = 1 ∧ P.cellsOf f1.type = 2 ∧ P.cellsOf te = 1 ∧ P.cellsOf f2.type = 1 ∧ P.cellsOf f3.type = 1
  cells : P.cellsOf e = 8
theorem open_item {e : TypeId} {cs : List Value} (hk : ItTy P e) (hf : DataW.trod enc P W 0 (fun _ => true) true fuel e cs = some x) : ∃ k : IE, cs = itC k ∧ (Rd W 1 k.1 k.2.2.1.length (k.2.2.1.map byteV) ∧ Rd W 1 k.2.1 k.2.2.2.1.length (k.2.2.2.1.map byteV) ∧ ItOk k.2.2) := by
  obtain ⟨g0, g1, g2, g3, f0, f1, f2, f3, b, te, he, o0, o1, o2, o3, u0, u1, ub, cb, c0, c1, u2, c2, u3, c3, p0, p1, p2, p3, t0, t1, tt, t2, t3, d0, d1, dt, d2, d3⟩ := hk.und
  obtain ⟨xs, n, _, _, hlen, hxl, hel⟩ := DataW.trod_struct he hf
  rw [hk.cells] at hlen
  match cs, hlen with
  | [v0, v1, v2, v3, v4, v5, v6, v7], _ =>
    have e0 := hel 0 g0 rfl
    have e1 := hel 1 g1 rfl
    have e2 := hel 2 g2 rfl
    have e3 := hel 3 g3 rfl
    have hx4 : xs.length = 4 := hxl
    rw [List.getElem?_eq_getElem (by omega)] at e0 e1 e2 e3
    rw [o0, c0] at e0
    rw [o1, c1] at e1
    rw [o2, c2] at e2
    rw [o3, c3] at e3
    obtain ⟨v, l, hv, hR⟩ := open_bytesT u0 ub cb e0
    obtain rfl : v0 = v := by simpa using hv
    obtain ⟨v', l', hv', hR'⟩ := open_bytesT u1 ub cb e1
    obtain rfl : v1 = v' := by simpa using hv'
    obtain ⟨z, hz, _, wz⟩ := DataW.trod_int u3 e3
    obtain ⟨ys, n', _, _, _, hyl, hel2⟩ := DataW.trod_struct u2 e2
    have hy4 : ys.length = 4 := hyl
    have q0 := hel2 0 f0 rfl
    have q1 := hel2 1 f1 rfl
    have q2 := hel2 2 f2 rfl
    have q3 := hel2 3 f3 rfl
    rw [List.getElem?_eq_getElem (by omega)] at q0 q1 q2 q3
    rw [p0, d0] at q0
    rw [p1, d1] at q1
    rw [p2, d2] at q2
    rw [p3, d3] at q3
    obtain ⟨a, ha, _, wa⟩ := DataW.trod_int t0 q0
    obtain ⟨c, hc, _, wc⟩ := DataW.trod_int t2 q2
    obtain ⟨d, hd, _, wd⟩ := DataW.trod_int t3 q3
    obtain ⟨zs, m, _, _, _, hzl, hel3⟩ := DataW.trod_array t1 q1
    have r0 := hel3 0 (by decide)
    have r1 := hel3 1 (by decide)
    rw [List.getElem?_eq_getElem (by omega), dt] at r0 r1
    obtain ⟨s0, hs0, _, w0⟩ := DataW.trod_int tt r0
    obtain ⟨s1, hs1, _, w1⟩ := DataW.trod_int tt r1
    simp at ha hc hd hs0 hs1 hz
    subst ha hc hd hs0 hs1 hz
    have b1 := bounds_u8 wa
    have b2 := bounds_u16 w0
    have b3 := bounds_u16 w1
    have b4 := bounds_u32 wc
    have b5 := bounds_u64 wd
    have b6 := bounds_u16 wz
    refine ⟨(v0, v1, l, l', (a, s0, s1, c, d), z), rfl, hR, hR', ?_⟩
    unfold ItOk PtOk; dsimp only
    exact ⟨⟨by omega, by omega, by omega, by omega, by omega⟩, by omega, by omega⟩
theorem open_itemsP {t e : TypeId} {v : Value} {d : DataW H} {p : List MemPlace} (ht : P.underlying t = some (.slice e)) (hk : ItTy P e) (hv : Value.okWide P W .any base t v) (h : DataW.Trod enc P W 0 (fun _ => true) true t v d p) : ∃ es : List IE, NRd LT W 0 W.heap.size v es ∧ ∀ e ∈ es, ItOk e.2.2 := by
  obtain ⟨a0, len0, cap0, rfl⟩ := okWide_slice ht hv
  obtain ⟨fuel, hf⟩ := h
  rcases open_slice ht hf with ⟨hcs, _⟩ | ⟨a, len, cap, m, n, D, Pl, hcs, _, hl, hm, hmm, _, hi⟩
  · simp [Value.cells] at hcs
    obtain ⟨rfl, rfl, rfl⟩ := hcs
    exact ⟨[], NRd.nil _ _ _, fun e he => by cases he⟩
  · simp [Value.cells] at hcs
    obtain ⟨rfl, rfl, rfl⟩ := hcs
    have hall : ∀ i, i < len0 → ∃ k : IE, (∀ j u, (LT.cel k)[j]? = some u → W.cell? (a.add (i * 8 + j)) = some u) ∧ (Rd W 1 k.1 k.2.2.1.length (k.2.2.1.map byteV) ∧ Rd W 1 k.2.1 k.2.2.2.1.length (k.2.2.2.1.map byteV) ∧ ItOk k.2.2) := by
      intro i hil
      obtain ⟨cs', hc, htr⟩ := hi i (by rw [hmm]; simp; omega)
      obtain ⟨k, hcs', hR⟩ := open_item hk htr
      refine ⟨k, fun j u hj => ?_, hR⟩
      obtain ⟨_, hcl, hat⟩ := World.cells?_some hc
      rw [hk.cells] at hcl hat
      have hj8 : j < 8 := (List.getElem?_eq_some_iff.1 hj).1
      have h1 := hat j hj8
      rw [← Go.Deep.add_add, h1, hcs']
      exact hj
    obtain ⟨f, hfk⟩ : ∃ f : Nat → IE, ∀ i, i < len0 → (∀ j u, (LT.cel (f i))[j]? = some u → W.cell? (a.add (i * 8 + j)) = some u) ∧ (Rd W 1 (f i).1 (f i).2.2.1.length ((f i).2.2.1.map byteV) ∧ Rd W 1 (f i).2.1 (f i).2.2.2.1.length ((f i).2.2.2.1.map byteV) ∧ ItOk (f i).2.2) :=
      ⟨fun i => if h : i < len0 then (hall i h).choose else (.slice none 0 0, .slice none 0 0, [], [], (0, 0, 0, 0, 0), 0), fun i h => by simp only [dif_pos h]; exact (hall i h).choose_spec⟩
    have hlen : ((List.range len0).map f).length = len0 := by simp
    have hRd : Rd W LT.sz (.slice (some a) len0 cap0) len0 (((List.range len0).map f).flatMap LT.cel) := by
      refine ⟨by rw [flat_len, hlen], some a, cap0, rfl, hl, hm, fun h0 => ?_⟩
      obtain ⟨b, o, sp⟩ := a
      have hspot : sp = none := by
        have h1 := (hfk 0 h0).1 0 (f 0).1 rfl
        simpa [Addr.add] using World.cell?_spot h1
      subst hspot
      refine ⟨b, o, rfl, fun j u hj => ?_⟩
      have hjl : j < len0 * 8 := by
        have h1 := (List.getElem?_eq_some_iff.1 hj).1
        rw [flat_len, hlen] at h1
        exact h1
      have hi8 : j / 8 < len0 := by omega
      have hget : ((List.range len0).map f)[j / 8]? = some (f (j / 8)) := by rw [List.getElem?_map, List.getElem?_range hi8]; rfl
      obtain ⟨u', hu'⟩ : ∃ u', (LT.cel (f (j / 8)))[j % 8]? = some u' := ⟨_, List.getElem?_eq_getElem (by rw [LT.len]; exact Nat.mod_lt _ (by decide))⟩
      have h2 := flat_at hget hu'
      have h3 : j / 8 * LT.sz + j % 8 = j := by show j / 8 * 8 + j % 8 = j; omega
      rw [h3, hj] at h2
      cases h2
      have h4 := (hfk _ hi8).1 _ _ hu'
      rw [show j / 8 * 8 + j % 8 = j by omega, addr_add] at h4
      exact h4
    refine ⟨(List.range len0).map f, ⟨hRd.eq hlen.symm rfl, fun b hb => ⟨Nat.zero_le _, hRd.bound (by decide) hb⟩, fun k hk' s hs => ?_⟩, fun e he => by obtain ⟨i, hi2, rfl⟩ := List.mem_map.1 he; exact (hfk i (List.mem_range.1 hi2)).2.2.2⟩
    obtain ⟨i, hi', rfl⟩ := List.mem_map.1 hk'
    have hR := (hfk i (List.mem_range.1 hi')).2.1
    have hR2 := (hfk i (List.mem_range.1 hi')).2.2.1
    have h1 : s = ((f i).1, (f i).2.2.1) ∨ s = ((f i).2.1, (f i).2.2.2.1) := by simpa [LT] using hs
    rcases h1 with rfl | rfl
    · exact ⟨hR, fun b hb => ⟨Nat.zero_le _, hR.bound (by decide) hb⟩⟩
    · exact ⟨hR2, fun b hb => ⟨Nat.zero_le _, hR2.bound (by decide) hb⟩⟩
end open_
end Go.Proofs.YtmddmghgkkjbiaaDoor
