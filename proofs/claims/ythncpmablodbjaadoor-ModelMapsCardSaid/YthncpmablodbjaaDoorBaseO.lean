import Derived.Test.YthncpmablodbjaaDoorBaseN
import Derived.Deep.Slices
namespace Go.SL
open Go Go.ChangeShapes Go.WideShapes Go.RowKit Go.Deep

/-! ### Arguments that are rows of kids -/
section open_
variable {H : Type} {enc : TypeId × Value → H} {P : Program} {W : World} {base : Nat} {fuel : Nat} {x : DataW H × List MemPlace}
theorem open_bytesT {t e : TypeId} {cs : List Value} (ht : P.underlying t = some (.slice e)) (he : P.underlying e = some (.int .u8)) (hc : P.cellsOf e = 1) (hf : DataW.trod enc P W 0 (fun _ => true) true fuel t cs = some x) :
    ∃ (v : Value) (l : List UInt8), cs = [v] ∧ Rd W 1 v l.length (l.map byteV) := by
  rcases open_ints ht he hc hf with ⟨rfl, _⟩ | ⟨a, len, cap, zs, rfl, _, hlc, hm, hz, _, hcell, hwz⟩
  · exact ⟨_, [], rfl, Rd.nil W 1⟩
  · simp only [if_true] at hz
    have hl : (((zs.take len).map fun z => UInt8.ofNat z.toNat).length) = len := by simp; omega
    refine ⟨_, (zs.take len).map fun z => UInt8.ofNat z.toNat, rfl, ?_⟩
    rw [hl, bytes_of fun n hn => hwz n (List.mem_of_mem_take hn)]
    refine ⟨by simp; omega, some a, cap, rfl, hlc, hm, fun h0 => ?_⟩
    obtain ⟨b, o, sp⟩ := a
    have hspot : sp = none := by simpa [Addr.add] using World.cell?_spot (hcell 0 (by omega))
    subst hspot
    refine ⟨b, o, rfl, fun j u hj => ?_⟩
    rw [List.getElem?_map] at hj
    have hj' : j < len := by
      rcases Nat.lt_or_ge j len with h1 | h1
      · exact h1
      · rw [List.getElem?_take_eq_none h1] at hj; cases hj
    rw [List.getElem?_take_of_lt hj', List.getElem?_eq_getElem (by omega)] at hj
    simp only [Option.map_some, Option.some.injEq] at hj
    subst hj
    have := hcell j (by omega)
    rw [addr_add, List.getD_eq_getElem?_getD, List.getElem?_eq_getElem (by omega)] at this
    exact this
/-- what the program's tables say of kids -/
structure KidTy (P : Program) (e : TypeId) : Prop where
  und : ∃ g0 g1 f0 f1 f2 f3 : Field, ∃ b te : TypeId, P.underlying e = some (.struct #[g0, g1]) ∧ g0.offset = 0 ∧ g1.offset = 1 ∧ P.underlying g0.type = some (.slice b) ∧ P.underlying b = some (.int .u8) ∧ P.cellsOf b = 1 ∧ P.cellsOf g0.type = 1 ∧
    P.underlying g1.type = some (.struct #[f0, f1, f2, f3]) ∧ P.cellsOf g1.type = 5 ∧ f0.offset = 0 ∧ f1.offset = 1 ∧ f2.offset = 3 ∧ f3.offset = 4 ∧ P.underlying f0.type = some (.int .u8) ∧ P.underlying f1.type = some (.array 2 te) ∧ P.underlying te = some (.int .u16) ∧
    P.underlying f2.type = some (.int .u32) ∧ P.underlying f3.type = some (.int .u64) ∧ P.cellsOf f0.type = 1 ∧ P.cellsOf f1.type = 2 ∧ P.cellsOf te = 1 ∧ P.cellsOf f2.type = 1 ∧ P.cellsOf f3.type = 1
  cells : P.cellsOf e = 6
theorem open_kid {e : TypeId} {cs : List Value} (hk : KidTy P e) (hf : DataW.trod enc P W 0 (fun _ => true) true fuel e cs = some x) : ∃ k : KE, cs = k.1 :: ptC k.2.2 ∧ Rd W 1 k.1 k.2.1.length (k.2.1.map byteV) := by
  obtain ⟨g0, g1, f0, f1, f2, f3, b, te, he, o0, o1, u0, ub, cb, c0, u1, c1, p0, p1, p2, p3, t0, t1, tt, t2, t3, d0, d1, dt, d2, d3⟩ := hk.und
  obtain ⟨xs, n, _, _, hlen, hxl, hel⟩ := DataW.trod_struct he hf
  rw [hk.cells] at hlen
  match cs, hlen with
  | [v0, v1, v2, v3, v4, v5], _ =>
    have e0 := hel 0 g0 rfl
    have e1 := hel 1 g1 rfl
    have hx2 : xs.length = 2 := hxl
    rw [List.getElem?_eq_getElem (by omega)] at e0 e1
    rw [o0, c0] at e0
    rw [o1, c1] at e1
    obtain ⟨v, l, hv, hR⟩ := open_bytesT u0 ub cb e0
    obtain rfl : v0 = v := by simpa using hv
    obtain ⟨ys, n', _, _, _, hyl, hel2⟩ := DataW.trod_struct u1 e1
    have hy4 : ys.length = 4 := hyl
    have q0 := hel2 0 f0 rfl
    have q1 := hel2 1 f1 rfl
    have q2 := hel2 2 f2 rfl
    have q3 := hel2 3 f3 rfl
    rw [List.getElem?_eq_getElem (by omega)] at q0 q1 q2 q3
    rw [p0, d0] at q0
    rw [p1, d1] at q1
    rw [p2, d2] at q2
    rw [p3, d3] at q3
    obtain ⟨a, ha, _, _⟩ := DataW.trod_int t0 q0
    obtain ⟨c, hc, _, _⟩ := DataW.trod_int t2 q2
    obtain ⟨d, hd, _, _⟩ := DataW.trod_int t3 q3
    obtain ⟨zs, m, _, _, _, hzl, hel3⟩ := DataW.trod_array t1 q1
    have r0 := hel3 0 (by decide)
    have r1 := hel3 1 (by decide)
    rw [List.getElem?_eq_getElem (by omega), dt] at r0 r1
    obtain ⟨s0, hs0, _, _⟩ := DataW.trod_int tt r0
    obtain ⟨s1, hs1, _, _⟩ := DataW.trod_int tt r1
    simp at ha hc hd hs0 hs1
    subst ha hc hd hs0 hs1
    exact ⟨(v0, l, (a, s0, s1, c, d)), rfl, hR⟩
theorem open_kids {t e : TypeId} {v : Value} {d : DataW H} {p : List MemPlace} (ht : P.underlying t = some (.slice e)) (hk : KidTy P e) (hv : Value.okWide P W .any base t v) (h : DataW.Trod enc P W 0 (fun _ => true) true t v d p) : ∃ es : List KE, NRd LK W 0 W.heap.size v es := by
  obtain ⟨a0, len0, cap0, rfl⟩ := okWide_slice ht hv
  obtain ⟨fuel, hf⟩ := h
  rcases open_slice ht hf with ⟨hcs, _⟩ | ⟨a, len, cap, m, n, D, Pl, hcs, _, hl, hm, hmm, _, hi⟩
  · simp [Value.cells] at hcs
    obtain ⟨rfl, rfl, rfl⟩ := hcs
    exact ⟨[], NRd.nil _ _ _⟩
  · simp [Value.cells] at hcs
    obtain ⟨rfl, rfl, rfl⟩ := hcs
    have hall : ∀ i, i < len0 → ∃ k : KE, (∀ j u, (LK.cel k)[j]? = some u → W.cell? (a.add (i * 6 + j)) = some u) ∧ Rd W 1 k.1 k.2.1.length (k.2.1.map byteV) := by
      intro i hil
      obtain ⟨cs', hc, htr⟩ := hi i (by rw [hmm]; simp; omega)
      obtain ⟨k, hcs', hR⟩ := open_kid hk htr
      refine ⟨k, fun j u hj => ?_, hR⟩
      obtain ⟨_, hcl, hat⟩ := World.cells?_some hc
      rw [hk.cells] at hcl hat
      have hj6 : j < 6 := (List.getElem?_eq_some_iff.1 hj).1
      have h1 := hat j hj6
      rw [← Go.Deep.add_add, h1, hcs']
      exact hj
    obtain ⟨f, hfk⟩ : ∃ f : Nat → KE, ∀ i, i < len0 → (∀ j u, (LK.cel (f i))[j]? = some u → W.cell? (a.add (i * 6 + j)) = some u) ∧ Rd W 1 (f i).1 (f i).2.1.length ((f i).2.1.map byteV) :=
      ⟨fun i => if h : i < len0 then (hall i h).choose else (.slice none 0 0, [], (0, 0, 0, 0, 0)), fun i h => by simp only [dif_pos h]; exact (hall i h).choose_spec⟩
    have hlen : ((List.range len0).map f).length = len0 := by simp
    have hRd : Rd W LK.sz (.slice (some a) len0 cap0) len0 (((List.range len0).map f).flatMap LK.cel) := by
      refine ⟨by rw [flat_len, hlen], some a, cap0, rfl, hl, hm, fun h0 => ?_⟩
      obtain ⟨b, o, sp⟩ := a
      have hspot : sp = none := by
        have h1 := (hfk 0 h0).1 0 (f 0).1 rfl
        simpa [Addr.add] using World.cell?_spot h1
      subst hspot
      refine ⟨b, o, rfl, fun j u hj => ?_⟩
      have hjl : j < len0 * 6 := by
        have h1 := (List.getElem?_eq_some_iff.1 hj).1
        rw [flat_len, hlen] at h1
        exact h1
      have hi6 : j / 6 < len0 := by omega
      have hget : ((List.range len0).map f)[j / 6]? = some (f (j / 6)) := by rw [List.getElem?_map, List.getElem?_range hi6]; rfl
      obtain ⟨u', hu'⟩ : ∃ u', (LK.cel (f (j / 6)))[j % 6]? = some u' := ⟨_, List.getElem?_eq_getElem (by rw [LK.len]; exact Nat.mod_lt _ (by decide))⟩
      have h2 := flat_at hget hu'
      have h3 : j / 6 * LK.sz + j % 6 = j := by show j / 6 * 6 + j % 6 = j; omega
      rw [h3, hj] at h2
      cases h2
      have h4 := (hfk _ hi6).1 _ _ hu'
      rw [show j / 6 * 6 + j % 6 = j by omega, addr_add] at h4
      exact h4
    refine ⟨(List.range len0).map f, hRd.eq hlen.symm rfl, fun b hb => ⟨Nat.zero_le _, hRd.bound (by decide) hb⟩, fun k hk' s hs => ?_⟩
    obtain ⟨i, hi', rfl⟩ := List.mem_map.1 hk'
    have hR := (hfk i (List.mem_range.1 hi')).2
    have h1 : s = ((f i).1, (f i).2.1) := by simpa [LK] using hs
    subst h1
    exact ⟨hR, fun b hb => ⟨Nat.zero_le _, hR.bound (by decide) hb⟩⟩
end open_
end Go.SL
