/-
  New blocks of one element type may be written, all else stays: a relation between worlds for regions that draw their order (W_drawQ). Of no program.
-/
import Derived.Test.YthncpmablodbjaaDoorBaseWQ
namespace Go.SL
open Go
structure RTy (t N : Nat) (w w' : World) : Prop where
  os : w'.os = w.os
  tape : w'.tape = w.tape
  output : w'.output = w.output
  size : w.heap.size ≤ w'.heap.size
  blk : ∀ b, b < w.heap.size → w'.heap[b]? = w.heap[b]? ∨ (N ≤ b ∧ ∃ c c', Blk w b c t ∧ Blk w' b c' t ∧ c'.size = c.size)
section ty
variable {t N : Nat} {w w' : World}
theorem RTy.ext (h : Ext w w') : RTy t N w w' := ⟨h.os, h.tape, h.output, h.size, fun b hb => .inl (h.blk b hb fun hx => hx)⟩
theorem rty_pre (t N : Nat) : PreW (RTy t N) where
  refl w := RTy.ext (Upd.refl _ w)
  trans {a b c} h k := ⟨k.os.trans h.os, k.tape.trans h.tape, k.output.trans h.output, Nat.le_trans h.size k.size, fun i hi => by
    rcases h.blk i hi with h1 | ⟨hn, c1, c2, h2, h3, h4⟩
    · rcases k.blk i (Nat.lt_of_lt_of_le hi h.size) with k1 | ⟨hn, c1, c2, k2, k3, k4⟩
      · exact .inl (k1.trans h1)
      · exact .inr ⟨hn, c1, c2, h1.symm.trans k2, k3, k4⟩
    · rcases k.blk i (Nat.lt_of_lt_of_le hi h.size) with k1 | ⟨_, c3, c4, k2, k3, k4⟩
      · exact .inr ⟨hn, c1, c2, h2, k1.trans h3, h4⟩
      · have e : c2 = c3 := by unfold Blk at h3 k2; rw [h3] at k2; simpa using k2
        subst e
        exact .inr ⟨hn, c1, c4, h2, k3, k4.trans h4⟩⟩
theorem RTy.upd (h : RTy t N w w') : Upd (fun i => N ≤ i) w w' := ⟨h.os, h.tape, h.output, h.size, fun i hi hn => (h.blk i hi).resolve_right fun h2 => hn h2.1⟩
theorem RTy.put {b : Nat} {c c' : Array Value} (hN : N ≤ b) (hB : Blk w b c t) (hB' : Blk w' b c' t) (hs : c'.size = c.size) (hu : Upd (fun i => i = b) w w') : RTy t N w w' :=
  ⟨hu.os, hu.tape, hu.output, hu.size, fun i hi => by
    by_cases he : i = b
    · subst he; exact .inr ⟨hN, c, c', hB, hB', hs⟩
    · exact .inl (hu.blk i hi he)⟩
theorem blk_rty {b e : Nat} {c : Array Value} (h : Blk w b c e) (hr : RTy t N w w') (he : e ≠ t) : Blk w' b c e := by
  rcases hr.blk b h.lt with h1 | ⟨_, c1, _, h2, _⟩
  · exact h1.trans h
  · exfalso
    unfold Blk at h h2
    rw [h] at h2
    simp only [Option.some.injEq, Obj.cells.injEq] at h2
    exact he h2.2.1
theorem any_rty {b n : Nat} (h : ∃ c, Blk w b c t ∧ c.size = n) (hr : RTy t N w w') : ∃ c, Blk w' b c t ∧ c.size = n := by
  obtain ⟨c, h1, h2⟩ := h
  rcases hr.blk b h1.lt with h3 | ⟨_, c1, c2, k1, k2, k3⟩
  · exact ⟨c, h3.trans h1, h2⟩
  · have e : c = c1 := by unfold Blk at h1 k1; rw [h1] at k1; simpa using k1
    subst e
    exact ⟨c2, k2, k3.trans h2⟩
theorem own_rty {B e sz n : Nat} {v : Value} {xs : List Value} (h : Own w B e sz v n xs) (hr : RTy t N w w') (he : e ≠ t) : Own w' B e sz v n xs := by
  obtain ⟨hl, a, c, rfl, h1, h2, h3⟩ := h
  refine ⟨hl, a, c, rfl, h1, h2, ?_⟩
  rcases h3 with h | ⟨g, cur, rfl, hB, hb, hs, hx⟩
  · exact .inl h
  · exact .inr ⟨g, cur, rfl, hB, blk_rty hb hr he, hs, hx⟩
theorem nown_rty {ε : Type} {L : Lay ε} {er eb lo hi : Nat} {v : Value} {es : List ε} (h : NOwn L w er eb lo hi v es) (hr : RTy t N w w') (h1 : er ≠ t) (h2 : eb ≠ t) : NOwn L w' er eb lo hi v es :=
  ⟨own_rty h.1 hr h1, h.2.1, fun e he s hs => ⟨own_rty (h.2.2 e he s hs).1 hr h2, (h.2.2 e he s hs).2⟩⟩
/-- operation j0 may write such blocks, all others grow the memory alone -/
def famT (t N j0 : Nat) : Nat → World → World → Prop := fun j w w' => cond (Nat.beq j j0) (RTy t N w w') (Ext w w')
theorem famT_sub {j0 : Nat} : ∀ j w w', famT t N j0 j w w' → RTy t N w w' := fun j w w' h => by
  unfold famT at h
  cases hb : Nat.beq j j0 with
  | true => rw [hb] at h; exact h
  | false => rw [hb] at h; exact RTy.ext h
theorem aft_rty {pre : List (List Nat)} {m j0 i : Nat} (h : AftR pre m (famT t N j0) i w w') : RTy t N w w' := by
  obtain ⟨j, _, _, _, h⟩ := h
  exact famT_sub j w w' h
theorem aft_ext {pre : List (List Nat)} {m j0 : Nat} (h : AftR pre m (famT t N j0) j0 w w') : Ext w w' := by
  obtain ⟨j, _, hj, _, h⟩ := h
  unfold famT at h
  cases hb : Nat.beq j j0 with
  | true => exact absurd (Nat.eq_of_beq_eq_true hb) hj
  | false => rw [hb] at h; exact h
end ty
end Go.SL
