import Derived.Test.YthncpmablodbjaaDoorBaseJ
namespace Go.SL
open Go
section push
variable {ε : Type} {L : Lay ε} {w w' : World}
theorem BOwn.ext {eb lo hi : Nat} {s : Value × List UInt8} (h : BOwn w eb lo hi s) (hu : Ext w w') : BOwn w' eb lo hi s := h.upd hu fun _ _ _ hx => hx
theorem BRd.ext {lo hi : Nat} {s : Value × List UInt8} (h : BRd w lo hi s) (hu : Ext w w') : BRd w' lo hi s := h.upd hu fun _ _ _ hx => hx
theorem Own.block {B e sz n : Nat} {v : Value} {xs : List Value} (h : Own w B e sz v n xs) {b : Nat} (hb : obk v = some b) : ∃ cs, Blk w b cs e := by
  obtain ⟨_, a, c, rfl, _, _, hc⟩ := h
  rcases hc with rfl | ⟨g, cur, rfl, _, hB, _⟩
  · simp [obk] at hb
  · cases c with
    | zero => simp [obk] at hb
    | succ c =>
      have : g = b := by simpa [obk] using hb
      subst this
      exact ⟨cur, hB⟩
theorem Own.types {B e sz n B' e' sz' n' : Nat} {v v' : Value} {xs xs' : List Value} (h : Own w B e sz v n xs) (h' : Own w B' e' sz' v' n' xs') {b : Nat} (hb : obk v = some b) (hb' : obk v' = some b) : e = e' := by
  obtain ⟨c, h1⟩ := h.block hb
  obtain ⟨c', h2⟩ := h'.block hb'
  unfold Blk at h1 h2
  rw [h1] at h2
  simp only [Option.some.injEq, Obj.cells.injEq] at h2
  exact h2.2.1
theorem NOwn.push {er eb lo hi hi' : Nat} {v v5 : Value} {es : List ε} {e : ε} (hne : er ≠ eb) (h : NOwn L w er eb lo hi v es) (hO : Own w' lo er L.sz v5 (es.length + 1) (es.flatMap L.cel ++ L.cel e)) (hu : Upd (fun b => obk v = some b) w w')
    (hk : ∀ s ∈ L.sub e, BOwn w eb lo hi' s) (hh : hi ≤ w'.heap.size) (hh' : hi' ≤ w'.heap.size) : NOwn L w' er eb lo w'.heap.size v5 (es ++ [e]) := by
  refine ⟨hO.eq (by rw [List.length_append]; rfl) (by rw [List.flatMap_append]; simp), fun b hb => (hO.lt hb).2, fun e' he s hs => ?_⟩
  rcases List.mem_append.1 he with he | he
  · have hb := h.2.2 e' he s hs
    exact ⟨hb.1.upd hu fun b h1 h2 => hne (h.1.types hb.1 h2 h1), fun b hb' => Nat.lt_of_lt_of_le (hb.2 b hb') hh⟩
  · have : e' = e := by simpa using he
    subst this
    have hb := hk s hs
    exact ⟨hb.1.upd hu fun b h1 h2 => hne (h.1.types hb.1 h2 h1), fun b hb' => Nat.lt_of_lt_of_le (hb.2 b hb') hh'⟩
end push
def Dist (es : List KE) : Prop := es.Pairwise fun a b => ∀ k, obk a.1 = some k → obk b.1 ≠ some k
theorem Dist.push {es : List KE} {e : KE} {m : Nat} (h : Dist es) (h1 : ∀ a ∈ es, ∀ k, obk a.1 = some k → k < m) (h2 : ∀ k, obk e.1 = some k → m ≤ k) : Dist (es ++ [e]) := by
  refine List.pairwise_append.2 ⟨h, List.pairwise_singleton _ _, fun a ha b hb k hk hk' => ?_⟩
  have : b = e := by simpa using hb
  subst this
  have := h1 a ha k hk
  have := h2 k hk'
  omega
theorem SV.kone {v : Value} {n : Nat} (h : SV v n) (p : Pt) : ∀ u ∈ v :: ptC p, u.oneCell' = true := by
  intro u hu
  rcases List.mem_cons.1 hu with rfl | hu
  · exact h.one
  · exact ptC_one p u hu
end Go.SL
