/-
  Arguments that are rows of byte slices, and how long their parts are. Of no program.
-/
import Derived.Test.YthncpmablodbjaaDoorBaseSA
import Derived.Test.YthncpmablodbjaaDoorBaseX
import Derived.Handed
namespace Go.SL
open Go Go.ChangeShapes Go.WideShapes Go.RowKit Go.Deep
section open_
variable {H : Type} {enc : TypeId × Value → H} {P : Program} {W : World} {base : Nat} {fuel : Nat} {x : DataW H × List MemPlace}
theorem open_rowQ {ε : Type} [Inhabited ε] (L : Lay ε) (Q : ε → Prop) (X : DataW H → Prop) {t e : TypeId} {cs : List Value} (ht : P.underlying t = some (.slice e)) (hc : P.cellsOf e = L.sz)
    (hel : ∀ (fuel : Nat) (cs : List Value) (x : DataW H × List MemPlace), X x.1 → DataW.trod enc P W 0 (fun _ => true) true fuel e cs = some x → ∃ k : ε, cs = L.cel k ∧ (∀ s ∈ L.sub k, Rd W 1 s.1 s.2.length (s.2.map byteV)) ∧ Q k) (hX : ∀ a b, x.1 = .slice a b → ∀ d ∈ a, X d)
    (hz : 0 < L.sz) (hf : DataW.trod enc P W 0 (fun _ => true) true fuel t cs = some x) : ∃ (v : Value) (es : List ε), cs = [v] ∧ NRd L W 0 W.heap.size v es ∧ ∀ k ∈ es, Q k := by
  rcases open_slice ht hf with ⟨rfl, _⟩ | ⟨a, len0, cap0, m, n, D, Pl, rfl, _, hl, hm, hmm, hx, hi⟩
  · exact ⟨_, [], rfl, NRd.nil _ _ _, fun k hk => by cases hk⟩
  · have hall : ∀ i, i < len0 → ∃ k : ε, (∀ j u, (L.cel k)[j]? = some u → W.cell? (a.add (i * L.sz + j)) = some u) ∧ (∀ s ∈ L.sub k, Rd W 1 s.1 s.2.length (s.2.map byteV)) ∧ Q k := by
      intro i hil
      obtain ⟨cs', hc', htr⟩ := hi i (by rw [hmm]; simp; omega)
      obtain ⟨k, hcs', hR⟩ := hel _ _ _ (hX _ _ (by rw [hx]) _ (List.mem_map.2 ⟨i, List.mem_range.2 hil, rfl⟩)) htr
      refine ⟨k, fun j u hj => ?_, hR⟩
      obtain ⟨_, hcl, hat⟩ := World.cells?_some hc'
      rw [hc] at hcl hat
      have hj6 : j < L.sz := by rw [← L.len k]; exact (List.getElem?_eq_some_iff.1 hj).1
      have h1 := hat j hj6
      rw [← Go.Deep.add_add, h1, hcs']
      exact hj
    obtain ⟨f, hfk⟩ : ∃ f : Nat → ε, ∀ i, i < len0 → (∀ j u, (L.cel (f i))[j]? = some u → W.cell? (a.add (i * L.sz + j)) = some u) ∧ (∀ s ∈ L.sub (f i), Rd W 1 s.1 s.2.length (s.2.map byteV)) ∧ Q (f i) :=
      ⟨fun i => if h : i < len0 then (hall i h).choose else default, fun i h => by simp only [dif_pos h]; exact (hall i h).choose_spec⟩
    have hlen : ((List.range len0).map f).length = len0 := by simp
    have hRd : Rd W L.sz (.slice (some a) len0 cap0) len0 (((List.range len0).map f).flatMap L.cel) := by
      refine ⟨by rw [flat_len, hlen], some a, cap0, rfl, hl, hm, fun h0 => ?_⟩
      obtain ⟨b, o, sp⟩ := a
      have hspot : sp = none := by
        obtain ⟨u, hu⟩ : ∃ u, (L.cel (f 0))[0]? = some u := ⟨_, List.getElem?_eq_getElem (by rw [L.len]; exact hz)⟩
        have h1 := (hfk 0 h0).1 0 u hu
        simpa [Addr.add] using World.cell?_spot h1
      subst hspot
      refine ⟨b, o, rfl, fun j u hj => ?_⟩
      have hjl : j < len0 * L.sz := by
        have h1 := (List.getElem?_eq_some_iff.1 hj).1
        rw [flat_len, hlen] at h1
        exact h1
      have hi6 : j / L.sz < len0 := Nat.div_lt_of_lt_mul (by rw [Nat.mul_comm]; exact hjl)
      have hget : ((List.range len0).map f)[j / L.sz]? = some (f (j / L.sz)) := by rw [List.getElem?_map, List.getElem?_range hi6]; rfl
      obtain ⟨u', hu'⟩ : ∃ u', (L.cel (f (j / L.sz)))[j % L.sz]? = some u' := ⟨_, List.getElem?_eq_getElem (by rw [L.len]; exact Nat.mod_lt _ hz)⟩
      have h2 := flat_at hget hu'
      have h3 : j / L.sz * L.sz + j % L.sz = j := Nat.div_add_mod' j L.sz
      rw [h3, hj] at h2
      cases h2
      have h4 := (hfk _ hi6).1 _ _ hu'
      rw [h3, addr_add] at h4
      exact h4
    refine ⟨_, (List.range len0).map f, rfl, ⟨hRd.eq hlen.symm rfl, fun b hb => ⟨Nat.zero_le _, hRd.bound hz hb⟩, fun k hk' s hs => ?_⟩, fun k hk' => ?_⟩
    · obtain ⟨i, hi', rfl⟩ := List.mem_map.1 hk'
      have hR := (hfk i (List.mem_range.1 hi')).2.1 s hs
      exact ⟨hR, fun b hb => ⟨Nat.zero_le _, hR.bound (by decide) hb⟩⟩
    · obtain ⟨i, hi', rfl⟩ := List.mem_map.1 hk'
      exact (hfk i (List.mem_range.1 hi')).2.2
theorem open_bytesWT {t e : TypeId} {cs : List Value} (ht : P.underlying t = some (.slice e)) (he : P.underlying e = some (.int .u8)) (hc : P.cellsOf e = 1) (hb : P.bytesOf e = 1) (hw : (x.1.weights P t).all (· ≤ reachBytes) = true)
    (hf : DataW.trod enc P W 0 (fun _ => true) true fuel t cs = some x) : ∃ (v : Value) (l : List UInt8), cs = [v] ∧ Rd W 1 v l.length (l.map byteV) ∧ l.length ≤ 140737488355328 := by
  obtain ⟨v, l, hcs, hR⟩ := open_bytesT ht he hc hf
  refine ⟨v, l, hcs, hR, ?_⟩
  obtain ⟨_, a', c', hv, _⟩ := hR
  subst hv
  rcases open_ints ht he hc hf with ⟨h0, _⟩ | ⟨a, len, cap, zs, h0, _, hlc, hm, hz, hx, _, _⟩
  · rw [h0] at hcs
    simp only [List.cons.injEq, Value.slice.injEq, and_true] at hcs
    omega
  · rw [h0] at hcs
    simp only [List.cons.injEq, Value.slice.injEq, and_true] at hcs
    rw [hx] at hw
    simp only [DataW.weights, ht, hb, List.all_cons, Bool.and_eq_true, decide_eq_true_eq] at hw
    have h1 := hw.1
    simp only [lits, List.length_map, List.length_take, List.length_drop, if_true] at h1 hz
    unfold reachBytes at h1
    omega
theorem open_bytesW {t e : TypeId} {v : Value} {d : DataW H} {p : List MemPlace} (ht : P.underlying t = some (.slice e)) (he : P.underlying e = some (.int .u8)) (hc : P.cellsOf e = 1) (hb : P.bytesOf e = 1) (hw : (d.weights P t).all (· ≤ reachBytes) = true) (hv : Value.okWide P W .any base t v) (h : DataW.Trod enc P W 0 (fun _ => true) true t v d p) :
    ∃ l : List UInt8, Rd W 1 v l.length (l.map byteV) ∧ l.length ≤ 140737488355328 := by
  obtain ⟨a0, len0, cap0, rfl⟩ := okWide_slice ht hv
  obtain ⟨fuel, hf⟩ := h
  obtain ⟨v, l, h1, h2, h3⟩ := open_bytesWT (x := (d, p)) ht he hc hb hw hf
  rw [slice_self h1] at h2
  exact ⟨l, h2, h3⟩
theorem weights_mem {e : TypeId} : ∀ {l : List (DataW H)} {d : DataW H}, d ∈ l → (DataW.weightsAll P e l).all (· ≤ reachBytes) = true → (d.weights P e).all (· ≤ reachBytes) = true
  | a :: r, d, hd, h => by
    simp only [DataW.weightsAll, List.all_append, Bool.and_eq_true] at h
    rcases List.mem_cons.1 hd with rfl | hd
    · exact h.1
    · exact weights_mem hd h.2
theorem open_rowsW {t e u : TypeId} {v : Value} {d : DataW H} {p : List MemPlace} (ht : P.underlying t = some (.slice e)) (hu : P.underlying e = some (.slice u)) (he : P.underlying u = some (.int .u8)) (hc : P.cellsOf e = 1) (hcu : P.cellsOf u = 1) (hb : P.bytesOf u = 1) (hw : (d.weights P t).all (· ≤ reachBytes) = true)
    (hv : Value.okWide P W .any base t v) (h : DataW.Trod enc P W 0 (fun _ => true) true t v d p) : ∃ es : List BE, NRd LB W 0 W.heap.size v es ∧ ∀ (j : Nat) (e : BE), es[j]? = some e → e.2.length ≤ 140737488355328 := by
  obtain ⟨a0, len0, cap0, rfl⟩ := okWide_slice ht hv
  obtain ⟨fuel, hf⟩ := h
  obtain ⟨v, es, h1, h2, h3⟩ := open_rowQ (x := (d, p)) LB (fun e : BE => e.2.length ≤ 140737488355328) (fun d => (d.weights P e).all (· ≤ reachBytes) = true) ht hc (fun fuel cs x hX h => by
    obtain ⟨v, l, h1, h2, h3⟩ := open_bytesWT hu he hcu hb hX h
    exact ⟨(v, l), h1, fun s hs => (by have h4 : s = (v, l) := by { simpa [LB] using hs }; subst h4; exact h2), h3⟩) (fun a b hab z hz => by
    have h4 : d = .slice a b := hab
    subst h4
    simp only [DataW.weights, ht, List.all_cons, List.all_append, Bool.and_eq_true] at hw
    exact weights_mem hz hw.2.1) (by decide) hf
  rw [slice_self h1] at h2
  exact ⟨es, h2, fun j e he => h3 e (List.mem_of_getElem? he)⟩
end open_
end Go.SL
