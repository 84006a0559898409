import Derived.Test.YthncpmablodbjaaDoorBaseO
namespace Go.SL
open Go Go.ChangeShapes Go.WideShapes Go.RowKit Go.Deep

/-! ### Rows as arguments, whatever lies in them; disks -/
abbrev Pg := {l : List UInt8 // l.length = 256}
abbrev Wr := Int × Pg
instance : Inhabited Pg := ⟨⟨List.replicate 256 0, List.length_replicate⟩⟩
def LP : Lay Pg where
  cel p := p.1.map byteV
  sub _ := []
  sz := 256
  len p := by rw [List.length_map]; exact p.2
  one p _ u hu := by obtain ⟨x, _, rfl⟩ := List.mem_map.1 hu; rfl
def LW : Lay Wr where
  cel w := .int .i64 w.1 :: w.2.1.map byteV
  sub _ := []
  sz := 257
  len w := by rw [List.length_cons, List.length_map, w.2.2]
  one w _ u hu := by
    rcases List.mem_cons.1 hu with rfl | hu
    · rfl
    · obtain ⟨x, _, rfl⟩ := List.mem_map.1 hu; rfl
def LI : Lay Int where
  cel n := [.int .i64 n]
  sub _ := []
  sz := 1
  len _ := rfl
  one n _ u hu := by rw [List.mem_singleton.1 hu]; rfl
section flat
variable {ε : Type} {L : Lay ε} {w w' : World}
/-- a row without slices in it -/
theorem NRd.of {v : Value} {es : List ε} {lo hi : Nat} (hs : ∀ e, L.sub e = []) (h : Rd w L.sz v es.length (es.flatMap L.cel)) (hb : ∀ b, rbk v = some b → lo ≤ b ∧ b < hi) : NRd L w lo hi v es :=
  ⟨h, hb, fun e _ s h1 => by rw [hs e] at h1; cases h1⟩
theorem NOwn.of {v : Value} {es : List ε} {er eb lo hi : Nat} (hs : ∀ e, L.sub e = []) (h : Own w lo er L.sz v es.length (es.flatMap L.cel)) (hb : ∀ b, obk v = some b → b < hi) : NOwn L w er eb lo hi v es :=
  ⟨h, hb, fun e _ s h1 => by rw [hs e] at h1; cases h1⟩
end flat
section open_
variable {H : Type} {enc : TypeId × Value → H} {P : Program} {W : World} {base : Nat} {fuel : Nat} {x : DataW H × List MemPlace}
theorem open_rowT {ε : Type} [Inhabited ε] (L : Lay ε) {t e : TypeId} {cs : List Value} (ht : P.underlying t = some (.slice e)) (hc : P.cellsOf e = L.sz)
    (hel : ∀ (fuel : Nat) (cs : List Value) (x : DataW H × List MemPlace), DataW.trod enc P W 0 (fun _ => true) true fuel e cs = some x → ∃ k : ε, cs = L.cel k ∧ ∀ s ∈ L.sub k, Rd W 1 s.1 s.2.length (s.2.map byteV))
    (hz : 0 < L.sz) (hf : DataW.trod enc P W 0 (fun _ => true) true fuel t cs = some x) : ∃ (v : Value) (es : List ε), cs = [v] ∧ NRd L W 0 W.heap.size v es := by
  rcases open_slice ht hf with ⟨rfl, _⟩ | ⟨a, len0, cap0, m, n, D, Pl, rfl, _, hl, hm, hmm, _, hi⟩
  · exact ⟨_, [], rfl, NRd.nil _ _ _⟩
  · have hall : ∀ i, i < len0 → ∃ k : ε, (∀ j u, (L.cel k)[j]? = some u → W.cell? (a.add (i * L.sz + j)) = some u) ∧ ∀ s ∈ L.sub k, Rd W 1 s.1 s.2.length (s.2.map byteV) := by
      intro i hil
      obtain ⟨cs', hc', htr⟩ := hi i (by rw [hmm]; simp; omega)
      obtain ⟨k, hcs', hR⟩ := hel _ _ _ htr
      refine ⟨k, fun j u hj => ?_, hR⟩
      obtain ⟨_, hcl, hat⟩ := World.cells?_some hc'
      rw [hc] at hcl hat
      have hj6 : j < L.sz := by rw [← L.len k]; exact (List.getElem?_eq_some_iff.1 hj).1
      have h1 := hat j hj6
      rw [← Go.Deep.add_add, h1, hcs']
      exact hj
    obtain ⟨f, hfk⟩ : ∃ f : Nat → ε, ∀ i, i < len0 → (∀ j u, (L.cel (f i))[j]? = some u → W.cell? (a.add (i * L.sz + j)) = some u) ∧ ∀ s ∈ L.sub (f i), Rd W 1 s.1 s.2.length (s.2.map byteV) :=
      ⟨fun i => if h : i < len0 then (hall i h).choose else default, fun i h => by simp only [dif_pos h]; exact (hall i h).choose_spec⟩
    have hlen : ((List.range len0).map f).length = len0 := by simp
    have hRd : Rd W L.sz (.slice (some a) len0 cap0) len0 (((List.range len0).map f).flatMap L.cel) := by
      refine ⟨by rw [flat_len, hlen], some a, cap0, rfl, hl, hm, fun h0 => ?_⟩
      obtain ⟨b, o, sp⟩ := a
      have hspot : sp = none := by
        obtain ⟨u, hu⟩ : ∃ u, (L.cel (f 0))[0]? = some u := ⟨_, List.getElem?_eq_getElem (by rw [L.len]; exact hz)⟩
        have h1 := (hfk 0 h0).1 0 u hu
        simpa [Addr.add] using World.cell?_spot h1
      subst hspot
      refine ⟨b, o, rfl, fun j u hj => ?_⟩
      have hjl : j < len0 * L.sz := by
        have h1 := (List.getElem?_eq_some_iff.1 hj).1
        rw [flat_len, hlen] at h1
        exact h1
      have hi6 : j / L.sz < len0 := Nat.div_lt_of_lt_mul (by rw [Nat.mul_comm]; exact hjl)
      have hget : ((List.range len0).map f)[j / L.sz]? = some (f (j / L.sz)) := by rw [List.getElem?_map, List.getElem?_range hi6]; rfl
      obtain ⟨u', hu'⟩ : ∃ u', (L.cel (f (j / L.sz)))[j % L.sz]? = some u' := ⟨_, List.getElem?_eq_getElem (by rw [L.len]; exact Nat.mod_lt _ hz)⟩
      have h2 := flat_at hget hu'
      have h3 : j / L.sz * L.sz + j % L.sz = j := Nat.div_add_mod' j L.sz
      rw [h3, hj] at h2
      cases h2
      have h4 := (hfk _ hi6).1 _ _ hu'
      rw [h3, addr_add] at h4
      exact h4
    refine ⟨_, (List.range len0).map f, rfl, hRd.eq hlen.symm rfl, fun b hb => ⟨Nat.zero_le _, hRd.bound hz hb⟩, fun k hk' s hs => ?_⟩
    obtain ⟨i, hi', rfl⟩ := List.mem_map.1 hk'
    have hR := (hfk i (List.mem_range.1 hi')).2 s hs
    exact ⟨hR, fun b hb => ⟨Nat.zero_le _, hR.bound (by decide) hb⟩⟩
theorem open_byteArrT {t e n : Nat} {cs : List Value} (ht : P.underlying t = some (.array n e)) (he : P.underlying e = some (.int .u8)) (hc : P.cellsOf e = 1) (hct : P.cellsOf t = n)
    (hf : DataW.trod enc P W 0 (fun _ => true) true fuel t cs = some x) : ∃ l : List UInt8, l.length = n ∧ cs = l.map byteV := by
  obtain ⟨xs, m, _, _, hlen, hxs, hel⟩ := DataW.trod_array ht hf
  have hn : cs.length = n := hlen.trans hct
  have key : ∀ i, i < n → ∃ x : UInt8, cs[i]? = some (byteV x) := fun i hi => by
    have h1 := hel i hi
    rw [List.getElem?_eq_getElem (by omega), hc, Nat.mul_one] at h1
    obtain ⟨z, hz, _, hw⟩ := DataW.trod_int he h1
    refine ⟨UInt8.ofNat z.toNat, ?_⟩
    rw [byteV_of hw]
    have h2 : (cs.drop i).head? = some (.int .u8 z) := by
      cases hd : cs.drop i with
      | nil => rw [hd] at hz; cases hz
      | cons a r => rw [hd] at hz; simp at hz; subst hz; rfl
    rw [List.head?_drop] at h2
    exact h2
  refine ⟨(List.range n).map fun i => (match (cs[i]? : Option Value) with | some (.int _ z) => UInt8.ofNat z.toNat | _ => 0), by simp, ?_⟩
  apply List.ext_getElem?
  intro i
  rw [List.map_map]
  simp only [List.getElem?_map]
  rcases Nat.lt_or_ge i n with h1 | h1
  · rw [List.getElem?_range h1]
    obtain ⟨x, hx⟩ := key i h1
    rw [hx]
    simp only [Option.map_some, Function.comp]
    rw [hx]
    simp only [byteV]
    congr 2
    have := x.toNat_lt
    simp
  · rw [List.getElem?_eq_none (l := List.range n) (by rw [List.length_range]; exact h1), List.getElem?_eq_none (l := cs) (by omega)]
    rfl
/-- what the program's tables say of disks -/
structure DiskTy (P : Program) (e : TypeId) : Prop where
  und : ∃ g0 g1 g2 g3 f0 f1 : Field, ∃ p w b i : TypeId, P.underlying e = some (.struct #[g0, g1, g2, g3]) ∧ (g0.offset = 0 ∧ g1.offset = 1 ∧ g2.offset = 2 ∧ g3.offset = 3) ∧ (P.cellsOf g0.type = 1 ∧ P.cellsOf g1.type = 1 ∧ P.cellsOf g2.type = 1 ∧ P.cellsOf g3.type = 1) ∧
    P.underlying g0.type = some (.slice p) ∧ P.underlying g1.type = some (.slice w) ∧ P.underlying g2.type = some (.slice i) ∧ P.underlying g3.type = some .bool ∧
    P.underlying p = some (.array 256 b) ∧ P.underlying b = some (.int .u8) ∧ P.cellsOf b = 1 ∧ P.cellsOf p = 256 ∧ P.underlying i = some (.int .i64) ∧ P.cellsOf i = 1 ∧
    P.underlying w = some (.struct #[f0, f1]) ∧ P.cellsOf w = 257 ∧ f0.offset = 0 ∧ f1.offset = 1 ∧ P.underlying f0.type = some (.int .i64) ∧ P.cellsOf f0.type = 1 ∧ f1.type = p
  cells : P.cellsOf e = 4
structure Dk where
  (pv cv bv : Value) (ps : List Pg) (cs : List Wr) (bs : List Int) (off : Bool)
def Dk.cel (d : Dk) : List Value := [d.pv, d.cv, d.bv, .bool d.off]
def Dk.Rd (w : World) (lo hi : Nat) (d : Dk) : Prop := NRd LP w lo hi d.pv d.ps ∧ NRd LW w lo hi d.cv d.cs ∧ NRd LI w lo hi d.bv d.bs
theorem open_diskT {e : TypeId} {cs : List Value} (hk : DiskTy P e) (hf : DataW.trod enc P W 0 (fun _ => true) true fuel e cs = some x) : ∃ d : Dk, cs = d.cel ∧ d.Rd W 0 W.heap.size := by
  obtain ⟨g0, g1, g2, g3, f0, f1, p, w, b, i, he, ⟨o0, o1, o2, o3⟩, ⟨c0, c1, c2, c3⟩, u0, u1, u2, u3, up, ub, cb, cp, ui, ci, uw, cw, r0, r1, t0, tc, t1⟩ := hk.und
  obtain ⟨xs, n, _, _, hlen, hxl, hel⟩ := DataW.trod_struct he hf
  rw [hk.cells] at hlen
  match cs, hlen with
  | [v0, v1, v2, v3], _ =>
    have e0 := hel 0 g0 rfl
    have e1 := hel 1 g1 rfl
    have e2 := hel 2 g2 rfl
    have e3 := hel 3 g3 rfl
    have hx4 : xs.length = 4 := hxl
    rw [List.getElem?_eq_getElem (by omega)] at e0 e1 e2 e3
    rw [o0, c0] at e0
    rw [o1, c1] at e1
    rw [o2, c2] at e2
    rw [o3, c3] at e3
    have hpg : ∀ (fuel : Nat) (cs : List Value) (x : DataW H × List MemPlace), DataW.trod enc P W 0 (fun _ => true) true fuel p cs = some x → ∃ k : Pg, cs = LP.cel k ∧ ∀ s ∈ LP.sub k, Go.SL.Rd W 1 s.1 s.2.length (s.2.map byteV) := fun fuel cs x h => by
      obtain ⟨l, hl, rfl⟩ := open_byteArrT up ub cb cp h
      exact ⟨⟨l, hl⟩, rfl, fun s hs => by cases hs⟩
    have hin : ∀ (fuel : Nat) (cs : List Value) (x : DataW H × List MemPlace), DataW.trod enc P W 0 (fun _ => true) true fuel i cs = some x → ∃ k : Int, cs = LI.cel k ∧ ∀ s ∈ LI.sub k, Go.SL.Rd W 1 s.1 s.2.length (s.2.map byteV) := fun fuel cs x h => by
      obtain ⟨z, hz, _, _⟩ := DataW.trod_int ui h
      exact ⟨z, hz, fun s hs => by cases hs⟩
    have hwr : ∀ (fuel : Nat) (cs : List Value) (x : DataW H × List MemPlace), DataW.trod enc P W 0 (fun _ => true) true fuel w cs = some x → ∃ k : Wr, cs = LW.cel k ∧ ∀ s ∈ LW.sub k, Go.SL.Rd W 1 s.1 s.2.length (s.2.map byteV) := fun fuel cs x h => by
      obtain ⟨ys, n', _, _, hcl, hyl, hel2⟩ := DataW.trod_struct uw h
      rw [cw] at hcl
      have hy2 : ys.length = 2 := hyl
      have q0 := hel2 0 f0 rfl
      have q1 := hel2 1 f1 rfl
      rw [List.getElem?_eq_getElem (by omega)] at q0 q1
      rw [r0, tc] at q0
      rw [r1, t1, cp] at q1
      obtain ⟨z, hz, _, _⟩ := DataW.trod_int t0 q0
      obtain ⟨l, hl, hcs⟩ := open_byteArrT up ub cb cp q1
      cases cs with
      | nil => simp at hz
      | cons a r =>
        simp at hz
        subst hz
        have hr : r = l.map byteV := by
          have : r.take 256 = l.map byteV := by simpa using hcs
          rwa [List.take_of_length_le (by simp at hcl; omega)] at this
        subst hr
        exact ⟨(z, ⟨l, hl⟩), rfl, fun s hs => by cases hs⟩
    obtain ⟨pv, ps, hp1, hp⟩ := open_rowT LP u0 cp hpg (by decide) e0
    obtain ⟨cv, ws, hc1, hc⟩ := open_rowT LW u1 cw hwr (by decide) e1
    obtain ⟨bv, bs, hb1, hb⟩ := open_rowT LI u2 ci hin (by decide) e2
    obtain ⟨off, ho⟩ : ∃ o : Bool, v3 = .bool o := by
      obtain ⟨o, h, _⟩ := DataW.trod_bool u3 e3
      exact ⟨o, by simpa using h⟩
    simp at hp1 hc1 hb1
    subst hp1 hc1 hb1 ho
    exact ⟨⟨v0, v1, v2, ps, ws, bs, off⟩, rfl, hp, hc, hb⟩
theorem open_disk {e : TypeId} {v : Value} {d : DataW H} {p : List MemPlace} (hk : DiskTy P e) (hv : Value.okWide P W .any base e v) (h : DataW.Trod enc P W 0 (fun _ => true) true e v d p) : ∃ k : Dk, v = .agg k.cel.toArray ∧ k.Rd W 0 W.heap.size := by
  obtain ⟨g0, g1, g2, g3, f0, f1, _, _, _, _, he, _⟩ := hk.und
  simp only [Value.okWide, he] at hv
  obtain ⟨cs, rfl, hsz, _⟩ := hv
  obtain ⟨fuel, hf⟩ := h
  obtain ⟨k, hk1, hk2⟩ := open_diskT hk hf
  exact ⟨k, by simp [Value.cells] at hk1; rw [← hk1], hk2⟩
end open_
end Go.SL
