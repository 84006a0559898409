import Derived.Test.YthncpmablodbjaaDoorBaseK
namespace Go.SL
open Go
section more
variable {ρ : Option Nat} {P : Program} {ty : TypeId} {f : Fr} {w : World} {K : Value → World → Prop}
def headv (v : Value) (h m : Nat) : Value := match v with | .slice a _ _ => .slice a h m | x => x
/-- 's[:h:m]' -/
theorem X_slice3 {t e sz bytes n h' m : Nat} {z v : Value} {x oh om : Operand} {kh km : IntKind} (hS : TyS P t e sz bytes z) (hx : ev f x = v) (hv : SV v n) (hh : ev f oh = .int kh h') (hm : ev f om = .int km m) (h1 : h' ≤ m) (h2 : m ≤ n) (h : K (headv v h' m) w) :
    Exec ρ P (.slice t x none (some oh) (some om)) ty f w K := by
  obtain ⟨a, c, rfl, hnc, hcm, _⟩ := hv
  obtain ⟨ie, he, hz, _⟩ := hS.info
  have hb2 : ∀ k cd, (Instr.sliceBound (.int k m) c cd).run P w = .ok m w := fun k cd => by
    have : m ≤ c := by omega
    simp [Instr.sliceBound, asIntOf, this]
  have hb1 : ∀ k cd, (Instr.sliceBound (.int k h') m cd).run P w = .ok h' w := fun k cd => by simp [Instr.sliceBound, asIntOf, h1]
  refine X_sv (Instr.sliceAt t (ev f x) none (some (ev f oh)) (some (ev f om))) (fun _ => by simp) (fun o ho _ => by unfold execOp; rw [ho]; rfl) ?_ h
  rw [hx, hh, hm]
  have hsz : (sizeOf e).run P w = .ok sz w := by simp [sizeOf, typeInfo, he, hz]
  simp [Instr.sliceAt, Instr.slice, run_underlying hS.und, Instr.sliceBounds, hsz, headv, hb1, hb2]
  try (cases a <;> simp [Addr.add] <;> split <;> simp)
theorem flat_set {es : List KE} {n : Nat} {e : KE} (he : es[n]? = some e) (kv : Value) (m : List UInt8) : (es.set n (kv, m, e.2.2)).flatMap LK.cel = (es.flatMap LK.cel).set (n * 6) kv := by
  induction es generalizing n with
  | nil => simp at he
  | cons a r ih =>
    cases n with
    | zero =>
      simp only [List.getElem?_cons_zero, Option.some.injEq] at he
      subst he
      rfl
    | succ n =>
      rw [List.set_cons_succ, List.flatMap_cons, List.flatMap_cons, ih (by simpa using he), List.set_append_right _ _ (by rw [LK.len, Nat.succ_mul]; show 6 ≤ _; omega)]
      rw [LK.len, show (n + 1) * 6 - LK.sz = n * 6 by show (n + 1) * 6 - 6 = _; omega]
/-- a key stored into an element of an owned row of kids -/
theorem X_storeKey {t er eb lo up up' n N : Nat} {x y : Operand} {v kv : Value} {es : List KE} {e : KE} {m : List UInt8} (h1 : Ty1 P t) (hN : NOwn LK w er eb lo up v es) (he : es[n]? = some e) (hn : n < N) (hNl : N ≤ es.length) (hx : ev f x = pof (cutv v 6 n N) 0) (hy : ev f y = kv)
    (hK : BOwn w eb lo up' (kv, m)) (hne : er ≠ eb) (hu : up ≤ up')
    (h : ∀ w', NOwn LK w' er eb lo up' v (es.set n (kv, m, e.2.2)) → Upd (fun b => obk v = some b) w w' → K undef w') : Exec ρ P (.store t x y) ty f w K := by
  obtain ⟨⟨hl, a, c, rfl, hnc, hcm, hcase⟩, hb, hk⟩ := hN
  have hN' : NOwn LK w er eb lo up (.slice a es.length c) es := ⟨⟨hl, a, c, rfl, hnc, hcm, hcase⟩, hb, hk⟩
  rcases hcase with h0 | ⟨g, cur, rfl, hB, hblk, hs, hxs⟩
  · omega
  · obtain ⟨k, rfl⟩ : ∃ k, c = k + 1 := ⟨c - 1, by omega⟩
    have hp : pof (cutv (.slice (some ⟨g, 0, none⟩) es.length (k + 1)) 6 n N) 0 = ptr g (n * 6) := by
      unfold cutv
      have hne : ¬ k + 1 = n := by omega
      simp only [if_neg hne, Option.map_some, addr_add, pof, ptr, Nat.zero_add, Nat.add_zero]
    rw [hp] at hx
    have hsz : n * 6 < cur.size := by
      have h6 : (n + 1) * 6 ≤ (k + 1) * 6 := Nat.mul_le_mul_right 6 (by omega)
      have hs6 : (k + 1) * 6 ≤ cur.size := hs
      omega
    have hsz2 : es.length * LK.sz ≤ cur.toList.length := by
      have : es.length * LK.sz ≤ (k + 1) * LK.sz := Nat.mul_le_mul_right _ hnc
      have h9 : cur.toList.length = cur.size := Array.length_toList
      omega
    refine X_store h1 hx hy hK.1.sv.one hblk hsz fun w' hu' hb' => ?_
    have hU : Upd (fun b => obk (.slice (some ⟨g, 0, none⟩) es.length (k + 1)) = some b) w w' := hu'.mono fun b _ hd => by have hd : b = g := hd; subst hd; rfl
    have hO : Own w' lo er LK.sz (.slice (some ⟨g, 0, none⟩) es.length (k + 1)) es.length ((es.set n (kv, m, e.2.2)).flatMap LK.cel) := by
      refine ⟨by rw [flat_len, List.length_set], _, _, rfl, hnc, hcm, .inr ⟨g, _, rfl, hB, hb', by simpa using hs, ?_⟩⟩
      rw [flat_set he, ← hxs, Array.toList_setIfInBounds]
      apply List.ext_getElem?
      intro j
      have h6 : n * 6 < es.length * LK.sz := by
        have h7 := (List.getElem?_eq_some_iff.1 he).1
        have : (n + 1) * 6 ≤ es.length * 6 := Nat.mul_le_mul_right 6 h7
        show n * 6 < es.length * 6
        omega
      simp only [List.getElem?_take, List.getElem?_set, List.length_take]
      grind
    refine h w' ⟨hO.eq (by rw [List.length_set]) rfl, fun b hb'' => Nat.lt_of_lt_of_le (hb b hb'') hu, fun e' he' s hs' => ?_⟩ hU
    rcases List.mem_or_eq_of_mem_set he' with h2 | rfl
    · have h3 := hk e' h2 s hs'
      exact ⟨h3.1.upd hU fun b h4 h5 => hne (hN'.1.types h3.1 h5 h4), fun b h4 => Nat.lt_of_lt_of_le (h3.2 b h4) hu⟩
    · have h1 : s = (kv, m) := by simpa [LK] using hs'
      subst h1
      exact ⟨hK.1.upd hU fun b h4 h5 => hne (hN'.1.types hK.1 h5 h4), hK.2⟩
theorem Dist.set {es : List KE} {n m : Nat} {e : KE} (h : Dist es) (h1 : ∀ a ∈ es, ∀ k, obk a.1 = some k → k < m) (h2 : ∀ k, obk e.1 = some k → m ≤ k) : Dist (es.set n e) := by
  unfold Dist
  induction es generalizing n with
  | nil => simp
  | cons a r ih =>
    obtain ⟨ha, hr⟩ := List.pairwise_cons.1 h
    cases n with
    | zero =>
      rw [List.set_cons_zero]
      refine List.pairwise_cons.2 ⟨fun b hb k hk hk' => ?_, hr⟩
      have := h1 b (by simp [hb]) k hk'
      have := h2 k hk
      omega
    | succ n =>
      rw [List.set_cons_succ]
      refine List.pairwise_cons.2 ⟨fun b hb k hk hk' => ?_, ih hr fun c hc => h1 c (by simp [hc])⟩
      rcases List.mem_or_eq_of_mem_set hb with hb | rfl
      · exact ha b hb k hk hk'
      · have := h1 a (by simp) k hk
        have := h2 k hk'
        omega
end more
end Go.SL
namespace Go.SL
open Go
section heads
variable {w : World}
theorem NRd.head {ε : Type} {L : Lay ε} {lo hi k : Nat} {v : Value} {es : List ε} (h : NRd L w lo hi v es) (hk : k ≤ es.length) : NRd L w lo hi (headv v k k) (es.take k) := by
  have hc := h.cut (l := 0) (h := k) (Nat.zero_le _) hk
  rw [List.drop_zero, Nat.sub_zero] at hc
  obtain ⟨hR, hb, hs⟩ := hc
  have h1 := h.1
  obtain ⟨_, a, c, rfl, hnc, hcm, _⟩ := h1
  rw [cutv_zero'] at hR hb
  obtain ⟨hl, a', c', hv, hn2, hc2, h3⟩ := hR
  injection hv with e1 e2 e3
  subst e1
  refine ⟨⟨hl, a, k, by show headv _ _ _ = _; simp [headv, List.length_take, Nat.min_eq_left hk], by rw [List.length_take]; omega, Nat.le_trans (Nat.le_trans hk hnc) hcm, h3⟩, fun b hb' => hb b ?_, hs⟩
  cases k with
  | zero => cases a <;> simp [headv, rbk] at hb'
  | succ k =>
    cases a with
    | none => simp [headv, rbk] at hb'
    | some a => simpa [headv, rbk] using hb'
theorem NRd.tail {ε : Type} {L : Lay ε} {lo hi k : Nat} {v : Value} {es : List ε} (h : NRd L w lo hi v es) (hk : k ≤ es.length) : NRd L w lo hi (cutv v L.sz k es.length) (es.drop k) := by
  have := h.cut hk (Nat.le_refl _)
  rwa [List.take_of_length_le (by rw [List.length_drop]; omega)] at this
theorem cutv_all {v : Value} {n sz : Nat} (h : SV v n) : cutv v sz 0 n = v := by
  obtain ⟨a, c, rfl, _⟩ := h
  exact cutv_zero'
theorem NRd.parts {ε : Type} {L : Lay ε} {lo hi : Nat} {v : Value} {es fs : List ε} (h : NRd L w lo hi v es) (e : es = fs) : NRd L w lo hi v fs := e ▸ h
end heads
end Go.SL
