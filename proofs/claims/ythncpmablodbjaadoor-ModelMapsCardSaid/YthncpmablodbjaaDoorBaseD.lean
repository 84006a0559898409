import Derived.Test.YthncpmablodbjaaDoorBaseC
import Derived.Carry
import Derived.OpenShut
import Derived.ProofKit
import Derived.ChangeSlices
namespace Go.SL
open Go Go.ChangeShapes Go.WideShapes Go.RowKit

/-! ### From a contract to the statement's own reading -/

section frame
variable {H : Type} {enc : TypeId × Value → H} {P : Program}

theorem trodAll_stays (hl : laidOutB P = true) {W W' : World} {sp : Nat → Bool} : ∀ {ts : List TypeId} {vs : List Value} {ds : List (DataW H)} {ps : List MemPlace},
    (ts.all fun t => P.readableRec t && decide (t < P.types.size)) = true → DataW.TrodAll enc P W 0 (fun _ => true) true ts vs ds ps → (∀ p ∈ ps, W.sameAt W' p) → (∀ p ∈ ps, sp p.block = true) → DataW.TrodAll enc P W' 0 sp true ts vs ds ps
  | [], _, _, _, _, h, _, _ => by
    obtain ⟨rfl, rfl, rfl⟩ := trodAll_nil h
    exact trodAll_mk0
  | t :: ts, _, _, _, hk, h, hs, hp => by
    obtain ⟨v, vs1, d, ds1, a, b, rfl, rfl, rfl, h1, h2⟩ := trodAll_cons h
    rw [List.all_cons, Bool.and_eq_true, Bool.and_eq_true] at hk
    refine ⟨a, b, WideElems.Trod_stays hl hk.1.1 (of_decide_eq_true hk.1.2) h1 (fun p hp' => hs p (by simp [hp'])) (fun p hp' => hp p (by simp [hp'])), ?_, rfl⟩
    exact trodAll_stays hl hk.2 h2 (fun p hp' => hs p (by simp [hp'])) fun p hp' => hp p (by simp [hp'])

theorem Ext.below {W W' : World} (h : Ext W W') : Below W.heap.size W W' := ⟨h.os, h.tape, h.output, h.size, fun k hk => h.blk k hk fun hx => hx⟩

/-- A law that turns no memory and answers true. -/
theorem law_post {f : Func} {s : ChangeSpec} {apart fresh handsOn : Bool} {W W' : World} {args : Array Value} {ds gs : List (DataW H)} {before : List MemPlace} {t : TypeId}
    (hl : laidOutB P = true) (hps : (f.params.toList.all fun t => P.readableRec t && decide (t < P.types.size)) = true) (hrt : f.resultTypes = #[t]) (ht : P.underlying t = some .bool) (hv : s.vars = [])
    (hsp : (s.fn H (ds ++ gs)).results = [.lit (.bool true)] ∧ (s.fn H (ds ++ gs)).args = ds ∧ (s.fn H (ds ++ gs)).vars = [])
    (hW : DataW.Whole enc P f.params.toList s.vars apart W args.toList ds gs before) (hx : Ext W W') : s.post enc P f apart fresh handsOn false W args (.bool true) W' := by
  have hlt := hW.lt
  have hb := hx.below
  have hW' := hW
  obtain ⟨p, q, hA, hV, hpq, hfz, _⟩ := hW
  rw [hv] at hV
  obtain ⟨hg, hq⟩ := trodVars_none hV
  subst hq
  rw [List.append_nil] at hpq
  subst hpq
  have hsame : ∀ x ∈ before, W.sameAt W' x := fun x hx' => hb.same (hlt x hx')
  refine ⟨ds, gs, before, [], before, [], hW', ?_, ?_, ?_, hb.frame _, fun h => by cases h⟩
  · rw [hsp.1, hrt]
    exact trodAll_cons_mk (shut_bool ht _) trodAll_mk0
  · rw [hsp.2.1]
    exact trodAll_stays hl hps hA hsame fun x hx' => by simpa using hlt x hx'
  · rw [hsp.2.2, hv]
    exact rfl

variable {W : World} {base : Nat}
theorem byteV_of {z : Int} (h : (Lit.int .u8 z).wf = true) : byteV (UInt8.ofNat z.toNat) = .int .u8 z := by
  obtain ⟨h1, h2⟩ := bounds_u8 h
  show Value.int .u8 ((UInt8.ofNat z.toNat).toNat : Int) = _
  rw [UInt8.toNat_ofNat']
  congr 1
  omega
theorem bytes_of {zs : List Int} (h : ∀ n ∈ zs, (Lit.int .u8 n).wf = true) : (zs.map fun z => UInt8.ofNat z.toNat).map byteV = zs.map fun z => .int .u8 z := by
  rw [List.map_map]
  exact List.map_congr_left fun z hz => byteV_of (h z hz)
theorem open_bytes {t e : TypeId} {v : Value} {d : DataW H} {p : List MemPlace} (ht : P.underlying t = some (.slice e)) (he : P.underlying e = some (.int .u8)) (hc : P.cellsOf e = 1)
    (hv : Value.okWide P W .any base t v) (h : DataW.Trod enc P W 0 (fun _ => true) true t v d p) : ∃ l : List UInt8, Rd W 1 v l.length (l.map byteV) := by
  obtain ⟨a0, len0, cap0, rfl⟩ := okWide_slice ht hv
  obtain ⟨fuel, hf⟩ := h
  rcases open_ints ht he hc hf with ⟨hcs, _⟩ | ⟨a, len, cap, zs, hcs, _, hlc, hm, hz, _, hcell, hwz⟩
  · simp [Value.cells] at hcs
    obtain ⟨rfl, rfl, rfl⟩ := hcs
    exact ⟨[], Rd.nil W 1⟩
  · simp [Value.cells] at hcs
    obtain ⟨rfl, rfl, rfl⟩ := hcs
    simp only [if_true] at hz
    have hl : (((zs.take len0).map fun z => UInt8.ofNat z.toNat).length) = len0 := by simp; omega
    refine ⟨(zs.take len0).map fun z => UInt8.ofNat z.toNat, ?_⟩
    rw [hl, bytes_of fun n hn => hwz n (List.mem_of_mem_take hn)]
    refine ⟨by simp; omega, some a, cap0, rfl, hlc, hm, fun h0 => ?_⟩
    obtain ⟨b, o, sp⟩ := a
    have hspot : sp = none := by simpa [Addr.add] using World.cell?_spot (hcell 0 (by omega))
    subst hspot
    refine ⟨b, o, rfl, fun j u hj => ?_⟩
    rw [List.getElem?_map] at hj
    have hj' : j < len0 := by
      rcases Nat.lt_or_ge j len0 with h1 | h1
      · exact h1
      · rw [List.getElem?_take_eq_none h1] at hj; cases hj
    rw [List.getElem?_take_of_lt hj', List.getElem?_eq_getElem (by omega)] at hj
    simp only [Option.map_some, Option.some.injEq] at hj
    subst hj
    have := hcell j (by omega)
    rw [addr_add, List.getD_eq_getElem?_getD, List.getElem?_eq_getElem (by omega)] at this
    exact this
theorem open_byteArr {t e n : Nat} {v : Value} {d : DataW H} {p : List MemPlace} (ht : P.underlying t = some (.array n e)) (he : P.underlying e = some (.int .u8)) (hc : P.cellsOf e = 1) (hct : P.cellsOf t = n)
    (hv : Value.okWide P W .any base t v) (h : DataW.Trod enc P W 0 (fun _ => true) true t v d p) : ∃ l : List UInt8, l.length = n ∧ v = .agg (l.map byteV).toArray := by
  simp only [Value.okWide, ht] at hv
  obtain ⟨cs, rfl, hsz, _⟩ := hv
  obtain ⟨fuel, hf⟩ := h
  obtain ⟨xs, m, _, _, hlen, hxs, hel⟩ := DataW.trod_array ht hf
  have key : ∀ i, i < n → ∃ x : UInt8, cs[i]? = some (byteV x) := fun i hi => by
    have h1 := hel i hi
    rw [List.getElem?_eq_getElem (by omega), hc, Nat.mul_one] at h1
    obtain ⟨z, hz, _, hw⟩ := DataW.trod_int he h1
    refine ⟨UInt8.ofNat z.toNat, ?_⟩
    rw [byteV_of hw]
    have h2 : (cs.toList.drop i).head? = some (.int .u8 z) := by
      have h3 : ((cs.toList.drop i).take 1) = [.int .u8 z] := by simpa [Value.cells] using hz
      cases hd : cs.toList.drop i with
      | nil => rw [hd] at h3; cases h3
      | cons a r => rw [hd] at h3; simp at h3; subst h3; rfl
    rw [List.head?_drop] at h2
    simpa using h2
  have hn : cs.size = n := hsz.trans hct
  refine ⟨(List.range n).map fun i => (match (cs[i]? : Option Value) with | some (.int _ z) => UInt8.ofNat z.toNat | _ => 0), by simp, ?_⟩
  congr 1
  apply Array.ext_getElem?
  intro i
  rw [List.map_map]
  simp only [List.getElem?_toArray, List.getElem?_map]
  rcases Nat.lt_or_ge i n with h1 | h1
  · rw [List.getElem?_range h1]
    obtain ⟨x, hx⟩ := key i h1
    rw [hx]
    simp only [Option.map_some, Function.comp]
    rw [hx]
    simp only [byteV]
    congr 2
    have := x.toNat_lt
    simp
  · rw [List.getElem?_eq_none (by simp; omega), Array.getElem?_eq_none (by omega)]
    rfl
end frame
end Go.SL
