/-
  Parts of arrays at any place of a block; rows of numbers of 32 bits; arguments that are pins (an array of flags, an array of numbers). Of no program.
-/
import Derived.Test.YtlelcjppakmnaaaBaseW
namespace Go.SL
open Go Go.ChangeShapes Go.WideShapes Go.RowKit

section ops
variable {ρ : Option Nat} {P : Program} {ty : TypeId} {f : Fr} {w : World} {K : Value → World → Prop}
/-- 'p[l:h]' of an array from place o of a block on -/
theorem X_sliceAO {t e sz len b o : Nat} {x : Operand} {lo hi : Option Operand} {l h' : Nat} {kl kh : IntKind} (ht : P.underlying t = some (.array len e)) (he : (P.info? e).map (·.size) = some sz) (hx : ev f x = ptr b o)
    (hlo : match lo with | none => l = 0 | some o => ev f o = .int kl l) (hhi : match hi with | none => h' = len | some o => ev f o = .int kh h') (h1 : l ≤ h') (h2 : h' ≤ len) (h : K (cutv (.slice (some ⟨b, o, none⟩) len len) sz l h') w) :
    Exec ρ P (.slice t x lo hi none) ty f w K := by
  have hb1 : ∀ k cd, (Instr.sliceBound (.int k l) h' cd).run P w = .ok l w := fun k cd => by simp [Instr.sliceBound, asIntOf, h1]
  have hb2 : ∀ k cd, (Instr.sliceBound (.int k h') len cd).run P w = .ok h' w := fun k cd => by simp [Instr.sliceBound, asIntOf, h2]
  refine X_sv (Instr.sliceAt t (ev f x) (lo.map (ev f)) (hi.map (ev f)) none) (fun _ => by simp) (fun o ho _ => by unfold execOp; rw [ho]; rfl) ?_ h
  rw [hx]
  cases lo with
  | none =>
    simp only at hlo; subst hlo
    cases hi with
    | none =>
      simp only at hhi; subst hhi
      simp [Instr.sliceAt, run_underlying ht, Instr.sliceBounds, run_sizeOf_of he, cutv, ptr, Instr.sureAddr]
      split <;> rfl
    | some oh =>
      simp only at hhi
      simp [Instr.sliceAt, run_underlying ht, Instr.sliceBounds, run_sizeOf_of he, cutv, ptr, Instr.sureAddr, hhi, hb2]
      split <;> rfl
  | some ol =>
    simp only at hlo
    cases hi with
    | none =>
      simp only at hhi; subst hhi
      simp [Instr.sliceAt, run_underlying ht, Instr.sliceBounds, run_sizeOf_of he, cutv, ptr, Instr.sureAddr, hlo, hb1]
      split <;> rfl
    | some oh =>
      simp only at hhi
      simp [Instr.sliceAt, run_underlying ht, Instr.sliceBounds, run_sizeOf_of he, cutv, ptr, Instr.sureAddr, hlo, hhi, hb1, hb2]
      split <;> rfl
end ops

def u32V (z : Int) : Value := .int .u32 z
theorem u32V_one (l : List Int) : ∀ u ∈ l.map u32V, u.oneCell' = true := by
  intro u hu
  obtain ⟨x, _, rfl⟩ := List.mem_map.1 hu
  rfl
/-- flags, and numbers behind them -/
def pinC (on : List Bool) (tx : List Int) : List Value := on.map Value.bool ++ tx.map u32V
theorem pinC_len {on : List Bool} {tx : List Int} (h1 : on.length = 8) (h2 : tx.length = 8) : (pinC on tx).length = 16 := by
  unfold pinC
  rw [List.length_append, List.length_map, List.length_map, h1, h2]
theorem pinC_one (on : List Bool) (tx : List Int) : ∀ u ∈ pinC on tx, u.oneCell' = true := by
  intro u hu
  rcases List.mem_append.1 hu with h | h
  · obtain ⟨x, _, rfl⟩ := List.mem_map.1 h; rfl
  · exact u32V_one tx u h
section blk
variable {w : World} {b : Nat} {t : TypeId} {on : List Bool} {tx : List Int}
theorem pin_on (h : Blk w b (pinC on tx).toArray t) (h1 : on.length = 8) : Rd w 1 (.slice (some ⟨b, 0, none⟩) 8 8) 8 (on.map Value.bool) :=
  h.rd (Nat.le_refl _) (by decide) (by rw [List.length_map, h1]) fun j u hj => by
    have hlt := (List.getElem?_eq_some_iff.1 hj).1
    rw [Nat.zero_add, List.getElem?_toArray]
    unfold pinC
    rw [List.getElem?_append_left hlt]; exact hj
theorem pin_tx (h : Blk w b (pinC on tx).toArray t) (h1 : on.length = 8) (h2 : tx.length = 8) : Rd w 1 (.slice (some ⟨b, 8, none⟩) 8 8) 8 (tx.map u32V) :=
  h.rd (Nat.le_refl _) (by decide) (by rw [List.length_map, h2]) fun j u hj => by
    rw [List.getElem?_toArray]
    unfold pinC
    rw [List.getElem?_append_right (by rw [List.length_map]; omega), List.length_map, h1, Nat.add_sub_cancel_left]; exact hj
theorem pin_setOn (h1 : on.length = 8) {i : Nat} (hi : i < 8) (o : Bool) : (pinC on tx).toArray.setIfInBounds i (.bool o) = (pinC (on.set i o) tx).toArray := by
  apply Array.ext'
  rw [Array.toList_setIfInBounds]
  show (pinC on tx).set i (.bool o) = pinC (on.set i o) tx
  unfold pinC
  rw [List.set_append, if_pos (by rw [List.length_map]; omega), List.map_set]
theorem pin_setTx (h1 : on.length = 8) {i : Nat} (z : Int) : (pinC on tx).toArray.setIfInBounds (8 + i) (u32V z) = (pinC on (tx.set i z)).toArray := by
  apply Array.ext'
  rw [Array.toList_setIfInBounds]
  show (pinC on tx).set (8 + i) (u32V z) = pinC on (tx.set i z)
  unfold pinC
  rw [List.set_append, if_neg (by rw [List.length_map]; omega), List.length_map, h1, Nat.add_sub_cancel_left, List.map_set]
end blk

section open_
variable {H : Type} {enc : TypeId × Value → H} {P : Program} {W : World} {base : Nat}
theorem open_cellsT {κ : Type} [Inhabited κ] (c : κ → Value) {fuel : Nat} {x : DataW H × List MemPlace} {t e n : Nat} {cs : List Value} (ht : P.underlying t = some (.array n e)) (hc : P.cellsOf e = 1) (hct : P.cellsOf t = n)
    (hel : ∀ (fuel : Nat) (cs : List Value) (x : DataW H × List MemPlace), DataW.trod enc P W 0 (fun _ => true) true fuel e cs = some x → ∃ k : κ, cs = [c k])
    (hf : DataW.trod enc P W 0 (fun _ => true) true fuel t cs = some x) : ∃ l : List κ, l.length = n ∧ cs = l.map c := by
  obtain ⟨xs, m, _, _, hlen, hxs, hel2⟩ := DataW.trod_array ht hf
  have hn : cs.length = n := hlen.trans hct
  have key : ∀ i, i < n → ∃ k : κ, cs[i]? = some (c k) := fun i hi => by
    have h1 := hel2 i hi
    rw [List.getElem?_eq_getElem (by omega), hc, Nat.mul_one] at h1
    obtain ⟨z, hz⟩ := hel _ _ _ h1
    refine ⟨z, ?_⟩
    have h2 : (cs.drop i).head? = some (c z) := by
      cases hd : cs.drop i with
      | nil => rw [hd] at hz; cases hz
      | cons a r => rw [hd] at hz; simp at hz; subst hz; rfl
    rw [List.head?_drop] at h2
    exact h2
  obtain ⟨g, hg⟩ : ∃ g : Nat → κ, ∀ i, i < n → cs[i]? = some (c (g i)) := ⟨fun i => Classical.epsilon fun k => cs[i]? = some (c k), fun i hi => Classical.epsilon_spec (key i hi)⟩
  refine ⟨(List.range n).map g, by rw [List.length_map, List.length_range], ?_⟩
  apply List.ext_getElem?
  intro i
  rw [List.map_map, List.getElem?_map]
  rcases Nat.lt_or_ge i n with h1 | h1
  · rw [List.getElem?_range h1, hg i h1]; rfl
  · rw [List.getElem?_eq_none (l := List.range n) (by rw [List.length_range]; exact h1), List.getElem?_eq_none (l := cs) (by omega)]; rfl
/-- what the program's tables say of pins -/
structure PinTy (P : Program) (e : TypeId) : Prop where
  und : ∃ g0 g1 : Field, ∃ b u : TypeId, P.underlying e = some (.struct #[g0, g1]) ∧ g0.offset = 0 ∧ g1.offset = 8 ∧ P.cellsOf g0.type = 8 ∧ P.cellsOf g1.type = 8 ∧ P.underlying g0.type = some (.array 8 b) ∧ P.underlying g1.type = some (.array 8 u) ∧
    P.underlying b = some .bool ∧ P.cellsOf b = 1 ∧ P.underlying u = some (.int .u32) ∧ P.cellsOf u = 1
  cells : P.cellsOf e = 16
theorem open_pins {e : TypeId} {v : Value} {d : DataW H} {p : List MemPlace} (hk : PinTy P e) (hv : Value.okWide P W .any base e v) (h : DataW.Trod enc P W 0 (fun _ => true) true e v d p) :
    ∃ (on : List Bool) (tx : List Int), v = .agg (pinC on tx).toArray ∧ on.length = 8 ∧ tx.length = 8 := by
  obtain ⟨g0, g1, b, u, he, o0, o1, c0, c1, u0, u1, ub, cb, uu, cu⟩ := hk.und
  simp only [Value.okWide, he] at hv
  obtain ⟨cs, rfl, hsz, _⟩ := hv
  obtain ⟨fuel, hf⟩ := h
  have hcs : (Value.agg cs).cells.toList = cs.toList := rfl
  rw [hcs] at hf
  obtain ⟨xs, n, _, _, hlen, hxl, hel⟩ := DataW.trod_struct he hf
  rw [hk.cells] at hlen
  have hx2 : xs.length = 2 := hxl
  have e0 := hel 0 g0 rfl
  have e1 := hel 1 g1 rfl
  rw [List.getElem?_eq_getElem (by omega)] at e0 e1
  rw [o0, c0] at e0
  rw [o1, c1] at e1
  obtain ⟨on, hon, e2⟩ := open_cellsT Value.bool u0 cb c0 (fun fuel cs x h => by
    obtain ⟨o, h, _⟩ := DataW.trod_bool ub h
    exact ⟨o, h⟩) e0
  obtain ⟨tx, htx, e3⟩ := open_cellsT u32V u1 cu c1 (fun fuel cs x h => by
    obtain ⟨z, hz, _, _⟩ := DataW.trod_int uu h
    exact ⟨z, hz⟩) e1
  refine ⟨on, tx, ?_, hon, htx⟩
  congr 1
  apply Array.ext'
  show cs.toList = pinC on tx
  unfold pinC
  rw [← e2, ← e3, List.drop_zero, List.take_of_length_le (l := cs.toList.drop 8) (by rw [List.length_drop]; omega), List.take_append_drop]
end open_
end Go.SL
