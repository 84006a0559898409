import Derived.Test.YthncpmablodbjaaDoorBaseE
namespace Go.SL
open Go
section mk
variable {ρ : Option Nat} {P : Program} {ty : TypeId} {f : Fr} {w : World} {K : Value → World → Prop}
/-- append of 'make([]T, m)' to a slice without room -/
theorem run_appendMake {t t2 e sz bytes B m : Nat} {z : Value} {k : IntKind} {a : Option Addr} (hS : TyS P t e sz bytes z) (ht2 : P.underlying t2 = some (.int k)) (hm0 : 0 < m) (hm : m ≤ maxLen) (hb : m * bytes ≤ 140737488355328) (hB : B ≤ w.heap.size) :
    ∃ v' w' xs, (Builtin.append_ #[t, t2] ty #[.slice a 0 0, .int .i64 m]).run P w = .ok v' w' ∧ Own w' B e sz v' m xs ∧ Ext w w' ∧ (∀ b, obk v' = some b → w.heap.size ≤ b) := by
  obtain ⟨i, hi, hi1, hi2, hi3⟩ := hS.info
  have hcap := nextslicecap_le (need := m) (old := 0) hm0
  have hbytes : ¬ (281474976710656 < Builtin.nextslicecap m 0 * i.bytes) := by
    rw [hi2]
    have : Builtin.nextslicecap m 0 * bytes ≤ 2 * m * bytes := Nat.mul_le_mul_right _ hcap
    rw [Nat.mul_assoc] at this
    omega
  have hbi : ¬ (281474976710656 : Int) < (m : Int) * (i.bytes : Int) := by
    rw [hi2, ← Int.natCast_mul]
    omega
  have hw : IntKind.i64.wrap (m : Int) = m := i64_wrap (by omega) (by unfold maxLen at hm; omega)
  have hge := grownCap_ge w m 0 e
  have hle := grownCap_le_maxLen w m 0 e hm
  have hsmall : ¬ (9223372036854775807 < (m : Int)) := by
    simp only [maxLen] at hm
    omega
  have hold : (Builtin.firstCells sz 0 (.slice a 0 0)).run P w.drew = .ok #[] w.drew := by cases a <;> simp [Builtin.firstCells, loadCells, loadCellsFrom]
  have hnn : ¬ (m : Int) < 0 := by omega
  obtain ⟨ys, hys⟩ : ∃ ys : Array Value, ys = (if m * sz = 0 then #[] else Builtin.zeroCells z.cells m) := ⟨_, rfl⟩
  have hysz : ys.size = m * sz := by
    rw [hys]
    split
    · rename_i h; rw [h]; rfl
    · rw [size_zeroCells, hS.zs]
  refine ⟨.slice (some ⟨w.heap.size, 0, none⟩) m (grownCap w m 0 e), w.drew.alloc (.cells (#[] ++ ys ++ Builtin.zeroCells z.cells (grownCap w m 0 e - m)) e), ys.toList, ?_, ?_, ?_, ?_⟩
  · by_cases h0 : m * sz = 0
    · rw [if_pos h0] at hys
      simp [Builtin.append_, run_underlying hS.und, run_underlying ht2, sizeOf, typeInfo, zeroValue, hi, hi3, hi1, hw, hnn, hbi, hsmall, hbytes, Question.forced, hold, newRow, grownCap, asInt, asIntOf, h0, hys]
      intro h; omega
    · rw [if_neg h0] at hys
      simp [Builtin.append_, run_underlying hS.und, run_underlying ht2, sizeOf, typeInfo, zeroValue, hi, hi3, hi1, hw, hnn, hbi, hsmall, hbytes, Question.forced, hold, newRow, grownCap, asInt, asIntOf, h0, hys]
      intro h; omega
  · refine ⟨by simp [hysz], _, _, rfl, hge, hle, .inr ⟨w.heap.size, _, rfl, hB, heap_alloc_new w.drew _, ?_, ?_⟩⟩
    · simp only [Array.size_append, size_zeroCells, hS.zs, hysz, Array.size_empty, Nat.zero_add, ← Nat.add_mul]
      rw [Nat.add_sub_cancel' hge]
      exact Nat.le_refl _
    · simp only [Array.toList_append, List.nil_append]
      rw [show m * sz = ys.toList.length by simp [hysz]]
      exact List.take_left
  · exact (Upd.drew _ w).trans (ext_alloc w.drew _)
  · intro b hb'
    obtain ⟨k, hk⟩ : ∃ k, grownCap w m 0 e = k + 1 := ⟨_ - 1, (Nat.succ_pred_eq_of_pos (by omega)).symm⟩
    rw [hk] at hb'
    have : w.heap.size = b := by simpa [obk] using hb'
    omega
theorem X_appendMake {t t2 e sz bytes B m : Nat} {z : Value} {k : IntKind} {x y : Operand} {a : Option Addr} (hS : TyS P t e sz bytes z) (ht2 : P.underlying t2 = some (.int k)) (hx : ev f x = .slice a 0 0) (hy : ev f y = .int .i64 m) (hm0 : 0 < m) (hm : m ≤ maxLen) (hb : m * bytes ≤ 140737488355328) (hB : B ≤ w.heap.size)
    (h : ∀ v' w' xs, Own w' B e sz v' m xs → Ext w w' → (∀ b, obk v' = some b → w.heap.size ≤ b) → K v' w') : Exec ρ P (.call { callee := .builtin .append, args := #[x, y], argTypes := #[t, t2] }) ty f w K := by
  obtain ⟨v', w', xs, hr, h2, h3, h4⟩ := run_appendMake (ty := ty) (a := a) hS ht2 hm0 hm hb hB
  refine X_val (fun _ => by simp) v' (fun o ho ht => ?_) (h v' w' xs h2 h3 h4)
  unfold execOp
  rw [ho]
  simp [resolve, invoke, builtin, hx, hy, ht, hr]
theorem setCell_same {b o : Nat} {c : Array Value} {t : TypeId} {v : Value} (h : Blk w b c t) (hv : c[o]? = some v) : w.setCell ⟨b, o, none⟩ v = w := by
  have hh : (w.setCell ⟨b, o, none⟩ v).heap = w.heap := by
    apply Array.ext_getElem?
    intro i
    by_cases hi : i = b
    · subst hi
      have h2 := h.setCell o v
      have h3 : c.setIfInBounds o v = c := by
        apply Array.ext_getElem?
        intro j
        rw [Array.getElem?_setIfInBounds]
        split
        · rename_i hj; subst hj; rw [hv]; simp; exact (Array.getElem?_eq_some_iff.1 hv).1
        · rfl
      rw [h3] at h2
      exact h2.trans h.symm
    · exact Go.RowKit.Below.heap_setCell w _ v i hi
  have : w.setCell ⟨b, o, none⟩ v = { w with heap := (w.setCell ⟨b, o, none⟩ v).heap } := rfl
  rw [this, hh]
/-- a store of what is there -/
theorem X_storeSame {t : TypeId} {x y : Operand} {b o : Nat} {c : Array Value} {te : TypeId} {v : Value} (h1 : Ty1 P t) (hx : ev f x = ptr b o) (hy : ev f y = v) (hv : v.oneCell' = true) (hB : Blk w b c te) (hc : c[o]? = some v) (h : K undef w) : Exec ρ P (.store t x y) ty f w K := by
  have ho : o < c.size := (Array.getElem?_eq_some_iff.1 hc).1
  refine X_su (Instr.storeAt t (ev f x) (ev f y)) (fun _ => by simp) (fun o ho _ => by unfold execOp; rw [ho]) (w' := w) ?_ h
  rw [hx, hy]
  simp [Instr.storeAt, Instr.sureAddr, ptr, run_storeVar1 h1.size hB ho hv, setCell_same hB hc]
end mk
/-- the number that bytes tell, the first one the least -/
def valB : List UInt8 → Nat
  | [] => 0
  | x :: t => x.toNat + 256 * valB t
theorem valB_lt : ∀ l : List UInt8, valB l < 256 ^ l.length
  | [] => by simp [valB]
  | x :: t => by
    have := valB_lt t
    have hx := x.toNat_lt
    simp only [valB, List.length_cons, Nat.pow_succ]
    omega
theorem u64_wrap {a : Int} (h0 : 0 ≤ a) (h : a < 18446744073709551616) : IntKind.u64.wrap a = a := by
  have e : (2 : Int) ^ 64 = 18446744073709551616 := by decide
  simp only [IntKind.wrap, IntKind.signed, IntKind.bits, e, Bool.false_and, Bool.false_eq_true, if_false]
  omega
theorem or_u64 {v x : Nat} (hx : x < 256) (hv : 256 * v < 18446744073709551616) : iop .or .u64 ((256 * v : Nat) : Int) (x : Int) = ((x + 256 * v : Nat) : Int) := by
  have h1 : 2 ^ 8 * v + x = 2 ^ 8 * v ||| x := Nat.two_pow_add_eq_or_of_lt hx v
  have e1 : (BitVec.ofInt 64 ((256 * v : Nat) : Int)).toNat = 256 * v := by rw [BitVec.toNat_ofInt]; omega
  have e2 : (BitVec.ofInt 64 (x : Int)).toNat = x := by rw [BitVec.toNat_ofInt]; omega
  show IntKind.u64.wrap ((BitVec.ofInt 64 ((256 * v : Nat) : Int) ||| BitVec.ofInt 64 (x : Int)).toNat : Int) = _
  rw [BitVec.toNat_or, e1, e2]
  have h1' : 256 * v + x = 256 * v ||| x := h1
  have h2 : 256 * v ||| x = x + 256 * v := by rw [← h1']; omega
  rw [h2]
  exact u64_wrap (by omega) (by omega)
theorem shl8_u64 {v : Nat} (hv : 256 * v < 18446744073709551616) : IntKind.u64.wrap ((v : Int) * 2 ^ (min (8 : Int).toNat IntKind.u64.bits)) = ((256 * v : Nat) : Int) := by
  have e : (2 : Int) ^ (min (8 : Int).toNat IntKind.u64.bits) = 256 := by decide
  rw [e, show ((v : Int) * 256) = ((256 * v : Nat) : Int) by omega]
  exact u64_wrap (by omega) (by omega)
theorem u64_u8 (x : UInt8) : IntKind.u64.wrap (x.toNat : Int) = (x.toNat : Int) := by have := x.toNat_lt; exact u64_wrap (by omega) (by omega)
end Go.SL
