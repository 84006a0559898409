/-
  What slices.Insert does to an owned row: it grows, its own cells are moved. Of no program.
-/
import Derived.Test.YthncpmablodbjaaDoorBaseSA
import Derived.Lib.Overlaps
namespace Go.SL
open Go
section ins
variable {ρ : Option Nat} {P : Program} {ty : TypeId} {f : Fr} {w : World} {K : Value → World → Prop}
/-- append of 'make([]T, m)' to an owned row without room -/
theorem run_appendMakeG {t t2 e sz bytes B n c m : Nat} {z : Value} {k : IntKind} {a : Option Addr} {xs : List Value} (hS : TyS P t e sz bytes z) (ht2 : P.underlying t2 = some (.int k)) (hsz : 0 < sz) (hm0 : 0 < m) (hm : n + m ≤ maxLen) (hb : (n + m) * bytes ≤ 140737488355328) (hB : B ≤ w.heap.size)
    (hO : Own w B e sz (.slice a n c) n xs) (hroom : c < n + m) :
    ∃ v' w' ys, (Builtin.append_ #[t, t2] ty #[.slice a n c, .int .i64 m]).run P w = .ok v' w' ∧ ys.length = m * sz ∧ Own w' B e sz v' (n + m) (xs ++ ys) ∧ Ext w w' ∧ (∀ b, obk v' = some b → w.heap.size ≤ b) := by
  obtain ⟨i, hi, hi1, hi2, hi3⟩ := hS.info
  have hO' := hO
  obtain ⟨hlx, a', c', hv, hnc, hcm, hcase⟩ := hO
  cases hv
  have hcap := nextslicecap_le hroom
  have hbytes : ¬ (281474976710656 < Builtin.nextslicecap (n + m) c * i.bytes) := by
    rw [hi2]
    have : Builtin.nextslicecap (n + m) c * bytes ≤ 2 * (n + m) * bytes := Nat.mul_le_mul_right _ hcap
    rw [Nat.mul_assoc] at this
    omega
  have hmb : m * bytes ≤ (n + m) * bytes := Nat.mul_le_mul_right _ (by omega)
  have hbi : ¬ (281474976710656 : Int) < (m : Int) * (i.bytes : Int) := by
    rw [hi2, ← Int.natCast_mul]
    omega
  have hmm : m ≤ maxLen := by omega
  have hw : IntKind.i64.wrap (m : Int) = m := i64_wrap (by omega) (by unfold maxLen at hmm; omega)
  have hge := grownCap_ge w (n + m) c e
  have hle := grownCap_le_maxLen w (n + m) c e hm
  have hsmall : ¬ (9223372036854775807 < (n : Int) + (m : Int)) := by
    simp only [maxLen] at hm
    omega
  have hold : (Builtin.firstCells sz n (.slice a n c)).run P w.drew = .ok xs.toArray w.drew := by
    rcases Nat.eq_zero_or_pos n with h0 | h0
    · subst h0
      have : xs = [] := List.eq_nil_of_length_eq_zero (by simpa using hlx)
      subst this
      cases a <;> simp [Builtin.firstCells, loadCells, loadCellsFrom]
    · obtain ⟨_, a', c', hv, _, _, h3⟩ := hO'.rd
      cases hv
      obtain ⟨b, o, rfl, h4⟩ := h3 h0
      exact run_firstCells_some w.drew sz n _ n c xs hlx fun j u hj => by rw [addr_add]; exact h4 j u hj
  have hnn : ¬ (m : Int) < 0 := by omega
  have hms : ¬ m * sz = 0 := by
    intro h
    rcases Nat.mul_eq_zero.1 h with h | h <;> omega
  obtain ⟨ys, hys⟩ : ∃ ys : Array Value, ys = Builtin.zeroCells z.cells m := ⟨_, rfl⟩
  have hysz : ys.size = m * sz := by rw [hys, size_zeroCells, hS.zs]
  have hnr : ¬ n + m ≤ c := by omega
  refine ⟨.slice (some ⟨w.heap.size, 0, none⟩) (n + m) (grownCap w (n + m) c e), w.drew.alloc (.cells (xs.toArray ++ ys ++ Builtin.zeroCells z.cells (grownCap w (n + m) c e - (n + m))) e), ys.toList, ?_, by simpa using hysz, ?_, ?_, ?_⟩
  · simp [Builtin.append_, run_underlying hS.und, run_underlying ht2, sizeOf, typeInfo, zeroValue, hi, hi3, hi1, hw, hnn, hbi, hsmall, hbytes, Question.forced, hold, newRow, grownCap, asInt, asIntOf, hys, hnr]
    intro h; exact absurd h hms
  · refine ⟨by simp [hysz, hlx, Nat.add_mul], _, _, rfl, hge, hle, .inr ⟨w.heap.size, _, rfl, hB, heap_alloc_new w.drew _, ?_, ?_⟩⟩
    · simp only [Array.size_append, size_zeroCells, hS.zs, hysz, List.size_toArray, hlx, ← Nat.add_mul]
      rw [Nat.add_sub_cancel' hge]
      exact Nat.le_refl _
    · simp only [Array.toList_append]
      rw [show (n + m) * sz = (xs ++ ys.toList).length by simp [hysz, hlx, Nat.add_mul]]
      exact List.take_left
  · exact (Upd.drew _ w).trans (ext_alloc w.drew _)
  · intro b hb'
    obtain ⟨k, hk⟩ : ∃ k, grownCap w (n + m) c e = k + 1 := ⟨_ - 1, (Nat.succ_pred_eq_of_pos (by omega)).symm⟩
    rw [hk] at hb'
    have : w.heap.size = b := by simpa [obk] using hb'
    omega
theorem X_appendMakeG {t t2 e sz bytes B n c m : Nat} {z : Value} {k : IntKind} {x y : Operand} {a : Option Addr} {xs : List Value} (hS : TyS P t e sz bytes z) (ht2 : P.underlying t2 = some (.int k)) (hx : ev f x = .slice a n c) (hy : ev f y = .int .i64 m) (hsz : 0 < sz) (hm0 : 0 < m) (hm : n + m ≤ maxLen) (hb : (n + m) * bytes ≤ 140737488355328) (hB : B ≤ w.heap.size)
    (hO : Own w B e sz (.slice a n c) n xs) (hroom : c < n + m)
    (h : ∀ v' w' ys, ys.length = m * sz → Own w' B e sz v' (n + m) (xs ++ ys) → Ext w w' → (∀ b, obk v' = some b → w.heap.size ≤ b) → K v' w') : Exec ρ P (.call { callee := .builtin .append, args := #[x, y], argTypes := #[t, t2] }) ty f w K := by
  obtain ⟨v', w', ys, hr, h1, h2, h3, h4⟩ := run_appendMakeG (ty := ty) hS ht2 hsz hm0 hm hb hB hO hroom
  refine X_val (fun _ => by simp) v' (fun o ho ht => ?_) (h v' w' ys h1 h2 h3 h4)
  unfold execOp
  rw [ho]
  simp [resolve, invoke, builtin, hx, hy, ht, hr]
/-- copy into an owned row, from its element l on -/
theorem X_copyOwn {t t2 e sz bytes B n l m m' c : Nat} {g : Nat} {z x : Value} {xs ys ys' : List Value} {a1 a2 : Operand} (hS : TyS P t e sz bytes z) (hx : ev f a1 = .slice (some ⟨g, l * sz, none⟩) (n - l) (c - l)) (hy : ev f a2 = x)
    (hO : Own w B e sz (.slice (some ⟨g, 0, none⟩) n c) n xs) (hR : Rd w sz x m' ys') (hys : ys'.take (m * sz) = ys) (h1 : ∀ u ∈ ys, u.oneCell' = true) (hln : l < n) (hm0 : 0 < m) (hmin : Nat.min m' (n - l) = m)
    (h : ∀ w', Own w' B e sz (.slice (some ⟨g, 0, none⟩) n c) n (xs.take (l * sz) ++ ys ++ xs.drop (l * sz + m * sz)) → Upd (fun i => i = g) w w' → K (.int .i64 m) w') :
    Exec ρ P (.call { callee := .builtin .copy, args := #[a1, a2], argTypes := #[t, t2] }) ty f w K := by
  have hmm : m ≤ m' := by rw [← hmin]; exact Nat.min_le_left _ _
  have hml : m ≤ n - l := by rw [← hmin]; exact Nat.min_le_right _ _
  obtain ⟨hl', a, c', rfl, h2, h3, h4⟩ := hR
  have hmz : m * sz ≤ m' * sz := Nat.mul_le_mul_right _ hmm
  have hl : ys.length = m * sz := by rw [← hys, List.length_take, hl']; exact Nat.min_eq_left hmz
  obtain ⟨ie, he, hz, _⟩ := hS.info
  obtain ⟨b', o', rfl, h5⟩ := h4 (by omega)
  obtain ⟨hlx, a', c2, hv, hnc, hcm, hcase⟩ := hO
  cases hv
  rcases hcase with h0 | ⟨g', cur, hg', hB, hg, hfit, htk⟩
  · omega
  cases hg'
  have hnl : l * sz + (n - l) * sz = n * sz := by rw [← Nat.add_mul]; congr 1; omega
  have hmn : m * sz ≤ (n - l) * sz := Nat.mul_le_mul_right _ hml
  have hcz : n * sz ≤ c * sz := Nat.mul_le_mul_right _ hnc
  have hcells := run_loadCells_list (P := P) w ⟨b', o', none⟩ ys fun j u hj => by
    rw [addr_add]
    refine h5 j u ?_
    rw [← hys, List.getElem?_take] at hj
    split at hj
    · exact hj
    · cases hj
  have hst := run_storeCells_at P g (l * sz) e ys 0 cur w hg (by rw [hl]; omega) h1
  simp only [Nat.add_zero] at hst
  have hlen : cur.toList.length = cur.size := by simp
  refine X_val (w' := w.setRow g (cur.toList.take (l * sz) ++ ys ++ cur.toList.drop (l * sz + ys.length)).toArray) (fun _ => by simp) (.int .i64 m) (fun o ho ht => ?_) (h _ ⟨?_, _, _, rfl, hnc, hcm, .inr ⟨g, _, rfl, hB, setRow_heap w g cur _ e (0, 0) hg, ?_, ?_⟩⟩ (setRow_upd w g _))
  · unfold execOp
    rw [ho]
    simp [resolve, invoke, builtin, hx, hy, Builtin.copy_, run_underlying hS.und, Builtin.lenOf, Builtin.firstCells, sizeOf, typeInfo, he, hz, hmin, ← hl, hcells, hst, goInt]
  · simp only [List.length_append, List.length_take, List.length_drop, hlx, hl]; omega
  · simp only [List.size_toArray, List.length_append, List.length_take, List.length_drop, hlen, hl]; omega
  · rw [List.toList_toArray, ← htk, hl]
    apply List.ext_getElem?
    intro j
    simp only [List.getElem?_take, List.getElem?_append, List.getElem?_drop, List.length_append, List.length_take, hlen, hl]
    grind
theorem cutv_some {g n c sz l h : Nat} (hc : c ≠ l) : cutv (.slice (some ⟨g, 0, none⟩) n c) sz l h = .slice (some ⟨g, l * sz, none⟩) (h - l) (c - l) := by
  simp [cutv, hc, addr_add]
theorem obk_some {g n c : Nat} (h : 0 < c) : obk (.slice (some ⟨g, 0, none⟩) n c) = some g := by
  obtain ⟨k, rfl⟩ : ∃ k, c = k + 1 := ⟨c - 1, by omega⟩
  rfl
/-- a slice up to the capacity -/
theorem X_sliceC {t e sz bytes : Nat} {z : Value} {x oh : Operand} {g n c h' : Nat} {kh : IntKind} (hS : TyS P t e sz bytes z) (hx : ev f x = .slice (some ⟨g, 0, none⟩) n c) (hhi : ev f oh = .int kh h') (h2 : h' ≤ c) (h : K (.slice (some ⟨g, 0, none⟩) h' c) w) :
    Exec ρ P (.slice t x none (some oh) none) ty f w K := by
  obtain ⟨ie, he, hz, _⟩ := hS.info
  have hb2 : ∀ k cd, (Instr.sliceBound (.int k h') c cd).run P w = .ok h' w := fun k cd => by simp [Instr.sliceBound, asIntOf, h2]
  refine X_sv (Instr.sliceAt t (ev f x) none (some (ev f oh)) none) (fun _ => by simp) (fun o ho _ => by unfold execOp; rw [ho]; rfl) ?_ h
  rw [hx]
  have hsz : (sizeOf e).run P w = .ok sz w := by simp [sizeOf, typeInfo, he, hz]
  rcases Nat.eq_zero_or_pos c with h0 | h0
  · subst h0
    simp [Instr.sliceAt, Instr.slice, run_underlying hS.und, Instr.sliceBounds, hsz, hhi, hb2]
  · have hc : ¬ c = 0 := by omega
    simp [Instr.sliceAt, Instr.slice, run_underlying hS.und, Instr.sliceBounds, hsz, hhi, hb2, hc, addr_add]
/-- an owned row seen up to a greater length -/
theorem Own.grow {B e n c m sz : Nat} {g : Nat} {xs : List Value} (hO : Own w B e sz (.slice (some ⟨g, 0, none⟩) n c) n xs) (hn : 0 < n) (h1 : n ≤ m) (h2 : m ≤ c) : ∃ ys, ys.length = (m - n) * sz ∧ Own w B e sz (.slice (some ⟨g, 0, none⟩) m c) m (xs ++ ys) := by
  obtain ⟨hl, a, c', hv, hnc, hcm, hcase⟩ := hO
  cases hv
  rcases hcase with h0 | ⟨g', cur, hg', hB, hg, hfit, htk⟩
  · omega
  cases hg'
  have hmc : m * sz ≤ c * sz := Nat.mul_le_mul_right _ h2
  have hnm : n * sz + (m - n) * sz = m * sz := by rw [← Nat.add_mul]; congr 1; omega
  have hlen : cur.toList.length = cur.size := by simp
  have hsp : cur.toList.take (m * sz) = xs ++ (cur.toList.drop (n * sz)).take ((m - n) * sz) := by rw [← htk, ← hnm, List.take_add]
  refine ⟨(cur.toList.drop (n * sz)).take ((m - n) * sz), by rw [List.length_take, List.length_drop, hlen]; omega, ?_, _, _, rfl, h2, hcm, .inr ⟨g, cur, rfl, hB, hg, hfit, hsp⟩⟩
  rw [← hsp, List.length_take, hlen]; omega
/-- two slices in two plain blocks do not overlap -/
theorem run_apart {tS tR e sz la ca lb cb oa ob ba bb ta tb : Nat} {ca' cb' : Array Value} (ht : P.underlying tS = some (.slice e)) (hz : ∀ w, (Go.sizeOf e).run P w = .ok sz w) (hne : ba ≠ bb) (ha : Blk w ba ca' ta) (hb : Blk w bb cb' tb) (hk : cb'.size ≠ 0) :
    (Extern.SlicesOverlaps.overlaps #[tS, tS] #[tR] #[.slice (some ⟨ba, oa, none⟩) la ca, .slice (some ⟨bb, ob, none⟩) lb cb]).run P w = .ok (.bool false) w := by
  refine Lib.run_overlaps_apart w tS tR e ht sz hz ⟨ba, oa, none⟩ ⟨bb, ob, none⟩ la ca lb cb hne ta tb ca'.size cb'.size ?_ ?_ hk ?_ ?_
  · unfold Blk at ha; simp [World.shape?, ha]
  · unfold Blk at hb; simp [World.shape?, hb]
  · unfold Blk at ha; simp [World.frozen?, ha]
  · unfold Blk at ha; simp [World.frozen?, ha]
end ins
end Go.SL
