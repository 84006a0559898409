/-
  The tail of an owned row of records cleared. Of no program.
-/
import Derived.Test.YthncpmablodbjaaDoorBaseLA
namespace Go.SL
open Go
section clr
variable {ρ : Option Nat} {P : Program} {ty : TypeId} {f : Fr} {w : World} {K : Value → World → Prop}
theorem zeroCells_spec {zs : Array Value} {sz n : Nat} (h1 : zs.size = sz) (h0 : 0 < sz) (ho : ∀ u ∈ zs.toList, u.oneCell' = true) : (Builtin.zeroCells zs n).toList.length = n * sz ∧ ∀ u ∈ (Builtin.zeroCells zs n).toList, u.oneCell' = true := by
  subst h1
  unfold Builtin.zeroCells
  constructor
  · simp
  · intro u hu
    rw [Array.toList_map] at hu
    obtain ⟨j, _, rfl⟩ := List.mem_map.1 hu
    have hm : j % zs.size < zs.size := Nat.mod_lt _ h0
    rw [getElem!_pos zs _ hm]
    exact ho _ (by simp)
theorem X_clearTailS {t B e n i sz bytes : Nat} {z : Value} {x : Operand} {v : Value} {xs : List Value} (hS : TyS P t e sz bytes z) (h0 : 0 < sz) (hz1 : z.cells.size = sz) (hzo : ∀ u ∈ z.cells.toList, u.oneCell' = true) (hO : Own w B e sz v n xs) (hi : i ≤ n) (hx : ev f x = cutv v sz i n)
    (h : ∀ w' xs', Own w' B e sz v n xs' → xs'.take (i * sz) = xs.take (i * sz) → Upd (fun b => obk v = some b) w w' → K (.tuple #[]) w') : Exec ρ P (.call { callee := .builtin .clear, args := #[x], argTypes := #[t] }) ty f w K := by
  have hO' := hO
  obtain ⟨hl, a, c, rfl, hnc, hcm, hcase⟩ := hO
  obtain ⟨ie, hie, h1, _, h3⟩ := hS.info
  have hzv : ∀ w, (zeroValue e).run P w = .ok z w := fun w => run_zero_of (by rw [hie]; exact h3) w
  rcases Nat.eq_or_lt_of_le hi with rfl | hlt
  · refine X_val (fun _ => by simp) (.tuple #[]) (fun o ho ht => ?_) (h w xs hO' rfl (Upd.refl _ _))
    unfold execOp
    rw [ho]
    have e0 : i - i = 0 := Nat.sub_self i
    by_cases hci : c = i
    · cases a <;> simp [resolve, invoke, builtin, hx, cutv, Builtin.clear_, run_underlying hS.und, hci]
    · cases a <;> simp [resolve, invoke, builtin, hx, cutv, Builtin.clear_, run_underlying hS.und, hci]
  · rcases hcase with h0 | ⟨g, cur, rfl, hB, hb, hs, hxs⟩
    · omega
    · have hci : ¬ c = i := by omega
      obtain ⟨ys, hys⟩ : ∃ ys, ys = (Builtin.zeroCells z.cells (n - i)).toList := ⟨_, rfl⟩
      obtain ⟨hyl, hyo⟩ := zeroCells_spec (n := n - i) hz1 h0 hzo
      rw [← hys] at hyl hyo
      have hnz : i * sz + (n - i) * sz = n * sz := by rw [← Nat.add_mul]; congr 1; omega
      have hcz : n * sz ≤ c * sz := Nat.mul_le_mul_right sz hnc
      have hst := run_storeCells_at P g (i * sz) e ys 0 cur w hb (by rw [hyl]; omega) hyo
      simp only [Nat.add_zero] at hst
      obtain ⟨k, rfl⟩ : ∃ k, c = k + 1 := ⟨c - 1, by omega⟩
      obtain ⟨m, hm⟩ : ∃ m, n - i = m + 1 := ⟨n - i - 1, by omega⟩
      have hnb : ¬ (k + 1) = i := hci
      refine X_val (w' := w.setRow g (cur.toList.take (i * sz) ++ ys ++ cur.toList.drop (i * sz + ys.length)).toArray) (fun _ => by simp) (.tuple #[]) (fun o ho ht => ?_) (h _ _ ⟨?_, _, _, rfl, hnc, hcm, .inr ⟨g, _, rfl, hB, setRow_heap w g cur _ e (0, 0) hb, ?_, rfl⟩⟩ ?_ ((setRow_upd w g _).mono fun b _ hd => by have hd : b = g := hd; subst hd; rfl))
      · unfold execOp
        rw [ho]
        rw [hm] at hys
        simp [resolve, invoke, builtin, hx, cutv, hnb, hm, addr_add, Builtin.clear_, run_underlying hS.und, hzv, ← hys, hst]
      · simp only [List.length_take, List.length_append, List.length_drop, hyl, Array.length_toList]; omega
      · simp only [List.size_toArray, List.length_append, List.length_take, List.length_drop, hyl, Array.length_toList]; omega
      · rw [← hxs]
        have hin : i * sz ≤ n * sz := by omega
        rw [List.toList_toArray, List.append_assoc, List.take_take, List.take_take, Nat.min_eq_left hin, List.take_append_of_le_length (by rw [List.length_take, Array.length_toList]; omega), List.take_take, Nat.min_self]
end clr
end Go.SL
