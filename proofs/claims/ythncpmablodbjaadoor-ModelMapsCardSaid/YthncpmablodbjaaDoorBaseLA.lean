/-
  Records of an int and a u32, compared. Of no program.
-/
import Derived.Test.YthncpmablodbjaaDoorBaseR
namespace Go.SL
open Go
section eqla
variable {ρ : Option Nat} {P : Program} {ty : TypeId} {f : Fr} {w : World} {K : Value → World → Prop}
def laC (p : Int × Int) : List Value := [.int .i64 p.1, .int .u32 p.2]
theorem run_eqLa (d : Nat) {t : TypeId} {f0 f1 : Field} {p q : Int × Int} (hu : P.underlying t = some (.struct #[f0, f1])) (hu' : P.underlying t = some (.struct (P.fieldsOf t))) (hp : P.stoodInHeld t = false)
    (hn : f0.name ≠ "_" ∧ f1.name ≠ "_") (ho : f0.offset = 0 ∧ f1.offset = 1) (h0 : P.underlying f0.type = some (.int .i64)) (h1 : P.underlying f1.type = some (.int .u32)) :
    (Op.equalIn (d + 3) t (.agg (laC p).toArray) (.agg (laC q).toArray)).run P w = .ok (p.1 == q.1 && p.2 == q.2) w := by
  have hf : P.fieldsOf t = #[f0, f1] := by
    rw [hu] at hu'
    injection hu' with h
    injection h with h
    exact h.symm
  obtain ⟨n0, n1⟩ := hn
  obtain ⟨o0, o1⟩ := ho
  have i0 : ∀ w, (isAgg f0.type).run P w = .ok false w := fun w => run_isAgg_of ⟨_, h0, rfl⟩ w
  have i1 : ∀ w, (isAgg f1.type).run P w = .ok false w := fun w => run_isAgg_of ⟨_, h1, rfl⟩ w
  rw [run_equalIn_struct w (d + 2) t _ _ hu' hp, hf]
  have p0 : ∀ (p : Int × Int) (w : World), (part f0.type (laC p).toArray 0).run P w = .ok (.int .i64 p.1) w := fun p w => by simp [part, i0, laC]
  have p1 : ∀ (p : Int × Int) (w : World), (part f1.type (laC p).toArray 1).run P w = .ok (.int .u32 p.2) w := fun p w => by simp [part, i1, laC]
  have q0 : ∀ (x y : Int) (w : World), (Op.equalIn (d + 2) f0.type (.int .i64 x) (.int .i64 y)).run P w = .ok (x == y) w := fun x y w => run_equalIn_int w _ _ .i64 .i64 x y h0
  have q1 : ∀ (x y : Int) (w : World), (Op.equalIn (d + 2) f1.type (.int .u32 x) (.int .u32 y)).run P w = .ok (x == y) w := fun x y w => run_equalIn_int w _ _ .u32 .u32 x y h1
  have hL : (#[f0, f1] : Array Field).toList = [f0, f1] := rfl
  rw [hL]
  simp only [Op.eqFields, n0, n1, ne_eq, not_false_eq_true, if_true, Sem.run_bind, o0, o1, p0, q0, Result.andThen_ok]
  cases e1 : (p.1 == q.1) <;> cases e2 : (p.2 == q.2) <;> simp [p1, q1, e2]
theorem X_eqLa {op : BinOp} {t t2 : TypeId} {x y : Operand} {f0 f1 : Field} {p q : Int × Int} {r : Bool} (hu : P.underlying t = some (.struct #[f0, f1])) (hu' : P.underlying t = some (.struct (P.fieldsOf t))) (hp : P.stoodInHeld t = false)
    (hn : f0.name ≠ "_" ∧ f1.name ≠ "_") (ho : f0.offset = 0 ∧ f1.offset = 1) (h0 : P.underlying f0.type = some (.int .i64)) (h1 : P.underlying f1.type = some (.int .u32)) (hg : P.eqGuardType P.depth t = false)
    (hx : ev f x = .agg (laC p).toArray) (hy : ev f y = .agg (laC q).toArray) (hr : op = .eql ∧ (p.1 == q.1 && p.2 == q.2) = r ∨ op = .neq ∧ (!(p.1 == q.1 && p.2 == q.2)) = r) (h : K (.bool r) w) : Exec ρ P (.binOp op t x y t2) ty f w K := by
  have hA := run_eqLa (P := P) (w := w) (p := p) (q := q) 9997 hu hu' hp hn ho h0 h1
  refine X_sv (do eqGuard op t x y (ev f x) (ev f y); binOp op t (ev f x) (ev f y)) (fun _ => by simp) (fun o ho _ => by unfold execOp; rw [ho]) (v := .bool r) (w' := w) ?_ h
  rw [hx, hy]
  rcases hr with ⟨rfl, rfl⟩ | ⟨rfl, rfl⟩
  · simp only [Sem.run_bind, run_eqGuard_agg w _ t x y _ _ hg, Result.andThen_ok, run_eql_struct, hA]
  · simp only [Sem.run_bind, run_eqGuard_agg w _ t x y _ _ hg, Result.andThen_ok, run_neq_struct, hA]
theorem la_eq {p q : Int × Int} : (p.1 == q.1 && p.2 == q.2) = true ↔ p = q := by
  rw [Bool.and_eq_true, beq_iff_eq, beq_iff_eq]
  exact ⟨fun h => Prod.ext h.1 h.2, fun h => by rw [h]; exact ⟨rfl, rfl⟩⟩
end eqla
end Go.SL
