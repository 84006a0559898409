import Derived.Test.YthncpmablodbjaaDoorBaseQ
namespace Go.SL
open Go

/-! ### Writes compared -/
section eqw
variable {ρ : Option Nat} {P : Program} {ty : TypeId} {f : Fr} {w : World} {K : Value → World → Prop}
theorem run_eqW (d : Nat) {t : TypeId} {f0 f1 : Field} {te : TypeId} {ie : TypeInfo} {p q : Wr} (hu : P.underlying t = some (.struct #[f0, f1])) (hu' : P.underlying t = some (.struct (P.fieldsOf t))) (hp : P.stoodInHeld t = false)
    (hn : f0.name ≠ "_" ∧ f1.name ≠ "_") (ho : f0.offset = 0 ∧ f1.offset = 1) (h0 : P.underlying f0.type = some (.int .i64)) (h1 : P.underlying f1.type = some (.array 256 te)) (h1s : (P.info? f1.type).map (·.size) = some 256) (he : P.underlying te = some (.int .u8)) (hie : P.info? te = some ie) (hce : P.cellsOf te = 1) :
    (Op.equalIn (d + 3) t (.agg (LW.cel p).toArray) (.agg (LW.cel q).toArray)).run P w = .ok (p.1 == q.1 && p.2.1 == q.2.1) w := by
  have hf : P.fieldsOf t = #[f0, f1] := by
    rw [hu] at hu'
    injection hu' with h
    injection h with h
    exact h.symm
  obtain ⟨n0, n1⟩ := hn
  obtain ⟨o0, o1⟩ := ho
  have i0 : ∀ w, (isAgg f0.type).run P w = .ok false w := fun w => run_isAgg_of ⟨_, h0, rfl⟩ w
  have i1 : ∀ w, (isAgg f1.type).run P w = .ok true w := fun w => run_isAgg_of ⟨_, h1, rfl⟩ w
  have s1 : ∀ w, (sizeOf f1.type).run P w = .ok 256 w := fun w => run_sizeOf_of h1s w
  have hA : ∀ (l m : Pg) (w : World), (Op.equalIn (d + 2) f1.type (.agg (l.1.map byteV).toArray) (.agg (m.1.map byteV).toArray)).run P w = .ok (l.1 == m.1) w := by
    intro l m w
    rw [run_equalIn_array (P := P) (w := w) (d + 1) _ _ h1 hie, hce, run_eqItems_bytes he d l.1 m.1 _ (fun j hj => by rw [List.mem_range] at hj; have := l.2; have := m.2; omega)]
    have hall : ((List.range 256).all fun i => l.1[i]? == m.1[i]?) = (l.1 == m.1) := by
      rw [Bool.eq_iff_iff, List.all_eq_true, beq_iff_eq]
      constructor
      · intro hh
        apply List.ext_getElem?
        intro j
        rcases Nat.lt_or_ge j 256 with h1 | h1
        · simpa using hh j (List.mem_range.2 h1)
        · rw [List.getElem?_eq_none (by have := l.2; omega), List.getElem?_eq_none (by have := m.2; omega)]
      · intro h j _; rw [h]; simp
    rw [hall]
  rw [run_equalIn_struct w (d + 2) t _ _ hu' hp, hf]
  have p0 : ∀ (p : Wr) (w : World), (part f0.type (LW.cel p).toArray 0).run P w = .ok (.int .i64 p.1) w := fun p w => by simp [part, i0, LW]
  have p1 : ∀ (p : Wr) (w : World), (part f1.type (LW.cel p).toArray 1).run P w = .ok (.agg (p.2.1.map byteV).toArray) w := fun p w => by
    have hl : (p.2.1.map byteV).length = 256 := by rw [List.length_map]; exact p.2.2
    have e : List.take 256 (LW.cel p).tail = p.2.1.map byteV := by
      show List.take 256 (p.2.1.map byteV) = _
      rw [List.take_of_length_le (by omega)]
    simp only [part, Sem.run_bind, i1, Result.andThen_ok]
    simp [s1, e]
  have q0 : ∀ (x y : Int) (w : World), (Op.equalIn (d + 2) f0.type (.int .i64 x) (.int .i64 y)).run P w = .ok (x == y) w := fun x y w => run_equalIn_int w _ _ .i64 .i64 x y h0
  have hL : (#[f0, f1] : Array Field).toList = [f0, f1] := rfl
  rw [hL]
  simp only [Op.eqFields, n0, n1, ne_eq, not_false_eq_true, if_true, Sem.run_bind, o0, o1, p0, q0, Result.andThen_ok]
  cases e1 : (p.1 == q.1) <;> cases e2 : (p.2.1 == q.2.1) <;> simp [p1, hA, e2]
theorem X_eqW {op : BinOp} {t t2 : TypeId} {x y : Operand} {f0 f1 : Field} {te : TypeId} {ie : TypeInfo} {p q : Wr} {r : Bool} (hu : P.underlying t = some (.struct #[f0, f1])) (hu' : P.underlying t = some (.struct (P.fieldsOf t))) (hp : P.stoodInHeld t = false)
    (hn : f0.name ≠ "_" ∧ f1.name ≠ "_") (ho : f0.offset = 0 ∧ f1.offset = 1) (h0 : P.underlying f0.type = some (.int .i64)) (h1 : P.underlying f1.type = some (.array 256 te)) (h1s : (P.info? f1.type).map (·.size) = some 256) (he : P.underlying te = some (.int .u8)) (hie : P.info? te = some ie) (hce : P.cellsOf te = 1) (hg : P.eqGuardType P.depth t = false)
    (hx : ev f x = .agg (LW.cel p).toArray) (hy : ev f y = .agg (LW.cel q).toArray) (hr : op = .eql ∧ (p.1 == q.1 && p.2.1 == q.2.1) = r ∨ op = .neq ∧ (!(p.1 == q.1 && p.2.1 == q.2.1)) = r) (h : K (.bool r) w) : Exec ρ P (.binOp op t x y t2) ty f w K := by
  have hA := run_eqW (P := P) (w := w) (p := p) (q := q) 9997 hu hu' hp hn ho h0 h1 h1s he hie hce
  refine X_sv (do eqGuard op t x y (ev f x) (ev f y); binOp op t (ev f x) (ev f y)) (fun _ => by simp) (fun o ho _ => by unfold execOp; rw [ho]) (v := .bool r) (w' := w) ?_ h
  rw [hx, hy]
  rcases hr with ⟨rfl, rfl⟩ | ⟨rfl, rfl⟩
  · simp only [Sem.run_bind, run_eqGuard_agg w _ t x y _ _ hg, Result.andThen_ok, run_eql_struct, hA]
  · simp only [Sem.run_bind, run_eqGuard_agg w _ t x y _ _ hg, Result.andThen_ok, run_neq_struct, hA]
/-- an element of an array within a row -/
theorem X_idxAS {t e sz len n o r : Nat} {x ix : Operand} {v : Value} {k : IntKind} {i : Int} (ht : P.underlying t = some (.array len e)) (he : (P.info? e).map (·.size) = some sz) (hx : ev f x = pof v o) (hv : SV v n) (hn : 0 < n) (hi : ev f ix = .int k i) (h0 : 0 ≤ i) (hl : i < len)
    (hr : o + i.toNat * sz = r) (h : K (pof v r) w) : Exec ρ P (.indexAddr t x ix) ty f w K :=
  X_idxA ht he hx (hv.ptr hn o) hi h0 hl (by rw [hv.padd hn, hr]; exact h)
theorem wr_beq {p q : Wr} : (p.1 == q.1 && p.2.1 == q.2.1) = true ↔ p = q := by
  rw [Bool.and_eq_true, beq_iff_eq, beq_iff_eq]
  exact ⟨fun h => Prod.ext h.1 (Subtype.ext h.2), fun h => by subst h; exact ⟨rfl, rfl⟩⟩
end eqw
end Go.SL
