import Derived.Test.YthncpmablodbjaaDoorBaseH
namespace Go.SL
open Go
set_option linter.unusedSimpArgs false
/-! ### Kids: a key and a pointer -/
abbrev Pt := Int × Int × Int × Int × Int
def ptC (p : Pt) : List Value := [.int .u8 p.1, .int .u16 p.2.1, .int .u16 p.2.2.1, .int .u32 p.2.2.2.1, .int .u64 p.2.2.2.2]
abbrev KE := Value × List UInt8 × Pt
def LK : Lay KE where
  cel e := e.1 :: ptC e.2.2
  sub e := [(e.1, e.2.1)]
  sz := 6
  len _ := rfl
  one e h u hu := by
    rcases List.mem_cons.1 hu with rfl | hu
    · exact h (e.1, e.2.1) (by simp)
    · simp only [ptC, List.mem_cons, List.not_mem_nil, or_false] at hu
      rcases hu with rfl | rfl | rfl | rfl | rfl <;> rfl
theorem ptC_len (p : Pt) : (ptC p).length = 5 := rfl
theorem ptC_one (p : Pt) : ∀ u ∈ ptC p, u.oneCell' = true := by
  intro u hu
  simp only [ptC, List.mem_cons, List.not_mem_nil, or_false] at hu
  rcases hu with rfl | rfl | rfl | rfl | rfl <;> rfl
section eqp
variable {ρ : Option Nat} {P : Program} {ty : TypeId} {f : Fr} {w : World} {K : Value → World → Prop}
theorem run_eqP {t : TypeId} {f0 f1 f2 f3 : Field} {te : TypeId} {ie : TypeInfo} {p q : Pt} (d : Nat) (hu : P.underlying t = some (.struct #[f0, f1, f2, f3])) (hu' : P.underlying t = some (.struct (P.fieldsOf t))) (hp : P.stoodInHeld t = false)
    (hn : f0.name ≠ "_" ∧ f1.name ≠ "_" ∧ f2.name ≠ "_" ∧ f3.name ≠ "_") (ho : f0.offset = 0 ∧ f1.offset = 1 ∧ f2.offset = 3 ∧ f3.offset = 4)
    (h0 : P.underlying f0.type = some (.int .u8)) (h1 : P.underlying f1.type = some (.array 2 te)) (h1s : (P.info? f1.type).map (·.size) = some 2) (he : P.underlying te = some (.int .u16)) (hie : P.info? te = some ie) (hce : P.cellsOf te = 1)
    (h2 : P.underlying f2.type = some (.int .u32)) (h3 : P.underlying f3.type = some (.int .u64)) :
    (Op.equalIn (d + 3) t (.agg (ptC p).toArray) (.agg (ptC q).toArray)).run P w = .ok (p == q) w := by
  have hf : P.fieldsOf t = #[f0, f1, f2, f3] := by
    rw [hu] at hu'
    injection hu' with h
    injection h with h
    exact h.symm
  obtain ⟨n0, n1, n2, n3⟩ := hn
  obtain ⟨o0, o1, o2, o3⟩ := ho
  obtain ⟨a, b, c, g, s⟩ := p
  obtain ⟨a', b', c', g', s'⟩ := q
  have i0 : ∀ w, (isAgg f0.type).run P w = .ok false w := fun w => run_isAgg_of ⟨_, h0, rfl⟩ w
  have i1 : ∀ w, (isAgg f1.type).run P w = .ok true w := fun w => run_isAgg_of ⟨_, h1, rfl⟩ w
  have i2 : ∀ w, (isAgg f2.type).run P w = .ok false w := fun w => run_isAgg_of ⟨_, h2, rfl⟩ w
  have i3 : ∀ w, (isAgg f3.type).run P w = .ok false w := fun w => run_isAgg_of ⟨_, h3, rfl⟩ w
  have ie' : ∀ w, (isAgg te).run P w = .ok false w := fun w => run_isAgg_of ⟨_, he, rfl⟩ w
  have s1 : ∀ w, (sizeOf f1.type).run P w = .ok 2 w := fun w => run_sizeOf_of h1s w
  have hA : ∀ (x y x' y' : Int) (w : World), (Op.equalIn (d + 2) f1.type (.agg #[.int .u16 x, .int .u16 y]) (.agg #[.int .u16 x', .int .u16 y'])).run P w = .ok (x == x' && y == y') w := by
    intro x y x' y' w
    rw [run_equalIn_array (P := P) (w := w) (d + 1) _ _ h1 hie, hce]
    have r : List.range 2 = [0, 1] := rfl
    have p0 : ∀ (x y : Int) (w : World), (part te #[.int .u16 x, .int .u16 y] (0 * 1)).run P w = .ok (.int .u16 x) w := fun x y w => by simp [part, ie']
    have p1 : ∀ (x y : Int) (w : World), (part te #[.int .u16 x, .int .u16 y] (1 * 1)).run P w = .ok (.int .u16 y) w := fun x y w => by simp [part, ie']
    have q : ∀ (x y : Int) (w : World), (Op.equalIn (d + 1) te (.int .u16 x) (.int .u16 y)).run P w = .ok (x == y) w := fun x y w => run_equalIn_int w d te .u16 .u16 x y he
    simp only [r, Op.eqItems, Sem.run_bind, p0, p1, q, Result.andThen_ok]
    have p1' : ∀ (x y : Int) (w : World), (part te #[.int .u16 x, .int .u16 y] 1).run P w = .ok (.int .u16 y) w := p1
    cases e1 : (x == x') <;> cases e2 : (y == y') <;> simp [p1', q, e2]
  rw [run_equalIn_struct w (d + 2) t _ _ hu' hp, hf]
  have p0 : ∀ (p : Pt) (w : World), (part f0.type (ptC p).toArray 0).run P w = .ok (.int .u8 p.1) w := fun p w => by simp [part, i0, ptC]
  have p1 : ∀ (p : Pt) (w : World), (part f1.type (ptC p).toArray 1).run P w = .ok (.agg #[.int .u16 p.2.1, .int .u16 p.2.2.1]) w := fun p w => by simp [part, i1, s1, ptC]
  have p2 : ∀ (p : Pt) (w : World), (part f2.type (ptC p).toArray 3).run P w = .ok (.int .u32 p.2.2.2.1) w := fun p w => by simp [part, i2, ptC]
  have p3 : ∀ (p : Pt) (w : World), (part f3.type (ptC p).toArray 4).run P w = .ok (.int .u64 p.2.2.2.2) w := fun p w => by simp [part, i3, ptC]
  have q0 : ∀ (x y : Int) (w : World), (Op.equalIn (d + 2) f0.type (.int .u8 x) (.int .u8 y)).run P w = .ok (x == y) w := fun x y w => run_equalIn_int w _ _ .u8 .u8 x y h0
  have q2 : ∀ (x y : Int) (w : World), (Op.equalIn (d + 2) f2.type (.int .u32 x) (.int .u32 y)).run P w = .ok (x == y) w := fun x y w => run_equalIn_int w _ _ .u32 .u32 x y h2
  have q3 : ∀ (x y : Int) (w : World), (Op.equalIn (d + 2) f3.type (.int .u64 x) (.int .u64 y)).run P w = .ok (x == y) w := fun x y w => run_equalIn_int w _ _ .u64 .u64 x y h3
  have hL : (#[f0, f1, f2, f3] : Array Field).toList = [f0, f1, f2, f3] := rfl
  rw [hL]
  have hpq : (((a, b, c, g, s) : Pt) == (a', b', c', g', s')) = (a == a' && (b == b' && (c == c' && (g == g' && s == s')))) := rfl
  rw [hpq]
  simp only [Op.eqFields, n0, n1, n2, n3, ne_eq, not_false_eq_true, if_true, Sem.run_bind, o0, o1, o2, o3, p0, p1, p2, p3, q0, q2, q3, hA, Result.andThen_ok]
  cases e1 : (a == a') <;> cases e2 : (b == b') <;> cases e3 : (c == c') <;> cases e4 : (g == g') <;> cases e5 : (s == s') <;> simp [p1, p2, p3, q2, q3, hA, e2, e3, e4, e5]
theorem X_eqP {op : BinOp} {t t2 : TypeId} {x y : Operand} {f0 f1 f2 f3 : Field} {te : TypeId} {ie : TypeInfo} {p q : Pt} {r : Bool} (hu : P.underlying t = some (.struct #[f0, f1, f2, f3])) (hu' : P.underlying t = some (.struct (P.fieldsOf t))) (hp : P.stoodInHeld t = false)
    (hn : f0.name ≠ "_" ∧ f1.name ≠ "_" ∧ f2.name ≠ "_" ∧ f3.name ≠ "_") (ho : f0.offset = 0 ∧ f1.offset = 1 ∧ f2.offset = 3 ∧ f3.offset = 4)
    (h0 : P.underlying f0.type = some (.int .u8)) (h1 : P.underlying f1.type = some (.array 2 te)) (h1s : (P.info? f1.type).map (·.size) = some 2) (he : P.underlying te = some (.int .u16)) (hie : P.info? te = some ie) (hce : P.cellsOf te = 1)
    (h2 : P.underlying f2.type = some (.int .u32)) (h3 : P.underlying f3.type = some (.int .u64)) (hg : P.eqGuardType P.depth t = false)
    (hx : ev f x = .agg (ptC p).toArray) (hy : ev f y = .agg (ptC q).toArray) (hr : op = .eql ∧ (p == q) = r ∨ op = .neq ∧ (!(p == q)) = r) (h : K (.bool r) w) : Exec ρ P (.binOp op t x y t2) ty f w K := by
  have hA := run_eqP (P := P) (w := w) (p := p) (q := q) 9997 hu hu' hp hn ho h0 h1 h1s he hie hce h2 h3
  refine X_sv (do eqGuard op t x y (ev f x) (ev f y); binOp op t (ev f x) (ev f y)) (fun _ => by simp) (fun o ho _ => by unfold execOp; rw [ho]) (v := .bool r) (w' := w) ?_ h
  rw [hx, hy]
  rcases hr with ⟨rfl, rfl⟩ | ⟨rfl, rfl⟩
  · simp only [Sem.run_bind, run_eqGuard_agg w _ t x y _ _ hg, Result.andThen_ok, run_eql_struct, hA]
  · simp only [Sem.run_bind, run_eqGuard_agg w _ t x y _ _ hg, Result.andThen_ok, run_neq_struct, hA]
end eqp

section ext
variable {ρ : Option Nat} {P : Program} {ty : TypeId} {f : Fr} {w : World} {K : Value → World → Prop}
/-- a call of a function that the model answers itself -/
theorem X_ext {g : FuncId} {fn : Func} {e : Array Value → Sem Value} {as : List Operand} {ats : Array TypeId} {vs : List Value} {v : Value} (hf : P.funcs[g]? = some fn) (hname : (fn.name == "runtime.NumGoroutine") = false) (hb : fn.body.isNone = true) (hn : Extern.findNext fn = none) (he : Extern.find fn = some e)
    (hv : as.map (ev f) = vs) (hr : (e vs.toArray).run P w = .ok v w) (h : K v w) : Exec ρ P (.call { callee := .value (.func g), args := as.toArray, argTypes := ats }) ty f w K := by
  refine X_val (fun _ => by simp) v (fun o ho _ => ?_) h
  rw [run_call_value (x := .func g) ho rfl]
  subst hv
  simp only [invoke, Array.append_empty]
  rw [run_callFunc_extern hf hname hb hn he, hr]
  rfl
end ext
section kids
variable {w : World} {lo hi : Nat} {v : Value} {es : List KE}
theorem kkey (h : NRd LK w lo hi v es) {i : Int} {k : Nat} {e : KE} (hik : i.toNat = k) (he : es[k]? = some e) : At w (pof v (i.toNat * 6 + 0)) [e.1] := by subst hik; exact h.cell he rfl
theorem kptr (h : NRd LK w lo hi v es) {i : Int} {k : Nat} {e : KE} (hik : i.toNat = k) (he : es[k]? = some e) : At w (pof v (i.toNat * 6 + 1)) (ptC e.2.2) := by
  subst hik
  exact h.cells (L := LK) (j := 1) he fun j u hj => by rw [Nat.add_comm]; exact hj
theorem kall (h : NRd LK w lo hi v es) {i : Int} {k : Nat} {e : KE} (hik : i.toNat = k) (he : es[k]? = some e) : At w (pof v (i.toNat * 6)) (e.1 :: ptC e.2.2) := by
  subst hik
  exact h.cells (L := LK) (j := 0) he fun j u hj => by rw [Nat.zero_add]; exact hj
theorem kbrd (h : NRd LK w lo hi v es) {k : Nat} {e : KE} (he : es[k]? = some e) : BRd w lo hi (e.1, e.2.1) := h.sub_ he (by show (e.1, e.2.1) ∈ [(e.1, e.2.1)]; simp)
theorem kone (h : NRd LK w lo hi v es) {k : Nat} {e : KE} (he : es[k]? = some e) : ∀ u ∈ e.1 :: ptC e.2.2, u.oneCell' = true :=
  LK.one e fun s hs => (h.2.2 e (List.mem_of_getElem? he) s hs).1.sv.one
theorem krd (h : NRd LK w lo hi v es) {k : Nat} {e : KE} (he : es[k]? = some e) : Rd w 1 e.1 e.2.1.length (e.2.1.map byteV) := (kbrd h he).1
end kids
end Go.SL
