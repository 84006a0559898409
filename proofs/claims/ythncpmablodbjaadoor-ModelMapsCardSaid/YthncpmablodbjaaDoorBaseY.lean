import Derived.Test.YthncpmablodbjaaDoorBaseW
import Derived.LaidLaws
import Derived.LaidHandle
namespace Go.SL
open Go Go.ChangeShapes Go.WideShapes Go.RowKit Go.Deep

/-! ### Arguments that are pointers of the program; a table of ints that the card lays -/
section open_
variable {H : Type} {enc : TypeId × Value → H} {P : Program} {W : World} {base : Nat}
/-- what the program's tables say of its pointers -/
structure PtrTy (P : Program) (e : TypeId) : Prop where
  und : ∃ f0 f1 f2 f3 : Field, ∃ te : TypeId, P.underlying e = some (.struct #[f0, f1, f2, f3]) ∧ f0.offset = 0 ∧ f1.offset = 1 ∧ f2.offset = 3 ∧ f3.offset = 4 ∧ P.underlying f0.type = some (.int .u8) ∧ P.underlying f1.type = some (.array 2 te) ∧ P.underlying te = some (.int .u16) ∧
    P.underlying f2.type = some (.int .u32) ∧ P.underlying f3.type = some (.int .u64) ∧ P.cellsOf f0.type = 1 ∧ P.cellsOf f1.type = 2 ∧ P.cellsOf te = 1 ∧ P.cellsOf f2.type = 1 ∧ P.cellsOf f3.type = 1
  cells : P.cellsOf e = 5
theorem open_ptrC {fuel : Nat} {x : DataW H × List MemPlace} {e : TypeId} {cs : List Value} (hk : PtrTy P e) (hf : DataW.trod enc P W 0 (fun _ => true) true fuel e cs = some x) :
    ∃ q : Pt, cs = ptC q ∧ (Lit.int .u8 q.1).wf = true ∧ (Lit.int .u16 q.2.1).wf = true ∧ (Lit.int .u16 q.2.2.1).wf = true ∧ (Lit.int .u32 q.2.2.2.1).wf = true ∧ (Lit.int .u64 q.2.2.2.2).wf = true := by
  obtain ⟨f0, f1, f2, f3, te, u1, p0, p1, p2, p3, t0, t1, tt, t2, t3, d0, d1, dt, d2, d3⟩ := hk.und
  obtain ⟨ys, n', _, _, hlen, hyl, hel2⟩ := DataW.trod_struct u1 hf
  rw [hk.cells] at hlen
  match cs, hlen with
  | [v1, v2, v3, v4, v5], _ =>
    have hy4 : ys.length = 4 := hyl
    have q0 := hel2 0 f0 rfl
    have q1 := hel2 1 f1 rfl
    have q2 := hel2 2 f2 rfl
    have q3 := hel2 3 f3 rfl
    rw [List.getElem?_eq_getElem (by omega)] at q0 q1 q2 q3
    rw [p0, d0] at q0
    rw [p1, d1] at q1
    rw [p2, d2] at q2
    rw [p3, d3] at q3
    obtain ⟨a, ha, _, wa⟩ := DataW.trod_int t0 q0
    obtain ⟨c, hc, _, wc⟩ := DataW.trod_int t2 q2
    obtain ⟨d, hd, _, wd⟩ := DataW.trod_int t3 q3
    obtain ⟨zs, m, _, _, _, hzl, hel3⟩ := DataW.trod_array t1 q1
    have r0 := hel3 0 (by decide)
    have r1 := hel3 1 (by decide)
    rw [List.getElem?_eq_getElem (by omega), dt] at r0 r1
    obtain ⟨s0, hs0, _, w0⟩ := DataW.trod_int tt r0
    obtain ⟨s1, hs1, _, w1⟩ := DataW.trod_int tt r1
    simp at ha hc hd hs0 hs1
    subst ha hc hd hs0 hs1
    exact ⟨(a, s0, s1, c, d), rfl, wa, w0, w1, wc, wd⟩
theorem open_ptr {t : TypeId} {v : Value} {d : DataW H} {p : List MemPlace} (hk : PtrTy P t) (hv : Value.okWide P W .any base t v) (h : DataW.Trod enc P W 0 (fun _ => true) true t v d p) :
    ∃ q : Pt, v = .agg (ptC q).toArray ∧ (0 ≤ q.1 ∧ q.1 < 256) ∧ (0 ≤ q.2.1 ∧ q.2.1 < 65536) ∧ (0 ≤ q.2.2.1 ∧ q.2.2.1 < 65536) ∧ (0 ≤ q.2.2.2.1 ∧ q.2.2.2.1 < 4294967296) ∧ (0 ≤ q.2.2.2.2 ∧ q.2.2.2.2 < 18446744073709551616) := by
  obtain ⟨_, _, _, _, _, u1, _⟩ := hk.und
  simp only [Value.okWide, u1] at hv
  obtain ⟨cs, rfl, hsz, _⟩ := hv
  obtain ⟨fuel, hf⟩ := h
  obtain ⟨q, hq, h1, h2, h3, h4, h5⟩ := open_ptrC hk hf
  have b1 := bounds_u8 h1
  have b2 := bounds_u16 h2
  have b3 := bounds_u16 h3
  have b4 := bounds_u32 h4
  have b5 := bounds_u64 h5
  exact ⟨q, by rw [← hq]; simp [Value.cells], by omega, by omega, by omega, by omega, by omega⟩
theorem int_of_trod {w : World} {sp : Nat → Bool} {held : Bool} {fuel : Nat} {t : TypeId} {k : IntKind} {c : Value} {y : DataW H × List MemPlace}
    (ht : P.underlying t = some (.int k)) (h : DataW.trod enc P w base sp held fuel t [c] = some y) : ∃ n, c = .int k n ∧ y = (.lit (.int k n), []) := by
  cases fuel with
  | zero => simp [DataW.trod] at h
  | succ fuel =>
    cases c <;> simp [DataW.trod, ht] at h
    rename_i k' n
    obtain ⟨⟨rfl, _⟩, rfl⟩ := h
    exact ⟨n, rfl, rfl⟩
/-- a variable of five ints, as it is laid -/
theorem cells_of_laid {name : String} {t e : TypeId} {a0 a1 a2 a3 a4 : Int} (hg : P.globalNamed name = some 0) (hty : (P.globals[0]?).map (·.type) = some t) (hu : P.underlying t = some (.array 5 e)) (hue : P.underlying e = some (.int .i64)) (hc : P.cellsOf t = 5) (hce : P.cellsOf e = 1)
    (h : laidMet P [(name, .agg [.lit (.int .i64 a0), .lit (.int .i64 a1), .lit (.int .i64 a2), .lit (.int .i64 a3), .lit (.int .i64 a4)])] W) : W.var? P name = some #[.int .i64 a0, .int .i64 a1, .int .i64 a2, .int .i64 a3, .int .i64 a4] := by
  obtain ⟨ps, ⟨g, t', cs, fuel, p, q, hg', ht', hvar, hd, _, _⟩, _⟩ := h
  obtain rfl := Option.some.inj (hg.symm.trans hg')
  obtain rfl := Option.some.inj (hty.symm.trans ht')
  rw [hvar]
  congr 1
  obtain ⟨l⟩ := cs
  cases fuel with
  | zero => simp [DataW.trod] at hd
  | succ fuel =>
    simp only [DataW.trod, hu, hc, hce] at hd
    split at hd
    · rename_i hl
      obtain ⟨c0, c1, c2, c3, c4, rfl⟩ : ∃ c0 c1 c2 c3 c4, l = [c0, c1, c2, c3, c4] := by
        match l, hl with
        | [a, b, c, d, e], _ => exact ⟨a, b, c, d, e, rfl⟩
      have e : List.range 5 = [0, 1, 2, 3, 4] := rfl
      rw [e] at hd
      simp only [Option.map_eq_some_iff, List.mapM_cons, List.mapM_nil, Option.bind_eq_bind, Option.bind_eq_some_iff, Option.pure_def, Option.some.injEq] at hd
      obtain ⟨xs, ⟨y0, h0, _, ⟨y1, h1, _, ⟨y2, h2, _, ⟨y3, h3, _, ⟨y4, h4, _, rfl, rfl⟩, rfl⟩, rfl⟩, rfl⟩, rfl⟩, hx⟩ := hd
      obtain ⟨n0, rfl, rfl⟩ := int_of_trod hue h0
      obtain ⟨n1, rfl, rfl⟩ := int_of_trod hue h1
      obtain ⟨n2, rfl, rfl⟩ := int_of_trod hue h2
      obtain ⟨n3, rfl, rfl⟩ := int_of_trod hue h3
      obtain ⟨n4, rfl, rfl⟩ := int_of_trod hue h4
      simp at hx
      obtain ⟨⟨rfl, rfl, rfl, rfl, rfl⟩, _⟩ := hx
      rfl
    · cases hd
/-- .. as a row of ints that can be read -/
theorem tab_of_var {name : String} {l : List Int} (hg : P.globalNamed name = some 0) (hl : l.length ≤ maxLen) (h : W.var? P name = some (l.map fun z => Value.int .i64 z).toArray) : NRd LI W 0 1 (.slice (some ⟨0, 0, none⟩) l.length l.length) l := by
  have hf : ∀ m : List Int, m.flatMap LI.cel = m.map fun z => Value.int .i64 z := fun m => by
    induction m with
    | nil => rfl
    | cons a r ih => rw [List.flatMap_cons, ih]; rfl
  refine NRd.of (fun _ => rfl) ⟨by rw [hf, List.length_map]; exact (Nat.mul_one _).symm, _, _, rfl, Nat.le_refl _, hl, fun _ => ⟨0, 0, rfl, fun j u hj => ?_⟩⟩ (fun b hb => ?_)
  · rw [hf] at hj
    rw [Nat.zero_add, World.var?_cell hg h j]
    simpa using hj
  · cases l with
    | nil => cases hb
    | cons a r => cases hb; exact ⟨Nat.le_refl _, Nat.lt_succ_self _⟩
end open_
end Go.SL
