/-
 Spaces as arguments. (Printed by wip/gen/t13a.py of this repo.)
-/
import Derived.Test.YtmaikcnjgkoghaaSp
import Derived.Test.YtmaikcnjgkoghaaBaseSA
namespace Go.Proofs.Ytmaikcnjgkoghaa
open Go Go.SL Go.Proofs
set_option linter.unusedVariables false

section
open Go.ChangeShapes Go.WideShapes Go.RowKit
variable {H : Type} {enc : TypeId × Value → H} {P : Program} {W : World} {base : Nat}
structure SpTy (P : Program) (e : TypeId) : Prop where
 und : ∃ (g0 g1 g2 : Field) (be le : TypeId) (f0 f1 : Field), P.underlying e = some (.struct #[g0, g1, g2]) ∧ (g0.offset = 0 ∧ g1.offset = 1 ∧ g2.offset = 2) ∧ (P.cellsOf g0.type = 1 ∧ P.cellsOf g1.type = 1 ∧ P.cellsOf g2.type = 1) ∧ P.underlying g0.type = some (.int .i64) ∧
  P.underlying g1.type = some (.slice be) ∧ P.underlying be = some .bool ∧ P.cellsOf be = 1 ∧ P.underlying g2.type = some (.slice le) ∧ P.underlying le = some (.struct #[f0, f1]) ∧ (f0.offset = 0 ∧ f1.offset = 1) ∧ (P.cellsOf f0.type = 1 ∧ P.cellsOf f1.type = 1) ∧ P.underlying f0.type = some (.int .i64) ∧ P.underlying f1.type = some (.int .u32) ∧ P.cellsOf le = 2
 cells : P.cellsOf e = 3
def La2 : Type := { x : La // 0 ≤ x.2 ∧ x.2 < 4294967296 }
instance : Inhabited La2 := ⟨⟨(0, 0), by decide⟩⟩
def LL2 : Lay La2 where
 cel x := LL.cel x.1
 sub _ := []
 sz := 2
 len _ := rfl
 one x h := LL.one x.1 h
theorem LL2_flat (es : List La2) : es.flatMap LL2.cel = (es.map (·.1)).flatMap LL.cel := by
 induction es with
 | nil => rfl
 | cons a r ih => rw [List.flatMap_cons, List.map_cons, List.flatMap_cons, ih]; rfl
theorem open_space {e : TypeId} {v : Value} {d : DataW H} {p : List MemPlace} (hk : SpTy P e) (hv : Value.okWide P W .any base e v) (h : DataW.Trod enc P W 0 (fun _ => true) true e v d p) : ∃ s : Sp, v = .agg #[.int .i64 s.sz, s.uv, s.lv] ∧ s.Rd W 0 W.heap.size ∧ ∀ x ∈ s.ls, 0 ≤ x.2 ∧ x.2 < 4294967296 := by
 obtain ⟨g0, g1, g2, be, le, f0, f1, he, ⟨o0, o1, o2⟩, ⟨c0, c1, c2⟩, u0, u1, ub, cb, u2, ul, ⟨p0, p1⟩, ⟨d0, d1⟩, t0, t1, cl⟩ := hk.und
 simp only [Value.okWide, he] at hv
 obtain ⟨cs, rfl, hsz, _⟩ := hv
 obtain ⟨fuel, hf⟩ := h
 have hcs : (Value.agg cs).cells.toList = cs.toList := rfl
 rw [hcs] at hf
 obtain ⟨xs, n, _, _, hlen, hxl, hel⟩ := DataW.trod_struct he hf
 rw [hk.cells] at hlen
 have e0 := hel 0 g0 rfl
 have e1 := hel 1 g1 rfl
 have e2 := hel 2 g2 rfl
 have hx3 : xs.length = 3 := hxl
 rw [List.getElem?_eq_getElem (by omega)] at e0 e1 e2
 rw [o0, c0] at e0
 rw [o1, c1] at e1
 rw [o2, c2] at e2
 obtain ⟨z, hz, _, _⟩ := DataW.trod_int u0 e0
 obtain ⟨uv, us, hu1, hu⟩ := open_rowT LBo u1 cb (fun fuel cs x h => by
  obtain ⟨o, ho, _⟩ := DataW.trod_bool ub h
  exact ⟨o, ho, fun s hs => by cases hs⟩) (by decide) e1
 obtain ⟨lv, ls, hl1, hl⟩ := open_rowT LL2 u2 cl (fun fuel cs x h => by
  obtain ⟨ys, n', _, _, hcl, hyl, hel2⟩ := DataW.trod_struct ul h
  rw [cl] at hcl
  match cs, hcl with
  | [v1, v2], _ =>
   have hy2 : ys.length = 2 := hyl
   have q0 := hel2 0 f0 rfl
   have q1 := hel2 1 f1 rfl
   rw [List.getElem?_eq_getElem (by omega)] at q0 q1
   rw [p0, d0] at q0
   rw [p1, d1] at q1
   obtain ⟨a, ha, _, _⟩ := DataW.trod_int t0 q0
   obtain ⟨b, hb, _, wb⟩ := DataW.trod_int t1 q1
   simp at ha hb
   subst ha hb
   have := bounds_u32 wb
   exact ⟨⟨(a, b), by omega⟩, rfl, fun s hs => by cases hs⟩) (by decide) e2
 refine ⟨⟨z, uv, lv, us, ls.map (·.1)⟩, ?_, ⟨hu, NRd.of (fun _ => rfl) (hl.1.eq (by rw [List.length_map]) (LL2_flat ls)) hl.2.1⟩, fun x hx => ?_⟩
 ·congr 1
  apply Array.ext'
  show cs.toList = [_, _, _]
  generalize cs.toList = l at *
  match l, hlen with
  | [v0, v1, v2], _ =>
   simp at hz hu1 hl1
   rw [hz, hu1, hl1]
 ·obtain ⟨y, _, rfl⟩ := List.mem_map.1 hx
  exact y.2
end
end Go.Proofs.Ytmaikcnjgkoghaa
