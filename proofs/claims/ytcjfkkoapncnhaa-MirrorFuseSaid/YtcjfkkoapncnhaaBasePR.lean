/-
  Pairs of disks, with a fuse. Of no program.
-/
import Derived.Test.YtcjfkkoapncnhaaBaseUN
import Derived.Test.YtcjfkkoapncnhaaBaseY
namespace Go.SL
open Go Go.ChangeShapes Go.WideShapes Go.RowKit

structure Pr where
  (d0 d1 : Dk) (fz : Int) (dn : Bool)
def Pr.cel (p : Pr) : List Value := [p.d0.pv, p.d0.cv, p.d0.bv, .bool p.d0.off, p.d1.pv, p.d1.cv, p.d1.bv, .bool p.d1.off, .int .i64 p.fz, .bool p.dn]
theorem Dk.Rd.upd {w w' : World} {D : Nat → Prop} {d : Dk} {lo hi : Nat} (h : d.Rd w lo hi) (hu : Upd D w w') (hd : ∀ b, lo ≤ b → b < hi → ¬ D b) : d.Rd w' lo hi := ⟨h.1.upd hu hd, h.2.1.upd hu hd, h.2.2.upd hu hd⟩
theorem Dk.Rd.ext {w w' : World} {d : Dk} {lo hi : Nat} (h : d.Rd w lo hi) (hu : Ext w w') : d.Rd w' lo hi := h.upd hu fun _ _ _ hx => hx
theorem Dk.Rd.mono {w : World} {d : Dk} {lo hi lo' hi' : Nat} (h : d.Rd w lo hi) (h1 : lo' ≤ lo) (h2 : hi ≤ hi') : d.Rd w lo' hi' := ⟨h.1.mono h1 h2, h.2.1.mono h1 h2, h.2.2.mono h1 h2⟩
def PRd (w : World) (lo hi : Nat) (p : Pr) : Prop := p.d0.Rd w lo hi ∧ p.d1.Rd w lo hi
theorem PRd.upd {w w' : World} {D : Nat → Prop} {p : Pr} {lo hi : Nat} (h : PRd w lo hi p) (hu : Upd D w w') (hd : ∀ b, lo ≤ b → b < hi → ¬ D b) : PRd w' lo hi p := ⟨h.1.upd hu hd, h.2.upd hu hd⟩
theorem PRd.ext {w w' : World} {p : Pr} {lo hi : Nat} (h : PRd w lo hi p) (hu : Ext w w') : PRd w' lo hi p := h.upd hu fun _ _ _ hx => hx
theorem PRd.mono {w : World} {p : Pr} {lo hi lo' hi' : Nat} (h : PRd w lo hi p) (h1 : lo' ≤ lo) (h2 : hi ≤ hi') : PRd w lo' hi' p := ⟨h.1.mono h1 h2, h.2.mono h1 h2⟩
theorem Dk.one {w : World} {d : Dk} {lo hi : Nat} (h : d.Rd w lo hi) : ∀ u ∈ d.cel, u.oneCell' = true := fun u hu => by
  simp only [Dk.cel, List.mem_cons, List.not_mem_nil, or_false] at hu
  rcases hu with rfl | rfl | rfl | rfl
  · exact h.1.sv.one
  · exact h.2.1.sv.one
  · exact h.2.2.sv.one
  · rfl
theorem Pr.one {w : World} {p : Pr} {lo hi : Nat} (h : PRd w lo hi p) : ∀ u ∈ p.cel, u.oneCell' = true := fun u hu => by
  have hu' : u ∈ p.d0.cel ++ (p.d1.cel ++ [.int .i64 p.fz, .bool p.dn]) := hu
  rcases List.mem_append.1 hu' with h1 | h1
  · exact Dk.one h.1 u h1
  · rcases List.mem_append.1 h1 with h1 | h1
    · exact Dk.one h.2 u h1
    · have h2 : u = .int .i64 p.fz ∨ u = .bool p.dn := by simpa using h1
      rcases h2 with rfl | rfl <;> rfl

section open_
variable {H : Type} {enc : TypeId × Value → H} {P : Program} {W : World} {base : Nat}
structure PairTy (P : Program) (e : TypeId) : Prop where
  und : ∃ g0 g1 g2 : Field, ∃ d : TypeId, P.underlying e = some (.struct #[g0, g1, g2]) ∧ g0.offset = 0 ∧ g1.offset = 8 ∧ g2.offset = 9 ∧ P.cellsOf g0.type = 8 ∧ P.cellsOf g1.type = 1 ∧ P.cellsOf g2.type = 1 ∧
    P.underlying g0.type = some (.array 2 d) ∧ DiskTy P d ∧ P.underlying g1.type = some (.int .i64) ∧ P.underlying g2.type = some .bool
  cells : P.cellsOf e = 10
theorem open_pair {e : TypeId} {v : Value} {d : DataW H} {p : List MemPlace} (hk : PairTy P e) (hv : Value.okWide P W .any base e v) (h : DataW.Trod enc P W 0 (fun _ => true) true e v d p) : ∃ k : Pr, v = .agg k.cel.toArray ∧ PRd W 0 W.heap.size k := by
  obtain ⟨g0, g1, g2, dt, he, o0, o1, o2, c0, c1, c2, u0, hd, u1, u2⟩ := hk.und
  simp only [Value.okWide, he] at hv
  obtain ⟨cs, rfl, hsz, _⟩ := hv
  obtain ⟨fuel, hf⟩ := h
  have hcs : (Value.agg cs).cells.toList = cs.toList := rfl
  rw [hcs] at hf
  obtain ⟨xs, n, _, _, hlen, hxl, hel⟩ := DataW.trod_struct he hf
  rw [hk.cells] at hlen
  have hx3 : xs.length = 3 := hxl
  have e0 := hel 0 g0 rfl
  have e1 := hel 1 g1 rfl
  have e2 := hel 2 g2 rfl
  rw [List.getElem?_eq_getElem (by omega)] at e0 e1 e2
  rw [o0, c0] at e0
  rw [o1, c1] at e1
  rw [o2, c2] at e2
  obtain ⟨zs, m, _, _, _, hzl, hel3⟩ := DataW.trod_array u0 e0
  have r0 := hel3 0 (by decide)
  have r1 := hel3 1 (by decide)
  rw [List.getElem?_eq_getElem (by omega), hd.cells] at r0 r1
  obtain ⟨d0, h0, k0⟩ := open_diskT hd r0
  obtain ⟨d1, h1, k1⟩ := open_diskT hd r1
  obtain ⟨z, hz, _, _⟩ := DataW.trod_int u1 e1
  obtain ⟨o, ho, _⟩ := DataW.trod_bool u2 e2
  refine ⟨⟨d0, d1, z, o⟩, ?_, k0, k1⟩
  congr 1
  apply Array.ext'
  show cs.toList = d0.cel ++ (d1.cel ++ [.int .i64 z, .bool o])
  generalize cs.toList = l at *
  match l, hlen with
  | [v0, v1, v2, v3, v4, v5, v6, v7, v8, v9], _ =>
    simp only [List.drop_zero, Nat.zero_mul, Nat.one_mul, List.take_succ_cons, List.take_zero, List.drop_succ_cons] at h0 h1 hz ho
    rw [← h0, ← h1]
    have hz' : v8 = .int .i64 z := by simpa using hz
    have ho' : v9 = .bool o := by simpa using ho
    rw [hz', ho']; rfl
end open_
end Go.SL
