import Derived.Test.YthongcaijgfojaaBaseR
import Derived.Sort.OwnSortedInts
import Derived.Sort.EveryDepth
import Derived.Shelf.Sort.AssemblyIn
namespace Go.SL
open Go Go.Proofs Go.Sort Go.RowKit

/-! ### The library's sort of an owned row of ints, by the kit's contract -/

def intV (z : Int) : Value := .int .i64 z
def sortI (zs : List Int) : List Int := zs.mergeSort fun x y => decide (x ≤ y)

theorem sort_upd {w : World} {g n : Nat} {os : Array Obj} (d : Array Int) : Upd (fun i => i = g) w (grow (putRow (Value.int .i64) (Sort.ahead w n) g 0 d) os) := by
  have h := grownBy_sortedI (w := w) (g := g) (n := n) (os := os) d
  obtain ⟨h1, h2, h3, h4, h5⟩ := h
  refine ⟨h1, h2, h3, h4, fun b hb hd => h5 b hb fun e => hd ?_⟩
  cases e; rfl

theorem c_sortI {P : Program} {ρ : Go.Shelf.Ren} (Ly : Go.Proofs.Lays.n189 P ρ) {B e n : Nat} {v : Value} {zs : List Int} {w : World} (h : Own w B e 1 v n (zs.map intV)) (hn : 0 < n) (hs : n < 4611686018427387904) :
    CT P (ρ.f 189) #[v] w fun x w' => x = .tuple #[] ∧ Own w' B e 1 v n ((sortI zs).map intV) ∧ Upd (fun i => obk v = some i) w w' := by
  obtain ⟨hl, a, c, rfl, hnc, hc, hor⟩ := h
  rcases hor with h0 | ⟨g, cur, rfl, hBg, hb, hcs, ht⟩
  · omega
  rw [List.length_map, Nat.mul_one] at hl
  subst hl
  have hlen : (sortI zs).length = zs.length := List.length_mergeSort ..
  have ht' : cur.toList.take zs.length = zs.map (Value.int .i64) := by have h2 := ht; rw [Nat.mul_one] at h2; exact h2
  have hlt : g < w.heap.size := (Array.getElem?_eq_some_iff.1 hb).1
  have hk := calls_of_every_depth fun D => AnyS.slices_Sort_int_in Ly D g 0 c zs w (holds_of_blockI hb ht') hlt hs
  refine Calls.mono hk ?_
  rintro e' w' ⟨rfl, m, os, rfl⟩
  refine ⟨_, rfl, rfl, ⟨by rw [List.length_map, hlen, Nat.mul_one], _, c, rfl, hnc, hc, .inr ⟨g, _, rfl, hBg, heap_sortedI _ hb, by simpa [putCells] using hcs, ?_⟩⟩, ?_⟩
  · rw [Nat.mul_one, ← hlen]
    exact take_putCellsI cur (sortI zs) (by rw [hlen]; rw [Nat.mul_one] at hcs; omega)
  · obtain ⟨k, rfl⟩ : ∃ k, c = k + 1 := ⟨c - 1, by omega⟩
    exact (sort_upd _).mono fun i _ hi => by rw [hi]; rfl
end Go.SL
