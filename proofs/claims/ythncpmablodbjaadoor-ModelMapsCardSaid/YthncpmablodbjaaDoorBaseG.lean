import Derived.Test.YthncpmablodbjaaDoorBaseF
import Derived.Laws.MakeOwn
namespace Go.SL
open Go
section mks
variable {ρ : Option Nat} {P : Program} {ty : TypeId} {f : Fr} {w : World} {K : Value → World → Prop}
theorem madeCells_one (z : Value) (n : Nat) : madeCells #[z] n = (List.replicate n z).toArray := by
  apply Array.ext'
  unfold madeCells
  rw [Array.toList_map, List.toList_toArray]
  apply List.ext_getElem
  · simp
  · intro i h1 h2
    simp [Nat.mod_one]
theorem X_makeSlice {t e bytes n : Nat} {z : Value} {x y : Operand} {k k' : IntKind} (hS : TyS P t e 1 bytes z) (hz1 : z.cells = #[z]) (hx : ev f x = .int k n) (hy : ev f y = .int k' n) (hb : bytes * n ≤ 281474976710656) (hm : n ≤ 9223372036854775807)
    (h : ∀ b w', New w w' b (List.replicate n z).toArray e → K (.slice (some ⟨b, 0, none⟩) n n) w') : Exec ρ P (.makeSlice t x y) ty f w K := by
  obtain ⟨i, hi, h1, h2, h3⟩ := hS.info
  have hr := run_make (P := P) w t e i z hS.und hi h3 k k' n n (by omega) (Int.le_refl _) (by rw [h2, ← Int.natCast_mul]; omega) (by omega)
  rw [h1, Nat.mul_one, hz1, Int.toNat_natCast, madeCells_one] at hr
  refine X_sv (Instr.makeSlice t (ev f x) (ev f y)) (fun _ => by simp) (fun o ho _ => by unfold execOp; rw [ho]) (w' := w.alloc (.cells (List.replicate n z).toArray e)) ?_ (h _ _ (new_alloc w _ e))
  rw [hx, hy]; exact hr
end mks
end Go.SL
namespace Go.SL
open Go
section own2
variable {ρ : Option Nat} {P : Program} {ty : TypeId} {f : Fr} {w : World} {K : Value → World → Prop}
/-- a store into an element of an owned row -/
theorem X_storeOwn {t B e n i : Nat} {x y : Operand} {v u : Value} {xs : List Value} (h1 : Ty1 P t) (hO : Own w B e 1 v n xs) (hi : i < n) (hx : ev f x = pof v i) (hy : ev f y = u) (hu : u.oneCell' = true)
    (h : ∀ w', Own w' B e 1 v n (xs.set i u) → Upd (fun b => obk v = some b) w w' → K undef w') : Exec ρ P (.store t x y) ty f w K := by
  obtain ⟨hl, a, c, rfl, hnc, hcm, hcase⟩ := hO
  rcases hcase with h0 | ⟨g, cur, rfl, hB, hb, hs, hxs⟩
  · omega
  · have hp : pof (.slice (some ⟨g, 0, none⟩) n c) i = ptr g i := by
      show Value.pointer (some ((⟨g, 0, none⟩ : Addr).add i)) = _
      rw [addr_add, Nat.zero_add]; rfl
    rw [hp] at hx
    obtain ⟨k, rfl⟩ : ∃ k, c = k + 1 := ⟨c - 1, by omega⟩
    refine X_store h1 hx hy hu hb (by omega) fun w' hu' hb' => h w' ⟨by rw [List.length_set]; exact hl, _, _, rfl, hnc, hcm, .inr ⟨g, _, rfl, hB, hb', by simpa using hs, ?_⟩⟩ (hu'.mono fun b _ hd => by have hd : b = g := hd; subst hd; rfl)
    rw [Array.toList_setIfInBounds, ← hxs]
    apply List.ext_getElem?
    intro j
    simp only [List.getElem?_take, List.getElem?_set, List.length_take]
    grind
def lenV (v : Value) : Nat := match v with | .slice _ n _ => n | _ => 0
/-- an owned row of some bytes -/
def AnyOwn (w : World) (e : TypeId) (v : Value) : Prop := ∃ xs : List UInt8, Own w 0 e 1 v (lenV v) (xs.map byteV)
theorem AnyOwn.of {B e n : Nat} {v : Value} {xs : List UInt8} (h : Own w B e 1 v n (xs.map byteV)) : AnyOwn w e v := by
  have h2 := h
  obtain ⟨_, a, c, rfl, _⟩ := h2
  exact ⟨xs, h.more (Nat.zero_le _)⟩
theorem u8_any (a : Int) : ∃ y : UInt8, IntKind.u8.wrap a = (y.toNat : Int) := by
  have e : (2 : Int) ^ 8 = 256 := by decide
  refine ⟨UInt8.ofNat (a % 256).toNat, ?_⟩
  simp only [IntKind.wrap, IntKind.signed, IntKind.bits, e, Bool.false_and, Bool.false_eq_true, if_false, UInt8.toNat_ofNat']
  omega
end own2
end Go.SL
