/-
  A slice of bytes converted to its own type (a literal's row gets the run-time's mark). Of no program.
-/
import Derived.Test.YthncpmablodbjaaDoorBaseT
namespace Go.SL
open Go
section conv
variable {ρ : Option Nat} {P : Program} {ty : TypeId} {f : Fr} {w : World} {K : Value → World → Prop}
theorem X_convSame {t e : TypeId} {x : Operand} {b n m : Nat} {c : Array Value} (ht : P.underlying t = some (.slice e)) (he : P.underlying e = some (.int .u8)) (hx : ev f x = .slice (some ⟨b, 0, none⟩) n m) (hB : Blk w b c e)
    (h : ∀ w', Upd (fun i => i = b) w w' → (∀ j v, c[j]? = some v → w'.cell? ⟨b, j, none⟩ = some v) → K (.slice (some ⟨b, 0, none⟩) n m) w') : Exec ρ P (.convert t t x) ty f w K := by
  have hb : w.heap[b]? = some (.cells c e (0, 0)) := hB
  have hsh : w.shape? b = some (e, c.size) := by unfold World.shape?; rw [hb]
  have hr : (convert t t (.slice (some ⟨b, 0, none⟩) n m)).run P w = .ok (.slice (some ⟨b, 0, none⟩) n m) (w.freeze ⟨b, c.size, none⟩ 1) := by
    simp [convert, run_underlying ht, run_underlying he, markStringish, hsh]
  have hlt := hB.lt
  have hget : (w.freeze ⟨b, c.size, none⟩ 1).heap[b]? = some (.cells c e (c.size, c.size + 1)) := by
    unfold World.freeze
    rw [if_neg (by decide)]
    simp only [Array.getElem?_modify, hb]
    rfl
  refine X_sv (convert t t (ev f x)) (fun _ => by simp) (fun o ho _ => by unfold execOp; rw [ho]) (by rw [hx]; exact hr) (h _ ⟨?_, ?_, ?_, ?_, ?_⟩ ?_)
  · unfold World.freeze; rw [if_neg (by decide)]
  · unfold World.freeze; rw [if_neg (by decide)]
  · unfold World.freeze; rw [if_neg (by decide)]
  · unfold World.freeze; rw [if_neg (by decide)]; simp
  · intro i hi hd
    unfold World.freeze
    rw [if_neg (by decide)]
    have hne : ¬ b = i := fun e => hd e.symm
    simp only [Array.getElem?_modify, if_neg hne]
  · intro j v hj
    unfold World.cell?
    simp only [hget]
    simpa using hj
end conv
end Go.SL
