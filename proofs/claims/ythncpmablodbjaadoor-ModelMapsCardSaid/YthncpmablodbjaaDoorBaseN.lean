import Derived.Test.YthncpmablodbjaaDoorBaseM
import Derived.Laws.IdiomStrings
namespace Go.SL
open Go
section strs
variable {ρ : Option Nat} {P : Program} {ty : TypeId} {f : Fr} {w : World} {K : Value → World → Prop}
/-- []byte(s) of a string -/
theorem X_bytesStr {src dst e : TypeId} {x : Operand} {l : List UInt8} (hs : P.underlying src = some .string) (hd : P.underlying dst = some (.slice e)) (he : P.underlying e = some (.int .u8)) (hx : ev f x = strV l) (hm : l.length ≤ maxLen)
    (h : ∀ v w', Rd w' 1 v l.length (l.map byteV) → Ext w w' → (∀ b, rbk v = some b → b = w.heap.size) → w'.heap.size = w.heap.size + 1 → K v w') : Exec ρ P (.convert src dst x) ty f w K := by
  have hr := run_bytes_of_string (P := P) w src dst e ⟨l.toArray⟩ hs hd he
  have hsz : (⟨l.toArray⟩ : ByteArray).size = l.length := by simp [ByteArray.size]
  rw [hsz] at hr
  refine X_sv (convert src dst (ev f x)) (fun _ => by simp) (fun o ho _ => by unfold execOp; rw [ho]) (by rw [hx]; exact hr) (h _ _ ?_ ?_ ?_ ?_)
  · refine ⟨by rw [List.length_map, Nat.mul_one], _, _, rfl, grownCap_ge w l.length 0 e, grownCap_le_maxLen w l.length 0 e hm, fun _ => ⟨_, 0, rfl, fun j u hj => ?_⟩⟩
    rw [Nat.zero_add]
    rw [List.getElem?_map] at hj
    have hjl : j < l.length := by
      rcases Nat.lt_or_ge j l.length with h1 | h1
      · exact h1
      · rw [List.getElem?_eq_none (by omega)] at hj; cases hj
    rw [List.getElem?_eq_getElem hjl] at hj
    simp only [Option.map_some, Option.some.injEq] at hj
    subst hj
    have hw : (w.drew.alloc (.cells (bytesRow ⟨l.toArray⟩ (grownCap w l.length 0 e)) e ((bytesRow ⟨l.toArray⟩ (grownCap w l.length 0 e)).size, (bytesRow ⟨l.toArray⟩ (grownCap w l.length 0 e)).size + 1))).heap[w.heap.size]? = some (.cells (bytesRow ⟨l.toArray⟩ (grownCap w l.length 0 e)) e ((bytesRow ⟨l.toArray⟩ (grownCap w l.length 0 e)).size, (bytesRow ⟨l.toArray⟩ (grownCap w l.length 0 e)).size + 1)) := by
      show (w.heap.push _)[w.heap.size]? = _
      simp
    unfold World.cell?
    simp only [hw]
    have h9 := bytesRow_at ⟨l.toArray⟩ (grownCap w l.length 0 e) j (by simpa using hjl)
    simpa [byteV] using h9
  · exact (Upd.drew _ w).trans (ext_alloc w.drew _)
  · intro b hb
    cases l with
    | nil => simp [rbk] at hb
    | cons a l => simpa [rbk] using hb.symm
  · show (w.heap.push _).size = _
    simp
theorem u32_wrap {a : Int} (h0 : 0 ≤ a) (h : a < 4294967296) : IntKind.u32.wrap a = a := by
  have e : (2 : Int) ^ 32 = 4294967296 := by decide
  simp only [IntKind.wrap, IntKind.signed, IntKind.bits, e, Bool.false_and, Bool.false_eq_true, if_false]
  omega
/-- a row that grows, with keys that are only read -/
structure RowJ (n0 : Nat) (w : World) (er : TypeId) (u : Value) (es : List KE) : Prop where
  own : Own w n0 er 6 u es.length (es.flatMap LK.cel)
  keys : ∀ e ∈ es, BRd w n0 w.heap.size (e.1, e.2.1)
  apart : ∀ e ∈ es, ∀ b, rbk e.1 = some b → obk u ≠ some b
theorem RowJ.nil (n0 : Nat) (w : World) (er : TypeId) : RowJ n0 w er (.slice none 0 0) [] := ⟨Own.nil w n0 er 6, fun e he => (by cases he), fun e he => (by cases he)⟩
theorem RowJ.rd {n0 : Nat} {er : TypeId} {u : Value} {es : List KE} (h : RowJ n0 w er u es) : NRd LK w n0 w.heap.size u es :=
  ⟨h.own.rd, fun b hb => h.own.lt (h.own.rbk_obk hb), fun e he s hs => by have h1 : s = (e.1, e.2.1) := by { simpa [LK] using hs }; subst h1; exact h.keys e he⟩
theorem RowJ.push {n0 : Nat} {er : TypeId} {u u5 : Value} {w1 w5 : World} {es : List KE} {e : KE} (h : RowJ n0 w er u es) (hx : Ext w w1) (hk : BRd w1 w.heap.size w1.heap.size (e.1, e.2.1)) (hn : n0 ≤ w.heap.size)
    (hO : Own w5 n0 er 6 u5 (es.length + 1) (es.flatMap LK.cel ++ LK.cel e)) (hu : Upd (fun b => obk u = some b) w1 w5) (ho : ∀ b, obk u5 = some b → obk u = some b ∨ w1.heap.size ≤ b) : RowJ n0 w5 er u5 (es ++ [e]) := by
  have hz := hx.size
  have hz5 := hu.size
  refine ⟨hO.eq (by rw [List.length_append]; rfl) (by rw [List.flatMap_append]; simp), fun e' he => ?_, fun e' he b hb hb' => ?_⟩
  · rcases List.mem_append.1 he with he | he
    · have h1 := (h.keys e' he).upd hx fun _ _ _ hd => hd
      exact ⟨h1.1.upd hu fun b hb hd => h.apart e' he b hb hd, fun b hb => ⟨(h1.2 b hb).1, by have := (h1.2 b hb).2; omega⟩⟩
    · have : e' = e := by simpa using he
      subst this
      exact ⟨hk.1.upd hu fun b hb hd => by have := (hk.2 b hb).1; have := (h.own.lt hd).2; omega, fun b hb => ⟨by have := (hk.2 b hb).1; omega, by have := (hk.2 b hb).2; omega⟩⟩
  · rcases List.mem_append.1 he with he | he
    · rcases ho b hb' with h1 | h1
      · exact h.apart e' he b hb h1
      · have := ((h.keys e' he).2 b hb).2; omega
    · have : e' = e := by simpa using he
      subst this
      rcases ho b hb' with h1 | h1
      · have := (hk.2 b hb).1; have := (h.own.lt h1).2; omega
      · have := (hk.2 b hb).2; omega
end strs
end Go.SL
