/-
 The plain law of chapter 10, more. (Printed by wip/gen/t10k.py of this repo.)
-/
import Derived.Test.YtcjfkkoapncnhaaMirLaw
namespace Go.Proofs.Ytcjfkkoapncnhaa
open Go Go.SL Go.Proofs
set_option linter.unusedVariables false

theorem pw_bound' : ∀ {n : Nat} {bs : List Int}, bs.Pairwise (· < ·) → (∀ a ∈ bs, 0 ≤ a ∧ a < (n : Int)) → bs.length ≤ n
 | n, bs, h, hin => by
  have h1 : ∀ (l : List Int) (lo : Int), l.Pairwise (· < ·) → (∀ a ∈ l, lo ≤ a ∧ a < (n : Int)) → lo ≤ n → (l.length : Int) ≤ n - lo := by
   intro l
   induction l with
   | nil => intro lo _ _ hlo; show ((0 : Nat) : Int) ≤ _; omega
   | cons a r ih =>
    intro lo hp hl hlo
    obtain ⟨ha, hr⟩ := List.pairwise_cons.1 hp
    obtain ⟨h2, h3⟩ := hl a (List.mem_cons_self)
    have h4 := ih (a + 1) hr (fun x hx => ⟨by have := ha x hx; omega, (hl x (List.mem_cons_of_mem _ hx)).2⟩) (by omega)
    rw [List.length_cons]
    omega
  have h2 := h1 bs 0 h hin (by omega)
  omega
theorem may_sz {d : DD} (h : d.May) : Sz d 2000 := by
 have hp := inB_pw.1 h.2.2
 have hb := pw_bound' hp.2 hp.1
 have h1 := h.1
 exact ⟨by have := h1.2.1; omega, h1.2.2.1, by have := h1.2.1; omega⟩
theorem addW_o (pg : Pg) (xs : List Int) (d : DD) : (addW pg xs d).off = d.off := by unfold addW; split <;> rfl
theorem addW_ps (pg : Pg) (xs : List Int) (d : DD) : (addW pg xs d).ps = d.ps := by unfold addW; split <;> rfl
theorem cat0 {w : World} {lo hi : Nat} {v : Value} {es : List (Int × Int)} (h : NRd LC w lo hi v es) {i : Int} {k : Nat} {e : Int × Int} (hik : i.toNat = k) (he : es[k]? = some e) : At w (pof v (i.toNat * 2 + 0)) [.int .i64 e.1] := by
 subst hik; exact h.cell (j := 0) he rfl
theorem cat1 {w : World} {lo hi : Nat} {v : Value} {es : List (Int × Int)} (h : NRd LC w lo hi v es) {i : Int} {k : Nat} {e : Int × Int} (hik : i.toNat = k) (he : es[k]? = some e) : At w (pof v (i.toNat * 2 + 1)) [.int .i64 e.2] := by
 subst hik; exact h.cell (j := 1) he rfl
theorem c_readRD (d : Dk) (n : Int) (w : World) (lo up : Nat) (hup : up ≤ w.heap.size) (h : d.Rd w lo up) : CT Try.prog 14 #[.agg #[d.pv, d.cv, d.bv, .bool d.off], .int .i64 n] w fun v w' => v = .tuple #[pageV (rdD d.da n).1, .int .i64 (rdD d.da n).2] ∧ Ext w w' := c_readR d.pv d.cv d.bv d.ps d.cs d.bs d.off n w lo up hup h.1 h.2.1 h.2.2
end Go.Proofs.Ytcjfkkoapncnhaa
