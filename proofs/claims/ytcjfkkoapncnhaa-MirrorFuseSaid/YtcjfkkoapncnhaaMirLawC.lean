/-
 The plain law of chapter 10, the rest. (Printed by wip/gen/t10m.py of this repo.)
-/
import Derived.Test.YtcjfkkoapncnhaaMirLawB
namespace Go.Proofs.Ytcjfkkoapncnhaa
open Go Go.SL Go.Proofs
set_option linter.unusedVariables false

theorem writeD_run {p : PD} {q : Pt} {pg : Pg} (h : readyD p = 0) : writeD p q pg = runL pg p (copL q) := if_pos h

theorem run_offs {pg : Pg} {i : Nat} {p : PD} (ho : (p.dk i).off = true) : ∀ (xs : List Int) (r : List (Int × Int)), runL pg p (xs.map (fun a => ((i : Int), a)) ++ r) = runL pg p r
 | [], _ => rfl
 | a :: xs, r => by
  show runL pg p (((i : Int), a) :: (xs.map (fun a => ((i : Int), a)) ++ r)) = _
  rw [run_off (d := (i : Int)) (by rw [Int.toNat_natCast]; exact ho), run_offs ho xs r]
theorem run_fuse (pg : Pg) (a : DD) : ∀ (xs : List Int) (b : DD) (f : Int), (xs.length : Int) ≤ f → b.May → b.off = false → b.cs.length + xs.length ≤ 2000 → (∀ x ∈ xs, 0 ≤ x ∧ x < (b.ps.length : Int)) →
  runL pg ⟨a, b, f, false⟩ (xs.map (fun x => (((1 : Nat) : Int), x)) ++ []) = (⟨a, addW pg xs b, f - xs.length, false⟩, 0)
 | [], b, f, _, _, ho, _, _ => by
  rw [addW_on ho]
  show (_, _) = _
  rw [List.map_nil, List.append_nil]
  show (PD.mk a b f false, (0 : Int)) = (PD.mk a b (f - ((0 : Nat) : Int)) false, 0)
  rw [show f - ((0 : Nat) : Int) = f by omega]
 | x :: xs, b, f, hf, hm, ho, hl, ha => by
  have hf2 : ((xs.length + 1 : Nat) : Int) ≤ f := hf
  have hl2 : b.cs.length + (xs.length + 1) ≤ 2000 := hl
  have hb : burnD ⟨a, b, f, false⟩ = (⟨a, b, f - 1, false⟩, true) := burn_p rfl (by show 0 < f; omega)
  have hp := put_go (p := ⟨a, b, f, false⟩) (i := 1) (n := x) (pg := pg) (by rw [hb]) hm ho (by show b.cs.length < 2000; omega) (ha x (List.mem_cons_self)).1 (ha x (List.mem_cons_self)).2
  rw [hb] at hp
  replace hp : putD ⟨a, b, f, false⟩ 1 x pg = (⟨a, ⟨b.ps, b.cs ++ [(x, pg)], b.bs, b.off⟩, f - 1, false⟩, 0) := hp
  show runL pg ⟨a, b, f, false⟩ ((((1 : Nat) : Int), x) :: (xs.map (fun x => (((1 : Nat) : Int), x)) ++ [])) = _
  rw [run_ok (d := ((1 : Nat) : Int)) (by exact ho) (by rw [Int.toNat_natCast, hp]), Int.toNat_natCast, hp]
  rw [run_fuse pg a xs ⟨b.ps, b.cs ++ [(x, pg)], b.bs, b.off⟩ (f - 1) (by omega) (mayD_push hm (ha x (List.mem_cons_self)).1 (ha x (List.mem_cons_self)).2 ho (by omega)) ho
   (by show (b.cs ++ [(x, pg)]).length + xs.length ≤ 2000; rw [List.length_append]; show b.cs.length + 1 + xs.length ≤ 2000; omega) (fun y hy => ha y (List.mem_cons_of_mem _ hy))]
  rw [addW_on (d := ⟨b.ps, b.cs ++ [(x, pg)], b.bs, b.off⟩) ho, addW_on ho]
  show (PD.mk a ⟨b.ps, b.cs ++ [(x, pg)] ++ xs.map _, b.bs, b.off⟩ (f - 1 - xs.length) false, (0 : Int)) = (PD.mk a ⟨b.ps, b.cs ++ (x, pg) :: xs.map _, b.bs, b.off⟩ (f - ((xs.length + 1 : Nat) : Int)) false, 0)
  rw [List.append_assoc, show f - 1 - (xs.length : Int) = f - ((xs.length + 1 : Nat) : Int) by omega]; rfl
theorem write_one1 {a b : DD} {f : Int} {q : Pt} {pg : Pg} {m : Nat} (ha : a.off = true) (hb : b.off = false) (hm : b.May) (hl : b.cs.length ≤ 1998) (hf : 2 ≤ f) (hmb : m ≤ b.ps.length) (hq : RightP q m) :
  writeD ⟨a, b, f, false⟩ q pg = (⟨a, addW pg (asQ q) b, f - (asQ q).length, false⟩, 0) := by
 have hl2 := (asQ_len q).1
 have hin := asQ_in hq
 rw [writeD_run (ready_at rfl (.inr hb)), copL_as, run_offs (i := 0) (p := ⟨a, b, f, false⟩) ha]
 exact run_fuse pg a _ b f (by omega) hm hb (by omega) fun x hx => ⟨(hin x hx).1, by have := (hin x hx).2; omega⟩
theorem asQ_m {q : Pt} (h : MetaP q) : (asQ q).length = 2 := by unfold asQ; rw [if_pos h]; rfl
theorem asQ_c {q : Pt} (h : ¬ MetaP q) : (asQ q).length = 1 := by unfold asQ; rw [if_neg h]; rfl
theorem ready_none {p : PD} (hd : p.dn = false) (ha : p.a.off = true) (hb : p.b.off = true) : readyD p = 30 := (if_neg (by rw [hd]; decide)).trans (if_pos ⟨ha, hb⟩)
theorem write_none {p : PD} {q : Pt} {pg : Pg} (h : readyD p ≠ 0) : writeD p q pg = (p, readyD p) := if_neg h
theorem flush_none {p : PD} (h : readyD p ≠ 0) : flushD p = (p, readyD p) := by
 have hS := flush_Sn (p := p) fun h1 => h h1.1
 rw [flush_Dn (by rw [hS]; exact fun h1 => h h1.1), hS]
theorem live2 {p : PD} (h0 : p.a.off = true) (h1 : p.b.off = false) : liveD p = 2 := by unfold liveD; rw [h0, h1]; rfl
theorem live0 {p : PD} (h0 : p.a.off = true) (h1 : p.b.off = true) : liveD p = 0 := by unfold liveD; rw [h0, h1]; rfl
end Go.Proofs.Ytcjfkkoapncnhaa
