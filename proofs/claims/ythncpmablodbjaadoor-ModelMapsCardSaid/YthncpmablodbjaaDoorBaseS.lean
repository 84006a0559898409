import Derived.Test.YthncpmablodbjaaDoorBaseR
namespace Go.SL
open Go

/-! ### A field of a struct's value; bytes put together -/
section fld
variable {ρ : Option Nat} {P : Program} {ty : TypeId} {f : Fr} {w : World} {K : Value → World → Prop}
/-- a field of one cell -/
theorem X_field1 {t : TypeId} {x : Operand} {i : Nat} {fs : Array Field} {g : Field} {cs : Array Value} {v : Value} (hu : P.underlying t = some (.struct fs)) (hg : fs[i]? = some g) (h1 : Ty1 P g.type) (hx : ev f x = .agg cs) (hv : cs[g.offset]? = some v) (h : K v w) : Exec ρ P (.field t x i) ty f w K := by
  refine X_sv (Instr.field t (ev f x) i) (fun _ => by simp) (fun o ho _ => by unfold execOp; rw [ho]) (v := v) (w' := w) ?_ h
  rw [hx]
  have ha : ∀ w, (isAgg g.type).run P w = .ok false w := fun w => run_isAgg_of h1.agg w
  simp [Instr.field, run_underlying hu, hg, asAgg, part, ha, hv]
theorem u8_wrap_nat {n : Nat} (h : n < 256) : IntKind.u8.wrap (n : Int) = n := by
  have e : (2 : Int) ^ 8 = 256 := by decide
  simp only [IntKind.wrap, IntKind.signed, IntKind.bits, e, Bool.false_and, Bool.false_eq_true, if_false]
  omega
theorem u8_xor (x y : UInt8) : iop .xor .u8 ((x.toNat : Nat) : Int) ((y.toNat : Nat) : Int) = (((x ^^^ y).toNat : Nat) : Int) := by
  have h : ∀ z : UInt8, BitVec.ofInt 8 ((z.toNat : Nat) : Int) = z.toBitVec := fun z => by
    apply BitVec.eq_of_toNat_eq
    rw [BitVec.toNat_ofInt]
    have := z.toNat_lt
    show (((z.toNat : Nat) : Int) % ((2 ^ 8 : Nat) : Int)).toNat = z.toNat
    omega
  show IntKind.u8.wrap (((BitVec.ofInt 8 ((x.toNat : Nat) : Int) ^^^ BitVec.ofInt 8 ((y.toNat : Nat) : Int)).toNat : Nat) : Int) = _
  rw [h, h, ← UInt8.toBitVec_xor]
  exact u8_wrap_nat (x ^^^ y).toNat_lt
theorem u8_rem (x : UInt8) (n : Nat) : iop .rem .u8 ((x.toNat : Nat) : Int) ((n : Nat) : Int) = ((x.toNat % n : Nat) : Int) := Int.ofNat_tmod _ _
end fld
end Go.SL
