/-
  What the program's tables say of the types and functions that the proofs of this seat name: closed facts, by the kernel. (Printed by a program of this repo, wip/gen/header.py.)
-/
import Derived.Test.YtmggaahkfidfaaaDoorProg
import Derived.Test.YtmggaahkfidfaaaDoorBaseE
import Derived.KernelRfl
namespace Go.Proofs.YtmggaahkfidfaaaDoor
open Go Go.SL Go.Proofs

theorem T1 : Ty1 Tryd.prog 1 := ty1_of (by kernel_rfl)
theorem Z1 : (Tryd.prog.info? 1).map (·.size) = some 1 := by kernel_rfl
theorem Zv1 : (Tryd.prog.info? 1).bind (·.zero) = some .nilFunc := by kernel_rfl
theorem T2 : Ty1 Tryd.prog 2 := ty1_of (by kernel_rfl)
theorem Z2 : (Tryd.prog.info? 2).map (·.size) = some 1 := by kernel_rfl
theorem Zv2 : (Tryd.prog.info? 2).bind (·.zero) = some (.int .i64 (0)) := by kernel_rfl
theorem T3 : Ty1 Tryd.prog 3 := ty1_of (by kernel_rfl)
theorem Z3 : (Tryd.prog.info? 3).map (·.size) = some 1 := by kernel_rfl
theorem Zv3 : (Tryd.prog.info? 3).bind (·.zero) = some (.int .i64 (0)) := by kernel_rfl
theorem T4 : Ty1 Tryd.prog 4 := ty1_of (by kernel_rfl)
theorem Z4 : (Tryd.prog.info? 4).map (·.size) = some 1 := by kernel_rfl
theorem Zv4 : (Tryd.prog.info? 4).bind (·.zero) = some (.bool (false)) := by kernel_rfl
theorem T5 : Ty1 Tryd.prog 5 := ty1_of (by kernel_rfl)
theorem Z5 : (Tryd.prog.info? 5).map (·.size) = some 1 := by kernel_rfl
theorem Zv5 : (Tryd.prog.info? 5).bind (·.zero) = some (.int .u8 (0)) := by kernel_rfl
theorem T9 : Ty1 Tryd.prog 9 := ty1_of (by kernel_rfl)
theorem Z9 : (Tryd.prog.info? 9).map (·.size) = some 1 := by kernel_rfl
theorem Zv9 : (Tryd.prog.info? 9).bind (·.zero) = some (strV ([])) := by kernel_rfl
theorem T22 : Ty1 Tryd.prog 22 := ty1_of (by kernel_rfl)
theorem Z22 : (Tryd.prog.info? 22).map (·.size) = some 1 := by kernel_rfl
theorem Zv22 : (Tryd.prog.info? 22).bind (·.zero) = some (.slice none 0 0) := by kernel_rfl
theorem T23 : Ty1 Tryd.prog 23 := ty1_of (by kernel_rfl)
theorem Z23 : (Tryd.prog.info? 23).map (·.size) = some 1 := by kernel_rfl
theorem Zv23 : (Tryd.prog.info? 23).bind (·.zero) = some (.int .u16 (0)) := by kernel_rfl
theorem A24 : TyA Tryd.prog 24 2 := tyA_of (by kernel_rfl)
theorem Z24 : (Tryd.prog.info? 24).map (·.size) = some 2 := by kernel_rfl
theorem Zv24 : (Tryd.prog.info? 24).bind (·.zero) = some (.agg #[(.int .u16 (0)), (.int .u16 (0))]) := by kernel_rfl
theorem T25 : Ty1 Tryd.prog 25 := ty1_of (by kernel_rfl)
theorem Z25 : (Tryd.prog.info? 25).map (·.size) = some 1 := by kernel_rfl
theorem Zv25 : (Tryd.prog.info? 25).bind (·.zero) = some (.int .u32 (0)) := by kernel_rfl
theorem T26 : Ty1 Tryd.prog 26 := ty1_of (by kernel_rfl)
theorem Z26 : (Tryd.prog.info? 26).map (·.size) = some 1 := by kernel_rfl
theorem Zv26 : (Tryd.prog.info? 26).bind (·.zero) = some (.int .u64 (0)) := by kernel_rfl
theorem A28 : TyA Tryd.prog 28 5 := tyA_of (by kernel_rfl)
theorem Z28 : (Tryd.prog.info? 28).map (·.size) = some 5 := by kernel_rfl
theorem Zv28 : (Tryd.prog.info? 28).bind (·.zero) = some (.agg #[(.int .u8 (0)), (.int .u16 (0)), (.int .u16 (0)), (.int .u32 (0)), (.int .u64 (0))]) := by kernel_rfl
theorem Fd28_0 : Fld Tryd.prog 28 0 0 := fld_of (by kernel_rfl)
theorem Fd28_1 : Fld Tryd.prog 28 1 1 := fld_of (by kernel_rfl)
theorem Fd28_2 : Fld Tryd.prog 28 2 3 := fld_of (by kernel_rfl)
theorem Fd28_3 : Fld Tryd.prog 28 3 4 := fld_of (by kernel_rfl)
theorem A30 : TyA Tryd.prog 30 256 := tyA_of (by kernel_rfl)
theorem Z30 : (Tryd.prog.info? 30).map (·.size) = some 256 := by kernel_rfl
def zc30 : List Value := List.replicate 256 (.int .u8 (0))
def zv30 : Value := .agg zc30.toArray
theorem Zv30 : (Tryd.prog.info? 30).bind (·.zero) = some zv30 := by kernel_rfl
theorem T32 : Ty1 Tryd.prog 32 := ty1_of (by kernel_rfl)
theorem Z32 : (Tryd.prog.info? 32).map (·.size) = some 1 := by kernel_rfl
theorem Zv32 : (Tryd.prog.info? 32).bind (·.zero) = some (.int .i64 (0)) := by kernel_rfl
theorem T41 : Ty1 Tryd.prog 41 := ty1_of (by kernel_rfl)
theorem Z41 : (Tryd.prog.info? 41).map (·.size) = some 1 := by kernel_rfl
theorem Zv41 : (Tryd.prog.info? 41).bind (·.zero) = some (.slice none 0 0) := by kernel_rfl
theorem T44 : Ty1 Tryd.prog 44 := ty1_of (by kernel_rfl)
theorem Z44 : (Tryd.prog.info? 44).map (·.size) = some 1 := by kernel_rfl
theorem Zv44 : (Tryd.prog.info? 44).bind (·.zero) = some .nilFunc := by kernel_rfl
theorem T55 : Ty1 Tryd.prog 55 := ty1_of (by kernel_rfl)
theorem Z55 : (Tryd.prog.info? 55).map (·.size) = some 1 := by kernel_rfl
theorem Zv55 : (Tryd.prog.info? 55).bind (·.zero) = some .nilFunc := by kernel_rfl
theorem T56 : Ty1 Tryd.prog 56 := ty1_of (by kernel_rfl)
theorem Z56 : (Tryd.prog.info? 56).map (·.size) = some 1 := by kernel_rfl
theorem Zv56 : (Tryd.prog.info? 56).bind (·.zero) = some .nilFunc := by kernel_rfl
theorem T58 : Ty1 Tryd.prog 58 := ty1_of (by kernel_rfl)
theorem Z58 : (Tryd.prog.info? 58).map (·.size) = some 1 := by kernel_rfl
theorem Zv58 : (Tryd.prog.info? 58).bind (·.zero) = some .nilFunc := by kernel_rfl
theorem T59 : Ty1 Tryd.prog 59 := ty1_of (by kernel_rfl)
theorem Z59 : (Tryd.prog.info? 59).map (·.size) = some 1 := by kernel_rfl
theorem Zv59 : (Tryd.prog.info? 59).bind (·.zero) = some .nilFunc := by kernel_rfl
theorem A61 : TyA Tryd.prog 61 5 := tyA_of (by kernel_rfl)
theorem Z61 : (Tryd.prog.info? 61).map (·.size) = some 5 := by kernel_rfl
theorem Zv61 : (Tryd.prog.info? 61).bind (·.zero) = some (.agg #[(.int .u64 (0)), (.int .u64 (0)), (.int .u64 (0)), (.int .u64 (0)), (.int .u64 (0))]) := by kernel_rfl
theorem A63 : TyA Tryd.prog 63 5 := tyA_of (by kernel_rfl)
theorem Z63 : (Tryd.prog.info? 63).map (·.size) = some 5 := by kernel_rfl
theorem Zv63 : (Tryd.prog.info? 63).bind (·.zero) = some (.agg #[(.int .i64 (0)), (.int .i64 (0)), (.int .i64 (0)), (.int .i64 (0)), (.int .i64 (0))]) := by kernel_rfl
theorem T70 : Ty1 Tryd.prog 70 := ty1_of (by kernel_rfl)
theorem Z70 : (Tryd.prog.info? 70).map (·.size) = some 1 := by kernel_rfl
theorem Zv70 : (Tryd.prog.info? 70).bind (·.zero) = some .nilFunc := by kernel_rfl
theorem T72 : Ty1 Tryd.prog 72 := ty1_of (by kernel_rfl)
theorem Z72 : (Tryd.prog.info? 72).map (·.size) = some 1 := by kernel_rfl
theorem Zv72 : (Tryd.prog.info? 72).bind (·.zero) = some .nilFunc := by kernel_rfl
theorem T73 : Ty1 Tryd.prog 73 := ty1_of (by kernel_rfl)
theorem Z73 : (Tryd.prog.info? 73).map (·.size) = some 1 := by kernel_rfl
theorem Zv73 : (Tryd.prog.info? 73).bind (·.zero) = some .nilFunc := by kernel_rfl
theorem T76 : Ty1 Tryd.prog 76 := ty1_of (by kernel_rfl)
theorem Z76 : (Tryd.prog.info? 76).map (·.size) = some 1 := by kernel_rfl
theorem Zv76 : (Tryd.prog.info? 76).bind (·.zero) = some .nilFunc := by kernel_rfl
theorem T77 : Ty1 Tryd.prog 77 := ty1_of (by kernel_rfl)
theorem Z77 : (Tryd.prog.info? 77).map (·.size) = some 1 := by kernel_rfl
theorem Zv77 : (Tryd.prog.info? 77).bind (·.zero) = some .nilFunc := by kernel_rfl
theorem T79 : Ty1 Tryd.prog 79 := ty1_of (by kernel_rfl)
theorem Z79 : (Tryd.prog.info? 79).map (·.size) = some 1 := by kernel_rfl
theorem Zv79 : (Tryd.prog.info? 79).bind (·.zero) = some (.int .u64 (0)) := by kernel_rfl
theorem T80 : Ty1 Tryd.prog 80 := ty1_of (by kernel_rfl)
theorem Z80 : (Tryd.prog.info? 80).map (·.size) = some 1 := by kernel_rfl
theorem Zv80 : (Tryd.prog.info? 80).bind (·.zero) = some .nilFunc := by kernel_rfl
theorem T81 : Ty1 Tryd.prog 81 := ty1_of (by kernel_rfl)
theorem Z81 : (Tryd.prog.info? 81).map (·.size) = some 1 := by kernel_rfl
theorem Zv81 : (Tryd.prog.info? 81).bind (·.zero) = some .nilFunc := by kernel_rfl
theorem S22 : TyS Tryd.prog 22 5 1 1 (.int .u8 (0)) := tyS_of Tryd.underlying22 (by kernel_rfl) rfl
theorem S41 : TyS Tryd.prog 41 22 1 24 (.slice none 0 0) := tyS_of Tryd.underlying41 (by kernel_rfl) rfl
theorem en2 : ∀ (args : Array Value) (w : World), (callFunc 2 args).run Tryd.prog w = .ok (.enter 2 args) w := enters Tryd.func2 (by kernel_rfl) rfl
theorem en3 : ∀ (args : Array Value) (w : World), (callFunc 3 args).run Tryd.prog w = .ok (.enter 3 args) w := enters Tryd.func3 (by kernel_rfl) rfl
theorem en4 : ∀ (args : Array Value) (w : World), (callFunc 4 args).run Tryd.prog w = .ok (.enter 4 args) w := enters Tryd.func4 (by kernel_rfl) rfl
theorem en5 : ∀ (args : Array Value) (w : World), (callFunc 5 args).run Tryd.prog w = .ok (.enter 5 args) w := enters Tryd.func5 (by kernel_rfl) rfl
theorem en6 : ∀ (args : Array Value) (w : World), (callFunc 6 args).run Tryd.prog w = .ok (.enter 6 args) w := enters Tryd.func6 (by kernel_rfl) rfl
theorem en7 : ∀ (args : Array Value) (w : World), (callFunc 7 args).run Tryd.prog w = .ok (.enter 7 args) w := enters Tryd.func7 (by kernel_rfl) rfl
theorem en8 : ∀ (args : Array Value) (w : World), (callFunc 8 args).run Tryd.prog w = .ok (.enter 8 args) w := enters Tryd.func8 (by kernel_rfl) rfl
theorem en9 : ∀ (args : Array Value) (w : World), (callFunc 9 args).run Tryd.prog w = .ok (.enter 9 args) w := enters Tryd.func9 (by kernel_rfl) rfl
theorem en10 : ∀ (args : Array Value) (w : World), (callFunc 10 args).run Tryd.prog w = .ok (.enter 10 args) w := enters Tryd.func10 (by kernel_rfl) rfl
theorem en11 : ∀ (args : Array Value) (w : World), (callFunc 11 args).run Tryd.prog w = .ok (.enter 11 args) w := enters Tryd.func11 (by kernel_rfl) rfl
theorem en12 : ∀ (args : Array Value) (w : World), (callFunc 12 args).run Tryd.prog w = .ok (.enter 12 args) w := enters Tryd.func12 (by kernel_rfl) rfl
theorem en13 : ∀ (args : Array Value) (w : World), (callFunc 13 args).run Tryd.prog w = .ok (.enter 13 args) w := enters Tryd.func13 (by kernel_rfl) rfl
theorem en14 : ∀ (args : Array Value) (w : World), (callFunc 14 args).run Tryd.prog w = .ok (.enter 14 args) w := enters Tryd.func14 (by kernel_rfl) rfl
theorem en15 : ∀ (args : Array Value) (w : World), (callFunc 15 args).run Tryd.prog w = .ok (.enter 15 args) w := enters Tryd.func15 (by kernel_rfl) rfl
theorem en16 : ∀ (args : Array Value) (w : World), (callFunc 16 args).run Tryd.prog w = .ok (.enter 16 args) w := enters Tryd.func16 (by kernel_rfl) rfl
theorem en17 : ∀ (args : Array Value) (w : World), (callFunc 17 args).run Tryd.prog w = .ok (.enter 17 args) w := enters Tryd.func17 (by kernel_rfl) rfl
theorem en18 : ∀ (args : Array Value) (w : World), (callFunc 18 args).run Tryd.prog w = .ok (.enter 18 args) w := enters Tryd.func18 (by kernel_rfl) rfl
theorem en19 : ∀ (args : Array Value) (w : World), (callFunc 19 args).run Tryd.prog w = .ok (.enter 19 args) w := enters Tryd.func19 (by kernel_rfl) rfl
theorem en20 : ∀ (args : Array Value) (w : World), (callFunc 20 args).run Tryd.prog w = .ok (.enter 20 args) w := enters Tryd.func20 (by kernel_rfl) rfl
theorem en21 : ∀ (args : Array Value) (w : World), (callFunc 21 args).run Tryd.prog w = .ok (.enter 21 args) w := enters Tryd.func21 (by kernel_rfl) rfl
theorem en22 : ∀ (args : Array Value) (w : World), (callFunc 22 args).run Tryd.prog w = .ok (.enter 22 args) w := enters Tryd.func22 (by kernel_rfl) rfl
theorem en23 : ∀ (args : Array Value) (w : World), (callFunc 23 args).run Tryd.prog w = .ok (.enter 23 args) w := enters Tryd.func23 (by kernel_rfl) rfl
theorem en24 : ∀ (args : Array Value) (w : World), (callFunc 24 args).run Tryd.prog w = .ok (.enter 24 args) w := enters Tryd.func24 (by kernel_rfl) rfl
theorem en25 : ∀ (args : Array Value) (w : World), (callFunc 25 args).run Tryd.prog w = .ok (.enter 25 args) w := enters Tryd.func25 (by kernel_rfl) rfl
theorem en26 : ∀ (args : Array Value) (w : World), (callFunc 26 args).run Tryd.prog w = .ok (.enter 26 args) w := enters Tryd.func26 (by kernel_rfl) rfl
theorem en27 : ∀ (args : Array Value) (w : World), (callFunc 27 args).run Tryd.prog w = .ok (.enter 27 args) w := enters Tryd.func27 (by kernel_rfl) rfl
theorem en28 : ∀ (args : Array Value) (w : World), (callFunc 28 args).run Tryd.prog w = .ok (.enter 28 args) w := enters Tryd.func28 (by kernel_rfl) rfl
theorem en29 : ∀ (args : Array Value) (w : World), (callFunc 29 args).run Tryd.prog w = .ok (.enter 29 args) w := enters Tryd.func29 (by kernel_rfl) rfl
theorem en30 : ∀ (args : Array Value) (w : World), (callFunc 30 args).run Tryd.prog w = .ok (.enter 30 args) w := enters Tryd.func30 (by kernel_rfl) rfl
theorem en31 : ∀ (args : Array Value) (w : World), (callFunc 31 args).run Tryd.prog w = .ok (.enter 31 args) w := enters Tryd.func31 (by kernel_rfl) rfl
theorem en32 : ∀ (args : Array Value) (w : World), (callFunc 32 args).run Tryd.prog w = .ok (.enter 32 args) w := enters Tryd.func32 (by kernel_rfl) rfl
theorem en33 : ∀ (args : Array Value) (w : World), (callFunc 33 args).run Tryd.prog w = .ok (.enter 33 args) w := enters Tryd.func33 (by kernel_rfl) rfl
theorem en34 : ∀ (args : Array Value) (w : World), (callFunc 34 args).run Tryd.prog w = .ok (.enter 34 args) w := enters Tryd.func34 (by kernel_rfl) rfl
theorem en35 : ∀ (args : Array Value) (w : World), (callFunc 35 args).run Tryd.prog w = .ok (.enter 35 args) w := enters Tryd.func35 (by kernel_rfl) rfl
theorem en36 : ∀ (args : Array Value) (w : World), (callFunc 36 args).run Tryd.prog w = .ok (.enter 36 args) w := enters Tryd.func36 (by kernel_rfl) rfl
theorem en37 : ∀ (args : Array Value) (w : World), (callFunc 37 args).run Tryd.prog w = .ok (.enter 37 args) w := enters Tryd.func37 (by kernel_rfl) rfl
theorem en38 : ∀ (args : Array Value) (w : World), (callFunc 38 args).run Tryd.prog w = .ok (.enter 38 args) w := enters Tryd.func38 (by kernel_rfl) rfl
theorem en39 : ∀ (args : Array Value) (w : World), (callFunc 39 args).run Tryd.prog w = .ok (.enter 39 args) w := enters Tryd.func39 (by kernel_rfl) rfl
theorem en40 : ∀ (args : Array Value) (w : World), (callFunc 40 args).run Tryd.prog w = .ok (.enter 40 args) w := enters Tryd.func40 (by kernel_rfl) rfl
theorem en41 : ∀ (args : Array Value) (w : World), (callFunc 41 args).run Tryd.prog w = .ok (.enter 41 args) w := enters Tryd.func41 (by kernel_rfl) rfl
theorem en42 : ∀ (args : Array Value) (w : World), (callFunc 42 args).run Tryd.prog w = .ok (.enter 42 args) w := enters Tryd.func42 (by kernel_rfl) rfl
theorem en43 : ∀ (args : Array Value) (w : World), (callFunc 43 args).run Tryd.prog w = .ok (.enter 43 args) w := enters Tryd.func43 (by kernel_rfl) rfl
theorem en44 : ∀ (args : Array Value) (w : World), (callFunc 44 args).run Tryd.prog w = .ok (.enter 44 args) w := enters Tryd.func44 (by kernel_rfl) rfl
theorem en45 : ∀ (args : Array Value) (w : World), (callFunc 45 args).run Tryd.prog w = .ok (.enter 45 args) w := enters Tryd.func45 (by kernel_rfl) rfl
theorem en46 : ∀ (args : Array Value) (w : World), (callFunc 46 args).run Tryd.prog w = .ok (.enter 46 args) w := enters Tryd.func46 (by kernel_rfl) rfl
theorem en47 : ∀ (args : Array Value) (w : World), (callFunc 47 args).run Tryd.prog w = .ok (.enter 47 args) w := enters Tryd.func47 (by kernel_rfl) rfl
theorem en48 : ∀ (args : Array Value) (w : World), (callFunc 48 args).run Tryd.prog w = .ok (.enter 48 args) w := enters Tryd.func48 (by kernel_rfl) rfl
theorem en49 : ∀ (args : Array Value) (w : World), (callFunc 49 args).run Tryd.prog w = .ok (.enter 49 args) w := enters Tryd.func49 (by kernel_rfl) rfl
theorem en50 : ∀ (args : Array Value) (w : World), (callFunc 50 args).run Tryd.prog w = .ok (.enter 50 args) w := enters Tryd.func50 (by kernel_rfl) rfl
theorem en51 : ∀ (args : Array Value) (w : World), (callFunc 51 args).run Tryd.prog w = .ok (.enter 51 args) w := enters Tryd.func51 (by kernel_rfl) rfl
theorem en52 : ∀ (args : Array Value) (w : World), (callFunc 52 args).run Tryd.prog w = .ok (.enter 52 args) w := enters Tryd.func52 (by kernel_rfl) rfl
theorem en53 : ∀ (args : Array Value) (w : World), (callFunc 53 args).run Tryd.prog w = .ok (.enter 53 args) w := enters Tryd.func53 (by kernel_rfl) rfl
theorem en73 : ∀ (args : Array Value) (w : World), (callFunc 73 args).run Tryd.prog w = .ok (.enter 73 args) w := enters Tryd.func73 (by kernel_rfl) rfl
theorem mixed : Tryd.prog.follows .mixedOrders = true := by kernel_rfl
end Go.Proofs.YtmggaahkfidfaaaDoor
