/-
  What the program's tables say of the types and functions that the proofs of this seat name: closed facts, by the kernel. (Printed by a program of this repo, wip/gen/header.py.)
-/
import Derived.Test.YthncpmablodbjaaDoorProg
import Derived.Test.YthncpmablodbjaaDoorBaseE
import Derived.KernelRfl
namespace Go.Proofs.YthncpmablodbjaaDoor
open Go Go.SL Go.Proofs

theorem T1 : Ty1 Tryd.prog 1 := ty1_of (by kernel_rfl)
theorem Z1 : (Tryd.prog.info? 1).map (·.size) = some 1 := by kernel_rfl
theorem Zv1 : (Tryd.prog.info? 1).bind (·.zero) = some .nilFunc := by kernel_rfl
theorem T2 : Ty1 Tryd.prog 2 := ty1_of (by kernel_rfl)
theorem Z2 : (Tryd.prog.info? 2).map (·.size) = some 1 := by kernel_rfl
theorem Zv2 : (Tryd.prog.info? 2).bind (·.zero) = some (.int .i64 (0)) := by kernel_rfl
theorem T3 : Ty1 Tryd.prog 3 := ty1_of (by kernel_rfl)
theorem Z3 : (Tryd.prog.info? 3).map (·.size) = some 1 := by kernel_rfl
theorem Zv3 : (Tryd.prog.info? 3).bind (·.zero) = some (.int .i64 (0)) := by kernel_rfl
theorem T4 : Ty1 Tryd.prog 4 := ty1_of (by kernel_rfl)
theorem Z4 : (Tryd.prog.info? 4).map (·.size) = some 1 := by kernel_rfl
theorem Zv4 : (Tryd.prog.info? 4).bind (·.zero) = some (.bool (false)) := by kernel_rfl
theorem T5 : Ty1 Tryd.prog 5 := ty1_of (by kernel_rfl)
theorem Z5 : (Tryd.prog.info? 5).map (·.size) = some 1 := by kernel_rfl
theorem Zv5 : (Tryd.prog.info? 5).bind (·.zero) = some (.int .u8 (0)) := by kernel_rfl
theorem T9 : Ty1 Tryd.prog 9 := ty1_of (by kernel_rfl)
theorem Z9 : (Tryd.prog.info? 9).map (·.size) = some 1 := by kernel_rfl
theorem Zv9 : (Tryd.prog.info? 9).bind (·.zero) = some (strV ([])) := by kernel_rfl
theorem T22 : Ty1 Tryd.prog 22 := ty1_of (by kernel_rfl)
theorem Z22 : (Tryd.prog.info? 22).map (·.size) = some 1 := by kernel_rfl
theorem Zv22 : (Tryd.prog.info? 22).bind (·.zero) = some (.slice none 0 0) := by kernel_rfl
theorem T23 : Ty1 Tryd.prog 23 := ty1_of (by kernel_rfl)
theorem Z23 : (Tryd.prog.info? 23).map (·.size) = some 1 := by kernel_rfl
theorem Zv23 : (Tryd.prog.info? 23).bind (·.zero) = some (.slice none 0 0) := by kernel_rfl
theorem T25 : Ty1 Tryd.prog 25 := ty1_of (by kernel_rfl)
theorem Z25 : (Tryd.prog.info? 25).map (·.size) = some 1 := by kernel_rfl
theorem Zv25 : (Tryd.prog.info? 25).bind (·.zero) = some (.int .u32 (0)) := by kernel_rfl
theorem A27 : TyA Tryd.prog 27 5 := tyA_of (by kernel_rfl)
theorem Z27 : (Tryd.prog.info? 27).map (·.size) = some 5 := by kernel_rfl
theorem Zv27 : (Tryd.prog.info? 27).bind (·.zero) = some (.agg #[(.int .u32 (0)), (.slice none 0 0), (.slice none 0 0), (.int .u8 (0)), (.int .u8 (0))]) := by kernel_rfl
theorem Fd27_0 : Fld Tryd.prog 27 0 0 := fld_of (by kernel_rfl)
theorem Fd27_1 : Fld Tryd.prog 27 1 1 := fld_of (by kernel_rfl)
theorem Fd27_2 : Fld Tryd.prog 27 2 2 := fld_of (by kernel_rfl)
theorem Fd27_3 : Fld Tryd.prog 27 3 3 := fld_of (by kernel_rfl)
theorem Fd27_4 : Fld Tryd.prog 27 4 4 := fld_of (by kernel_rfl)
theorem A36 : TyA Tryd.prog 36 8 := tyA_of (by kernel_rfl)
theorem Z36 : (Tryd.prog.info? 36).map (·.size) = some 8 := by kernel_rfl
theorem Zv36 : (Tryd.prog.info? 36).bind (·.zero) = some (.agg #[(.bool (false)), (.bool (false)), (.bool (false)), (.bool (false)), (.bool (false)), (.bool (false)), (.bool (false)), (.bool (false))]) := by kernel_rfl
theorem A37 : TyA Tryd.prog 37 40 := tyA_of (by kernel_rfl)
theorem Z37 : (Tryd.prog.info? 37).map (·.size) = some 40 := by kernel_rfl
def zc37 : List Value := List.replicate 1 (.int .u32 (0)) ++ List.replicate 2 (.slice none 0 0) ++ List.replicate 2 (.int .u8 (0)) ++ List.replicate 1 (.int .u32 (0)) ++ List.replicate 2 (.slice none 0 0) ++ List.replicate 2 (.int .u8 (0)) ++ List.replicate 1 (.int .u32 (0)) ++ List.replicate 2 (.slice none 0 0) ++ List.replicate 2 (.int .u8 (0)) ++ List.replicate 1 (.int .u32 (0)) ++ List.replicate 2 (.slice none 0 0) ++ List.replicate 2 (.int .u8 (0)) ++ List.replicate 1 (.int .u32 (0)) ++ List.replicate 2 (.slice none 0 0) ++ List.replicate 2 (.int .u8 (0)) ++ List.replicate 1 (.int .u32 (0)) ++ List.replicate 2 (.slice none 0 0) ++ List.replicate 2 (.int .u8 (0)) ++ List.replicate 1 (.int .u32 (0)) ++ List.replicate 2 (.slice none 0 0) ++ List.replicate 2 (.int .u8 (0)) ++ List.replicate 1 (.int .u32 (0)) ++ List.replicate 2 (.slice none 0 0) ++ List.replicate 2 (.int .u8 (0))
def zv37 : Value := .agg zc37.toArray
theorem Zv37 : (Tryd.prog.info? 37).bind (·.zero) = some zv37 := by kernel_rfl
theorem A38 : TyA Tryd.prog 38 2 := tyA_of (by kernel_rfl)
theorem Z38 : (Tryd.prog.info? 38).map (·.size) = some 2 := by kernel_rfl
theorem Zv38 : (Tryd.prog.info? 38).bind (·.zero) = some (.agg #[(.bool (false)), (.bool (false))]) := by kernel_rfl
theorem A40 : TyA Tryd.prog 40 77 := tyA_of (by kernel_rfl)
theorem Z40 : (Tryd.prog.info? 40).map (·.size) = some 77 := by kernel_rfl
def zc40 : List Value := List.replicate 1 (.int .i64 (0)) ++ List.replicate 1 (.int .u32 (0)) ++ List.replicate 2 (.slice none 0 0) ++ List.replicate 2 (.int .u8 (0)) ++ List.replicate 1 (.int .u32 (0)) ++ List.replicate 2 (.slice none 0 0) ++ List.replicate 2 (.int .u8 (0)) ++ List.replicate 1 (.int .u32 (0)) ++ List.replicate 2 (.slice none 0 0) ++ List.replicate 2 (.int .u8 (0)) ++ List.replicate 8 (.bool (false)) ++ List.replicate 1 (.int .u32 (0)) ++ List.replicate 2 (.slice none 0 0) ++ List.replicate 2 (.int .u8 (0)) ++ List.replicate 1 (.int .u32 (0)) ++ List.replicate 2 (.slice none 0 0) ++ List.replicate 2 (.int .u8 (0)) ++ List.replicate 1 (.int .u32 (0)) ++ List.replicate 2 (.slice none 0 0) ++ List.replicate 2 (.int .u8 (0)) ++ List.replicate 1 (.int .u32 (0)) ++ List.replicate 2 (.slice none 0 0) ++ List.replicate 2 (.int .u8 (0)) ++ List.replicate 1 (.int .u32 (0)) ++ List.replicate 2 (.slice none 0 0) ++ List.replicate 2 (.int .u8 (0)) ++ List.replicate 1 (.int .u32 (0)) ++ List.replicate 2 (.slice none 0 0) ++ List.replicate 2 (.int .u8 (0)) ++ List.replicate 1 (.int .u32 (0)) ++ List.replicate 2 (.slice none 0 0) ++ List.replicate 2 (.int .u8 (0)) ++ List.replicate 1 (.int .u32 (0)) ++ List.replicate 2 (.slice none 0 0) ++ List.replicate 2 (.int .u8 (0)) ++ List.replicate 7 (.bool (false)) ++ List.replicate 1 (.int .u8 (0)) ++ List.replicate 1 (.int .u32 (0)) ++ List.replicate 2 (.slice none 0 0) ++ List.replicate 2 (.int .u8 (0))
def zv40 : Value := .agg zc40.toArray
theorem Zv40 : (Tryd.prog.info? 40).bind (·.zero) = some zv40 := by kernel_rfl
theorem Fd40_0 : Fld Tryd.prog 40 0 0 := fld_of (by kernel_rfl)
theorem Fd40_1 : Fld Tryd.prog 40 1 1 := fld_of (by kernel_rfl)
theorem Fd40_2 : Fld Tryd.prog 40 2 6 := fld_of (by kernel_rfl)
theorem Fd40_3 : Fld Tryd.prog 40 3 11 := fld_of (by kernel_rfl)
theorem Fd40_4 : Fld Tryd.prog 40 4 16 := fld_of (by kernel_rfl)
theorem Fd40_5 : Fld Tryd.prog 40 5 24 := fld_of (by kernel_rfl)
theorem Fd40_6 : Fld Tryd.prog 40 6 64 := fld_of (by kernel_rfl)
theorem Fd40_7 : Fld Tryd.prog 40 7 65 := fld_of (by kernel_rfl)
theorem Fd40_8 : Fld Tryd.prog 40 8 66 := fld_of (by kernel_rfl)
theorem Fd40_9 : Fld Tryd.prog 40 9 67 := fld_of (by kernel_rfl)
theorem Fd40_10 : Fld Tryd.prog 40 10 69 := fld_of (by kernel_rfl)
theorem Fd40_11 : Fld Tryd.prog 40 11 71 := fld_of (by kernel_rfl)
theorem Fd40_12 : Fld Tryd.prog 40 12 72 := fld_of (by kernel_rfl)
theorem A43 : TyA Tryd.prog 43 5 := tyA_of (by kernel_rfl)
theorem Z43 : (Tryd.prog.info? 43).map (·.size) = some 5 := by kernel_rfl
theorem Zv43 : (Tryd.prog.info? 43).bind (·.zero) = some (.agg #[(.int .u8 (0)), (.int .i64 (0)), (.int .i64 (0)), (.slice none 0 0), (.slice none 0 0)]) := by kernel_rfl
theorem Fd43_0 : Fld Tryd.prog 43 0 0 := fld_of (by kernel_rfl)
theorem Fd43_1 : Fld Tryd.prog 43 1 1 := fld_of (by kernel_rfl)
theorem Fd43_2 : Fld Tryd.prog 43 2 2 := fld_of (by kernel_rfl)
theorem Fd43_3 : Fld Tryd.prog 43 3 3 := fld_of (by kernel_rfl)
theorem Fd43_4 : Fld Tryd.prog 43 4 4 := fld_of (by kernel_rfl)
theorem T46 : Ty1 Tryd.prog 46 := ty1_of (by kernel_rfl)
theorem Z46 : (Tryd.prog.info? 46).map (·.size) = some 1 := by kernel_rfl
theorem Zv46 : (Tryd.prog.info? 46).bind (·.zero) = some (.int .i64 (0)) := by kernel_rfl
theorem A48 : TyA Tryd.prog 48 5 := tyA_of (by kernel_rfl)
theorem Z48 : (Tryd.prog.info? 48).map (·.size) = some 5 := by kernel_rfl
theorem Zv48 : (Tryd.prog.info? 48).bind (·.zero) = some (.agg #[(.int .i64 (0)), (.bool (false)), (.slice none 0 0), (.slice none 0 0), (.int .i64 (0))]) := by kernel_rfl
theorem Fd48_0 : Fld Tryd.prog 48 0 0 := fld_of (by kernel_rfl)
theorem Fd48_1 : Fld Tryd.prog 48 1 1 := fld_of (by kernel_rfl)
theorem Fd48_2 : Fld Tryd.prog 48 2 2 := fld_of (by kernel_rfl)
theorem Fd48_3 : Fld Tryd.prog 48 3 3 := fld_of (by kernel_rfl)
theorem Fd48_4 : Fld Tryd.prog 48 4 4 := fld_of (by kernel_rfl)
theorem T64 : Ty1 Tryd.prog 64 := ty1_of (by kernel_rfl)
theorem Z64 : (Tryd.prog.info? 64).map (·.size) = some 1 := by kernel_rfl
theorem Zv64 : (Tryd.prog.info? 64).bind (·.zero) = some .nilFunc := by kernel_rfl
theorem T65 : Ty1 Tryd.prog 65 := ty1_of (by kernel_rfl)
theorem Z65 : (Tryd.prog.info? 65).map (·.size) = some 1 := by kernel_rfl
theorem Zv65 : (Tryd.prog.info? 65).bind (·.zero) = some .nilFunc := by kernel_rfl
theorem T68 : Ty1 Tryd.prog 68 := ty1_of (by kernel_rfl)
theorem Z68 : (Tryd.prog.info? 68).map (·.size) = some 1 := by kernel_rfl
theorem Zv68 : (Tryd.prog.info? 68).bind (·.zero) = some (.pointer none) := by kernel_rfl
theorem T70 : Ty1 Tryd.prog 70 := ty1_of (by kernel_rfl)
theorem Z70 : (Tryd.prog.info? 70).map (·.size) = some 1 := by kernel_rfl
theorem Zv70 : (Tryd.prog.info? 70).bind (·.zero) = some (.slice none 0 0) := by kernel_rfl
theorem A71 : TyA Tryd.prog 71 15 := tyA_of (by kernel_rfl)
theorem Z71 : (Tryd.prog.info? 71).map (·.size) = some 15 := by kernel_rfl
theorem Zv71 : (Tryd.prog.info? 71).bind (·.zero) = some (.agg #[(.int .i64 (0)), (.int .i64 (0)), (.int .i64 (0)), (.int .i64 (0)), (.int .i64 (0)), (.int .i64 (0)), (.int .i64 (0)), (.int .i64 (0)), (.int .i64 (0)), (.int .i64 (0)), (.int .i64 (0)), (.int .i64 (0)), (.int .i64 (0)), (.int .i64 (0)), (.int .i64 (0))]) := by kernel_rfl
theorem T72 : Ty1 Tryd.prog 72 := ty1_of (by kernel_rfl)
theorem Z72 : (Tryd.prog.info? 72).map (·.size) = some 1 := by kernel_rfl
theorem Zv72 : (Tryd.prog.info? 72).bind (·.zero) = some .nilFunc := by kernel_rfl
theorem T73 : Ty1 Tryd.prog 73 := ty1_of (by kernel_rfl)
theorem Z73 : (Tryd.prog.info? 73).map (·.size) = some 1 := by kernel_rfl
theorem Zv73 : (Tryd.prog.info? 73).bind (·.zero) = some .nilFunc := by kernel_rfl
theorem T75 : Ty1 Tryd.prog 75 := ty1_of (by kernel_rfl)
theorem Z75 : (Tryd.prog.info? 75).map (·.size) = some 1 := by kernel_rfl
theorem Zv75 : (Tryd.prog.info? 75).bind (·.zero) = some (.slice none 0 0) := by kernel_rfl
theorem T78 : Ty1 Tryd.prog 78 := ty1_of (by kernel_rfl)
theorem Z78 : (Tryd.prog.info? 78).map (·.size) = some 1 := by kernel_rfl
theorem Zv78 : (Tryd.prog.info? 78).bind (·.zero) = some .nilFunc := by kernel_rfl
theorem A80 : TyA Tryd.prog 80 2 := tyA_of (by kernel_rfl)
theorem Z80 : (Tryd.prog.info? 80).map (·.size) = some 2 := by kernel_rfl
theorem Zv80 : (Tryd.prog.info? 80).bind (·.zero) = some (.agg #[(.int .i64 (0)), .nilFunc]) := by kernel_rfl
theorem Fd80_0 : Fld Tryd.prog 80 0 0 := fld_of (by kernel_rfl)
theorem Fd80_1 : Fld Tryd.prog 80 1 1 := fld_of (by kernel_rfl)
theorem A82 : TyA Tryd.prog 82 8 := tyA_of (by kernel_rfl)
theorem Z82 : (Tryd.prog.info? 82).map (·.size) = some 8 := by kernel_rfl
theorem Zv82 : (Tryd.prog.info? 82).bind (·.zero) = some (.agg #[(.int .u8 (0)), (.int .u8 (0)), (.int .u8 (0)), (.int .u8 (0)), (.int .u8 (0)), (.int .u8 (0)), (.int .u8 (0)), (.int .u8 (0))]) := by kernel_rfl
theorem T86 : Ty1 Tryd.prog 86 := ty1_of (by kernel_rfl)
theorem Z86 : (Tryd.prog.info? 86).map (·.size) = some 1 := by kernel_rfl
theorem Zv86 : (Tryd.prog.info? 86).bind (·.zero) = some .nilFunc := by kernel_rfl
theorem T89 : Ty1 Tryd.prog 89 := ty1_of (by kernel_rfl)
theorem Z89 : (Tryd.prog.info? 89).map (·.size) = some 1 := by kernel_rfl
theorem Zv89 : (Tryd.prog.info? 89).bind (·.zero) = some .nilFunc := by kernel_rfl
theorem T94 : Ty1 Tryd.prog 94 := ty1_of (by kernel_rfl)
theorem Z94 : (Tryd.prog.info? 94).map (·.size) = some 1 := by kernel_rfl
theorem Zv94 : (Tryd.prog.info? 94).bind (·.zero) = some (.slice none 0 0) := by kernel_rfl
theorem S22 : TyS Tryd.prog 22 23 1 24 (.slice none 0 0) := tyS_of Tryd.underlying22 (by kernel_rfl) rfl
theorem S23 : TyS Tryd.prog 23 5 1 1 (.int .u8 (0)) := tyS_of Tryd.underlying23 (by kernel_rfl) rfl
theorem S70 : TyS Tryd.prog 70 46 1 8 (.int .i64 (0)) := tyS_of Tryd.underlying70 (by kernel_rfl) rfl
theorem S75 : TyS Tryd.prog 75 80 2 16 (.agg #[(.int .i64 (0)), .nilFunc]) := tyS_of Tryd.underlying75 (by kernel_rfl) rfl
theorem S94 : TyS Tryd.prog 94 4 1 1 (.bool (false)) := tyS_of Tryd.underlying94 (by kernel_rfl) rfl
theorem en2 : ∀ (args : Array Value) (w : World), (callFunc 2 args).run Tryd.prog w = .ok (.enter 2 args) w := enters Tryd.func2 (by kernel_rfl) rfl
theorem en3 : ∀ (args : Array Value) (w : World), (callFunc 3 args).run Tryd.prog w = .ok (.enter 3 args) w := enters Tryd.func3 (by kernel_rfl) rfl
theorem en4 : ∀ (args : Array Value) (w : World), (callFunc 4 args).run Tryd.prog w = .ok (.enter 4 args) w := enters Tryd.func4 (by kernel_rfl) rfl
theorem en5 : ∀ (args : Array Value) (w : World), (callFunc 5 args).run Tryd.prog w = .ok (.enter 5 args) w := enters Tryd.func5 (by kernel_rfl) rfl
theorem en6 : ∀ (args : Array Value) (w : World), (callFunc 6 args).run Tryd.prog w = .ok (.enter 6 args) w := enters Tryd.func6 (by kernel_rfl) rfl
theorem en7 : ∀ (args : Array Value) (w : World), (callFunc 7 args).run Tryd.prog w = .ok (.enter 7 args) w := enters Tryd.func7 (by kernel_rfl) rfl
theorem en8 : ∀ (args : Array Value) (w : World), (callFunc 8 args).run Tryd.prog w = .ok (.enter 8 args) w := enters Tryd.func8 (by kernel_rfl) rfl
theorem en9 : ∀ (args : Array Value) (w : World), (callFunc 9 args).run Tryd.prog w = .ok (.enter 9 args) w := enters Tryd.func9 (by kernel_rfl) rfl
theorem en10 : ∀ (args : Array Value) (w : World), (callFunc 10 args).run Tryd.prog w = .ok (.enter 10 args) w := enters Tryd.func10 (by kernel_rfl) rfl
theorem en11 : ∀ (args : Array Value) (w : World), (callFunc 11 args).run Tryd.prog w = .ok (.enter 11 args) w := enters Tryd.func11 (by kernel_rfl) rfl
theorem en12 : ∀ (args : Array Value) (w : World), (callFunc 12 args).run Tryd.prog w = .ok (.enter 12 args) w := enters Tryd.func12 (by kernel_rfl) rfl
theorem en13 : ∀ (args : Array Value) (w : World), (callFunc 13 args).run Tryd.prog w = .ok (.enter 13 args) w := enters Tryd.func13 (by kernel_rfl) rfl
theorem en14 : ∀ (args : Array Value) (w : World), (callFunc 14 args).run Tryd.prog w = .ok (.enter 14 args) w := enters Tryd.func14 (by kernel_rfl) rfl
theorem en15 : ∀ (args : Array Value) (w : World), (callFunc 15 args).run Tryd.prog w = .ok (.enter 15 args) w := enters Tryd.func15 (by kernel_rfl) rfl
theorem en16 : ∀ (args : Array Value) (w : World), (callFunc 16 args).run Tryd.prog w = .ok (.enter 16 args) w := enters Tryd.func16 (by kernel_rfl) rfl
theorem en17 : ∀ (args : Array Value) (w : World), (callFunc 17 args).run Tryd.prog w = .ok (.enter 17 args) w := enters Tryd.func17 (by kernel_rfl) rfl
theorem en18 : ∀ (args : Array Value) (w : World), (callFunc 18 args).run Tryd.prog w = .ok (.enter 18 args) w := enters Tryd.func18 (by kernel_rfl) rfl
theorem en19 : ∀ (args : Array Value) (w : World), (callFunc 19 args).run Tryd.prog w = .ok (.enter 19 args) w := enters Tryd.func19 (by kernel_rfl) rfl
theorem en20 : ∀ (args : Array Value) (w : World), (callFunc 20 args).run Tryd.prog w = .ok (.enter 20 args) w := enters Tryd.func20 (by kernel_rfl) rfl
theorem en21 : ∀ (args : Array Value) (w : World), (callFunc 21 args).run Tryd.prog w = .ok (.enter 21 args) w := enters Tryd.func21 (by kernel_rfl) rfl
theorem en23 : ∀ (args : Array Value) (w : World), (callFunc 23 args).run Tryd.prog w = .ok (.enter 23 args) w := enters Tryd.func23 (by kernel_rfl) rfl
theorem en24 : ∀ (args : Array Value) (w : World), (callFunc 24 args).run Tryd.prog w = .ok (.enter 24 args) w := enters Tryd.func24 (by kernel_rfl) rfl
theorem en25 : ∀ (args : Array Value) (w : World), (callFunc 25 args).run Tryd.prog w = .ok (.enter 25 args) w := enters Tryd.func25 (by kernel_rfl) rfl
theorem en26 : ∀ (args : Array Value) (w : World), (callFunc 26 args).run Tryd.prog w = .ok (.enter 26 args) w := enters Tryd.func26 (by kernel_rfl) rfl
theorem en27 : ∀ (args : Array Value) (w : World), (callFunc 27 args).run Tryd.prog w = .ok (.enter 27 args) w := enters Tryd.func27 (by kernel_rfl) rfl
theorem en28 : ∀ (args : Array Value) (w : World), (callFunc 28 args).run Tryd.prog w = .ok (.enter 28 args) w := enters Tryd.func28 (by kernel_rfl) rfl
theorem en29 : ∀ (args : Array Value) (w : World), (callFunc 29 args).run Tryd.prog w = .ok (.enter 29 args) w := enters Tryd.func29 (by kernel_rfl) rfl
theorem en30 : ∀ (args : Array Value) (w : World), (callFunc 30 args).run Tryd.prog w = .ok (.enter 30 args) w := enters Tryd.func30 (by kernel_rfl) rfl
theorem en31 : ∀ (args : Array Value) (w : World), (callFunc 31 args).run Tryd.prog w = .ok (.enter 31 args) w := enters Tryd.func31 (by kernel_rfl) rfl
theorem en32 : ∀ (args : Array Value) (w : World), (callFunc 32 args).run Tryd.prog w = .ok (.enter 32 args) w := enters Tryd.func32 (by kernel_rfl) rfl
theorem en33 : ∀ (args : Array Value) (w : World), (callFunc 33 args).run Tryd.prog w = .ok (.enter 33 args) w := enters Tryd.func33 (by kernel_rfl) rfl
theorem en34 : ∀ (args : Array Value) (w : World), (callFunc 34 args).run Tryd.prog w = .ok (.enter 34 args) w := enters Tryd.func34 (by kernel_rfl) rfl
theorem en35 : ∀ (args : Array Value) (w : World), (callFunc 35 args).run Tryd.prog w = .ok (.enter 35 args) w := enters Tryd.func35 (by kernel_rfl) rfl
theorem en36 : ∀ (args : Array Value) (w : World), (callFunc 36 args).run Tryd.prog w = .ok (.enter 36 args) w := enters Tryd.func36 (by kernel_rfl) rfl
theorem en37 : ∀ (args : Array Value) (w : World), (callFunc 37 args).run Tryd.prog w = .ok (.enter 37 args) w := enters Tryd.func37 (by kernel_rfl) rfl
theorem en38 : ∀ (args : Array Value) (w : World), (callFunc 38 args).run Tryd.prog w = .ok (.enter 38 args) w := enters Tryd.func38 (by kernel_rfl) rfl
theorem en39 : ∀ (args : Array Value) (w : World), (callFunc 39 args).run Tryd.prog w = .ok (.enter 39 args) w := enters Tryd.func39 (by kernel_rfl) rfl
theorem en40 : ∀ (args : Array Value) (w : World), (callFunc 40 args).run Tryd.prog w = .ok (.enter 40 args) w := enters Tryd.func40 (by kernel_rfl) rfl
theorem en41 : ∀ (args : Array Value) (w : World), (callFunc 41 args).run Tryd.prog w = .ok (.enter 41 args) w := enters Tryd.func41 (by kernel_rfl) rfl
theorem en42 : ∀ (args : Array Value) (w : World), (callFunc 42 args).run Tryd.prog w = .ok (.enter 42 args) w := enters Tryd.func42 (by kernel_rfl) rfl
theorem en43 : ∀ (args : Array Value) (w : World), (callFunc 43 args).run Tryd.prog w = .ok (.enter 43 args) w := enters Tryd.func43 (by kernel_rfl) rfl
theorem en44 : ∀ (args : Array Value) (w : World), (callFunc 44 args).run Tryd.prog w = .ok (.enter 44 args) w := enters Tryd.func44 (by kernel_rfl) rfl
theorem en45 : ∀ (args : Array Value) (w : World), (callFunc 45 args).run Tryd.prog w = .ok (.enter 45 args) w := enters Tryd.func45 (by kernel_rfl) rfl
theorem en46 : ∀ (args : Array Value) (w : World), (callFunc 46 args).run Tryd.prog w = .ok (.enter 46 args) w := enters Tryd.func46 (by kernel_rfl) rfl
theorem en47 : ∀ (args : Array Value) (w : World), (callFunc 47 args).run Tryd.prog w = .ok (.enter 47 args) w := enters Tryd.func47 (by kernel_rfl) rfl
theorem en48 : ∀ (args : Array Value) (w : World), (callFunc 48 args).run Tryd.prog w = .ok (.enter 48 args) w := enters Tryd.func48 (by kernel_rfl) rfl
theorem en49 : ∀ (args : Array Value) (w : World), (callFunc 49 args).run Tryd.prog w = .ok (.enter 49 args) w := enters Tryd.func49 (by kernel_rfl) rfl
theorem en50 : ∀ (args : Array Value) (w : World), (callFunc 50 args).run Tryd.prog w = .ok (.enter 50 args) w := enters Tryd.func50 (by kernel_rfl) rfl
theorem en51 : ∀ (args : Array Value) (w : World), (callFunc 51 args).run Tryd.prog w = .ok (.enter 51 args) w := enters Tryd.func51 (by kernel_rfl) rfl
theorem en52 : ∀ (args : Array Value) (w : World), (callFunc 52 args).run Tryd.prog w = .ok (.enter 52 args) w := enters Tryd.func52 (by kernel_rfl) rfl
theorem en53 : ∀ (args : Array Value) (w : World), (callFunc 53 args).run Tryd.prog w = .ok (.enter 53 args) w := enters Tryd.func53 (by kernel_rfl) rfl
theorem en54 : ∀ (args : Array Value) (w : World), (callFunc 54 args).run Tryd.prog w = .ok (.enter 54 args) w := enters Tryd.func54 (by kernel_rfl) rfl
theorem en55 : ∀ (args : Array Value) (w : World), (callFunc 55 args).run Tryd.prog w = .ok (.enter 55 args) w := enters Tryd.func55 (by kernel_rfl) rfl
theorem en56 : ∀ (args : Array Value) (w : World), (callFunc 56 args).run Tryd.prog w = .ok (.enter 56 args) w := enters Tryd.func56 (by kernel_rfl) rfl
theorem en57 : ∀ (args : Array Value) (w : World), (callFunc 57 args).run Tryd.prog w = .ok (.enter 57 args) w := enters Tryd.func57 (by kernel_rfl) rfl
theorem en58 : ∀ (args : Array Value) (w : World), (callFunc 58 args).run Tryd.prog w = .ok (.enter 58 args) w := enters Tryd.func58 (by kernel_rfl) rfl
theorem en59 : ∀ (args : Array Value) (w : World), (callFunc 59 args).run Tryd.prog w = .ok (.enter 59 args) w := enters Tryd.func59 (by kernel_rfl) rfl
theorem en60 : ∀ (args : Array Value) (w : World), (callFunc 60 args).run Tryd.prog w = .ok (.enter 60 args) w := enters Tryd.func60 (by kernel_rfl) rfl
theorem en61 : ∀ (args : Array Value) (w : World), (callFunc 61 args).run Tryd.prog w = .ok (.enter 61 args) w := enters Tryd.func61 (by kernel_rfl) rfl
theorem en62 : ∀ (args : Array Value) (w : World), (callFunc 62 args).run Tryd.prog w = .ok (.enter 62 args) w := enters Tryd.func62 (by kernel_rfl) rfl
theorem en63 : ∀ (args : Array Value) (w : World), (callFunc 63 args).run Tryd.prog w = .ok (.enter 63 args) w := enters Tryd.func63 (by kernel_rfl) rfl
theorem en64 : ∀ (args : Array Value) (w : World), (callFunc 64 args).run Tryd.prog w = .ok (.enter 64 args) w := enters Tryd.func64 (by kernel_rfl) rfl
theorem en65 : ∀ (args : Array Value) (w : World), (callFunc 65 args).run Tryd.prog w = .ok (.enter 65 args) w := enters Tryd.func65 (by kernel_rfl) rfl
theorem en66 : ∀ (args : Array Value) (w : World), (callFunc 66 args).run Tryd.prog w = .ok (.enter 66 args) w := enters Tryd.func66 (by kernel_rfl) rfl
theorem en67 : ∀ (args : Array Value) (w : World), (callFunc 67 args).run Tryd.prog w = .ok (.enter 67 args) w := enters Tryd.func67 (by kernel_rfl) rfl
theorem en68 : ∀ (args : Array Value) (w : World), (callFunc 68 args).run Tryd.prog w = .ok (.enter 68 args) w := enters Tryd.func68 (by kernel_rfl) rfl
theorem en69 : ∀ (args : Array Value) (w : World), (callFunc 69 args).run Tryd.prog w = .ok (.enter 69 args) w := enters Tryd.func69 (by kernel_rfl) rfl
theorem en70 : ∀ (args : Array Value) (w : World), (callFunc 70 args).run Tryd.prog w = .ok (.enter 70 args) w := enters Tryd.func70 (by kernel_rfl) rfl
theorem en71 : ∀ (args : Array Value) (w : World), (callFunc 71 args).run Tryd.prog w = .ok (.enter 71 args) w := enters Tryd.func71 (by kernel_rfl) rfl
theorem en72 : ∀ (args : Array Value) (w : World), (callFunc 72 args).run Tryd.prog w = .ok (.enter 72 args) w := enters Tryd.func72 (by kernel_rfl) rfl
theorem en73 : ∀ (args : Array Value) (w : World), (callFunc 73 args).run Tryd.prog w = .ok (.enter 73 args) w := enters Tryd.func73 (by kernel_rfl) rfl
theorem en74 : ∀ (args : Array Value) (w : World), (callFunc 74 args).run Tryd.prog w = .ok (.enter 74 args) w := enters Tryd.func74 (by kernel_rfl) rfl
theorem en75 : ∀ (args : Array Value) (w : World), (callFunc 75 args).run Tryd.prog w = .ok (.enter 75 args) w := enters Tryd.func75 (by kernel_rfl) rfl
theorem en76 : ∀ (args : Array Value) (w : World), (callFunc 76 args).run Tryd.prog w = .ok (.enter 76 args) w := enters Tryd.func76 (by kernel_rfl) rfl
theorem en77 : ∀ (args : Array Value) (w : World), (callFunc 77 args).run Tryd.prog w = .ok (.enter 77 args) w := enters Tryd.func77 (by kernel_rfl) rfl
theorem en78 : ∀ (args : Array Value) (w : World), (callFunc 78 args).run Tryd.prog w = .ok (.enter 78 args) w := enters Tryd.func78 (by kernel_rfl) rfl
theorem en79 : ∀ (args : Array Value) (w : World), (callFunc 79 args).run Tryd.prog w = .ok (.enter 79 args) w := enters Tryd.func79 (by kernel_rfl) rfl
theorem en80 : ∀ (args : Array Value) (w : World), (callFunc 80 args).run Tryd.prog w = .ok (.enter 80 args) w := enters Tryd.func80 (by kernel_rfl) rfl
theorem en81 : ∀ (args : Array Value) (w : World), (callFunc 81 args).run Tryd.prog w = .ok (.enter 81 args) w := enters Tryd.func81 (by kernel_rfl) rfl
theorem en104 : ∀ (args : Array Value) (w : World), (callFunc 104 args).run Tryd.prog w = .ok (.enter 104 args) w := enters Tryd.func104 (by kernel_rfl) rfl
theorem mixed : Tryd.prog.follows .mixedOrders = true := by kernel_rfl
end Go.Proofs.YthncpmablodbjaaDoor
