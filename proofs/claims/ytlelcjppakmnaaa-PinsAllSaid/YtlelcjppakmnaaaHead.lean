/-
  What the program's tables say of the types and functions that the proofs of this seat name: closed facts, by the kernel. (Printed by a program of this repo, wip/gen/header.py.)
-/
import Derived.Test.YtlelcjppakmnaaaProg
import Derived.Test.YtlelcjppakmnaaaBaseE
import Derived.KernelRfl
namespace Go.Proofs.Ytlelcjppakmnaaa
open Go Go.SL Go.Proofs

theorem T1 : Ty1 Try.prog 1 := ty1_of (by kernel_rfl)
theorem Z1 : (Try.prog.info? 1).map (·.size) = some 1 := by kernel_rfl
theorem Zv1 : (Try.prog.info? 1).bind (·.zero) = some .nilFunc := by kernel_rfl
theorem T3 : Ty1 Try.prog 3 := ty1_of (by kernel_rfl)
theorem Z3 : (Try.prog.info? 3).map (·.size) = some 1 := by kernel_rfl
theorem Zv3 : (Try.prog.info? 3).bind (·.zero) = some (.int .i64 (0)) := by kernel_rfl
theorem T4 : Ty1 Try.prog 4 := ty1_of (by kernel_rfl)
theorem Z4 : (Try.prog.info? 4).map (·.size) = some 1 := by kernel_rfl
theorem Zv4 : (Try.prog.info? 4).bind (·.zero) = some (.bool (false)) := by kernel_rfl
theorem T5 : Ty1 Try.prog 5 := ty1_of (by kernel_rfl)
theorem Z5 : (Try.prog.info? 5).map (·.size) = some 1 := by kernel_rfl
theorem Zv5 : (Try.prog.info? 5).bind (·.zero) = some (.int .u8 (0)) := by kernel_rfl
theorem T9 : Ty1 Try.prog 9 := ty1_of (by kernel_rfl)
theorem Z9 : (Try.prog.info? 9).map (·.size) = some 1 := by kernel_rfl
theorem Zv9 : (Try.prog.info? 9).bind (·.zero) = some (strV ([])) := by kernel_rfl
theorem A22 : TyA Try.prog 22 8 := tyA_of (by kernel_rfl)
theorem Z22 : (Try.prog.info? 22).map (·.size) = some 8 := by kernel_rfl
theorem Zv22 : (Try.prog.info? 22).bind (·.zero) = some (.agg #[(.bool (false)), (.bool (false)), (.bool (false)), (.bool (false)), (.bool (false)), (.bool (false)), (.bool (false)), (.bool (false))]) := by kernel_rfl
theorem T23 : Ty1 Try.prog 23 := ty1_of (by kernel_rfl)
theorem Z23 : (Try.prog.info? 23).map (·.size) = some 1 := by kernel_rfl
theorem Zv23 : (Try.prog.info? 23).bind (·.zero) = some (.int .u32 (0)) := by kernel_rfl
theorem A24 : TyA Try.prog 24 8 := tyA_of (by kernel_rfl)
theorem Z24 : (Try.prog.info? 24).map (·.size) = some 8 := by kernel_rfl
theorem Zv24 : (Try.prog.info? 24).bind (·.zero) = some (.agg #[(.int .u32 (0)), (.int .u32 (0)), (.int .u32 (0)), (.int .u32 (0)), (.int .u32 (0)), (.int .u32 (0)), (.int .u32 (0)), (.int .u32 (0))]) := by kernel_rfl
theorem A26 : TyA Try.prog 26 16 := tyA_of (by kernel_rfl)
theorem Z26 : (Try.prog.info? 26).map (·.size) = some 16 := by kernel_rfl
theorem Zv26 : (Try.prog.info? 26).bind (·.zero) = some (.agg #[(.bool (false)), (.bool (false)), (.bool (false)), (.bool (false)), (.bool (false)), (.bool (false)), (.bool (false)), (.bool (false)), (.int .u32 (0)), (.int .u32 (0)), (.int .u32 (0)), (.int .u32 (0)), (.int .u32 (0)), (.int .u32 (0)), (.int .u32 (0)), (.int .u32 (0))]) := by kernel_rfl
theorem Fd26_0 : Fld Try.prog 26 0 0 := fld_of (by kernel_rfl)
theorem Fd26_1 : Fld Try.prog 26 1 8 := fld_of (by kernel_rfl)
theorem T27 : Ty1 Try.prog 27 := ty1_of (by kernel_rfl)
theorem Z27 : (Try.prog.info? 27).map (·.size) = some 1 := by kernel_rfl
theorem Zv27 : (Try.prog.info? 27).bind (·.zero) = some (.slice none 0 0) := by kernel_rfl
theorem T34 : Ty1 Try.prog 34 := ty1_of (by kernel_rfl)
theorem Z34 : (Try.prog.info? 34).map (·.size) = some 1 := by kernel_rfl
theorem Zv34 : (Try.prog.info? 34).bind (·.zero) = some (.int .i64 (0)) := by kernel_rfl
theorem T44 : Ty1 Try.prog 44 := ty1_of (by kernel_rfl)
theorem Z44 : (Try.prog.info? 44).map (·.size) = some 1 := by kernel_rfl
theorem Zv44 : (Try.prog.info? 44).bind (·.zero) = some .nilFunc := by kernel_rfl
theorem T45 : Ty1 Try.prog 45 := ty1_of (by kernel_rfl)
theorem Z45 : (Try.prog.info? 45).map (·.size) = some 1 := by kernel_rfl
theorem Zv45 : (Try.prog.info? 45).bind (·.zero) = some .nilFunc := by kernel_rfl
theorem T46 : Ty1 Try.prog 46 := ty1_of (by kernel_rfl)
theorem Z46 : (Try.prog.info? 46).map (·.size) = some 1 := by kernel_rfl
theorem Zv46 : (Try.prog.info? 46).bind (·.zero) = some (.slice none 0 0) := by kernel_rfl
theorem A48 : TyA Try.prog 48 2 := tyA_of (by kernel_rfl)
theorem Z48 : (Try.prog.info? 48).map (·.size) = some 2 := by kernel_rfl
theorem Zv48 : (Try.prog.info? 48).bind (·.zero) = some (.agg #[(.slice none 0 0), (.slice none 0 0)]) := by kernel_rfl
theorem Fd48_0 : Fld Try.prog 48 0 0 := fld_of (by kernel_rfl)
theorem Fd48_1 : Fld Try.prog 48 1 1 := fld_of (by kernel_rfl)
theorem T50 : Ty1 Try.prog 50 := ty1_of (by kernel_rfl)
theorem Z50 : (Try.prog.info? 50).map (·.size) = some 1 := by kernel_rfl
theorem Zv50 : (Try.prog.info? 50).bind (·.zero) = some (.pointer none) := by kernel_rfl
theorem T55 : Ty1 Try.prog 55 := ty1_of (by kernel_rfl)
theorem Z55 : (Try.prog.info? 55).map (·.size) = some 1 := by kernel_rfl
theorem Zv55 : (Try.prog.info? 55).bind (·.zero) = some .nilFunc := by kernel_rfl
theorem T59 : Ty1 Try.prog 59 := ty1_of (by kernel_rfl)
theorem Z59 : (Try.prog.info? 59).map (·.size) = some 1 := by kernel_rfl
theorem Zv59 : (Try.prog.info? 59).bind (·.zero) = some (.int .u64 (0)) := by kernel_rfl
theorem T61 : Ty1 Try.prog 61 := ty1_of (by kernel_rfl)
theorem Z61 : (Try.prog.info? 61).map (·.size) = some 1 := by kernel_rfl
theorem Zv61 : (Try.prog.info? 61).bind (·.zero) = some (.int .i64 (0)) := by kernel_rfl
theorem T70 : Ty1 Try.prog 70 := ty1_of (by kernel_rfl)
theorem Z70 : (Try.prog.info? 70).map (·.size) = some 1 := by kernel_rfl
theorem Zv70 : (Try.prog.info? 70).bind (·.zero) = some (.int .u64 (0)) := by kernel_rfl
theorem T71 : Ty1 Try.prog 71 := ty1_of (by kernel_rfl)
theorem Z71 : (Try.prog.info? 71).map (·.size) = some 1 := by kernel_rfl
theorem Zv71 : (Try.prog.info? 71).bind (·.zero) = some (.int .u64 (0)) := by kernel_rfl
theorem T75 : Ty1 Try.prog 75 := ty1_of (by kernel_rfl)
theorem Z75 : (Try.prog.info? 75).map (·.size) = some 1 := by kernel_rfl
theorem Zv75 : (Try.prog.info? 75).bind (·.zero) = some (.pointer none) := by kernel_rfl
theorem T77 : Ty1 Try.prog 77 := ty1_of (by kernel_rfl)
theorem Z77 : (Try.prog.info? 77).map (·.size) = some 1 := by kernel_rfl
theorem Zv77 : (Try.prog.info? 77).bind (·.zero) = some (.pointer none) := by kernel_rfl
theorem S27 : TyS Try.prog 27 23 1 4 (.int .u32 (0)) := tyS_of Try.underlying27 (by kernel_rfl) rfl
theorem S46 : TyS Try.prog 46 4 1 1 (.bool (false)) := tyS_of Try.underlying46 (by kernel_rfl) rfl
theorem en2 : ∀ (args : Array Value) (w : World), (callFunc 2 args).run Try.prog w = .ok (.enter 2 args) w := enters Try.func2 (by kernel_rfl) rfl
theorem en3 : ∀ (args : Array Value) (w : World), (callFunc 3 args).run Try.prog w = .ok (.enter 3 args) w := enters Try.func3 (by kernel_rfl) rfl
theorem en4 : ∀ (args : Array Value) (w : World), (callFunc 4 args).run Try.prog w = .ok (.enter 4 args) w := enters Try.func4 (by kernel_rfl) rfl
theorem en5 : ∀ (args : Array Value) (w : World), (callFunc 5 args).run Try.prog w = .ok (.enter 5 args) w := enters Try.func5 (by kernel_rfl) rfl
theorem en6 : ∀ (args : Array Value) (w : World), (callFunc 6 args).run Try.prog w = .ok (.enter 6 args) w := enters Try.func6 (by kernel_rfl) rfl
theorem en7 : ∀ (args : Array Value) (w : World), (callFunc 7 args).run Try.prog w = .ok (.enter 7 args) w := enters Try.func7 (by kernel_rfl) rfl
theorem en8 : ∀ (args : Array Value) (w : World), (callFunc 8 args).run Try.prog w = .ok (.enter 8 args) w := enters Try.func8 (by kernel_rfl) rfl
theorem en9 : ∀ (args : Array Value) (w : World), (callFunc 9 args).run Try.prog w = .ok (.enter 9 args) w := enters Try.func9 (by kernel_rfl) rfl
theorem en10 : ∀ (args : Array Value) (w : World), (callFunc 10 args).run Try.prog w = .ok (.enter 10 args) w := enters Try.func10 (by kernel_rfl) rfl
theorem en11 : ∀ (args : Array Value) (w : World), (callFunc 11 args).run Try.prog w = .ok (.enter 11 args) w := enters Try.func11 (by kernel_rfl) rfl
theorem en12 : ∀ (args : Array Value) (w : World), (callFunc 12 args).run Try.prog w = .ok (.enter 12 args) w := enters Try.func12 (by kernel_rfl) rfl
theorem en13 : ∀ (args : Array Value) (w : World), (callFunc 13 args).run Try.prog w = .ok (.enter 13 args) w := enters Try.func13 (by kernel_rfl) rfl
theorem en14 : ∀ (args : Array Value) (w : World), (callFunc 14 args).run Try.prog w = .ok (.enter 14 args) w := enters Try.func14 (by kernel_rfl) rfl
theorem en15 : ∀ (args : Array Value) (w : World), (callFunc 15 args).run Try.prog w = .ok (.enter 15 args) w := enters Try.func15 (by kernel_rfl) rfl
theorem en16 : ∀ (args : Array Value) (w : World), (callFunc 16 args).run Try.prog w = .ok (.enter 16 args) w := enters Try.func16 (by kernel_rfl) rfl
theorem en17 : ∀ (args : Array Value) (w : World), (callFunc 17 args).run Try.prog w = .ok (.enter 17 args) w := enters Try.func17 (by kernel_rfl) rfl
theorem en18 : ∀ (args : Array Value) (w : World), (callFunc 18 args).run Try.prog w = .ok (.enter 18 args) w := enters Try.func18 (by kernel_rfl) rfl
theorem en19 : ∀ (args : Array Value) (w : World), (callFunc 19 args).run Try.prog w = .ok (.enter 19 args) w := enters Try.func19 (by kernel_rfl) rfl
theorem en20 : ∀ (args : Array Value) (w : World), (callFunc 20 args).run Try.prog w = .ok (.enter 20 args) w := enters Try.func20 (by kernel_rfl) rfl
theorem en21 : ∀ (args : Array Value) (w : World), (callFunc 21 args).run Try.prog w = .ok (.enter 21 args) w := enters Try.func21 (by kernel_rfl) rfl
theorem en22 : ∀ (args : Array Value) (w : World), (callFunc 22 args).run Try.prog w = .ok (.enter 22 args) w := enters Try.func22 (by kernel_rfl) rfl
theorem en23 : ∀ (args : Array Value) (w : World), (callFunc 23 args).run Try.prog w = .ok (.enter 23 args) w := enters Try.func23 (by kernel_rfl) rfl
theorem en24 : ∀ (args : Array Value) (w : World), (callFunc 24 args).run Try.prog w = .ok (.enter 24 args) w := enters Try.func24 (by kernel_rfl) rfl
theorem en25 : ∀ (args : Array Value) (w : World), (callFunc 25 args).run Try.prog w = .ok (.enter 25 args) w := enters Try.func25 (by kernel_rfl) rfl
theorem en26 : ∀ (args : Array Value) (w : World), (callFunc 26 args).run Try.prog w = .ok (.enter 26 args) w := enters Try.func26 (by kernel_rfl) rfl
theorem en27 : ∀ (args : Array Value) (w : World), (callFunc 27 args).run Try.prog w = .ok (.enter 27 args) w := enters Try.func27 (by kernel_rfl) rfl
theorem en28 : ∀ (args : Array Value) (w : World), (callFunc 28 args).run Try.prog w = .ok (.enter 28 args) w := enters Try.func28 (by kernel_rfl) rfl
theorem en29 : ∀ (args : Array Value) (w : World), (callFunc 29 args).run Try.prog w = .ok (.enter 29 args) w := enters Try.func29 (by kernel_rfl) rfl
theorem en30 : ∀ (args : Array Value) (w : World), (callFunc 30 args).run Try.prog w = .ok (.enter 30 args) w := enters Try.func30 (by kernel_rfl) rfl
theorem en31 : ∀ (args : Array Value) (w : World), (callFunc 31 args).run Try.prog w = .ok (.enter 31 args) w := enters Try.func31 (by kernel_rfl) rfl
theorem en32 : ∀ (args : Array Value) (w : World), (callFunc 32 args).run Try.prog w = .ok (.enter 32 args) w := enters Try.func32 (by kernel_rfl) rfl
theorem en33 : ∀ (args : Array Value) (w : World), (callFunc 33 args).run Try.prog w = .ok (.enter 33 args) w := enters Try.func33 (by kernel_rfl) rfl
theorem en34 : ∀ (args : Array Value) (w : World), (callFunc 34 args).run Try.prog w = .ok (.enter 34 args) w := enters Try.func34 (by kernel_rfl) rfl
theorem en35 : ∀ (args : Array Value) (w : World), (callFunc 35 args).run Try.prog w = .ok (.enter 35 args) w := enters Try.func35 (by kernel_rfl) rfl
theorem en36 : ∀ (args : Array Value) (w : World), (callFunc 36 args).run Try.prog w = .ok (.enter 36 args) w := enters Try.func36 (by kernel_rfl) rfl
theorem en37 : ∀ (args : Array Value) (w : World), (callFunc 37 args).run Try.prog w = .ok (.enter 37 args) w := enters Try.func37 (by kernel_rfl) rfl
theorem en38 : ∀ (args : Array Value) (w : World), (callFunc 38 args).run Try.prog w = .ok (.enter 38 args) w := enters Try.func38 (by kernel_rfl) rfl
theorem en39 : ∀ (args : Array Value) (w : World), (callFunc 39 args).run Try.prog w = .ok (.enter 39 args) w := enters Try.func39 (by kernel_rfl) rfl
theorem en40 : ∀ (args : Array Value) (w : World), (callFunc 40 args).run Try.prog w = .ok (.enter 40 args) w := enters Try.func40 (by kernel_rfl) rfl
theorem en41 : ∀ (args : Array Value) (w : World), (callFunc 41 args).run Try.prog w = .ok (.enter 41 args) w := enters Try.func41 (by kernel_rfl) rfl
theorem mixed : Try.prog.follows .mixedOrders = true := by kernel_rfl
end Go.Proofs.Ytlelcjppakmnaaa
