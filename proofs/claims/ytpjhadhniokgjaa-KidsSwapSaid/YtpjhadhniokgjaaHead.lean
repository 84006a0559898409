/-
  What the program's tables say of the types and functions that the proofs of this seat name: closed facts, by the kernel. (Printed by a program of this repo, wip/gen/header.py.)
-/
import Derived.Test.YtpjhadhniokgjaaProg
import Derived.Test.YtpjhadhniokgjaaBaseE
import Derived.KernelRfl
namespace Go.Proofs.Ytpjhadhniokgjaa
open Go Go.SL Go.Proofs

theorem T1 : Ty1 Try.prog 1 := ty1_of (by kernel_rfl)
theorem Z1 : (Try.prog.info? 1).map (·.size) = some 1 := by kernel_rfl
theorem Zv1 : (Try.prog.info? 1).bind (·.zero) = some .nilFunc := by kernel_rfl
theorem T3 : Ty1 Try.prog 3 := ty1_of (by kernel_rfl)
theorem Z3 : (Try.prog.info? 3).map (·.size) = some 1 := by kernel_rfl
theorem Zv3 : (Try.prog.info? 3).bind (·.zero) = some (.int .i64 (0)) := by kernel_rfl
theorem T4 : Ty1 Try.prog 4 := ty1_of (by kernel_rfl)
theorem Z4 : (Try.prog.info? 4).map (·.size) = some 1 := by kernel_rfl
theorem Zv4 : (Try.prog.info? 4).bind (·.zero) = some (.bool (false)) := by kernel_rfl
theorem T5 : Ty1 Try.prog 5 := ty1_of (by kernel_rfl)
theorem Z5 : (Try.prog.info? 5).map (·.size) = some 1 := by kernel_rfl
theorem Zv5 : (Try.prog.info? 5).bind (·.zero) = some (.int .u8 (0)) := by kernel_rfl
theorem T9 : Ty1 Try.prog 9 := ty1_of (by kernel_rfl)
theorem Z9 : (Try.prog.info? 9).map (·.size) = some 1 := by kernel_rfl
theorem Zv9 : (Try.prog.info? 9).bind (·.zero) = some (strV ([])) := by kernel_rfl
theorem T22 : Ty1 Try.prog 22 := ty1_of (by kernel_rfl)
theorem Z22 : (Try.prog.info? 22).map (·.size) = some 1 := by kernel_rfl
theorem Zv22 : (Try.prog.info? 22).bind (·.zero) = some (.slice none 0 0) := by kernel_rfl
theorem T23 : Ty1 Try.prog 23 := ty1_of (by kernel_rfl)
theorem Z23 : (Try.prog.info? 23).map (·.size) = some 1 := by kernel_rfl
theorem Zv23 : (Try.prog.info? 23).bind (·.zero) = some (.slice none 0 0) := by kernel_rfl
theorem T32 : Ty1 Try.prog 32 := ty1_of (by kernel_rfl)
theorem Z32 : (Try.prog.info? 32).map (·.size) = some 1 := by kernel_rfl
theorem Zv32 : (Try.prog.info? 32).bind (·.zero) = some (.int .u16 (0)) := by kernel_rfl
theorem A33 : TyA Try.prog 33 2 := tyA_of (by kernel_rfl)
theorem Z33 : (Try.prog.info? 33).map (·.size) = some 2 := by kernel_rfl
theorem Zv33 : (Try.prog.info? 33).bind (·.zero) = some (.agg #[(.int .u16 (0)), (.int .u16 (0))]) := by kernel_rfl
theorem T34 : Ty1 Try.prog 34 := ty1_of (by kernel_rfl)
theorem Z34 : (Try.prog.info? 34).map (·.size) = some 1 := by kernel_rfl
theorem Zv34 : (Try.prog.info? 34).bind (·.zero) = some (.int .u32 (0)) := by kernel_rfl
theorem T35 : Ty1 Try.prog 35 := ty1_of (by kernel_rfl)
theorem Z35 : (Try.prog.info? 35).map (·.size) = some 1 := by kernel_rfl
theorem Zv35 : (Try.prog.info? 35).bind (·.zero) = some (.int .u64 (0)) := by kernel_rfl
theorem A37 : TyA Try.prog 37 5 := tyA_of (by kernel_rfl)
theorem Z37 : (Try.prog.info? 37).map (·.size) = some 5 := by kernel_rfl
theorem Zv37 : (Try.prog.info? 37).bind (·.zero) = some (.agg #[(.int .u8 (0)), (.int .u16 (0)), (.int .u16 (0)), (.int .u32 (0)), (.int .u64 (0))]) := by kernel_rfl
theorem Fd37_0 : Fld Try.prog 37 0 0 := fld_of (by kernel_rfl)
theorem Fd37_1 : Fld Try.prog 37 1 1 := fld_of (by kernel_rfl)
theorem Fd37_2 : Fld Try.prog 37 2 3 := fld_of (by kernel_rfl)
theorem Fd37_3 : Fld Try.prog 37 3 4 := fld_of (by kernel_rfl)
theorem A39 : TyA Try.prog 39 6 := tyA_of (by kernel_rfl)
theorem Z39 : (Try.prog.info? 39).map (·.size) = some 6 := by kernel_rfl
theorem Zv39 : (Try.prog.info? 39).bind (·.zero) = some (.agg #[(.slice none 0 0), (.int .u8 (0)), (.int .u16 (0)), (.int .u16 (0)), (.int .u32 (0)), (.int .u64 (0))]) := by kernel_rfl
theorem Fd39_0 : Fld Try.prog 39 0 0 := fld_of (by kernel_rfl)
theorem Fd39_1 : Fld Try.prog 39 1 1 := fld_of (by kernel_rfl)
theorem T50 : Ty1 Try.prog 50 := ty1_of (by kernel_rfl)
theorem Z50 : (Try.prog.info? 50).map (·.size) = some 1 := by kernel_rfl
theorem Zv50 : (Try.prog.info? 50).bind (·.zero) = some .nilFunc := by kernel_rfl
theorem T51 : Ty1 Try.prog 51 := ty1_of (by kernel_rfl)
theorem Z51 : (Try.prog.info? 51).map (·.size) = some 1 := by kernel_rfl
theorem Zv51 : (Try.prog.info? 51).bind (·.zero) = some .nilFunc := by kernel_rfl
theorem T55 : Ty1 Try.prog 55 := ty1_of (by kernel_rfl)
theorem Z55 : (Try.prog.info? 55).map (·.size) = some 1 := by kernel_rfl
theorem Zv55 : (Try.prog.info? 55).bind (·.zero) = some .nilFunc := by kernel_rfl
theorem T56 : Ty1 Try.prog 56 := ty1_of (by kernel_rfl)
theorem Z56 : (Try.prog.info? 56).map (·.size) = some 1 := by kernel_rfl
theorem Zv56 : (Try.prog.info? 56).bind (·.zero) = some .nilFunc := by kernel_rfl
theorem T58 : Ty1 Try.prog 58 := ty1_of (by kernel_rfl)
theorem Z58 : (Try.prog.info? 58).map (·.size) = some 1 := by kernel_rfl
theorem Zv58 : (Try.prog.info? 58).bind (·.zero) = some (.slice none 0 0) := by kernel_rfl
theorem T60 : Ty1 Try.prog 60 := ty1_of (by kernel_rfl)
theorem Z60 : (Try.prog.info? 60).map (·.size) = some 1 := by kernel_rfl
theorem Zv60 : (Try.prog.info? 60).bind (·.zero) = some .nilFunc := by kernel_rfl
theorem T62 : Ty1 Try.prog 62 := ty1_of (by kernel_rfl)
theorem Z62 : (Try.prog.info? 62).map (·.size) = some 1 := by kernel_rfl
theorem Zv62 : (Try.prog.info? 62).bind (·.zero) = some (.slice none 0 0) := by kernel_rfl
theorem T63 : Ty1 Try.prog 63 := ty1_of (by kernel_rfl)
theorem Z63 : (Try.prog.info? 63).map (·.size) = some 1 := by kernel_rfl
theorem Zv63 : (Try.prog.info? 63).bind (·.zero) = some .nilFunc := by kernel_rfl
theorem S22 : TyS Try.prog 22 39 6 48 (.agg #[(.slice none 0 0), (.int .u8 (0)), (.int .u16 (0)), (.int .u16 (0)), (.int .u32 (0)), (.int .u64 (0))]) := tyS_of Try.underlying22 (by kernel_rfl) rfl
theorem S23 : TyS Try.prog 23 5 1 1 (.int .u8 (0)) := tyS_of Try.underlying23 (by kernel_rfl) rfl
theorem S58 : TyS Try.prog 58 9 1 16 (strV ([])) := tyS_of Try.underlying58 (by kernel_rfl) rfl
theorem S62 : TyS Try.prog 62 22 1 24 (.slice none 0 0) := tyS_of Try.underlying62 (by kernel_rfl) rfl
theorem en2 : ∀ (args : Array Value) (w : World), (callFunc 2 args).run Try.prog w = .ok (.enter 2 args) w := enters Try.func2 (by kernel_rfl) rfl
theorem en3 : ∀ (args : Array Value) (w : World), (callFunc 3 args).run Try.prog w = .ok (.enter 3 args) w := enters Try.func3 (by kernel_rfl) rfl
theorem en4 : ∀ (args : Array Value) (w : World), (callFunc 4 args).run Try.prog w = .ok (.enter 4 args) w := enters Try.func4 (by kernel_rfl) rfl
theorem en5 : ∀ (args : Array Value) (w : World), (callFunc 5 args).run Try.prog w = .ok (.enter 5 args) w := enters Try.func5 (by kernel_rfl) rfl
theorem en6 : ∀ (args : Array Value) (w : World), (callFunc 6 args).run Try.prog w = .ok (.enter 6 args) w := enters Try.func6 (by kernel_rfl) rfl
theorem en7 : ∀ (args : Array Value) (w : World), (callFunc 7 args).run Try.prog w = .ok (.enter 7 args) w := enters Try.func7 (by kernel_rfl) rfl
theorem en8 : ∀ (args : Array Value) (w : World), (callFunc 8 args).run Try.prog w = .ok (.enter 8 args) w := enters Try.func8 (by kernel_rfl) rfl
theorem en9 : ∀ (args : Array Value) (w : World), (callFunc 9 args).run Try.prog w = .ok (.enter 9 args) w := enters Try.func9 (by kernel_rfl) rfl
theorem en10 : ∀ (args : Array Value) (w : World), (callFunc 10 args).run Try.prog w = .ok (.enter 10 args) w := enters Try.func10 (by kernel_rfl) rfl
theorem en11 : ∀ (args : Array Value) (w : World), (callFunc 11 args).run Try.prog w = .ok (.enter 11 args) w := enters Try.func11 (by kernel_rfl) rfl
theorem en12 : ∀ (args : Array Value) (w : World), (callFunc 12 args).run Try.prog w = .ok (.enter 12 args) w := enters Try.func12 (by kernel_rfl) rfl
theorem en13 : ∀ (args : Array Value) (w : World), (callFunc 13 args).run Try.prog w = .ok (.enter 13 args) w := enters Try.func13 (by kernel_rfl) rfl
theorem en14 : ∀ (args : Array Value) (w : World), (callFunc 14 args).run Try.prog w = .ok (.enter 14 args) w := enters Try.func14 (by kernel_rfl) rfl
theorem en15 : ∀ (args : Array Value) (w : World), (callFunc 15 args).run Try.prog w = .ok (.enter 15 args) w := enters Try.func15 (by kernel_rfl) rfl
theorem en16 : ∀ (args : Array Value) (w : World), (callFunc 16 args).run Try.prog w = .ok (.enter 16 args) w := enters Try.func16 (by kernel_rfl) rfl
theorem en17 : ∀ (args : Array Value) (w : World), (callFunc 17 args).run Try.prog w = .ok (.enter 17 args) w := enters Try.func17 (by kernel_rfl) rfl
theorem en18 : ∀ (args : Array Value) (w : World), (callFunc 18 args).run Try.prog w = .ok (.enter 18 args) w := enters Try.func18 (by kernel_rfl) rfl
theorem en19 : ∀ (args : Array Value) (w : World), (callFunc 19 args).run Try.prog w = .ok (.enter 19 args) w := enters Try.func19 (by kernel_rfl) rfl
theorem en20 : ∀ (args : Array Value) (w : World), (callFunc 20 args).run Try.prog w = .ok (.enter 20 args) w := enters Try.func20 (by kernel_rfl) rfl
theorem en21 : ∀ (args : Array Value) (w : World), (callFunc 21 args).run Try.prog w = .ok (.enter 21 args) w := enters Try.func21 (by kernel_rfl) rfl
theorem en22 : ∀ (args : Array Value) (w : World), (callFunc 22 args).run Try.prog w = .ok (.enter 22 args) w := enters Try.func22 (by kernel_rfl) rfl
theorem en23 : ∀ (args : Array Value) (w : World), (callFunc 23 args).run Try.prog w = .ok (.enter 23 args) w := enters Try.func23 (by kernel_rfl) rfl
theorem en24 : ∀ (args : Array Value) (w : World), (callFunc 24 args).run Try.prog w = .ok (.enter 24 args) w := enters Try.func24 (by kernel_rfl) rfl
theorem en25 : ∀ (args : Array Value) (w : World), (callFunc 25 args).run Try.prog w = .ok (.enter 25 args) w := enters Try.func25 (by kernel_rfl) rfl
theorem en26 : ∀ (args : Array Value) (w : World), (callFunc 26 args).run Try.prog w = .ok (.enter 26 args) w := enters Try.func26 (by kernel_rfl) rfl
theorem en28 : ∀ (args : Array Value) (w : World), (callFunc 28 args).run Try.prog w = .ok (.enter 28 args) w := enters Try.func28 (by kernel_rfl) rfl
theorem en29 : ∀ (args : Array Value) (w : World), (callFunc 29 args).run Try.prog w = .ok (.enter 29 args) w := enters Try.func29 (by kernel_rfl) rfl
theorem mixed : Try.prog.follows .mixedOrders = true := by kernel_rfl
end Go.Proofs.Ytpjhadhniokgjaa
