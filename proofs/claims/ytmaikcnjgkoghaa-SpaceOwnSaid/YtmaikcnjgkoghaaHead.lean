/-
  What the program's tables say of the types and functions that the proofs of this seat name: closed facts, by the kernel. (Printed by a program of this repo, wip/gen/header.py.)
-/
import Derived.Test.YtmaikcnjgkoghaaProg
import Derived.Test.YtmaikcnjgkoghaaBaseE
import Derived.KernelRfl
namespace Go.Proofs.Ytmaikcnjgkoghaa
open Go Go.SL Go.Proofs

theorem T1 : Ty1 Try.prog 1 := ty1_of (by kernel_rfl)
theorem Z1 : (Try.prog.info? 1).map (·.size) = some 1 := by kernel_rfl
theorem Zv1 : (Try.prog.info? 1).bind (·.zero) = some .nilFunc := by kernel_rfl
theorem T3 : Ty1 Try.prog 3 := ty1_of (by kernel_rfl)
theorem Z3 : (Try.prog.info? 3).map (·.size) = some 1 := by kernel_rfl
theorem Zv3 : (Try.prog.info? 3).bind (·.zero) = some (.int .i64 (0)) := by kernel_rfl
theorem T4 : Ty1 Try.prog 4 := ty1_of (by kernel_rfl)
theorem Z4 : (Try.prog.info? 4).map (·.size) = some 1 := by kernel_rfl
theorem Zv4 : (Try.prog.info? 4).bind (·.zero) = some (.bool (false)) := by kernel_rfl
theorem T22 : Ty1 Try.prog 22 := ty1_of (by kernel_rfl)
theorem Z22 : (Try.prog.info? 22).map (·.size) = some 1 := by kernel_rfl
theorem Zv22 : (Try.prog.info? 22).bind (·.zero) = some (.slice none 0 0) := by kernel_rfl
theorem T23 : Ty1 Try.prog 23 := ty1_of (by kernel_rfl)
theorem Z23 : (Try.prog.info? 23).map (·.size) = some 1 := by kernel_rfl
theorem Zv23 : (Try.prog.info? 23).bind (·.zero) = some (.slice none 0 0) := by kernel_rfl
theorem A25 : TyA Try.prog 25 3 := tyA_of (by kernel_rfl)
theorem Z25 : (Try.prog.info? 25).map (·.size) = some 3 := by kernel_rfl
theorem Zv25 : (Try.prog.info? 25).bind (·.zero) = some (.agg #[(.int .i64 (0)), (.slice none 0 0), (.slice none 0 0)]) := by kernel_rfl
theorem Fd25_0 : Fld Try.prog 25 0 0 := fld_of (by kernel_rfl)
theorem Fd25_1 : Fld Try.prog 25 1 1 := fld_of (by kernel_rfl)
theorem Fd25_2 : Fld Try.prog 25 2 2 := fld_of (by kernel_rfl)
theorem T26 : Ty1 Try.prog 26 := ty1_of (by kernel_rfl)
theorem Z26 : (Try.prog.info? 26).map (·.size) = some 1 := by kernel_rfl
theorem Zv26 : (Try.prog.info? 26).bind (·.zero) = some (.int .u32 (0)) := by kernel_rfl
theorem T29 : Ty1 Try.prog 29 := ty1_of (by kernel_rfl)
theorem Z29 : (Try.prog.info? 29).map (·.size) = some 1 := by kernel_rfl
theorem Zv29 : (Try.prog.info? 29).bind (·.zero) = some (.int .i64 (0)) := by kernel_rfl
theorem T37 : Ty1 Try.prog 37 := ty1_of (by kernel_rfl)
theorem Z37 : (Try.prog.info? 37).map (·.size) = some 1 := by kernel_rfl
theorem Zv37 : (Try.prog.info? 37).bind (·.zero) = some (.slice none 0 0) := by kernel_rfl
theorem A38 : TyA Try.prog 38 256 := tyA_of (by kernel_rfl)
theorem Z38 : (Try.prog.info? 38).map (·.size) = some 256 := by kernel_rfl
def zc38 : List Value := List.replicate 256 (.bool (false))
def zv38 : Value := .agg zc38.toArray
theorem Zv38 : (Try.prog.info? 38).bind (·.zero) = some zv38 := by kernel_rfl
theorem T42 : Ty1 Try.prog 42 := ty1_of (by kernel_rfl)
theorem Z42 : (Try.prog.info? 42).map (·.size) = some 1 := by kernel_rfl
theorem Zv42 : (Try.prog.info? 42).bind (·.zero) = some (.slice none 0 0) := by kernel_rfl
theorem A44 : TyA Try.prog 44 2 := tyA_of (by kernel_rfl)
theorem Z44 : (Try.prog.info? 44).map (·.size) = some 2 := by kernel_rfl
theorem Zv44 : (Try.prog.info? 44).bind (·.zero) = some (.agg #[(.int .i64 (0)), (.int .u32 (0))]) := by kernel_rfl
theorem Fd44_0 : Fld Try.prog 44 0 0 := fld_of (by kernel_rfl)
theorem Fd44_1 : Fld Try.prog 44 1 1 := fld_of (by kernel_rfl)
theorem T52 : Ty1 Try.prog 52 := ty1_of (by kernel_rfl)
theorem Z52 : (Try.prog.info? 52).map (·.size) = some 1 := by kernel_rfl
theorem Zv52 : (Try.prog.info? 52).bind (·.zero) = some (.slice none 0 0) := by kernel_rfl
theorem T53 : Ty1 Try.prog 53 := ty1_of (by kernel_rfl)
theorem Z53 : (Try.prog.info? 53).map (·.size) = some 1 := by kernel_rfl
theorem Zv53 : (Try.prog.info? 53).bind (·.zero) = some .nilFunc := by kernel_rfl
theorem T54 : Ty1 Try.prog 54 := ty1_of (by kernel_rfl)
theorem Z54 : (Try.prog.info? 54).map (·.size) = some 1 := by kernel_rfl
theorem Zv54 : (Try.prog.info? 54).bind (·.zero) = some .nilFunc := by kernel_rfl
theorem T57 : Ty1 Try.prog 57 := ty1_of (by kernel_rfl)
theorem Z57 : (Try.prog.info? 57).map (·.size) = some 1 := by kernel_rfl
theorem Zv57 : (Try.prog.info? 57).bind (·.zero) = some .nilFunc := by kernel_rfl
theorem T59 : Ty1 Try.prog 59 := ty1_of (by kernel_rfl)
theorem Z59 : (Try.prog.info? 59).map (·.size) = some 1 := by kernel_rfl
theorem Zv59 : (Try.prog.info? 59).bind (·.zero) = some .nilFunc := by kernel_rfl
theorem T63 : Ty1 Try.prog 63 := ty1_of (by kernel_rfl)
theorem Z63 : (Try.prog.info? 63).map (·.size) = some 1 := by kernel_rfl
theorem Zv63 : (Try.prog.info? 63).bind (·.zero) = some .nilFunc := by kernel_rfl
theorem T66 : Ty1 Try.prog 66 := ty1_of (by kernel_rfl)
theorem Z66 : (Try.prog.info? 66).map (·.size) = some 1 := by kernel_rfl
theorem Zv66 : (Try.prog.info? 66).bind (·.zero) = some (.int .u64 (0)) := by kernel_rfl
theorem T68 : Ty1 Try.prog 68 := ty1_of (by kernel_rfl)
theorem Z68 : (Try.prog.info? 68).map (·.size) = some 1 := by kernel_rfl
theorem Zv68 : (Try.prog.info? 68).bind (·.zero) = some .nilFunc := by kernel_rfl
theorem T70 : Ty1 Try.prog 70 := ty1_of (by kernel_rfl)
theorem Z70 : (Try.prog.info? 70).map (·.size) = some 1 := by kernel_rfl
theorem Zv70 : (Try.prog.info? 70).bind (·.zero) = some (.int .u64 (0)) := by kernel_rfl
theorem S22 : TyS Try.prog 22 4 1 1 (.bool (false)) := tyS_of Try.underlying22 (by kernel_rfl) rfl
theorem S23 : TyS Try.prog 23 44 2 16 (.agg #[(.int .i64 (0)), (.int .u32 (0))]) := tyS_of Try.underlying23 (by kernel_rfl) rfl
theorem S37 : TyS Try.prog 37 3 1 8 (.int .i64 (0)) := tyS_of Try.underlying37 (by kernel_rfl) rfl
theorem S42 : TyS Try.prog 42 25 3 56 (.agg #[(.int .i64 (0)), (.slice none 0 0), (.slice none 0 0)]) := tyS_of Try.underlying42 (by kernel_rfl) rfl
theorem S52 : TyS Try.prog 52 26 1 4 (.int .u32 (0)) := tyS_of Try.underlying52 (by kernel_rfl) rfl
theorem en2 : ∀ (args : Array Value) (w : World), (callFunc 2 args).run Try.prog w = .ok (.enter 2 args) w := enters Try.func2 (by kernel_rfl) rfl
theorem en3 : ∀ (args : Array Value) (w : World), (callFunc 3 args).run Try.prog w = .ok (.enter 3 args) w := enters Try.func3 (by kernel_rfl) rfl
theorem en4 : ∀ (args : Array Value) (w : World), (callFunc 4 args).run Try.prog w = .ok (.enter 4 args) w := enters Try.func4 (by kernel_rfl) rfl
theorem en5 : ∀ (args : Array Value) (w : World), (callFunc 5 args).run Try.prog w = .ok (.enter 5 args) w := enters Try.func5 (by kernel_rfl) rfl
theorem en6 : ∀ (args : Array Value) (w : World), (callFunc 6 args).run Try.prog w = .ok (.enter 6 args) w := enters Try.func6 (by kernel_rfl) rfl
theorem en7 : ∀ (args : Array Value) (w : World), (callFunc 7 args).run Try.prog w = .ok (.enter 7 args) w := enters Try.func7 (by kernel_rfl) rfl
theorem en8 : ∀ (args : Array Value) (w : World), (callFunc 8 args).run Try.prog w = .ok (.enter 8 args) w := enters Try.func8 (by kernel_rfl) rfl
theorem en9 : ∀ (args : Array Value) (w : World), (callFunc 9 args).run Try.prog w = .ok (.enter 9 args) w := enters Try.func9 (by kernel_rfl) rfl
theorem en10 : ∀ (args : Array Value) (w : World), (callFunc 10 args).run Try.prog w = .ok (.enter 10 args) w := enters Try.func10 (by kernel_rfl) rfl
theorem en11 : ∀ (args : Array Value) (w : World), (callFunc 11 args).run Try.prog w = .ok (.enter 11 args) w := enters Try.func11 (by kernel_rfl) rfl
theorem en12 : ∀ (args : Array Value) (w : World), (callFunc 12 args).run Try.prog w = .ok (.enter 12 args) w := enters Try.func12 (by kernel_rfl) rfl
theorem en13 : ∀ (args : Array Value) (w : World), (callFunc 13 args).run Try.prog w = .ok (.enter 13 args) w := enters Try.func13 (by kernel_rfl) rfl
theorem en14 : ∀ (args : Array Value) (w : World), (callFunc 14 args).run Try.prog w = .ok (.enter 14 args) w := enters Try.func14 (by kernel_rfl) rfl
theorem en15 : ∀ (args : Array Value) (w : World), (callFunc 15 args).run Try.prog w = .ok (.enter 15 args) w := enters Try.func15 (by kernel_rfl) rfl
theorem en16 : ∀ (args : Array Value) (w : World), (callFunc 16 args).run Try.prog w = .ok (.enter 16 args) w := enters Try.func16 (by kernel_rfl) rfl
theorem en17 : ∀ (args : Array Value) (w : World), (callFunc 17 args).run Try.prog w = .ok (.enter 17 args) w := enters Try.func17 (by kernel_rfl) rfl
theorem en18 : ∀ (args : Array Value) (w : World), (callFunc 18 args).run Try.prog w = .ok (.enter 18 args) w := enters Try.func18 (by kernel_rfl) rfl
theorem en19 : ∀ (args : Array Value) (w : World), (callFunc 19 args).run Try.prog w = .ok (.enter 19 args) w := enters Try.func19 (by kernel_rfl) rfl
theorem en20 : ∀ (args : Array Value) (w : World), (callFunc 20 args).run Try.prog w = .ok (.enter 20 args) w := enters Try.func20 (by kernel_rfl) rfl
theorem en21 : ∀ (args : Array Value) (w : World), (callFunc 21 args).run Try.prog w = .ok (.enter 21 args) w := enters Try.func21 (by kernel_rfl) rfl
theorem en22 : ∀ (args : Array Value) (w : World), (callFunc 22 args).run Try.prog w = .ok (.enter 22 args) w := enters Try.func22 (by kernel_rfl) rfl
theorem en23 : ∀ (args : Array Value) (w : World), (callFunc 23 args).run Try.prog w = .ok (.enter 23 args) w := enters Try.func23 (by kernel_rfl) rfl
theorem en24 : ∀ (args : Array Value) (w : World), (callFunc 24 args).run Try.prog w = .ok (.enter 24 args) w := enters Try.func24 (by kernel_rfl) rfl
theorem en25 : ∀ (args : Array Value) (w : World), (callFunc 25 args).run Try.prog w = .ok (.enter 25 args) w := enters Try.func25 (by kernel_rfl) rfl
theorem en26 : ∀ (args : Array Value) (w : World), (callFunc 26 args).run Try.prog w = .ok (.enter 26 args) w := enters Try.func26 (by kernel_rfl) rfl
theorem en28 : ∀ (args : Array Value) (w : World), (callFunc 28 args).run Try.prog w = .ok (.enter 28 args) w := enters Try.func28 (by kernel_rfl) rfl
theorem en29 : ∀ (args : Array Value) (w : World), (callFunc 29 args).run Try.prog w = .ok (.enter 29 args) w := enters Try.func29 (by kernel_rfl) rfl
theorem en30 : ∀ (args : Array Value) (w : World), (callFunc 30 args).run Try.prog w = .ok (.enter 30 args) w := enters Try.func30 (by kernel_rfl) rfl
theorem en31 : ∀ (args : Array Value) (w : World), (callFunc 31 args).run Try.prog w = .ok (.enter 31 args) w := enters Try.func31 (by kernel_rfl) rfl
theorem en32 : ∀ (args : Array Value) (w : World), (callFunc 32 args).run Try.prog w = .ok (.enter 32 args) w := enters Try.func32 (by kernel_rfl) rfl
theorem en33 : ∀ (args : Array Value) (w : World), (callFunc 33 args).run Try.prog w = .ok (.enter 33 args) w := enters Try.func33 (by kernel_rfl) rfl
theorem en34 : ∀ (args : Array Value) (w : World), (callFunc 34 args).run Try.prog w = .ok (.enter 34 args) w := enters Try.func34 (by kernel_rfl) rfl
theorem en35 : ∀ (args : Array Value) (w : World), (callFunc 35 args).run Try.prog w = .ok (.enter 35 args) w := enters Try.func35 (by kernel_rfl) rfl
theorem en36 : ∀ (args : Array Value) (w : World), (callFunc 36 args).run Try.prog w = .ok (.enter 36 args) w := enters Try.func36 (by kernel_rfl) rfl
theorem en37 : ∀ (args : Array Value) (w : World), (callFunc 37 args).run Try.prog w = .ok (.enter 37 args) w := enters Try.func37 (by kernel_rfl) rfl
theorem en38 : ∀ (args : Array Value) (w : World), (callFunc 38 args).run Try.prog w = .ok (.enter 38 args) w := enters Try.func38 (by kernel_rfl) rfl
theorem mixed : Try.prog.follows .mixedOrders = true := by kernel_rfl
end Go.Proofs.Ytmaikcnjgkoghaa
