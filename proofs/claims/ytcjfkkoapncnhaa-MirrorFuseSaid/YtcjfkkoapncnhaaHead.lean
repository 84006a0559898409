/-
  What the program's tables say of the types and functions that the proofs of this seat name: closed facts, by the kernel. (Printed by a program of this repo, wip/gen/header.py.)
-/
import Derived.Test.YtcjfkkoapncnhaaProg
import Derived.Test.YtcjfkkoapncnhaaBaseE
import Derived.KernelRfl
namespace Go.Proofs.Ytcjfkkoapncnhaa
open Go Go.SL Go.Proofs

theorem T1 : Ty1 Try.prog 1 := ty1_of (by kernel_rfl)
theorem Z1 : (Try.prog.info? 1).map (·.size) = some 1 := by kernel_rfl
theorem Zv1 : (Try.prog.info? 1).bind (·.zero) = some .nilFunc := by kernel_rfl
theorem T3 : Ty1 Try.prog 3 := ty1_of (by kernel_rfl)
theorem Z3 : (Try.prog.info? 3).map (·.size) = some 1 := by kernel_rfl
theorem Zv3 : (Try.prog.info? 3).bind (·.zero) = some (.int .i64 (0)) := by kernel_rfl
theorem T4 : Ty1 Try.prog 4 := ty1_of (by kernel_rfl)
theorem Z4 : (Try.prog.info? 4).map (·.size) = some 1 := by kernel_rfl
theorem Zv4 : (Try.prog.info? 4).bind (·.zero) = some (.bool (false)) := by kernel_rfl
theorem T5 : Ty1 Try.prog 5 := ty1_of (by kernel_rfl)
theorem Z5 : (Try.prog.info? 5).map (·.size) = some 1 := by kernel_rfl
theorem Zv5 : (Try.prog.info? 5).bind (·.zero) = some (.int .u8 (0)) := by kernel_rfl
theorem T22 : Ty1 Try.prog 22 := ty1_of (by kernel_rfl)
theorem Z22 : (Try.prog.info? 22).map (·.size) = some 1 := by kernel_rfl
theorem Zv22 : (Try.prog.info? 22).bind (·.zero) = some (.slice none 0 0) := by kernel_rfl
theorem T23 : Ty1 Try.prog 23 := ty1_of (by kernel_rfl)
theorem Z23 : (Try.prog.info? 23).map (·.size) = some 1 := by kernel_rfl
theorem Zv23 : (Try.prog.info? 23).bind (·.zero) = some (.slice none 0 0) := by kernel_rfl
theorem T24 : Ty1 Try.prog 24 := ty1_of (by kernel_rfl)
theorem Z24 : (Try.prog.info? 24).map (·.size) = some 1 := by kernel_rfl
theorem Zv24 : (Try.prog.info? 24).bind (·.zero) = some (.slice none 0 0) := by kernel_rfl
theorem A26 : TyA Try.prog 26 4 := tyA_of (by kernel_rfl)
theorem Z26 : (Try.prog.info? 26).map (·.size) = some 4 := by kernel_rfl
theorem Zv26 : (Try.prog.info? 26).bind (·.zero) = some (.agg #[(.slice none 0 0), (.slice none 0 0), (.slice none 0 0), (.bool (false))]) := by kernel_rfl
theorem Fd26_0 : Fld Try.prog 26 0 0 := fld_of (by kernel_rfl)
theorem Fd26_1 : Fld Try.prog 26 1 1 := fld_of (by kernel_rfl)
theorem Fd26_2 : Fld Try.prog 26 2 2 := fld_of (by kernel_rfl)
theorem Fd26_3 : Fld Try.prog 26 3 3 := fld_of (by kernel_rfl)
theorem A27 : TyA Try.prog 27 8 := tyA_of (by kernel_rfl)
theorem Z27 : (Try.prog.info? 27).map (·.size) = some 8 := by kernel_rfl
theorem Zv27 : (Try.prog.info? 27).bind (·.zero) = some (.agg #[(.slice none 0 0), (.slice none 0 0), (.slice none 0 0), (.bool (false)), (.slice none 0 0), (.slice none 0 0), (.slice none 0 0), (.bool (false))]) := by kernel_rfl
theorem A29 : TyA Try.prog 29 10 := tyA_of (by kernel_rfl)
theorem Z29 : (Try.prog.info? 29).map (·.size) = some 10 := by kernel_rfl
theorem Zv29 : (Try.prog.info? 29).bind (·.zero) = some (.agg #[(.slice none 0 0), (.slice none 0 0), (.slice none 0 0), (.bool (false)), (.slice none 0 0), (.slice none 0 0), (.slice none 0 0), (.bool (false)), (.int .i64 (0)), (.bool (false))]) := by kernel_rfl
theorem Fd29_0 : Fld Try.prog 29 0 0 := fld_of (by kernel_rfl)
theorem Fd29_1 : Fld Try.prog 29 1 8 := fld_of (by kernel_rfl)
theorem Fd29_2 : Fld Try.prog 29 2 9 := fld_of (by kernel_rfl)
theorem T30 : Ty1 Try.prog 30 := ty1_of (by kernel_rfl)
theorem Z30 : (Try.prog.info? 30).map (·.size) = some 1 := by kernel_rfl
theorem Zv30 : (Try.prog.info? 30).bind (·.zero) = some (.int .u16 (0)) := by kernel_rfl
theorem A31 : TyA Try.prog 31 2 := tyA_of (by kernel_rfl)
theorem Z31 : (Try.prog.info? 31).map (·.size) = some 2 := by kernel_rfl
theorem Zv31 : (Try.prog.info? 31).bind (·.zero) = some (.agg #[(.int .u16 (0)), (.int .u16 (0))]) := by kernel_rfl
theorem T32 : Ty1 Try.prog 32 := ty1_of (by kernel_rfl)
theorem Z32 : (Try.prog.info? 32).map (·.size) = some 1 := by kernel_rfl
theorem Zv32 : (Try.prog.info? 32).bind (·.zero) = some (.int .u32 (0)) := by kernel_rfl
theorem T33 : Ty1 Try.prog 33 := ty1_of (by kernel_rfl)
theorem Z33 : (Try.prog.info? 33).map (·.size) = some 1 := by kernel_rfl
theorem Zv33 : (Try.prog.info? 33).bind (·.zero) = some (.int .u64 (0)) := by kernel_rfl
theorem A35 : TyA Try.prog 35 5 := tyA_of (by kernel_rfl)
theorem Z35 : (Try.prog.info? 35).map (·.size) = some 5 := by kernel_rfl
theorem Zv35 : (Try.prog.info? 35).bind (·.zero) = some (.agg #[(.int .u8 (0)), (.int .u16 (0)), (.int .u16 (0)), (.int .u32 (0)), (.int .u64 (0))]) := by kernel_rfl
theorem Fd35_0 : Fld Try.prog 35 0 0 := fld_of (by kernel_rfl)
theorem Fd35_1 : Fld Try.prog 35 1 1 := fld_of (by kernel_rfl)
theorem Fd35_2 : Fld Try.prog 35 2 3 := fld_of (by kernel_rfl)
theorem Fd35_3 : Fld Try.prog 35 3 4 := fld_of (by kernel_rfl)
theorem A37 : TyA Try.prog 37 256 := tyA_of (by kernel_rfl)
theorem Z37 : (Try.prog.info? 37).map (·.size) = some 256 := by kernel_rfl
def zc37 : List Value := List.replicate 256 (.int .u8 (0))
def zv37 : Value := .agg zc37.toArray
theorem Zv37 : (Try.prog.info? 37).bind (·.zero) = some zv37 := by kernel_rfl
theorem T41 : Ty1 Try.prog 41 := ty1_of (by kernel_rfl)
theorem Z41 : (Try.prog.info? 41).map (·.size) = some 1 := by kernel_rfl
theorem Zv41 : (Try.prog.info? 41).bind (·.zero) = some (.int .i64 (0)) := by kernel_rfl
theorem T45 : Ty1 Try.prog 45 := ty1_of (by kernel_rfl)
theorem Z45 : (Try.prog.info? 45).map (·.size) = some 1 := by kernel_rfl
theorem Zv45 : (Try.prog.info? 45).bind (·.zero) = some (.slice none 0 0) := by kernel_rfl
theorem A47 : TyA Try.prog 47 2 := tyA_of (by kernel_rfl)
theorem Z47 : (Try.prog.info? 47).map (·.size) = some 2 := by kernel_rfl
theorem Zv47 : (Try.prog.info? 47).bind (·.zero) = some (.agg #[(.int .i64 (0)), (.int .i64 (0))]) := by kernel_rfl
theorem T59 : Ty1 Try.prog 59 := ty1_of (by kernel_rfl)
theorem Z59 : (Try.prog.info? 59).map (·.size) = some 1 := by kernel_rfl
theorem Zv59 : (Try.prog.info? 59).bind (·.zero) = some (.slice none 0 0) := by kernel_rfl
theorem A60 : TyA Try.prog 60 2 := tyA_of (by kernel_rfl)
theorem Z60 : (Try.prog.info? 60).map (·.size) = some 2 := by kernel_rfl
theorem Zv60 : (Try.prog.info? 60).bind (·.zero) = some (.agg #[(.slice none 0 0), (.slice none 0 0)]) := by kernel_rfl
theorem A63 : TyA Try.prog 63 257 := tyA_of (by kernel_rfl)
theorem Z63 : (Try.prog.info? 63).map (·.size) = some 257 := by kernel_rfl
def zc63 : List Value := List.replicate 1 (.int .i64 (0)) ++ List.replicate 256 (.int .u8 (0))
def zv63 : Value := .agg zc63.toArray
theorem Zv63 : (Try.prog.info? 63).bind (·.zero) = some zv63 := by kernel_rfl
theorem Fd63_0 : Fld Try.prog 63 0 0 := fld_of (by kernel_rfl)
theorem Fd63_1 : Fld Try.prog 63 1 1 := fld_of (by kernel_rfl)
theorem T67 : Ty1 Try.prog 67 := ty1_of (by kernel_rfl)
theorem Z67 : (Try.prog.info? 67).map (·.size) = some 1 := by kernel_rfl
theorem Zv67 : (Try.prog.info? 67).bind (·.zero) = some .nilFunc := by kernel_rfl
theorem T68 : Ty1 Try.prog 68 := ty1_of (by kernel_rfl)
theorem Z68 : (Try.prog.info? 68).map (·.size) = some 1 := by kernel_rfl
theorem Zv68 : (Try.prog.info? 68).bind (·.zero) = some .nilFunc := by kernel_rfl
theorem T71 : Ty1 Try.prog 71 := ty1_of (by kernel_rfl)
theorem Z71 : (Try.prog.info? 71).map (·.size) = some 1 := by kernel_rfl
theorem Zv71 : (Try.prog.info? 71).bind (·.zero) = some .nilFunc := by kernel_rfl
theorem T78 : Ty1 Try.prog 78 := ty1_of (by kernel_rfl)
theorem Z78 : (Try.prog.info? 78).map (·.size) = some 1 := by kernel_rfl
theorem Zv78 : (Try.prog.info? 78).bind (·.zero) = some .nilFunc := by kernel_rfl
theorem T80 : Ty1 Try.prog 80 := ty1_of (by kernel_rfl)
theorem Z80 : (Try.prog.info? 80).map (·.size) = some 1 := by kernel_rfl
theorem Zv80 : (Try.prog.info? 80).bind (·.zero) = some .nilFunc := by kernel_rfl
theorem T84 : Ty1 Try.prog 84 := ty1_of (by kernel_rfl)
theorem Z84 : (Try.prog.info? 84).map (·.size) = some 1 := by kernel_rfl
theorem Zv84 : (Try.prog.info? 84).bind (·.zero) = some .nilFunc := by kernel_rfl
theorem T87 : Ty1 Try.prog 87 := ty1_of (by kernel_rfl)
theorem Z87 : (Try.prog.info? 87).map (·.size) = some 1 := by kernel_rfl
theorem Zv87 : (Try.prog.info? 87).bind (·.zero) = some .nilFunc := by kernel_rfl
theorem T88 : Ty1 Try.prog 88 := ty1_of (by kernel_rfl)
theorem Z88 : (Try.prog.info? 88).map (·.size) = some 1 := by kernel_rfl
theorem Zv88 : (Try.prog.info? 88).bind (·.zero) = some .nilFunc := by kernel_rfl
theorem T95 : Ty1 Try.prog 95 := ty1_of (by kernel_rfl)
theorem Z95 : (Try.prog.info? 95).map (·.size) = some 1 := by kernel_rfl
theorem Zv95 : (Try.prog.info? 95).bind (·.zero) = some .nilFunc := by kernel_rfl
theorem S22 : TyS Try.prog 22 37 256 256 zv37 := tyS_of Try.underlying22 (by kernel_rfl) (by kernel_rfl)
theorem S23 : TyS Try.prog 23 63 257 264 zv63 := tyS_of Try.underlying23 (by kernel_rfl) (by kernel_rfl)
theorem S24 : TyS Try.prog 24 3 1 8 (.int .i64 (0)) := tyS_of Try.underlying24 (by kernel_rfl) rfl
theorem S45 : TyS Try.prog 45 47 2 16 (.agg #[(.int .i64 (0)), (.int .i64 (0))]) := tyS_of Try.underlying45 (by kernel_rfl) rfl
theorem S59 : TyS Try.prog 59 5 1 1 (.int .u8 (0)) := tyS_of Try.underlying59 (by kernel_rfl) rfl
theorem en2 : ∀ (args : Array Value) (w : World), (callFunc 2 args).run Try.prog w = .ok (.enter 2 args) w := enters Try.func2 (by kernel_rfl) rfl
theorem en3 : ∀ (args : Array Value) (w : World), (callFunc 3 args).run Try.prog w = .ok (.enter 3 args) w := enters Try.func3 (by kernel_rfl) rfl
theorem en4 : ∀ (args : Array Value) (w : World), (callFunc 4 args).run Try.prog w = .ok (.enter 4 args) w := enters Try.func4 (by kernel_rfl) rfl
theorem en5 : ∀ (args : Array Value) (w : World), (callFunc 5 args).run Try.prog w = .ok (.enter 5 args) w := enters Try.func5 (by kernel_rfl) rfl
theorem en6 : ∀ (args : Array Value) (w : World), (callFunc 6 args).run Try.prog w = .ok (.enter 6 args) w := enters Try.func6 (by kernel_rfl) rfl
theorem en7 : ∀ (args : Array Value) (w : World), (callFunc 7 args).run Try.prog w = .ok (.enter 7 args) w := enters Try.func7 (by kernel_rfl) rfl
theorem en8 : ∀ (args : Array Value) (w : World), (callFunc 8 args).run Try.prog w = .ok (.enter 8 args) w := enters Try.func8 (by kernel_rfl) rfl
theorem en9 : ∀ (args : Array Value) (w : World), (callFunc 9 args).run Try.prog w = .ok (.enter 9 args) w := enters Try.func9 (by kernel_rfl) rfl
theorem en10 : ∀ (args : Array Value) (w : World), (callFunc 10 args).run Try.prog w = .ok (.enter 10 args) w := enters Try.func10 (by kernel_rfl) rfl
theorem en11 : ∀ (args : Array Value) (w : World), (callFunc 11 args).run Try.prog w = .ok (.enter 11 args) w := enters Try.func11 (by kernel_rfl) rfl
theorem en12 : ∀ (args : Array Value) (w : World), (callFunc 12 args).run Try.prog w = .ok (.enter 12 args) w := enters Try.func12 (by kernel_rfl) rfl
theorem en13 : ∀ (args : Array Value) (w : World), (callFunc 13 args).run Try.prog w = .ok (.enter 13 args) w := enters Try.func13 (by kernel_rfl) rfl
theorem en14 : ∀ (args : Array Value) (w : World), (callFunc 14 args).run Try.prog w = .ok (.enter 14 args) w := enters Try.func14 (by kernel_rfl) rfl
theorem en15 : ∀ (args : Array Value) (w : World), (callFunc 15 args).run Try.prog w = .ok (.enter 15 args) w := enters Try.func15 (by kernel_rfl) rfl
theorem en16 : ∀ (args : Array Value) (w : World), (callFunc 16 args).run Try.prog w = .ok (.enter 16 args) w := enters Try.func16 (by kernel_rfl) rfl
theorem en17 : ∀ (args : Array Value) (w : World), (callFunc 17 args).run Try.prog w = .ok (.enter 17 args) w := enters Try.func17 (by kernel_rfl) rfl
theorem en18 : ∀ (args : Array Value) (w : World), (callFunc 18 args).run Try.prog w = .ok (.enter 18 args) w := enters Try.func18 (by kernel_rfl) rfl
theorem en19 : ∀ (args : Array Value) (w : World), (callFunc 19 args).run Try.prog w = .ok (.enter 19 args) w := enters Try.func19 (by kernel_rfl) rfl
theorem en20 : ∀ (args : Array Value) (w : World), (callFunc 20 args).run Try.prog w = .ok (.enter 20 args) w := enters Try.func20 (by kernel_rfl) rfl
theorem en21 : ∀ (args : Array Value) (w : World), (callFunc 21 args).run Try.prog w = .ok (.enter 21 args) w := enters Try.func21 (by kernel_rfl) rfl
theorem en22 : ∀ (args : Array Value) (w : World), (callFunc 22 args).run Try.prog w = .ok (.enter 22 args) w := enters Try.func22 (by kernel_rfl) rfl
theorem en23 : ∀ (args : Array Value) (w : World), (callFunc 23 args).run Try.prog w = .ok (.enter 23 args) w := enters Try.func23 (by kernel_rfl) rfl
theorem en24 : ∀ (args : Array Value) (w : World), (callFunc 24 args).run Try.prog w = .ok (.enter 24 args) w := enters Try.func24 (by kernel_rfl) rfl
theorem en25 : ∀ (args : Array Value) (w : World), (callFunc 25 args).run Try.prog w = .ok (.enter 25 args) w := enters Try.func25 (by kernel_rfl) rfl
theorem en26 : ∀ (args : Array Value) (w : World), (callFunc 26 args).run Try.prog w = .ok (.enter 26 args) w := enters Try.func26 (by kernel_rfl) rfl
theorem en27 : ∀ (args : Array Value) (w : World), (callFunc 27 args).run Try.prog w = .ok (.enter 27 args) w := enters Try.func27 (by kernel_rfl) rfl
theorem en28 : ∀ (args : Array Value) (w : World), (callFunc 28 args).run Try.prog w = .ok (.enter 28 args) w := enters Try.func28 (by kernel_rfl) rfl
theorem en29 : ∀ (args : Array Value) (w : World), (callFunc 29 args).run Try.prog w = .ok (.enter 29 args) w := enters Try.func29 (by kernel_rfl) rfl
theorem en30 : ∀ (args : Array Value) (w : World), (callFunc 30 args).run Try.prog w = .ok (.enter 30 args) w := enters Try.func30 (by kernel_rfl) rfl
theorem en31 : ∀ (args : Array Value) (w : World), (callFunc 31 args).run Try.prog w = .ok (.enter 31 args) w := enters Try.func31 (by kernel_rfl) rfl
theorem en32 : ∀ (args : Array Value) (w : World), (callFunc 32 args).run Try.prog w = .ok (.enter 32 args) w := enters Try.func32 (by kernel_rfl) rfl
theorem en33 : ∀ (args : Array Value) (w : World), (callFunc 33 args).run Try.prog w = .ok (.enter 33 args) w := enters Try.func33 (by kernel_rfl) rfl
theorem en34 : ∀ (args : Array Value) (w : World), (callFunc 34 args).run Try.prog w = .ok (.enter 34 args) w := enters Try.func34 (by kernel_rfl) rfl
theorem en35 : ∀ (args : Array Value) (w : World), (callFunc 35 args).run Try.prog w = .ok (.enter 35 args) w := enters Try.func35 (by kernel_rfl) rfl
theorem en36 : ∀ (args : Array Value) (w : World), (callFunc 36 args).run Try.prog w = .ok (.enter 36 args) w := enters Try.func36 (by kernel_rfl) rfl
theorem en37 : ∀ (args : Array Value) (w : World), (callFunc 37 args).run Try.prog w = .ok (.enter 37 args) w := enters Try.func37 (by kernel_rfl) rfl
theorem en38 : ∀ (args : Array Value) (w : World), (callFunc 38 args).run Try.prog w = .ok (.enter 38 args) w := enters Try.func38 (by kernel_rfl) rfl
theorem en39 : ∀ (args : Array Value) (w : World), (callFunc 39 args).run Try.prog w = .ok (.enter 39 args) w := enters Try.func39 (by kernel_rfl) rfl
theorem en40 : ∀ (args : Array Value) (w : World), (callFunc 40 args).run Try.prog w = .ok (.enter 40 args) w := enters Try.func40 (by kernel_rfl) rfl
theorem en41 : ∀ (args : Array Value) (w : World), (callFunc 41 args).run Try.prog w = .ok (.enter 41 args) w := enters Try.func41 (by kernel_rfl) rfl
theorem en42 : ∀ (args : Array Value) (w : World), (callFunc 42 args).run Try.prog w = .ok (.enter 42 args) w := enters Try.func42 (by kernel_rfl) rfl
theorem en43 : ∀ (args : Array Value) (w : World), (callFunc 43 args).run Try.prog w = .ok (.enter 43 args) w := enters Try.func43 (by kernel_rfl) rfl
theorem en44 : ∀ (args : Array Value) (w : World), (callFunc 44 args).run Try.prog w = .ok (.enter 44 args) w := enters Try.func44 (by kernel_rfl) rfl
theorem en45 : ∀ (args : Array Value) (w : World), (callFunc 45 args).run Try.prog w = .ok (.enter 45 args) w := enters Try.func45 (by kernel_rfl) rfl
theorem en46 : ∀ (args : Array Value) (w : World), (callFunc 46 args).run Try.prog w = .ok (.enter 46 args) w := enters Try.func46 (by kernel_rfl) rfl
theorem en47 : ∀ (args : Array Value) (w : World), (callFunc 47 args).run Try.prog w = .ok (.enter 47 args) w := enters Try.func47 (by kernel_rfl) rfl
theorem en48 : ∀ (args : Array Value) (w : World), (callFunc 48 args).run Try.prog w = .ok (.enter 48 args) w := enters Try.func48 (by kernel_rfl) rfl
theorem en49 : ∀ (args : Array Value) (w : World), (callFunc 49 args).run Try.prog w = .ok (.enter 49 args) w := enters Try.func49 (by kernel_rfl) rfl
theorem en50 : ∀ (args : Array Value) (w : World), (callFunc 50 args).run Try.prog w = .ok (.enter 50 args) w := enters Try.func50 (by kernel_rfl) rfl
theorem en51 : ∀ (args : Array Value) (w : World), (callFunc 51 args).run Try.prog w = .ok (.enter 51 args) w := enters Try.func51 (by kernel_rfl) rfl
theorem en52 : ∀ (args : Array Value) (w : World), (callFunc 52 args).run Try.prog w = .ok (.enter 52 args) w := enters Try.func52 (by kernel_rfl) rfl
theorem en53 : ∀ (args : Array Value) (w : World), (callFunc 53 args).run Try.prog w = .ok (.enter 53 args) w := enters Try.func53 (by kernel_rfl) rfl
theorem en54 : ∀ (args : Array Value) (w : World), (callFunc 54 args).run Try.prog w = .ok (.enter 54 args) w := enters Try.func54 (by kernel_rfl) rfl
theorem en55 : ∀ (args : Array Value) (w : World), (callFunc 55 args).run Try.prog w = .ok (.enter 55 args) w := enters Try.func55 (by kernel_rfl) rfl
theorem en56 : ∀ (args : Array Value) (w : World), (callFunc 56 args).run Try.prog w = .ok (.enter 56 args) w := enters Try.func56 (by kernel_rfl) rfl
theorem en57 : ∀ (args : Array Value) (w : World), (callFunc 57 args).run Try.prog w = .ok (.enter 57 args) w := enters Try.func57 (by kernel_rfl) rfl
theorem en58 : ∀ (args : Array Value) (w : World), (callFunc 58 args).run Try.prog w = .ok (.enter 58 args) w := enters Try.func58 (by kernel_rfl) rfl
theorem en59 : ∀ (args : Array Value) (w : World), (callFunc 59 args).run Try.prog w = .ok (.enter 59 args) w := enters Try.func59 (by kernel_rfl) rfl
theorem en60 : ∀ (args : Array Value) (w : World), (callFunc 60 args).run Try.prog w = .ok (.enter 60 args) w := enters Try.func60 (by kernel_rfl) rfl
theorem en61 : ∀ (args : Array Value) (w : World), (callFunc 61 args).run Try.prog w = .ok (.enter 61 args) w := enters Try.func61 (by kernel_rfl) rfl
theorem en62 : ∀ (args : Array Value) (w : World), (callFunc 62 args).run Try.prog w = .ok (.enter 62 args) w := enters Try.func62 (by kernel_rfl) rfl
theorem mixed : Try.prog.follows .mixedOrders = true := by kernel_rfl
end Go.Proofs.Ytcjfkkoapncnhaa
