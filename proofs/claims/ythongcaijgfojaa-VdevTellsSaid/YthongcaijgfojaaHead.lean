/-
  What the program's tables say of the types and functions that the proofs of this seat name: closed facts, by the kernel. (Printed by a program of this repo, wip/gen/header.py.)
-/
import Derived.Test.YthongcaijgfojaaProg
import Derived.Test.YthongcaijgfojaaBaseE
import Derived.KernelRfl
namespace Go.Proofs.Ythongcaijgfojaa
open Go Go.SL Go.Proofs

theorem T1 : Ty1 Try.prog 1 := ty1_of (by kernel_rfl)
theorem Z1 : (Try.prog.info? 1).map (·.size) = some 1 := by kernel_rfl
theorem Zv1 : (Try.prog.info? 1).bind (·.zero) = some .nilFunc := by kernel_rfl
theorem T2 : Ty1 Try.prog 2 := ty1_of (by kernel_rfl)
theorem Z2 : (Try.prog.info? 2).map (·.size) = some 1 := by kernel_rfl
theorem Zv2 : (Try.prog.info? 2).bind (·.zero) = some (.int .i64 (0)) := by kernel_rfl
theorem T3 : Ty1 Try.prog 3 := ty1_of (by kernel_rfl)
theorem Z3 : (Try.prog.info? 3).map (·.size) = some 1 := by kernel_rfl
theorem Zv3 : (Try.prog.info? 3).bind (·.zero) = some (.int .i64 (0)) := by kernel_rfl
theorem T4 : Ty1 Try.prog 4 := ty1_of (by kernel_rfl)
theorem Z4 : (Try.prog.info? 4).map (·.size) = some 1 := by kernel_rfl
theorem Zv4 : (Try.prog.info? 4).bind (·.zero) = some (.bool (false)) := by kernel_rfl
theorem T5 : Ty1 Try.prog 5 := ty1_of (by kernel_rfl)
theorem Z5 : (Try.prog.info? 5).map (·.size) = some 1 := by kernel_rfl
theorem Zv5 : (Try.prog.info? 5).bind (·.zero) = some (.int .u8 (0)) := by kernel_rfl
theorem T9 : Ty1 Try.prog 9 := ty1_of (by kernel_rfl)
theorem Z9 : (Try.prog.info? 9).map (·.size) = some 1 := by kernel_rfl
theorem Zv9 : (Try.prog.info? 9).bind (·.zero) = some (strV ([])) := by kernel_rfl
theorem T22 : Ty1 Try.prog 22 := ty1_of (by kernel_rfl)
theorem Z22 : (Try.prog.info? 22).map (·.size) = some 1 := by kernel_rfl
theorem Zv22 : (Try.prog.info? 22).bind (·.zero) = some (.slice none 0 0) := by kernel_rfl
theorem T23 : Ty1 Try.prog 23 := ty1_of (by kernel_rfl)
theorem Z23 : (Try.prog.info? 23).map (·.size) = some 1 := by kernel_rfl
theorem Zv23 : (Try.prog.info? 23).bind (·.zero) = some (.slice none 0 0) := by kernel_rfl
theorem T24 : Ty1 Try.prog 24 := ty1_of (by kernel_rfl)
theorem Z24 : (Try.prog.info? 24).map (·.size) = some 1 := by kernel_rfl
theorem Zv24 : (Try.prog.info? 24).bind (·.zero) = some (.slice none 0 0) := by kernel_rfl
theorem A26 : TyA Try.prog 26 4 := tyA_of (by kernel_rfl)
theorem Z26 : (Try.prog.info? 26).map (·.size) = some 4 := by kernel_rfl
theorem Zv26 : (Try.prog.info? 26).bind (·.zero) = some (.agg #[(.slice none 0 0), (.slice none 0 0), (.slice none 0 0), (.bool (false))]) := by kernel_rfl
theorem Fd26_0 : Fld Try.prog 26 0 0 := fld_of (by kernel_rfl)
theorem Fd26_1 : Fld Try.prog 26 1 1 := fld_of (by kernel_rfl)
theorem Fd26_2 : Fld Try.prog 26 2 2 := fld_of (by kernel_rfl)
theorem Fd26_3 : Fld Try.prog 26 3 3 := fld_of (by kernel_rfl)
theorem A28 : TyA Try.prog 28 256 := tyA_of (by kernel_rfl)
theorem Z28 : (Try.prog.info? 28).map (·.size) = some 256 := by kernel_rfl
def zc28 : List Value := List.replicate 256 (.int .u8 (0))
def zv28 : Value := .agg zc28.toArray
theorem Zv28 : (Try.prog.info? 28).bind (·.zero) = some zv28 := by kernel_rfl
theorem T32 : Ty1 Try.prog 32 := ty1_of (by kernel_rfl)
theorem Z32 : (Try.prog.info? 32).map (·.size) = some 1 := by kernel_rfl
theorem Zv32 : (Try.prog.info? 32).bind (·.zero) = some (.int .i64 (0)) := by kernel_rfl
theorem T41 : Ty1 Try.prog 41 := ty1_of (by kernel_rfl)
theorem Z41 : (Try.prog.info? 41).map (·.size) = some 1 := by kernel_rfl
theorem Zv41 : (Try.prog.info? 41).bind (·.zero) = some (.slice none 0 0) := by kernel_rfl
theorem A43 : TyA Try.prog 43 257 := tyA_of (by kernel_rfl)
theorem Z43 : (Try.prog.info? 43).map (·.size) = some 257 := by kernel_rfl
def zc43 : List Value := List.replicate 1 (.int .i64 (0)) ++ List.replicate 256 (.int .u8 (0))
def zv43 : Value := .agg zc43.toArray
theorem Zv43 : (Try.prog.info? 43).bind (·.zero) = some zv43 := by kernel_rfl
theorem Fd43_0 : Fld Try.prog 43 0 0 := fld_of (by kernel_rfl)
theorem Fd43_1 : Fld Try.prog 43 1 1 := fld_of (by kernel_rfl)
theorem A50 : TyA Try.prog 50 256 := tyA_of (by kernel_rfl)
theorem Z50 : (Try.prog.info? 50).map (·.size) = some 256 := by kernel_rfl
def zc50 : List Value := List.replicate 256 (.bool (false))
def zv50 : Value := .agg zc50.toArray
theorem Zv50 : (Try.prog.info? 50).bind (·.zero) = some zv50 := by kernel_rfl
theorem T52 : Ty1 Try.prog 52 := ty1_of (by kernel_rfl)
theorem Z52 : (Try.prog.info? 52).map (·.size) = some 1 := by kernel_rfl
theorem Zv52 : (Try.prog.info? 52).bind (·.zero) = some .nilFunc := by kernel_rfl
theorem T53 : Ty1 Try.prog 53 := ty1_of (by kernel_rfl)
theorem Z53 : (Try.prog.info? 53).map (·.size) = some 1 := by kernel_rfl
theorem Zv53 : (Try.prog.info? 53).bind (·.zero) = some .nilFunc := by kernel_rfl
theorem T57 : Ty1 Try.prog 57 := ty1_of (by kernel_rfl)
theorem Z57 : (Try.prog.info? 57).map (·.size) = some 1 := by kernel_rfl
theorem Zv57 : (Try.prog.info? 57).bind (·.zero) = some .nilFunc := by kernel_rfl
theorem T64 : Ty1 Try.prog 64 := ty1_of (by kernel_rfl)
theorem Z64 : (Try.prog.info? 64).map (·.size) = some 1 := by kernel_rfl
theorem Zv64 : (Try.prog.info? 64).bind (·.zero) = some .nilFunc := by kernel_rfl
theorem T65 : Ty1 Try.prog 65 := ty1_of (by kernel_rfl)
theorem Z65 : (Try.prog.info? 65).map (·.size) = some 1 := by kernel_rfl
theorem Zv65 : (Try.prog.info? 65).bind (·.zero) = some .nilFunc := by kernel_rfl
theorem T66 : Ty1 Try.prog 66 := ty1_of (by kernel_rfl)
theorem Z66 : (Try.prog.info? 66).map (·.size) = some 1 := by kernel_rfl
theorem Zv66 : (Try.prog.info? 66).bind (·.zero) = some .nilFunc := by kernel_rfl
theorem T72 : Ty1 Try.prog 72 := ty1_of (by kernel_rfl)
theorem Z72 : (Try.prog.info? 72).map (·.size) = some 1 := by kernel_rfl
theorem Zv72 : (Try.prog.info? 72).bind (·.zero) = some (.int .u64 (0)) := by kernel_rfl
theorem T73 : Ty1 Try.prog 73 := ty1_of (by kernel_rfl)
theorem Z73 : (Try.prog.info? 73).map (·.size) = some 1 := by kernel_rfl
theorem Zv73 : (Try.prog.info? 73).bind (·.zero) = some .nilFunc := by kernel_rfl
theorem T75 : Ty1 Try.prog 75 := ty1_of (by kernel_rfl)
theorem Z75 : (Try.prog.info? 75).map (·.size) = some 1 := by kernel_rfl
theorem Zv75 : (Try.prog.info? 75).bind (·.zero) = some (.int .i64 (0)) := by kernel_rfl
theorem T84 : Ty1 Try.prog 84 := ty1_of (by kernel_rfl)
theorem Z84 : (Try.prog.info? 84).map (·.size) = some 1 := by kernel_rfl
theorem Zv84 : (Try.prog.info? 84).bind (·.zero) = some (.int .u32 (0)) := by kernel_rfl
theorem T86 : Ty1 Try.prog 86 := ty1_of (by kernel_rfl)
theorem Z86 : (Try.prog.info? 86).map (·.size) = some 1 := by kernel_rfl
theorem Zv86 : (Try.prog.info? 86).bind (·.zero) = some (.int .u64 (0)) := by kernel_rfl
theorem T87 : Ty1 Try.prog 87 := ty1_of (by kernel_rfl)
theorem Z87 : (Try.prog.info? 87).map (·.size) = some 1 := by kernel_rfl
theorem Zv87 : (Try.prog.info? 87).bind (·.zero) = some (.int .u64 (0)) := by kernel_rfl
theorem T91 : Ty1 Try.prog 91 := ty1_of (by kernel_rfl)
theorem Z91 : (Try.prog.info? 91).map (·.size) = some 1 := by kernel_rfl
theorem Zv91 : (Try.prog.info? 91).bind (·.zero) = some (.pointer none) := by kernel_rfl
theorem T93 : Ty1 Try.prog 93 := ty1_of (by kernel_rfl)
theorem Z93 : (Try.prog.info? 93).map (·.size) = some 1 := by kernel_rfl
theorem Zv93 : (Try.prog.info? 93).bind (·.zero) = some (.pointer none) := by kernel_rfl
theorem S22 : TyS Try.prog 22 28 256 256 zv28 := tyS_of Try.underlying22 (by kernel_rfl) (by kernel_rfl)
theorem S23 : TyS Try.prog 23 43 257 264 zv43 := tyS_of Try.underlying23 (by kernel_rfl) (by kernel_rfl)
theorem S24 : TyS Try.prog 24 3 1 8 (.int .i64 (0)) := tyS_of Try.underlying24 (by kernel_rfl) rfl
theorem S41 : TyS Try.prog 41 26 4 80 (.agg #[(.slice none 0 0), (.slice none 0 0), (.slice none 0 0), (.bool (false))]) := tyS_of Try.underlying41 (by kernel_rfl) rfl
theorem en2 : ∀ (args : Array Value) (w : World), (callFunc 2 args).run Try.prog w = .ok (.enter 2 args) w := enters Try.func2 (by kernel_rfl) rfl
theorem en3 : ∀ (args : Array Value) (w : World), (callFunc 3 args).run Try.prog w = .ok (.enter 3 args) w := enters Try.func3 (by kernel_rfl) rfl
theorem en4 : ∀ (args : Array Value) (w : World), (callFunc 4 args).run Try.prog w = .ok (.enter 4 args) w := enters Try.func4 (by kernel_rfl) rfl
theorem en5 : ∀ (args : Array Value) (w : World), (callFunc 5 args).run Try.prog w = .ok (.enter 5 args) w := enters Try.func5 (by kernel_rfl) rfl
theorem en6 : ∀ (args : Array Value) (w : World), (callFunc 6 args).run Try.prog w = .ok (.enter 6 args) w := enters Try.func6 (by kernel_rfl) rfl
theorem en7 : ∀ (args : Array Value) (w : World), (callFunc 7 args).run Try.prog w = .ok (.enter 7 args) w := enters Try.func7 (by kernel_rfl) rfl
theorem en8 : ∀ (args : Array Value) (w : World), (callFunc 8 args).run Try.prog w = .ok (.enter 8 args) w := enters Try.func8 (by kernel_rfl) rfl
theorem en9 : ∀ (args : Array Value) (w : World), (callFunc 9 args).run Try.prog w = .ok (.enter 9 args) w := enters Try.func9 (by kernel_rfl) rfl
theorem en10 : ∀ (args : Array Value) (w : World), (callFunc 10 args).run Try.prog w = .ok (.enter 10 args) w := enters Try.func10 (by kernel_rfl) rfl
theorem en11 : ∀ (args : Array Value) (w : World), (callFunc 11 args).run Try.prog w = .ok (.enter 11 args) w := enters Try.func11 (by kernel_rfl) rfl
theorem en12 : ∀ (args : Array Value) (w : World), (callFunc 12 args).run Try.prog w = .ok (.enter 12 args) w := enters Try.func12 (by kernel_rfl) rfl
theorem en13 : ∀ (args : Array Value) (w : World), (callFunc 13 args).run Try.prog w = .ok (.enter 13 args) w := enters Try.func13 (by kernel_rfl) rfl
theorem en14 : ∀ (args : Array Value) (w : World), (callFunc 14 args).run Try.prog w = .ok (.enter 14 args) w := enters Try.func14 (by kernel_rfl) rfl
theorem en15 : ∀ (args : Array Value) (w : World), (callFunc 15 args).run Try.prog w = .ok (.enter 15 args) w := enters Try.func15 (by kernel_rfl) rfl
theorem en16 : ∀ (args : Array Value) (w : World), (callFunc 16 args).run Try.prog w = .ok (.enter 16 args) w := enters Try.func16 (by kernel_rfl) rfl
theorem en17 : ∀ (args : Array Value) (w : World), (callFunc 17 args).run Try.prog w = .ok (.enter 17 args) w := enters Try.func17 (by kernel_rfl) rfl
theorem en18 : ∀ (args : Array Value) (w : World), (callFunc 18 args).run Try.prog w = .ok (.enter 18 args) w := enters Try.func18 (by kernel_rfl) rfl
theorem en19 : ∀ (args : Array Value) (w : World), (callFunc 19 args).run Try.prog w = .ok (.enter 19 args) w := enters Try.func19 (by kernel_rfl) rfl
theorem en20 : ∀ (args : Array Value) (w : World), (callFunc 20 args).run Try.prog w = .ok (.enter 20 args) w := enters Try.func20 (by kernel_rfl) rfl
theorem en21 : ∀ (args : Array Value) (w : World), (callFunc 21 args).run Try.prog w = .ok (.enter 21 args) w := enters Try.func21 (by kernel_rfl) rfl
theorem en22 : ∀ (args : Array Value) (w : World), (callFunc 22 args).run Try.prog w = .ok (.enter 22 args) w := enters Try.func22 (by kernel_rfl) rfl
theorem en23 : ∀ (args : Array Value) (w : World), (callFunc 23 args).run Try.prog w = .ok (.enter 23 args) w := enters Try.func23 (by kernel_rfl) rfl
theorem en24 : ∀ (args : Array Value) (w : World), (callFunc 24 args).run Try.prog w = .ok (.enter 24 args) w := enters Try.func24 (by kernel_rfl) rfl
theorem en25 : ∀ (args : Array Value) (w : World), (callFunc 25 args).run Try.prog w = .ok (.enter 25 args) w := enters Try.func25 (by kernel_rfl) rfl
theorem en26 : ∀ (args : Array Value) (w : World), (callFunc 26 args).run Try.prog w = .ok (.enter 26 args) w := enters Try.func26 (by kernel_rfl) rfl
theorem en27 : ∀ (args : Array Value) (w : World), (callFunc 27 args).run Try.prog w = .ok (.enter 27 args) w := enters Try.func27 (by kernel_rfl) rfl
theorem en28 : ∀ (args : Array Value) (w : World), (callFunc 28 args).run Try.prog w = .ok (.enter 28 args) w := enters Try.func28 (by kernel_rfl) rfl
theorem en29 : ∀ (args : Array Value) (w : World), (callFunc 29 args).run Try.prog w = .ok (.enter 29 args) w := enters Try.func29 (by kernel_rfl) rfl
theorem en30 : ∀ (args : Array Value) (w : World), (callFunc 30 args).run Try.prog w = .ok (.enter 30 args) w := enters Try.func30 (by kernel_rfl) rfl
theorem en31 : ∀ (args : Array Value) (w : World), (callFunc 31 args).run Try.prog w = .ok (.enter 31 args) w := enters Try.func31 (by kernel_rfl) rfl
theorem en32 : ∀ (args : Array Value) (w : World), (callFunc 32 args).run Try.prog w = .ok (.enter 32 args) w := enters Try.func32 (by kernel_rfl) rfl
theorem en33 : ∀ (args : Array Value) (w : World), (callFunc 33 args).run Try.prog w = .ok (.enter 33 args) w := enters Try.func33 (by kernel_rfl) rfl
theorem en34 : ∀ (args : Array Value) (w : World), (callFunc 34 args).run Try.prog w = .ok (.enter 34 args) w := enters Try.func34 (by kernel_rfl) rfl
theorem en35 : ∀ (args : Array Value) (w : World), (callFunc 35 args).run Try.prog w = .ok (.enter 35 args) w := enters Try.func35 (by kernel_rfl) rfl
theorem en36 : ∀ (args : Array Value) (w : World), (callFunc 36 args).run Try.prog w = .ok (.enter 36 args) w := enters Try.func36 (by kernel_rfl) rfl
theorem en37 : ∀ (args : Array Value) (w : World), (callFunc 37 args).run Try.prog w = .ok (.enter 37 args) w := enters Try.func37 (by kernel_rfl) rfl
theorem en38 : ∀ (args : Array Value) (w : World), (callFunc 38 args).run Try.prog w = .ok (.enter 38 args) w := enters Try.func38 (by kernel_rfl) rfl
theorem en39 : ∀ (args : Array Value) (w : World), (callFunc 39 args).run Try.prog w = .ok (.enter 39 args) w := enters Try.func39 (by kernel_rfl) rfl
theorem en40 : ∀ (args : Array Value) (w : World), (callFunc 40 args).run Try.prog w = .ok (.enter 40 args) w := enters Try.func40 (by kernel_rfl) rfl
theorem en41 : ∀ (args : Array Value) (w : World), (callFunc 41 args).run Try.prog w = .ok (.enter 41 args) w := enters Try.func41 (by kernel_rfl) rfl
theorem en42 : ∀ (args : Array Value) (w : World), (callFunc 42 args).run Try.prog w = .ok (.enter 42 args) w := enters Try.func42 (by kernel_rfl) rfl
theorem en43 : ∀ (args : Array Value) (w : World), (callFunc 43 args).run Try.prog w = .ok (.enter 43 args) w := enters Try.func43 (by kernel_rfl) rfl
theorem en44 : ∀ (args : Array Value) (w : World), (callFunc 44 args).run Try.prog w = .ok (.enter 44 args) w := enters Try.func44 (by kernel_rfl) rfl
theorem en45 : ∀ (args : Array Value) (w : World), (callFunc 45 args).run Try.prog w = .ok (.enter 45 args) w := enters Try.func45 (by kernel_rfl) rfl
theorem en46 : ∀ (args : Array Value) (w : World), (callFunc 46 args).run Try.prog w = .ok (.enter 46 args) w := enters Try.func46 (by kernel_rfl) rfl
theorem en47 : ∀ (args : Array Value) (w : World), (callFunc 47 args).run Try.prog w = .ok (.enter 47 args) w := enters Try.func47 (by kernel_rfl) rfl
theorem en48 : ∀ (args : Array Value) (w : World), (callFunc 48 args).run Try.prog w = .ok (.enter 48 args) w := enters Try.func48 (by kernel_rfl) rfl
theorem en49 : ∀ (args : Array Value) (w : World), (callFunc 49 args).run Try.prog w = .ok (.enter 49 args) w := enters Try.func49 (by kernel_rfl) rfl
theorem en50 : ∀ (args : Array Value) (w : World), (callFunc 50 args).run Try.prog w = .ok (.enter 50 args) w := enters Try.func50 (by kernel_rfl) rfl
theorem en51 : ∀ (args : Array Value) (w : World), (callFunc 51 args).run Try.prog w = .ok (.enter 51 args) w := enters Try.func51 (by kernel_rfl) rfl
theorem en52 : ∀ (args : Array Value) (w : World), (callFunc 52 args).run Try.prog w = .ok (.enter 52 args) w := enters Try.func52 (by kernel_rfl) rfl
theorem en53 : ∀ (args : Array Value) (w : World), (callFunc 53 args).run Try.prog w = .ok (.enter 53 args) w := enters Try.func53 (by kernel_rfl) rfl
theorem en54 : ∀ (args : Array Value) (w : World), (callFunc 54 args).run Try.prog w = .ok (.enter 54 args) w := enters Try.func54 (by kernel_rfl) rfl
theorem en55 : ∀ (args : Array Value) (w : World), (callFunc 55 args).run Try.prog w = .ok (.enter 55 args) w := enters Try.func55 (by kernel_rfl) rfl
theorem en56 : ∀ (args : Array Value) (w : World), (callFunc 56 args).run Try.prog w = .ok (.enter 56 args) w := enters Try.func56 (by kernel_rfl) rfl
theorem en57 : ∀ (args : Array Value) (w : World), (callFunc 57 args).run Try.prog w = .ok (.enter 57 args) w := enters Try.func57 (by kernel_rfl) rfl
theorem en58 : ∀ (args : Array Value) (w : World), (callFunc 58 args).run Try.prog w = .ok (.enter 58 args) w := enters Try.func58 (by kernel_rfl) rfl
theorem en59 : ∀ (args : Array Value) (w : World), (callFunc 59 args).run Try.prog w = .ok (.enter 59 args) w := enters Try.func59 (by kernel_rfl) rfl
theorem en60 : ∀ (args : Array Value) (w : World), (callFunc 60 args).run Try.prog w = .ok (.enter 60 args) w := enters Try.func60 (by kernel_rfl) rfl
theorem en61 : ∀ (args : Array Value) (w : World), (callFunc 61 args).run Try.prog w = .ok (.enter 61 args) w := enters Try.func61 (by kernel_rfl) rfl
theorem en62 : ∀ (args : Array Value) (w : World), (callFunc 62 args).run Try.prog w = .ok (.enter 62 args) w := enters Try.func62 (by kernel_rfl) rfl
theorem en63 : ∀ (args : Array Value) (w : World), (callFunc 63 args).run Try.prog w = .ok (.enter 63 args) w := enters Try.func63 (by kernel_rfl) rfl
theorem en64 : ∀ (args : Array Value) (w : World), (callFunc 64 args).run Try.prog w = .ok (.enter 64 args) w := enters Try.func64 (by kernel_rfl) rfl
theorem en65 : ∀ (args : Array Value) (w : World), (callFunc 65 args).run Try.prog w = .ok (.enter 65 args) w := enters Try.func65 (by kernel_rfl) rfl
theorem en66 : ∀ (args : Array Value) (w : World), (callFunc 66 args).run Try.prog w = .ok (.enter 66 args) w := enters Try.func66 (by kernel_rfl) rfl
theorem mixed : Try.prog.follows .mixedOrders = true := by kernel_rfl
end Go.Proofs.Ythongcaijgfojaa
