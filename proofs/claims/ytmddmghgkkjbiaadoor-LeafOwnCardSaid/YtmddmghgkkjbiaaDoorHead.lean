/-
  What the program's tables say of the types and functions that the proofs of this seat name: closed facts, by the kernel. (Printed by a program of this repo, wip/gen/header.py.)
-/
import Derived.Test.YtmddmghgkkjbiaaDoorProg
import Derived.Test.YtmddmghgkkjbiaaDoorBaseE
import Derived.KernelRfl
namespace Go.Proofs.YtmddmghgkkjbiaaDoor
open Go Go.SL Go.Proofs

theorem T1 : Ty1 Tryd.prog 1 := ty1_of (by kernel_rfl)
theorem Z1 : (Tryd.prog.info? 1).map (·.size) = some 1 := by kernel_rfl
theorem Zv1 : (Tryd.prog.info? 1).bind (·.zero) = some .nilFunc := by kernel_rfl
theorem T2 : Ty1 Tryd.prog 2 := ty1_of (by kernel_rfl)
theorem Z2 : (Tryd.prog.info? 2).map (·.size) = some 1 := by kernel_rfl
theorem Zv2 : (Tryd.prog.info? 2).bind (·.zero) = some (.int .i64 (0)) := by kernel_rfl
theorem T3 : Ty1 Tryd.prog 3 := ty1_of (by kernel_rfl)
theorem Z3 : (Tryd.prog.info? 3).map (·.size) = some 1 := by kernel_rfl
theorem Zv3 : (Tryd.prog.info? 3).bind (·.zero) = some (.int .i64 (0)) := by kernel_rfl
theorem T4 : Ty1 Tryd.prog 4 := ty1_of (by kernel_rfl)
theorem Z4 : (Tryd.prog.info? 4).map (·.size) = some 1 := by kernel_rfl
theorem Zv4 : (Tryd.prog.info? 4).bind (·.zero) = some (.bool (false)) := by kernel_rfl
theorem T5 : Ty1 Tryd.prog 5 := ty1_of (by kernel_rfl)
theorem Z5 : (Tryd.prog.info? 5).map (·.size) = some 1 := by kernel_rfl
theorem Zv5 : (Tryd.prog.info? 5).bind (·.zero) = some (.int .u8 (0)) := by kernel_rfl
theorem T9 : Ty1 Tryd.prog 9 := ty1_of (by kernel_rfl)
theorem Z9 : (Tryd.prog.info? 9).map (·.size) = some 1 := by kernel_rfl
theorem Zv9 : (Tryd.prog.info? 9).bind (·.zero) = some (strV ([])) := by kernel_rfl
theorem T22 : Ty1 Tryd.prog 22 := ty1_of (by kernel_rfl)
theorem Z22 : (Tryd.prog.info? 22).map (·.size) = some 1 := by kernel_rfl
theorem Zv22 : (Tryd.prog.info? 22).bind (·.zero) = some (.slice none 0 0) := by kernel_rfl
theorem A24 : TyA Tryd.prog 24 256 := tyA_of (by kernel_rfl)
theorem Z24 : (Tryd.prog.info? 24).map (·.size) = some 256 := by kernel_rfl
def zc24 : List Value := List.replicate 256 (.int .u8 (0))
def zv24 : Value := .agg zc24.toArray
theorem Zv24 : (Tryd.prog.info? 24).bind (·.zero) = some zv24 := by kernel_rfl
theorem T27 : Ty1 Tryd.prog 27 := ty1_of (by kernel_rfl)
theorem Z27 : (Tryd.prog.info? 27).map (·.size) = some 1 := by kernel_rfl
theorem Zv27 : (Tryd.prog.info? 27).bind (·.zero) = some (.int .i64 (0)) := by kernel_rfl
theorem T35 : Ty1 Tryd.prog 35 := ty1_of (by kernel_rfl)
theorem Z35 : (Tryd.prog.info? 35).map (·.size) = some 1 := by kernel_rfl
theorem Zv35 : (Tryd.prog.info? 35).bind (·.zero) = some (.slice none 0 0) := by kernel_rfl
theorem T36 : Ty1 Tryd.prog 36 := ty1_of (by kernel_rfl)
theorem Z36 : (Tryd.prog.info? 36).map (·.size) = some 1 := by kernel_rfl
theorem Zv36 : (Tryd.prog.info? 36).bind (·.zero) = some (.int .u16 (0)) := by kernel_rfl
theorem A37 : TyA Tryd.prog 37 2 := tyA_of (by kernel_rfl)
theorem Z37 : (Tryd.prog.info? 37).map (·.size) = some 2 := by kernel_rfl
theorem Zv37 : (Tryd.prog.info? 37).bind (·.zero) = some (.agg #[(.int .u16 (0)), (.int .u16 (0))]) := by kernel_rfl
theorem T38 : Ty1 Tryd.prog 38 := ty1_of (by kernel_rfl)
theorem Z38 : (Tryd.prog.info? 38).map (·.size) = some 1 := by kernel_rfl
theorem Zv38 : (Tryd.prog.info? 38).bind (·.zero) = some (.int .u32 (0)) := by kernel_rfl
theorem T39 : Ty1 Tryd.prog 39 := ty1_of (by kernel_rfl)
theorem Z39 : (Tryd.prog.info? 39).map (·.size) = some 1 := by kernel_rfl
theorem Zv39 : (Tryd.prog.info? 39).bind (·.zero) = some (.int .u64 (0)) := by kernel_rfl
theorem A41 : TyA Tryd.prog 41 5 := tyA_of (by kernel_rfl)
theorem Z41 : (Tryd.prog.info? 41).map (·.size) = some 5 := by kernel_rfl
theorem Zv41 : (Tryd.prog.info? 41).bind (·.zero) = some (.agg #[(.int .u8 (0)), (.int .u16 (0)), (.int .u16 (0)), (.int .u32 (0)), (.int .u64 (0))]) := by kernel_rfl
theorem Fd41_0 : Fld Tryd.prog 41 0 0 := fld_of (by kernel_rfl)
theorem Fd41_1 : Fld Tryd.prog 41 1 1 := fld_of (by kernel_rfl)
theorem Fd41_2 : Fld Tryd.prog 41 2 3 := fld_of (by kernel_rfl)
theorem Fd41_3 : Fld Tryd.prog 41 3 4 := fld_of (by kernel_rfl)
theorem A43 : TyA Tryd.prog 43 8 := tyA_of (by kernel_rfl)
theorem Z43 : (Tryd.prog.info? 43).map (·.size) = some 8 := by kernel_rfl
theorem Zv43 : (Tryd.prog.info? 43).bind (·.zero) = some (.agg #[(.slice none 0 0), (.slice none 0 0), (.int .u8 (0)), (.int .u16 (0)), (.int .u16 (0)), (.int .u32 (0)), (.int .u64 (0)), (.int .u16 (0))]) := by kernel_rfl
theorem Fd43_0 : Fld Tryd.prog 43 0 0 := fld_of (by kernel_rfl)
theorem Fd43_1 : Fld Tryd.prog 43 1 1 := fld_of (by kernel_rfl)
theorem Fd43_2 : Fld Tryd.prog 43 2 2 := fld_of (by kernel_rfl)
theorem Fd43_3 : Fld Tryd.prog 43 3 7 := fld_of (by kernel_rfl)
theorem T52 : Ty1 Tryd.prog 52 := ty1_of (by kernel_rfl)
theorem Z52 : (Tryd.prog.info? 52).map (·.size) = some 1 := by kernel_rfl
theorem Zv52 : (Tryd.prog.info? 52).bind (·.zero) = some .nilFunc := by kernel_rfl
theorem T53 : Ty1 Tryd.prog 53 := ty1_of (by kernel_rfl)
theorem Z53 : (Tryd.prog.info? 53).map (·.size) = some 1 := by kernel_rfl
theorem Zv53 : (Tryd.prog.info? 53).bind (·.zero) = some (.pointer none) := by kernel_rfl
theorem A55 : TyA Tryd.prog 55 2 := tyA_of (by kernel_rfl)
theorem Z55 : (Tryd.prog.info? 55).map (·.size) = some 2 := by kernel_rfl
theorem Zv55 : (Tryd.prog.info? 55).bind (·.zero) = some (.agg #[(.slice none 0 0), (.int .i64 (0))]) := by kernel_rfl
theorem Fd55_0 : Fld Tryd.prog 55 0 0 := fld_of (by kernel_rfl)
theorem Fd55_1 : Fld Tryd.prog 55 1 1 := fld_of (by kernel_rfl)
theorem T57 : Ty1 Tryd.prog 57 := ty1_of (by kernel_rfl)
theorem Z57 : (Tryd.prog.info? 57).map (·.size) = some 1 := by kernel_rfl
theorem Zv57 : (Tryd.prog.info? 57).bind (·.zero) = some .nilFunc := by kernel_rfl
theorem T58 : Ty1 Tryd.prog 58 := ty1_of (by kernel_rfl)
theorem Z58 : (Tryd.prog.info? 58).map (·.size) = some 1 := by kernel_rfl
theorem Zv58 : (Tryd.prog.info? 58).bind (·.zero) = some .nilFunc := by kernel_rfl
theorem T63 : Ty1 Tryd.prog 63 := ty1_of (by kernel_rfl)
theorem Z63 : (Tryd.prog.info? 63).map (·.size) = some 1 := by kernel_rfl
theorem Zv63 : (Tryd.prog.info? 63).bind (·.zero) = some .nilFunc := by kernel_rfl
theorem A69 : TyA Tryd.prog 69 5 := tyA_of (by kernel_rfl)
theorem Z69 : (Tryd.prog.info? 69).map (·.size) = some 5 := by kernel_rfl
theorem Zv69 : (Tryd.prog.info? 69).bind (·.zero) = some (.agg #[(.int .u64 (0)), (.int .u64 (0)), (.int .u64 (0)), (.int .u64 (0)), (.int .u64 (0))]) := by kernel_rfl
theorem A70 : TyA Tryd.prog 70 5 := tyA_of (by kernel_rfl)
theorem Z70 : (Tryd.prog.info? 70).map (·.size) = some 5 := by kernel_rfl
theorem Zv70 : (Tryd.prog.info? 70).bind (·.zero) = some (.agg #[(.int .i64 (0)), (.int .i64 (0)), (.int .i64 (0)), (.int .i64 (0)), (.int .i64 (0))]) := by kernel_rfl
theorem T72 : Ty1 Tryd.prog 72 := ty1_of (by kernel_rfl)
theorem Z72 : (Tryd.prog.info? 72).map (·.size) = some 1 := by kernel_rfl
theorem Zv72 : (Tryd.prog.info? 72).bind (·.zero) = some .nilFunc := by kernel_rfl
theorem T73 : Ty1 Tryd.prog 73 := ty1_of (by kernel_rfl)
theorem Z73 : (Tryd.prog.info? 73).map (·.size) = some 1 := by kernel_rfl
theorem Zv73 : (Tryd.prog.info? 73).bind (·.zero) = some .nilFunc := by kernel_rfl
theorem T82 : Ty1 Tryd.prog 82 := ty1_of (by kernel_rfl)
theorem Z82 : (Tryd.prog.info? 82).map (·.size) = some 1 := by kernel_rfl
theorem Zv82 : (Tryd.prog.info? 82).bind (·.zero) = some (.int .u64 (0)) := by kernel_rfl
theorem T87 : Ty1 Tryd.prog 87 := ty1_of (by kernel_rfl)
theorem Z87 : (Tryd.prog.info? 87).map (·.size) = some 1 := by kernel_rfl
theorem Zv87 : (Tryd.prog.info? 87).bind (·.zero) = some (.slice none 0 0) := by kernel_rfl
theorem T89 : Ty1 Tryd.prog 89 := ty1_of (by kernel_rfl)
theorem Z89 : (Tryd.prog.info? 89).map (·.size) = some 1 := by kernel_rfl
theorem Zv89 : (Tryd.prog.info? 89).bind (·.zero) = some .nilFunc := by kernel_rfl
theorem T92 : Ty1 Tryd.prog 92 := ty1_of (by kernel_rfl)
theorem Z92 : (Tryd.prog.info? 92).map (·.size) = some 1 := by kernel_rfl
theorem Zv92 : (Tryd.prog.info? 92).bind (·.zero) = some .nilFunc := by kernel_rfl
theorem T93 : Ty1 Tryd.prog 93 := ty1_of (by kernel_rfl)
theorem Z93 : (Tryd.prog.info? 93).map (·.size) = some 1 := by kernel_rfl
theorem Zv93 : (Tryd.prog.info? 93).bind (·.zero) = some .nilFunc := by kernel_rfl
theorem T95 : Ty1 Tryd.prog 95 := ty1_of (by kernel_rfl)
theorem Z95 : (Tryd.prog.info? 95).map (·.size) = some 1 := by kernel_rfl
theorem Zv95 : (Tryd.prog.info? 95).bind (·.zero) = some .nilFunc := by kernel_rfl
theorem T96 : Ty1 Tryd.prog 96 := ty1_of (by kernel_rfl)
theorem Z96 : (Tryd.prog.info? 96).map (·.size) = some 1 := by kernel_rfl
theorem Zv96 : (Tryd.prog.info? 96).bind (·.zero) = some .nilFunc := by kernel_rfl
theorem T98 : Ty1 Tryd.prog 98 := ty1_of (by kernel_rfl)
theorem Z98 : (Tryd.prog.info? 98).map (·.size) = some 1 := by kernel_rfl
theorem Zv98 : (Tryd.prog.info? 98).bind (·.zero) = some .nilFunc := by kernel_rfl
theorem T99 : Ty1 Tryd.prog 99 := ty1_of (by kernel_rfl)
theorem Z99 : (Tryd.prog.info? 99).map (·.size) = some 1 := by kernel_rfl
theorem Zv99 : (Tryd.prog.info? 99).bind (·.zero) = some .nilFunc := by kernel_rfl
theorem S22 : TyS Tryd.prog 22 43 8 80 (.agg #[(.slice none 0 0), (.slice none 0 0), (.int .u8 (0)), (.int .u16 (0)), (.int .u16 (0)), (.int .u32 (0)), (.int .u64 (0)), (.int .u16 (0))]) := tyS_of Tryd.underlying22 (by kernel_rfl) rfl
theorem S35 : TyS Tryd.prog 35 5 1 1 (.int .u8 (0)) := tyS_of Tryd.underlying35 (by kernel_rfl) rfl
theorem S87 : TyS Tryd.prog 87 35 1 24 (.slice none 0 0) := tyS_of Tryd.underlying87 (by kernel_rfl) rfl
theorem en2 : ∀ (args : Array Value) (w : World), (callFunc 2 args).run Tryd.prog w = .ok (.enter 2 args) w := enters Tryd.func2 (by kernel_rfl) rfl
theorem en3 : ∀ (args : Array Value) (w : World), (callFunc 3 args).run Tryd.prog w = .ok (.enter 3 args) w := enters Tryd.func3 (by kernel_rfl) rfl
theorem en4 : ∀ (args : Array Value) (w : World), (callFunc 4 args).run Tryd.prog w = .ok (.enter 4 args) w := enters Tryd.func4 (by kernel_rfl) rfl
theorem en5 : ∀ (args : Array Value) (w : World), (callFunc 5 args).run Tryd.prog w = .ok (.enter 5 args) w := enters Tryd.func5 (by kernel_rfl) rfl
theorem en6 : ∀ (args : Array Value) (w : World), (callFunc 6 args).run Tryd.prog w = .ok (.enter 6 args) w := enters Tryd.func6 (by kernel_rfl) rfl
theorem en7 : ∀ (args : Array Value) (w : World), (callFunc 7 args).run Tryd.prog w = .ok (.enter 7 args) w := enters Tryd.func7 (by kernel_rfl) rfl
theorem en8 : ∀ (args : Array Value) (w : World), (callFunc 8 args).run Tryd.prog w = .ok (.enter 8 args) w := enters Tryd.func8 (by kernel_rfl) rfl
theorem en9 : ∀ (args : Array Value) (w : World), (callFunc 9 args).run Tryd.prog w = .ok (.enter 9 args) w := enters Tryd.func9 (by kernel_rfl) rfl
theorem en10 : ∀ (args : Array Value) (w : World), (callFunc 10 args).run Tryd.prog w = .ok (.enter 10 args) w := enters Tryd.func10 (by kernel_rfl) rfl
theorem en11 : ∀ (args : Array Value) (w : World), (callFunc 11 args).run Tryd.prog w = .ok (.enter 11 args) w := enters Tryd.func11 (by kernel_rfl) rfl
theorem en12 : ∀ (args : Array Value) (w : World), (callFunc 12 args).run Tryd.prog w = .ok (.enter 12 args) w := enters Tryd.func12 (by kernel_rfl) rfl
theorem en13 : ∀ (args : Array Value) (w : World), (callFunc 13 args).run Tryd.prog w = .ok (.enter 13 args) w := enters Tryd.func13 (by kernel_rfl) rfl
theorem en14 : ∀ (args : Array Value) (w : World), (callFunc 14 args).run Tryd.prog w = .ok (.enter 14 args) w := enters Tryd.func14 (by kernel_rfl) rfl
theorem en15 : ∀ (args : Array Value) (w : World), (callFunc 15 args).run Tryd.prog w = .ok (.enter 15 args) w := enters Tryd.func15 (by kernel_rfl) rfl
theorem en16 : ∀ (args : Array Value) (w : World), (callFunc 16 args).run Tryd.prog w = .ok (.enter 16 args) w := enters Tryd.func16 (by kernel_rfl) rfl
theorem en17 : ∀ (args : Array Value) (w : World), (callFunc 17 args).run Tryd.prog w = .ok (.enter 17 args) w := enters Tryd.func17 (by kernel_rfl) rfl
theorem en18 : ∀ (args : Array Value) (w : World), (callFunc 18 args).run Tryd.prog w = .ok (.enter 18 args) w := enters Tryd.func18 (by kernel_rfl) rfl
theorem en19 : ∀ (args : Array Value) (w : World), (callFunc 19 args).run Tryd.prog w = .ok (.enter 19 args) w := enters Tryd.func19 (by kernel_rfl) rfl
theorem en20 : ∀ (args : Array Value) (w : World), (callFunc 20 args).run Tryd.prog w = .ok (.enter 20 args) w := enters Tryd.func20 (by kernel_rfl) rfl
theorem en21 : ∀ (args : Array Value) (w : World), (callFunc 21 args).run Tryd.prog w = .ok (.enter 21 args) w := enters Tryd.func21 (by kernel_rfl) rfl
theorem en22 : ∀ (args : Array Value) (w : World), (callFunc 22 args).run Tryd.prog w = .ok (.enter 22 args) w := enters Tryd.func22 (by kernel_rfl) rfl
theorem en23 : ∀ (args : Array Value) (w : World), (callFunc 23 args).run Tryd.prog w = .ok (.enter 23 args) w := enters Tryd.func23 (by kernel_rfl) rfl
theorem en24 : ∀ (args : Array Value) (w : World), (callFunc 24 args).run Tryd.prog w = .ok (.enter 24 args) w := enters Tryd.func24 (by kernel_rfl) rfl
theorem en25 : ∀ (args : Array Value) (w : World), (callFunc 25 args).run Tryd.prog w = .ok (.enter 25 args) w := enters Tryd.func25 (by kernel_rfl) rfl
theorem en26 : ∀ (args : Array Value) (w : World), (callFunc 26 args).run Tryd.prog w = .ok (.enter 26 args) w := enters Tryd.func26 (by kernel_rfl) rfl
theorem en27 : ∀ (args : Array Value) (w : World), (callFunc 27 args).run Tryd.prog w = .ok (.enter 27 args) w := enters Tryd.func27 (by kernel_rfl) rfl
theorem en28 : ∀ (args : Array Value) (w : World), (callFunc 28 args).run Tryd.prog w = .ok (.enter 28 args) w := enters Tryd.func28 (by kernel_rfl) rfl
theorem en29 : ∀ (args : Array Value) (w : World), (callFunc 29 args).run Tryd.prog w = .ok (.enter 29 args) w := enters Tryd.func29 (by kernel_rfl) rfl
theorem en30 : ∀ (args : Array Value) (w : World), (callFunc 30 args).run Tryd.prog w = .ok (.enter 30 args) w := enters Tryd.func30 (by kernel_rfl) rfl
theorem en31 : ∀ (args : Array Value) (w : World), (callFunc 31 args).run Tryd.prog w = .ok (.enter 31 args) w := enters Tryd.func31 (by kernel_rfl) rfl
theorem en32 : ∀ (args : Array Value) (w : World), (callFunc 32 args).run Tryd.prog w = .ok (.enter 32 args) w := enters Tryd.func32 (by kernel_rfl) rfl
theorem en33 : ∀ (args : Array Value) (w : World), (callFunc 33 args).run Tryd.prog w = .ok (.enter 33 args) w := enters Tryd.func33 (by kernel_rfl) rfl
theorem en34 : ∀ (args : Array Value) (w : World), (callFunc 34 args).run Tryd.prog w = .ok (.enter 34 args) w := enters Tryd.func34 (by kernel_rfl) rfl
theorem en35 : ∀ (args : Array Value) (w : World), (callFunc 35 args).run Tryd.prog w = .ok (.enter 35 args) w := enters Tryd.func35 (by kernel_rfl) rfl
theorem en36 : ∀ (args : Array Value) (w : World), (callFunc 36 args).run Tryd.prog w = .ok (.enter 36 args) w := enters Tryd.func36 (by kernel_rfl) rfl
theorem en37 : ∀ (args : Array Value) (w : World), (callFunc 37 args).run Tryd.prog w = .ok (.enter 37 args) w := enters Tryd.func37 (by kernel_rfl) rfl
theorem en38 : ∀ (args : Array Value) (w : World), (callFunc 38 args).run Tryd.prog w = .ok (.enter 38 args) w := enters Tryd.func38 (by kernel_rfl) rfl
theorem en39 : ∀ (args : Array Value) (w : World), (callFunc 39 args).run Tryd.prog w = .ok (.enter 39 args) w := enters Tryd.func39 (by kernel_rfl) rfl
theorem en40 : ∀ (args : Array Value) (w : World), (callFunc 40 args).run Tryd.prog w = .ok (.enter 40 args) w := enters Tryd.func40 (by kernel_rfl) rfl
theorem en41 : ∀ (args : Array Value) (w : World), (callFunc 41 args).run Tryd.prog w = .ok (.enter 41 args) w := enters Tryd.func41 (by kernel_rfl) rfl
theorem en42 : ∀ (args : Array Value) (w : World), (callFunc 42 args).run Tryd.prog w = .ok (.enter 42 args) w := enters Tryd.func42 (by kernel_rfl) rfl
theorem en43 : ∀ (args : Array Value) (w : World), (callFunc 43 args).run Tryd.prog w = .ok (.enter 43 args) w := enters Tryd.func43 (by kernel_rfl) rfl
theorem en44 : ∀ (args : Array Value) (w : World), (callFunc 44 args).run Tryd.prog w = .ok (.enter 44 args) w := enters Tryd.func44 (by kernel_rfl) rfl
theorem en45 : ∀ (args : Array Value) (w : World), (callFunc 45 args).run Tryd.prog w = .ok (.enter 45 args) w := enters Tryd.func45 (by kernel_rfl) rfl
theorem en46 : ∀ (args : Array Value) (w : World), (callFunc 46 args).run Tryd.prog w = .ok (.enter 46 args) w := enters Tryd.func46 (by kernel_rfl) rfl
theorem en47 : ∀ (args : Array Value) (w : World), (callFunc 47 args).run Tryd.prog w = .ok (.enter 47 args) w := enters Tryd.func47 (by kernel_rfl) rfl
theorem en48 : ∀ (args : Array Value) (w : World), (callFunc 48 args).run Tryd.prog w = .ok (.enter 48 args) w := enters Tryd.func48 (by kernel_rfl) rfl
theorem en49 : ∀ (args : Array Value) (w : World), (callFunc 49 args).run Tryd.prog w = .ok (.enter 49 args) w := enters Tryd.func49 (by kernel_rfl) rfl
theorem en51 : ∀ (args : Array Value) (w : World), (callFunc 51 args).run Tryd.prog w = .ok (.enter 51 args) w := enters Tryd.func51 (by kernel_rfl) rfl
theorem en52 : ∀ (args : Array Value) (w : World), (callFunc 52 args).run Tryd.prog w = .ok (.enter 52 args) w := enters Tryd.func52 (by kernel_rfl) rfl
theorem en53 : ∀ (args : Array Value) (w : World), (callFunc 53 args).run Tryd.prog w = .ok (.enter 53 args) w := enters Tryd.func53 (by kernel_rfl) rfl
theorem en54 : ∀ (args : Array Value) (w : World), (callFunc 54 args).run Tryd.prog w = .ok (.enter 54 args) w := enters Tryd.func54 (by kernel_rfl) rfl
theorem en55 : ∀ (args : Array Value) (w : World), (callFunc 55 args).run Tryd.prog w = .ok (.enter 55 args) w := enters Tryd.func55 (by kernel_rfl) rfl
theorem en56 : ∀ (args : Array Value) (w : World), (callFunc 56 args).run Tryd.prog w = .ok (.enter 56 args) w := enters Tryd.func56 (by kernel_rfl) rfl
theorem en57 : ∀ (args : Array Value) (w : World), (callFunc 57 args).run Tryd.prog w = .ok (.enter 57 args) w := enters Tryd.func57 (by kernel_rfl) rfl
theorem en58 : ∀ (args : Array Value) (w : World), (callFunc 58 args).run Tryd.prog w = .ok (.enter 58 args) w := enters Tryd.func58 (by kernel_rfl) rfl
theorem en59 : ∀ (args : Array Value) (w : World), (callFunc 59 args).run Tryd.prog w = .ok (.enter 59 args) w := enters Tryd.func59 (by kernel_rfl) rfl
theorem en60 : ∀ (args : Array Value) (w : World), (callFunc 60 args).run Tryd.prog w = .ok (.enter 60 args) w := enters Tryd.func60 (by kernel_rfl) rfl
theorem en61 : ∀ (args : Array Value) (w : World), (callFunc 61 args).run Tryd.prog w = .ok (.enter 61 args) w := enters Tryd.func61 (by kernel_rfl) rfl
theorem en62 : ∀ (args : Array Value) (w : World), (callFunc 62 args).run Tryd.prog w = .ok (.enter 62 args) w := enters Tryd.func62 (by kernel_rfl) rfl
theorem en63 : ∀ (args : Array Value) (w : World), (callFunc 63 args).run Tryd.prog w = .ok (.enter 63 args) w := enters Tryd.func63 (by kernel_rfl) rfl
theorem en64 : ∀ (args : Array Value) (w : World), (callFunc 64 args).run Tryd.prog w = .ok (.enter 64 args) w := enters Tryd.func64 (by kernel_rfl) rfl
theorem en65 : ∀ (args : Array Value) (w : World), (callFunc 65 args).run Tryd.prog w = .ok (.enter 65 args) w := enters Tryd.func65 (by kernel_rfl) rfl
theorem en66 : ∀ (args : Array Value) (w : World), (callFunc 66 args).run Tryd.prog w = .ok (.enter 66 args) w := enters Tryd.func66 (by kernel_rfl) rfl
theorem en86 : ∀ (args : Array Value) (w : World), (callFunc 86 args).run Tryd.prog w = .ok (.enter 86 args) w := enters Tryd.func86 (by kernel_rfl) rfl
theorem mixed : Tryd.prog.follows .mixedOrders = true := by kernel_rfl
end Go.Proofs.YtmddmghgkkjbiaaDoor
