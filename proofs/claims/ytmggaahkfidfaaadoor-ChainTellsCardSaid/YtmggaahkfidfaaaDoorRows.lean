/-
  NARROWER THAN 'FOR EVERY INPUT', by the rows' own cells (each row's printed sentence says how): ChainBack: laid · ChainBytes: laid · ChainTells: laid · ChainPieces: laid.
  DERIVED. THE GIVEN ROWS OF THIS SEAT. 4 by the template 'for every input the law returns true; each argument reads behind the call as it read before'; 0 by the template 'total and deterministic' (their statements: YtmggaahkfidfaaaDoorTotals.lean).
  GIVEN WITH THE SEED: the statements are not yours to turn. If you find one false, say at which input.
  Laid BY PROGRAM, IN A SANDBOX (cutbox-rows.mjs): the forced cells as the released guide's own fill.sh prints them over the translation f707c2aeee4f3f11… (all of the seat's roots in one cut). By AI agents, Wed Nov 11 2026. No macro, syntax, notation, axiom, sorry.
-/
import Derived.Test.YtmggaahkfidfaaaDoorChecked
import GoSem.Claim
import GoSem.ClaimJoined
import GoSem.ClaimMapViews
import Derived.JoinedTies
import Derived.KernelRfl
namespace Go.Proofs.YtmggaahkfidfaaaDoor
/- THE CELL 'sum', in the pinned program and in every row, IS THE sha256 OF THE DUMP (.gsa) THAT YtmggaahkfidfaaaDoorProg.lean LOADS. Nothing in Lean hashes anything: it is a label: what it is worth is what the hold of that sum in a sandbox is worth. -/
noncomputable def Tryd.pinned : Pinned := { name := "ytmggaahkfidfaaadoor", sum := "f707c2aeee4f3f110151e3a251ee127befdeff478e9408999ca83004a6151c45", checked := Tryd.checked }
namespace Rows
def none {H : Type} : Left H := { results := [], args := [] }

/- WHAT THE LISTED PACKAGE-LEVEL VARIABLES READ AS WHEN THE CALL BEGINS. Each datum BY PROGRAM (the guide's laid-datum.mjs) off the statement by which the dump's own 'gosem.cut.vars' lays the variable. In a bare row this is a premise. The card (YtmggaahkfidfaaaDoorCards.lean) ties it to the program's text. -/
def laid_suture_ptr_widths {H : Type} : DataW H := .agg [.lit (.int .i64 1), .lit (.int .i64 2), .lit (.int .i64 2), .lit (.int .i64 4), .lit (.int .i64 8)]

/-- 'suturelaw08.ChainBack': WHATEVER THE INPUT: true; the input reads as it did. -/
def chainBackSpec : ChangeSpec := { name := "chainBack", fn := fun _ => fun
  | [d1, d2, d3] => { results := [.lit (.bool true)], args := [d1, d2, d3] }
  | _ => none }
def chainBackRow : OpenClaim := { program := "ytmggaahkfidfaaadoor", sum := "f707c2aeee4f3f110151e3a251ee127befdeff478e9408999ca83004a6151c45", func := "suture/suturelaw08.ChainBack", spec := "chainBack", unfollowed := true, recurses := true, named := ["suture/ptr.widths"], apart := false, laid := [("suture/ptr.widths", laid_suture_ptr_widths)] }
def ChainBackSaid : Prop := chainBackRow.holds Tryd.pinned (OpenSpec.ofChange chainBackSpec)

/-- ITS FALSE NEIGHBOUR: 'it returns false'. Refute it at one input. -/
def chainBackWrong : ChangeSpec := { name := "chainBack", fn := fun _ => fun
  | [d1, d2, d3] => { results := [.lit (.bool false)], args := [d1, d2, d3] }
  | _ => none }
def ChainBackWrongFalsely : Prop := chainBackRow.holds Tryd.pinned (OpenSpec.ofChange chainBackWrong)

/-- 'suturelaw08.ChainBytes': WHATEVER THE INPUT: true; the input reads as it did. -/
def chainBytesSpec : ChangeSpec := { name := "chainBytes", fn := fun _ => fun
  | [d1, d2, d3] => { results := [.lit (.bool true)], args := [d1, d2, d3] }
  | _ => none }
def chainBytesRow : OpenClaim := { program := "ytmggaahkfidfaaadoor", sum := "f707c2aeee4f3f110151e3a251ee127befdeff478e9408999ca83004a6151c45", func := "suture/suturelaw08.ChainBytes", spec := "chainBytes", unfollowed := true, recurses := true, named := ["suture/ptr.widths"], apart := false, laid := [("suture/ptr.widths", laid_suture_ptr_widths)] }
def ChainBytesSaid : Prop := chainBytesRow.holds Tryd.pinned (OpenSpec.ofChange chainBytesSpec)

/-- ITS FALSE NEIGHBOUR: 'it returns false'. Refute it at one input. -/
def chainBytesWrong : ChangeSpec := { name := "chainBytes", fn := fun _ => fun
  | [d1, d2, d3] => { results := [.lit (.bool false)], args := [d1, d2, d3] }
  | _ => none }
def ChainBytesWrongFalsely : Prop := chainBytesRow.holds Tryd.pinned (OpenSpec.ofChange chainBytesWrong)

/-- 'suturelaw08.ChainTells': WHATEVER THE INPUT: true; the input reads as it did. -/
def chainTellsSpec : ChangeSpec := { name := "chainTells", fn := fun _ => fun
  | [d1, d2, d3, d4] => { results := [.lit (.bool true)], args := [d1, d2, d3, d4] }
  | _ => none }
def chainTellsRow : OpenClaim := { program := "ytmggaahkfidfaaadoor", sum := "f707c2aeee4f3f110151e3a251ee127befdeff478e9408999ca83004a6151c45", func := "suture/suturelaw08.ChainTells", spec := "chainTells", unfollowed := true, recurses := true, named := ["suture/ptr.widths"], apart := false, laid := [("suture/ptr.widths", laid_suture_ptr_widths)] }
def ChainTellsSaid : Prop := chainTellsRow.holds Tryd.pinned (OpenSpec.ofChange chainTellsSpec)

/-- ITS FALSE NEIGHBOUR: 'it returns false'. Refute it at one input. -/
def chainTellsWrong : ChangeSpec := { name := "chainTells", fn := fun _ => fun
  | [d1, d2, d3, d4] => { results := [.lit (.bool false)], args := [d1, d2, d3, d4] }
  | _ => none }
def ChainTellsWrongFalsely : Prop := chainTellsRow.holds Tryd.pinned (OpenSpec.ofChange chainTellsWrong)

/-- 'suturelaw08.ChainPieces': WHATEVER THE INPUT: true; the input reads as it did. -/
def chainPiecesSpec : ChangeSpec := { name := "chainPieces", fn := fun _ => fun
  | [d] => { results := [.lit (.bool true)], args := [d] }
  | _ => none }
def chainPiecesRow : OpenClaim := { program := "ytmggaahkfidfaaadoor", sum := "f707c2aeee4f3f110151e3a251ee127befdeff478e9408999ca83004a6151c45", func := "suture/suturelaw08.ChainPieces", spec := "chainPieces", unfollowed := true, recurses := true, named := ["suture/ptr.widths"], apart := false, laid := [("suture/ptr.widths", laid_suture_ptr_widths)] }
def ChainPiecesSaid : Prop := chainPiecesRow.holds Tryd.pinned (OpenSpec.ofChange chainPiecesSpec)

/-- ITS FALSE NEIGHBOUR: 'it returns false'. Refute it at one input. -/
def chainPiecesWrong : ChangeSpec := { name := "chainPieces", fn := fun _ => fun
  | [d] => { results := [.lit (.bool false)], args := [d] }
  | _ => none }
def ChainPiecesWrongFalsely : Prop := chainPiecesRow.holds Tryd.pinned (OpenSpec.ofChange chainPiecesWrong)

/- THE SECOND FORM. 'bulk': how many values and letters a reading holds, each counted each time it is reached (what is shared counts as often as it is met; a slice's spare places count too). A statement '..UptoSaid' is the law's where the arguments, and the package variables that the reading takes, are together of bulk at most 1048576: NARROWER than '..Said'. Prove '..Said' where nothing that the law and all that it calls make is longer than what came in: it says more and counts as full. Else prove '..UptoSaid'. A law counts once. -/
mutual
def uptoBulk {H : Type} : DataW H → Nat
  | .lit (.string bytes) => bytes.length + 1
  | .lit _ => 1
  | .nil => 1
  | .ptr d => uptoBulk d + 1
  | .slice elems spare => uptoBulkAll elems + uptoBulkAll spare + 1
  | .agg parts => uptoBulkAll parts + 1
  | .iface _ d => uptoBulk d + 1
  | .map entries => uptoBulkEntries entries + 1
  | .held _ => 1
def uptoBulkAll {H : Type} : List (DataW H) → Nat
  | [] => 0
  | d :: r => uptoBulk d + uptoBulkAll r
def uptoBulkEntries {H : Type} : List (Lit × DataW H) → Nat
  | [] => 0
  | x :: r => uptoBulkEntry x + uptoBulkEntries r
def uptoBulkEntry {H : Type} : Lit × DataW H → Nat
  | (.string bytes, d) => bytes.length + uptoBulk d + 1
  | (_, d) => uptoBulk d + 1
 end
def uptoSmall : (H : Type) → List (DataW H) → Bool := fun _ ds => decide (uptoBulkAll ds ≤ 1048576)
def OpenSpec.upto (s : _root_.Go.ChangeSpec) : _root_.Go.OpenSpec := { _root_.Go.OpenSpec.ofChange s with cond := some uptoSmall }

/-- 'suturelaw08.ChainBack', WHERE WHAT IT READS IS OF BULK AT MOST 1048576: true; the input reads as it did. -/
def chainBackUptoRow : OpenClaim := { program := "ytmggaahkfidfaaadoor", sum := "f707c2aeee4f3f110151e3a251ee127befdeff478e9408999ca83004a6151c45", func := "suture/suturelaw08.ChainBack", spec := "chainBack", unfollowed := true, recurses := true, named := ["suture/ptr.widths"], apart := false, laid := [("suture/ptr.widths", laid_suture_ptr_widths)], narrowed := true }
def ChainBackUptoSaid : Prop := chainBackUptoRow.holds Tryd.pinned (OpenSpec.upto chainBackSpec)

/-- 'suturelaw08.ChainBytes', WHERE WHAT IT READS IS OF BULK AT MOST 1048576: true; the input reads as it did. -/
def chainBytesUptoRow : OpenClaim := { program := "ytmggaahkfidfaaadoor", sum := "f707c2aeee4f3f110151e3a251ee127befdeff478e9408999ca83004a6151c45", func := "suture/suturelaw08.ChainBytes", spec := "chainBytes", unfollowed := true, recurses := true, named := ["suture/ptr.widths"], apart := false, laid := [("suture/ptr.widths", laid_suture_ptr_widths)], narrowed := true }
def ChainBytesUptoSaid : Prop := chainBytesUptoRow.holds Tryd.pinned (OpenSpec.upto chainBytesSpec)

/-- 'suturelaw08.ChainTells', WHERE WHAT IT READS IS OF BULK AT MOST 1048576: true; the input reads as it did. -/
def chainTellsUptoRow : OpenClaim := { program := "ytmggaahkfidfaaadoor", sum := "f707c2aeee4f3f110151e3a251ee127befdeff478e9408999ca83004a6151c45", func := "suture/suturelaw08.ChainTells", spec := "chainTells", unfollowed := true, recurses := true, named := ["suture/ptr.widths"], apart := false, laid := [("suture/ptr.widths", laid_suture_ptr_widths)], narrowed := true }
def ChainTellsUptoSaid : Prop := chainTellsUptoRow.holds Tryd.pinned (OpenSpec.upto chainTellsSpec)

/-- 'suturelaw08.ChainPieces', WHERE WHAT IT READS IS OF BULK AT MOST 1048576: true; the input reads as it did. -/
def chainPiecesUptoRow : OpenClaim := { program := "ytmggaahkfidfaaadoor", sum := "f707c2aeee4f3f110151e3a251ee127befdeff478e9408999ca83004a6151c45", func := "suture/suturelaw08.ChainPieces", spec := "chainPieces", unfollowed := true, recurses := true, named := ["suture/ptr.widths"], apart := false, laid := [("suture/ptr.widths", laid_suture_ptr_widths)], narrowed := true }
def ChainPiecesUptoSaid : Prop := chainPiecesUptoRow.holds Tryd.pinned (OpenSpec.upto chainPiecesSpec)

end Rows
end Go.Proofs.YtmggaahkfidfaaaDoor
