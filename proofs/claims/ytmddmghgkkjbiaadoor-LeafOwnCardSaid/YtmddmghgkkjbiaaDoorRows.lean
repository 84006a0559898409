/-
  NARROWER THAN 'FOR EVERY INPUT', by the rows' own cells (each row's printed sentence says how): LeafBack: laid · LeafBytes: laid · LeafRight: laid · LeafTells: laid · LeafOwn: laid.
  DERIVED. THE GIVEN ROWS OF THIS SEAT. 5 by the template 'for every input the law returns true; each argument reads behind the call as it read before'; 0 by the template 'total and deterministic' (their statements: YtmddmghgkkjbiaaDoorTotals.lean).
  GIVEN WITH THE SEED: the statements are not yours to turn. If you find one false, say at which input.
  Laid BY PROGRAM, IN A SANDBOX (cutbox-rows.mjs): the forced cells as the released guide's own fill.sh prints them over the translation bf51cfdc629d3c72… (all of the seat's roots in one cut). By AI agents, Wed Nov 11 2026. No macro, syntax, notation, axiom, sorry.
-/
import Derived.Test.YtmddmghgkkjbiaaDoorChecked
import GoSem.Claim
import GoSem.ClaimJoined
import GoSem.ClaimMapViews
import Derived.JoinedTies
import Derived.KernelRfl
namespace Go.Proofs.YtmddmghgkkjbiaaDoor
/- THE CELL 'sum', in the pinned program and in every row, IS THE sha256 OF THE DUMP (.gsa) THAT YtmddmghgkkjbiaaDoorProg.lean LOADS. Nothing in Lean hashes anything: it is a label: what it is worth is what the hold of that sum in a sandbox is worth. -/
noncomputable def Tryd.pinned : Pinned := { name := "ytmddmghgkkjbiaadoor", sum := "bf51cfdc629d3c720944e135fdd56a44f40b72a20fe04bef2d8987c9bcca7b95", checked := Tryd.checked }
namespace Rows
def none {H : Type} : Left H := { results := [], args := [] }

/- WHAT THE LISTED PACKAGE-LEVEL VARIABLES READ AS WHEN THE CALL BEGINS. Each datum BY PROGRAM (the guide's laid-datum.mjs) off the statement by which the dump's own 'gosem.cut.vars' lays the variable. In a bare row this is a premise. The card (YtmddmghgkkjbiaaDoorCards.lean) ties it to the program's text. -/
def laid_suture_ptr_widths {H : Type} : DataW H := .agg [.lit (.int .i64 1), .lit (.int .i64 2), .lit (.int .i64 2), .lit (.int .i64 4), .lit (.int .i64 8)]

/-- 'suturelaw06.LeafBack': WHATEVER THE INPUT: true; the input reads as it did. -/
def leafBackSpec : ChangeSpec := { name := "leafBack", fn := fun _ => fun
  | [d1, d2] => { results := [.lit (.bool true)], args := [d1, d2] }
  | _ => none }
def leafBackRow : OpenClaim := { program := "ytmddmghgkkjbiaadoor", sum := "bf51cfdc629d3c720944e135fdd56a44f40b72a20fe04bef2d8987c9bcca7b95", func := "suture/suturelaw06.LeafBack", spec := "leafBack", inPlace := ["internal/bytealg.Compare"], unfollowed := true, recurses := true, named := ["suture/ptr.widths"], apart := false, laid := [("suture/ptr.widths", laid_suture_ptr_widths)] }
def LeafBackSaid : Prop := leafBackRow.holds Tryd.pinned (OpenSpec.ofChange leafBackSpec)

/-- ITS FALSE NEIGHBOUR: 'it returns false'. Refute it at one input. -/
def leafBackWrong : ChangeSpec := { name := "leafBack", fn := fun _ => fun
  | [d1, d2] => { results := [.lit (.bool false)], args := [d1, d2] }
  | _ => none }
def LeafBackWrongFalsely : Prop := leafBackRow.holds Tryd.pinned (OpenSpec.ofChange leafBackWrong)

/-- 'suturelaw06.LeafBytes': WHATEVER THE INPUT: true; the input reads as it did. -/
def leafBytesSpec : ChangeSpec := { name := "leafBytes", fn := fun _ => fun
  | [d1, d2, d3] => { results := [.lit (.bool true)], args := [d1, d2, d3] }
  | _ => none }
def leafBytesRow : OpenClaim := { program := "ytmddmghgkkjbiaadoor", sum := "bf51cfdc629d3c720944e135fdd56a44f40b72a20fe04bef2d8987c9bcca7b95", func := "suture/suturelaw06.LeafBytes", spec := "leafBytes", inPlace := ["internal/bytealg.Compare"], unfollowed := true, recurses := true, named := ["suture/ptr.widths"], apart := false, laid := [("suture/ptr.widths", laid_suture_ptr_widths)] }
def LeafBytesSaid : Prop := leafBytesRow.holds Tryd.pinned (OpenSpec.ofChange leafBytesSpec)

/-- ITS FALSE NEIGHBOUR: 'it returns false'. Refute it at one input. -/
def leafBytesWrong : ChangeSpec := { name := "leafBytes", fn := fun _ => fun
  | [d1, d2, d3] => { results := [.lit (.bool false)], args := [d1, d2, d3] }
  | _ => none }
def LeafBytesWrongFalsely : Prop := leafBytesRow.holds Tryd.pinned (OpenSpec.ofChange leafBytesWrong)

/-- 'suturelaw06.LeafRight': WHATEVER THE INPUT: true; the input reads as it did. -/
def leafRightSpec : ChangeSpec := { name := "leafRight", fn := fun _ => fun
  | [d1, d2, d3, d4] => { results := [.lit (.bool true)], args := [d1, d2, d3, d4] }
  | _ => none }
def leafRightRow : OpenClaim := { program := "ytmddmghgkkjbiaadoor", sum := "bf51cfdc629d3c720944e135fdd56a44f40b72a20fe04bef2d8987c9bcca7b95", func := "suture/suturelaw06.LeafRight", spec := "leafRight", inPlace := ["internal/bytealg.Compare"], unfollowed := true, recurses := true, named := ["suture/ptr.widths"], apart := false, laid := [("suture/ptr.widths", laid_suture_ptr_widths)] }
def LeafRightSaid : Prop := leafRightRow.holds Tryd.pinned (OpenSpec.ofChange leafRightSpec)

/-- ITS FALSE NEIGHBOUR: 'it returns false'. Refute it at one input. -/
def leafRightWrong : ChangeSpec := { name := "leafRight", fn := fun _ => fun
  | [d1, d2, d3, d4] => { results := [.lit (.bool false)], args := [d1, d2, d3, d4] }
  | _ => none }
def LeafRightWrongFalsely : Prop := leafRightRow.holds Tryd.pinned (OpenSpec.ofChange leafRightWrong)

/-- 'suturelaw06.LeafTells': WHATEVER THE INPUT: true; the input reads as it did. -/
def leafTellsSpec : ChangeSpec := { name := "leafTells", fn := fun _ => fun
  | [d1, d2, d3] => { results := [.lit (.bool true)], args := [d1, d2, d3] }
  | _ => none }
def leafTellsRow : OpenClaim := { program := "ytmddmghgkkjbiaadoor", sum := "bf51cfdc629d3c720944e135fdd56a44f40b72a20fe04bef2d8987c9bcca7b95", func := "suture/suturelaw06.LeafTells", spec := "leafTells", inPlace := ["internal/bytealg.Compare"], unfollowed := true, recurses := true, named := ["suture/ptr.widths"], apart := false, laid := [("suture/ptr.widths", laid_suture_ptr_widths)] }
def LeafTellsSaid : Prop := leafTellsRow.holds Tryd.pinned (OpenSpec.ofChange leafTellsSpec)

/-- ITS FALSE NEIGHBOUR: 'it returns false'. Refute it at one input. -/
def leafTellsWrong : ChangeSpec := { name := "leafTells", fn := fun _ => fun
  | [d1, d2, d3] => { results := [.lit (.bool false)], args := [d1, d2, d3] }
  | _ => none }
def LeafTellsWrongFalsely : Prop := leafTellsRow.holds Tryd.pinned (OpenSpec.ofChange leafTellsWrong)

/-- 'suturelaw06.LeafOwn': WHATEVER THE INPUT: true; the input reads as it did. -/
def leafOwnSpec : ChangeSpec := { name := "leafOwn", fn := fun _ => fun
  | [d] => { results := [.lit (.bool true)], args := [d] }
  | _ => none }
def leafOwnRow : OpenClaim := { program := "ytmddmghgkkjbiaadoor", sum := "bf51cfdc629d3c720944e135fdd56a44f40b72a20fe04bef2d8987c9bcca7b95", func := "suture/suturelaw06.LeafOwn", spec := "leafOwn", inPlace := ["internal/bytealg.Compare"], unfollowed := true, recurses := true, named := ["suture/ptr.widths"], apart := false, laid := [("suture/ptr.widths", laid_suture_ptr_widths)] }
def LeafOwnSaid : Prop := leafOwnRow.holds Tryd.pinned (OpenSpec.ofChange leafOwnSpec)

/-- ITS FALSE NEIGHBOUR: 'it returns false'. Refute it at one input. -/
def leafOwnWrong : ChangeSpec := { name := "leafOwn", fn := fun _ => fun
  | [d] => { results := [.lit (.bool false)], args := [d] }
  | _ => none }
def LeafOwnWrongFalsely : Prop := leafOwnRow.holds Tryd.pinned (OpenSpec.ofChange leafOwnWrong)

/- THE SECOND FORM. 'bulk': how many values and letters a reading holds, each counted each time it is reached (what is shared counts as often as it is met; a slice's spare places count too). A statement '..UptoSaid' is the law's where the arguments, and the package variables that the reading takes, are together of bulk at most 1048576: NARROWER than '..Said'. Prove '..Said' where nothing that the law and all that it calls make is longer than what came in: it says more and counts as full. Else prove '..UptoSaid'. A law counts once. -/
mutual
def uptoBulk {H : Type} : DataW H → Nat
  | .lit (.string bytes) => bytes.length + 1
  | .lit _ => 1
  | .nil => 1
  | .ptr d => uptoBulk d + 1
  | .slice elems spare => uptoBulkAll elems + uptoBulkAll spare + 1
  | .agg parts => uptoBulkAll parts + 1
  | .iface _ d => uptoBulk d + 1
  | .map entries => uptoBulkEntries entries + 1
  | .held _ => 1
def uptoBulkAll {H : Type} : List (DataW H) → Nat
  | [] => 0
  | d :: r => uptoBulk d + uptoBulkAll r
def uptoBulkEntries {H : Type} : List (Lit × DataW H) → Nat
  | [] => 0
  | x :: r => uptoBulkEntry x + uptoBulkEntries r
def uptoBulkEntry {H : Type} : Lit × DataW H → Nat
  | (.string bytes, d) => bytes.length + uptoBulk d + 1
  | (_, d) => uptoBulk d + 1
 end
def uptoSmall : (H : Type) → List (DataW H) → Bool := fun _ ds => decide (uptoBulkAll ds ≤ 1048576)
def OpenSpec.upto (s : _root_.Go.ChangeSpec) : _root_.Go.OpenSpec := { _root_.Go.OpenSpec.ofChange s with cond := some uptoSmall }

/-- 'suturelaw06.LeafBack', WHERE WHAT IT READS IS OF BULK AT MOST 1048576: true; the input reads as it did. -/
def leafBackUptoRow : OpenClaim := { program := "ytmddmghgkkjbiaadoor", sum := "bf51cfdc629d3c720944e135fdd56a44f40b72a20fe04bef2d8987c9bcca7b95", func := "suture/suturelaw06.LeafBack", spec := "leafBack", inPlace := ["internal/bytealg.Compare"], unfollowed := true, recurses := true, named := ["suture/ptr.widths"], apart := false, laid := [("suture/ptr.widths", laid_suture_ptr_widths)], narrowed := true }
def LeafBackUptoSaid : Prop := leafBackUptoRow.holds Tryd.pinned (OpenSpec.upto leafBackSpec)

/-- 'suturelaw06.LeafBytes', WHERE WHAT IT READS IS OF BULK AT MOST 1048576: true; the input reads as it did. -/
def leafBytesUptoRow : OpenClaim := { program := "ytmddmghgkkjbiaadoor", sum := "bf51cfdc629d3c720944e135fdd56a44f40b72a20fe04bef2d8987c9bcca7b95", func := "suture/suturelaw06.LeafBytes", spec := "leafBytes", inPlace := ["internal/bytealg.Compare"], unfollowed := true, recurses := true, named := ["suture/ptr.widths"], apart := false, laid := [("suture/ptr.widths", laid_suture_ptr_widths)], narrowed := true }
def LeafBytesUptoSaid : Prop := leafBytesUptoRow.holds Tryd.pinned (OpenSpec.upto leafBytesSpec)

/-- 'suturelaw06.LeafRight', WHERE WHAT IT READS IS OF BULK AT MOST 1048576: true; the input reads as it did. -/
def leafRightUptoRow : OpenClaim := { program := "ytmddmghgkkjbiaadoor", sum := "bf51cfdc629d3c720944e135fdd56a44f40b72a20fe04bef2d8987c9bcca7b95", func := "suture/suturelaw06.LeafRight", spec := "leafRight", inPlace := ["internal/bytealg.Compare"], unfollowed := true, recurses := true, named := ["suture/ptr.widths"], apart := false, laid := [("suture/ptr.widths", laid_suture_ptr_widths)], narrowed := true }
def LeafRightUptoSaid : Prop := leafRightUptoRow.holds Tryd.pinned (OpenSpec.upto leafRightSpec)

/-- 'suturelaw06.LeafTells', WHERE WHAT IT READS IS OF BULK AT MOST 1048576: true; the input reads as it did. -/
def leafTellsUptoRow : OpenClaim := { program := "ytmddmghgkkjbiaadoor", sum := "bf51cfdc629d3c720944e135fdd56a44f40b72a20fe04bef2d8987c9bcca7b95", func := "suture/suturelaw06.LeafTells", spec := "leafTells", inPlace := ["internal/bytealg.Compare"], unfollowed := true, recurses := true, named := ["suture/ptr.widths"], apart := false, laid := [("suture/ptr.widths", laid_suture_ptr_widths)], narrowed := true }
def LeafTellsUptoSaid : Prop := leafTellsUptoRow.holds Tryd.pinned (OpenSpec.upto leafTellsSpec)

/-- 'suturelaw06.LeafOwn', WHERE WHAT IT READS IS OF BULK AT MOST 1048576: true; the input reads as it did. -/
def leafOwnUptoRow : OpenClaim := { program := "ytmddmghgkkjbiaadoor", sum := "bf51cfdc629d3c720944e135fdd56a44f40b72a20fe04bef2d8987c9bcca7b95", func := "suture/suturelaw06.LeafOwn", spec := "leafOwn", inPlace := ["internal/bytealg.Compare"], unfollowed := true, recurses := true, named := ["suture/ptr.widths"], apart := false, laid := [("suture/ptr.widths", laid_suture_ptr_widths)], narrowed := true }
def LeafOwnUptoSaid : Prop := leafOwnUptoRow.holds Tryd.pinned (OpenSpec.upto leafOwnSpec)

end Rows
end Go.Proofs.YtmddmghgkkjbiaaDoor
