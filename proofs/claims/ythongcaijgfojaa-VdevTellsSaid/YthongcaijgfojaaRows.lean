/-
  No cell of these rows narrows 'for every input' (looked for: loops, veiled, ifaces, maps, wideKeys, modest, calm, conditions, laid).
  DERIVED. THE GIVEN ROWS OF THIS SEAT. 5 by the template 'for every input the law returns true; each argument reads behind the call as it read before'; 0 by the template 'total and deterministic' (their statements: YthongcaijgfojaaTotals.lean).
  GIVEN WITH THE SEED: the statements are not yours to turn. If you find one false, say at which input.
  Laid BY PROGRAM, IN A SANDBOX (cutbox-rows.mjs): the forced cells as the released guide's own fill.sh prints them over the translation 5b24304264137a23… (all of the seat's roots in one cut). By AI agents, Wed Nov 11 2026. No macro, syntax, notation, axiom, sorry.
-/
import Derived.Test.YthongcaijgfojaaChecked
import GoSem.Claim
import GoSem.ClaimJoined
import GoSem.ClaimMapViews
import Derived.JoinedTies
import Derived.KernelRfl
namespace Go.Proofs.Ythongcaijgfojaa
/- THE CELL 'sum', in the pinned program and in every row, IS THE sha256 OF THE DUMP (.gsa) THAT YthongcaijgfojaaProg.lean LOADS. Nothing in Lean hashes anything: it is a label: what it is worth is what the hold of that sum in a sandbox is worth. -/
noncomputable def Try.pinned : Pinned := { name := "ythongcaijgfojaa", sum := "5b24304264137a23bf49382b040ea111d0910a7e3e882966e915a460375a44d7", checked := Try.checked }
namespace Rows
def none {H : Type} : Left H := { results := [], args := [] }

/-- 'suturelaw03.VdevBack': WHATEVER THE INPUT: true; the input reads as it did. -/
def vdevBackSpec : ChangeSpec := { name := "vdevBack", fn := fun _ => fun
  | [d1, d2, d3, d4, d5] => { results := [.lit (.bool true)], args := [d1, d2, d3, d4, d5] }
  | _ => none }
def vdevBackRow : OpenClaim := { program := "ythongcaijgfojaa", sum := "5b24304264137a23bf49382b040ea111d0910a7e3e882966e915a460375a44d7", func := "suture/suturelaw03.VdevBack", spec := "vdevBack", unfollowed := true, recurses := true, apart := false }
def VdevBackSaid : Prop := vdevBackRow.holds Try.pinned (OpenSpec.ofChange vdevBackSpec)

/-- ITS FALSE NEIGHBOUR: 'it returns false'. Refute it at one input. -/
def vdevBackWrong : ChangeSpec := { name := "vdevBack", fn := fun _ => fun
  | [d1, d2, d3, d4, d5] => { results := [.lit (.bool false)], args := [d1, d2, d3, d4, d5] }
  | _ => none }
def VdevBackWrongFalsely : Prop := vdevBackRow.holds Try.pinned (OpenSpec.ofChange vdevBackWrong)

/-- 'suturelaw03.VdevOwn': WHATEVER THE INPUT: true; the input reads as it did. -/
def vdevOwnSpec : ChangeSpec := { name := "vdevOwn", fn := fun _ => fun
  | [d1, d2, d3] => { results := [.lit (.bool true)], args := [d1, d2, d3] }
  | _ => none }
def vdevOwnRow : OpenClaim := { program := "ythongcaijgfojaa", sum := "5b24304264137a23bf49382b040ea111d0910a7e3e882966e915a460375a44d7", func := "suture/suturelaw03.VdevOwn", spec := "vdevOwn", unfollowed := true, recurses := true, apart := false }
def VdevOwnSaid : Prop := vdevOwnRow.holds Try.pinned (OpenSpec.ofChange vdevOwnSpec)

/-- ITS FALSE NEIGHBOUR: 'it returns false'. Refute it at one input. -/
def vdevOwnWrong : ChangeSpec := { name := "vdevOwn", fn := fun _ => fun
  | [d1, d2, d3] => { results := [.lit (.bool false)], args := [d1, d2, d3] }
  | _ => none }
def VdevOwnWrongFalsely : Prop := vdevOwnRow.holds Try.pinned (OpenSpec.ofChange vdevOwnWrong)

/-- 'suturelaw03.VdevOff': WHATEVER THE INPUT: true; the input reads as it did. -/
def vdevOffSpec : ChangeSpec := { name := "vdevOff", fn := fun _ => fun
  | [d1, d2] => { results := [.lit (.bool true)], args := [d1, d2] }
  | _ => none }
def vdevOffRow : OpenClaim := { program := "ythongcaijgfojaa", sum := "5b24304264137a23bf49382b040ea111d0910a7e3e882966e915a460375a44d7", func := "suture/suturelaw03.VdevOff", spec := "vdevOff", unfollowed := true, recurses := true, apart := false }
def VdevOffSaid : Prop := vdevOffRow.holds Try.pinned (OpenSpec.ofChange vdevOffSpec)

/-- ITS FALSE NEIGHBOUR: 'it returns false'. Refute it at one input. -/
def vdevOffWrong : ChangeSpec := { name := "vdevOff", fn := fun _ => fun
  | [d1, d2] => { results := [.lit (.bool false)], args := [d1, d2] }
  | _ => none }
def VdevOffWrongFalsely : Prop := vdevOffRow.holds Try.pinned (OpenSpec.ofChange vdevOffWrong)

/-- 'suturelaw03.VdevTells': WHATEVER THE INPUT: true; the input reads as it did. -/
def vdevTellsSpec : ChangeSpec := { name := "vdevTells", fn := fun _ => fun
  | [d1, d2, d3, d4, d5] => { results := [.lit (.bool true)], args := [d1, d2, d3, d4, d5] }
  | _ => none }
def vdevTellsRow : OpenClaim := { program := "ythongcaijgfojaa", sum := "5b24304264137a23bf49382b040ea111d0910a7e3e882966e915a460375a44d7", func := "suture/suturelaw03.VdevTells", spec := "vdevTells", unfollowed := true, recurses := true, apart := false }
def VdevTellsSaid : Prop := vdevTellsRow.holds Try.pinned (OpenSpec.ofChange vdevTellsSpec)

/-- ITS FALSE NEIGHBOUR: 'it returns false'. Refute it at one input. -/
def vdevTellsWrong : ChangeSpec := { name := "vdevTells", fn := fun _ => fun
  | [d1, d2, d3, d4, d5] => { results := [.lit (.bool false)], args := [d1, d2, d3, d4, d5] }
  | _ => none }
def VdevTellsWrongFalsely : Prop := vdevTellsRow.holds Try.pinned (OpenSpec.ofChange vdevTellsWrong)

/-- 'suturelaw03.VdevWaits': WHATEVER THE INPUT: true; the input reads as it did. -/
def vdevWaitsSpec : ChangeSpec := { name := "vdevWaits", fn := fun _ => fun
  | [d1, d2, d3] => { results := [.lit (.bool true)], args := [d1, d2, d3] }
  | _ => none }
def vdevWaitsRow : OpenClaim := { program := "ythongcaijgfojaa", sum := "5b24304264137a23bf49382b040ea111d0910a7e3e882966e915a460375a44d7", func := "suture/suturelaw03.VdevWaits", spec := "vdevWaits", unfollowed := true, recurses := true, apart := false }
def VdevWaitsSaid : Prop := vdevWaitsRow.holds Try.pinned (OpenSpec.ofChange vdevWaitsSpec)

/-- ITS FALSE NEIGHBOUR: 'it returns false'. Refute it at one input. -/
def vdevWaitsWrong : ChangeSpec := { name := "vdevWaits", fn := fun _ => fun
  | [d1, d2, d3] => { results := [.lit (.bool false)], args := [d1, d2, d3] }
  | _ => none }
def VdevWaitsWrongFalsely : Prop := vdevWaitsRow.holds Try.pinned (OpenSpec.ofChange vdevWaitsWrong)

/- THE SECOND FORM. 'bulk': how many values and letters a reading holds, each counted each time it is reached (what is shared counts as often as it is met; a slice's spare places count too). A statement '..UptoSaid' is the law's where the arguments, and the package variables that the reading takes, are together of bulk at most 1048576: NARROWER than '..Said'. Prove '..Said' where nothing that the law and all that it calls make is longer than what came in: it says more and counts as full. Else prove '..UptoSaid'. A law counts once. -/
mutual
def uptoBulk {H : Type} : DataW H → Nat
  | .lit (.string bytes) => bytes.length + 1
  | .lit _ => 1
  | .nil => 1
  | .ptr d => uptoBulk d + 1
  | .slice elems spare => uptoBulkAll elems + uptoBulkAll spare + 1
  | .agg parts => uptoBulkAll parts + 1
  | .iface _ d => uptoBulk d + 1
  | .map entries => uptoBulkEntries entries + 1
  | .held _ => 1
def uptoBulkAll {H : Type} : List (DataW H) → Nat
  | [] => 0
  | d :: r => uptoBulk d + uptoBulkAll r
def uptoBulkEntries {H : Type} : List (Lit × DataW H) → Nat
  | [] => 0
  | x :: r => uptoBulkEntry x + uptoBulkEntries r
def uptoBulkEntry {H : Type} : Lit × DataW H → Nat
  | (.string bytes, d) => bytes.length + uptoBulk d + 1
  | (_, d) => uptoBulk d + 1
 end
def uptoSmall : (H : Type) → List (DataW H) → Bool := fun _ ds => decide (uptoBulkAll ds ≤ 1048576)
def OpenSpec.upto (s : _root_.Go.ChangeSpec) : _root_.Go.OpenSpec := { _root_.Go.OpenSpec.ofChange s with cond := some uptoSmall }

/-- 'suturelaw03.VdevBack', WHERE WHAT IT READS IS OF BULK AT MOST 1048576: true; the input reads as it did. -/
def vdevBackUptoRow : OpenClaim := { program := "ythongcaijgfojaa", sum := "5b24304264137a23bf49382b040ea111d0910a7e3e882966e915a460375a44d7", func := "suture/suturelaw03.VdevBack", spec := "vdevBack", unfollowed := true, recurses := true, apart := false, narrowed := true }
def VdevBackUptoSaid : Prop := vdevBackUptoRow.holds Try.pinned (OpenSpec.upto vdevBackSpec)

/-- 'suturelaw03.VdevOwn', WHERE WHAT IT READS IS OF BULK AT MOST 1048576: true; the input reads as it did. -/
def vdevOwnUptoRow : OpenClaim := { program := "ythongcaijgfojaa", sum := "5b24304264137a23bf49382b040ea111d0910a7e3e882966e915a460375a44d7", func := "suture/suturelaw03.VdevOwn", spec := "vdevOwn", unfollowed := true, recurses := true, apart := false, narrowed := true }
def VdevOwnUptoSaid : Prop := vdevOwnUptoRow.holds Try.pinned (OpenSpec.upto vdevOwnSpec)

/-- 'suturelaw03.VdevOff', WHERE WHAT IT READS IS OF BULK AT MOST 1048576: true; the input reads as it did. -/
def vdevOffUptoRow : OpenClaim := { program := "ythongcaijgfojaa", sum := "5b24304264137a23bf49382b040ea111d0910a7e3e882966e915a460375a44d7", func := "suture/suturelaw03.VdevOff", spec := "vdevOff", unfollowed := true, recurses := true, apart := false, narrowed := true }
def VdevOffUptoSaid : Prop := vdevOffUptoRow.holds Try.pinned (OpenSpec.upto vdevOffSpec)

/-- 'suturelaw03.VdevTells', WHERE WHAT IT READS IS OF BULK AT MOST 1048576: true; the input reads as it did. -/
def vdevTellsUptoRow : OpenClaim := { program := "ythongcaijgfojaa", sum := "5b24304264137a23bf49382b040ea111d0910a7e3e882966e915a460375a44d7", func := "suture/suturelaw03.VdevTells", spec := "vdevTells", unfollowed := true, recurses := true, apart := false, narrowed := true }
def VdevTellsUptoSaid : Prop := vdevTellsUptoRow.holds Try.pinned (OpenSpec.upto vdevTellsSpec)

/-- 'suturelaw03.VdevWaits', WHERE WHAT IT READS IS OF BULK AT MOST 1048576: true; the input reads as it did. -/
def vdevWaitsUptoRow : OpenClaim := { program := "ythongcaijgfojaa", sum := "5b24304264137a23bf49382b040ea111d0910a7e3e882966e915a460375a44d7", func := "suture/suturelaw03.VdevWaits", spec := "vdevWaits", unfollowed := true, recurses := true, apart := false, narrowed := true }
def VdevWaitsUptoSaid : Prop := vdevWaitsUptoRow.holds Try.pinned (OpenSpec.upto vdevWaitsSpec)

end Rows
end Go.Proofs.Ythongcaijgfojaa
