/-
  No cell of these rows narrows 'for every input' (looked for: loops, veiled, ifaces, maps, wideKeys, modest, calm, conditions, laid).
  DERIVED. THE GIVEN ROWS OF THIS SEAT. 3 by the template 'for every input the law returns true; each argument reads behind the call as it read before'; 0 by the template 'total and deterministic' (their statements: YtmaikcnjgkoghaaTotals.lean).
  GIVEN WITH THE SEED: the statements are not yours to turn. If you find one false, say at which input.
  Laid BY PROGRAM, IN A SANDBOX (cutbox-rows.mjs): the forced cells as the released guide's own fill.sh prints them over the translation 928eed1c95d6570b… (all of the seat's roots in one cut). By AI agents, Wed Nov 11 2026. No macro, syntax, notation, axiom, sorry.
-/
import Derived.Test.YtmaikcnjgkoghaaChecked
import GoSem.Claim
import GoSem.ClaimJoined
import GoSem.ClaimMapViews
import Derived.JoinedTies
import Derived.KernelRfl
namespace Go.Proofs.Ytmaikcnjgkoghaa
/- THE CELL 'sum', in the pinned program and in every row, IS THE sha256 OF THE DUMP (.gsa) THAT YtmaikcnjgkoghaaProg.lean LOADS. Nothing in Lean hashes anything: it is a label: what it is worth is what the hold of that sum in a sandbox is worth. -/
noncomputable def Try.pinned : Pinned := { name := "ytmaikcnjgkoghaa", sum := "928eed1c95d6570bcb5ae528e4f3902cc4122275497e90f43e7e8f34e45dbf3b", checked := Try.checked }
namespace Rows
def none {H : Type} : Left H := { results := [], args := [] }

/-- 'suturelaw13.SpaceKeeps': WHATEVER THE INPUT: true; the input reads as it did. -/
def spaceKeepsSpec : ChangeSpec := { name := "spaceKeeps", fn := fun _ => fun
  | [d1, d2, d3, d4, d5] => { results := [.lit (.bool true)], args := [d1, d2, d3, d4, d5] }
  | _ => none }
def spaceKeepsRow : OpenClaim := { program := "ytmaikcnjgkoghaa", sum := "928eed1c95d6570bcb5ae528e4f3902cc4122275497e90f43e7e8f34e45dbf3b", func := "suture/suturelaw13.SpaceKeeps", spec := "spaceKeeps", inPlace := ["slices.overlaps[suture/api.Later]"], unfollowed := true, recurses := true, apart := false }
def SpaceKeepsSaid : Prop := spaceKeepsRow.holds Try.pinned (OpenSpec.ofChange spaceKeepsSpec)

/-- ITS FALSE NEIGHBOUR: 'it returns false'. Refute it at one input. -/
def spaceKeepsWrong : ChangeSpec := { name := "spaceKeeps", fn := fun _ => fun
  | [d1, d2, d3, d4, d5] => { results := [.lit (.bool false)], args := [d1, d2, d3, d4, d5] }
  | _ => none }
def SpaceKeepsWrongFalsely : Prop := spaceKeepsRow.holds Try.pinned (OpenSpec.ofChange spaceKeepsWrong)

/-- 'suturelaw13.SpaceNew': WHATEVER THE INPUT: true; the input reads as it did. -/
def spaceNewSpec : ChangeSpec := { name := "spaceNew", fn := fun _ => fun
  | [d1, d2] => { results := [.lit (.bool true)], args := [d1, d2] }
  | _ => none }
def spaceNewRow : OpenClaim := { program := "ytmaikcnjgkoghaa", sum := "928eed1c95d6570bcb5ae528e4f3902cc4122275497e90f43e7e8f34e45dbf3b", func := "suture/suturelaw13.SpaceNew", spec := "spaceNew", inPlace := ["slices.overlaps[suture/api.Later]"], unfollowed := true, recurses := true, apart := false }
def SpaceNewSaid : Prop := spaceNewRow.holds Try.pinned (OpenSpec.ofChange spaceNewSpec)

/-- ITS FALSE NEIGHBOUR: 'it returns false'. Refute it at one input. -/
def spaceNewWrong : ChangeSpec := { name := "spaceNew", fn := fun _ => fun
  | [d1, d2] => { results := [.lit (.bool false)], args := [d1, d2] }
  | _ => none }
def SpaceNewWrongFalsely : Prop := spaceNewRow.holds Try.pinned (OpenSpec.ofChange spaceNewWrong)

/-- 'suturelaw13.SpaceOwn': WHATEVER THE INPUT: true; the input reads as it did. -/
def spaceOwnSpec : ChangeSpec := { name := "spaceOwn", fn := fun _ => fun
  | [d1, d2, d3, d4] => { results := [.lit (.bool true)], args := [d1, d2, d3, d4] }
  | _ => none }
def spaceOwnRow : OpenClaim := { program := "ytmaikcnjgkoghaa", sum := "928eed1c95d6570bcb5ae528e4f3902cc4122275497e90f43e7e8f34e45dbf3b", func := "suture/suturelaw13.SpaceOwn", spec := "spaceOwn", inPlace := ["slices.overlaps[suture/api.Later]"], unfollowed := true, recurses := true, apart := false }
def SpaceOwnSaid : Prop := spaceOwnRow.holds Try.pinned (OpenSpec.ofChange spaceOwnSpec)

/-- ITS FALSE NEIGHBOUR: 'it returns false'. Refute it at one input. -/
def spaceOwnWrong : ChangeSpec := { name := "spaceOwn", fn := fun _ => fun
  | [d1, d2, d3, d4] => { results := [.lit (.bool false)], args := [d1, d2, d3, d4] }
  | _ => none }
def SpaceOwnWrongFalsely : Prop := spaceOwnRow.holds Try.pinned (OpenSpec.ofChange spaceOwnWrong)

/- THE SECOND FORM. 'bulk': how many values and letters a reading holds, each counted each time it is reached (what is shared counts as often as it is met; a slice's spare places count too). A statement '..UptoSaid' is the law's where the arguments, and the package variables that the reading takes, are together of bulk at most 1048576: NARROWER than '..Said'. Prove '..Said' where nothing that the law and all that it calls make is longer than what came in: it says more and counts as full. Else prove '..UptoSaid'. A law counts once. -/
mutual
def uptoBulk {H : Type} : DataW H → Nat
  | .lit (.string bytes) => bytes.length + 1
  | .lit _ => 1
  | .nil => 1
  | .ptr d => uptoBulk d + 1
  | .slice elems spare => uptoBulkAll elems + uptoBulkAll spare + 1
  | .agg parts => uptoBulkAll parts + 1
  | .iface _ d => uptoBulk d + 1
  | .map entries => uptoBulkEntries entries + 1
  | .held _ => 1
def uptoBulkAll {H : Type} : List (DataW H) → Nat
  | [] => 0
  | d :: r => uptoBulk d + uptoBulkAll r
def uptoBulkEntries {H : Type} : List (Lit × DataW H) → Nat
  | [] => 0
  | x :: r => uptoBulkEntry x + uptoBulkEntries r
def uptoBulkEntry {H : Type} : Lit × DataW H → Nat
  | (.string bytes, d) => bytes.length + uptoBulk d + 1
  | (_, d) => uptoBulk d + 1
 end
def uptoSmall : (H : Type) → List (DataW H) → Bool := fun _ ds => decide (uptoBulkAll ds ≤ 1048576)
def OpenSpec.upto (s : _root_.Go.ChangeSpec) : _root_.Go.OpenSpec := { _root_.Go.OpenSpec.ofChange s with cond := some uptoSmall }

/-- 'suturelaw13.SpaceKeeps', WHERE WHAT IT READS IS OF BULK AT MOST 1048576: true; the input reads as it did. -/
def spaceKeepsUptoRow : OpenClaim := { program := "ytmaikcnjgkoghaa", sum := "928eed1c95d6570bcb5ae528e4f3902cc4122275497e90f43e7e8f34e45dbf3b", func := "suture/suturelaw13.SpaceKeeps", spec := "spaceKeeps", inPlace := ["slices.overlaps[suture/api.Later]"], unfollowed := true, recurses := true, apart := false, narrowed := true }
def SpaceKeepsUptoSaid : Prop := spaceKeepsUptoRow.holds Try.pinned (OpenSpec.upto spaceKeepsSpec)

/-- 'suturelaw13.SpaceNew', WHERE WHAT IT READS IS OF BULK AT MOST 1048576: true; the input reads as it did. -/
def spaceNewUptoRow : OpenClaim := { program := "ytmaikcnjgkoghaa", sum := "928eed1c95d6570bcb5ae528e4f3902cc4122275497e90f43e7e8f34e45dbf3b", func := "suture/suturelaw13.SpaceNew", spec := "spaceNew", inPlace := ["slices.overlaps[suture/api.Later]"], unfollowed := true, recurses := true, apart := false, narrowed := true }
def SpaceNewUptoSaid : Prop := spaceNewUptoRow.holds Try.pinned (OpenSpec.upto spaceNewSpec)

/-- 'suturelaw13.SpaceOwn', WHERE WHAT IT READS IS OF BULK AT MOST 1048576: true; the input reads as it did. -/
def spaceOwnUptoRow : OpenClaim := { program := "ytmaikcnjgkoghaa", sum := "928eed1c95d6570bcb5ae528e4f3902cc4122275497e90f43e7e8f34e45dbf3b", func := "suture/suturelaw13.SpaceOwn", spec := "spaceOwn", inPlace := ["slices.overlaps[suture/api.Later]"], unfollowed := true, recurses := true, apart := false, narrowed := true }
def SpaceOwnUptoSaid : Prop := spaceOwnUptoRow.holds Try.pinned (OpenSpec.upto spaceOwnSpec)

end Rows
end Go.Proofs.Ytmaikcnjgkoghaa
