/-
  No cell of these rows narrows 'for every input' (looked for: loops, veiled, ifaces, maps, wideKeys, modest, calm, conditions, laid).
  DERIVED. THE GIVEN ROWS OF THIS SEAT. 4 by the template 'for every input the law returns true; each argument reads behind the call as it read before'; 0 by the template 'total and deterministic' (their statements: YtcjfkkoapncnhaaTotals.lean).
  GIVEN WITH THE SEED: the statements are not yours to turn. If you find one false, say at which input.
  Laid BY PROGRAM, IN A SANDBOX (cutbox-rows.mjs): the forced cells as the released guide's own fill.sh prints them over the translation 99f9065d8b1dd70b… (all of the seat's roots in one cut). By AI agents, Wed Nov 11 2026. No macro, syntax, notation, axiom, sorry.
-/
import Derived.Test.YtcjfkkoapncnhaaChecked
import GoSem.Claim
import GoSem.ClaimJoined
import GoSem.ClaimMapViews
import Derived.JoinedTies
import Derived.KernelRfl
namespace Go.Proofs.Ytcjfkkoapncnhaa
/- THE CELL 'sum', in the pinned program and in every row, IS THE sha256 OF THE DUMP (.gsa) THAT YtcjfkkoapncnhaaProg.lean LOADS. Nothing in Lean hashes anything: it is a label: what it is worth is what the hold of that sum in a sandbox is worth. -/
noncomputable def Try.pinned : Pinned := { name := "ytcjfkkoapncnhaa", sum := "99f9065d8b1dd70b886b8bcafa232f6d5657ca486f614a31f6011671f5f5cc33", checked := Try.checked }
namespace Rows
def none {H : Type} : Left H := { results := [], args := [] }

/-- 'suturelaw10.MirrorReads': WHATEVER THE INPUT: true; the input reads as it did. -/
def mirrorReadsSpec : ChangeSpec := { name := "mirrorReads", fn := fun _ => fun
  | [d1, d2, d3] => { results := [.lit (.bool true)], args := [d1, d2, d3] }
  | _ => none }
def mirrorReadsRow : OpenClaim := { program := "ytcjfkkoapncnhaa", sum := "99f9065d8b1dd70b886b8bcafa232f6d5657ca486f614a31f6011671f5f5cc33", func := "suture/suturelaw10.MirrorReads", spec := "mirrorReads", unfollowed := true, recurses := true, apart := false }
def MirrorReadsSaid : Prop := mirrorReadsRow.holds Try.pinned (OpenSpec.ofChange mirrorReadsSpec)

/-- ITS FALSE NEIGHBOUR: 'it returns false'. Refute it at one input. -/
def mirrorReadsWrong : ChangeSpec := { name := "mirrorReads", fn := fun _ => fun
  | [d1, d2, d3] => { results := [.lit (.bool false)], args := [d1, d2, d3] }
  | _ => none }
def MirrorReadsWrongFalsely : Prop := mirrorReadsRow.holds Try.pinned (OpenSpec.ofChange mirrorReadsWrong)

/-- 'suturelaw10.MirrorOff': WHATEVER THE INPUT: true; the input reads as it did. -/
def mirrorOffSpec : ChangeSpec := { name := "mirrorOff", fn := fun _ => fun
  | [d1, d2, d3, d4] => { results := [.lit (.bool true)], args := [d1, d2, d3, d4] }
  | _ => none }
def mirrorOffRow : OpenClaim := { program := "ytcjfkkoapncnhaa", sum := "99f9065d8b1dd70b886b8bcafa232f6d5657ca486f614a31f6011671f5f5cc33", func := "suture/suturelaw10.MirrorOff", spec := "mirrorOff", unfollowed := true, recurses := true, apart := false }
def MirrorOffSaid : Prop := mirrorOffRow.holds Try.pinned (OpenSpec.ofChange mirrorOffSpec)

/-- ITS FALSE NEIGHBOUR: 'it returns false'. Refute it at one input. -/
def mirrorOffWrong : ChangeSpec := { name := "mirrorOff", fn := fun _ => fun
  | [d1, d2, d3, d4] => { results := [.lit (.bool false)], args := [d1, d2, d3, d4] }
  | _ => none }
def MirrorOffWrongFalsely : Prop := mirrorOffRow.holds Try.pinned (OpenSpec.ofChange mirrorOffWrong)

/-- 'suturelaw10.MirrorEach': WHATEVER THE INPUT: true; the input reads as it did. -/
def mirrorEachSpec : ChangeSpec := { name := "mirrorEach", fn := fun _ => fun
  | [d1, d2, d3] => { results := [.lit (.bool true)], args := [d1, d2, d3] }
  | _ => none }
def mirrorEachRow : OpenClaim := { program := "ytcjfkkoapncnhaa", sum := "99f9065d8b1dd70b886b8bcafa232f6d5657ca486f614a31f6011671f5f5cc33", func := "suture/suturelaw10.MirrorEach", spec := "mirrorEach", unfollowed := true, recurses := true, apart := false }
def MirrorEachSaid : Prop := mirrorEachRow.holds Try.pinned (OpenSpec.ofChange mirrorEachSpec)

/-- ITS FALSE NEIGHBOUR: 'it returns false'. Refute it at one input. -/
def mirrorEachWrong : ChangeSpec := { name := "mirrorEach", fn := fun _ => fun
  | [d1, d2, d3] => { results := [.lit (.bool false)], args := [d1, d2, d3] }
  | _ => none }
def MirrorEachWrongFalsely : Prop := mirrorEachRow.holds Try.pinned (OpenSpec.ofChange mirrorEachWrong)

/-- 'suturelaw10.MirrorFuse': WHATEVER THE INPUT: true; the input reads as it did. -/
def mirrorFuseSpec : ChangeSpec := { name := "mirrorFuse", fn := fun _ => fun
  | [d1, d2, d3, d4] => { results := [.lit (.bool true)], args := [d1, d2, d3, d4] }
  | _ => none }
def mirrorFuseRow : OpenClaim := { program := "ytcjfkkoapncnhaa", sum := "99f9065d8b1dd70b886b8bcafa232f6d5657ca486f614a31f6011671f5f5cc33", func := "suture/suturelaw10.MirrorFuse", spec := "mirrorFuse", unfollowed := true, recurses := true, apart := false }
def MirrorFuseSaid : Prop := mirrorFuseRow.holds Try.pinned (OpenSpec.ofChange mirrorFuseSpec)

/-- ITS FALSE NEIGHBOUR: 'it returns false'. Refute it at one input. -/
def mirrorFuseWrong : ChangeSpec := { name := "mirrorFuse", fn := fun _ => fun
  | [d1, d2, d3, d4] => { results := [.lit (.bool false)], args := [d1, d2, d3, d4] }
  | _ => none }
def MirrorFuseWrongFalsely : Prop := mirrorFuseRow.holds Try.pinned (OpenSpec.ofChange mirrorFuseWrong)

/- THE SECOND FORM. 'bulk': how many values and letters a reading holds, each counted each time it is reached (what is shared counts as often as it is met; a slice's spare places count too). A statement '..UptoSaid' is the law's where the arguments, and the package variables that the reading takes, are together of bulk at most 1048576: NARROWER than '..Said'. Prove '..Said' where nothing that the law and all that it calls make is longer than what came in: it says more and counts as full. Else prove '..UptoSaid'. A law counts once. -/
mutual
def uptoBulk {H : Type} : DataW H → Nat
  | .lit (.string bytes) => bytes.length + 1
  | .lit _ => 1
  | .nil => 1
  | .ptr d => uptoBulk d + 1
  | .slice elems spare => uptoBulkAll elems + uptoBulkAll spare + 1
  | .agg parts => uptoBulkAll parts + 1
  | .iface _ d => uptoBulk d + 1
  | .map entries => uptoBulkEntries entries + 1
  | .held _ => 1
def uptoBulkAll {H : Type} : List (DataW H) → Nat
  | [] => 0
  | d :: r => uptoBulk d + uptoBulkAll r
def uptoBulkEntries {H : Type} : List (Lit × DataW H) → Nat
  | [] => 0
  | x :: r => uptoBulkEntry x + uptoBulkEntries r
def uptoBulkEntry {H : Type} : Lit × DataW H → Nat
  | (.string bytes, d) => bytes.length + uptoBulk d + 1
  | (_, d) => uptoBulk d + 1
 end
def uptoSmall : (H : Type) → List (DataW H) → Bool := fun _ ds => decide (uptoBulkAll ds ≤ 1048576)
def OpenSpec.upto (s : _root_.Go.ChangeSpec) : _root_.Go.OpenSpec := { _root_.Go.OpenSpec.ofChange s with cond := some uptoSmall }

/-- 'suturelaw10.MirrorReads', WHERE WHAT IT READS IS OF BULK AT MOST 1048576: true; the input reads as it did. -/
def mirrorReadsUptoRow : OpenClaim := { program := "ytcjfkkoapncnhaa", sum := "99f9065d8b1dd70b886b8bcafa232f6d5657ca486f614a31f6011671f5f5cc33", func := "suture/suturelaw10.MirrorReads", spec := "mirrorReads", unfollowed := true, recurses := true, apart := false, narrowed := true }
def MirrorReadsUptoSaid : Prop := mirrorReadsUptoRow.holds Try.pinned (OpenSpec.upto mirrorReadsSpec)

/-- 'suturelaw10.MirrorOff', WHERE WHAT IT READS IS OF BULK AT MOST 1048576: true; the input reads as it did. -/
def mirrorOffUptoRow : OpenClaim := { program := "ytcjfkkoapncnhaa", sum := "99f9065d8b1dd70b886b8bcafa232f6d5657ca486f614a31f6011671f5f5cc33", func := "suture/suturelaw10.MirrorOff", spec := "mirrorOff", unfollowed := true, recurses := true, apart := false, narrowed := true }
def MirrorOffUptoSaid : Prop := mirrorOffUptoRow.holds Try.pinned (OpenSpec.upto mirrorOffSpec)

/-- 'suturelaw10.MirrorEach', WHERE WHAT IT READS IS OF BULK AT MOST 1048576: true; the input reads as it did. -/
def mirrorEachUptoRow : OpenClaim := { program := "ytcjfkkoapncnhaa", sum := "99f9065d8b1dd70b886b8bcafa232f6d5657ca486f614a31f6011671f5f5cc33", func := "suture/suturelaw10.MirrorEach", spec := "mirrorEach", unfollowed := true, recurses := true, apart := false, narrowed := true }
def MirrorEachUptoSaid : Prop := mirrorEachUptoRow.holds Try.pinned (OpenSpec.upto mirrorEachSpec)

/-- 'suturelaw10.MirrorFuse', WHERE WHAT IT READS IS OF BULK AT MOST 1048576: true; the input reads as it did. -/
def mirrorFuseUptoRow : OpenClaim := { program := "ytcjfkkoapncnhaa", sum := "99f9065d8b1dd70b886b8bcafa232f6d5657ca486f614a31f6011671f5f5cc33", func := "suture/suturelaw10.MirrorFuse", spec := "mirrorFuse", unfollowed := true, recurses := true, apart := false, narrowed := true }
def MirrorFuseUptoSaid : Prop := mirrorFuseUptoRow.holds Try.pinned (OpenSpec.upto mirrorFuseSpec)

end Rows
end Go.Proofs.Ytcjfkkoapncnhaa
