/-
  No cell of these rows narrows 'for every input' (looked for: loops, veiled, ifaces, maps, wideKeys, modest, calm, conditions, laid).
  DERIVED. THE GIVEN ROWS OF THIS SEAT. 4 by the template 'for every input the law returns true; each argument reads behind the call as it read before'; 0 by the template 'total and deterministic' (their statements: YtfmgjkchhajpmaaTotals.lean).
  GIVEN WITH THE SEED: the statements are not yours to turn. If you find one false, say at which input.
  Laid BY PROGRAM, IN A SANDBOX (cutbox-rows.mjs): the forced cells as the released guide's own fill.sh prints them over the translation 215ca2ec6c0a3fe0… (all of the seat's roots in one cut). By AI agents, Wed Nov 11 2026. No macro, syntax, notation, axiom, sorry.
-/
import Derived.Test.YtfmgjkchhajpmaaChecked
import GoSem.Claim
import GoSem.ClaimJoined
import GoSem.ClaimMapViews
import Derived.JoinedTies
import Derived.KernelRfl
namespace Go.Proofs.Ytfmgjkchhajpmaa
/- THE CELL 'sum', in the pinned program and in every row, IS THE sha256 OF THE DUMP (.gsa) THAT YtfmgjkchhajpmaaProg.lean LOADS. Nothing in Lean hashes anything: it is a label: what it is worth is what the hold of that sum in a sandbox is worth. -/
noncomputable def Try.pinned : Pinned := { name := "ytfmgjkchhajpmaa", sum := "215ca2ec6c0a3fe0f684681dd30aaabe2eb54caa7ac866b5f5967dbb055b3c98", checked := Try.checked }
namespace Rows
def none {H : Type} : Left H := { results := [], args := [] }

/-- 'suturelaw04.FlawCrash': WHATEVER THE INPUT: true; the input reads as it did. -/
def flawCrashSpec : ChangeSpec := { name := "flawCrash", fn := fun _ => fun
  | [d1, d2] => { results := [.lit (.bool true)], args := [d1, d2] }
  | _ => none }
def flawCrashRow : OpenClaim := { program := "ytfmgjkchhajpmaa", sum := "215ca2ec6c0a3fe0f684681dd30aaabe2eb54caa7ac866b5f5967dbb055b3c98", func := "suture/suturelaw04.FlawCrash", spec := "flawCrash", inPlace := ["slices.overlaps[int]"], unfollowed := true, recurses := true, apart := false }
def FlawCrashSaid : Prop := flawCrashRow.holds Try.pinned (OpenSpec.ofChange flawCrashSpec)

/-- ITS FALSE NEIGHBOUR: 'it returns false'. Refute it at one input. -/
def flawCrashWrong : ChangeSpec := { name := "flawCrash", fn := fun _ => fun
  | [d1, d2] => { results := [.lit (.bool false)], args := [d1, d2] }
  | _ => none }
def FlawCrashWrongFalsely : Prop := flawCrashRow.holds Try.pinned (OpenSpec.ofChange flawCrashWrong)

/-- 'suturelaw04.FlawFlip': WHATEVER THE INPUT: true; the input reads as it did. -/
def flawFlipSpec : ChangeSpec := { name := "flawFlip", fn := fun _ => fun
  | [d1, d2, d3, d4] => { results := [.lit (.bool true)], args := [d1, d2, d3, d4] }
  | _ => none }
def flawFlipRow : OpenClaim := { program := "ytfmgjkchhajpmaa", sum := "215ca2ec6c0a3fe0f684681dd30aaabe2eb54caa7ac866b5f5967dbb055b3c98", func := "suture/suturelaw04.FlawFlip", spec := "flawFlip", inPlace := ["slices.overlaps[int]"], unfollowed := true, recurses := true, apart := false }
def FlawFlipSaid : Prop := flawFlipRow.holds Try.pinned (OpenSpec.ofChange flawFlipSpec)

/-- ITS FALSE NEIGHBOUR: 'it returns false'. Refute it at one input. -/
def flawFlipWrong : ChangeSpec := { name := "flawFlip", fn := fun _ => fun
  | [d1, d2, d3, d4] => { results := [.lit (.bool false)], args := [d1, d2, d3, d4] }
  | _ => none }
def FlawFlipWrongFalsely : Prop := flawFlipRow.holds Try.pinned (OpenSpec.ofChange flawFlipWrong)

/-- 'suturelaw04.FlawBad': WHATEVER THE INPUT: true; the input reads as it did. -/
def flawBadSpec : ChangeSpec := { name := "flawBad", fn := fun _ => fun
  | [d1, d2, d3, d4] => { results := [.lit (.bool true)], args := [d1, d2, d3, d4] }
  | _ => none }
def flawBadRow : OpenClaim := { program := "ytfmgjkchhajpmaa", sum := "215ca2ec6c0a3fe0f684681dd30aaabe2eb54caa7ac866b5f5967dbb055b3c98", func := "suture/suturelaw04.FlawBad", spec := "flawBad", inPlace := ["slices.overlaps[int]"], unfollowed := true, recurses := true, apart := false }
def FlawBadSaid : Prop := flawBadRow.holds Try.pinned (OpenSpec.ofChange flawBadSpec)

/-- ITS FALSE NEIGHBOUR: 'it returns false'. Refute it at one input. -/
def flawBadWrong : ChangeSpec := { name := "flawBad", fn := fun _ => fun
  | [d1, d2, d3, d4] => { results := [.lit (.bool false)], args := [d1, d2, d3, d4] }
  | _ => none }
def FlawBadWrongFalsely : Prop := flawBadRow.holds Try.pinned (OpenSpec.ofChange flawBadWrong)

/-- 'suturelaw04.FlawTells': WHATEVER THE INPUT: true; the input reads as it did. -/
def flawTellsSpec : ChangeSpec := { name := "flawTells", fn := fun _ => fun
  | [d1, d2, d3, d4, d5] => { results := [.lit (.bool true)], args := [d1, d2, d3, d4, d5] }
  | _ => none }
def flawTellsRow : OpenClaim := { program := "ytfmgjkchhajpmaa", sum := "215ca2ec6c0a3fe0f684681dd30aaabe2eb54caa7ac866b5f5967dbb055b3c98", func := "suture/suturelaw04.FlawTells", spec := "flawTells", inPlace := ["slices.overlaps[int]"], unfollowed := true, recurses := true, apart := false }
def FlawTellsSaid : Prop := flawTellsRow.holds Try.pinned (OpenSpec.ofChange flawTellsSpec)

/-- ITS FALSE NEIGHBOUR: 'it returns false'. Refute it at one input. -/
def flawTellsWrong : ChangeSpec := { name := "flawTells", fn := fun _ => fun
  | [d1, d2, d3, d4, d5] => { results := [.lit (.bool false)], args := [d1, d2, d3, d4, d5] }
  | _ => none }
def FlawTellsWrongFalsely : Prop := flawTellsRow.holds Try.pinned (OpenSpec.ofChange flawTellsWrong)

/- THE SECOND FORM. 'bulk': how many values and letters a reading holds, each counted each time it is reached (what is shared counts as often as it is met; a slice's spare places count too). A statement '..UptoSaid' is the law's where the arguments, and the package variables that the reading takes, are together of bulk at most 1048576: NARROWER than '..Said'. Prove '..Said' where nothing that the law and all that it calls make is longer than what came in: it says more and counts as full. Else prove '..UptoSaid'. A law counts once. -/
mutual
def uptoBulk {H : Type} : DataW H → Nat
  | .lit (.string bytes) => bytes.length + 1
  | .lit _ => 1
  | .nil => 1
  | .ptr d => uptoBulk d + 1
  | .slice elems spare => uptoBulkAll elems + uptoBulkAll spare + 1
  | .agg parts => uptoBulkAll parts + 1
  | .iface _ d => uptoBulk d + 1
  | .map entries => uptoBulkEntries entries + 1
  | .held _ => 1
def uptoBulkAll {H : Type} : List (DataW H) → Nat
  | [] => 0
  | d :: r => uptoBulk d + uptoBulkAll r
def uptoBulkEntries {H : Type} : List (Lit × DataW H) → Nat
  | [] => 0
  | x :: r => uptoBulkEntry x + uptoBulkEntries r
def uptoBulkEntry {H : Type} : Lit × DataW H → Nat
  | (.string bytes, d) => bytes.length + uptoBulk d + 1
  | (_, d) => uptoBulk d + 1
 end
def uptoSmall : (H : Type) → List (DataW H) → Bool := fun _ ds => decide (uptoBulkAll ds ≤ 1048576)
def OpenSpec.upto (s : _root_.Go.ChangeSpec) : _root_.Go.OpenSpec := { _root_.Go.OpenSpec.ofChange s with cond := some uptoSmall }

/-- 'suturelaw04.FlawCrash', WHERE WHAT IT READS IS OF BULK AT MOST 1048576: true; the input reads as it did. -/
def flawCrashUptoRow : OpenClaim := { program := "ytfmgjkchhajpmaa", sum := "215ca2ec6c0a3fe0f684681dd30aaabe2eb54caa7ac866b5f5967dbb055b3c98", func := "suture/suturelaw04.FlawCrash", spec := "flawCrash", inPlace := ["slices.overlaps[int]"], unfollowed := true, recurses := true, apart := false, narrowed := true }
def FlawCrashUptoSaid : Prop := flawCrashUptoRow.holds Try.pinned (OpenSpec.upto flawCrashSpec)

/-- 'suturelaw04.FlawFlip', WHERE WHAT IT READS IS OF BULK AT MOST 1048576: true; the input reads as it did. -/
def flawFlipUptoRow : OpenClaim := { program := "ytfmgjkchhajpmaa", sum := "215ca2ec6c0a3fe0f684681dd30aaabe2eb54caa7ac866b5f5967dbb055b3c98", func := "suture/suturelaw04.FlawFlip", spec := "flawFlip", inPlace := ["slices.overlaps[int]"], unfollowed := true, recurses := true, apart := false, narrowed := true }
def FlawFlipUptoSaid : Prop := flawFlipUptoRow.holds Try.pinned (OpenSpec.upto flawFlipSpec)

/-- 'suturelaw04.FlawBad', WHERE WHAT IT READS IS OF BULK AT MOST 1048576: true; the input reads as it did. -/
def flawBadUptoRow : OpenClaim := { program := "ytfmgjkchhajpmaa", sum := "215ca2ec6c0a3fe0f684681dd30aaabe2eb54caa7ac866b5f5967dbb055b3c98", func := "suture/suturelaw04.FlawBad", spec := "flawBad", inPlace := ["slices.overlaps[int]"], unfollowed := true, recurses := true, apart := false, narrowed := true }
def FlawBadUptoSaid : Prop := flawBadUptoRow.holds Try.pinned (OpenSpec.upto flawBadSpec)

/-- 'suturelaw04.FlawTells', WHERE WHAT IT READS IS OF BULK AT MOST 1048576: true; the input reads as it did. -/
def flawTellsUptoRow : OpenClaim := { program := "ytfmgjkchhajpmaa", sum := "215ca2ec6c0a3fe0f684681dd30aaabe2eb54caa7ac866b5f5967dbb055b3c98", func := "suture/suturelaw04.FlawTells", spec := "flawTells", inPlace := ["slices.overlaps[int]"], unfollowed := true, recurses := true, apart := false, narrowed := true }
def FlawTellsUptoSaid : Prop := flawTellsUptoRow.holds Try.pinned (OpenSpec.upto flawTellsSpec)

end Rows
end Go.Proofs.Ytfmgjkchhajpmaa
