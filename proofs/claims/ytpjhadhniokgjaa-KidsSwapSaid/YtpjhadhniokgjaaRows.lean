/-
  No cell of these rows narrows 'for every input' (looked for: loops, veiled, ifaces, maps, wideKeys, modest, calm, conditions, laid).
  DERIVED. THE GIVEN ROWS OF THIS SEAT. 4 by the template 'for every input the law returns true; each argument reads behind the call as it read before'; 0 by the template 'total and deterministic' (their statements: YtpjhadhniokgjaaTotals.lean).
  GIVEN WITH THE SEED: the statements are not yours to turn. If you find one false, say at which input.
  Laid BY PROGRAM, IN A SANDBOX (cutbox-rows.mjs): the forced cells as the released guide's own fill.sh prints them over the translation c8fa93cd070fb67d… (all of the seat's roots in one cut). By AI agents, Wed Nov 11 2026. No macro, syntax, notation, axiom, sorry.
-/
import Derived.Test.YtpjhadhniokgjaaChecked
import GoSem.Claim
import GoSem.ClaimJoined
import GoSem.ClaimMapViews
import Derived.JoinedTies
import Derived.KernelRfl
namespace Go.Proofs.Ytpjhadhniokgjaa
/- THE CELL 'sum', in the pinned program and in every row, IS THE sha256 OF THE DUMP (.gsa) THAT YtpjhadhniokgjaaProg.lean LOADS. Nothing in Lean hashes anything: it is a label: what it is worth is what the hold of that sum in a sandbox is worth. -/
noncomputable def Try.pinned : Pinned := { name := "ytpjhadhniokgjaa", sum := "c8fa93cd070fb67de65dd4b982108b789b1843d1d44f6811c12f5860a4267e55", checked := Try.checked }
namespace Rows
def none {H : Type} : Left H := { results := [], args := [] }

/-- 'suturelaw16.KidsSplit': WHATEVER THE INPUT: true; the input reads as it did. -/
def kidsSplitSpec : ChangeSpec := { name := "kidsSplit", fn := fun _ => fun
  | [d1, d2] => { results := [.lit (.bool true)], args := [d1, d2] }
  | _ => none }
def kidsSplitRow : OpenClaim := { program := "ytpjhadhniokgjaa", sum := "c8fa93cd070fb67de65dd4b982108b789b1843d1d44f6811c12f5860a4267e55", func := "suture/suturelaw16.KidsSplit", spec := "kidsSplit", inPlace := ["internal/bytealg.Compare"], unfollowed := true, recurses := true, apart := false }
def KidsSplitSaid : Prop := kidsSplitRow.holds Try.pinned (OpenSpec.ofChange kidsSplitSpec)

/-- ITS FALSE NEIGHBOUR: 'it returns false'. Refute it at one input. -/
def kidsSplitWrong : ChangeSpec := { name := "kidsSplit", fn := fun _ => fun
  | [d1, d2] => { results := [.lit (.bool false)], args := [d1, d2] }
  | _ => none }
def KidsSplitWrongFalsely : Prop := kidsSplitRow.holds Try.pinned (OpenSpec.ofChange kidsSplitWrong)

/-- 'suturelaw16.KidsFind': WHATEVER THE INPUT: true; the input reads as it did. -/
def kidsFindSpec : ChangeSpec := { name := "kidsFind", fn := fun _ => fun
  | [d1, d2] => { results := [.lit (.bool true)], args := [d1, d2] }
  | _ => none }
def kidsFindRow : OpenClaim := { program := "ytpjhadhniokgjaa", sum := "c8fa93cd070fb67de65dd4b982108b789b1843d1d44f6811c12f5860a4267e55", func := "suture/suturelaw16.KidsFind", spec := "kidsFind", inPlace := ["internal/bytealg.Compare"], unfollowed := true, recurses := true, apart := false }
def KidsFindSaid : Prop := kidsFindRow.holds Try.pinned (OpenSpec.ofChange kidsFindSpec)

/-- ITS FALSE NEIGHBOUR: 'it returns false'. Refute it at one input. -/
def kidsFindWrong : ChangeSpec := { name := "kidsFind", fn := fun _ => fun
  | [d1, d2] => { results := [.lit (.bool false)], args := [d1, d2] }
  | _ => none }
def KidsFindWrongFalsely : Prop := kidsFindRow.holds Try.pinned (OpenSpec.ofChange kidsFindWrong)

/-- 'suturelaw16.KidsSwap': WHATEVER THE INPUT: true; the input reads as it did. -/
def kidsSwapSpec : ChangeSpec := { name := "kidsSwap", fn := fun _ => fun
  | [d1, d2, d3] => { results := [.lit (.bool true)], args := [d1, d2, d3] }
  | _ => none }
def kidsSwapRow : OpenClaim := { program := "ytpjhadhniokgjaa", sum := "c8fa93cd070fb67de65dd4b982108b789b1843d1d44f6811c12f5860a4267e55", func := "suture/suturelaw16.KidsSwap", spec := "kidsSwap", inPlace := ["internal/bytealg.Compare"], unfollowed := true, recurses := true, apart := false }
def KidsSwapSaid : Prop := kidsSwapRow.holds Try.pinned (OpenSpec.ofChange kidsSwapSpec)

/-- ITS FALSE NEIGHBOUR: 'it returns false'. Refute it at one input. -/
def kidsSwapWrong : ChangeSpec := { name := "kidsSwap", fn := fun _ => fun
  | [d1, d2, d3] => { results := [.lit (.bool false)], args := [d1, d2, d3] }
  | _ => none }
def KidsSwapWrongFalsely : Prop := kidsSwapRow.holds Try.pinned (OpenSpec.ofChange kidsSwapWrong)

/-- 'suturelaw16.KidsEven': WHATEVER THE INPUT: true; the input reads as it did. -/
def kidsEvenSpec : ChangeSpec := { name := "kidsEven", fn := fun _ => fun
  | [d1, d2, d3] => { results := [.lit (.bool true)], args := [d1, d2, d3] }
  | _ => none }
def kidsEvenRow : OpenClaim := { program := "ytpjhadhniokgjaa", sum := "c8fa93cd070fb67de65dd4b982108b789b1843d1d44f6811c12f5860a4267e55", func := "suture/suturelaw16.KidsEven", spec := "kidsEven", inPlace := ["internal/bytealg.Compare"], unfollowed := true, recurses := true, apart := false }
def KidsEvenSaid : Prop := kidsEvenRow.holds Try.pinned (OpenSpec.ofChange kidsEvenSpec)

/-- ITS FALSE NEIGHBOUR: 'it returns false'. Refute it at one input. -/
def kidsEvenWrong : ChangeSpec := { name := "kidsEven", fn := fun _ => fun
  | [d1, d2, d3] => { results := [.lit (.bool false)], args := [d1, d2, d3] }
  | _ => none }
def KidsEvenWrongFalsely : Prop := kidsEvenRow.holds Try.pinned (OpenSpec.ofChange kidsEvenWrong)

/- THE SECOND FORM. 'bulk': how many values and letters a reading holds, each counted each time it is reached (what is shared counts as often as it is met; a slice's spare places count too). A statement '..UptoSaid' is the law's where the arguments, and the package variables that the reading takes, are together of bulk at most 1048576: NARROWER than '..Said'. Prove '..Said' where nothing that the law and all that it calls make is longer than what came in: it says more and counts as full. Else prove '..UptoSaid'. A law counts once. -/
mutual
def uptoBulk {H : Type} : DataW H → Nat
  | .lit (.string bytes) => bytes.length + 1
  | .lit _ => 1
  | .nil => 1
  | .ptr d => uptoBulk d + 1
  | .slice elems spare => uptoBulkAll elems + uptoBulkAll spare + 1
  | .agg parts => uptoBulkAll parts + 1
  | .iface _ d => uptoBulk d + 1
  | .map entries => uptoBulkEntries entries + 1
  | .held _ => 1
def uptoBulkAll {H : Type} : List (DataW H) → Nat
  | [] => 0
  | d :: r => uptoBulk d + uptoBulkAll r
def uptoBulkEntries {H : Type} : List (Lit × DataW H) → Nat
  | [] => 0
  | x :: r => uptoBulkEntry x + uptoBulkEntries r
def uptoBulkEntry {H : Type} : Lit × DataW H → Nat
  | (.string bytes, d) => bytes.length + uptoBulk d + 1
  | (_, d) => uptoBulk d + 1
 end
def uptoSmall : (H : Type) → List (DataW H) → Bool := fun _ ds => decide (uptoBulkAll ds ≤ 1048576)
def OpenSpec.upto (s : _root_.Go.ChangeSpec) : _root_.Go.OpenSpec := { _root_.Go.OpenSpec.ofChange s with cond := some uptoSmall }

/-- 'suturelaw16.KidsSplit', WHERE WHAT IT READS IS OF BULK AT MOST 1048576: true; the input reads as it did. -/
def kidsSplitUptoRow : OpenClaim := { program := "ytpjhadhniokgjaa", sum := "c8fa93cd070fb67de65dd4b982108b789b1843d1d44f6811c12f5860a4267e55", func := "suture/suturelaw16.KidsSplit", spec := "kidsSplit", inPlace := ["internal/bytealg.Compare"], unfollowed := true, recurses := true, apart := false, narrowed := true }
def KidsSplitUptoSaid : Prop := kidsSplitUptoRow.holds Try.pinned (OpenSpec.upto kidsSplitSpec)

/-- 'suturelaw16.KidsFind', WHERE WHAT IT READS IS OF BULK AT MOST 1048576: true; the input reads as it did. -/
def kidsFindUptoRow : OpenClaim := { program := "ytpjhadhniokgjaa", sum := "c8fa93cd070fb67de65dd4b982108b789b1843d1d44f6811c12f5860a4267e55", func := "suture/suturelaw16.KidsFind", spec := "kidsFind", inPlace := ["internal/bytealg.Compare"], unfollowed := true, recurses := true, apart := false, narrowed := true }
def KidsFindUptoSaid : Prop := kidsFindUptoRow.holds Try.pinned (OpenSpec.upto kidsFindSpec)

/-- 'suturelaw16.KidsSwap', WHERE WHAT IT READS IS OF BULK AT MOST 1048576: true; the input reads as it did. -/
def kidsSwapUptoRow : OpenClaim := { program := "ytpjhadhniokgjaa", sum := "c8fa93cd070fb67de65dd4b982108b789b1843d1d44f6811c12f5860a4267e55", func := "suture/suturelaw16.KidsSwap", spec := "kidsSwap", inPlace := ["internal/bytealg.Compare"], unfollowed := true, recurses := true, apart := false, narrowed := true }
def KidsSwapUptoSaid : Prop := kidsSwapUptoRow.holds Try.pinned (OpenSpec.upto kidsSwapSpec)

/-- 'suturelaw16.KidsEven', WHERE WHAT IT READS IS OF BULK AT MOST 1048576: true; the input reads as it did. -/
def kidsEvenUptoRow : OpenClaim := { program := "ytpjhadhniokgjaa", sum := "c8fa93cd070fb67de65dd4b982108b789b1843d1d44f6811c12f5860a4267e55", func := "suture/suturelaw16.KidsEven", spec := "kidsEven", inPlace := ["internal/bytealg.Compare"], unfollowed := true, recurses := true, apart := false, narrowed := true }
def KidsEvenUptoSaid : Prop := kidsEvenUptoRow.holds Try.pinned (OpenSpec.upto kidsEvenSpec)

end Rows
end Go.Proofs.Ytpjhadhniokgjaa
