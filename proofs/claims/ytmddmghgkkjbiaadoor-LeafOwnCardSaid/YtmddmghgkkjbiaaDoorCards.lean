/-
  DERIVED. GIVEN WITH THE SEED: THE CARDS: each row of YtmddmghgkkjbiaaDoorRows.lean that lists a variable, with what it lists TIED to the program's text (the seventh form; the later family's looks); each row that meets fmt, with fmt's text TOLD by the authors' own Lean function (tested against real Go, not proved from fmt's source: count such statements apart). THE CARD IS WHAT COUNTS. Prove the row's statement (the work); the ties are given (YtmddmghgkkjbiaaDoorTie.lean); close each card by the builder's one call (the guide's Derived/Test/ToyasCard.lean, 'card_holds'). Laid BY PROGRAM, IN A SANDBOX (cutbox-door.mjs). By AI agents, Wed Nov 11 2026. No macro, syntax, notation, axiom, sorry.
-/
import Derived.Test.YtmddmghgkkjbiaaDoorRows
import GoSem.ClaimSeven
namespace Go.Proofs.YtmddmghgkkjbiaaDoor
namespace Rows

/-- THE TIED CARD OF 'suturelaw06.LeafBack'. -/
def leafBackCard : Claim7 := { stood := { row := leafBackRow, standIns := [], harness := (true, "e253765331f52f0e5b94a878c2fd6d4fb9a45289af619b5c589e1df180139648"), looks := false }, kinds := [], alts := [], laidByText := true, laidKinds := [.data], laidTests := true, laidLooks := .later }
def LeafBackCardSaid : Prop := Claim7.holds Tryd.pinned (.plain (OpenSpec.ofChange leafBackSpec)) leafBackCard

/-- THE TIED CARD OF 'suturelaw06.LeafBytes'. -/
def leafBytesCard : Claim7 := { stood := { row := leafBytesRow, standIns := [], harness := (true, "e253765331f52f0e5b94a878c2fd6d4fb9a45289af619b5c589e1df180139648"), looks := false }, kinds := [], alts := [], laidByText := true, laidKinds := [.data], laidTests := true, laidLooks := .later }
def LeafBytesCardSaid : Prop := Claim7.holds Tryd.pinned (.plain (OpenSpec.ofChange leafBytesSpec)) leafBytesCard

/-- THE TIED CARD OF 'suturelaw06.LeafRight'. -/
def leafRightCard : Claim7 := { stood := { row := leafRightRow, standIns := [], harness := (true, "e253765331f52f0e5b94a878c2fd6d4fb9a45289af619b5c589e1df180139648"), looks := false }, kinds := [], alts := [], laidByText := true, laidKinds := [.data], laidTests := true, laidLooks := .later }
def LeafRightCardSaid : Prop := Claim7.holds Tryd.pinned (.plain (OpenSpec.ofChange leafRightSpec)) leafRightCard

/-- THE TIED CARD OF 'suturelaw06.LeafTells'. -/
def leafTellsCard : Claim7 := { stood := { row := leafTellsRow, standIns := [], harness := (true, "e253765331f52f0e5b94a878c2fd6d4fb9a45289af619b5c589e1df180139648"), looks := false }, kinds := [], alts := [], laidByText := true, laidKinds := [.data], laidTests := true, laidLooks := .later }
def LeafTellsCardSaid : Prop := Claim7.holds Tryd.pinned (.plain (OpenSpec.ofChange leafTellsSpec)) leafTellsCard

/-- THE TIED CARD OF 'suturelaw06.LeafOwn'. -/
def leafOwnCard : Claim7 := { stood := { row := leafOwnRow, standIns := [], harness := (true, "e253765331f52f0e5b94a878c2fd6d4fb9a45289af619b5c589e1df180139648"), looks := false }, kinds := [], alts := [], laidByText := true, laidKinds := [.data], laidTests := true, laidLooks := .later }
def LeafOwnCardSaid : Prop := Claim7.holds Tryd.pinned (.plain (OpenSpec.ofChange leafOwnSpec)) leafOwnCard

/-- THE SECOND FORM's CARD OF 'suturelaw06.LeafBack'. -/
def leafBackUptoCard : Claim7 := { stood := { row := leafBackUptoRow, standIns := [], harness := (true, "e253765331f52f0e5b94a878c2fd6d4fb9a45289af619b5c589e1df180139648"), looks := false }, kinds := [], alts := [], laidByText := true, laidKinds := [.data], laidTests := true, laidLooks := .later }
def LeafBackUptoCardSaid : Prop := Claim7.holds Tryd.pinned (.plain (OpenSpec.upto leafBackSpec)) leafBackUptoCard

/-- THE SECOND FORM's CARD OF 'suturelaw06.LeafBytes'. -/
def leafBytesUptoCard : Claim7 := { stood := { row := leafBytesUptoRow, standIns := [], harness := (true, "e253765331f52f0e5b94a878c2fd6d4fb9a45289af619b5c589e1df180139648"), looks := false }, kinds := [], alts := [], laidByText := true, laidKinds := [.data], laidTests := true, laidLooks := .later }
def LeafBytesUptoCardSaid : Prop := Claim7.holds Tryd.pinned (.plain (OpenSpec.upto leafBytesSpec)) leafBytesUptoCard

/-- THE SECOND FORM's CARD OF 'suturelaw06.LeafRight'. -/
def leafRightUptoCard : Claim7 := { stood := { row := leafRightUptoRow, standIns := [], harness := (true, "e253765331f52f0e5b94a878c2fd6d4fb9a45289af619b5c589e1df180139648"), looks := false }, kinds := [], alts := [], laidByText := true, laidKinds := [.data], laidTests := true, laidLooks := .later }
def LeafRightUptoCardSaid : Prop := Claim7.holds Tryd.pinned (.plain (OpenSpec.upto leafRightSpec)) leafRightUptoCard

/-- THE SECOND FORM's CARD OF 'suturelaw06.LeafTells'. -/
def leafTellsUptoCard : Claim7 := { stood := { row := leafTellsUptoRow, standIns := [], harness := (true, "e253765331f52f0e5b94a878c2fd6d4fb9a45289af619b5c589e1df180139648"), looks := false }, kinds := [], alts := [], laidByText := true, laidKinds := [.data], laidTests := true, laidLooks := .later }
def LeafTellsUptoCardSaid : Prop := Claim7.holds Tryd.pinned (.plain (OpenSpec.upto leafTellsSpec)) leafTellsUptoCard

/-- THE SECOND FORM's CARD OF 'suturelaw06.LeafOwn'. -/
def leafOwnUptoCard : Claim7 := { stood := { row := leafOwnUptoRow, standIns := [], harness := (true, "e253765331f52f0e5b94a878c2fd6d4fb9a45289af619b5c589e1df180139648"), looks := false }, kinds := [], alts := [], laidByText := true, laidKinds := [.data], laidTests := true, laidLooks := .later }
def LeafOwnUptoCardSaid : Prop := Claim7.holds Tryd.pinned (.plain (OpenSpec.upto leafOwnSpec)) leafOwnUptoCard
end Rows
end Go.Proofs.YtmddmghgkkjbiaaDoor
