/-
  DERIVED. GIVEN WITH THE SEED: THE CARDS: each row of YthncpmablodbjaaDoorRows.lean that lists a variable, with what it lists TIED to the program's text (the seventh form; the later family's looks); each row that meets fmt, with fmt's text TOLD by the authors' own Lean function (tested against real Go, not proved from fmt's source: count such statements apart). THE CARD IS WHAT COUNTS. Prove the row's statement (the work); the ties are given (YthncpmablodbjaaDoorTie.lean); close each card by the builder's one call (the guide's Derived/Test/ToyasCard.lean, 'card_holds'). Laid BY PROGRAM, IN A SANDBOX (cutbox-door.mjs). By AI agents, Wed Nov 11 2026. No macro, syntax, notation, axiom, sorry.
-/
import Derived.Test.YthncpmablodbjaaDoorRows
import GoSem.ClaimSeven
namespace Go.Proofs.YthncpmablodbjaaDoor
namespace Rows

/-- THE TIED CARD OF 'suturelaw31.ModelMaps'. -/
def modelMapsCard : Claim7 := { stood := { row := modelMapsRow, standIns := [], harness := (true, "352ab6114df5c5e42f1b5a255dd7229e59e760d8d343b09b8a576c01f7d32c8b"), looks := false }, kinds := [], alts := [], laidByText := true, laidKinds := [.widerDeep, .widerDeep], laidTests := true, laidLooks := .later }
def ModelMapsCardSaid : Prop := Claim7.holds Tryd.pinned (.plain (OpenSpec.ofChange modelMapsSpec)) modelMapsCard

/-- THE SECOND FORM's CARD OF 'suturelaw31.ModelMaps'. -/
def modelMapsUptoCard : Claim7 := { stood := { row := modelMapsUptoRow, standIns := [], harness := (true, "352ab6114df5c5e42f1b5a255dd7229e59e760d8d343b09b8a576c01f7d32c8b"), looks := false }, kinds := [], alts := [], laidByText := true, laidKinds := [.widerDeep, .widerDeep], laidTests := true, laidLooks := .later }
def ModelMapsUptoCardSaid : Prop := Claim7.holds Tryd.pinned (.plain (OpenSpec.upto modelMapsSpec)) modelMapsUptoCard
end Rows
end Go.Proofs.YthncpmablodbjaaDoor
