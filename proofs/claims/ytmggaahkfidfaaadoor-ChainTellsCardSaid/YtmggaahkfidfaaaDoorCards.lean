/-
  DERIVED. GIVEN WITH THE SEED: THE CARDS: each row of YtmggaahkfidfaaaDoorRows.lean that lists a variable, with what it lists TIED to the program's text (the seventh form; the later family's looks); each row that meets fmt, with fmt's text TOLD by the authors' own Lean function (tested against real Go, not proved from fmt's source: count such statements apart). THE CARD IS WHAT COUNTS. Prove the row's statement (the work); the ties are given (YtmggaahkfidfaaaDoorTie.lean); close each card by the builder's one call (the guide's Derived/Test/ToyasCard.lean, 'card_holds'). Laid BY PROGRAM, IN A SANDBOX (cutbox-door.mjs). By AI agents, Wed Nov 11 2026. No macro, syntax, notation, axiom, sorry.
-/
import Derived.Test.YtmggaahkfidfaaaDoorRows
import GoSem.ClaimSeven
namespace Go.Proofs.YtmggaahkfidfaaaDoor
namespace Rows

/-- THE TIED CARD OF 'suturelaw08.ChainBack'. -/
def chainBackCard : Claim7 := { stood := { row := chainBackRow, standIns := [], harness := (true, "5ffc4cb9e5deaa6a467635f31420adac237b2258529e138913e0230025c9a93d"), looks := false }, kinds := [], alts := [], laidByText := true, laidKinds := [.data], laidTests := true, laidLooks := .later }
def ChainBackCardSaid : Prop := Claim7.holds Tryd.pinned (.plain (OpenSpec.ofChange chainBackSpec)) chainBackCard

/-- THE TIED CARD OF 'suturelaw08.ChainBytes'. -/
def chainBytesCard : Claim7 := { stood := { row := chainBytesRow, standIns := [], harness := (true, "5ffc4cb9e5deaa6a467635f31420adac237b2258529e138913e0230025c9a93d"), looks := false }, kinds := [], alts := [], laidByText := true, laidKinds := [.data], laidTests := true, laidLooks := .later }
def ChainBytesCardSaid : Prop := Claim7.holds Tryd.pinned (.plain (OpenSpec.ofChange chainBytesSpec)) chainBytesCard

/-- THE TIED CARD OF 'suturelaw08.ChainTells'. -/
def chainTellsCard : Claim7 := { stood := { row := chainTellsRow, standIns := [], harness := (true, "5ffc4cb9e5deaa6a467635f31420adac237b2258529e138913e0230025c9a93d"), looks := false }, kinds := [], alts := [], laidByText := true, laidKinds := [.data], laidTests := true, laidLooks := .later }
def ChainTellsCardSaid : Prop := Claim7.holds Tryd.pinned (.plain (OpenSpec.ofChange chainTellsSpec)) chainTellsCard

/-- THE TIED CARD OF 'suturelaw08.ChainPieces'. -/
def chainPiecesCard : Claim7 := { stood := { row := chainPiecesRow, standIns := [], harness := (true, "5ffc4cb9e5deaa6a467635f31420adac237b2258529e138913e0230025c9a93d"), looks := false }, kinds := [], alts := [], laidByText := true, laidKinds := [.data], laidTests := true, laidLooks := .later }
def ChainPiecesCardSaid : Prop := Claim7.holds Tryd.pinned (.plain (OpenSpec.ofChange chainPiecesSpec)) chainPiecesCard

/-- THE SECOND FORM's CARD OF 'suturelaw08.ChainBack'. -/
def chainBackUptoCard : Claim7 := { stood := { row := chainBackUptoRow, standIns := [], harness := (true, "5ffc4cb9e5deaa6a467635f31420adac237b2258529e138913e0230025c9a93d"), looks := false }, kinds := [], alts := [], laidByText := true, laidKinds := [.data], laidTests := true, laidLooks := .later }
def ChainBackUptoCardSaid : Prop := Claim7.holds Tryd.pinned (.plain (OpenSpec.upto chainBackSpec)) chainBackUptoCard

/-- THE SECOND FORM's CARD OF 'suturelaw08.ChainBytes'. -/
def chainBytesUptoCard : Claim7 := { stood := { row := chainBytesUptoRow, standIns := [], harness := (true, "5ffc4cb9e5deaa6a467635f31420adac237b2258529e138913e0230025c9a93d"), looks := false }, kinds := [], alts := [], laidByText := true, laidKinds := [.data], laidTests := true, laidLooks := .later }
def ChainBytesUptoCardSaid : Prop := Claim7.holds Tryd.pinned (.plain (OpenSpec.upto chainBytesSpec)) chainBytesUptoCard

/-- THE SECOND FORM's CARD OF 'suturelaw08.ChainTells'. -/
def chainTellsUptoCard : Claim7 := { stood := { row := chainTellsUptoRow, standIns := [], harness := (true, "5ffc4cb9e5deaa6a467635f31420adac237b2258529e138913e0230025c9a93d"), looks := false }, kinds := [], alts := [], laidByText := true, laidKinds := [.data], laidTests := true, laidLooks := .later }
def ChainTellsUptoCardSaid : Prop := Claim7.holds Tryd.pinned (.plain (OpenSpec.upto chainTellsSpec)) chainTellsUptoCard

/-- THE SECOND FORM's CARD OF 'suturelaw08.ChainPieces'. -/
def chainPiecesUptoCard : Claim7 := { stood := { row := chainPiecesUptoRow, standIns := [], harness := (true, "5ffc4cb9e5deaa6a467635f31420adac237b2258529e138913e0230025c9a93d"), looks := false }, kinds := [], alts := [], laidByText := true, laidKinds := [.data], laidTests := true, laidLooks := .later }
def ChainPiecesUptoCardSaid : Prop := Claim7.holds Tryd.pinned (.plain (OpenSpec.upto chainPiecesSpec)) chainPiecesUptoCard
end Rows
end Go.Proofs.YtmggaahkfidfaaaDoor
