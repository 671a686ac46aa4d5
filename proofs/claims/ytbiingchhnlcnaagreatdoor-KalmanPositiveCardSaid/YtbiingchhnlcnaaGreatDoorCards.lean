/-
  DERIVED. GIVEN WITH THE SEED: THE CARDS: each row of YtbiingchhnlcnaaGreatDoorRows.lean that lists a variable, with what it lists TIED to the program's text (the seventh form; the later family's looks); each row that meets fmt, with fmt's text TOLD by the authors' own Lean function (tested against real Go, not proved from fmt's source: count such statements apart). THE CARD IS WHAT COUNTS. Prove the row's statement (the work); the ties are given (YtbiingchhnlcnaaGreatDoorTie.lean); close each card by the builder's one call (the guide's Derived/Test/ToyasCard.lean, 'card_holds'). Laid BY PROGRAM, IN A SANDBOX (cutbox-door.mjs). By AI agents, Wed Nov 11 2026. No macro, syntax, notation, axiom, sorry.
-/
import Derived.Test.YtbiingchhnlcnaaGreatDoorRows
import GoSem.ClaimSeven
namespace Go.Proofs.YtbiingchhnlcnaaGreatDoor
namespace Rows

/-- THE TIED CARD OF 'binnaclelaw15.KalmanMoves'. -/
def kalmanMovesCard : Claim7 := { stood := { row := kalmanMovesRow, standIns := [], harness := (true, "b0ce3c42366465228626ddafbe70ac3b2e179b93f895640ca9a19744e8007b1e"), looks := true }, kinds := [], alts := [], laidByText := true, laidKinds := [.data, .data], laidTests := true, laidLooks := .later }
def KalmanMovesCardSaid : Prop := Claim7.holds Tryz.pinned (.plain (OpenSpec.ofChange kalmanMovesSpec)) kalmanMovesCard

/-- THE TIED CARD OF 'binnaclelaw15.KalmanPositive'. -/
def kalmanPositiveCard : Claim7 := { stood := { row := kalmanPositiveRow, standIns := [], harness := (true, "b0ce3c42366465228626ddafbe70ac3b2e179b93f895640ca9a19744e8007b1e"), looks := true }, kinds := [], alts := [], laidByText := true, laidKinds := [.data, .data], laidTests := true, laidLooks := .later }
def KalmanPositiveCardSaid : Prop := Claim7.holds Tryz.pinned (.plain (OpenSpec.ofChange kalmanPositiveSpec)) kalmanPositiveCard

/-- THE SECOND FORM's CARD OF 'binnaclelaw15.KalmanMoves'. -/
def kalmanMovesUptoCard : Claim7 := { stood := { row := kalmanMovesUptoRow, standIns := [], harness := (true, "b0ce3c42366465228626ddafbe70ac3b2e179b93f895640ca9a19744e8007b1e"), looks := true }, kinds := [], alts := [], laidByText := true, laidKinds := [.data, .data], laidTests := true, laidLooks := .later }
def KalmanMovesUptoCardSaid : Prop := Claim7.holds Tryz.pinned (.plain (OpenSpec.upto kalmanMovesSpec)) kalmanMovesUptoCard

/-- THE SECOND FORM's CARD OF 'binnaclelaw15.KalmanPositive'. -/
def kalmanPositiveUptoCard : Claim7 := { stood := { row := kalmanPositiveUptoRow, standIns := [], harness := (true, "b0ce3c42366465228626ddafbe70ac3b2e179b93f895640ca9a19744e8007b1e"), looks := true }, kinds := [], alts := [], laidByText := true, laidKinds := [.data, .data], laidTests := true, laidLooks := .later }
def KalmanPositiveUptoCardSaid : Prop := Claim7.holds Tryz.pinned (.plain (OpenSpec.upto kalmanPositiveSpec)) kalmanPositiveUptoCard
end Rows
end Go.Proofs.YtbiingchhnlcnaaGreatDoor
