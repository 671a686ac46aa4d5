/-
  DERIVED. GIVEN WITH THE SEED: THE CARDS: each row of YtpmoedfiobeilaaGreatDoorRows.lean that lists a variable, with what it lists TIED to the program's text (the seventh form; the later family's looks); each row that meets fmt, with fmt's text TOLD by the authors' own Lean function (tested against real Go, not proved from fmt's source: count such statements apart). THE CARD IS WHAT COUNTS. Prove the row's statement (the work); the ties are given (YtpmoedfiobeilaaGreatDoorTie.lean); close each card by the builder's one call (the guide's Derived/Test/ToyasCard.lean, 'card_holds'). Laid BY PROGRAM, IN A SANDBOX (cutbox-door.mjs). By AI agents, Wed Nov 11 2026. No macro, syntax, notation, axiom, sorry.
-/
import Derived.Test.YtpmoedfiobeilaaGreatDoorRows
import GoSem.ClaimSeven
namespace Go.Proofs.YtpmoedfiobeilaaGreatDoor
namespace Rows

/-- THE TIED CARD OF 'binnaclelaw15.KalmanRows'. -/
def kalmanRowsCard : Claim7 := { stood := { row := kalmanRowsRow, standIns := [], harness := (true, "8e6474b64a031a53dc83db75bff8b189c96bfe05fdea1d4bd33768ab9510d33c"), looks := true }, kinds := [], alts := [], laidByText := true, laidKinds := [.data, .data], laidTests := true, laidLooks := .later }
def KalmanRowsCardSaid : Prop := Claim7.holds Tryz.pinned (.plain (OpenSpec.ofChange kalmanRowsSpec)) kalmanRowsCard

/-- THE SECOND FORM's CARD OF 'binnaclelaw15.KalmanRows'. -/
def kalmanRowsUptoCard : Claim7 := { stood := { row := kalmanRowsUptoRow, standIns := [], harness := (true, "8e6474b64a031a53dc83db75bff8b189c96bfe05fdea1d4bd33768ab9510d33c"), looks := true }, kinds := [], alts := [], laidByText := true, laidKinds := [.data, .data], laidTests := true, laidLooks := .later }
def KalmanRowsUptoCardSaid : Prop := Claim7.holds Tryz.pinned (.plain (OpenSpec.upto kalmanRowsSpec)) kalmanRowsUptoCard
end Rows
end Go.Proofs.YtpmoedfiobeilaaGreatDoor
