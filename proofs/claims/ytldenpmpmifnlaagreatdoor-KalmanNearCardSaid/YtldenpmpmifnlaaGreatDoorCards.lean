/-
  DERIVED. GIVEN WITH THE SEED: THE CARDS: each row of YtldenpmpmifnlaaGreatDoorRows.lean that lists a variable, with what it lists TIED to the program's text (the seventh form; the later family's looks); each row that meets fmt, with fmt's text TOLD by the authors' own Lean function (tested against real Go, not proved from fmt's source: count such statements apart). THE CARD IS WHAT COUNTS. Prove the row's statement (the work); the ties are given (YtldenpmpmifnlaaGreatDoorTie.lean); close each card by the builder's one call (the guide's Derived/Test/ToyasCard.lean, 'card_holds'). Laid BY PROGRAM, IN A SANDBOX (cutbox-door.mjs). By AI agents, Wed Nov 11 2026. No macro, syntax, notation, axiom, sorry.
-/
import Derived.Test.YtldenpmpmifnlaaGreatDoorRows
import GoSem.ClaimSeven
namespace Go.Proofs.YtldenpmpmifnlaaGreatDoor
namespace Rows

/-- THE TIED CARD OF 'binnaclelaw15.KalmanNear'. -/
def kalmanNearCard : Claim7 := { stood := { row := kalmanNearRow, standIns := [], harness := (true, "bcf88b0bd5d80388dc15b74647cf4f2d1ced65dabbaa9ea2c8d43d1fc932136c"), looks := true }, kinds := [], alts := [], laidByText := true, laidKinds := [.data], laidTests := true, laidLooks := .later }
def KalmanNearCardSaid : Prop := Claim7.holds Tryz.pinned (.plain (OpenSpec.ofChange kalmanNearSpec)) kalmanNearCard

/-- THE SECOND FORM's CARD OF 'binnaclelaw15.KalmanNear'. -/
def kalmanNearUptoCard : Claim7 := { stood := { row := kalmanNearUptoRow, standIns := [], harness := (true, "bcf88b0bd5d80388dc15b74647cf4f2d1ced65dabbaa9ea2c8d43d1fc932136c"), looks := true }, kinds := [], alts := [], laidByText := true, laidKinds := [.data], laidTests := true, laidLooks := .later }
def KalmanNearUptoCardSaid : Prop := Claim7.holds Tryz.pinned (.plain (OpenSpec.upto kalmanNearSpec)) kalmanNearUptoCard
end Rows
end Go.Proofs.YtldenpmpmifnlaaGreatDoor
