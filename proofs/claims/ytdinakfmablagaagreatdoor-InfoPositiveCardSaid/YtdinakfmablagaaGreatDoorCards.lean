/-
  DERIVED. GIVEN WITH THE SEED: THE CARDS: each row of YtdinakfmablagaaGreatDoorRows.lean that lists a variable, with what it lists TIED to the program's text (the seventh form; the later family's looks); each row that meets fmt, with fmt's text TOLD by the authors' own Lean function (tested against real Go, not proved from fmt's source: count such statements apart). THE CARD IS WHAT COUNTS. Prove the row's statement (the work); the ties are given (YtdinakfmablagaaGreatDoorTie.lean); close each card by the builder's one call (the guide's Derived/Test/ToyasCard.lean, 'card_holds'). Laid BY PROGRAM, IN A SANDBOX (cutbox-door.mjs). By AI agents, Wed Nov 11 2026. No macro, syntax, notation, axiom, sorry.
-/
import Derived.Test.YtdinakfmablagaaGreatDoorRows
import GoSem.ClaimSeven
namespace Go.Proofs.YtdinakfmablagaaGreatDoor
namespace Rows

/-- THE TIED CARD OF 'binnaclelaw17.InfoUpdates'. -/
def infoUpdatesCard : Claim7 := { stood := { row := infoUpdatesRow, standIns := [], harness := (true, "6a0a3b3b1d628bdfb13218d14dc264b9d98e4dde3b62b93d0f9796b9ab836762"), looks := true }, kinds := [], alts := [], laidByText := true, laidKinds := [.data, .data], laidTests := true, laidLooks := .later }
def InfoUpdatesCardSaid : Prop := Claim7.holds Tryz.pinned (.plain (OpenSpec.ofChange infoUpdatesSpec)) infoUpdatesCard

/-- THE TIED CARD OF 'binnaclelaw17.InfoJoins'. -/
def infoJoinsCard : Claim7 := { stood := { row := infoJoinsRow, standIns := [], harness := (true, "6a0a3b3b1d628bdfb13218d14dc264b9d98e4dde3b62b93d0f9796b9ab836762"), looks := true }, kinds := [], alts := [], laidByText := true, laidKinds := [.data, .data], laidTests := true, laidLooks := .later }
def InfoJoinsCardSaid : Prop := Claim7.holds Tryz.pinned (.plain (OpenSpec.ofChange infoJoinsSpec)) infoJoinsCard

/-- THE TIED CARD OF 'binnaclelaw17.InfoPositive'. -/
def infoPositiveCard : Claim7 := { stood := { row := infoPositiveRow, standIns := [], harness := (true, "6a0a3b3b1d628bdfb13218d14dc264b9d98e4dde3b62b93d0f9796b9ab836762"), looks := true }, kinds := [], alts := [], laidByText := true, laidKinds := [.data, .data], laidTests := true, laidLooks := .later }
def InfoPositiveCardSaid : Prop := Claim7.holds Tryz.pinned (.plain (OpenSpec.ofChange infoPositiveSpec)) infoPositiveCard

/-- THE TIED CARD OF 'binnaclelaw17.InfoStates'. -/
def infoStatesCard : Claim7 := { stood := { row := infoStatesRow, standIns := [], harness := (true, "6a0a3b3b1d628bdfb13218d14dc264b9d98e4dde3b62b93d0f9796b9ab836762"), looks := true }, kinds := [], alts := [], laidByText := true, laidKinds := [.data, .data], laidTests := true, laidLooks := .later }
def InfoStatesCardSaid : Prop := Claim7.holds Tryz.pinned (.plain (OpenSpec.ofChange infoStatesSpec)) infoStatesCard

/-- THE TIED CARD OF 'binnaclelaw17.InfoChecks'. -/
def infoChecksCard : Claim7 := { stood := { row := infoChecksRow, standIns := [], harness := (true, "6a0a3b3b1d628bdfb13218d14dc264b9d98e4dde3b62b93d0f9796b9ab836762"), looks := true }, kinds := [], alts := [], laidByText := true, laidKinds := [.data, .data], laidTests := true, laidLooks := .later }
def InfoChecksCardSaid : Prop := Claim7.holds Tryz.pinned (.plain (OpenSpec.ofChange infoChecksSpec)) infoChecksCard

/-- THE SECOND FORM's CARD OF 'binnaclelaw17.InfoUpdates'. -/
def infoUpdatesUptoCard : Claim7 := { stood := { row := infoUpdatesUptoRow, standIns := [], harness := (true, "6a0a3b3b1d628bdfb13218d14dc264b9d98e4dde3b62b93d0f9796b9ab836762"), looks := true }, kinds := [], alts := [], laidByText := true, laidKinds := [.data, .data], laidTests := true, laidLooks := .later }
def InfoUpdatesUptoCardSaid : Prop := Claim7.holds Tryz.pinned (.plain (OpenSpec.upto infoUpdatesSpec)) infoUpdatesUptoCard

/-- THE SECOND FORM's CARD OF 'binnaclelaw17.InfoJoins'. -/
def infoJoinsUptoCard : Claim7 := { stood := { row := infoJoinsUptoRow, standIns := [], harness := (true, "6a0a3b3b1d628bdfb13218d14dc264b9d98e4dde3b62b93d0f9796b9ab836762"), looks := true }, kinds := [], alts := [], laidByText := true, laidKinds := [.data, .data], laidTests := true, laidLooks := .later }
def InfoJoinsUptoCardSaid : Prop := Claim7.holds Tryz.pinned (.plain (OpenSpec.upto infoJoinsSpec)) infoJoinsUptoCard

/-- THE SECOND FORM's CARD OF 'binnaclelaw17.InfoPositive'. -/
def infoPositiveUptoCard : Claim7 := { stood := { row := infoPositiveUptoRow, standIns := [], harness := (true, "6a0a3b3b1d628bdfb13218d14dc264b9d98e4dde3b62b93d0f9796b9ab836762"), looks := true }, kinds := [], alts := [], laidByText := true, laidKinds := [.data, .data], laidTests := true, laidLooks := .later }
def InfoPositiveUptoCardSaid : Prop := Claim7.holds Tryz.pinned (.plain (OpenSpec.upto infoPositiveSpec)) infoPositiveUptoCard

/-- THE SECOND FORM's CARD OF 'binnaclelaw17.InfoStates'. -/
def infoStatesUptoCard : Claim7 := { stood := { row := infoStatesUptoRow, standIns := [], harness := (true, "6a0a3b3b1d628bdfb13218d14dc264b9d98e4dde3b62b93d0f9796b9ab836762"), looks := true }, kinds := [], alts := [], laidByText := true, laidKinds := [.data, .data], laidTests := true, laidLooks := .later }
def InfoStatesUptoCardSaid : Prop := Claim7.holds Tryz.pinned (.plain (OpenSpec.upto infoStatesSpec)) infoStatesUptoCard

/-- THE SECOND FORM's CARD OF 'binnaclelaw17.InfoChecks'. -/
def infoChecksUptoCard : Claim7 := { stood := { row := infoChecksUptoRow, standIns := [], harness := (true, "6a0a3b3b1d628bdfb13218d14dc264b9d98e4dde3b62b93d0f9796b9ab836762"), looks := true }, kinds := [], alts := [], laidByText := true, laidKinds := [.data, .data], laidTests := true, laidLooks := .later }
def InfoChecksUptoCardSaid : Prop := Claim7.holds Tryz.pinned (.plain (OpenSpec.upto infoChecksSpec)) infoChecksUptoCard
end Rows
end Go.Proofs.YtdinakfmablagaaGreatDoor
