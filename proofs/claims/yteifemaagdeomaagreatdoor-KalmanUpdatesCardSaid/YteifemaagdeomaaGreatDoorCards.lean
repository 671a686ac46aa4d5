/-
  DERIVED. GIVEN WITH THE SEED: THE CARDS: each row of YteifemaagdeomaaGreatDoorRows.lean that lists a variable, with what it lists TIED to the program's text (the seventh form; the later family's looks); each row that meets fmt, with fmt's text TOLD by the authors' own Lean function (tested against real Go, not proved from fmt's source: count such statements apart). THE CARD IS WHAT COUNTS. Prove the row's statement (the work); the ties are given (YteifemaagdeomaaGreatDoorTie.lean); close each card by the builder's one call (the guide's Derived/Test/ToyasCard.lean, 'card_holds'). Laid BY PROGRAM, IN A SANDBOX (cutbox-door.mjs). By AI agents, Wed Nov 11 2026. No macro, syntax, notation, axiom, sorry.
-/
import Derived.Test.YteifemaagdeomaaGreatDoorRows
import GoSem.ClaimSeven
namespace Go.Proofs.YteifemaagdeomaaGreatDoor
namespace Rows

/-- THE TIED CARD OF 'binnaclelaw15.KalmanUpdates'. -/
def kalmanUpdatesCard : Claim7 := { stood := { row := kalmanUpdatesRow, standIns := [], harness := (true, "ceec7271bf6612dade50c993c5d87600cb009eb5f2d675521937259246f109c8"), looks := true }, kinds := [], alts := [], laidByText := true, laidKinds := [.data, .data], laidTests := true, laidLooks := .later }
def KalmanUpdatesCardSaid : Prop := Claim7.holds Tryz.pinned (.plain (OpenSpec.ofChange kalmanUpdatesSpec)) kalmanUpdatesCard

/-- THE TIED CARD OF 'binnaclelaw15.KalmanPredicts'. -/
def kalmanPredictsCard : Claim7 := { stood := { row := kalmanPredictsRow, standIns := [], harness := (true, "ceec7271bf6612dade50c993c5d87600cb009eb5f2d675521937259246f109c8"), looks := true }, kinds := [], alts := [], laidByText := true, laidKinds := [.data, .data], laidTests := true, laidLooks := .later }
def KalmanPredictsCardSaid : Prop := Claim7.holds Tryz.pinned (.plain (OpenSpec.ofChange kalmanPredictsSpec)) kalmanPredictsCard

/-- THE TIED CARD OF 'binnaclelaw15.KalmanStill'. -/
def kalmanStillCard : Claim7 := { stood := { row := kalmanStillRow, standIns := [], harness := (true, "ceec7271bf6612dade50c993c5d87600cb009eb5f2d675521937259246f109c8"), looks := true }, kinds := [], alts := [], laidByText := true, laidKinds := [.data, .data], laidTests := true, laidLooks := .later }
def KalmanStillCardSaid : Prop := Claim7.holds Tryz.pinned (.plain (OpenSpec.ofChange kalmanStillSpec)) kalmanStillCard

/-- THE TIED CARD OF 'binnaclelaw15.KalmanChecks'. -/
def kalmanChecksCard : Claim7 := { stood := { row := kalmanChecksRow, standIns := [], harness := (true, "ceec7271bf6612dade50c993c5d87600cb009eb5f2d675521937259246f109c8"), looks := true }, kinds := [], alts := [], laidByText := true, laidKinds := [.data, .data], laidTests := true, laidLooks := .later }
def KalmanChecksCardSaid : Prop := Claim7.holds Tryz.pinned (.plain (OpenSpec.ofChange kalmanChecksSpec)) kalmanChecksCard

/-- THE TIED CARD OF 'binnaclelaw15.KalmanRows'. -/
def kalmanRowsCard : Claim7 := { stood := { row := kalmanRowsRow, standIns := [], harness := (true, "ceec7271bf6612dade50c993c5d87600cb009eb5f2d675521937259246f109c8"), looks := true }, kinds := [], alts := [], laidByText := true, laidKinds := [.data, .data], laidTests := true, laidLooks := .later }
def KalmanRowsCardSaid : Prop := Claim7.holds Tryz.pinned (.plain (OpenSpec.ofChange kalmanRowsSpec)) kalmanRowsCard

/-- THE SECOND FORM's CARD OF 'binnaclelaw15.KalmanUpdates'. -/
def kalmanUpdatesUptoCard : Claim7 := { stood := { row := kalmanUpdatesUptoRow, standIns := [], harness := (true, "ceec7271bf6612dade50c993c5d87600cb009eb5f2d675521937259246f109c8"), looks := true }, kinds := [], alts := [], laidByText := true, laidKinds := [.data, .data], laidTests := true, laidLooks := .later }
def KalmanUpdatesUptoCardSaid : Prop := Claim7.holds Tryz.pinned (.plain (OpenSpec.upto kalmanUpdatesSpec)) kalmanUpdatesUptoCard

/-- THE SECOND FORM's CARD OF 'binnaclelaw15.KalmanPredicts'. -/
def kalmanPredictsUptoCard : Claim7 := { stood := { row := kalmanPredictsUptoRow, standIns := [], harness := (true, "ceec7271bf6612dade50c993c5d87600cb009eb5f2d675521937259246f109c8"), looks := true }, kinds := [], alts := [], laidByText := true, laidKinds := [.data, .data], laidTests := true, laidLooks := .later }
def KalmanPredictsUptoCardSaid : Prop := Claim7.holds Tryz.pinned (.plain (OpenSpec.upto kalmanPredictsSpec)) kalmanPredictsUptoCard

/-- THE SECOND FORM's CARD OF 'binnaclelaw15.KalmanStill'. -/
def kalmanStillUptoCard : Claim7 := { stood := { row := kalmanStillUptoRow, standIns := [], harness := (true, "ceec7271bf6612dade50c993c5d87600cb009eb5f2d675521937259246f109c8"), looks := true }, kinds := [], alts := [], laidByText := true, laidKinds := [.data, .data], laidTests := true, laidLooks := .later }
def KalmanStillUptoCardSaid : Prop := Claim7.holds Tryz.pinned (.plain (OpenSpec.upto kalmanStillSpec)) kalmanStillUptoCard

/-- THE SECOND FORM's CARD OF 'binnaclelaw15.KalmanChecks'. -/
def kalmanChecksUptoCard : Claim7 := { stood := { row := kalmanChecksUptoRow, standIns := [], harness := (true, "ceec7271bf6612dade50c993c5d87600cb009eb5f2d675521937259246f109c8"), looks := true }, kinds := [], alts := [], laidByText := true, laidKinds := [.data, .data], laidTests := true, laidLooks := .later }
def KalmanChecksUptoCardSaid : Prop := Claim7.holds Tryz.pinned (.plain (OpenSpec.upto kalmanChecksSpec)) kalmanChecksUptoCard

/-- THE SECOND FORM's CARD OF 'binnaclelaw15.KalmanRows'. -/
def kalmanRowsUptoCard : Claim7 := { stood := { row := kalmanRowsUptoRow, standIns := [], harness := (true, "ceec7271bf6612dade50c993c5d87600cb009eb5f2d675521937259246f109c8"), looks := true }, kinds := [], alts := [], laidByText := true, laidKinds := [.data, .data], laidTests := true, laidLooks := .later }
def KalmanRowsUptoCardSaid : Prop := Claim7.holds Tryz.pinned (.plain (OpenSpec.upto kalmanRowsSpec)) kalmanRowsUptoCard
end Rows
end Go.Proofs.YteifemaagdeomaaGreatDoor
