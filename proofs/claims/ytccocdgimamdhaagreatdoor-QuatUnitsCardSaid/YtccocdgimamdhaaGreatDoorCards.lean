/-
  DERIVED. GIVEN WITH THE SEED: THE CARDS: each row of YtccocdgimamdhaaGreatDoorRows.lean that lists a variable, with what it lists TIED to the program's text (the seventh form; the later family's looks); each row that meets fmt, with fmt's text TOLD by the authors' own Lean function (tested against real Go, not proved from fmt's source: count such statements apart). THE CARD IS WHAT COUNTS. Prove the row's statement (the work); the ties are given (YtccocdgimamdhaaGreatDoorTie.lean); close each card by the builder's one call (the guide's Derived/Test/ToyasCard.lean, 'card_holds'). Laid BY PROGRAM, IN A SANDBOX (cutbox-door.mjs). By AI agents, Wed Nov 11 2026. No macro, syntax, notation, axiom, sorry.
-/
import Derived.Test.YtccocdgimamdhaaGreatDoorRows
import GoSem.ClaimSeven
namespace Go.Proofs.YtccocdgimamdhaaGreatDoor
namespace Rows

/-- THE TIED CARD OF 'binnaclelaw12.QuatEuler'. -/
def quatEulerCard : Claim7 := { stood := { row := quatEulerRow, standIns := [], harness := (true, "76c169c93cd9b1c96953c46b6d1cb8de6fd001ac73b92d20a9a4ac647c4fbaf6"), looks := false }, kinds := [], alts := [], laidByText := true, laidKinds := [.data], laidTests := true, laidLooks := .later }
def QuatEulerCardSaid : Prop := Claim7.holds Tryz.pinned (.plain (OpenSpec.ofChange quatEulerSpec)) quatEulerCard

/-- THE TIED CARD OF 'binnaclelaw12.QuatUnits'. -/
def quatUnitsCard : Claim7 := { stood := { row := quatUnitsRow, standIns := [], harness := (true, "76c169c93cd9b1c96953c46b6d1cb8de6fd001ac73b92d20a9a4ac647c4fbaf6"), looks := false }, kinds := [], alts := [], laidByText := true, laidKinds := [.data], laidTests := true, laidLooks := .later }
def QuatUnitsCardSaid : Prop := Claim7.holds Tryz.pinned (.plain (OpenSpec.ofChange quatUnitsSpec)) quatUnitsCard

/-- THE TIED CARD OF 'binnaclelaw12.QuatMatrices'. -/
def quatMatricesCard : Claim7 := { stood := { row := quatMatricesRow, standIns := [], harness := (true, "76c169c93cd9b1c96953c46b6d1cb8de6fd001ac73b92d20a9a4ac647c4fbaf6"), looks := false }, kinds := [], alts := [], laidByText := true, laidKinds := [.data], laidTests := true, laidLooks := .later }
def QuatMatricesCardSaid : Prop := Claim7.holds Tryz.pinned (.plain (OpenSpec.ofChange quatMatricesSpec)) quatMatricesCard

/-- THE TIED CARD OF 'binnaclelaw12.QuatMixes'. -/
def quatMixesCard : Claim7 := { stood := { row := quatMixesRow, standIns := [], harness := (true, "76c169c93cd9b1c96953c46b6d1cb8de6fd001ac73b92d20a9a4ac647c4fbaf6"), looks := false }, kinds := [], alts := [], laidByText := true, laidKinds := [.data], laidTests := true, laidLooks := .later }
def QuatMixesCardSaid : Prop := Claim7.holds Tryz.pinned (.plain (OpenSpec.ofChange quatMixesSpec)) quatMixesCard

/-- THE TIED CARD OF 'binnaclelaw12.QuatTurns'. -/
def quatTurnsCard : Claim7 := { stood := { row := quatTurnsRow, standIns := [], harness := (true, "76c169c93cd9b1c96953c46b6d1cb8de6fd001ac73b92d20a9a4ac647c4fbaf6"), looks := false }, kinds := [], alts := [], laidByText := true, laidKinds := [.data], laidTests := true, laidLooks := .later }
def QuatTurnsCardSaid : Prop := Claim7.holds Tryz.pinned (.plain (OpenSpec.ofChange quatTurnsSpec)) quatTurnsCard

/-- THE SECOND FORM's CARD OF 'binnaclelaw12.QuatEuler'. -/
def quatEulerUptoCard : Claim7 := { stood := { row := quatEulerUptoRow, standIns := [], harness := (true, "76c169c93cd9b1c96953c46b6d1cb8de6fd001ac73b92d20a9a4ac647c4fbaf6"), looks := false }, kinds := [], alts := [], laidByText := true, laidKinds := [.data], laidTests := true, laidLooks := .later }
def QuatEulerUptoCardSaid : Prop := Claim7.holds Tryz.pinned (.plain (OpenSpec.upto quatEulerSpec)) quatEulerUptoCard

/-- THE SECOND FORM's CARD OF 'binnaclelaw12.QuatUnits'. -/
def quatUnitsUptoCard : Claim7 := { stood := { row := quatUnitsUptoRow, standIns := [], harness := (true, "76c169c93cd9b1c96953c46b6d1cb8de6fd001ac73b92d20a9a4ac647c4fbaf6"), looks := false }, kinds := [], alts := [], laidByText := true, laidKinds := [.data], laidTests := true, laidLooks := .later }
def QuatUnitsUptoCardSaid : Prop := Claim7.holds Tryz.pinned (.plain (OpenSpec.upto quatUnitsSpec)) quatUnitsUptoCard

/-- THE SECOND FORM's CARD OF 'binnaclelaw12.QuatMatrices'. -/
def quatMatricesUptoCard : Claim7 := { stood := { row := quatMatricesUptoRow, standIns := [], harness := (true, "76c169c93cd9b1c96953c46b6d1cb8de6fd001ac73b92d20a9a4ac647c4fbaf6"), looks := false }, kinds := [], alts := [], laidByText := true, laidKinds := [.data], laidTests := true, laidLooks := .later }
def QuatMatricesUptoCardSaid : Prop := Claim7.holds Tryz.pinned (.plain (OpenSpec.upto quatMatricesSpec)) quatMatricesUptoCard

/-- THE SECOND FORM's CARD OF 'binnaclelaw12.QuatMixes'. -/
def quatMixesUptoCard : Claim7 := { stood := { row := quatMixesUptoRow, standIns := [], harness := (true, "76c169c93cd9b1c96953c46b6d1cb8de6fd001ac73b92d20a9a4ac647c4fbaf6"), looks := false }, kinds := [], alts := [], laidByText := true, laidKinds := [.data], laidTests := true, laidLooks := .later }
def QuatMixesUptoCardSaid : Prop := Claim7.holds Tryz.pinned (.plain (OpenSpec.upto quatMixesSpec)) quatMixesUptoCard

/-- THE SECOND FORM's CARD OF 'binnaclelaw12.QuatTurns'. -/
def quatTurnsUptoCard : Claim7 := { stood := { row := quatTurnsUptoRow, standIns := [], harness := (true, "76c169c93cd9b1c96953c46b6d1cb8de6fd001ac73b92d20a9a4ac647c4fbaf6"), looks := false }, kinds := [], alts := [], laidByText := true, laidKinds := [.data], laidTests := true, laidLooks := .later }
def QuatTurnsUptoCardSaid : Prop := Claim7.holds Tryz.pinned (.plain (OpenSpec.upto quatTurnsSpec)) quatTurnsUptoCard
end Rows
end Go.Proofs.YtccocdgimamdhaaGreatDoor
