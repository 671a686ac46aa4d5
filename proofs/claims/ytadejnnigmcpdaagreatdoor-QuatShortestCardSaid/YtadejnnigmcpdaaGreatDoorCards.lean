/-
  DERIVED. GIVEN WITH THE SEED: THE CARDS: each row of YtadejnnigmcpdaaGreatDoorRows.lean that lists a variable, with what it lists TIED to the program's text (the seventh form; the later family's looks); each row that meets fmt, with fmt's text TOLD by the authors' own Lean function (tested against real Go, not proved from fmt's source: count such statements apart). THE CARD IS WHAT COUNTS. Prove the row's statement (the work); the ties are given (YtadejnnigmcpdaaGreatDoorTie.lean); close each card by the builder's one call (the guide's Derived/Test/ToyasCard.lean, 'card_holds'). Laid BY PROGRAM, IN A SANDBOX (cutbox-door.mjs). By AI agents, Wed Nov 11 2026. No macro, syntax, notation, axiom, sorry.
-/
import Derived.Test.YtadejnnigmcpdaaGreatDoorRows
import GoSem.ClaimSeven
namespace Go.Proofs.YtadejnnigmcpdaaGreatDoor
namespace Rows

/-- THE TIED CARD OF 'binnaclelaw12.QuatLengths'. -/
def quatLengthsCard : Claim7 := { stood := { row := quatLengthsRow, standIns := [], harness := (true, "2ac09f5fad80a0833add6d076231e7efe57b343c1868c14a8dbdd9cb10592176"), looks := false }, kinds := [], alts := [], laidByText := true, laidKinds := [.data], laidTests := true, laidLooks := .later }
def QuatLengthsCardSaid : Prop := Claim7.holds Tryz.pinned (.plain (OpenSpec.ofChange quatLengthsSpec)) quatLengthsCard

/-- THE TIED CARD OF 'binnaclelaw12.QuatJoined'. -/
def quatJoinedCard : Claim7 := { stood := { row := quatJoinedRow, standIns := [], harness := (true, "2ac09f5fad80a0833add6d076231e7efe57b343c1868c14a8dbdd9cb10592176"), looks := false }, kinds := [], alts := [], laidByText := true, laidKinds := [.data], laidTests := true, laidLooks := .later }
def QuatJoinedCardSaid : Prop := Claim7.holds Tryz.pinned (.plain (OpenSpec.ofChange quatJoinedSpec)) quatJoinedCard

/-- THE TIED CARD OF 'binnaclelaw12.QuatShortest'. -/
def quatShortestCard : Claim7 := { stood := { row := quatShortestRow, standIns := [], harness := (true, "2ac09f5fad80a0833add6d076231e7efe57b343c1868c14a8dbdd9cb10592176"), looks := false }, kinds := [], alts := [], laidByText := true, laidKinds := [.data], laidTests := true, laidLooks := .later }
def QuatShortestCardSaid : Prop := Claim7.holds Tryz.pinned (.plain (OpenSpec.ofChange quatShortestSpec)) quatShortestCard

/-- THE TIED CARD OF 'binnaclelaw12.QuatBack'. -/
def quatBackCard : Claim7 := { stood := { row := quatBackRow, standIns := [], harness := (true, "2ac09f5fad80a0833add6d076231e7efe57b343c1868c14a8dbdd9cb10592176"), looks := false }, kinds := [], alts := [], laidByText := true, laidKinds := [.data], laidTests := true, laidLooks := .later }
def QuatBackCardSaid : Prop := Claim7.holds Tryz.pinned (.plain (OpenSpec.ofChange quatBackSpec)) quatBackCard

/-- THE TIED CARD OF 'binnaclelaw12.QuatStays'. -/
def quatStaysCard : Claim7 := { stood := { row := quatStaysRow, standIns := [], harness := (true, "2ac09f5fad80a0833add6d076231e7efe57b343c1868c14a8dbdd9cb10592176"), looks := false }, kinds := [], alts := [], laidByText := true, laidKinds := [.data], laidTests := true, laidLooks := .later }
def QuatStaysCardSaid : Prop := Claim7.holds Tryz.pinned (.plain (OpenSpec.ofChange quatStaysSpec)) quatStaysCard

/-- THE SECOND FORM's CARD OF 'binnaclelaw12.QuatLengths'. -/
def quatLengthsUptoCard : Claim7 := { stood := { row := quatLengthsUptoRow, standIns := [], harness := (true, "2ac09f5fad80a0833add6d076231e7efe57b343c1868c14a8dbdd9cb10592176"), looks := false }, kinds := [], alts := [], laidByText := true, laidKinds := [.data], laidTests := true, laidLooks := .later }
def QuatLengthsUptoCardSaid : Prop := Claim7.holds Tryz.pinned (.plain (OpenSpec.upto quatLengthsSpec)) quatLengthsUptoCard

/-- THE SECOND FORM's CARD OF 'binnaclelaw12.QuatJoined'. -/
def quatJoinedUptoCard : Claim7 := { stood := { row := quatJoinedUptoRow, standIns := [], harness := (true, "2ac09f5fad80a0833add6d076231e7efe57b343c1868c14a8dbdd9cb10592176"), looks := false }, kinds := [], alts := [], laidByText := true, laidKinds := [.data], laidTests := true, laidLooks := .later }
def QuatJoinedUptoCardSaid : Prop := Claim7.holds Tryz.pinned (.plain (OpenSpec.upto quatJoinedSpec)) quatJoinedUptoCard

/-- THE SECOND FORM's CARD OF 'binnaclelaw12.QuatShortest'. -/
def quatShortestUptoCard : Claim7 := { stood := { row := quatShortestUptoRow, standIns := [], harness := (true, "2ac09f5fad80a0833add6d076231e7efe57b343c1868c14a8dbdd9cb10592176"), looks := false }, kinds := [], alts := [], laidByText := true, laidKinds := [.data], laidTests := true, laidLooks := .later }
def QuatShortestUptoCardSaid : Prop := Claim7.holds Tryz.pinned (.plain (OpenSpec.upto quatShortestSpec)) quatShortestUptoCard

/-- THE SECOND FORM's CARD OF 'binnaclelaw12.QuatBack'. -/
def quatBackUptoCard : Claim7 := { stood := { row := quatBackUptoRow, standIns := [], harness := (true, "2ac09f5fad80a0833add6d076231e7efe57b343c1868c14a8dbdd9cb10592176"), looks := false }, kinds := [], alts := [], laidByText := true, laidKinds := [.data], laidTests := true, laidLooks := .later }
def QuatBackUptoCardSaid : Prop := Claim7.holds Tryz.pinned (.plain (OpenSpec.upto quatBackSpec)) quatBackUptoCard

/-- THE SECOND FORM's CARD OF 'binnaclelaw12.QuatStays'. -/
def quatStaysUptoCard : Claim7 := { stood := { row := quatStaysUptoRow, standIns := [], harness := (true, "2ac09f5fad80a0833add6d076231e7efe57b343c1868c14a8dbdd9cb10592176"), looks := false }, kinds := [], alts := [], laidByText := true, laidKinds := [.data], laidTests := true, laidLooks := .later }
def QuatStaysUptoCardSaid : Prop := Claim7.holds Tryz.pinned (.plain (OpenSpec.upto quatStaysSpec)) quatStaysUptoCard
end Rows
end Go.Proofs.YtadejnnigmcpdaaGreatDoor
