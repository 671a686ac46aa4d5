/-
  DERIVED. GIVEN WITH THE SEED: THE CARDS: each row of YtjpaijnmiaoopaaGreatDoorRows.lean that lists a variable, with what it lists TIED to the program's text (the seventh form; the later family's looks); each row that meets fmt, with fmt's text TOLD by the authors' own Lean function (tested against real Go, not proved from fmt's source: count such statements apart). THE CARD IS WHAT COUNTS. Prove the row's statement (the work); the ties are given (YtjpaijnmiaoopaaGreatDoorTie.lean); close each card by the builder's one call (the guide's Derived/Test/ToyasCard.lean, 'card_holds'). Laid BY PROGRAM, IN A SANDBOX (cutbox-door.mjs). By AI agents, Wed Nov 11 2026. No macro, syntax, notation, axiom, sorry.
-/
import Derived.Test.YtjpaijnmiaoopaaGreatDoorRows
import GoSem.ClaimSeven
namespace Go.Proofs.YtjpaijnmiaoopaaGreatDoor
namespace Rows

/-- THE TIED CARD OF 'binnaclelaw16.RootExact'. -/
def rootExactCard : Claim7 := { stood := { row := rootExactRow, standIns := [], harness := (true, "0a8fc9934e4f92e992d438deff6816884ff11eace278157f304905b30582790c"), looks := true }, kinds := [], alts := [], laidByText := true, laidKinds := [.data], laidTests := true, laidLooks := .later }
def RootExactCardSaid : Prop := Claim7.holds Tryz.pinned (.plain (OpenSpec.ofChange rootExactSpec)) rootExactCard

/-- THE TIED CARD OF 'binnaclelaw17.InfoRoots'. -/
def infoRootsCard : Claim7 := { stood := { row := infoRootsRow, standIns := [], harness := (true, "0a8fc9934e4f92e992d438deff6816884ff11eace278157f304905b30582790c"), looks := true }, kinds := [], alts := [], laidByText := true, laidKinds := [.data], laidTests := true, laidLooks := .later }
def InfoRootsCardSaid : Prop := Claim7.holds Tryz.pinned (.plain (OpenSpec.ofChange infoRootsSpec)) infoRootsCard

/-- THE SECOND FORM's CARD OF 'binnaclelaw16.RootExact'. -/
def rootExactUptoCard : Claim7 := { stood := { row := rootExactUptoRow, standIns := [], harness := (true, "0a8fc9934e4f92e992d438deff6816884ff11eace278157f304905b30582790c"), looks := true }, kinds := [], alts := [], laidByText := true, laidKinds := [.data], laidTests := true, laidLooks := .later }
def RootExactUptoCardSaid : Prop := Claim7.holds Tryz.pinned (.plain (OpenSpec.upto rootExactSpec)) rootExactUptoCard

/-- THE SECOND FORM's CARD OF 'binnaclelaw17.InfoRoots'. -/
def infoRootsUptoCard : Claim7 := { stood := { row := infoRootsUptoRow, standIns := [], harness := (true, "0a8fc9934e4f92e992d438deff6816884ff11eace278157f304905b30582790c"), looks := true }, kinds := [], alts := [], laidByText := true, laidKinds := [.data], laidTests := true, laidLooks := .later }
def InfoRootsUptoCardSaid : Prop := Claim7.holds Tryz.pinned (.plain (OpenSpec.upto infoRootsSpec)) infoRootsUptoCard
end Rows
end Go.Proofs.YtjpaijnmiaoopaaGreatDoor
