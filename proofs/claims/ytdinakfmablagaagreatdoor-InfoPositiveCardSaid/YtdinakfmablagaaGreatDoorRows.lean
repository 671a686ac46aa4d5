/-
  NARROWER THAN 'FOR EVERY INPUT', by the rows' own cells (each row's printed sentence says how): InfoUpdates: laid · InfoJoins: laid · InfoPositive: laid · InfoStates: laid · InfoChecks: laid.
  DERIVED. THE GIVEN ROWS OF THIS SEAT. 5 by the template 'for every input the law returns true; each argument reads behind the call as it read before'; 0 by the template 'total and deterministic' (their statements: YtdinakfmablagaaGreatDoorTotals.lean).
  GIVEN WITH THE SEED: the statements are not yours to turn. If you find one false, say at which input.
  Laid BY PROGRAM, IN A SANDBOX (cutbox-rows.mjs): the forced cells as the released guide's own fill.sh prints them over the translation e312f8599543a556… (all of the seat's roots in one cut). By AI agents, Wed Nov 11 2026. No macro, syntax, notation, axiom, sorry.
-/
import Derived.Test.YtdinakfmablagaaGreatDoorChecked
import GoSem.Claim
import GoSem.ClaimJoined
import GoSem.ClaimMapViews
import Derived.JoinedTies
import Derived.KernelRfl
namespace Go.Proofs.YtdinakfmablagaaGreatDoor
/- THE CELL 'sum', in the pinned program and in every row, IS THE sha256 OF THE DUMP (.gsa) THAT YtdinakfmablagaaGreatDoorProg.lean LOADS. Nothing in Lean hashes anything: it is a label: what it is worth is what the hold of that sum in a sandbox is worth. -/
noncomputable def Tryz.pinned : Pinned := { name := "ytdinakfmablagaagreatdoor", sum := "e312f8599543a556e84cc8f1ccb62e8ccf08fa3cd49ddcd2745091356a04da47", checked := Tryz.checked }
namespace Rows
def none {H : Type} : Left H := { results := [], args := [] }

/- WHAT THE LISTED PACKAGE-LEVEL VARIABLES READ AS WHEN THE CALL BEGINS. Each datum BY PROGRAM (the guide's laid-datum.mjs) off the statement by which the dump's own 'gosem.cut.vars' lays the variable. In a bare row this is a premise. The card (YtdinakfmablagaaGreatDoorCards.lean) ties it to the program's text. -/
def laid_math_bits_deBruijn32tab {H : Type} : DataW H := .agg [.lit (.int .u8 0), .lit (.int .u8 1), .lit (.int .u8 28), .lit (.int .u8 2), .lit (.int .u8 29), .lit (.int .u8 14), .lit (.int .u8 24), .lit (.int .u8 3), .lit (.int .u8 30), .lit (.int .u8 22), .lit (.int .u8 20), .lit (.int .u8 15), .lit (.int .u8 25), .lit (.int .u8 17), .lit (.int .u8 4), .lit (.int .u8 8), .lit (.int .u8 31), .lit (.int .u8 27), .lit (.int .u8 13), .lit (.int .u8 23), .lit (.int .u8 21), .lit (.int .u8 19), .lit (.int .u8 16), .lit (.int .u8 7), .lit (.int .u8 26), .lit (.int .u8 12), .lit (.int .u8 18), .lit (.int .u8 6), .lit (.int .u8 11), .lit (.int .u8 5), .lit (.int .u8 10), .lit (.int .u8 9)]
def laid_math_bits_deBruijn64tab {H : Type} : DataW H := .agg [.lit (.int .u8 0), .lit (.int .u8 1), .lit (.int .u8 56), .lit (.int .u8 2), .lit (.int .u8 57), .lit (.int .u8 49), .lit (.int .u8 28), .lit (.int .u8 3), .lit (.int .u8 61), .lit (.int .u8 58), .lit (.int .u8 42), .lit (.int .u8 50), .lit (.int .u8 38), .lit (.int .u8 29), .lit (.int .u8 17), .lit (.int .u8 4), .lit (.int .u8 62), .lit (.int .u8 47), .lit (.int .u8 59), .lit (.int .u8 36), .lit (.int .u8 45), .lit (.int .u8 43), .lit (.int .u8 51), .lit (.int .u8 22), .lit (.int .u8 53), .lit (.int .u8 39), .lit (.int .u8 33), .lit (.int .u8 30), .lit (.int .u8 24), .lit (.int .u8 18), .lit (.int .u8 12), .lit (.int .u8 5), .lit (.int .u8 63), .lit (.int .u8 55), .lit (.int .u8 48), .lit (.int .u8 27), .lit (.int .u8 60), .lit (.int .u8 41), .lit (.int .u8 37), .lit (.int .u8 16), .lit (.int .u8 46), .lit (.int .u8 35), .lit (.int .u8 44), .lit (.int .u8 21), .lit (.int .u8 52), .lit (.int .u8 32), .lit (.int .u8 23), .lit (.int .u8 11), .lit (.int .u8 54), .lit (.int .u8 26), .lit (.int .u8 40), .lit (.int .u8 15), .lit (.int .u8 34), .lit (.int .u8 20), .lit (.int .u8 31), .lit (.int .u8 10), .lit (.int .u8 25), .lit (.int .u8 14), .lit (.int .u8 19), .lit (.int .u8 9), .lit (.int .u8 13), .lit (.int .u8 8), .lit (.int .u8 7), .lit (.int .u8 6)]

/-- 'binnaclelaw17.InfoUpdates': WHATEVER THE INPUT: true; the input reads as it did. -/
def infoUpdatesSpec : ChangeSpec := { name := "infoUpdates", fn := fun _ => fun
  | [d1, d2, d3, d4, d5, d6, d7] => { results := [.lit (.bool true)], args := [d1, d2, d3, d4, d5, d6, d7] }
  | _ => none }
def infoUpdatesRow : OpenClaim := { program := "ytdinakfmablagaagreatdoor", sum := "e312f8599543a556e84cc8f1ccb62e8ccf08fa3cd49ddcd2745091356a04da47", func := "binnacle/binnaclelaw17.InfoUpdates", spec := "infoUpdates", inPlace := ["math.Float64frombits", "math.Float64bits", "math/bits.Add64", "math/bits.Sub64", "math.sqrt"], unfollowed := true, recurses := true, named := ["math/bits.deBruijn64tab", "math/bits.divideError", "math/bits.overflowError", "math/bits.deBruijn32tab"], apart := false, laid := [("math/bits.deBruijn32tab", laid_math_bits_deBruijn32tab), ("math/bits.deBruijn64tab", laid_math_bits_deBruijn64tab)] }
def InfoUpdatesSaid : Prop := infoUpdatesRow.holds Tryz.pinned (OpenSpec.ofChange infoUpdatesSpec)

/-- ITS FALSE NEIGHBOUR: 'it returns false'. Refute it at one input. -/
def infoUpdatesWrong : ChangeSpec := { name := "infoUpdates", fn := fun _ => fun
  | [d1, d2, d3, d4, d5, d6, d7] => { results := [.lit (.bool false)], args := [d1, d2, d3, d4, d5, d6, d7] }
  | _ => none }
def InfoUpdatesWrongFalsely : Prop := infoUpdatesRow.holds Tryz.pinned (OpenSpec.ofChange infoUpdatesWrong)

/-- 'binnaclelaw17.InfoJoins': WHATEVER THE INPUT: true; the input reads as it did. -/
def infoJoinsSpec : ChangeSpec := { name := "infoJoins", fn := fun _ => fun
  | [d1, d2, d3, d4, d5, d6] => { results := [.lit (.bool true)], args := [d1, d2, d3, d4, d5, d6] }
  | _ => none }
def infoJoinsRow : OpenClaim := { program := "ytdinakfmablagaagreatdoor", sum := "e312f8599543a556e84cc8f1ccb62e8ccf08fa3cd49ddcd2745091356a04da47", func := "binnacle/binnaclelaw17.InfoJoins", spec := "infoJoins", inPlace := ["math.Float64frombits", "math.Float64bits", "math/bits.Add64", "math/bits.Sub64", "math.sqrt"], unfollowed := true, recurses := true, named := ["math/bits.deBruijn32tab", "math/bits.deBruijn64tab", "math/bits.divideError", "math/bits.overflowError"], apart := false, laid := [("math/bits.deBruijn32tab", laid_math_bits_deBruijn32tab), ("math/bits.deBruijn64tab", laid_math_bits_deBruijn64tab)] }
def InfoJoinsSaid : Prop := infoJoinsRow.holds Tryz.pinned (OpenSpec.ofChange infoJoinsSpec)

/-- ITS FALSE NEIGHBOUR: 'it returns false'. Refute it at one input. -/
def infoJoinsWrong : ChangeSpec := { name := "infoJoins", fn := fun _ => fun
  | [d1, d2, d3, d4, d5, d6] => { results := [.lit (.bool false)], args := [d1, d2, d3, d4, d5, d6] }
  | _ => none }
def InfoJoinsWrongFalsely : Prop := infoJoinsRow.holds Tryz.pinned (OpenSpec.ofChange infoJoinsWrong)

/-- 'binnaclelaw17.InfoPositive': WHATEVER THE INPUT: true; the input reads as it did. -/
def infoPositiveSpec : ChangeSpec := { name := "infoPositive", fn := fun _ => fun
  | [d1, d2, d3, d4] => { results := [.lit (.bool true)], args := [d1, d2, d3, d4] }
  | _ => none }
def infoPositiveRow : OpenClaim := { program := "ytdinakfmablagaagreatdoor", sum := "e312f8599543a556e84cc8f1ccb62e8ccf08fa3cd49ddcd2745091356a04da47", func := "binnacle/binnaclelaw17.InfoPositive", spec := "infoPositive", inPlace := ["math.Float64frombits", "math.Float64bits", "math/bits.Add64", "math/bits.Sub64", "math.sqrt"], unfollowed := true, recurses := true, named := ["math/bits.deBruijn64tab", "math/bits.divideError", "math/bits.overflowError", "math/bits.deBruijn32tab"], apart := false, laid := [("math/bits.deBruijn32tab", laid_math_bits_deBruijn32tab), ("math/bits.deBruijn64tab", laid_math_bits_deBruijn64tab)] }
def InfoPositiveSaid : Prop := infoPositiveRow.holds Tryz.pinned (OpenSpec.ofChange infoPositiveSpec)

/-- ITS FALSE NEIGHBOUR: 'it returns false'. Refute it at one input. -/
def infoPositiveWrong : ChangeSpec := { name := "infoPositive", fn := fun _ => fun
  | [d1, d2, d3, d4] => { results := [.lit (.bool false)], args := [d1, d2, d3, d4] }
  | _ => none }
def InfoPositiveWrongFalsely : Prop := infoPositiveRow.holds Tryz.pinned (OpenSpec.ofChange infoPositiveWrong)

/-- 'binnaclelaw17.InfoStates': WHATEVER THE INPUT: true; the input reads as it did. -/
def infoStatesSpec : ChangeSpec := { name := "infoStates", fn := fun _ => fun
  | [d1, d2, d3, d4, d5] => { results := [.lit (.bool true)], args := [d1, d2, d3, d4, d5] }
  | _ => none }
def infoStatesRow : OpenClaim := { program := "ytdinakfmablagaagreatdoor", sum := "e312f8599543a556e84cc8f1ccb62e8ccf08fa3cd49ddcd2745091356a04da47", func := "binnacle/binnaclelaw17.InfoStates", spec := "infoStates", inPlace := ["math.Float64frombits", "math.Float64bits", "math/bits.Add64", "math/bits.Sub64", "math.sqrt"], unfollowed := true, recurses := true, named := ["math/bits.deBruijn64tab", "math/bits.divideError", "math/bits.overflowError", "math/bits.deBruijn32tab"], apart := false, laid := [("math/bits.deBruijn32tab", laid_math_bits_deBruijn32tab), ("math/bits.deBruijn64tab", laid_math_bits_deBruijn64tab)] }
def InfoStatesSaid : Prop := infoStatesRow.holds Tryz.pinned (OpenSpec.ofChange infoStatesSpec)

/-- ITS FALSE NEIGHBOUR: 'it returns false'. Refute it at one input. -/
def infoStatesWrong : ChangeSpec := { name := "infoStates", fn := fun _ => fun
  | [d1, d2, d3, d4, d5] => { results := [.lit (.bool false)], args := [d1, d2, d3, d4, d5] }
  | _ => none }
def InfoStatesWrongFalsely : Prop := infoStatesRow.holds Tryz.pinned (OpenSpec.ofChange infoStatesWrong)

/-- 'binnaclelaw17.InfoChecks': WHATEVER THE INPUT: true; the input reads as it did. -/
def infoChecksSpec : ChangeSpec := { name := "infoChecks", fn := fun _ => fun
  | [d1, d2, d3, d4, d5] => { results := [.lit (.bool true)], args := [d1, d2, d3, d4, d5] }
  | _ => none }
def infoChecksRow : OpenClaim := { program := "ytdinakfmablagaagreatdoor", sum := "e312f8599543a556e84cc8f1ccb62e8ccf08fa3cd49ddcd2745091356a04da47", func := "binnacle/binnaclelaw17.InfoChecks", spec := "infoChecks", inPlace := ["math.Float64frombits", "math.Float64bits", "math/bits.Add64", "math/bits.Sub64", "math.sqrt"], unfollowed := true, recurses := true, named := ["math/bits.deBruijn64tab", "math/bits.divideError", "math/bits.overflowError", "math/bits.deBruijn32tab"], apart := false, laid := [("math/bits.deBruijn32tab", laid_math_bits_deBruijn32tab), ("math/bits.deBruijn64tab", laid_math_bits_deBruijn64tab)] }
def InfoChecksSaid : Prop := infoChecksRow.holds Tryz.pinned (OpenSpec.ofChange infoChecksSpec)

/-- ITS FALSE NEIGHBOUR: 'it returns false'. Refute it at one input. -/
def infoChecksWrong : ChangeSpec := { name := "infoChecks", fn := fun _ => fun
  | [d1, d2, d3, d4, d5] => { results := [.lit (.bool false)], args := [d1, d2, d3, d4, d5] }
  | _ => none }
def InfoChecksWrongFalsely : Prop := infoChecksRow.holds Tryz.pinned (OpenSpec.ofChange infoChecksWrong)

/- THE SECOND FORM. 'bulk': how many values and letters a reading holds, each counted each time it is reached (what is shared counts as often as it is met; a slice's spare places count too). A statement '..UptoSaid' is the law's where the arguments, and the package variables that the reading takes, are together of bulk at most 1048576: NARROWER than '..Said'. Prove '..Said' where nothing that the law and all that it calls make is longer than what came in: it says more and counts as full. Else prove '..UptoSaid'. A law counts once. -/
mutual
def uptoBulk {H : Type} : DataW H → Nat
  | .lit (.string bytes) => bytes.length + 1
  | .lit _ => 1
  | .nil => 1
  | .ptr d => uptoBulk d + 1
  | .slice elems spare => uptoBulkAll elems + uptoBulkAll spare + 1
  | .agg parts => uptoBulkAll parts + 1
  | .iface _ d => uptoBulk d + 1
  | .map entries => uptoBulkEntries entries + 1
  | .held _ => 1
def uptoBulkAll {H : Type} : List (DataW H) → Nat
  | [] => 0
  | d :: r => uptoBulk d + uptoBulkAll r
def uptoBulkEntries {H : Type} : List (Lit × DataW H) → Nat
  | [] => 0
  | x :: r => uptoBulkEntry x + uptoBulkEntries r
def uptoBulkEntry {H : Type} : Lit × DataW H → Nat
  | (.string bytes, d) => bytes.length + uptoBulk d + 1
  | (_, d) => uptoBulk d + 1
 end
def uptoSmall : (H : Type) → List (DataW H) → Bool := fun _ ds => decide (uptoBulkAll ds ≤ 1048576)
def OpenSpec.upto (s : _root_.Go.ChangeSpec) : _root_.Go.OpenSpec := { _root_.Go.OpenSpec.ofChange s with cond := some uptoSmall }

/-- 'binnaclelaw17.InfoUpdates', WHERE WHAT IT READS IS OF BULK AT MOST 1048576: true; the input reads as it did. -/
def infoUpdatesUptoRow : OpenClaim := { program := "ytdinakfmablagaagreatdoor", sum := "e312f8599543a556e84cc8f1ccb62e8ccf08fa3cd49ddcd2745091356a04da47", func := "binnacle/binnaclelaw17.InfoUpdates", spec := "infoUpdates", inPlace := ["math.Float64frombits", "math.Float64bits", "math/bits.Add64", "math/bits.Sub64", "math.sqrt"], unfollowed := true, recurses := true, named := ["math/bits.deBruijn64tab", "math/bits.divideError", "math/bits.overflowError", "math/bits.deBruijn32tab"], apart := false, laid := [("math/bits.deBruijn32tab", laid_math_bits_deBruijn32tab), ("math/bits.deBruijn64tab", laid_math_bits_deBruijn64tab)], narrowed := true }
def InfoUpdatesUptoSaid : Prop := infoUpdatesUptoRow.holds Tryz.pinned (OpenSpec.upto infoUpdatesSpec)

/-- 'binnaclelaw17.InfoJoins', WHERE WHAT IT READS IS OF BULK AT MOST 1048576: true; the input reads as it did. -/
def infoJoinsUptoRow : OpenClaim := { program := "ytdinakfmablagaagreatdoor", sum := "e312f8599543a556e84cc8f1ccb62e8ccf08fa3cd49ddcd2745091356a04da47", func := "binnacle/binnaclelaw17.InfoJoins", spec := "infoJoins", inPlace := ["math.Float64frombits", "math.Float64bits", "math/bits.Add64", "math/bits.Sub64", "math.sqrt"], unfollowed := true, recurses := true, named := ["math/bits.deBruijn32tab", "math/bits.deBruijn64tab", "math/bits.divideError", "math/bits.overflowError"], apart := false, laid := [("math/bits.deBruijn32tab", laid_math_bits_deBruijn32tab), ("math/bits.deBruijn64tab", laid_math_bits_deBruijn64tab)], narrowed := true }
def InfoJoinsUptoSaid : Prop := infoJoinsUptoRow.holds Tryz.pinned (OpenSpec.upto infoJoinsSpec)

/-- 'binnaclelaw17.InfoPositive', WHERE WHAT IT READS IS OF BULK AT MOST 1048576: true; the input reads as it did. -/
def infoPositiveUptoRow : OpenClaim := { program := "ytdinakfmablagaagreatdoor", sum := "e312f8599543a556e84cc8f1ccb62e8ccf08fa3cd49ddcd2745091356a04da47", func := "binnacle/binnaclelaw17.InfoPositive", spec := "infoPositive", inPlace := ["math.Float64frombits", "math.Float64bits", "math/bits.Add64", "math/bits.Sub64", "math.sqrt"], unfollowed := true, recurses := true, named := ["math/bits.deBruijn64tab", "math/bits.divideError", "math/bits.overflowError", "math/bits.deBruijn32tab"], apart := false, laid := [("math/bits.deBruijn32tab", laid_math_bits_deBruijn32tab), ("math/bits.deBruijn64tab", laid_math_bits_deBruijn64tab)], narrowed := true }
def InfoPositiveUptoSaid : Prop := infoPositiveUptoRow.holds Tryz.pinned (OpenSpec.upto infoPositiveSpec)

/-- 'binnaclelaw17.InfoStates', WHERE WHAT IT READS IS OF BULK AT MOST 1048576: true; the input reads as it did. -/
def infoStatesUptoRow : OpenClaim := { program := "ytdinakfmablagaagreatdoor", sum := "e312f8599543a556e84cc8f1ccb62e8ccf08fa3cd49ddcd2745091356a04da47", func := "binnacle/binnaclelaw17.InfoStates", spec := "infoStates", inPlace := ["math.Float64frombits", "math.Float64bits", "math/bits.Add64", "math/bits.Sub64", "math.sqrt"], unfollowed := true, recurses := true, named := ["math/bits.deBruijn64tab", "math/bits.divideError", "math/bits.overflowError", "math/bits.deBruijn32tab"], apart := false, laid := [("math/bits.deBruijn32tab", laid_math_bits_deBruijn32tab), ("math/bits.deBruijn64tab", laid_math_bits_deBruijn64tab)], narrowed := true }
def InfoStatesUptoSaid : Prop := infoStatesUptoRow.holds Tryz.pinned (OpenSpec.upto infoStatesSpec)

/-- 'binnaclelaw17.InfoChecks', WHERE WHAT IT READS IS OF BULK AT MOST 1048576: true; the input reads as it did. -/
def infoChecksUptoRow : OpenClaim := { program := "ytdinakfmablagaagreatdoor", sum := "e312f8599543a556e84cc8f1ccb62e8ccf08fa3cd49ddcd2745091356a04da47", func := "binnacle/binnaclelaw17.InfoChecks", spec := "infoChecks", inPlace := ["math.Float64frombits", "math.Float64bits", "math/bits.Add64", "math/bits.Sub64", "math.sqrt"], unfollowed := true, recurses := true, named := ["math/bits.deBruijn64tab", "math/bits.divideError", "math/bits.overflowError", "math/bits.deBruijn32tab"], apart := false, laid := [("math/bits.deBruijn32tab", laid_math_bits_deBruijn32tab), ("math/bits.deBruijn64tab", laid_math_bits_deBruijn64tab)], narrowed := true }
def InfoChecksUptoSaid : Prop := infoChecksUptoRow.holds Tryz.pinned (OpenSpec.upto infoChecksSpec)

end Rows
end Go.Proofs.YtdinakfmablagaaGreatDoor
