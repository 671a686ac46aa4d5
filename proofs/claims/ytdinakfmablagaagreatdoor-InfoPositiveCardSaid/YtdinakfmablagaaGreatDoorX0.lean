/- Laws in plain Lean. Conditions: none. -/
import Derived.Test.YtdinakfmablagaaGreatDoorC1
set_option linter.unusedVariables false
namespace Go.Proofs.YtdinakfmablagaaGreatDoor
open Go Go.Mach Ieee
theorem OP (N:Nat) (a b:Nat) (k:Kz1):sQ8 N a b k=k (decide (cn (some a)=cn (some b))):=by unfold sQ8 GQ8;simp only[Ef,uB,Dp,CU];rw[<- NW a b (.inr trivial)];rfl
end Go.Proofs.YtdinakfmablagaaGreatDoor
