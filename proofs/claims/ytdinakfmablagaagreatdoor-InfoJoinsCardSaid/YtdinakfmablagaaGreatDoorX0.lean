/- Laws in plain Lean. Conditions: none. -/
import Derived.Test.YtdinakfmablagaaGreatDoorC1
set_option linter.defProp false
set_option linter.unusedVariables false
namespace Go.Proofs.YtdinakfmablagaaGreatDoor
open Go Go.Mach Ieee
def KG (N:Nat) (a b:Nat) (k:Ky9):Fz N a b k=k (decide (cn (some a)=cn (some b))):=by unfold Fz RF;simp only[BI,rP,AR,Ap];rw[<- JY a b (.inr trivial)];rfl
end Go.Proofs.YtdinakfmablagaaGreatDoor
