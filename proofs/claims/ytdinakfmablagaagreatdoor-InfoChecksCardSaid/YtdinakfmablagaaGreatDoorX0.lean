/- Laws in plain Lean. Conditions: none. -/
import Derived.Test.YtdinakfmablagaaGreatDoorC1
set_option linter.unusedVariables false
namespace Go.Proofs.YtdinakfmablagaaGreatDoor
open Go Go.Mach Ieee
theorem OY (N:Nat) (a b:Nat) (k:Kz3):sQ7 N a b k=k (decide (cn (some a)=cn (some b))):=by unfold sQ7 GQ7;simp only[Ev,uO,DJ,Dc];rw[<- N6 a b (.inr trivial)];rfl
end Go.Proofs.YtdinakfmablagaaGreatDoor
