/- Laws in plain Lean. Conditions: none. -/
import Derived.Test.YtdinakfmablagaaGreatDoorC1
set_option linter.unusedVariables false
namespace Go.Proofs.YtdinakfmablagaaGreatDoor
open Go Go.Mach Ieee
theorem Ol (N:Nat) (a b:Nat) (k:Kz4):sQ7 N a b k=k (decide (cn (some a)=cn (some b))):=by unfold sQ7 GQ7;simp only[Ef,uv,Dr,CU];rw[<- NB a b (.inr trivial)];rfl
end Go.Proofs.YtdinakfmablagaaGreatDoor
