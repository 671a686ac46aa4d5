/- Laws in plain Lean. Conditions: none. -/
import Derived.Test.YtdinakfmablagaaGreatDoorC1
set_option linter.unusedVariables false
namespace Go.Proofs.YtdinakfmablagaaGreatDoor
open Go Go.Mach Ieee
theorem Ld (N:Nat) (a b:Nat) (k:Kz0):sQ7 N a b k=k (decide (cn (some a)=cn (some b))):=by unfold sQ7 GQ7;simp only[BV,rN,A7,AA];rw[<- Kq a b (.inr trivial)];rfl
end Go.Proofs.YtdinakfmablagaaGreatDoor
