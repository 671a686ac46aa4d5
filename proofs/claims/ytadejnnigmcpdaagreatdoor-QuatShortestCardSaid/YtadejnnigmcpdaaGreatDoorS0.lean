/-
  THE CHAPTER's FIRST EXAMPLES come out.
  Conditions: a loop's fuel is at least 1000.
-/
import Derived.Test.YtadejnnigmcpdaaGreatDoorGp
set_option linter.unusedVariables false
namespace Go.Proofs.YtadejnnigmcpdaaGreatDoor
open Go Go.Mach Ieee
set_option maxRecDepth 100000
theorem OB {N:Nat} (hN:1000<=N) (k:Bool->Bool):ag_ N k=k true:=by
 obtain⟨M,rfl⟩:∃ M,N=M+1000:=⟨N - 1000,by omega⟩
 kernel_rfl
end Go.Proofs.YtadejnnigmcpdaaGreatDoor
