/-
  Stub: the laws of this seat lie in XL1.
  Conditions: none.
-/
import Derived.Test.YtadejnnigmcpdaaGreatDoorL1
set_option linter.unusedVariables false
