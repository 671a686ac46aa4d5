/-
  Stub: the laws of this seat lie in XL1.
  Conditions: none.
-/
import Derived.Test.YtjpaijnmiaoopaaGreatDoorL1

