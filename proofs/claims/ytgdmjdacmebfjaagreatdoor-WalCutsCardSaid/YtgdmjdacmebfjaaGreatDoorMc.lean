/-
  All of them (written by a program).
-/
import Derived.Test.YtgdmjdacmebfjaaGreatDoorMc1
import Derived.Test.YtgdmjdacmebfjaaGreatDoorMc2
