/-
  All of them (written by a program).
-/
import Derived.Test.YtgdmjdacmebfjaaDoorMc1
import Derived.Test.YtgdmjdacmebfjaaDoorMc2
import Derived.Test.YtgdmjdacmebfjaaDoorMc3
