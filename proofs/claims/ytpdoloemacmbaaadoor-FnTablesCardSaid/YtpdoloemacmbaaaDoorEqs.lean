/-
  All the equations of this seat, in one place. Written by a program (gen3.py).
-/
import Derived.Test.YtpdoloemacmbaaaDoorEq0
import Derived.Test.YtpdoloemacmbaaaDoorEq1
import Derived.Test.YtpdoloemacmbaaaDoorEq2
import Derived.Test.YtpdoloemacmbaaaDoorDl
