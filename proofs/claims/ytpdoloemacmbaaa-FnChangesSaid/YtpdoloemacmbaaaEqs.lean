/-
  All the equations of this seat, in one place. Written by a program (gen3.py).
-/
import Derived.Test.YtpdoloemacmbaaaEq0
import Derived.Test.YtpdoloemacmbaaaEq1
import Derived.Test.YtpdoloemacmbaaaEq2
import Derived.Test.YtpdoloemacmbaaaDl
