/-
  All the equations of this seat, in one place. Written by a program (gen3.py).
-/
import Derived.Test.YtpdoloemacmbaaaEq0
import Derived.Test.YtpdoloemacmbaaaEq1
import Derived.Test.YtpdoloemacmbaaaEq2
import Derived.Test.YtpdoloemacmbaaaEq3
import Derived.Test.YtpdoloemacmbaaaEq4
import Derived.Test.YtpdoloemacmbaaaEq5
import Derived.Test.YtpdoloemacmbaaaEq6
import Derived.Test.YtpdoloemacmbaaaEq7
import Derived.Test.YtpdoloemacmbaaaEq8
import Derived.Test.YtpdoloemacmbaaaDl
