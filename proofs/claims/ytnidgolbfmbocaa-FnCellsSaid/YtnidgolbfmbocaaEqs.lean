/-
  All the equations of this seat, in one place. Written by a program (gen3.py).
-/
import Derived.Test.YtnidgolbfmbocaaEq0
import Derived.Test.YtnidgolbfmbocaaEq1
import Derived.Test.YtnidgolbfmbocaaEq2
import Derived.Test.YtnidgolbfmbocaaEq3
import Derived.Test.YtnidgolbfmbocaaEq4
import Derived.Test.YtnidgolbfmbocaaEq5
import Derived.Test.YtnidgolbfmbocaaEq6
import Derived.Test.YtnidgolbfmbocaaEq7
import Derived.Test.YtnidgolbfmbocaaDl
