/-
  All the equations of this seat, in one place. Written by a program (gen3.py).
-/
import Derived.Test.YtfpcfiaoilcbgaaDoorEq0
import Derived.Test.YtfpcfiaoilcbgaaDoorEq1
import Derived.Test.YtfpcfiaoilcbgaaDoorDl
