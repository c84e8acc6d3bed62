/-
  All the equations of this seat, in one place. Written by a program (gen3.py).
-/
import Derived.Test.YtfpcfiaoilcbgaaEq0
import Derived.Test.YtfpcfiaoilcbgaaEq1
import Derived.Test.YtfpcfiaoilcbgaaEq2
import Derived.Test.YtfpcfiaoilcbgaaEq3
import Derived.Test.YtfpcfiaoilcbgaaEq4
import Derived.Test.YtfpcfiaoilcbgaaEq5
import Derived.Test.YtfpcfiaoilcbgaaEq6
import Derived.Test.YtfpcfiaoilcbgaaEq7
import Derived.Test.YtfpcfiaoilcbgaaEq8
import Derived.Test.YtfpcfiaoilcbgaaDl
