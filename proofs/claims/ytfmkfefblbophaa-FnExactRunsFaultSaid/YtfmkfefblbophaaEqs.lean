/-
  All the equations of this seat, in one place. Written by a program (gen3.py).
-/
import Derived.Test.YtfmkfefblbophaaEq0
import Derived.Test.YtfmkfefblbophaaEq1
import Derived.Test.YtfmkfefblbophaaEq2
import Derived.Test.YtfmkfefblbophaaEq3
import Derived.Test.YtfmkfefblbophaaDl
