/-
  All the equations of this seat, in one place. Written by a program (gen3.py).
-/
import Derived.Test.YtainemlfiibooaaEq0
import Derived.Test.YtainemlfiibooaaEq1
import Derived.Test.YtainemlfiibooaaEq2
import Derived.Test.YtainemlfiibooaaEq3
import Derived.Test.YtainemlfiibooaaEq4
import Derived.Test.YtainemlfiibooaaEq5
import Derived.Test.YtainemlfiibooaaDl
