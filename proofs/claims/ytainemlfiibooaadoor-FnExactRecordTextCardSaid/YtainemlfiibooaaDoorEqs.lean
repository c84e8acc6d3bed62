/-
  All the equations of this seat, in one place. Written by a program (gen3.py).
-/
import Derived.Test.YtainemlfiibooaaDoorEq0
import Derived.Test.YtainemlfiibooaaDoorEq1
import Derived.Test.YtainemlfiibooaaDoorEq2
import Derived.Test.YtainemlfiibooaaDoorEq3
import Derived.Test.YtainemlfiibooaaDoorDl
