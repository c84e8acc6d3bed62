/-
  All the equations of this seat, in one place. Written by a program (gen3.py).
-/
import Derived.Test.YtmenpfhpflnbnaaEq0
import Derived.Test.YtmenpfhpflnbnaaEq1
import Derived.Test.YtmenpfhpflnbnaaEq2
import Derived.Test.YtmenpfhpflnbnaaEq3
import Derived.Test.YtmenpfhpflnbnaaEq4
import Derived.Test.YtmenpfhpflnbnaaEq5
import Derived.Test.YtmenpfhpflnbnaaEq6
import Derived.Test.YtmenpfhpflnbnaaEq7
import Derived.Test.YtmenpfhpflnbnaaEq8
import Derived.Test.YtmenpfhpflnbnaaEq9
import Derived.Test.YtmenpfhpflnbnaaEq10
import Derived.Test.YtmenpfhpflnbnaaDl
