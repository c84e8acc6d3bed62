/-
  All the equations of this seat, in one place. Written by a program (gen3.py).
-/
import Derived.Test.YtmenpfhpflnbnaaGreatEq0
import Derived.Test.YtmenpfhpflnbnaaGreatEq1
import Derived.Test.YtmenpfhpflnbnaaGreatEq2
import Derived.Test.YtmenpfhpflnbnaaGreatEq3
import Derived.Test.YtmenpfhpflnbnaaGreatEq4
import Derived.Test.YtmenpfhpflnbnaaGreatEq5
import Derived.Test.YtmenpfhpflnbnaaGreatEq6
import Derived.Test.YtmenpfhpflnbnaaGreatEq7
import Derived.Test.YtmenpfhpflnbnaaGreatEq8
