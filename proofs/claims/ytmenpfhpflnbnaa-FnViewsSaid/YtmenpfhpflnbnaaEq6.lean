/-
  What each function, and each round of each loop, comes to in the small machine. Written by a program (gen3.py).
-/
import Derived.Test.YtmenpfhpflnbnaaEnv
set_option linter.unusedVariables false
set_option maxRecDepth 100000
namespace Vm
open Go

theorem eq_spec_l2Copy (a0 : List (List S)) (n : Nat) : call Ev Fn.spec_l2Copy [lv a0] (D n) =
  (appS 1 ((D n).new 1 []) (sv ((D n).n) 0 0) (lv a0)).bind fun p101 =>
  some (p101.1, p101.2) := by
  rw [call_eq]; kernel_rfl

theorem eq_impl_copied (a0 : List (List S)) (n : Nat) : call Ev Fn.impl_copied [lv a0] (D n) =
  (appS 1 ((D n).new 1 []) (sv ((D n).n) 0 0) (lv a0)).bind fun p101 =>
  some (p101.1, p101.2) := by
  rw [call_eq]; kernel_rfl

end Vm
