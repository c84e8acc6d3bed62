/-
  What each function, and each round of each loop, comes to in the small machine. Written by a program (gen3.py).
-/
import Derived.Test.YtmenpfhpflnbnaaEnv
set_option linter.unusedVariables false
set_option maxRecDepth 100000
namespace Vm
open Go

theorem pu_spec_l7Bad (a0 : Int) : pureV (call Ev) Fn.spec_l7Bad [iv .i64 a0] =
  some (.agg [.int .i64 a0, .fs [], .fs []]) := by
  rw [pure_eq]; kernel_rfl

theorem eq_spec_l7Start (a0 : List (List S)) (n : Nat) : call Ev Fn.spec_l7Start [lv a0] (D n) =
  pcallF (call Ev) Fn.spec_l7Copy true [lv a0] (D n) fun v101 h102 =>
  cellsK v101 fun c103 =>
  if c103.length = 1 ∧ 0 + 1 ≤ ([.sl none 0, .sl none 0] : List S).length then
  ((setAt ([.sl none 0, .sl none 0] : List S) 0 c103)[0]?).bind fun x104 =>
  ((setAt ([.sl none 0, .sl none 0] : List S) 0 c103)[1]?).bind fun x105 =>
  if (setAt ([.sl none 0, .sl none 0] : List S) 0 c103).length = 2 then
  some (pv h102.n 0, h102.new 0 [x104, x105])
  else none
  else none := by
  rw [call_eq]; kernel_rfl

end Vm
