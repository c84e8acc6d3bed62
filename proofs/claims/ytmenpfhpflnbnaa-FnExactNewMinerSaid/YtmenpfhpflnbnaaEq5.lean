/-
  What each function, and each round of each loop, comes to in the small machine. Written by a program (gen3.py).
-/
import Derived.Test.YtmenpfhpflnbnaaEnv
set_option linter.unusedVariables false
set_option maxRecDepth 100000
namespace Vm
open Go

theorem eq_laws_markByteS (a0 : V) (a1 : Int) (h : H) : call Ev Fn.laws_markByteS [a0, iv .i64 a1] h =
  (Lp.laws_markByteS 0 [a0, iv .i64 a1, iv .i64 0] h).bind fun o101 => lcase o101 (fun l102 h103 =>
  (l102[0]?).bind fun w106 =>
  gV1 w106 fun x107 =>
  gI .i64 x107 fun i108 =>
  some (iv .i64 i108, h103)) (fun v104 h105 =>
  some (v104, h105)) := by
  rw [call_eq]; kernel_rfl

theorem eq_laws_markByteS_l0 (s0 : V) (s1 : Int) (s5 : Int) (h : H) : Lp.laws_markByteS 0 [s0, iv .i64 s1, iv .i64 s5] h =
  (lenV (.sl 5) s0).bind fun v201 =>
  gV1 v201 fun x202 =>
  gI .i64 x202 fun i203 =>
  vcase (bv (decide (s5 < i203)))
  (idxK 1 s0 (iv .i64 s5) fun v206 =>
  stK 1 h v206 (iv .u8 (IntKind.u8.wrap s1)) fun h207 =>
  Lp.laws_markByteS 0 [s0, iv .i64 (IntKind.i64.wrap (s1 + 1)), iv .i64 (IntKind.i64.wrap (s5 + 1))] (tidy h [s0, iv .i64 (IntKind.i64.wrap (s1 + 1)), iv .i64 (IntKind.i64.wrap (s5 + 1))] h207))
  (some (.done [iv .i64 s1] (tidy h [iv .i64 s1] h))) := by
  unfold Lp.laws_markByteS; rw [loop_eq]; kernel_rfl

theorem eq_laws_markByteSS (a0 : V) (a1 : Int) (h : H) : call Ev Fn.laws_markByteSS [a0, iv .i64 a1] h =
  (Lp.laws_markByteSS 0 [a0, iv .i64 a1, iv .i64 0] h).bind fun o101 => lcase o101 (fun l102 h103 =>
  (l102[0]?).bind fun w106 =>
  gV1 w106 fun x107 =>
  gI .i64 x107 fun i108 =>
  some (iv .i64 i108, h103)) (fun v104 h105 =>
  some (v104, h105)) := by
  rw [call_eq]; kernel_rfl

theorem eq_laws_markByteSS_l0 (s0 : V) (s1 : Int) (s5 : Int) (h : H) : Lp.laws_markByteSS 0 [s0, iv .i64 s1, iv .i64 s5] h =
  (lenV (.sl 64) s0).bind fun v201 =>
  gV1 v201 fun x202 =>
  gI .i64 x202 fun i203 =>
  vcase (bv (decide (s5 < i203)))
  (idxK 1 s0 (iv .i64 s5) fun v206 =>
  ldK (.one (.f)) ⟨1, 24, [.sl none 0], false, .sl 5, false⟩ h v206 fun v207 =>
  (call Ev Fn.laws_markByteS [v207, iv .i64 s1] h).bind fun p208 =>
  gV1 p208.1 fun x209 =>
  gI .i64 x209 fun i210 =>
  Lp.laws_markByteSS 0 [s0, iv .i64 i210, iv .i64 (IntKind.i64.wrap (s5 + 1))] (tidy h [s0, iv .i64 i210, iv .i64 (IntKind.i64.wrap (s5 + 1))] (tidy h [p208.1] p208.2)))
  (some (.done [iv .i64 s1] (tidy h [iv .i64 s1] h))) := by
  unfold Lp.laws_markByteSS; rw [loop_eq]; kernel_rfl

theorem pu_spec_l9Bad (a0 : Int) : pureV (call Ev) Fn.spec_l9Bad [iv .i64 a0] =
  some (.agg [.int .i64 a0, .bool false, .bool false, .int .i64 0, .fs [], .fs [], .fs []]) := by
  rw [pure_eq]; kernel_rfl

end Vm
