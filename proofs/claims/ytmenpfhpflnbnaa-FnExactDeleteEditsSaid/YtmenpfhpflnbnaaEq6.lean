/-
  What each function, and each round of each loop, comes to in the small machine. Written by a program (gen3.py).
-/
import Derived.Test.YtmenpfhpflnbnaaEnv
set_option linter.unusedVariables false
set_option maxRecDepth 100000
namespace Vm
open Go

theorem eq_spec_l2Copy (a0 : List (List S)) (n : Nat) : call Ev Fn.spec_l2Copy [lv a0] (D n) =
  (appS 1 ((D n).new 1 []) (sv ((D n).n) 0 0) (lv a0)).bind fun p101 =>
  some (p101.1, p101.2) := by
  rw [call_eq]; kernel_rfl

theorem eq_spec_l7Copy (a0 : List (List S)) (n : Nat) : call Ev Fn.spec_l7Copy [lv a0] (D n) =
  (Lp.spec_l7Copy 0 [lv a0, sv ((D n).n) 0 0, iv .i64 0] ((D n).new 1 [])).bind fun o101 => lcase o101 (fun l102 h103 =>
  (l102[0]?).bind fun w106 =>
  some (w106, h103)) (fun v104 h105 =>
  some (v104, h105)) := by
  rw [call_eq]; kernel_rfl

theorem eq_spec_l7Copy_l0 (s0 : List (List S)) (s3 : V) (s4 : Int) (h : H) : Lp.spec_l7Copy 0 [lv s0, s3, iv .i64 s4] h =
  vcase (bv (decide (s4 < (s0.length : Int))))
  (idxF 1 s0 s4 fun r203 =>
  (r203[0]?).bind fun x204 =>
  gF x204 fun z205 =>
  pcallF (call Ev) Fn.spec_l2Copy true [lv z205] h fun v206 h207 =>
  cellsK v206 fun c208 =>
  if c208.length = 1 ∧ 0 + 1 ≤ ([.sl none 0] : List S).length then
  (appS 1 (h207.new 1 (setAt ([.sl none 0] : List S) 0 c208)) s3 (sv h207.n 0 1)).bind fun p209 =>
  Lp.spec_l7Copy 0 [lv s0, p209.1, iv .i64 (IntKind.i64.wrap (s4 + 1))] (tidy h [lv s0, p209.1, iv .i64 (IntKind.i64.wrap (s4 + 1))] p209.2)
  else none)
  (some (.done [s3] (tidy h [s3] h))) := by
  unfold Lp.spec_l7Copy; rw [loop_eq]; kernel_rfl

theorem eq_impl_copied (a0 : List (List S)) (n : Nat) : call Ev Fn.impl_copied [lv a0] (D n) =
  (appS 1 ((D n).new 1 []) (sv ((D n).n) 0 0) (lv a0)).bind fun p101 =>
  some (p101.1, p101.2) := by
  rw [call_eq]; kernel_rfl

theorem eq_impl_copies (a0 : List (List S)) (n : Nat) : call Ev Fn.impl_copies [lv a0] (D n) =
  (Lp.impl_copies 0 [.s (.sl none 0), lv a0, iv .i64 (a0.length : Int), iv .i64 0] (D n)).bind fun o101 => lcase o101 (fun l102 h103 =>
  (l102[0]?).bind fun w106 =>
  some (w106, h103)) (fun v104 h105 =>
  some (v104, h105)) := by
  rw [call_eq]; kernel_rfl

theorem eq_impl_copies_l0 (s3 : V) (s6 : List (List S)) (s7 : Int) (s8 : Int) (h : H) : Lp.impl_copies 0 [s3, lv s6, iv .i64 s7, iv .i64 s8] h =
  vcase (bv (decide (s8 < s7)))
  (idxF 1 s6 s8 fun r203 =>
  (r203[0]?).bind fun x204 =>
  gF x204 fun z205 =>
  pcallF (call Ev) Fn.impl_copied true [lv z205] h fun v206 h207 =>
  cellsK v206 fun c208 =>
  if c208.length = 1 ∧ 0 + 1 ≤ ([.sl none 0] : List S).length then
  (appS 1 (h207.new 1 (setAt ([.sl none 0] : List S) 0 c208)) s3 (sv h207.n 0 1)).bind fun p209 =>
  Lp.impl_copies 0 [p209.1, lv s6, iv .i64 s7, iv .i64 (IntKind.i64.wrap (s8 + 1))] (tidy h [p209.1, lv s6, iv .i64 s7, iv .i64 (IntKind.i64.wrap (s8 + 1))] p209.2)
  else none)
  (some (.done [s3] (tidy h [s3] h))) := by
  unfold Lp.impl_copies; rw [loop_eq]; kernel_rfl

theorem pu_laws_heldByteS (a0 : List (List S)) (a1 : Int) : pureV (call Ev) Fn.laws_heldByteS [lv a0, iv .i64 a1] =
  (Lp.laws_heldByteS 0 [lv a0, iv .i64 a1, iv .i64 0] (D 0)).bind fun o101 => lcase o101 (fun l102 h103 =>
  (l102[0]?).bind fun w106 =>
  gV1 w106 fun x107 =>
  gI .i64 x107 fun i108 =>
  some (iv .i64 i108)) (fun v104 h105 =>
  frzV h105 v104) := by
  rw [pure_eq]; kernel_rfl

theorem eq_laws_heldByteS_l0 (s0 : List (List S)) (s1 : Int) (s5 : Int) (h : H) : Lp.laws_heldByteS 0 [lv s0, iv .i64 s1, iv .i64 s5] h =
  vcase (bv (decide (s5 < (s0.length : Int))))
  (idxF 1 s0 s5 fun r203 =>
  (r203[0]?).bind fun x204 =>
  gI .u8 x204 fun i205 =>
  vcase (bv (i205 != (IntKind.u8.wrap s1)))
  (some (.ret (iv .i64 (-1)) h))
  (Lp.laws_heldByteS 0 [lv s0, iv .i64 (IntKind.i64.wrap (s1 + 1)), iv .i64 (IntKind.i64.wrap (s5 + 1))] (tidy h [lv s0, iv .i64 (IntKind.i64.wrap (s1 + 1)), iv .i64 (IntKind.i64.wrap (s5 + 1))] h)))
  (some (.done [iv .i64 s1] (tidy h [iv .i64 s1] h))) := by
  unfold Lp.laws_heldByteS; rw [loop_eq]; kernel_rfl

theorem pu_laws_heldByteSS (a0 : List (List S)) (a1 : Int) : pureV (call Ev) Fn.laws_heldByteSS [lv a0, iv .i64 a1] =
  (Lp.laws_heldByteSS 0 [lv a0, iv .i64 a1, iv .i64 0] (D 0)).bind fun o101 => lcase o101 (fun l102 h103 =>
  (l102[0]?).bind fun w106 =>
  gV1 w106 fun x107 =>
  gI .i64 x107 fun i108 =>
  some (iv .i64 i108)) (fun v104 h105 =>
  frzV h105 v104) := by
  rw [pure_eq]; kernel_rfl

theorem eq_laws_heldByteSS_l0 (s0 : List (List S)) (s1 : Int) (s5 : Int) (h : H) : Lp.laws_heldByteSS 0 [lv s0, iv .i64 s1, iv .i64 s5] h =
  vcase (bv (decide (s5 < (s0.length : Int))))
  (idxF 1 s0 s5 fun r203 =>
  (r203[0]?).bind fun x204 =>
  gF x204 fun z205 =>
  pcallS (call Ev) Fn.laws_heldByteS [lv z205, iv .i64 s1] fun v206 =>
  gV1 v206 fun x207 =>
  gI .i64 x207 fun i208 =>
  vcase (bv (decide (i208 < 0)))
  (some (.ret (iv .i64 (-1)) h))
  (Lp.laws_heldByteSS 0 [lv s0, iv .i64 i208, iv .i64 (IntKind.i64.wrap (s5 + 1))] (tidy h [lv s0, iv .i64 i208, iv .i64 (IntKind.i64.wrap (s5 + 1))] h)))
  (some (.done [iv .i64 s1] (tidy h [iv .i64 s1] h))) := by
  unfold Lp.laws_heldByteSS; rw [loop_eq]; kernel_rfl

end Vm
