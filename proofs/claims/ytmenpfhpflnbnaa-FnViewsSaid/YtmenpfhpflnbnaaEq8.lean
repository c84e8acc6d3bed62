/-
  What each function, and each round of each loop, comes to in the small machine. Written by a program (gen3.py).
-/
import Derived.Test.YtmenpfhpflnbnaaEnv
set_option linter.unusedVariables false
set_option maxRecDepth 100000
namespace Vm
open Go

theorem eq_spec_l2Drop (a0 : List (List S)) (a1 : Int) (n : Nat) : call Ev Fn.spec_l2Drop [lv a0, iv .i64 a1] (D n) =
  pcallF (call Ev) Fn.spec_l2Copy true [lv a0] (D n) fun v101 h102 =>
  idxK 1 v101 (iv .i64 (IntKind.i64.wrap (2 + (IntKind.i64.wrap (2 * a1))))) fun v103 =>
  stK 1 h102 v103 (iv .u8 0) fun h104 =>
  idxK 1 v101 (iv .i64 (IntKind.i64.wrap (3 + (IntKind.i64.wrap (2 * a1))))) fun v105 =>
  stK 1 h104 v105 (iv .u8 0) fun h106 =>
  (Lp.spec_l2Drop 0 [v101] h106).bind fun o107 => lcase o107 (fun l108 h109 =>
  (l108[0]?).bind fun w112 =>
  some (w112, h109)) (fun v110 h111 =>
  some (v110, h111)) := by
  rw [call_eq]; kernel_rfl

theorem eq_spec_l2Drop_l0 (s5 : V) (h : H) : Lp.spec_l2Drop 0 [s5] h =
  idxK 1 s5 (iv .i64 0) fun v201 =>
  ldK (.one (.i .u8)) ⟨1, 1, [.int .u8 0], false, .int .u8, false⟩ h v201 fun v202 =>
  gV1 v202 fun x203 =>
  gI .u8 x203 fun i204 =>
  vcase (bv (decide (i204 > 0)))
  (idxK 1 s5 (iv .i64 0) fun v206 =>
  ldK (.one (.i .u8)) ⟨1, 1, [.int .u8 0], false, .int .u8, false⟩ h v206 fun v207 =>
  gV1 v207 fun x208 =>
  gI .u8 x208 fun i209 =>
  (frzVs h [s5, iv .i64 (IntKind.i64.wrap ((IntKind.i64.wrap i209) - 1))]).bind fun l210 =>
  pcallS (call Ev) Fn.spec_l2Size (normVs [] l210) fun v211 =>
  gV1 v211 fun x212 =>
  gI .i64 x212 fun i213 =>
  vcase (bv (i213 == 0))
  (idxK 1 s5 (iv .i64 0) fun v218 =>
  ldK (.one (.i .u8)) ⟨1, 1, [.int .u8 0], false, .int .u8, false⟩ h v218 fun v219 =>
  gV1 v219 fun x220 =>
  gI .u8 x220 fun i221 =>
  idxK 1 s5 (iv .i64 0) fun v222 =>
  stK 1 h v222 (iv .u8 (IntKind.u8.wrap (i221 - 1))) fun h223 =>
  Lp.spec_l2Drop 0 [s5] (tidy h [s5] h223))
  (some (.done [s5] (tidy h [s5] h))))
  (some (.done [s5] (tidy h [s5] h))) := by
  unfold Lp.spec_l2Drop; rw [loop_eq]; kernel_rfl

theorem pu_laws_lwBig (a0 : List (List S)) : pureV (call Ev) Fn.laws_lwBig [lv a0] =
  some (bv (decide ((a0.length : Int) > 1048576))) := by
  rw [pure_eq]; kernel_rfl

theorem eq_spec_l1Next (a0_b a0_o : Nat) (a1 : Int) (h : H) : call Ev Fn.spec_l1Next [pv a0_b a0_o, iv .i64 a1] h =
  (load1 h (pv a0_b (a0_o + 1))).bind fun x101 =>
  gI .i64 x101 fun i102 =>
  stK 1 h (pv a0_b (a0_o + 1)) (iv .i64 (IntKind.i64.wrap (i102 + 1))) fun h103 =>
  vcase (bv (decide (a1 < 1)))
  (some (iv .i64 0, h103))
  ((load1 h103 (pv a0_b (a0_o + 1))).bind fun x105 =>
  gI .i64 x105 fun i106 =>
  (load1 h103 (pv a0_b (a0_o + 0))).bind fun x107 =>
  (lenV (.sl 5) (.s x107)).bind fun v108 =>
  gV1 v108 fun x109 =>
  gI .i64 x109 fun i110 =>
  vcase (bv (i110 == 0))
  ((bin Ev .rem 2 (iv .i64 (IntKind.i64.wrap ((IntKind.i64.wrap (i106 - 1)) * 7))) (iv .i64 a1)).bind fun b112 =>
  gV1 b112 fun x113 =>
  gI .i64 x113 fun i114 =>
  some (iv .i64 i114, h103))
  ((load1 h103 (pv a0_b (a0_o + 0))).bind fun x115 =>
  (bin Ev .rem 2 (iv .i64 (IntKind.i64.wrap (i106 - 1))) (iv .i64 i110)).bind fun b116 =>
  gV1 b116 fun x117 =>
  gI .i64 x117 fun i118 =>
  idxK 1 (.s x115) (iv .i64 i118) fun v119 =>
  ldK (.one (.i .u8)) ⟨1, 1, [.int .u8 0], false, .int .u8, false⟩ h103 v119 fun v120 =>
  gV1 v120 fun x121 =>
  gI .u8 x121 fun i122 =>
  (bin Ev .quo 2 (iv .i64 (IntKind.i64.wrap (i106 - 1))) (iv .i64 i110)).bind fun b123 =>
  gV1 b123 fun x124 =>
  gI .i64 x124 fun i125 =>
  vcase (bv (decide (a1 > 200)))
  ((load1 h103 (pv a0_b (a0_o + 0))).bind fun x127 =>
  (bin Ev .rem 2 (iv .i64 (IntKind.i64.wrap ((IntKind.i64.wrap (i106 - 1)) + 1))) (iv .i64 i110)).bind fun b128 =>
  gV1 b128 fun x129 =>
  gI .i64 x129 fun i130 =>
  idxK 1 (.s x127) (iv .i64 i130) fun v131 =>
  ldK (.one (.i .u8)) ⟨1, 1, [.int .u8 0], false, .int .u8, false⟩ h103 v131 fun v132 =>
  gV1 v132 fun x133 =>
  gI .u8 x133 fun i134 =>
  (bin Ev .rem 2 (iv .i64 (IntKind.i64.wrap ((IntKind.i64.wrap ((IntKind.i64.wrap ((IntKind.i64.wrap ((IntKind.i64.wrap i122) + (IntKind.i64.wrap (i125 * 37)))) * 251)) + (IntKind.i64.wrap ((IntKind.i64.wrap i134) * 13)))) + (IntKind.i64.wrap (i106 - 1))))) (iv .i64 a1)).bind fun b135 =>
  gV1 b135 fun x136 =>
  gI .i64 x136 fun i137 =>
  some (iv .i64 i137, h103))
  ((bin Ev .rem 2 (iv .i64 (IntKind.i64.wrap ((IntKind.i64.wrap i122) + (IntKind.i64.wrap (i125 * 37))))) (iv .i64 a1)).bind fun b138 =>
  gV1 b138 fun x139 =>
  gI .i64 x139 fun i140 =>
  some (iv .i64 i140, h103)))) := by
  rw [call_eq]; kernel_rfl

theorem pu_spec_l2Empty (a0 : List (List S)) : pureV (call Ev) Fn.spec_l2Empty [lv a0] =
  (Lp.spec_l2Empty 0 [lv a0, iv .i64 0] (D 0)).bind fun o101 => lcase o101 (fun l102 h103 =>
  (l102[0]?).bind fun w106 =>
  gV1 w106 fun x107 =>
  gF x107 fun z108 =>
  pcallS (call Ev) Fn.spec_l2Count [lv z108] fun v109 =>
  gV1 v109 fun x110 =>
  gI .i64 x110 fun i111 =>
  some (iv .i64 i111)) (fun v104 h105 =>
  frzV h105 v104) := by
  rw [pure_eq]; kernel_rfl

theorem eq_spec_l2Empty_l0 (s0 : List (List S)) (s3 : Int) (h : H) : Lp.spec_l2Empty 0 [lv s0, iv .i64 s3] h =
  pcallS (call Ev) Fn.spec_l2Count [lv s0] fun v201 =>
  gV1 v201 fun x202 =>
  gI .i64 x202 fun i203 =>
  vcase (bv (decide (s3 < i203)))
  (pcallS (call Ev) Fn.spec_l2Size [lv s0, iv .i64 s3] fun v206 =>
  gV1 v206 fun x207 =>
  gI .i64 x207 fun i208 =>
  vcase (bv (i208 == 0))
  (some (.ret (iv .i64 s3) h))
  (Lp.spec_l2Empty 0 [lv s0, iv .i64 (IntKind.i64.wrap (s3 + 1))] (tidy h [lv s0, iv .i64 (IntKind.i64.wrap (s3 + 1))] h)))
  (some (.done [lv s0] (tidy h [lv s0] h))) := by
  unfold Lp.spec_l2Empty; rw [loop_eq]; kernel_rfl

theorem pu_spec_l2Free (a0 : List (List S)) : pureV (call Ev) Fn.spec_l2Free [lv a0] =
  pcallS (call Ev) Fn.spec_l2Count [lv a0] fun v101 =>
  gV1 v101 fun x102 =>
  gI .i64 x102 fun i103 =>
  (Lp.spec_l2Free 0 [lv a0, iv .i64 (IntKind.i64.wrap (62 - (IntKind.i64.wrap (2 * i103)))), iv .i64 0] (D 0)).bind fun o104 => lcase o104 (fun l105 h106 =>
  (l105[0]?).bind fun w109 =>
  gV1 w109 fun x110 =>
  gI .i64 x110 fun i111 =>
  some (iv .i64 i111)) (fun v107 h108 =>
  frzV h108 v107) := by
  rw [pure_eq]; kernel_rfl

theorem eq_spec_l2Free_l0 (s0 : List (List S)) (s3 : Int) (s4 : Int) (h : H) : Lp.spec_l2Free 0 [lv s0, iv .i64 s3, iv .i64 s4] h =
  pcallS (call Ev) Fn.spec_l2Count [lv s0] fun v201 =>
  gV1 v201 fun x202 =>
  gI .i64 x202 fun i203 =>
  vcase (bv (decide (s4 < i203)))
  (pcallS (call Ev) Fn.spec_l2Size [lv s0, iv .i64 s4] fun v206 =>
  gV1 v206 fun x207 =>
  gI .i64 x207 fun i208 =>
  Lp.spec_l2Free 0 [lv s0, iv .i64 (IntKind.i64.wrap (s3 - i208)), iv .i64 (IntKind.i64.wrap (s4 + 1))] (tidy h [lv s0, iv .i64 (IntKind.i64.wrap (s3 - i208)), iv .i64 (IntKind.i64.wrap (s4 + 1))] h))
  (some (.done [iv .i64 s3] (tidy h [iv .i64 s3] h))) := by
  unfold Lp.spec_l2Free; rw [loop_eq]; kernel_rfl

theorem eq_spec_l2Stand (a0 : V) (a1 : Int) (a2 : Int) (a3 : V) (h : H) : call Ev Fn.spec_l2Stand [a0, iv .i64 a1, iv .i64 a2, a3] h =
  slK 1 h a0 (some (iv .i64 a2)) none fun v101 =>
  (copS 1 h v101 a3).bind fun p102 =>
  gV1 p102.1 fun x103 =>
  gI .i64 x103 fun i104 =>
  idxK 1 a0 (iv .i64 (IntKind.i64.wrap (2 + (IntKind.i64.wrap (2 * a1))))) fun v105 =>
  stK 1 p102.2 v105 (iv .u8 (IntKind.u8.wrap a2)) fun h106 =>
  (lenV (.sl 5) a3).bind fun v107 =>
  gV1 v107 fun x108 =>
  gI .i64 x108 fun i109 =>
  idxK 1 a0 (iv .i64 (IntKind.i64.wrap (3 + (IntKind.i64.wrap (2 * a1))))) fun v110 =>
  stK 1 h106 v110 (iv .u8 (IntKind.u8.wrap i109)) fun h111 =>
  some (.tup [], h111) := by
  rw [call_eq]; kernel_rfl

end Vm
