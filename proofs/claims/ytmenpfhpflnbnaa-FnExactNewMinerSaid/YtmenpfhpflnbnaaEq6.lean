/-
  What each function, and each round of each loop, comes to in the small machine. Written by a program (gen3.py).
-/
import Derived.Test.YtmenpfhpflnbnaaEnv
set_option linter.unusedVariables false
set_option maxRecDepth 100000
namespace Vm
open Go

theorem eq_spec_l2Copy (a0 : List (List S)) (n : Nat) : call Ev Fn.spec_l2Copy [lv a0] (D n) =
  (appS 1 ((D n).new 1 []) (sv ((D n).n) 0 0) (lv a0)).bind fun p101 =>
  some (p101.1, p101.2) := by
  rw [call_eq]; kernel_rfl

theorem eq_spec_l7Copy (a0 : List (List S)) (n : Nat) : call Ev Fn.spec_l7Copy [lv a0] (D n) =
  (Lp.spec_l7Copy 0 [lv a0, sv ((D n).n) 0 0, iv .i64 0] ((D n).new 1 [])).bind fun o101 => lcase o101 (fun l102 h103 =>
  (l102[0]?).bind fun w106 =>
  some (w106, h103)) (fun v104 h105 =>
  some (v104, h105)) := by
  rw [call_eq]; kernel_rfl

theorem eq_spec_l7Copy_l0 (s0 : List (List S)) (s3 : V) (s4 : Int) (h : H) : Lp.spec_l7Copy 0 [lv s0, s3, iv .i64 s4] h =
  vcase (bv (decide (s4 < (s0.length : Int))))
  (idxF 1 s0 s4 fun r203 =>
  (r203[0]?).bind fun x204 =>
  gF x204 fun z205 =>
  pcallF (call Ev) Fn.spec_l2Copy true [lv z205] h fun v206 h207 =>
  cellsK v206 fun c208 =>
  if c208.length = 1 ∧ 0 + 1 ≤ ([.sl none 0] : List S).length then
  (appS 1 (h207.new 1 (setAt ([.sl none 0] : List S) 0 c208)) s3 (sv h207.n 0 1)).bind fun p209 =>
  Lp.spec_l7Copy 0 [lv s0, p209.1, iv .i64 (IntKind.i64.wrap (s4 + 1))] (tidy h [lv s0, p209.1, iv .i64 (IntKind.i64.wrap (s4 + 1))] p209.2)
  else none)
  (some (.done [s3] (tidy h [s3] h))) := by
  unfold Lp.spec_l7Copy; rw [loop_eq]; kernel_rfl

theorem pu_spec_NewMiner (a0 : List (List S)) : pureV (call Ev) Fn.spec_NewMiner [lv a0] =
  pcallS (call Ev) Fn.spec_l6Fault [lv a0] fun v101 =>
  gV1 v101 fun x102 =>
  gI .i64 x102 fun i103 =>
  vcase (bv (i103 != 0))
  ((pureV (call Ev) Fn.spec_l9Bad [iv .i64 i103]).bind fun v105 =>
  gVA v105 fun c106 =>
  (c106[0]?).bind fun x107 =>
  gI .i64 x107 fun i108 =>
  (c106[1]?).bind fun x109 =>
  gB x109 fun q110 =>
  (c106[2]?).bind fun x111 =>
  gB x111 fun q112 =>
  (c106[3]?).bind fun x113 =>
  gI .i64 x113 fun i114 =>
  (c106[4]?).bind fun x115 =>
  gF x115 fun z116 =>
  (c106[5]?).bind fun x117 =>
  gF x117 fun z118 =>
  (c106[6]?).bind fun x119 =>
  gF x119 fun z120 =>
  if c106.length = 7 then
  some (.agg [.int .i64 i108, .bool q110, .bool q112, .int .i64 i114, .fs z116, .fs z118, .fs z120])
  else none)
  ((pureV (call Ev) Fn.spec_l7Copy [lv a0]).bind fun v121 =>
  gV1 v121 fun x122 =>
  gF x122 fun z123 =>
  some (.agg [.int .i64 0, .bool false, .bool false, .int .i64 0, .fs [], .fs z123, .fs []])) := by
  rw [pure_eq]; kernel_rfl

theorem eq_impl_copied (a0 : List (List S)) (n : Nat) : call Ev Fn.impl_copied [lv a0] (D n) =
  (appS 1 ((D n).new 1 []) (sv ((D n).n) 0 0) (lv a0)).bind fun p101 =>
  some (p101.1, p101.2) := by
  rw [call_eq]; kernel_rfl

theorem eq_impl_copies (a0 : List (List S)) (n : Nat) : call Ev Fn.impl_copies [lv a0] (D n) =
  (Lp.impl_copies 0 [.s (.sl none 0), lv a0, iv .i64 (a0.length : Int), iv .i64 0] (D n)).bind fun o101 => lcase o101 (fun l102 h103 =>
  (l102[0]?).bind fun w106 =>
  some (w106, h103)) (fun v104 h105 =>
  some (v104, h105)) := by
  rw [call_eq]; kernel_rfl

theorem eq_impl_copies_l0 (s3 : V) (s6 : List (List S)) (s7 : Int) (s8 : Int) (h : H) : Lp.impl_copies 0 [s3, lv s6, iv .i64 s7, iv .i64 s8] h =
  vcase (bv (decide (s8 < s7)))
  (idxF 1 s6 s8 fun r203 =>
  (r203[0]?).bind fun x204 =>
  gF x204 fun z205 =>
  pcallF (call Ev) Fn.impl_copied true [lv z205] h fun v206 h207 =>
  cellsK v206 fun c208 =>
  if c208.length = 1 ∧ 0 + 1 ≤ ([.sl none 0] : List S).length then
  (appS 1 (h207.new 1 (setAt ([.sl none 0] : List S) 0 c208)) s3 (sv h207.n 0 1)).bind fun p209 =>
  Lp.impl_copies 0 [p209.1, lv s6, iv .i64 s7, iv .i64 (IntKind.i64.wrap (s8 + 1))] (tidy h [p209.1, lv s6, iv .i64 s7, iv .i64 (IntKind.i64.wrap (s8 + 1))] p209.2)
  else none)
  (some (.done [s3] (tidy h [s3] h))) := by
  unfold Lp.impl_copies; rw [loop_eq]; kernel_rfl

theorem eq_impl_NewMiner (a0 : List (List S)) (n : Nat) : call Ev Fn.impl_NewMiner [lv a0] (D n) =
  pcallS (call Ev) Fn.impl_PagesFault [lv a0] fun v101 =>
  gV1 v101 fun x102 =>
  gI .i64 x102 fun i103 =>
  vcase (bv (i103 != 0))
  (stK 7 ((D n).new 0 [.int .i64 0, .bool false, .bool false, .int .i64 0, .sl none 0, .sl none 0, .sl none 0]) (pv ((D n).n) 0) (.agg [.int .i64 i103, .bool false, .bool false, .int .i64 0, .sl none 0, .sl none 0, .sl none 0]) fun h105 =>
  (loadN 7 h105 (pv ((D n).n) 0)).bind fun c106 =>
  some (.agg c106, h105))
  (pcallF (call Ev) Fn.impl_copies true [lv a0] ((D n).new 0 [.int .i64 0, .bool false, .bool false, .int .i64 0, .sl none 0, .sl none 0, .sl none 0]) fun v107 h108 =>
  cellsK v107 fun c109 =>
  if c109.length = 1 ∧ 0 + 1 ≤ ([.sl none 0, .sl none 0] : List S).length then
  ((setAt ([.sl none 0, .sl none 0] : List S) 0 c109)[0]?).bind fun x110 =>
  ((setAt ([.sl none 0, .sl none 0] : List S) 0 c109)[1]?).bind fun x111 =>
  if (setAt ([.sl none 0, .sl none 0] : List S) 0 c109).length = 2 then
  stK 7 h108 (pv ((D n).n) 0) (.agg [.int .i64 0, .bool false, .bool false, .int .i64 0, .sl none 0, x110, x111]) fun h112 =>
  (loadN 7 h112 (pv ((D n).n) 0)).bind fun c113 =>
  some (.agg c113, h112)
  else none
  else none) := by
  rw [call_eq]; kernel_rfl

theorem pu_laws_eqChangeS (a0 : List (List S)) (a1 : List (List S)) : pureV (call Ev) Fn.laws_eqChangeS [lv a0, lv a1] =
  vcase (bv ((a0.length : Int) != (a1.length : Int)))
  (some (bv false))
  ((Lp.laws_eqChangeS 0 [lv a0, lv a1, iv .i64 0] (D 0)).bind fun o102 => lcase o102 (fun l103 h104 =>
  some (bv true)) (fun v105 h106 =>
  frzV h106 v105)) := by
  rw [pure_eq]; kernel_rfl

theorem eq_laws_eqChangeS_l0 (s0 : List (List S)) (s1 : List (List S)) (s5 : Int) (h : H) : Lp.laws_eqChangeS 0 [lv s0, lv s1, iv .i64 s5] h =
  vcase (bv (decide (s5 < (s0.length : Int))))
  (idxF 10 s0 s5 fun r203 =>
  (rowN 10 r203 0).bind fun c204 =>
  (c204[0]?).bind fun x205 =>
  gB x205 fun q206 =>
  (c204[1]?).bind fun x207 =>
  gI .i64 x207 fun i208 =>
  (c204[2]?).bind fun x209 =>
  gI .i64 x209 fun i210 =>
  (c204[3]?).bind fun x211 =>
  gI .i64 x211 fun i212 =>
  (c204[4]?).bind fun x213 =>
  gS x213 fun y214 =>
  (c204[5]?).bind fun x215 =>
  gB x215 fun q216 =>
  (c204[6]?).bind fun x217 =>
  gI .i64 x217 fun i218 =>
  (c204[7]?).bind fun x219 =>
  gI .i64 x219 fun i220 =>
  (c204[8]?).bind fun x221 =>
  gI .i64 x221 fun i222 =>
  (c204[9]?).bind fun x223 =>
  gS x223 fun y224 =>
  if c204.length = 10 then
  idxF 10 s1 s5 fun r225 =>
  (rowN 10 r225 0).bind fun c226 =>
  (c226[0]?).bind fun x227 =>
  gB x227 fun q228 =>
  (c226[1]?).bind fun x229 =>
  gI .i64 x229 fun i230 =>
  (c226[2]?).bind fun x231 =>
  gI .i64 x231 fun i232 =>
  (c226[3]?).bind fun x233 =>
  gI .i64 x233 fun i234 =>
  (c226[4]?).bind fun x235 =>
  gS x235 fun y236 =>
  (c226[5]?).bind fun x237 =>
  gB x237 fun q238 =>
  (c226[6]?).bind fun x239 =>
  gI .i64 x239 fun i240 =>
  (c226[7]?).bind fun x241 =>
  gI .i64 x241 fun i242 =>
  (c226[8]?).bind fun x243 =>
  gI .i64 x243 fun i244 =>
  (c226[9]?).bind fun x245 =>
  gS x245 fun y246 =>
  if c226.length = 10 then
  pcallS (call Ev) Fn.laws_eqChange [.agg [.bool q206, .int .i64 i208, .int .i64 i210, .int .i64 i212, .str y214, .bool q216, .int .i64 i218, .int .i64 i220, .int .i64 i222, .str y224], .agg [.bool q228, .int .i64 i230, .int .i64 i232, .int .i64 i234, .str y236, .bool q238, .int .i64 i240, .int .i64 i242, .int .i64 i244, .str y246]] fun v247 =>
  gV1 v247 fun x248 =>
  gB x248 fun q249 =>
  hchk h h (
  vcase (bv (!q249))
  (some (.ret (bv false) h))
  (Lp.laws_eqChangeS 0 [lv s0, lv s1, iv .i64 (IntKind.i64.wrap (s5 + 1))] (tidy h [lv s0, lv s1, iv .i64 (IntKind.i64.wrap (s5 + 1))] h)))
  else none
  else none)
  (some (.done [] (tidy h [] h))) := by
  unfold Lp.laws_eqChangeS; rw [loop_eq]; kernel_rfl

theorem pu_laws_eqBufferS (a0 : List (List S)) (a1 : List (List S)) : pureV (call Ev) Fn.laws_eqBufferS [lv a0, lv a1] =
  vcase (bv ((a0.length : Int) != (a1.length : Int)))
  (some (bv false))
  ((Lp.laws_eqBufferS 0 [lv a0, lv a1, iv .i64 0] (D 0)).bind fun o102 => lcase o102 (fun l103 h104 =>
  some (bv true)) (fun v105 h106 =>
  frzV h106 v105)) := by
  rw [pure_eq]; kernel_rfl

theorem eq_laws_eqBufferS_l0 (s0 : List (List S)) (s1 : List (List S)) (s5 : Int) (h : H) : Lp.laws_eqBufferS 0 [lv s0, lv s1, iv .i64 s5] h =
  vcase (bv (decide (s5 < (s0.length : Int))))
  (idxF 2 s0 s5 fun r203 =>
  (rowN 2 r203 0).bind fun c204 =>
  (c204[0]?).bind fun x205 =>
  gI .i64 x205 fun i206 =>
  (c204[1]?).bind fun x207 =>
  gF x207 fun z208 =>
  if c204.length = 2 then
  idxF 2 s1 s5 fun r209 =>
  (rowN 2 r209 0).bind fun c210 =>
  (c210[0]?).bind fun x211 =>
  gI .i64 x211 fun i212 =>
  (c210[1]?).bind fun x213 =>
  gF x213 fun z214 =>
  if c210.length = 2 then
  pcallS (call Ev) Fn.laws_eqBuffer [.agg [.int .i64 i206, .fs z208], .agg [.int .i64 i212, .fs z214]] fun v215 =>
  gV1 v215 fun x216 =>
  gB x216 fun q217 =>
  hchk h h (
  vcase (bv (!q217))
  (some (.ret (bv false) h))
  (Lp.laws_eqBufferS 0 [lv s0, lv s1, iv .i64 (IntKind.i64.wrap (s5 + 1))] (tidy h [lv s0, lv s1, iv .i64 (IntKind.i64.wrap (s5 + 1))] h)))
  else none
  else none)
  (some (.done [] (tidy h [] h))) := by
  unfold Lp.laws_eqBufferS; rw [loop_eq]; kernel_rfl

theorem pu_laws_eqMiner (a0_0 : List (List S)) (a0_1 : List (List S)) (a1_0 : List (List S)) (a1_1 : List (List S)) : pureV (call Ev) Fn.laws_eqMiner [.agg [.fs a0_0, .fs a0_1], .agg [.fs a1_0, .fs a1_1]] =
  pcallS (call Ev) Fn.laws_eqByteSS [lv a0_0, lv a1_0] fun v101 =>
  gV1 v101 fun x102 =>
  gB x102 fun q103 =>
  vcase (bv (!q103))
  (some (bv false))
  (pcallS (call Ev) Fn.laws_eqBufferS [lv a0_1, lv a1_1] fun v105 =>
  gV1 v105 fun x106 =>
  gB x106 fun q107 =>
  vcase (bv (!q107))
  (some (bv false))
  (some (bv true))) := by
  rw [pure_eq]; kernel_rfl

theorem pu_laws_eqMinerResult (a0_0 : Int) (a0_1 : Bool) (a0_2 : Bool) (a0_3 : Int) (a0_4 : List (List S)) (a0_5 : List (List S)) (a0_6 : List (List S)) (a1_0 : Int) (a1_1 : Bool) (a1_2 : Bool) (a1_3 : Int) (a1_4 : List (List S)) (a1_5 : List (List S)) (a1_6 : List (List S)) : pureV (call Ev) Fn.laws_eqMinerResult [.agg [.int .i64 a0_0, .bool a0_1, .bool a0_2, .int .i64 a0_3, .fs a0_4, .fs a0_5, .fs a0_6], .agg [.int .i64 a1_0, .bool a1_1, .bool a1_2, .int .i64 a1_3, .fs a1_4, .fs a1_5, .fs a1_6]] =
  vcase (bv (a0_0 != a1_0))
  (some (bv false))
  (vcase (bv (!(a0_1 == a1_1)))
  (some (bv false))
  (vcase (bv (!(a0_2 == a1_2)))
  (some (bv false))
  (vcase (bv (a0_3 != a1_3))
  (some (bv false))
  (pcallS (call Ev) Fn.laws_eqChangeS [lv a0_4, lv a1_4] fun v105 =>
  gV1 v105 fun x106 =>
  gB x106 fun q107 =>
  vcase (bv (!q107))
  (some (bv false))
  (pcallS (call Ev) Fn.laws_eqMiner [.agg [.fs a0_5, .fs a0_6], .agg [.fs a1_5, .fs a1_6]] fun v109 =>
  gV1 v109 fun x110 =>
  gB x110 fun q111 =>
  vcase (bv (!q111))
  (some (bv false))
  (some (bv true))))))) := by
  rw [pure_eq]; kernel_rfl

theorem eq_laws_markChangeS (a0 : V) (a1 : Int) (h : H) : call Ev Fn.laws_markChangeS [a0, iv .i64 a1] h =
  (Lp.laws_markChangeS 0 [a0, iv .i64 a1, iv .i64 0] h).bind fun o101 => lcase o101 (fun l102 h103 =>
  (l102[0]?).bind fun w106 =>
  gV1 w106 fun x107 =>
  gI .i64 x107 fun i108 =>
  some (iv .i64 i108, h103)) (fun v104 h105 =>
  some (v104, h105)) := by
  rw [call_eq]; kernel_rfl

theorem eq_laws_markChangeS_l0 (s0 : V) (s1 : Int) (s5 : Int) (h : H) : Lp.laws_markChangeS 0 [s0, iv .i64 s1, iv .i64 s5] h =
  (lenV (.sl 137) s0).bind fun v201 =>
  gV1 v201 fun x202 =>
  gI .i64 x202 fun i203 =>
  vcase (bv (decide (s5 < i203)))
  ((bin Ev .rem 3 (iv .i64 s1) (iv .i64 3)).bind fun b206 =>
  gV1 b206 fun x207 =>
  gI .i64 x207 fun i208 =>
  idxK 10 s0 (iv .i64 s5) fun v209 =>
  (padd 0 v209).bind fun v210 =>
  stK 1 h v210 (bv (i208 == 0)) fun h211 =>
  idxK 10 s0 (iv .i64 s5) fun v212 =>
  (padd 1 v212).bind fun v213 =>
  (padd 0 v213).bind fun v214 =>
  stK 1 h211 v214 (iv .i64 (IntKind.i64.wrap (s1 + 1))) fun h215 =>
  idxK 10 s0 (iv .i64 s5) fun v216 =>
  (padd 1 v216).bind fun v217 =>
  (padd 1 v217).bind fun v218 =>
  stK 1 h215 v218 (iv .i64 (IntKind.i64.wrap ((IntKind.i64.wrap (s1 + 1)) + 1))) fun h219 =>
  idxK 10 s0 (iv .i64 s5) fun v220 =>
  (padd 1 v220).bind fun v221 =>
  (padd 2 v221).bind fun v222 =>
  stK 1 h219 v222 (iv .i64 (IntKind.i64.wrap ((IntKind.i64.wrap ((IntKind.i64.wrap (s1 + 1)) + 1)) + 1))) fun h223 =>
  pcallS (call Ev) Fn.laws_markText [iv .i64 (IntKind.i64.wrap ((IntKind.i64.wrap ((IntKind.i64.wrap ((IntKind.i64.wrap (s1 + 1)) + 1)) + 1)) + 1))] fun v224 =>
  gV1 v224 fun x225 =>
  gS x225 fun y226 =>
  idxK 10 s0 (iv .i64 s5) fun v227 =>
  (padd 1 v227).bind fun v228 =>
  (padd 3 v228).bind fun v229 =>
  stK 1 h223 v229 (.s (.str y226)) fun h230 =>
  (bin Ev .rem 3 (iv .i64 (IntKind.i64.wrap ((IntKind.i64.wrap ((IntKind.i64.wrap ((IntKind.i64.wrap ((IntKind.i64.wrap (s1 + 1)) + 1)) + 1)) + 1)) + 1))) (iv .i64 3)).bind fun b231 =>
  gV1 b231 fun x232 =>
  gI .i64 x232 fun i233 =>
  idxK 10 s0 (iv .i64 s5) fun v234 =>
  (padd 5 v234).bind fun v235 =>
  stK 1 h230 v235 (bv (i233 == 0)) fun h236 =>
  idxK 10 s0 (iv .i64 s5) fun v237 =>
  (padd 6 v237).bind fun v238 =>
  (padd 0 v238).bind fun v239 =>
  stK 1 h236 v239 (iv .i64 (IntKind.i64.wrap ((IntKind.i64.wrap ((IntKind.i64.wrap ((IntKind.i64.wrap ((IntKind.i64.wrap ((IntKind.i64.wrap (s1 + 1)) + 1)) + 1)) + 1)) + 1)) + 1))) fun h240 =>
  idxK 10 s0 (iv .i64 s5) fun v241 =>
  (padd 6 v241).bind fun v242 =>
  (padd 1 v242).bind fun v243 =>
  stK 1 h240 v243 (iv .i64 (IntKind.i64.wrap ((IntKind.i64.wrap ((IntKind.i64.wrap ((IntKind.i64.wrap ((IntKind.i64.wrap ((IntKind.i64.wrap ((IntKind.i64.wrap (s1 + 1)) + 1)) + 1)) + 1)) + 1)) + 1)) + 1))) fun h244 =>
  idxK 10 s0 (iv .i64 s5) fun v245 =>
  (padd 6 v245).bind fun v246 =>
  (padd 2 v246).bind fun v247 =>
  stK 1 h244 v247 (iv .i64 (IntKind.i64.wrap ((IntKind.i64.wrap ((IntKind.i64.wrap ((IntKind.i64.wrap ((IntKind.i64.wrap ((IntKind.i64.wrap ((IntKind.i64.wrap ((IntKind.i64.wrap (s1 + 1)) + 1)) + 1)) + 1)) + 1)) + 1)) + 1)) + 1))) fun h248 =>
  pcallS (call Ev) Fn.laws_markText [iv .i64 (IntKind.i64.wrap ((IntKind.i64.wrap ((IntKind.i64.wrap ((IntKind.i64.wrap ((IntKind.i64.wrap ((IntKind.i64.wrap ((IntKind.i64.wrap ((IntKind.i64.wrap ((IntKind.i64.wrap (s1 + 1)) + 1)) + 1)) + 1)) + 1)) + 1)) + 1)) + 1)) + 1))] fun v249 =>
  gV1 v249 fun x250 =>
  gS x250 fun y251 =>
  idxK 10 s0 (iv .i64 s5) fun v252 =>
  (padd 6 v252).bind fun v253 =>
  (padd 3 v253).bind fun v254 =>
  stK 1 h248 v254 (.s (.str y251)) fun h255 =>
  Lp.laws_markChangeS 0 [s0, iv .i64 (IntKind.i64.wrap ((IntKind.i64.wrap ((IntKind.i64.wrap ((IntKind.i64.wrap ((IntKind.i64.wrap ((IntKind.i64.wrap ((IntKind.i64.wrap ((IntKind.i64.wrap ((IntKind.i64.wrap ((IntKind.i64.wrap (s1 + 1)) + 1)) + 1)) + 1)) + 1)) + 1)) + 1)) + 1)) + 1)) + 1)), iv .i64 (IntKind.i64.wrap (s5 + 1))] (tidy h [s0, iv .i64 (IntKind.i64.wrap ((IntKind.i64.wrap ((IntKind.i64.wrap ((IntKind.i64.wrap ((IntKind.i64.wrap ((IntKind.i64.wrap ((IntKind.i64.wrap ((IntKind.i64.wrap ((IntKind.i64.wrap ((IntKind.i64.wrap (s1 + 1)) + 1)) + 1)) + 1)) + 1)) + 1)) + 1)) + 1)) + 1)) + 1)), iv .i64 (IntKind.i64.wrap (s5 + 1))] h255))
  (some (.done [iv .i64 s1] (tidy h [iv .i64 s1] h))) := by
  unfold Lp.laws_markChangeS; rw [loop_eq]; kernel_rfl

theorem eq_laws_markBufferS (a0 : V) (a1 : Int) (h : H) : call Ev Fn.laws_markBufferS [a0, iv .i64 a1] h =
  (Lp.laws_markBufferS 0 [a0, iv .i64 a1, iv .i64 0] h).bind fun o101 => lcase o101 (fun l102 h103 =>
  (l102[0]?).bind fun w106 =>
  gV1 w106 fun x107 =>
  gI .i64 x107 fun i108 =>
  some (iv .i64 i108, h103)) (fun v104 h105 =>
  some (v104, h105)) := by
  rw [call_eq]; kernel_rfl

theorem eq_laws_markBufferS_l0 (s0 : V) (s1 : Int) (s5 : Int) (h : H) : Lp.laws_markBufferS 0 [s0, iv .i64 s1, iv .i64 s5] h =
  (lenV (.sl 105) s0).bind fun v201 =>
  gV1 v201 fun x202 =>
  gI .i64 x202 fun i203 =>
  vcase (bv (decide (s5 < i203)))
  (idxK 2 s0 (iv .i64 s5) fun v206 =>
  (padd 0 v206).bind fun v207 =>
  stK 1 h v207 (iv .i64 s1) fun h208 =>
  idxK 2 s0 (iv .i64 s5) fun v209 =>
  (padd 1 v209).bind fun v210 =>
  ldK (.one (.f)) ⟨1, 24, [.sl none 0], false, .sl 137, false⟩ h208 v210 fun v211 =>
  (call Ev Fn.laws_markChangeS [v211, iv .i64 (IntKind.i64.wrap (s1 + 1))] h208).bind fun p212 =>
  gV1 p212.1 fun x213 =>
  gI .i64 x213 fun i214 =>
  Lp.laws_markBufferS 0 [s0, iv .i64 i214, iv .i64 (IntKind.i64.wrap (s5 + 1))] (tidy h [s0, iv .i64 i214, iv .i64 (IntKind.i64.wrap (s5 + 1))] (tidy h208 [p212.1] p212.2)))
  (some (.done [iv .i64 s1] (tidy h [iv .i64 s1] h))) := by
  unfold Lp.laws_markBufferS; rw [loop_eq]; kernel_rfl

theorem eq_laws_markMiner (a0_0 : S) (a0_1 : S) (a1 : Int) (h : H) : call Ev Fn.laws_markMiner [.agg [a0_0, a0_1], iv .i64 a1] h =
  (load1 (h.new 0 [a0_0, a0_1]) (pv h.n 0)).bind fun x101 =>
  (call Ev Fn.laws_markByteSS [.s x101, iv .i64 a1] (h.new 0 [a0_0, a0_1])).bind fun p102 =>
  gV1 p102.1 fun x103 =>
  gI .i64 x103 fun i104 =>
  (load1 (tidy (h.new 0 [a0_0, a0_1]) [p102.1] p102.2) (pv h.n 1)).bind fun x105 =>
  (call Ev Fn.laws_markBufferS [.s x105, iv .i64 i104] (tidy (h.new 0 [a0_0, a0_1]) [p102.1] p102.2)).bind fun p106 =>
  gV1 p106.1 fun x107 =>
  gI .i64 x107 fun i108 =>
  some (iv .i64 i108, tidy (tidy (h.new 0 [a0_0, a0_1]) [p102.1] p102.2) [p106.1] p106.2) := by
  rw [call_eq]; kernel_rfl

theorem eq_laws_markMinerResult (a0_0 : Int) (a0_1 : Bool) (a0_2 : Bool) (a0_3 : Int) (a0_4 : S) (a0_5 : S) (a0_6 : S) (a1 : Int) (h : H) : call Ev Fn.laws_markMinerResult [.agg [.int .i64 a0_0, .bool a0_1, .bool a0_2, .int .i64 a0_3, a0_4, a0_5, a0_6], iv .i64 a1] h =
  (load1 (h.new 0 [.int .i64 a0_0, .bool a0_1, .bool a0_2, .int .i64 a0_3, a0_4, a0_5, a0_6]) (pv h.n 4)).bind fun x101 =>
  (call Ev Fn.laws_markChangeS [.s x101, iv .i64 a1] (h.new 0 [.int .i64 a0_0, .bool a0_1, .bool a0_2, .int .i64 a0_3, a0_4, a0_5, a0_6])).bind fun p102 =>
  gV1 p102.1 fun x103 =>
  gI .i64 x103 fun i104 =>
  (loadN 2 (tidy (h.new 0 [.int .i64 a0_0, .bool a0_1, .bool a0_2, .int .i64 a0_3, a0_4, a0_5, a0_6]) [p102.1] p102.2) (pv h.n 5)).bind fun c105 =>
  (c105[0]?).bind fun x106 =>
  (c105[1]?).bind fun x107 =>
  if c105.length = 2 then
  (call Ev Fn.laws_markMiner [.agg [x106, x107], iv .i64 i104] (tidy (h.new 0 [.int .i64 a0_0, .bool a0_1, .bool a0_2, .int .i64 a0_3, a0_4, a0_5, a0_6]) [p102.1] p102.2)).bind fun p108 =>
  gV1 p108.1 fun x109 =>
  gI .i64 x109 fun i110 =>
  some (iv .i64 i110, tidy (tidy (h.new 0 [.int .i64 a0_0, .bool a0_1, .bool a0_2, .int .i64 a0_3, a0_4, a0_5, a0_6]) [p102.1] p102.2) [p108.1] p108.2)
  else none := by
  rw [call_eq]; kernel_rfl

theorem pu_laws_heldChangeS (a0 : List (List S)) (a1 : Int) : pureV (call Ev) Fn.laws_heldChangeS [lv a0, iv .i64 a1] =
  (Lp.laws_heldChangeS 0 [lv a0, iv .i64 a1, iv .i64 0] (D 0)).bind fun o101 => lcase o101 (fun l102 h103 =>
  (l102[0]?).bind fun w106 =>
  gV1 w106 fun x107 =>
  gI .i64 x107 fun i108 =>
  some (iv .i64 i108)) (fun v104 h105 =>
  frzV h105 v104) := by
  rw [pure_eq]; kernel_rfl

theorem eq_laws_heldChangeS_l0 (s0 : List (List S)) (s1 : Int) (s5 : Int) (h : H) : Lp.laws_heldChangeS 0 [lv s0, iv .i64 s1, iv .i64 s5] h =
  vcase (bv (decide (s5 < (s0.length : Int))))
  (idxF 10 s0 s5 fun r203 =>
  (r203[0]?).bind fun x204 =>
  gB x204 fun q205 =>
  (bin Ev .rem 3 (iv .i64 s1) (iv .i64 3)).bind fun b206 =>
  gV1 b206 fun x207 =>
  gI .i64 x207 fun i208 =>
  vcase (bv (!(q205 == (i208 == 0))))
  (some (.ret (iv .i64 (-1)) h))
  (idxF 10 s0 s5 fun r210 =>
  (r210[1]?).bind fun x211 =>
  gI .i64 x211 fun i212 =>
  vcase (bv (i212 != (IntKind.i64.wrap (s1 + 1))))
  (some (.ret (iv .i64 (-1)) h))
  (idxF 10 s0 s5 fun r214 =>
  (r214[2]?).bind fun x215 =>
  gI .i64 x215 fun i216 =>
  vcase (bv (i216 != (IntKind.i64.wrap ((IntKind.i64.wrap (s1 + 1)) + 1))))
  (some (.ret (iv .i64 (-1)) h))
  (idxF 10 s0 s5 fun r218 =>
  (r218[3]?).bind fun x219 =>
  gI .i64 x219 fun i220 =>
  vcase (bv (i220 != (IntKind.i64.wrap ((IntKind.i64.wrap ((IntKind.i64.wrap (s1 + 1)) + 1)) + 1))))
  (some (.ret (iv .i64 (-1)) h))
  (idxF 10 s0 s5 fun r222 =>
  (r222[4]?).bind fun x223 =>
  gS x223 fun y224 =>
  pcallS (call Ev) Fn.laws_markText [iv .i64 (IntKind.i64.wrap ((IntKind.i64.wrap ((IntKind.i64.wrap ((IntKind.i64.wrap (s1 + 1)) + 1)) + 1)) + 1))] fun v225 =>
  gV1 v225 fun x226 =>
  gS x226 fun y227 =>
  hchk h h (
  vcase (bv (!((y224 : ByteArray).toList == (y227 : ByteArray).toList)))
  (some (.ret (iv .i64 (-1)) h))
  (idxF 10 s0 s5 fun r229 =>
  (r229[5]?).bind fun x230 =>
  gB x230 fun q231 =>
  (bin Ev .rem 3 (iv .i64 (IntKind.i64.wrap ((IntKind.i64.wrap ((IntKind.i64.wrap ((IntKind.i64.wrap ((IntKind.i64.wrap (s1 + 1)) + 1)) + 1)) + 1)) + 1))) (iv .i64 3)).bind fun b232 =>
  gV1 b232 fun x233 =>
  gI .i64 x233 fun i234 =>
  vcase (bv (!(q231 == (i234 == 0))))
  (some (.ret (iv .i64 (-1)) h))
  (idxF 10 s0 s5 fun r236 =>
  (r236[6]?).bind fun x237 =>
  gI .i64 x237 fun i238 =>
  vcase (bv (i238 != (IntKind.i64.wrap ((IntKind.i64.wrap ((IntKind.i64.wrap ((IntKind.i64.wrap ((IntKind.i64.wrap ((IntKind.i64.wrap (s1 + 1)) + 1)) + 1)) + 1)) + 1)) + 1))))
  (some (.ret (iv .i64 (-1)) h))
  (idxF 10 s0 s5 fun r240 =>
  (r240[7]?).bind fun x241 =>
  gI .i64 x241 fun i242 =>
  vcase (bv (i242 != (IntKind.i64.wrap ((IntKind.i64.wrap ((IntKind.i64.wrap ((IntKind.i64.wrap ((IntKind.i64.wrap ((IntKind.i64.wrap ((IntKind.i64.wrap (s1 + 1)) + 1)) + 1)) + 1)) + 1)) + 1)) + 1))))
  (some (.ret (iv .i64 (-1)) h))
  (idxF 10 s0 s5 fun r244 =>
  (r244[8]?).bind fun x245 =>
  gI .i64 x245 fun i246 =>
  vcase (bv (i246 != (IntKind.i64.wrap ((IntKind.i64.wrap ((IntKind.i64.wrap ((IntKind.i64.wrap ((IntKind.i64.wrap ((IntKind.i64.wrap ((IntKind.i64.wrap ((IntKind.i64.wrap (s1 + 1)) + 1)) + 1)) + 1)) + 1)) + 1)) + 1)) + 1))))
  (some (.ret (iv .i64 (-1)) h))
  (idxF 10 s0 s5 fun r248 =>
  (r248[9]?).bind fun x249 =>
  gS x249 fun y250 =>
  pcallS (call Ev) Fn.laws_markText [iv .i64 (IntKind.i64.wrap ((IntKind.i64.wrap ((IntKind.i64.wrap ((IntKind.i64.wrap ((IntKind.i64.wrap ((IntKind.i64.wrap ((IntKind.i64.wrap ((IntKind.i64.wrap ((IntKind.i64.wrap (s1 + 1)) + 1)) + 1)) + 1)) + 1)) + 1)) + 1)) + 1)) + 1))] fun v251 =>
  gV1 v251 fun x252 =>
  gS x252 fun y253 =>
  hchk h h (
  vcase (bv (!((y250 : ByteArray).toList == (y253 : ByteArray).toList)))
  (some (.ret (iv .i64 (-1)) h))
  (Lp.laws_heldChangeS 0 [lv s0, iv .i64 (IntKind.i64.wrap ((IntKind.i64.wrap ((IntKind.i64.wrap ((IntKind.i64.wrap ((IntKind.i64.wrap ((IntKind.i64.wrap ((IntKind.i64.wrap ((IntKind.i64.wrap ((IntKind.i64.wrap ((IntKind.i64.wrap (s1 + 1)) + 1)) + 1)) + 1)) + 1)) + 1)) + 1)) + 1)) + 1)) + 1)), iv .i64 (IntKind.i64.wrap (s5 + 1))] (tidy h [lv s0, iv .i64 (IntKind.i64.wrap ((IntKind.i64.wrap ((IntKind.i64.wrap ((IntKind.i64.wrap ((IntKind.i64.wrap ((IntKind.i64.wrap ((IntKind.i64.wrap ((IntKind.i64.wrap ((IntKind.i64.wrap ((IntKind.i64.wrap (s1 + 1)) + 1)) + 1)) + 1)) + 1)) + 1)) + 1)) + 1)) + 1)) + 1)), iv .i64 (IntKind.i64.wrap (s5 + 1))] h))))))))))))))
  (some (.done [iv .i64 s1] (tidy h [iv .i64 s1] h))) := by
  unfold Lp.laws_heldChangeS; rw [loop_eq]; kernel_rfl

theorem pu_laws_heldByteS (a0 : List (List S)) (a1 : Int) : pureV (call Ev) Fn.laws_heldByteS [lv a0, iv .i64 a1] =
  (Lp.laws_heldByteS 0 [lv a0, iv .i64 a1, iv .i64 0] (D 0)).bind fun o101 => lcase o101 (fun l102 h103 =>
  (l102[0]?).bind fun w106 =>
  gV1 w106 fun x107 =>
  gI .i64 x107 fun i108 =>
  some (iv .i64 i108)) (fun v104 h105 =>
  frzV h105 v104) := by
  rw [pure_eq]; kernel_rfl

theorem eq_laws_heldByteS_l0 (s0 : List (List S)) (s1 : Int) (s5 : Int) (h : H) : Lp.laws_heldByteS 0 [lv s0, iv .i64 s1, iv .i64 s5] h =
  vcase (bv (decide (s5 < (s0.length : Int))))
  (idxF 1 s0 s5 fun r203 =>
  (r203[0]?).bind fun x204 =>
  gI .u8 x204 fun i205 =>
  vcase (bv (i205 != (IntKind.u8.wrap s1)))
  (some (.ret (iv .i64 (-1)) h))
  (Lp.laws_heldByteS 0 [lv s0, iv .i64 (IntKind.i64.wrap (s1 + 1)), iv .i64 (IntKind.i64.wrap (s5 + 1))] (tidy h [lv s0, iv .i64 (IntKind.i64.wrap (s1 + 1)), iv .i64 (IntKind.i64.wrap (s5 + 1))] h)))
  (some (.done [iv .i64 s1] (tidy h [iv .i64 s1] h))) := by
  unfold Lp.laws_heldByteS; rw [loop_eq]; kernel_rfl

theorem pu_laws_heldByteSS (a0 : List (List S)) (a1 : Int) : pureV (call Ev) Fn.laws_heldByteSS [lv a0, iv .i64 a1] =
  (Lp.laws_heldByteSS 0 [lv a0, iv .i64 a1, iv .i64 0] (D 0)).bind fun o101 => lcase o101 (fun l102 h103 =>
  (l102[0]?).bind fun w106 =>
  gV1 w106 fun x107 =>
  gI .i64 x107 fun i108 =>
  some (iv .i64 i108)) (fun v104 h105 =>
  frzV h105 v104) := by
  rw [pure_eq]; kernel_rfl

theorem eq_laws_heldByteSS_l0 (s0 : List (List S)) (s1 : Int) (s5 : Int) (h : H) : Lp.laws_heldByteSS 0 [lv s0, iv .i64 s1, iv .i64 s5] h =
  vcase (bv (decide (s5 < (s0.length : Int))))
  (idxF 1 s0 s5 fun r203 =>
  (r203[0]?).bind fun x204 =>
  gF x204 fun z205 =>
  pcallS (call Ev) Fn.laws_heldByteS [lv z205, iv .i64 s1] fun v206 =>
  gV1 v206 fun x207 =>
  gI .i64 x207 fun i208 =>
  vcase (bv (decide (i208 < 0)))
  (some (.ret (iv .i64 (-1)) h))
  (Lp.laws_heldByteSS 0 [lv s0, iv .i64 i208, iv .i64 (IntKind.i64.wrap (s5 + 1))] (tidy h [lv s0, iv .i64 i208, iv .i64 (IntKind.i64.wrap (s5 + 1))] h)))
  (some (.done [iv .i64 s1] (tidy h [iv .i64 s1] h))) := by
  unfold Lp.laws_heldByteSS; rw [loop_eq]; kernel_rfl

theorem pu_laws_heldBufferS (a0 : List (List S)) (a1 : Int) : pureV (call Ev) Fn.laws_heldBufferS [lv a0, iv .i64 a1] =
  (Lp.laws_heldBufferS 0 [lv a0, iv .i64 a1, iv .i64 0] (D 0)).bind fun o101 => lcase o101 (fun l102 h103 =>
  (l102[0]?).bind fun w106 =>
  gV1 w106 fun x107 =>
  gI .i64 x107 fun i108 =>
  some (iv .i64 i108)) (fun v104 h105 =>
  frzV h105 v104) := by
  rw [pure_eq]; kernel_rfl

theorem eq_laws_heldBufferS_l0 (s0 : List (List S)) (s1 : Int) (s5 : Int) (h : H) : Lp.laws_heldBufferS 0 [lv s0, iv .i64 s1, iv .i64 s5] h =
  vcase (bv (decide (s5 < (s0.length : Int))))
  (idxF 2 s0 s5 fun r203 =>
  (r203[0]?).bind fun x204 =>
  gI .i64 x204 fun i205 =>
  vcase (bv (i205 != s1))
  (some (.ret (iv .i64 (-1)) h))
  (idxF 2 s0 s5 fun r207 =>
  (r207[1]?).bind fun x208 =>
  gF x208 fun z209 =>
  pcallS (call Ev) Fn.laws_heldChangeS [lv z209, iv .i64 (IntKind.i64.wrap (s1 + 1))] fun v210 =>
  gV1 v210 fun x211 =>
  gI .i64 x211 fun i212 =>
  vcase (bv (decide (i212 < 0)))
  (some (.ret (iv .i64 (-1)) h))
  (Lp.laws_heldBufferS 0 [lv s0, iv .i64 i212, iv .i64 (IntKind.i64.wrap (s5 + 1))] (tidy h [lv s0, iv .i64 i212, iv .i64 (IntKind.i64.wrap (s5 + 1))] h))))
  (some (.done [iv .i64 s1] (tidy h [iv .i64 s1] h))) := by
  unfold Lp.laws_heldBufferS; rw [loop_eq]; kernel_rfl

theorem pu_laws_heldMiner (a0_0 : List (List S)) (a0_1 : List (List S)) (a1 : Int) : pureV (call Ev) Fn.laws_heldMiner [.agg [.fs a0_0, .fs a0_1], iv .i64 a1] =
  pcallS (call Ev) Fn.laws_heldByteSS [lv a0_0, iv .i64 a1] fun v101 =>
  gV1 v101 fun x102 =>
  gI .i64 x102 fun i103 =>
  vcase (bv (decide (i103 < 0)))
  (some (iv .i64 (-1)))
  (pcallS (call Ev) Fn.laws_heldBufferS [lv a0_1, iv .i64 i103] fun v105 =>
  gV1 v105 fun x106 =>
  gI .i64 x106 fun i107 =>
  vcase (bv (decide (i107 < 0)))
  (some (iv .i64 (-1)))
  (some (iv .i64 i107))) := by
  rw [pure_eq]; kernel_rfl

theorem pu_laws_heldMinerResult (a0_0 : Int) (a0_1 : Bool) (a0_2 : Bool) (a0_3 : Int) (a0_4 : List (List S)) (a0_5 : List (List S)) (a0_6 : List (List S)) (a1 : Int) : pureV (call Ev) Fn.laws_heldMinerResult [.agg [.int .i64 a0_0, .bool a0_1, .bool a0_2, .int .i64 a0_3, .fs a0_4, .fs a0_5, .fs a0_6], iv .i64 a1] =
  pcallS (call Ev) Fn.laws_heldChangeS [lv a0_4, iv .i64 a1] fun v101 =>
  gV1 v101 fun x102 =>
  gI .i64 x102 fun i103 =>
  vcase (bv (decide (i103 < 0)))
  (some (iv .i64 (-1)))
  (pcallS (call Ev) Fn.laws_heldMiner [.agg [.fs a0_5, .fs a0_6], iv .i64 i103] fun v105 =>
  gV1 v105 fun x106 =>
  gI .i64 x106 fun i107 =>
  vcase (bv (decide (i107 < 0)))
  (some (iv .i64 (-1)))
  (some (iv .i64 i107))) := by
  rw [pure_eq]; kernel_rfl

noncomputable def Jn.laws_FnExactNewMiner_0 (q315 : Bool) (h141 : H) (p179 : V × H) (h128 : H) (a0 : List (List S)) : Option (V) :=
  vcase (bv q315)
  (some (bv false))
  ((loadN 7 (tidy h141 [p179.1] p179.2) (pv h128.n 0)).bind fun c317 =>
  (c317[0]?).bind fun x318 =>
  gI .i64 x318 fun i319 =>
  (c317[1]?).bind fun x320 =>
  gB x320 fun q321 =>
  (c317[2]?).bind fun x322 =>
  gB x322 fun q323 =>
  (c317[3]?).bind fun x324 =>
  gI .i64 x324 fun i325 =>
  (c317[4]?).bind fun x326 =>
  (c317[5]?).bind fun x327 =>
  (c317[6]?).bind fun x328 =>
  if c317.length = 7 then
  (call Ev Fn.laws_markMinerResult [.agg [.int .i64 i319, .bool q321, .bool q323, .int .i64 i325, x326, x327, x328], iv .i64 1] (tidy h141 [p179.1] p179.2)).bind fun p329 =>
  gV1 p329.1 fun x330 =>
  gI .i64 x330 fun i331 =>
  (loadN 7 (tidy (tidy h141 [p179.1] p179.2) [p329.1] p329.2) (pv h128.n 0)).bind fun c332 =>
  (c332[0]?).bind fun x333 =>
  gI .i64 x333 fun i334 =>
  (c332[1]?).bind fun x335 =>
  gB x335 fun q336 =>
  (c332[2]?).bind fun x337 =>
  gB x337 fun q338 =>
  (c332[3]?).bind fun x339 =>
  gI .i64 x339 fun i340 =>
  (c332[4]?).bind fun x341 =>
  (c332[5]?).bind fun x342 =>
  (c332[6]?).bind fun x343 =>
  if c332.length = 7 then
  (frzVs (tidy (tidy h141 [p179.1] p179.2) [p329.1] p329.2) [.agg [.int .i64 i334, .bool q336, .bool q338, .int .i64 i340, x341, x342, x343], iv .i64 1]).bind fun l344 =>
  pcallS (call Ev) Fn.laws_heldMinerResult (normVs [] l344) fun v345 =>
  gV1 v345 fun x346 =>
  gI .i64 x346 fun i347 =>
  vcase (bv (decide (i347 < 0)))
  (some (bv false))
  (vcase (bv (i347 != i331))
  (some (bv false))
  ((pureV (call Ev) Fn.laws_toByteSS [lv a0]).bind fun v350 =>
  gV1 v350 fun x351 =>
  gF x351 fun z352 =>
  (pureV (call Ev) Fn.impl_NewMiner [lv z352]).bind fun v353 =>
  gVA v353 fun c354 =>
  (c354[0]?).bind fun x355 =>
  gI .i64 x355 fun i356 =>
  (c354[1]?).bind fun x357 =>
  gB x357 fun q358 =>
  (c354[2]?).bind fun x359 =>
  gB x359 fun q360 =>
  (c354[3]?).bind fun x361 =>
  gI .i64 x361 fun i362 =>
  (c354[4]?).bind fun x363 =>
  gF x363 fun z364 =>
  (c354[5]?).bind fun x365 =>
  gF x365 fun z366 =>
  (c354[6]?).bind fun x367 =>
  gF x367 fun z368 =>
  if c354.length = 7 then
  stK 7 ((tidy (tidy h141 [p179.1] p179.2) [p329.1] p329.2).new 0 [.int .i64 0, .bool false, .bool false, .int .i64 0, .sl none 0, .sl none 0, .sl none 0]) (pv ((tidy (tidy h141 [p179.1] p179.2) [p329.1] p329.2).n) 0) (.agg [.int .i64 i356, .bool q358, .bool q360, .int .i64 i362, .fs z364, .fs z366, .fs z368]) fun h369 =>
  (loadN 7 h369 (pv ((tidy (tidy h141 [p179.1] p179.2) [p329.1] p329.2).n) 0)).bind fun c370 =>
  (c370[0]?).bind fun x371 =>
  gI .i64 x371 fun i372 =>
  (c370[1]?).bind fun x373 =>
  gB x373 fun q374 =>
  (c370[2]?).bind fun x375 =>
  gB x375 fun q376 =>
  (c370[3]?).bind fun x377 =>
  gI .i64 x377 fun i378 =>
  (c370[4]?).bind fun x379 =>
  (c370[5]?).bind fun x380 =>
  (c370[6]?).bind fun x381 =>
  if c370.length = 7 then
  (loadN 7 h369 (pv 0 0)).bind fun c382 =>
  (c382[0]?).bind fun x383 =>
  gI .i64 x383 fun i384 =>
  (c382[1]?).bind fun x385 =>
  gB x385 fun q386 =>
  (c382[2]?).bind fun x387 =>
  gB x387 fun q388 =>
  (c382[3]?).bind fun x389 =>
  gI .i64 x389 fun i390 =>
  (c382[4]?).bind fun x391 =>
  (c382[5]?).bind fun x392 =>
  (c382[6]?).bind fun x393 =>
  if c382.length = 7 then
  (frzVs h369 [.agg [.int .i64 i372, .bool q374, .bool q376, .int .i64 i378, x379, x380, x381], .agg [.int .i64 i384, .bool q386, .bool q388, .int .i64 i390, x391, x392, x393]]).bind fun l394 =>
  pcallS (call Ev) Fn.laws_eqMinerResult (normVs [] l394) fun v395 =>
  gV1 v395 fun x396 =>
  gB x396 fun q397 =>
  vcase (bv (!q397))
  (some (bv false))
  ((loadN 7 h369 (pv h128.n 0)).bind fun c399 =>
  (c399[0]?).bind fun x400 =>
  gI .i64 x400 fun i401 =>
  (c399[1]?).bind fun x402 =>
  gB x402 fun q403 =>
  (c399[2]?).bind fun x404 =>
  gB x404 fun q405 =>
  (c399[3]?).bind fun x406 =>
  gI .i64 x406 fun i407 =>
  (c399[4]?).bind fun x408 =>
  (c399[5]?).bind fun x409 =>
  (c399[6]?).bind fun x410 =>
  if c399.length = 7 then
  (frzVs h369 [.agg [.int .i64 i401, .bool q403, .bool q405, .int .i64 i407, x408, x409, x410], iv .i64 1]).bind fun l411 =>
  pcallS (call Ev) Fn.laws_heldMinerResult (normVs [] l411) fun v412 =>
  gV1 v412 fun x413 =>
  gI .i64 x413 fun i414 =>
  vcase (bv (decide (i414 < 0)))
  (some (bv false))
  (vcase (bv (i414 != i331))
  (some (bv false))
  (some (bv true)))
  else none)
  else none
  else none
  else none))
  else none
  else none)

theorem pu_laws_FnExactNewMiner (a0 : List (List S)) : pureV (call Ev) Fn.laws_FnExactNewMiner [lv a0] =
  pcallS (call Ev) Fn.laws_szByteSS [lv a0, iv .i64 1048576] fun v101 =>
  gV1 v101 fun x102 =>
  gI .i64 x102 fun i103 =>
  vcase (bv (decide (i103 < 0)))
  (some (bv true))
  ((pureV (call Ev) Fn.laws_toByteSS [lv a0]).bind fun v105 =>
  gV1 v105 fun x106 =>
  gF x106 fun z107 =>
  (pureV (call Ev) Fn.spec_NewMiner [lv z107]).bind fun v108 =>
  gVA v108 fun c109 =>
  (c109[0]?).bind fun x110 =>
  gI .i64 x110 fun i111 =>
  (c109[1]?).bind fun x112 =>
  gB x112 fun q113 =>
  (c109[2]?).bind fun x114 =>
  gB x114 fun q115 =>
  (c109[3]?).bind fun x116 =>
  gI .i64 x116 fun i117 =>
  (c109[4]?).bind fun x118 =>
  gF x118 fun z119 =>
  (c109[5]?).bind fun x120 =>
  gF x120 fun z121 =>
  (c109[6]?).bind fun x122 =>
  gF x122 fun z123 =>
  if c109.length = 7 then
  pcallF (call Ev) Fn.laws_toByteSS true [lv a0] (((D 0).new 0 [.int .i64 0, .bool false, .bool false, .int .i64 0, .sl none 0, .sl none 0, .sl none 0]).put 0 (.rw 0 [.int .i64 i111, .bool q113, .bool q115, .int .i64 i117, .fs z119, .fs z121, .fs z123])) fun v124 h125 =>
  (frzVs h125 [v124]).bind fun l126 =>
  pcallF (call Ev) Fn.impl_NewMiner ([v124].all offV) (normVs [] l126) h125 fun v127 h128 =>
  gVA v127 fun c129 =>
  (c129[0]?).bind fun x130 =>
  gI .i64 x130 fun i131 =>
  (c129[1]?).bind fun x132 =>
  gB x132 fun q133 =>
  (c129[2]?).bind fun x134 =>
  gB x134 fun q135 =>
  (c129[3]?).bind fun x136 =>
  gI .i64 x136 fun i137 =>
  (c129[4]?).bind fun x138 =>
  (c129[5]?).bind fun x139 =>
  (c129[6]?).bind fun x140 =>
  if c129.length = 7 then
  stK 7 (h128.new 0 [.int .i64 0, .bool false, .bool false, .int .i64 0, .sl none 0, .sl none 0, .sl none 0]) (pv h128.n 0) (.agg [.int .i64 i131, .bool q133, .bool q135, .int .i64 i137, x138, x139, x140]) fun h141 =>
  (loadN 7 h141 (pv h128.n 0)).bind fun c142 =>
  (c142[0]?).bind fun x143 =>
  gI .i64 x143 fun i144 =>
  (c142[1]?).bind fun x145 =>
  gB x145 fun q146 =>
  (c142[2]?).bind fun x147 =>
  gB x147 fun q148 =>
  (c142[3]?).bind fun x149 =>
  gI .i64 x149 fun i150 =>
  (c142[4]?).bind fun x151 =>
  (c142[5]?).bind fun x152 =>
  (c142[6]?).bind fun x153 =>
  if c142.length = 7 then
  (loadN 7 h141 (pv 0 0)).bind fun c154 =>
  (c154[0]?).bind fun x155 =>
  gI .i64 x155 fun i156 =>
  (c154[1]?).bind fun x157 =>
  gB x157 fun q158 =>
  (c154[2]?).bind fun x159 =>
  gB x159 fun q160 =>
  (c154[3]?).bind fun x161 =>
  gI .i64 x161 fun i162 =>
  (c154[4]?).bind fun x163 =>
  (c154[5]?).bind fun x164 =>
  (c154[6]?).bind fun x165 =>
  if c154.length = 7 then
  (frzVs h141 [.agg [.int .i64 i144, .bool q146, .bool q148, .int .i64 i150, x151, x152, x153], .agg [.int .i64 i156, .bool q158, .bool q160, .int .i64 i162, x163, x164, x165]]).bind fun l166 =>
  pcallS (call Ev) Fn.laws_eqMinerResult (normVs [] l166) fun v167 =>
  gV1 v167 fun x168 =>
  gB x168 fun q169 =>
  vcase (bv (!q169))
  (some (bv false))
  ((pureV (call Ev) Fn.laws_toByteSS [lv a0]).bind fun v171 =>
  gV1 v171 fun x172 =>
  gF x172 fun z173 =>
  (frzVs h141 [v124, lv z173]).bind fun l174 =>
  pcallS (call Ev) Fn.laws_eqByteSS (normVs [] l174) fun v175 =>
  gV1 v175 fun x176 =>
  gB x176 fun q177 =>
  vcase (bv (!q177))
  (some (bv false))
  ((call Ev Fn.laws_markByteSS [v124, iv .i64 1] h141).bind fun p179 =>
  gV1 p179.1 fun x180 =>
  gI .i64 x180 fun i181 =>
  vcase (bv (decide (i181 < 0)))
  (Jn.laws_FnExactNewMiner_0 true h141 p179 h128 a0)
  ((loadN 7 (tidy h141 [p179.1] p179.2) (pv h128.n 0)).bind fun c184 =>
  (c184[0]?).bind fun x185 =>
  gI .i64 x185 fun i186 =>
  (c184[1]?).bind fun x187 =>
  gB x187 fun q188 =>
  (c184[2]?).bind fun x189 =>
  gB x189 fun q190 =>
  (c184[3]?).bind fun x191 =>
  gI .i64 x191 fun i192 =>
  (c184[4]?).bind fun x193 =>
  (c184[5]?).bind fun x194 =>
  (c184[6]?).bind fun x195 =>
  if c184.length = 7 then
  (loadN 7 (tidy h141 [p179.1] p179.2) (pv 0 0)).bind fun c196 =>
  (c196[0]?).bind fun x197 =>
  gI .i64 x197 fun i198 =>
  (c196[1]?).bind fun x199 =>
  gB x199 fun q200 =>
  (c196[2]?).bind fun x201 =>
  gB x201 fun q202 =>
  (c196[3]?).bind fun x203 =>
  gI .i64 x203 fun i204 =>
  (c196[4]?).bind fun x205 =>
  (c196[5]?).bind fun x206 =>
  (c196[6]?).bind fun x207 =>
  if c196.length = 7 then
  (frzVs (tidy h141 [p179.1] p179.2) [.agg [.int .i64 i186, .bool q188, .bool q190, .int .i64 i192, x193, x194, x195], .agg [.int .i64 i198, .bool q200, .bool q202, .int .i64 i204, x205, x206, x207]]).bind fun l208 =>
  pcallS (call Ev) Fn.laws_eqMinerResult (normVs [] l208) fun v209 =>
  gV1 v209 fun x210 =>
  gB x210 fun q211 =>
  Jn.laws_FnExactNewMiner_0 (!q211) h141 p179 h128 a0
  else none
  else none)))
  else none
  else none
  else none
  else none) := by
  rw [pure_eq]; kernel_rfl

end Vm
