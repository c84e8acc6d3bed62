/-
  What each function, and each round of each loop, comes to in the small machine. Written by a program (gen3.py).
-/
import Derived.Test.YtnidgolbfmbocaaEnv
set_option linter.unusedVariables false
set_option maxRecDepth 100000
namespace Vm
open Go

theorem pu_spec_l2Bad (a0 : Int) : pureV (call Ev) Fn.spec_l2Bad [iv .i64 a0] =
  some (.agg [.int .i64 a0, .int .i64 0, .fs []]) := by
  rw [pure_eq]; kernel_rfl

theorem eq_spec_l2Copy (a0 : List (List S)) (n : Nat) : call Ev Fn.spec_l2Copy [lv a0] (D n) =
  (appS 1 ((D n).new 1 []) (sv ((D n).n) 0 0) (lv a0)).bind fun p101 =>
  some (p101.1, p101.2) := by
  rw [call_eq]; kernel_rfl

theorem eq_spec_l2Drop (a0 : List (List S)) (a1 : Int) (n : Nat) : call Ev Fn.spec_l2Drop [lv a0, iv .i64 a1] (D n) =
  pcallF (call Ev) Fn.spec_l2Copy true [lv a0] (D n) fun v101 h102 =>
  idxK 1 v101 (iv .i64 (IntKind.i64.wrap (2 + (IntKind.i64.wrap (2 * a1))))) fun v103 =>
  stK 1 h102 v103 (iv .u8 0) fun h104 =>
  idxK 1 v101 (iv .i64 (IntKind.i64.wrap (3 + (IntKind.i64.wrap (2 * a1))))) fun v105 =>
  stK 1 h104 v105 (iv .u8 0) fun h106 =>
  (Lp.spec_l2Drop 0 [v101] h106).bind fun o107 => lcase o107 (fun l108 h109 =>
  (l108[0]?).bind fun w112 =>
  some (w112, h109)) (fun v110 h111 =>
  some (v110, h111)) := by
  rw [call_eq]; kernel_rfl

theorem eq_spec_l2Drop_l0 (s5 : V) (h : H) : Lp.spec_l2Drop 0 [s5] h =
  idxK 1 s5 (iv .i64 0) fun v201 =>
  ldK (.one (.i .u8)) ⟨1, 1, [.int .u8 0], false, .int .u8, false⟩ h v201 fun v202 =>
  gV1 v202 fun x203 =>
  gI .u8 x203 fun i204 =>
  vcase (bv (decide (i204 > 0)))
  (idxK 1 s5 (iv .i64 0) fun v206 =>
  ldK (.one (.i .u8)) ⟨1, 1, [.int .u8 0], false, .int .u8, false⟩ h v206 fun v207 =>
  gV1 v207 fun x208 =>
  gI .u8 x208 fun i209 =>
  (frzVs h [s5, iv .i64 (IntKind.i64.wrap ((IntKind.i64.wrap i209) - 1))]).bind fun l210 =>
  pcallS (call Ev) Fn.spec_l2Size (normVs [] l210) fun v211 =>
  gV1 v211 fun x212 =>
  gI .i64 x212 fun i213 =>
  vcase (bv (i213 == 0))
  (idxK 1 s5 (iv .i64 0) fun v218 =>
  ldK (.one (.i .u8)) ⟨1, 1, [.int .u8 0], false, .int .u8, false⟩ h v218 fun v219 =>
  gV1 v219 fun x220 =>
  gI .u8 x220 fun i221 =>
  idxK 1 s5 (iv .i64 0) fun v222 =>
  stK 1 h v222 (iv .u8 (IntKind.u8.wrap (i221 - 1))) fun h223 =>
  Lp.spec_l2Drop 0 [s5] (tidy h [s5] h223))
  (some (.done [s5] (tidy h [s5] h))))
  (some (.done [s5] (tidy h [s5] h))) := by
  unfold Lp.spec_l2Drop; rw [loop_eq]; kernel_rfl

theorem pu_spec_DropSlot (a0 : List (List S)) (a1 : Int) : pureV (call Ev) Fn.spec_DropSlot [lv a0, iv .i64 a1] =
  pcallS (call Ev) Fn.spec_l2Fault [lv a0] fun v101 =>
  gV1 v101 fun x102 =>
  gI .i64 x102 fun i103 =>
  vcase (bv (i103 != 0))
  ((pureV (call Ev) Fn.spec_l2Bad [iv .i64 i103]).bind fun v105 =>
  gVA v105 fun c106 =>
  (c106[0]?).bind fun x107 =>
  gI .i64 x107 fun i108 =>
  (c106[1]?).bind fun x109 =>
  gI .i64 x109 fun i110 =>
  (c106[2]?).bind fun x111 =>
  gF x111 fun z112 =>
  if c106.length = 3 then
  some (.agg [.int .i64 i108, .int .i64 i110, .fs z112])
  else none)
  (pcallS (call Ev) Fn.spec_l2Has [lv a0, iv .i64 a1] fun v113 =>
  gV1 v113 fun x114 =>
  gB x114 fun q115 =>
  vcase (bv (!q115))
  ((pureV (call Ev) Fn.spec_l2Bad [iv .i64 4]).bind fun v117 =>
  gVA v117 fun c118 =>
  (c118[0]?).bind fun x119 =>
  gI .i64 x119 fun i120 =>
  (c118[1]?).bind fun x121 =>
  gI .i64 x121 fun i122 =>
  (c118[2]?).bind fun x123 =>
  gF x123 fun z124 =>
  if c118.length = 3 then
  some (.agg [.int .i64 i120, .int .i64 i122, .fs z124])
  else none)
  ((pureV (call Ev) Fn.spec_l2Drop [lv a0, iv .i64 a1]).bind fun v125 =>
  gV1 v125 fun x126 =>
  gF x126 fun z127 =>
  some (.agg [.int .i64 0, .int .i64 a1, .fs z127]))) := by
  rw [pure_eq]; kernel_rfl

theorem eq_impl_DropSlot (a0 : List (List S)) (a1 : Int) (n : Nat) : call Ev Fn.impl_DropSlot [lv a0, iv .i64 a1] (D n) =
  pcallS (call Ev) Fn.impl_PageFault [lv a0] fun v101 =>
  gV1 v101 fun x102 =>
  gI .i64 x102 fun i103 =>
  vcase (bv (i103 != 0))
  (stK 3 ((D n).new 0 [.int .i64 0, .int .i64 0, .sl none 0]) (pv ((D n).n) 0) (.agg [.int .i64 i103, .int .i64 0, .sl none 0]) fun h105 =>
  (loadN 3 h105 (pv ((D n).n) 0)).bind fun c106 =>
  some (.agg c106, h105))
  (pcallS (call Ev) Fn.impl_hasSlot [lv a0, iv .i64 a1] fun v107 =>
  gV1 v107 fun x108 =>
  gB x108 fun q109 =>
  vcase (bv (!q109))
  (stK 3 ((D n).new 0 [.int .i64 0, .int .i64 0, .sl none 0]) (pv ((D n).n) 0) (.agg [.int .i64 4, .int .i64 0, .sl none 0]) fun h111 =>
  (loadN 3 h111 (pv ((D n).n) 0)).bind fun c112 =>
  some (.agg c112, h111))
  (pcallF (call Ev) Fn.impl_copied true [lv a0] ((D n).new 0 [.int .i64 0, .int .i64 0, .sl none 0]) fun v113 h114 =>
  idxK 1 v113 (iv .i64 (IntKind.i64.wrap (2 + (IntKind.i64.wrap (2 * a1))))) fun v115 =>
  stK 1 h114 v115 (iv .u8 0) fun h116 =>
  idxK 1 v113 (iv .i64 (IntKind.i64.wrap (3 + (IntKind.i64.wrap (2 * a1))))) fun v117 =>
  stK 1 h116 v117 (iv .u8 0) fun h118 =>
  (Lp.impl_DropSlot 0 [iv .i64 a1, pv ((D n).n) 0, v113] h118).bind fun o119 => lcase o119 (fun l120 h121 =>
  (l120[0]?).bind fun w124 =>
  gV1 w124 fun x125 =>
  gI .i64 x125 fun i126 =>
  (l120[1]?).bind fun w127 =>
  (l120[2]?).bind fun w128 =>
  cellsK w128 fun c129 =>
  if c129.length = 1 ∧ 2 + 1 ≤ ([.int .i64 0, .int .i64 0, .sl none 0] : List S).length then
  if ([.int .i64 i126] : List S).length = 1 ∧ 1 + 1 ≤ (setAt ([.int .i64 0, .int .i64 0, .sl none 0] : List S) 2 c129).length then
  ((setAt (setAt ([.int .i64 0, .int .i64 0, .sl none 0] : List S) 2 c129) 1 ([.int .i64 i126] : List S))[0]?).bind fun x130 =>
  gI .i64 x130 fun i131 =>
  ((setAt (setAt ([.int .i64 0, .int .i64 0, .sl none 0] : List S) 2 c129) 1 ([.int .i64 i126] : List S))[1]?).bind fun x132 =>
  gI .i64 x132 fun i133 =>
  ((setAt (setAt ([.int .i64 0, .int .i64 0, .sl none 0] : List S) 2 c129) 1 ([.int .i64 i126] : List S))[2]?).bind fun x134 =>
  if (setAt (setAt ([.int .i64 0, .int .i64 0, .sl none 0] : List S) 2 c129) 1 ([.int .i64 i126] : List S)).length = 3 then
  stK 3 h121 w127 (.agg [.int .i64 i131, .int .i64 i133, x134]) fun h135 =>
  ldT ⟨3, 40, [.int .i64 0, .int .i64 0, .sl none 0], true, .st [(0, 2), (1, 2), (2, 22)], false⟩ h135 w127 fun v136 =>
  some (v136, h135)
  else none
  else none
  else none) (fun v122 h123 =>
  some (v122, h123)))) := by
  rw [call_eq]; kernel_rfl

theorem eq_impl_DropSlot_l0 (s1 : Int) (s4 : V) (s6 : V) (h : H) : Lp.impl_DropSlot 0 [iv .i64 s1, s4, s6] h =
  idxK 1 s6 (iv .i64 0) fun v201 =>
  ldK (.one (.i .u8)) ⟨1, 1, [.int .u8 0], false, .int .u8, false⟩ h v201 fun v202 =>
  gV1 v202 fun x203 =>
  gI .u8 x203 fun i204 =>
  vcase (bv (decide (i204 > 0)))
  (idxK 1 s6 (iv .i64 0) fun v206 =>
  ldK (.one (.i .u8)) ⟨1, 1, [.int .u8 0], false, .int .u8, false⟩ h v206 fun v207 =>
  gV1 v207 fun x208 =>
  gI .u8 x208 fun i209 =>
  idxK 1 s6 (iv .i64 (IntKind.i64.wrap ((IntKind.i64.wrap (2 * (IntKind.i64.wrap i209))) + 1))) fun v210 =>
  ldK (.one (.i .u8)) ⟨1, 1, [.int .u8 0], false, .int .u8, false⟩ h v210 fun v211 =>
  gV1 v211 fun x212 =>
  gI .u8 x212 fun i213 =>
  vcase (bv (i213 == 0))
  (idxK 1 s6 (iv .i64 0) fun v218 =>
  ldK (.one (.i .u8)) ⟨1, 1, [.int .u8 0], false, .int .u8, false⟩ h v218 fun v219 =>
  gV1 v219 fun x220 =>
  gI .u8 x220 fun i221 =>
  idxK 1 s6 (iv .i64 0) fun v222 =>
  stK 1 h v222 (iv .u8 (IntKind.u8.wrap (i221 - 1))) fun h223 =>
  Lp.impl_DropSlot 0 [iv .i64 s1, s4, s6] (tidy h [iv .i64 s1, s4, s6] h223))
  (some (.done [iv .i64 s1, s4, s6] (tidy h [iv .i64 s1, s4, s6] h))))
  (some (.done [iv .i64 s1, s4, s6] (tidy h [iv .i64 s1, s4, s6] h))) := by
  unfold Lp.impl_DropSlot; rw [loop_eq]; kernel_rfl

theorem pu_laws_eqPageResult (a0_0 : Int) (a0_1 : Int) (a0_2 : List (List S)) (a1_0 : Int) (a1_1 : Int) (a1_2 : List (List S)) : pureV (call Ev) Fn.laws_eqPageResult [.agg [.int .i64 a0_0, .int .i64 a0_1, .fs a0_2], .agg [.int .i64 a1_0, .int .i64 a1_1, .fs a1_2]] =
  vcase (bv (a0_0 != a1_0))
  (some (bv false))
  (vcase (bv (a0_1 != a1_1))
  (some (bv false))
  (pcallS (call Ev) Fn.laws_eqByteS [lv a0_2, lv a1_2] fun v103 =>
  gV1 v103 fun x104 =>
  gB x104 fun q105 =>
  vcase (bv (!q105))
  (some (bv false))
  (some (bv true)))) := by
  rw [pure_eq]; kernel_rfl

theorem eq_laws_markPageResult (a0_0 : Int) (a0_1 : Int) (a0_2 : S) (a1 : Int) (h : H) : call Ev Fn.laws_markPageResult [.agg [.int .i64 a0_0, .int .i64 a0_1, a0_2], iv .i64 a1] h =
  (load1 (h.new 0 [.int .i64 a0_0, .int .i64 a0_1, a0_2]) (pv h.n 2)).bind fun x101 =>
  (call Ev Fn.laws_markByteS [.s x101, iv .i64 a1] (h.new 0 [.int .i64 a0_0, .int .i64 a0_1, a0_2])).bind fun p102 =>
  gV1 p102.1 fun x103 =>
  gI .i64 x103 fun i104 =>
  some (iv .i64 i104, tidy (h.new 0 [.int .i64 a0_0, .int .i64 a0_1, a0_2]) [p102.1] p102.2) := by
  rw [call_eq]; kernel_rfl

theorem pu_laws_heldPageResult (a0_0 : Int) (a0_1 : Int) (a0_2 : List (List S)) (a1 : Int) : pureV (call Ev) Fn.laws_heldPageResult [.agg [.int .i64 a0_0, .int .i64 a0_1, .fs a0_2], iv .i64 a1] =
  pcallS (call Ev) Fn.laws_heldByteS [lv a0_2, iv .i64 a1] fun v101 =>
  gV1 v101 fun x102 =>
  gI .i64 x102 fun i103 =>
  vcase (bv (decide (i103 < 0)))
  (some (iv .i64 (-1)))
  (some (iv .i64 i103)) := by
  rw [pure_eq]; kernel_rfl

noncomputable def Jn.laws_FnExactDropSlot_0 (q236 : Bool) (h124 : H) (p150 : V × H) (h117 : H) (a0 : List (List S)) (a1 : Int) : Option (V) :=
  vcase (bv q236)
  (some (bv false))
  ((loadN 3 (tidy h124 [p150.1] p150.2) (pv h117.n 0)).bind fun c238 =>
  (c238[0]?).bind fun x239 =>
  gI .i64 x239 fun i240 =>
  (c238[1]?).bind fun x241 =>
  gI .i64 x241 fun i242 =>
  (c238[2]?).bind fun x243 =>
  if c238.length = 3 then
  (call Ev Fn.laws_markPageResult [.agg [.int .i64 i240, .int .i64 i242, x243], iv .i64 1] (tidy h124 [p150.1] p150.2)).bind fun p244 =>
  gV1 p244.1 fun x245 =>
  gI .i64 x245 fun i246 =>
  (loadN 3 (tidy (tidy h124 [p150.1] p150.2) [p244.1] p244.2) (pv h117.n 0)).bind fun c247 =>
  (c247[0]?).bind fun x248 =>
  gI .i64 x248 fun i249 =>
  (c247[1]?).bind fun x250 =>
  gI .i64 x250 fun i251 =>
  (c247[2]?).bind fun x252 =>
  if c247.length = 3 then
  (frzVs (tidy (tidy h124 [p150.1] p150.2) [p244.1] p244.2) [.agg [.int .i64 i249, .int .i64 i251, x252], iv .i64 1]).bind fun l253 =>
  pcallS (call Ev) Fn.laws_heldPageResult (normVs [] l253) fun v254 =>
  gV1 v254 fun x255 =>
  gI .i64 x255 fun i256 =>
  vcase (bv (decide (i256 < 0)))
  (some (bv false))
  (vcase (bv (i256 != i246))
  (some (bv false))
  ((pureV (call Ev) Fn.laws_toByteS [lv a0]).bind fun v259 =>
  gV1 v259 fun x260 =>
  gF x260 fun z261 =>
  (pureV (call Ev) Fn.impl_DropSlot [lv z261, iv .i64 a1]).bind fun v262 =>
  gVA v262 fun c263 =>
  (c263[0]?).bind fun x264 =>
  gI .i64 x264 fun i265 =>
  (c263[1]?).bind fun x266 =>
  gI .i64 x266 fun i267 =>
  (c263[2]?).bind fun x268 =>
  gF x268 fun z269 =>
  if c263.length = 3 then
  stK 3 ((tidy (tidy h124 [p150.1] p150.2) [p244.1] p244.2).new 0 [.int .i64 0, .int .i64 0, .sl none 0]) (pv ((tidy (tidy h124 [p150.1] p150.2) [p244.1] p244.2).n) 0) (.agg [.int .i64 i265, .int .i64 i267, .fs z269]) fun h270 =>
  (loadN 3 h270 (pv ((tidy (tidy h124 [p150.1] p150.2) [p244.1] p244.2).n) 0)).bind fun c271 =>
  (c271[0]?).bind fun x272 =>
  gI .i64 x272 fun i273 =>
  (c271[1]?).bind fun x274 =>
  gI .i64 x274 fun i275 =>
  (c271[2]?).bind fun x276 =>
  if c271.length = 3 then
  (loadN 3 h270 (pv 0 0)).bind fun c277 =>
  (c277[0]?).bind fun x278 =>
  gI .i64 x278 fun i279 =>
  (c277[1]?).bind fun x280 =>
  gI .i64 x280 fun i281 =>
  (c277[2]?).bind fun x282 =>
  if c277.length = 3 then
  (frzVs h270 [.agg [.int .i64 i273, .int .i64 i275, x276], .agg [.int .i64 i279, .int .i64 i281, x282]]).bind fun l283 =>
  pcallS (call Ev) Fn.laws_eqPageResult (normVs [] l283) fun v284 =>
  gV1 v284 fun x285 =>
  gB x285 fun q286 =>
  vcase (bv (!q286))
  (some (bv false))
  ((loadN 3 h270 (pv h117.n 0)).bind fun c288 =>
  (c288[0]?).bind fun x289 =>
  gI .i64 x289 fun i290 =>
  (c288[1]?).bind fun x291 =>
  gI .i64 x291 fun i292 =>
  (c288[2]?).bind fun x293 =>
  if c288.length = 3 then
  (frzVs h270 [.agg [.int .i64 i290, .int .i64 i292, x293], iv .i64 1]).bind fun l294 =>
  pcallS (call Ev) Fn.laws_heldPageResult (normVs [] l294) fun v295 =>
  gV1 v295 fun x296 =>
  gI .i64 x296 fun i297 =>
  vcase (bv (decide (i297 < 0)))
  (some (bv false))
  (vcase (bv (i297 != i246))
  (some (bv false))
  (some (bv true)))
  else none)
  else none
  else none
  else none))
  else none
  else none)

theorem pu_laws_FnExactDropSlot (a0 : List (List S)) (a1 : Int) : pureV (call Ev) Fn.laws_FnExactDropSlot [lv a0, iv .i64 a1] =
  vcase (bv (decide ((a0.length : Int) > 1048576)))
  (some (bv true))
  ((pureV (call Ev) Fn.laws_toByteS [lv a0]).bind fun v102 =>
  gV1 v102 fun x103 =>
  gF x103 fun z104 =>
  (pureV (call Ev) Fn.spec_DropSlot [lv z104, iv .i64 a1]).bind fun v105 =>
  gVA v105 fun c106 =>
  (c106[0]?).bind fun x107 =>
  gI .i64 x107 fun i108 =>
  (c106[1]?).bind fun x109 =>
  gI .i64 x109 fun i110 =>
  (c106[2]?).bind fun x111 =>
  gF x111 fun z112 =>
  if c106.length = 3 then
  pcallF (call Ev) Fn.laws_toByteS true [lv a0] (((D 0).new 0 [.int .i64 0, .int .i64 0, .sl none 0]).put 0 (.rw 0 [.int .i64 i108, .int .i64 i110, .fs z112])) fun v113 h114 =>
  (frzVs h114 [v113, iv .i64 a1]).bind fun l115 =>
  pcallF (call Ev) Fn.impl_DropSlot ([v113, iv .i64 a1].all offV) (normVs [] l115) h114 fun v116 h117 =>
  gVA v116 fun c118 =>
  (c118[0]?).bind fun x119 =>
  gI .i64 x119 fun i120 =>
  (c118[1]?).bind fun x121 =>
  gI .i64 x121 fun i122 =>
  (c118[2]?).bind fun x123 =>
  if c118.length = 3 then
  stK 3 (h117.new 0 [.int .i64 0, .int .i64 0, .sl none 0]) (pv h117.n 0) (.agg [.int .i64 i120, .int .i64 i122, x123]) fun h124 =>
  (loadN 3 h124 (pv h117.n 0)).bind fun c125 =>
  (c125[0]?).bind fun x126 =>
  gI .i64 x126 fun i127 =>
  (c125[1]?).bind fun x128 =>
  gI .i64 x128 fun i129 =>
  (c125[2]?).bind fun x130 =>
  if c125.length = 3 then
  (loadN 3 h124 (pv 0 0)).bind fun c131 =>
  (c131[0]?).bind fun x132 =>
  gI .i64 x132 fun i133 =>
  (c131[1]?).bind fun x134 =>
  gI .i64 x134 fun i135 =>
  (c131[2]?).bind fun x136 =>
  if c131.length = 3 then
  (frzVs h124 [.agg [.int .i64 i127, .int .i64 i129, x130], .agg [.int .i64 i133, .int .i64 i135, x136]]).bind fun l137 =>
  pcallS (call Ev) Fn.laws_eqPageResult (normVs [] l137) fun v138 =>
  gV1 v138 fun x139 =>
  gB x139 fun q140 =>
  vcase (bv (!q140))
  (some (bv false))
  ((pureV (call Ev) Fn.laws_toByteS [lv a0]).bind fun v142 =>
  gV1 v142 fun x143 =>
  gF x143 fun z144 =>
  (frzVs h124 [v113, lv z144]).bind fun l145 =>
  pcallS (call Ev) Fn.laws_eqByteS (normVs [] l145) fun v146 =>
  gV1 v146 fun x147 =>
  gB x147 fun q148 =>
  vcase (bv (!q148))
  (some (bv false))
  ((call Ev Fn.laws_markByteS [v113, iv .i64 1] h124).bind fun p150 =>
  gV1 p150.1 fun x151 =>
  gI .i64 x151 fun i152 =>
  vcase (bv (decide (i152 < 0)))
  (Jn.laws_FnExactDropSlot_0 true h124 p150 h117 a0 a1)
  ((loadN 3 (tidy h124 [p150.1] p150.2) (pv h117.n 0)).bind fun c155 =>
  (c155[0]?).bind fun x156 =>
  gI .i64 x156 fun i157 =>
  (c155[1]?).bind fun x158 =>
  gI .i64 x158 fun i159 =>
  (c155[2]?).bind fun x160 =>
  if c155.length = 3 then
  (loadN 3 (tidy h124 [p150.1] p150.2) (pv 0 0)).bind fun c161 =>
  (c161[0]?).bind fun x162 =>
  gI .i64 x162 fun i163 =>
  (c161[1]?).bind fun x164 =>
  gI .i64 x164 fun i165 =>
  (c161[2]?).bind fun x166 =>
  if c161.length = 3 then
  (frzVs (tidy h124 [p150.1] p150.2) [.agg [.int .i64 i157, .int .i64 i159, x160], .agg [.int .i64 i163, .int .i64 i165, x166]]).bind fun l167 =>
  pcallS (call Ev) Fn.laws_eqPageResult (normVs [] l167) fun v168 =>
  gV1 v168 fun x169 =>
  gB x169 fun q170 =>
  Jn.laws_FnExactDropSlot_0 (!q170) h124 p150 h117 a0 a1
  else none
  else none)))
  else none
  else none
  else none
  else none) := by
  rw [pure_eq]; kernel_rfl

theorem eq_spec_l2Stand (a0 : V) (a1 : Int) (a2 : Int) (a3 : V) (h : H) : call Ev Fn.spec_l2Stand [a0, iv .i64 a1, iv .i64 a2, a3] h =
  slK 1 h a0 (some (iv .i64 a2)) none fun v101 =>
  (copS 1 h v101 a3).bind fun p102 =>
  gV1 p102.1 fun x103 =>
  gI .i64 x103 fun i104 =>
  idxK 1 a0 (iv .i64 (IntKind.i64.wrap (2 + (IntKind.i64.wrap (2 * a1))))) fun v105 =>
  stK 1 p102.2 v105 (iv .u8 (IntKind.u8.wrap a2)) fun h106 =>
  (lenV (.sl 5) a3).bind fun v107 =>
  gV1 v107 fun x108 =>
  gI .i64 x108 fun i109 =>
  idxK 1 a0 (iv .i64 (IntKind.i64.wrap (3 + (IntKind.i64.wrap (2 * a1))))) fun v110 =>
  stK 1 h106 v110 (iv .u8 (IntKind.u8.wrap i109)) fun h111 =>
  some (.tup [], h111) := by
  rw [call_eq]; kernel_rfl

theorem eq_spec_l2Compact (a0 : List (List S)) (n : Nat) : call Ev Fn.spec_l2Compact [lv a0] (D n) =
  pcallS (call Ev) Fn.spec_l2Count [lv a0] fun v101 =>
  gV1 v101 fun x102 =>
  gI .i64 x102 fun i103 =>
  (mkSl 1 [.int .u8 0] (D n) (iv .i64 64) (iv .i64 64)).bind fun p104 =>
  slF 1 a0 none (some (iv .i64 (IntKind.i64.wrap (2 + (IntKind.i64.wrap (2 * i103)))))) fun z105 =>
  (copS 1 p104.2 p104.1 (lv z105)).bind fun p106 =>
  gV1 p106.1 fun x107 =>
  gI .i64 x107 fun i108 =>
  (Lp.spec_l2Compact 0 [lv a0, iv .i64 i103, p104.1, iv .i64 64, iv .i64 0] p106.2).bind fun o109 => lcase o109 (fun l110 h111 =>
  (l110[0]?).bind fun w114 =>
  (l110[1]?).bind fun w115 =>
  gV1 w115 fun x116 =>
  gI .i64 x116 fun i117 =>
  idxK 1 w114 (iv .i64 1) fun v118 =>
  stK 1 h111 v118 (iv .u8 (IntKind.u8.wrap i117)) fun h119 =>
  some (w114, h119)) (fun v112 h113 =>
  some (v112, h113)) := by
  rw [call_eq]; kernel_rfl

theorem eq_spec_l2Compact_l0 (s0 : List (List S)) (s3 : Int) (s4 : V) (s5 : Int) (s6 : Int) (h : H) : Lp.spec_l2Compact 0 [lv s0, iv .i64 s3, s4, iv .i64 s5, iv .i64 s6] h =
  vcase (bv (decide (s6 < s3)))
  (pcallS (call Ev) Fn.spec_l2Size [lv s0, iv .i64 s6] fun v203 =>
  gV1 v203 fun x204 =>
  gI .i64 x204 fun i205 =>
  vcase (bv (i205 == 0))
  (Lp.spec_l2Compact 0 [lv s0, iv .i64 s3, s4, iv .i64 s5, iv .i64 (IntKind.i64.wrap (s6 + 1))] (tidy h [lv s0, iv .i64 s3, s4, iv .i64 s5, iv .i64 (IntKind.i64.wrap (s6 + 1))] h))
  ((pureV (call Ev) Fn.spec_l2Cell [lv s0, iv .i64 s6]).bind fun v207 =>
  gV1 v207 fun x208 =>
  gF x208 fun z209 =>
  (call Ev Fn.spec_l2Stand [s4, iv .i64 s6, iv .i64 (IntKind.i64.wrap (s5 - (z209.length : Int))), lv z209] h).bind fun p210 =>
  Lp.spec_l2Compact 0 [lv s0, iv .i64 s3, s4, iv .i64 (IntKind.i64.wrap (s5 - (z209.length : Int))), iv .i64 (IntKind.i64.wrap (s6 + 1))] (tidy h [lv s0, iv .i64 s3, s4, iv .i64 (IntKind.i64.wrap (s5 - (z209.length : Int))), iv .i64 (IntKind.i64.wrap (s6 + 1))] (tidy h [p210.1] p210.2))))
  (some (.done [s4, iv .i64 s5] (tidy h [s4, iv .i64 s5] h))) := by
  unfold Lp.spec_l2Compact; rw [loop_eq]; kernel_rfl

theorem pu_spec_CompactPage (a0 : List (List S)) : pureV (call Ev) Fn.spec_CompactPage [lv a0] =
  pcallS (call Ev) Fn.spec_l2Fault [lv a0] fun v101 =>
  gV1 v101 fun x102 =>
  gI .i64 x102 fun i103 =>
  vcase (bv (i103 != 0))
  ((pureV (call Ev) Fn.spec_l2Bad [iv .i64 i103]).bind fun v105 =>
  gVA v105 fun c106 =>
  (c106[0]?).bind fun x107 =>
  gI .i64 x107 fun i108 =>
  (c106[1]?).bind fun x109 =>
  gI .i64 x109 fun i110 =>
  (c106[2]?).bind fun x111 =>
  gF x111 fun z112 =>
  if c106.length = 3 then
  some (.agg [.int .i64 i108, .int .i64 i110, .fs z112])
  else none)
  ((pureV (call Ev) Fn.spec_l2Compact [lv a0]).bind fun v113 =>
  gV1 v113 fun x114 =>
  gF x114 fun z115 =>
  some (.agg [.int .i64 0, .int .i64 0, .fs z115])) := by
  rw [pure_eq]; kernel_rfl

theorem eq_impl_CompactPage (a0 : List (List S)) (n : Nat) : call Ev Fn.impl_CompactPage [lv a0] (D n) =
  pcallS (call Ev) Fn.impl_PageFault [lv a0] fun v101 =>
  gV1 v101 fun x102 =>
  gI .i64 x102 fun i103 =>
  vcase (bv (i103 != 0))
  (stK 3 ((D n).new 0 [.int .i64 0, .int .i64 0, .sl none 0]) (pv ((D n).n) 0) (.agg [.int .i64 i103, .int .i64 0, .sl none 0]) fun h105 =>
  (loadN 3 h105 (pv ((D n).n) 0)).bind fun c106 =>
  some (.agg c106, h105))
  (pcallS (call Ev) Fn.impl_slots [lv a0] fun v107 =>
  gV1 v107 fun x108 =>
  gI .i64 x108 fun i109 =>
  (mkSl 1 [.int .u8 0] ((D n).new 0 [.int .i64 0, .int .i64 0, .sl none 0]) (iv .i64 64) (iv .i64 64)).bind fun p110 =>
  slF 1 a0 none (some (iv .i64 (IntKind.i64.wrap (2 + (IntKind.i64.wrap (2 * i109)))))) fun z111 =>
  (copS 1 p110.2 p110.1 (lv z111)).bind fun p112 =>
  gV1 p112.1 fun x113 =>
  gI .i64 x113 fun i114 =>
  (Lp.impl_CompactPage 0 [lv a0, pv ((D n).n) 0, p110.1, iv .i64 64, iv .i64 i109, iv .i64 0] p112.2).bind fun o115 => lcase o115 (fun l116 h117 =>
  (l116[0]?).bind fun w120 =>
  (l116[1]?).bind fun w121 =>
  (l116[2]?).bind fun w122 =>
  gV1 w122 fun x123 =>
  gI .i64 x123 fun i124 =>
  idxK 1 w121 (iv .i64 1) fun v125 =>
  stK 1 h117 v125 (iv .u8 (IntKind.u8.wrap i124)) fun h126 =>
  cellsK w121 fun c127 =>
  if c127.length = 1 ∧ 2 + 1 ≤ ([.int .i64 0, .int .i64 0, .sl none 0] : List S).length then
  ((setAt ([.int .i64 0, .int .i64 0, .sl none 0] : List S) 2 c127)[0]?).bind fun x128 =>
  gI .i64 x128 fun i129 =>
  ((setAt ([.int .i64 0, .int .i64 0, .sl none 0] : List S) 2 c127)[1]?).bind fun x130 =>
  gI .i64 x130 fun i131 =>
  ((setAt ([.int .i64 0, .int .i64 0, .sl none 0] : List S) 2 c127)[2]?).bind fun x132 =>
  if (setAt ([.int .i64 0, .int .i64 0, .sl none 0] : List S) 2 c127).length = 3 then
  stK 3 h126 w120 (.agg [.int .i64 i129, .int .i64 i131, x132]) fun h133 =>
  ldT ⟨3, 40, [.int .i64 0, .int .i64 0, .sl none 0], true, .st [(0, 2), (1, 2), (2, 22)], false⟩ h133 w120 fun v134 =>
  some (v134, h133)
  else none
  else none) (fun v118 h119 =>
  some (v118, h119))) := by
  rw [call_eq]; kernel_rfl

theorem eq_impl_CompactPage_l0 (s0 : List (List S)) (s2 : V) (s5 : V) (s6 : Int) (s25 : Int) (s26 : Int) (h : H) : Lp.impl_CompactPage 0 [lv s0, s2, s5, iv .i64 s6, iv .i64 s25, iv .i64 s26] h =
  vcase (bv (decide (s26 < s25)))
  (pcallS (call Ev) Fn.impl_hasSlot [lv s0, iv .i64 s26] fun v203 =>
  gV1 v203 fun x204 =>
  gB x204 fun q205 =>
  vcase (bv (!q205))
  (Lp.impl_CompactPage 0 [lv s0, s2, s5, iv .i64 s6, iv .i64 s25, iv .i64 (IntKind.i64.wrap (s26 + 1))] (tidy h [lv s0, s2, s5, iv .i64 s6, iv .i64 s25, iv .i64 (IntKind.i64.wrap (s26 + 1))] h))
  ((pureV (call Ev) Fn.impl_cellAt [lv s0, iv .i64 s26]).bind fun v207 =>
  gV1 v207 fun x208 =>
  gF x208 fun z209 =>
  slK 1 h s5 (some (iv .i64 (IntKind.i64.wrap (s6 - (z209.length : Int))))) none fun v210 =>
  (copS 1 h v210 (lv z209)).bind fun p211 =>
  gV1 p211.1 fun x212 =>
  gI .i64 x212 fun i213 =>
  idxK 1 s5 (iv .i64 (IntKind.i64.wrap (2 + (IntKind.i64.wrap (2 * s26))))) fun v214 =>
  stK 1 p211.2 v214 (iv .u8 (IntKind.u8.wrap (IntKind.i64.wrap (s6 - (z209.length : Int))))) fun h215 =>
  Lp.impl_CompactPage 0 [lv s0, s2, s5, iv .i64 (IntKind.i64.wrap (s6 - (z209.length : Int))), iv .i64 s25, iv .i64 (IntKind.i64.wrap (s26 + 1))] (tidy h [lv s0, s2, s5, iv .i64 (IntKind.i64.wrap (s6 - (z209.length : Int))), iv .i64 s25, iv .i64 (IntKind.i64.wrap (s26 + 1))] h215)))
  (some (.done [s2, s5, iv .i64 s6] (tidy h [s2, s5, iv .i64 s6] h))) := by
  unfold Lp.impl_CompactPage; rw [loop_eq]; kernel_rfl

noncomputable def Jn.laws_FnExactCompactPage_0 (q236 : Bool) (h124 : H) (p150 : V × H) (h117 : H) (a0 : List (List S)) : Option (V) :=
  vcase (bv q236)
  (some (bv false))
  ((loadN 3 (tidy h124 [p150.1] p150.2) (pv h117.n 0)).bind fun c238 =>
  (c238[0]?).bind fun x239 =>
  gI .i64 x239 fun i240 =>
  (c238[1]?).bind fun x241 =>
  gI .i64 x241 fun i242 =>
  (c238[2]?).bind fun x243 =>
  if c238.length = 3 then
  (call Ev Fn.laws_markPageResult [.agg [.int .i64 i240, .int .i64 i242, x243], iv .i64 1] (tidy h124 [p150.1] p150.2)).bind fun p244 =>
  gV1 p244.1 fun x245 =>
  gI .i64 x245 fun i246 =>
  (loadN 3 (tidy (tidy h124 [p150.1] p150.2) [p244.1] p244.2) (pv h117.n 0)).bind fun c247 =>
  (c247[0]?).bind fun x248 =>
  gI .i64 x248 fun i249 =>
  (c247[1]?).bind fun x250 =>
  gI .i64 x250 fun i251 =>
  (c247[2]?).bind fun x252 =>
  if c247.length = 3 then
  (frzVs (tidy (tidy h124 [p150.1] p150.2) [p244.1] p244.2) [.agg [.int .i64 i249, .int .i64 i251, x252], iv .i64 1]).bind fun l253 =>
  pcallS (call Ev) Fn.laws_heldPageResult (normVs [] l253) fun v254 =>
  gV1 v254 fun x255 =>
  gI .i64 x255 fun i256 =>
  vcase (bv (decide (i256 < 0)))
  (some (bv false))
  (vcase (bv (i256 != i246))
  (some (bv false))
  ((pureV (call Ev) Fn.laws_toByteS [lv a0]).bind fun v259 =>
  gV1 v259 fun x260 =>
  gF x260 fun z261 =>
  (pureV (call Ev) Fn.impl_CompactPage [lv z261]).bind fun v262 =>
  gVA v262 fun c263 =>
  (c263[0]?).bind fun x264 =>
  gI .i64 x264 fun i265 =>
  (c263[1]?).bind fun x266 =>
  gI .i64 x266 fun i267 =>
  (c263[2]?).bind fun x268 =>
  gF x268 fun z269 =>
  if c263.length = 3 then
  stK 3 ((tidy (tidy h124 [p150.1] p150.2) [p244.1] p244.2).new 0 [.int .i64 0, .int .i64 0, .sl none 0]) (pv ((tidy (tidy h124 [p150.1] p150.2) [p244.1] p244.2).n) 0) (.agg [.int .i64 i265, .int .i64 i267, .fs z269]) fun h270 =>
  (loadN 3 h270 (pv ((tidy (tidy h124 [p150.1] p150.2) [p244.1] p244.2).n) 0)).bind fun c271 =>
  (c271[0]?).bind fun x272 =>
  gI .i64 x272 fun i273 =>
  (c271[1]?).bind fun x274 =>
  gI .i64 x274 fun i275 =>
  (c271[2]?).bind fun x276 =>
  if c271.length = 3 then
  (loadN 3 h270 (pv 0 0)).bind fun c277 =>
  (c277[0]?).bind fun x278 =>
  gI .i64 x278 fun i279 =>
  (c277[1]?).bind fun x280 =>
  gI .i64 x280 fun i281 =>
  (c277[2]?).bind fun x282 =>
  if c277.length = 3 then
  (frzVs h270 [.agg [.int .i64 i273, .int .i64 i275, x276], .agg [.int .i64 i279, .int .i64 i281, x282]]).bind fun l283 =>
  pcallS (call Ev) Fn.laws_eqPageResult (normVs [] l283) fun v284 =>
  gV1 v284 fun x285 =>
  gB x285 fun q286 =>
  vcase (bv (!q286))
  (some (bv false))
  ((loadN 3 h270 (pv h117.n 0)).bind fun c288 =>
  (c288[0]?).bind fun x289 =>
  gI .i64 x289 fun i290 =>
  (c288[1]?).bind fun x291 =>
  gI .i64 x291 fun i292 =>
  (c288[2]?).bind fun x293 =>
  if c288.length = 3 then
  (frzVs h270 [.agg [.int .i64 i290, .int .i64 i292, x293], iv .i64 1]).bind fun l294 =>
  pcallS (call Ev) Fn.laws_heldPageResult (normVs [] l294) fun v295 =>
  gV1 v295 fun x296 =>
  gI .i64 x296 fun i297 =>
  vcase (bv (decide (i297 < 0)))
  (some (bv false))
  (vcase (bv (i297 != i246))
  (some (bv false))
  (some (bv true)))
  else none)
  else none
  else none
  else none))
  else none
  else none)

theorem pu_laws_FnExactCompactPage (a0 : List (List S)) : pureV (call Ev) Fn.laws_FnExactCompactPage [lv a0] =
  vcase (bv (decide ((a0.length : Int) > 1048576)))
  (some (bv true))
  ((pureV (call Ev) Fn.laws_toByteS [lv a0]).bind fun v102 =>
  gV1 v102 fun x103 =>
  gF x103 fun z104 =>
  (pureV (call Ev) Fn.spec_CompactPage [lv z104]).bind fun v105 =>
  gVA v105 fun c106 =>
  (c106[0]?).bind fun x107 =>
  gI .i64 x107 fun i108 =>
  (c106[1]?).bind fun x109 =>
  gI .i64 x109 fun i110 =>
  (c106[2]?).bind fun x111 =>
  gF x111 fun z112 =>
  if c106.length = 3 then
  pcallF (call Ev) Fn.laws_toByteS true [lv a0] (((D 0).new 0 [.int .i64 0, .int .i64 0, .sl none 0]).put 0 (.rw 0 [.int .i64 i108, .int .i64 i110, .fs z112])) fun v113 h114 =>
  (frzVs h114 [v113]).bind fun l115 =>
  pcallF (call Ev) Fn.impl_CompactPage ([v113].all offV) (normVs [] l115) h114 fun v116 h117 =>
  gVA v116 fun c118 =>
  (c118[0]?).bind fun x119 =>
  gI .i64 x119 fun i120 =>
  (c118[1]?).bind fun x121 =>
  gI .i64 x121 fun i122 =>
  (c118[2]?).bind fun x123 =>
  if c118.length = 3 then
  stK 3 (h117.new 0 [.int .i64 0, .int .i64 0, .sl none 0]) (pv h117.n 0) (.agg [.int .i64 i120, .int .i64 i122, x123]) fun h124 =>
  (loadN 3 h124 (pv h117.n 0)).bind fun c125 =>
  (c125[0]?).bind fun x126 =>
  gI .i64 x126 fun i127 =>
  (c125[1]?).bind fun x128 =>
  gI .i64 x128 fun i129 =>
  (c125[2]?).bind fun x130 =>
  if c125.length = 3 then
  (loadN 3 h124 (pv 0 0)).bind fun c131 =>
  (c131[0]?).bind fun x132 =>
  gI .i64 x132 fun i133 =>
  (c131[1]?).bind fun x134 =>
  gI .i64 x134 fun i135 =>
  (c131[2]?).bind fun x136 =>
  if c131.length = 3 then
  (frzVs h124 [.agg [.int .i64 i127, .int .i64 i129, x130], .agg [.int .i64 i133, .int .i64 i135, x136]]).bind fun l137 =>
  pcallS (call Ev) Fn.laws_eqPageResult (normVs [] l137) fun v138 =>
  gV1 v138 fun x139 =>
  gB x139 fun q140 =>
  vcase (bv (!q140))
  (some (bv false))
  ((pureV (call Ev) Fn.laws_toByteS [lv a0]).bind fun v142 =>
  gV1 v142 fun x143 =>
  gF x143 fun z144 =>
  (frzVs h124 [v113, lv z144]).bind fun l145 =>
  pcallS (call Ev) Fn.laws_eqByteS (normVs [] l145) fun v146 =>
  gV1 v146 fun x147 =>
  gB x147 fun q148 =>
  vcase (bv (!q148))
  (some (bv false))
  ((call Ev Fn.laws_markByteS [v113, iv .i64 1] h124).bind fun p150 =>
  gV1 p150.1 fun x151 =>
  gI .i64 x151 fun i152 =>
  vcase (bv (decide (i152 < 0)))
  (Jn.laws_FnExactCompactPage_0 true h124 p150 h117 a0)
  ((loadN 3 (tidy h124 [p150.1] p150.2) (pv h117.n 0)).bind fun c155 =>
  (c155[0]?).bind fun x156 =>
  gI .i64 x156 fun i157 =>
  (c155[1]?).bind fun x158 =>
  gI .i64 x158 fun i159 =>
  (c155[2]?).bind fun x160 =>
  if c155.length = 3 then
  (loadN 3 (tidy h124 [p150.1] p150.2) (pv 0 0)).bind fun c161 =>
  (c161[0]?).bind fun x162 =>
  gI .i64 x162 fun i163 =>
  (c161[1]?).bind fun x164 =>
  gI .i64 x164 fun i165 =>
  (c161[2]?).bind fun x166 =>
  if c161.length = 3 then
  (frzVs (tidy h124 [p150.1] p150.2) [.agg [.int .i64 i157, .int .i64 i159, x160], .agg [.int .i64 i163, .int .i64 i165, x166]]).bind fun l167 =>
  pcallS (call Ev) Fn.laws_eqPageResult (normVs [] l167) fun v168 =>
  gV1 v168 fun x169 =>
  gB x169 fun q170 =>
  Jn.laws_FnExactCompactPage_0 (!q170) h124 p150 h117 a0
  else none
  else none)))
  else none
  else none
  else none
  else none) := by
  rw [pure_eq]; kernel_rfl

theorem pu_spec_l2CellSize (a0 : List (List S)) : pureV (call Ev) Fn.spec_l2CellSize [lv a0] =
  pcallS (call Ev) Fn.spec_l1In [iv .i64 (a0.length : Int), iv .i64 1, iv .i64 20] fun v101 =>
  gV1 v101 fun x102 =>
  gB x102 fun q103 =>
  some (bv q103) := by
  rw [pure_eq]; kernel_rfl

theorem pu_spec_l2Free (a0 : List (List S)) : pureV (call Ev) Fn.spec_l2Free [lv a0] =
  pcallS (call Ev) Fn.spec_l2Count [lv a0] fun v101 =>
  gV1 v101 fun x102 =>
  gI .i64 x102 fun i103 =>
  (Lp.spec_l2Free 0 [lv a0, iv .i64 (IntKind.i64.wrap (62 - (IntKind.i64.wrap (2 * i103)))), iv .i64 0] (D 0)).bind fun o104 => lcase o104 (fun l105 h106 =>
  (l105[0]?).bind fun w109 =>
  gV1 w109 fun x110 =>
  gI .i64 x110 fun i111 =>
  some (iv .i64 i111)) (fun v107 h108 =>
  frzV h108 v107) := by
  rw [pure_eq]; kernel_rfl

theorem eq_spec_l2Free_l0 (s0 : List (List S)) (s3 : Int) (s4 : Int) (h : H) : Lp.spec_l2Free 0 [lv s0, iv .i64 s3, iv .i64 s4] h =
  pcallS (call Ev) Fn.spec_l2Count [lv s0] fun v201 =>
  gV1 v201 fun x202 =>
  gI .i64 x202 fun i203 =>
  vcase (bv (decide (s4 < i203)))
  (pcallS (call Ev) Fn.spec_l2Size [lv s0, iv .i64 s4] fun v206 =>
  gV1 v206 fun x207 =>
  gI .i64 x207 fun i208 =>
  Lp.spec_l2Free 0 [lv s0, iv .i64 (IntKind.i64.wrap (s3 - i208)), iv .i64 (IntKind.i64.wrap (s4 + 1))] (tidy h [lv s0, iv .i64 (IntKind.i64.wrap (s3 - i208)), iv .i64 (IntKind.i64.wrap (s4 + 1))] h))
  (some (.done [iv .i64 s3] (tidy h [iv .i64 s3] h))) := by
  unfold Lp.spec_l2Free; rw [loop_eq]; kernel_rfl

theorem eq_spec_l2Set (a0 : List (List S)) (a1 : Int) (a2 : List (List S)) (n : Nat) : call Ev Fn.spec_l2Set [lv a0, iv .i64 a1, lv a2] (D n) =
  pcallS (call Ev) Fn.spec_l2Size [lv a0, iv .i64 a1] fun v101 =>
  gV1 v101 fun x102 =>
  gI .i64 x102 fun i103 =>
  pcallF (call Ev) Fn.spec_l2Copy true [lv a0] (D n) fun v104 h105 =>
  vcase (bv (decide ((a2.length : Int) ≤ i103)))
  (pcallS (call Ev) Fn.spec_l2Place [lv a0, iv .i64 a1] fun v107 =>
  gV1 v107 fun x108 =>
  gI .i64 x108 fun i109 =>
  (call Ev Fn.spec_l2Stand [v104, iv .i64 a1, iv .i64 (IntKind.i64.wrap ((IntKind.i64.wrap (i109 + i103)) - (a2.length : Int))), lv a2] h105).bind fun p110 =>
  (V.toA v104).bind fun t111 =>
  some (.tup [t111, .s (.int .i64 0)], tidy h105 [p110.1] p110.2))
  (pcallS (call Ev) Fn.spec_l2Free [lv a0] fun v112 =>
  gV1 v112 fun x113 =>
  gI .i64 x113 fun i114 =>
  vcase (bv (decide ((IntKind.i64.wrap (i114 + i103)) < (a2.length : Int))))
  (some (.tup [.s (.sl none 0), .s (.int .i64 9)], h105))
  (pcallS (call Ev) Fn.spec_l2Low [lv a0] fun v116 =>
  gV1 v116 fun x117 =>
  gI .i64 x117 fun i118 =>
  pcallS (call Ev) Fn.spec_l2Count [lv a0] fun v119 =>
  gV1 v119 fun x120 =>
  gI .i64 x120 fun i121 =>
  vcase (bv (decide ((IntKind.i64.wrap (i118 - (a2.length : Int))) < (IntKind.i64.wrap (2 + (IntKind.i64.wrap (2 * i121)))))))
  (some (.tup [.s (.sl none 0), .s (.int .i64 8)], h105))
  (idxK 1 v104 (iv .i64 1) fun v123 =>
  stK 1 h105 v123 (iv .u8 (IntKind.u8.wrap (IntKind.i64.wrap (i118 - (a2.length : Int))))) fun h124 =>
  (call Ev Fn.spec_l2Stand [v104, iv .i64 a1, iv .i64 (IntKind.i64.wrap (i118 - (a2.length : Int))), lv a2] h124).bind fun p125 =>
  (V.toA v104).bind fun t126 =>
  some (.tup [t126, .s (.int .i64 0)], tidy h124 [p125.1] p125.2)))) := by
  rw [call_eq]; kernel_rfl

theorem pu_spec_SetSlot (a0 : List (List S)) (a1 : Int) (a2 : List (List S)) : pureV (call Ev) Fn.spec_SetSlot [lv a0, iv .i64 a1, lv a2] =
  pcallS (call Ev) Fn.spec_l2Fault [lv a0] fun v101 =>
  gV1 v101 fun x102 =>
  gI .i64 x102 fun i103 =>
  vcase (bv (i103 != 0))
  ((pureV (call Ev) Fn.spec_l2Bad [iv .i64 i103]).bind fun v105 =>
  gVA v105 fun c106 =>
  (c106[0]?).bind fun x107 =>
  gI .i64 x107 fun i108 =>
  (c106[1]?).bind fun x109 =>
  gI .i64 x109 fun i110 =>
  (c106[2]?).bind fun x111 =>
  gF x111 fun z112 =>
  if c106.length = 3 then
  some (.agg [.int .i64 i108, .int .i64 i110, .fs z112])
  else none)
  (pcallS (call Ev) Fn.spec_l2CellSize [lv a2] fun v113 =>
  gV1 v113 fun x114 =>
  gB x114 fun q115 =>
  vcase (bv (!q115))
  ((pureV (call Ev) Fn.spec_l2Bad [iv .i64 1]).bind fun v117 =>
  gVA v117 fun c118 =>
  (c118[0]?).bind fun x119 =>
  gI .i64 x119 fun i120 =>
  (c118[1]?).bind fun x121 =>
  gI .i64 x121 fun i122 =>
  (c118[2]?).bind fun x123 =>
  gF x123 fun z124 =>
  if c118.length = 3 then
  some (.agg [.int .i64 i120, .int .i64 i122, .fs z124])
  else none)
  (pcallS (call Ev) Fn.spec_l2Has [lv a0, iv .i64 a1] fun v125 =>
  gV1 v125 fun x126 =>
  gB x126 fun q127 =>
  vcase (bv (!q127))
  ((pureV (call Ev) Fn.spec_l2Bad [iv .i64 4]).bind fun v129 =>
  gVA v129 fun c130 =>
  (c130[0]?).bind fun x131 =>
  gI .i64 x131 fun i132 =>
  (c130[1]?).bind fun x133 =>
  gI .i64 x133 fun i134 =>
  (c130[2]?).bind fun x135 =>
  gF x135 fun z136 =>
  if c130.length = 3 then
  some (.agg [.int .i64 i132, .int .i64 i134, .fs z136])
  else none)
  ((pureV (call Ev) Fn.spec_l2Set [lv a0, iv .i64 a1, lv a2]).bind fun v137 =>
  gVT v137 fun u138 =>
  (u138[0]?).bind fun t139 =>
  gA1 t139 fun x140 =>
  gF x140 fun z141 =>
  (u138[1]?).bind fun t142 =>
  gA1 t142 fun x143 =>
  gI .i64 x143 fun i144 =>
  if u138.length = 2 then
  vcase (bv (i144 != 0))
  ((pureV (call Ev) Fn.spec_l2Bad [iv .i64 i144]).bind fun v146 =>
  gVA v146 fun c147 =>
  (c147[0]?).bind fun x148 =>
  gI .i64 x148 fun i149 =>
  (c147[1]?).bind fun x150 =>
  gI .i64 x150 fun i151 =>
  (c147[2]?).bind fun x152 =>
  gF x152 fun z153 =>
  if c147.length = 3 then
  some (.agg [.int .i64 i149, .int .i64 i151, .fs z153])
  else none)
  (some (.agg [.int .i64 0, .int .i64 a1, .fs z141]))
  else none))) := by
  rw [pure_eq]; kernel_rfl

theorem pu_impl_cellFault (a0 : List (List S)) (a1 : List (List S)) : pureV (call Ev) Fn.impl_cellFault [lv a0, lv a1] =
  pcallS (call Ev) Fn.impl_PageFault [lv a0] fun v101 =>
  gV1 v101 fun x102 =>
  gI .i64 x102 fun i103 =>
  vcase (bv (i103 != 0))
  (some (iv .i64 i103))
  (vcase (bv (decide ((a1.length : Int) < 1)))
  (some (iv .i64 1))
  (vcase (bv (decide ((a1.length : Int) > 20)))
  (some (iv .i64 1))
  (some (iv .i64 0)))) := by
  rw [pure_eq]; kernel_rfl

theorem eq_impl_write (a0 : List (List S)) (a1 : Int) (a2 : Int) (a3 : List (List S)) (n : Nat) : call Ev Fn.impl_write [lv a0, iv .i64 a1, iv .i64 a2, lv a3] (D n) =
  pcallF (call Ev) Fn.impl_copied true [lv a0] (D n) fun v101 h102 =>
  slK 1 h102 v101 (some (iv .i64 a2)) none fun v103 =>
  (copS 1 h102 v103 (lv a3)).bind fun p104 =>
  gV1 p104.1 fun x105 =>
  gI .i64 x105 fun i106 =>
  idxK 1 v101 (iv .i64 (IntKind.i64.wrap (2 + (IntKind.i64.wrap (2 * a1))))) fun v107 =>
  stK 1 p104.2 v107 (iv .u8 (IntKind.u8.wrap a2)) fun h108 =>
  idxK 1 v101 (iv .i64 (IntKind.i64.wrap (3 + (IntKind.i64.wrap (2 * a1))))) fun v109 =>
  stK 1 h108 v109 (iv .u8 (IntKind.u8.wrap (a3.length : Int))) fun h110 =>
  some (v101, h110) := by
  rw [call_eq]; kernel_rfl

theorem pu_impl_freeIn (a0 : List (List S)) : pureV (call Ev) Fn.impl_freeIn [lv a0] =
  pcallS (call Ev) Fn.impl_slots [lv a0] fun v101 =>
  gV1 v101 fun x102 =>
  gI .i64 x102 fun i103 =>
  pcallS (call Ev) Fn.impl_slots [lv a0] fun v104 =>
  gV1 v104 fun x105 =>
  gI .i64 x105 fun i106 =>
  (Lp.impl_freeIn 0 [lv a0, iv .i64 (IntKind.i64.wrap (62 - (IntKind.i64.wrap (2 * i103)))), iv .i64 i106, iv .i64 0] (D 0)).bind fun o107 => lcase o107 (fun l108 h109 =>
  (l108[0]?).bind fun w112 =>
  gV1 w112 fun x113 =>
  gI .i64 x113 fun i114 =>
  some (iv .i64 i114)) (fun v110 h111 =>
  frzV h111 v110) := by
  rw [pure_eq]; kernel_rfl

theorem eq_impl_freeIn_l0 (s0 : List (List S)) (s3 : Int) (s12 : Int) (s13 : Int) (h : H) : Lp.impl_freeIn 0 [lv s0, iv .i64 s3, iv .i64 s12, iv .i64 s13] h =
  vcase (bv (decide (s13 < s12)))
  (pcallS (call Ev) Fn.impl_spot [lv s0, iv .i64 s13] fun v203 =>
  gVT v203 fun u204 =>
  (u204[0]?).bind fun t205 =>
  gA1 t205 fun x206 =>
  gI .i64 x206 fun i207 =>
  (u204[1]?).bind fun t208 =>
  gA1 t208 fun x209 =>
  gI .i64 x209 fun i210 =>
  if u204.length = 2 then
  Lp.impl_freeIn 0 [lv s0, iv .i64 (IntKind.i64.wrap (s3 - i210)), iv .i64 s12, iv .i64 (IntKind.i64.wrap (s13 + 1))] (tidy h [lv s0, iv .i64 (IntKind.i64.wrap (s3 - i210)), iv .i64 s12, iv .i64 (IntKind.i64.wrap (s13 + 1))] h)
  else none)
  (some (.done [iv .i64 s3] (tidy h [iv .i64 s3] h))) := by
  unfold Lp.impl_freeIn; rw [loop_eq]; kernel_rfl

theorem eq_impl_SetSlot (a0 : List (List S)) (a1 : Int) (a2 : List (List S)) (n : Nat) : call Ev Fn.impl_SetSlot [lv a0, iv .i64 a1, lv a2] (D n) =
  pcallS (call Ev) Fn.impl_cellFault [lv a0, lv a2] fun v101 =>
  gV1 v101 fun x102 =>
  gI .i64 x102 fun i103 =>
  vcase (bv (i103 != 0))
  (stK 3 ((D n).new 0 [.int .i64 0, .int .i64 0, .sl none 0]) (pv ((D n).n) 0) (.agg [.int .i64 i103, .int .i64 0, .sl none 0]) fun h105 =>
  (loadN 3 h105 (pv ((D n).n) 0)).bind fun c106 =>
  some (.agg c106, h105))
  (pcallS (call Ev) Fn.impl_hasSlot [lv a0, iv .i64 a1] fun v107 =>
  gV1 v107 fun x108 =>
  gB x108 fun q109 =>
  vcase (bv (!q109))
  (stK 3 ((D n).new 0 [.int .i64 0, .int .i64 0, .sl none 0]) (pv ((D n).n) 0) (.agg [.int .i64 4, .int .i64 0, .sl none 0]) fun h111 =>
  (loadN 3 h111 (pv ((D n).n) 0)).bind fun c112 =>
  some (.agg c112, h111))
  (pcallS (call Ev) Fn.impl_spot [lv a0, iv .i64 a1] fun v113 =>
  gVT v113 fun u114 =>
  (u114[0]?).bind fun t115 =>
  gA1 t115 fun x116 =>
  gI .i64 x116 fun i117 =>
  (u114[1]?).bind fun t118 =>
  gA1 t118 fun x119 =>
  gI .i64 x119 fun i120 =>
  if u114.length = 2 then
  vcase (bv (decide ((a2.length : Int) ≤ i120)))
  (pcallF (call Ev) Fn.impl_write true [lv a0, iv .i64 a1, iv .i64 (IntKind.i64.wrap ((IntKind.i64.wrap (i117 + i120)) - (a2.length : Int))), lv a2] ((D n).new 0 [.int .i64 0, .int .i64 0, .sl none 0]) fun v122 h123 =>
  cellsK v122 fun c124 =>
  if c124.length = 1 ∧ 2 + 1 ≤ ([.int .i64 0, .int .i64 0, .sl none 0] : List S).length then
  if ([.int .i64 a1] : List S).length = 1 ∧ 1 + 1 ≤ (setAt ([.int .i64 0, .int .i64 0, .sl none 0] : List S) 2 c124).length then
  ((setAt (setAt ([.int .i64 0, .int .i64 0, .sl none 0] : List S) 2 c124) 1 ([.int .i64 a1] : List S))[0]?).bind fun x125 =>
  gI .i64 x125 fun i126 =>
  ((setAt (setAt ([.int .i64 0, .int .i64 0, .sl none 0] : List S) 2 c124) 1 ([.int .i64 a1] : List S))[1]?).bind fun x127 =>
  gI .i64 x127 fun i128 =>
  ((setAt (setAt ([.int .i64 0, .int .i64 0, .sl none 0] : List S) 2 c124) 1 ([.int .i64 a1] : List S))[2]?).bind fun x129 =>
  if (setAt (setAt ([.int .i64 0, .int .i64 0, .sl none 0] : List S) 2 c124) 1 ([.int .i64 a1] : List S)).length = 3 then
  stK 3 h123 (pv ((D n).n) 0) (.agg [.int .i64 i126, .int .i64 i128, x129]) fun h130 =>
  (loadN 3 h130 (pv ((D n).n) 0)).bind fun c131 =>
  some (.agg c131, h130)
  else none
  else none
  else none)
  (pcallS (call Ev) Fn.impl_freeIn [lv a0] fun v132 =>
  gV1 v132 fun x133 =>
  gI .i64 x133 fun i134 =>
  vcase (bv (decide ((IntKind.i64.wrap (i134 + i120)) < (a2.length : Int))))
  (stK 3 ((D n).new 0 [.int .i64 0, .int .i64 0, .sl none 0]) (pv ((D n).n) 0) (.agg [.int .i64 9, .int .i64 0, .sl none 0]) fun h136 =>
  (loadN 3 h136 (pv ((D n).n) 0)).bind fun c137 =>
  some (.agg c137, h136))
  (idxF 1 a0 1 fun r138 =>
  (r138[0]?).bind fun x139 =>
  gI .u8 x139 fun i140 =>
  pcallS (call Ev) Fn.impl_slots [lv a0] fun v141 =>
  gV1 v141 fun x142 =>
  gI .i64 x142 fun i143 =>
  vcase (bv (decide ((IntKind.i64.wrap ((IntKind.i64.wrap i140) - (IntKind.i64.wrap (2 + (IntKind.i64.wrap (2 * i143)))))) < (a2.length : Int))))
  (stK 3 ((D n).new 0 [.int .i64 0, .int .i64 0, .sl none 0]) (pv ((D n).n) 0) (.agg [.int .i64 8, .int .i64 0, .sl none 0]) fun h145 =>
  (loadN 3 h145 (pv ((D n).n) 0)).bind fun c146 =>
  some (.agg c146, h145))
  (pcallF (call Ev) Fn.impl_write true [lv a0, iv .i64 a1, iv .i64 (IntKind.i64.wrap ((IntKind.i64.wrap i140) - (a2.length : Int))), lv a2] ((D n).new 0 [.int .i64 0, .int .i64 0, .sl none 0]) fun v147 h148 =>
  idxK 1 v147 (iv .i64 1) fun v149 =>
  stK 1 h148 v149 (iv .u8 (IntKind.u8.wrap (IntKind.i64.wrap ((IntKind.i64.wrap i140) - (a2.length : Int))))) fun h150 =>
  cellsK v147 fun c151 =>
  if c151.length = 1 ∧ 2 + 1 ≤ ([.int .i64 0, .int .i64 0, .sl none 0] : List S).length then
  if ([.int .i64 a1] : List S).length = 1 ∧ 1 + 1 ≤ (setAt ([.int .i64 0, .int .i64 0, .sl none 0] : List S) 2 c151).length then
  ((setAt (setAt ([.int .i64 0, .int .i64 0, .sl none 0] : List S) 2 c151) 1 ([.int .i64 a1] : List S))[0]?).bind fun x152 =>
  gI .i64 x152 fun i153 =>
  ((setAt (setAt ([.int .i64 0, .int .i64 0, .sl none 0] : List S) 2 c151) 1 ([.int .i64 a1] : List S))[1]?).bind fun x154 =>
  gI .i64 x154 fun i155 =>
  ((setAt (setAt ([.int .i64 0, .int .i64 0, .sl none 0] : List S) 2 c151) 1 ([.int .i64 a1] : List S))[2]?).bind fun x156 =>
  if (setAt (setAt ([.int .i64 0, .int .i64 0, .sl none 0] : List S) 2 c151) 1 ([.int .i64 a1] : List S)).length = 3 then
  stK 3 h150 (pv ((D n).n) 0) (.agg [.int .i64 i153, .int .i64 i155, x156]) fun h157 =>
  (loadN 3 h157 (pv ((D n).n) 0)).bind fun c158 =>
  some (.agg c158, h157)
  else none
  else none
  else none)))
  else none)) := by
  rw [call_eq]; kernel_rfl

end Vm
