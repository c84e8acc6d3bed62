/-
  What each function, and each round of each loop, comes to in the small machine. Written by a program (gen3.py).
-/
import Derived.Test.YtnidgolbfmbocaaEnv
set_option linter.unusedVariables false
set_option maxRecDepth 100000
namespace Vm
open Go

noncomputable def Jn.laws_FnExactInverseRuns_0 (q235 : Bool) (h129 : H) (p159 : V × H) (p162 : V × H) (h124 : H) (a0 : List (List S)) (a1 : List (List S)) : Option (V) :=
  vcase (bv q235)
  (some (bv false))
  ((loadN 2 (tidy (tidy h129 [p159.1] p159.2) [p162.1] p162.2) (pv h124.n 0)).bind fun c237 =>
  (c237[0]?).bind fun x238 =>
  gI .i64 x238 fun i239 =>
  (c237[1]?).bind fun x240 =>
  if c237.length = 2 then
  (call Ev Fn.laws_markRunsResult [.agg [.int .i64 i239, x240], iv .i64 1] (tidy (tidy h129 [p159.1] p159.2) [p162.1] p162.2)).bind fun p241 =>
  gV1 p241.1 fun x242 =>
  gI .i64 x242 fun i243 =>
  (loadN 2 (tidy (tidy (tidy h129 [p159.1] p159.2) [p162.1] p162.2) [p241.1] p241.2) (pv h124.n 0)).bind fun c244 =>
  (c244[0]?).bind fun x245 =>
  gI .i64 x245 fun i246 =>
  (c244[1]?).bind fun x247 =>
  if c244.length = 2 then
  (frzVs (tidy (tidy (tidy h129 [p159.1] p159.2) [p162.1] p162.2) [p241.1] p241.2) [.agg [.int .i64 i246, x247], iv .i64 1]).bind fun l248 =>
  pcallS (call Ev) Fn.laws_heldRunsResult (normVs [] l248) fun v249 =>
  gV1 v249 fun x250 =>
  gI .i64 x250 fun i251 =>
  vcase (bv (decide (i251 < 0)))
  (some (bv false))
  (vcase (bv (i251 != i243))
  (some (bv false))
  ((pureV (call Ev) Fn.laws_toByteS [lv a0]).bind fun v254 =>
  gV1 v254 fun x255 =>
  gF x255 fun z256 =>
  (pureV (call Ev) Fn.laws_toRunS [lv a1]).bind fun v257 =>
  gV1 v257 fun x258 =>
  gF x258 fun z259 =>
  (pureV (call Ev) Fn.impl_InverseRuns [lv z256, lv z259]).bind fun v260 =>
  gVA v260 fun c261 =>
  (c261[0]?).bind fun x262 =>
  gI .i64 x262 fun i263 =>
  (c261[1]?).bind fun x264 =>
  gF x264 fun z265 =>
  if c261.length = 2 then
  stK 2 ((tidy (tidy (tidy h129 [p159.1] p159.2) [p162.1] p162.2) [p241.1] p241.2).new 0 [.int .i64 0, .sl none 0]) (pv ((tidy (tidy (tidy h129 [p159.1] p159.2) [p162.1] p162.2) [p241.1] p241.2).n) 0) (.agg [.int .i64 i263, .fs z265]) fun h266 =>
  (loadN 2 h266 (pv ((tidy (tidy (tidy h129 [p159.1] p159.2) [p162.1] p162.2) [p241.1] p241.2).n) 0)).bind fun c267 =>
  (c267[0]?).bind fun x268 =>
  gI .i64 x268 fun i269 =>
  (c267[1]?).bind fun x270 =>
  if c267.length = 2 then
  (loadN 2 h266 (pv 0 0)).bind fun c271 =>
  (c271[0]?).bind fun x272 =>
  gI .i64 x272 fun i273 =>
  (c271[1]?).bind fun x274 =>
  if c271.length = 2 then
  (frzVs h266 [.agg [.int .i64 i269, x270], .agg [.int .i64 i273, x274]]).bind fun l275 =>
  pcallS (call Ev) Fn.laws_eqRunsResult (normVs [] l275) fun v276 =>
  gV1 v276 fun x277 =>
  gB x277 fun q278 =>
  vcase (bv (!q278))
  (some (bv false))
  ((loadN 2 h266 (pv h124.n 0)).bind fun c280 =>
  (c280[0]?).bind fun x281 =>
  gI .i64 x281 fun i282 =>
  (c280[1]?).bind fun x283 =>
  if c280.length = 2 then
  (frzVs h266 [.agg [.int .i64 i282, x283], iv .i64 1]).bind fun l284 =>
  pcallS (call Ev) Fn.laws_heldRunsResult (normVs [] l284) fun v285 =>
  gV1 v285 fun x286 =>
  gI .i64 x286 fun i287 =>
  vcase (bv (decide (i287 < 0)))
  (some (bv false))
  (vcase (bv (i287 != i243))
  (some (bv false))
  (some (bv true)))
  else none)
  else none
  else none
  else none))
  else none
  else none)

theorem pu_laws_FnExactInverseRuns (a0 : List (List S)) (a1 : List (List S)) : pureV (call Ev) Fn.laws_FnExactInverseRuns [lv a0, lv a1] =
  vcase (bv (decide ((a0.length : Int) > 1048576)))
  (some (bv true))
  (pcallS (call Ev) Fn.laws_szRunS [lv a1, iv .i64 1048576] fun v102 =>
  gV1 v102 fun x103 =>
  gI .i64 x103 fun i104 =>
  vcase (bv (decide (i104 < 0)))
  (some (bv true))
  ((pureV (call Ev) Fn.laws_toByteS [lv a0]).bind fun v106 =>
  gV1 v106 fun x107 =>
  gF x107 fun z108 =>
  (pureV (call Ev) Fn.laws_toRunS [lv a1]).bind fun v109 =>
  gV1 v109 fun x110 =>
  gF x110 fun z111 =>
  (pureV (call Ev) Fn.spec_InverseRuns [lv z108, lv z111]).bind fun v112 =>
  gVA v112 fun c113 =>
  (c113[0]?).bind fun x114 =>
  gI .i64 x114 fun i115 =>
  (c113[1]?).bind fun x116 =>
  gF x116 fun z117 =>
  if c113.length = 2 then
  pcallF (call Ev) Fn.laws_toByteS true [lv a0] (((D 0).new 0 [.int .i64 0, .sl none 0]).put 0 (.rw 0 [.int .i64 i115, .fs z117])) fun v118 h119 =>
  pcallF (call Ev) Fn.laws_toRunS true [lv a1] h119 fun v120 h121 =>
  (frzVs h121 [v118, v120]).bind fun l122 =>
  pcallF (call Ev) Fn.impl_InverseRuns ([v118, v120].all offV) (normVs [] l122) h121 fun v123 h124 =>
  gVA v123 fun c125 =>
  (c125[0]?).bind fun x126 =>
  gI .i64 x126 fun i127 =>
  (c125[1]?).bind fun x128 =>
  if c125.length = 2 then
  stK 2 (h124.new 0 [.int .i64 0, .sl none 0]) (pv h124.n 0) (.agg [.int .i64 i127, x128]) fun h129 =>
  (loadN 2 h129 (pv h124.n 0)).bind fun c130 =>
  (c130[0]?).bind fun x131 =>
  gI .i64 x131 fun i132 =>
  (c130[1]?).bind fun x133 =>
  if c130.length = 2 then
  (loadN 2 h129 (pv 0 0)).bind fun c134 =>
  (c134[0]?).bind fun x135 =>
  gI .i64 x135 fun i136 =>
  (c134[1]?).bind fun x137 =>
  if c134.length = 2 then
  (frzVs h129 [.agg [.int .i64 i132, x133], .agg [.int .i64 i136, x137]]).bind fun l138 =>
  pcallS (call Ev) Fn.laws_eqRunsResult (normVs [] l138) fun v139 =>
  gV1 v139 fun x140 =>
  gB x140 fun q141 =>
  vcase (bv (!q141))
  (some (bv false))
  ((pureV (call Ev) Fn.laws_toByteS [lv a0]).bind fun v143 =>
  gV1 v143 fun x144 =>
  gF x144 fun z145 =>
  (frzVs h129 [v118, lv z145]).bind fun l146 =>
  pcallS (call Ev) Fn.laws_eqByteS (normVs [] l146) fun v147 =>
  gV1 v147 fun x148 =>
  gB x148 fun q149 =>
  vcase (bv (!q149))
  (some (bv false))
  ((pureV (call Ev) Fn.laws_toRunS [lv a1]).bind fun v151 =>
  gV1 v151 fun x152 =>
  gF x152 fun z153 =>
  (frzVs h129 [v120, lv z153]).bind fun l154 =>
  pcallS (call Ev) Fn.laws_eqRunS (normVs [] l154) fun v155 =>
  gV1 v155 fun x156 =>
  gB x156 fun q157 =>
  vcase (bv (!q157))
  (some (bv false))
  ((call Ev Fn.laws_markByteS [v118, iv .i64 1] h129).bind fun p159 =>
  gV1 p159.1 fun x160 =>
  gI .i64 x160 fun i161 =>
  (call Ev Fn.laws_markRunS [v120, iv .i64 i161] (tidy h129 [p159.1] p159.2)).bind fun p162 =>
  gV1 p162.1 fun x163 =>
  gI .i64 x163 fun i164 =>
  vcase (bv (decide (i164 < 0)))
  (Jn.laws_FnExactInverseRuns_0 true h129 p159 p162 h124 a0 a1)
  ((loadN 2 (tidy (tidy h129 [p159.1] p159.2) [p162.1] p162.2) (pv h124.n 0)).bind fun c167 =>
  (c167[0]?).bind fun x168 =>
  gI .i64 x168 fun i169 =>
  (c167[1]?).bind fun x170 =>
  if c167.length = 2 then
  (loadN 2 (tidy (tidy h129 [p159.1] p159.2) [p162.1] p162.2) (pv 0 0)).bind fun c171 =>
  (c171[0]?).bind fun x172 =>
  gI .i64 x172 fun i173 =>
  (c171[1]?).bind fun x174 =>
  if c171.length = 2 then
  (frzVs (tidy (tidy h129 [p159.1] p159.2) [p162.1] p162.2) [.agg [.int .i64 i169, x170], .agg [.int .i64 i173, x174]]).bind fun l175 =>
  pcallS (call Ev) Fn.laws_eqRunsResult (normVs [] l175) fun v176 =>
  gV1 v176 fun x177 =>
  gB x177 fun q178 =>
  Jn.laws_FnExactInverseRuns_0 (!q178) h129 p159 p162 h124 a0 a1
  else none
  else none))))
  else none
  else none
  else none
  else none)) := by
  rw [pure_eq]; kernel_rfl

end Vm
