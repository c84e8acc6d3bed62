/-
  What each function, and each round of each loop, comes to in the small machine. Written by a program (gen3.py).
-/
import Derived.Test.YtnidgolbfmbocaaEnv
set_option linter.unusedVariables false
set_option maxRecDepth 100000
namespace Vm
open Go

noncomputable def Jn.laws_FnExactSetSlot_0 (q256 : Bool) (h130 : H) (p164 : V × H) (p167 : V × H) (h123 : H) (a0 : List (List S)) (a2 : List (List S)) (a1 : Int) : Option (V) :=
  vcase (bv q256)
  (some (bv false))
  ((loadN 3 (tidy (tidy h130 [p164.1] p164.2) [p167.1] p167.2) (pv h123.n 0)).bind fun c258 =>
  (c258[0]?).bind fun x259 =>
  gI .i64 x259 fun i260 =>
  (c258[1]?).bind fun x261 =>
  gI .i64 x261 fun i262 =>
  (c258[2]?).bind fun x263 =>
  if c258.length = 3 then
  (call Ev Fn.laws_markPageResult [.agg [.int .i64 i260, .int .i64 i262, x263], iv .i64 1] (tidy (tidy h130 [p164.1] p164.2) [p167.1] p167.2)).bind fun p264 =>
  gV1 p264.1 fun x265 =>
  gI .i64 x265 fun i266 =>
  (loadN 3 (tidy (tidy (tidy h130 [p164.1] p164.2) [p167.1] p167.2) [p264.1] p264.2) (pv h123.n 0)).bind fun c267 =>
  (c267[0]?).bind fun x268 =>
  gI .i64 x268 fun i269 =>
  (c267[1]?).bind fun x270 =>
  gI .i64 x270 fun i271 =>
  (c267[2]?).bind fun x272 =>
  if c267.length = 3 then
  (frzVs (tidy (tidy (tidy h130 [p164.1] p164.2) [p167.1] p167.2) [p264.1] p264.2) [.agg [.int .i64 i269, .int .i64 i271, x272], iv .i64 1]).bind fun l273 =>
  pcallS (call Ev) Fn.laws_heldPageResult (normVs [] l273) fun v274 =>
  gV1 v274 fun x275 =>
  gI .i64 x275 fun i276 =>
  vcase (bv (decide (i276 < 0)))
  (some (bv false))
  (vcase (bv (i276 != i266))
  (some (bv false))
  ((pureV (call Ev) Fn.laws_toByteS [lv a0]).bind fun v279 =>
  gV1 v279 fun x280 =>
  gF x280 fun z281 =>
  (pureV (call Ev) Fn.laws_toByteS [lv a2]).bind fun v282 =>
  gV1 v282 fun x283 =>
  gF x283 fun z284 =>
  (pureV (call Ev) Fn.impl_SetSlot [lv z281, iv .i64 a1, lv z284]).bind fun v285 =>
  gVA v285 fun c286 =>
  (c286[0]?).bind fun x287 =>
  gI .i64 x287 fun i288 =>
  (c286[1]?).bind fun x289 =>
  gI .i64 x289 fun i290 =>
  (c286[2]?).bind fun x291 =>
  gF x291 fun z292 =>
  if c286.length = 3 then
  stK 3 ((tidy (tidy (tidy h130 [p164.1] p164.2) [p167.1] p167.2) [p264.1] p264.2).new 0 [.int .i64 0, .int .i64 0, .sl none 0]) (pv ((tidy (tidy (tidy h130 [p164.1] p164.2) [p167.1] p167.2) [p264.1] p264.2).n) 0) (.agg [.int .i64 i288, .int .i64 i290, .fs z292]) fun h293 =>
  (loadN 3 h293 (pv ((tidy (tidy (tidy h130 [p164.1] p164.2) [p167.1] p167.2) [p264.1] p264.2).n) 0)).bind fun c294 =>
  (c294[0]?).bind fun x295 =>
  gI .i64 x295 fun i296 =>
  (c294[1]?).bind fun x297 =>
  gI .i64 x297 fun i298 =>
  (c294[2]?).bind fun x299 =>
  if c294.length = 3 then
  (loadN 3 h293 (pv 0 0)).bind fun c300 =>
  (c300[0]?).bind fun x301 =>
  gI .i64 x301 fun i302 =>
  (c300[1]?).bind fun x303 =>
  gI .i64 x303 fun i304 =>
  (c300[2]?).bind fun x305 =>
  if c300.length = 3 then
  (frzVs h293 [.agg [.int .i64 i296, .int .i64 i298, x299], .agg [.int .i64 i302, .int .i64 i304, x305]]).bind fun l306 =>
  pcallS (call Ev) Fn.laws_eqPageResult (normVs [] l306) fun v307 =>
  gV1 v307 fun x308 =>
  gB x308 fun q309 =>
  vcase (bv (!q309))
  (some (bv false))
  ((loadN 3 h293 (pv h123.n 0)).bind fun c311 =>
  (c311[0]?).bind fun x312 =>
  gI .i64 x312 fun i313 =>
  (c311[1]?).bind fun x314 =>
  gI .i64 x314 fun i315 =>
  (c311[2]?).bind fun x316 =>
  if c311.length = 3 then
  (frzVs h293 [.agg [.int .i64 i313, .int .i64 i315, x316], iv .i64 1]).bind fun l317 =>
  pcallS (call Ev) Fn.laws_heldPageResult (normVs [] l317) fun v318 =>
  gV1 v318 fun x319 =>
  gI .i64 x319 fun i320 =>
  vcase (bv (decide (i320 < 0)))
  (some (bv false))
  (vcase (bv (i320 != i266))
  (some (bv false))
  (some (bv true)))
  else none)
  else none
  else none
  else none))
  else none
  else none)

theorem pu_laws_FnExactSetSlot (a0 : List (List S)) (a1 : Int) (a2 : List (List S)) : pureV (call Ev) Fn.laws_FnExactSetSlot [lv a0, iv .i64 a1, lv a2] =
  vcase (bv (decide ((a0.length : Int) > 1048576)))
  (some (bv true))
  (vcase (bv (decide ((a2.length : Int) > 1048576)))
  (some (bv true))
  ((pureV (call Ev) Fn.laws_toByteS [lv a0]).bind fun v103 =>
  gV1 v103 fun x104 =>
  gF x104 fun z105 =>
  (pureV (call Ev) Fn.laws_toByteS [lv a2]).bind fun v106 =>
  gV1 v106 fun x107 =>
  gF x107 fun z108 =>
  (pureV (call Ev) Fn.spec_SetSlot [lv z105, iv .i64 a1, lv z108]).bind fun v109 =>
  gVA v109 fun c110 =>
  (c110[0]?).bind fun x111 =>
  gI .i64 x111 fun i112 =>
  (c110[1]?).bind fun x113 =>
  gI .i64 x113 fun i114 =>
  (c110[2]?).bind fun x115 =>
  gF x115 fun z116 =>
  if c110.length = 3 then
  pcallF (call Ev) Fn.laws_toByteS true [lv a0] (((D 0).new 0 [.int .i64 0, .int .i64 0, .sl none 0]).put 0 (.rw 0 [.int .i64 i112, .int .i64 i114, .fs z116])) fun v117 h118 =>
  pcallF (call Ev) Fn.laws_toByteS true [lv a2] h118 fun v119 h120 =>
  (frzVs h120 [v117, iv .i64 a1, v119]).bind fun l121 =>
  pcallF (call Ev) Fn.impl_SetSlot ([v117, iv .i64 a1, v119].all offV) (normVs [] l121) h120 fun v122 h123 =>
  gVA v122 fun c124 =>
  (c124[0]?).bind fun x125 =>
  gI .i64 x125 fun i126 =>
  (c124[1]?).bind fun x127 =>
  gI .i64 x127 fun i128 =>
  (c124[2]?).bind fun x129 =>
  if c124.length = 3 then
  stK 3 (h123.new 0 [.int .i64 0, .int .i64 0, .sl none 0]) (pv h123.n 0) (.agg [.int .i64 i126, .int .i64 i128, x129]) fun h130 =>
  (loadN 3 h130 (pv h123.n 0)).bind fun c131 =>
  (c131[0]?).bind fun x132 =>
  gI .i64 x132 fun i133 =>
  (c131[1]?).bind fun x134 =>
  gI .i64 x134 fun i135 =>
  (c131[2]?).bind fun x136 =>
  if c131.length = 3 then
  (loadN 3 h130 (pv 0 0)).bind fun c137 =>
  (c137[0]?).bind fun x138 =>
  gI .i64 x138 fun i139 =>
  (c137[1]?).bind fun x140 =>
  gI .i64 x140 fun i141 =>
  (c137[2]?).bind fun x142 =>
  if c137.length = 3 then
  (frzVs h130 [.agg [.int .i64 i133, .int .i64 i135, x136], .agg [.int .i64 i139, .int .i64 i141, x142]]).bind fun l143 =>
  pcallS (call Ev) Fn.laws_eqPageResult (normVs [] l143) fun v144 =>
  gV1 v144 fun x145 =>
  gB x145 fun q146 =>
  vcase (bv (!q146))
  (some (bv false))
  ((pureV (call Ev) Fn.laws_toByteS [lv a0]).bind fun v148 =>
  gV1 v148 fun x149 =>
  gF x149 fun z150 =>
  (frzVs h130 [v117, lv z150]).bind fun l151 =>
  pcallS (call Ev) Fn.laws_eqByteS (normVs [] l151) fun v152 =>
  gV1 v152 fun x153 =>
  gB x153 fun q154 =>
  vcase (bv (!q154))
  (some (bv false))
  ((pureV (call Ev) Fn.laws_toByteS [lv a2]).bind fun v156 =>
  gV1 v156 fun x157 =>
  gF x157 fun z158 =>
  (frzVs h130 [v119, lv z158]).bind fun l159 =>
  pcallS (call Ev) Fn.laws_eqByteS (normVs [] l159) fun v160 =>
  gV1 v160 fun x161 =>
  gB x161 fun q162 =>
  vcase (bv (!q162))
  (some (bv false))
  ((call Ev Fn.laws_markByteS [v117, iv .i64 1] h130).bind fun p164 =>
  gV1 p164.1 fun x165 =>
  gI .i64 x165 fun i166 =>
  (call Ev Fn.laws_markByteS [v119, iv .i64 i166] (tidy h130 [p164.1] p164.2)).bind fun p167 =>
  gV1 p167.1 fun x168 =>
  gI .i64 x168 fun i169 =>
  vcase (bv (decide (i169 < 0)))
  (Jn.laws_FnExactSetSlot_0 true h130 p164 p167 h123 a0 a2 a1)
  ((loadN 3 (tidy (tidy h130 [p164.1] p164.2) [p167.1] p167.2) (pv h123.n 0)).bind fun c172 =>
  (c172[0]?).bind fun x173 =>
  gI .i64 x173 fun i174 =>
  (c172[1]?).bind fun x175 =>
  gI .i64 x175 fun i176 =>
  (c172[2]?).bind fun x177 =>
  if c172.length = 3 then
  (loadN 3 (tidy (tidy h130 [p164.1] p164.2) [p167.1] p167.2) (pv 0 0)).bind fun c178 =>
  (c178[0]?).bind fun x179 =>
  gI .i64 x179 fun i180 =>
  (c178[1]?).bind fun x181 =>
  gI .i64 x181 fun i182 =>
  (c178[2]?).bind fun x183 =>
  if c178.length = 3 then
  (frzVs (tidy (tidy h130 [p164.1] p164.2) [p167.1] p167.2) [.agg [.int .i64 i174, .int .i64 i176, x177], .agg [.int .i64 i180, .int .i64 i182, x183]]).bind fun l184 =>
  pcallS (call Ev) Fn.laws_eqPageResult (normVs [] l184) fun v185 =>
  gV1 v185 fun x186 =>
  gB x186 fun q187 =>
  Jn.laws_FnExactSetSlot_0 (!q187) h130 p164 p167 h123 a0 a2 a1
  else none
  else none))))
  else none
  else none
  else none
  else none)) := by
  rw [pure_eq]; kernel_rfl

theorem pu_spec_l2Empty (a0 : List (List S)) : pureV (call Ev) Fn.spec_l2Empty [lv a0] =
  (Lp.spec_l2Empty 0 [lv a0, iv .i64 0] (D 0)).bind fun o101 => lcase o101 (fun l102 h103 =>
  (l102[0]?).bind fun w106 =>
  gV1 w106 fun x107 =>
  gF x107 fun z108 =>
  pcallS (call Ev) Fn.spec_l2Count [lv z108] fun v109 =>
  gV1 v109 fun x110 =>
  gI .i64 x110 fun i111 =>
  some (iv .i64 i111)) (fun v104 h105 =>
  frzV h105 v104) := by
  rw [pure_eq]; kernel_rfl

theorem eq_spec_l2Empty_l0 (s0 : List (List S)) (s3 : Int) (h : H) : Lp.spec_l2Empty 0 [lv s0, iv .i64 s3] h =
  pcallS (call Ev) Fn.spec_l2Count [lv s0] fun v201 =>
  gV1 v201 fun x202 =>
  gI .i64 x202 fun i203 =>
  vcase (bv (decide (s3 < i203)))
  (pcallS (call Ev) Fn.spec_l2Size [lv s0, iv .i64 s3] fun v206 =>
  gV1 v206 fun x207 =>
  gI .i64 x207 fun i208 =>
  vcase (bv (i208 == 0))
  (some (.ret (iv .i64 s3) h))
  (Lp.spec_l2Empty 0 [lv s0, iv .i64 (IntKind.i64.wrap (s3 + 1))] (tidy h [lv s0, iv .i64 (IntKind.i64.wrap (s3 + 1))] h)))
  (some (.done [lv s0] (tidy h [lv s0] h))) := by
  unfold Lp.spec_l2Empty; rw [loop_eq]; kernel_rfl

noncomputable def Jn.spec_l2Put_0 (i125 : Int) (i126 : Int) (a0 : List (List S)) (a1 : List (List S)) (n : Nat) (i103 : Int) : Option (V × H) :=
  pcallS (call Ev) Fn.spec_l2Free [lv a0] fun v127 =>
  gV1 v127 fun x128 =>
  gI .i64 x128 fun i129 =>
  vcase (bv (decide (i129 < (IntKind.i64.wrap ((a1.length : Int) + i126)))))
  (some (.tup [.s (.sl none 0), .s (.int .i64 0), .s (.int .i64 9)], (D n)))
  (pcallS (call Ev) Fn.spec_l2Low [lv a0] fun v131 =>
  gV1 v131 fun x132 =>
  gI .i64 x132 fun i133 =>
  vcase (bv (decide ((IntKind.i64.wrap (i133 - (a1.length : Int))) < (IntKind.i64.wrap (2 + (IntKind.i64.wrap (2 * i125)))))))
  (some (.tup [.s (.sl none 0), .s (.int .i64 0), .s (.int .i64 8)], (D n)))
  (pcallF (call Ev) Fn.spec_l2Copy true [lv a0] (D n) fun v135 h136 =>
  idxK 1 v135 (iv .i64 0) fun v137 =>
  stK 1 h136 v137 (iv .u8 (IntKind.u8.wrap i125)) fun h138 =>
  idxK 1 v135 (iv .i64 1) fun v139 =>
  stK 1 h138 v139 (iv .u8 (IntKind.u8.wrap (IntKind.i64.wrap (i133 - (a1.length : Int))))) fun h140 =>
  (call Ev Fn.spec_l2Stand [v135, iv .i64 i103, iv .i64 (IntKind.i64.wrap (i133 - (a1.length : Int))), lv a1] h140).bind fun p141 =>
  (V.toA v135).bind fun t142 =>
  some (.tup [t142, .s (.int .i64 i103), .s (.int .i64 0)], tidy h140 [p141.1] p141.2)))

theorem eq_spec_l2Put (a0 : List (List S)) (a1 : List (List S)) (n : Nat) : call Ev Fn.spec_l2Put [lv a0, lv a1] (D n) =
  pcallS (call Ev) Fn.spec_l2Empty [lv a0] fun v101 =>
  gV1 v101 fun x102 =>
  gI .i64 x102 fun i103 =>
  pcallS (call Ev) Fn.spec_l2Count [lv a0] fun v104 =>
  gV1 v104 fun x105 =>
  gI .i64 x105 fun i106 =>
  vcase (bv (i103 == i106))
  (vcase (bv (decide (i106 ≥ 16)))
  (some (.tup [.s (.sl none 0), .s (.int .i64 0), .s (.int .i64 2)], (D n)))
  (Jn.spec_l2Put_0 (IntKind.i64.wrap (i106 + 1)) 2 a0 a1 n i103))
  (Jn.spec_l2Put_0 i106 0 a0 a1 n i103) := by
  rw [call_eq]; kernel_rfl

theorem pu_spec_PutSlot (a0 : List (List S)) (a1 : List (List S)) : pureV (call Ev) Fn.spec_PutSlot [lv a0, lv a1] =
  pcallS (call Ev) Fn.spec_l2Fault [lv a0] fun v101 =>
  gV1 v101 fun x102 =>
  gI .i64 x102 fun i103 =>
  vcase (bv (i103 != 0))
  ((pureV (call Ev) Fn.spec_l2Bad [iv .i64 i103]).bind fun v105 =>
  gVA v105 fun c106 =>
  (c106[0]?).bind fun x107 =>
  gI .i64 x107 fun i108 =>
  (c106[1]?).bind fun x109 =>
  gI .i64 x109 fun i110 =>
  (c106[2]?).bind fun x111 =>
  gF x111 fun z112 =>
  if c106.length = 3 then
  some (.agg [.int .i64 i108, .int .i64 i110, .fs z112])
  else none)
  (pcallS (call Ev) Fn.spec_l2CellSize [lv a1] fun v113 =>
  gV1 v113 fun x114 =>
  gB x114 fun q115 =>
  vcase (bv (!q115))
  ((pureV (call Ev) Fn.spec_l2Bad [iv .i64 1]).bind fun v117 =>
  gVA v117 fun c118 =>
  (c118[0]?).bind fun x119 =>
  gI .i64 x119 fun i120 =>
  (c118[1]?).bind fun x121 =>
  gI .i64 x121 fun i122 =>
  (c118[2]?).bind fun x123 =>
  gF x123 fun z124 =>
  if c118.length = 3 then
  some (.agg [.int .i64 i120, .int .i64 i122, .fs z124])
  else none)
  ((pureV (call Ev) Fn.spec_l2Put [lv a0, lv a1]).bind fun v125 =>
  gVT v125 fun u126 =>
  (u126[0]?).bind fun t127 =>
  gA1 t127 fun x128 =>
  gF x128 fun z129 =>
  (u126[1]?).bind fun t130 =>
  gA1 t130 fun x131 =>
  gI .i64 x131 fun i132 =>
  (u126[2]?).bind fun t133 =>
  gA1 t133 fun x134 =>
  gI .i64 x134 fun i135 =>
  if u126.length = 3 then
  some (.agg [.int .i64 i135, .int .i64 i132, .fs z129])
  else none)) := by
  rw [pure_eq]; kernel_rfl

noncomputable def Jn.impl_PutSlot_0 (i161 : Int) (z117 : List (List S)) (z120 : List (List S)) (h112 : H) (w121 : V) (i124 : Int) (i127 : Int) : Option (V × H) :=
  pcallS (call Ev) Fn.impl_freeIn [lv z117] fun v162 =>
  gV1 v162 fun x163 =>
  gI .i64 x163 fun i164 =>
  vcase (bv (decide (i164 < (IntKind.i64.wrap ((z120.length : Int) + i161)))))
  (stK 3 h112 w121 (.agg [.int .i64 9, .int .i64 0, .sl none 0]) fun h166 =>
  ldT ⟨3, 40, [.int .i64 0, .int .i64 0, .sl none 0], true, .st [(0, 2), (1, 2), (2, 22)], false⟩ h166 w121 fun v167 =>
  some (v167, h166))
  (idxF 1 z117 1 fun r168 =>
  (r168[0]?).bind fun x169 =>
  gI .u8 x169 fun i170 =>
  vcase (bv (decide ((IntKind.i64.wrap ((IntKind.i64.wrap i170) - (IntKind.i64.wrap ((IntKind.i64.wrap (2 + (IntKind.i64.wrap (2 * i124)))) + i161)))) < (z120.length : Int))))
  (stK 3 h112 w121 (.agg [.int .i64 8, .int .i64 0, .sl none 0]) fun h172 =>
  ldT ⟨3, 40, [.int .i64 0, .int .i64 0, .sl none 0], true, .st [(0, 2), (1, 2), (2, 22)], false⟩ h172 w121 fun v173 =>
  some (v173, h172))
  (pcallF (call Ev) Fn.impl_write true [lv z117, iv .i64 i127, iv .i64 (IntKind.i64.wrap ((IntKind.i64.wrap i170) - (z120.length : Int))), lv z120] h112 fun v174 h175 =>
  (bin Ev .quo 3 (iv .i64 i161) (iv .i64 2)).bind fun b176 =>
  gV1 b176 fun x177 =>
  gI .i64 x177 fun i178 =>
  idxK 1 v174 (iv .i64 0) fun v179 =>
  stK 1 h175 v179 (iv .u8 (IntKind.u8.wrap (IntKind.i64.wrap (i124 + i178)))) fun h180 =>
  idxK 1 v174 (iv .i64 1) fun v181 =>
  stK 1 h180 v181 (iv .u8 (IntKind.u8.wrap (IntKind.i64.wrap ((IntKind.i64.wrap i170) - (z120.length : Int))))) fun h182 =>
  cellsK v174 fun c183 =>
  if c183.length = 1 ∧ 2 + 1 ≤ ([.int .i64 0, .int .i64 i127, .sl none 0] : List S).length then
  ((setAt ([.int .i64 0, .int .i64 i127, .sl none 0] : List S) 2 c183)[0]?).bind fun x184 =>
  gI .i64 x184 fun i185 =>
  ((setAt ([.int .i64 0, .int .i64 i127, .sl none 0] : List S) 2 c183)[1]?).bind fun x186 =>
  gI .i64 x186 fun i187 =>
  ((setAt ([.int .i64 0, .int .i64 i127, .sl none 0] : List S) 2 c183)[2]?).bind fun x188 =>
  if (setAt ([.int .i64 0, .int .i64 i127, .sl none 0] : List S) 2 c183).length = 3 then
  stK 3 h182 w121 (.agg [.int .i64 i185, .int .i64 i187, x188]) fun h189 =>
  ldT ⟨3, 40, [.int .i64 0, .int .i64 0, .sl none 0], true, .st [(0, 2), (1, 2), (2, 22)], false⟩ h189 w121 fun v190 =>
  some (v190, h189)
  else none
  else none))

theorem eq_impl_PutSlot (a0 : List (List S)) (a1 : List (List S)) (n : Nat) : call Ev Fn.impl_PutSlot [lv a0, lv a1] (D n) =
  pcallS (call Ev) Fn.impl_cellFault [lv a0, lv a1] fun v101 =>
  gV1 v101 fun x102 =>
  gI .i64 x102 fun i103 =>
  vcase (bv (i103 != 0))
  (stK 3 ((D n).new 0 [.int .i64 0, .int .i64 0, .sl none 0]) (pv ((D n).n) 0) (.agg [.int .i64 i103, .int .i64 0, .sl none 0]) fun h105 =>
  (loadN 3 h105 (pv ((D n).n) 0)).bind fun c106 =>
  some (.agg c106, h105))
  (pcallS (call Ev) Fn.impl_slots [lv a0] fun v107 =>
  gV1 v107 fun x108 =>
  gI .i64 x108 fun i109 =>
  (Lp.impl_PutSlot 0 [lv a0, lv a1, pv ((D n).n) 0, iv .i64 i109, iv .i64 0] ((D n).new 0 [.int .i64 0, .int .i64 0, .sl none 0])).bind fun o110 => lcase o110 (fun l111 h112 =>
  (l111[0]?).bind fun w115 =>
  gV1 w115 fun x116 =>
  gF x116 fun z117 =>
  (l111[1]?).bind fun w118 =>
  gV1 w118 fun x119 =>
  gF x119 fun z120 =>
  (l111[2]?).bind fun w121 =>
  (l111[3]?).bind fun w122 =>
  gV1 w122 fun x123 =>
  gI .i64 x123 fun i124 =>
  (l111[4]?).bind fun w125 =>
  gV1 w125 fun x126 =>
  gI .i64 x126 fun i127 =>
  vcase (bv (i127 == i124))
  (vcase (bv (i124 == 16))
  (stK 3 h112 w121 (.agg [.int .i64 2, .int .i64 0, .sl none 0]) fun h130 =>
  ldT ⟨3, 40, [.int .i64 0, .int .i64 0, .sl none 0], true, .st [(0, 2), (1, 2), (2, 22)], false⟩ h130 w121 fun v131 =>
  some (v131, h130))
  (Jn.impl_PutSlot_0 2 z117 z120 h112 w121 i124 i127))
  (Jn.impl_PutSlot_0 0 z117 z120 h112 w121 i124 i127)) (fun v113 h114 =>
  some (v113, h114))) := by
  rw [call_eq]; kernel_rfl

theorem eq_impl_PutSlot_l0 (s0 : List (List S)) (s1 : List (List S)) (s4 : V) (s6 : Int) (s7 : Int) (h : H) : Lp.impl_PutSlot 0 [lv s0, lv s1, s4, iv .i64 s6, iv .i64 s7] h =
  vcase (bv (decide (s7 < s6)))
  (idxF 1 s0 (IntKind.i64.wrap (3 + (IntKind.i64.wrap (2 * s7)))) fun r202 =>
  (r202[0]?).bind fun x203 =>
  gI .u8 x203 fun i204 =>
  vcase (bv (i204 != 0))
  (Lp.impl_PutSlot 0 [lv s0, lv s1, s4, iv .i64 s6, iv .i64 (IntKind.i64.wrap (s7 + 1))] (tidy h [lv s0, lv s1, s4, iv .i64 s6, iv .i64 (IntKind.i64.wrap (s7 + 1))] h))
  (some (.done [lv s0, lv s1, s4, iv .i64 s6, iv .i64 s7] (tidy h [lv s0, lv s1, s4, iv .i64 s6, iv .i64 s7] h))))
  (some (.done [lv s0, lv s1, s4, iv .i64 s6, iv .i64 s7] (tidy h [lv s0, lv s1, s4, iv .i64 s6, iv .i64 s7] h))) := by
  unfold Lp.impl_PutSlot; rw [loop_eq]; kernel_rfl

noncomputable def Jn.laws_FnExactPutSlot_0 (q256 : Bool) (h130 : H) (p164 : V × H) (p167 : V × H) (h123 : H) (a0 : List (List S)) (a1 : List (List S)) : Option (V) :=
  vcase (bv q256)
  (some (bv false))
  ((loadN 3 (tidy (tidy h130 [p164.1] p164.2) [p167.1] p167.2) (pv h123.n 0)).bind fun c258 =>
  (c258[0]?).bind fun x259 =>
  gI .i64 x259 fun i260 =>
  (c258[1]?).bind fun x261 =>
  gI .i64 x261 fun i262 =>
  (c258[2]?).bind fun x263 =>
  if c258.length = 3 then
  (call Ev Fn.laws_markPageResult [.agg [.int .i64 i260, .int .i64 i262, x263], iv .i64 1] (tidy (tidy h130 [p164.1] p164.2) [p167.1] p167.2)).bind fun p264 =>
  gV1 p264.1 fun x265 =>
  gI .i64 x265 fun i266 =>
  (loadN 3 (tidy (tidy (tidy h130 [p164.1] p164.2) [p167.1] p167.2) [p264.1] p264.2) (pv h123.n 0)).bind fun c267 =>
  (c267[0]?).bind fun x268 =>
  gI .i64 x268 fun i269 =>
  (c267[1]?).bind fun x270 =>
  gI .i64 x270 fun i271 =>
  (c267[2]?).bind fun x272 =>
  if c267.length = 3 then
  (frzVs (tidy (tidy (tidy h130 [p164.1] p164.2) [p167.1] p167.2) [p264.1] p264.2) [.agg [.int .i64 i269, .int .i64 i271, x272], iv .i64 1]).bind fun l273 =>
  pcallS (call Ev) Fn.laws_heldPageResult (normVs [] l273) fun v274 =>
  gV1 v274 fun x275 =>
  gI .i64 x275 fun i276 =>
  vcase (bv (decide (i276 < 0)))
  (some (bv false))
  (vcase (bv (i276 != i266))
  (some (bv false))
  ((pureV (call Ev) Fn.laws_toByteS [lv a0]).bind fun v279 =>
  gV1 v279 fun x280 =>
  gF x280 fun z281 =>
  (pureV (call Ev) Fn.laws_toByteS [lv a1]).bind fun v282 =>
  gV1 v282 fun x283 =>
  gF x283 fun z284 =>
  (pureV (call Ev) Fn.impl_PutSlot [lv z281, lv z284]).bind fun v285 =>
  gVA v285 fun c286 =>
  (c286[0]?).bind fun x287 =>
  gI .i64 x287 fun i288 =>
  (c286[1]?).bind fun x289 =>
  gI .i64 x289 fun i290 =>
  (c286[2]?).bind fun x291 =>
  gF x291 fun z292 =>
  if c286.length = 3 then
  stK 3 ((tidy (tidy (tidy h130 [p164.1] p164.2) [p167.1] p167.2) [p264.1] p264.2).new 0 [.int .i64 0, .int .i64 0, .sl none 0]) (pv ((tidy (tidy (tidy h130 [p164.1] p164.2) [p167.1] p167.2) [p264.1] p264.2).n) 0) (.agg [.int .i64 i288, .int .i64 i290, .fs z292]) fun h293 =>
  (loadN 3 h293 (pv ((tidy (tidy (tidy h130 [p164.1] p164.2) [p167.1] p167.2) [p264.1] p264.2).n) 0)).bind fun c294 =>
  (c294[0]?).bind fun x295 =>
  gI .i64 x295 fun i296 =>
  (c294[1]?).bind fun x297 =>
  gI .i64 x297 fun i298 =>
  (c294[2]?).bind fun x299 =>
  if c294.length = 3 then
  (loadN 3 h293 (pv 0 0)).bind fun c300 =>
  (c300[0]?).bind fun x301 =>
  gI .i64 x301 fun i302 =>
  (c300[1]?).bind fun x303 =>
  gI .i64 x303 fun i304 =>
  (c300[2]?).bind fun x305 =>
  if c300.length = 3 then
  (frzVs h293 [.agg [.int .i64 i296, .int .i64 i298, x299], .agg [.int .i64 i302, .int .i64 i304, x305]]).bind fun l306 =>
  pcallS (call Ev) Fn.laws_eqPageResult (normVs [] l306) fun v307 =>
  gV1 v307 fun x308 =>
  gB x308 fun q309 =>
  vcase (bv (!q309))
  (some (bv false))
  ((loadN 3 h293 (pv h123.n 0)).bind fun c311 =>
  (c311[0]?).bind fun x312 =>
  gI .i64 x312 fun i313 =>
  (c311[1]?).bind fun x314 =>
  gI .i64 x314 fun i315 =>
  (c311[2]?).bind fun x316 =>
  if c311.length = 3 then
  (frzVs h293 [.agg [.int .i64 i313, .int .i64 i315, x316], iv .i64 1]).bind fun l317 =>
  pcallS (call Ev) Fn.laws_heldPageResult (normVs [] l317) fun v318 =>
  gV1 v318 fun x319 =>
  gI .i64 x319 fun i320 =>
  vcase (bv (decide (i320 < 0)))
  (some (bv false))
  (vcase (bv (i320 != i266))
  (some (bv false))
  (some (bv true)))
  else none)
  else none
  else none
  else none))
  else none
  else none)

theorem pu_laws_FnExactPutSlot (a0 : List (List S)) (a1 : List (List S)) : pureV (call Ev) Fn.laws_FnExactPutSlot [lv a0, lv a1] =
  vcase (bv (decide ((a0.length : Int) > 1048576)))
  (some (bv true))
  (vcase (bv (decide ((a1.length : Int) > 1048576)))
  (some (bv true))
  ((pureV (call Ev) Fn.laws_toByteS [lv a0]).bind fun v103 =>
  gV1 v103 fun x104 =>
  gF x104 fun z105 =>
  (pureV (call Ev) Fn.laws_toByteS [lv a1]).bind fun v106 =>
  gV1 v106 fun x107 =>
  gF x107 fun z108 =>
  (pureV (call Ev) Fn.spec_PutSlot [lv z105, lv z108]).bind fun v109 =>
  gVA v109 fun c110 =>
  (c110[0]?).bind fun x111 =>
  gI .i64 x111 fun i112 =>
  (c110[1]?).bind fun x113 =>
  gI .i64 x113 fun i114 =>
  (c110[2]?).bind fun x115 =>
  gF x115 fun z116 =>
  if c110.length = 3 then
  pcallF (call Ev) Fn.laws_toByteS true [lv a0] (((D 0).new 0 [.int .i64 0, .int .i64 0, .sl none 0]).put 0 (.rw 0 [.int .i64 i112, .int .i64 i114, .fs z116])) fun v117 h118 =>
  pcallF (call Ev) Fn.laws_toByteS true [lv a1] h118 fun v119 h120 =>
  (frzVs h120 [v117, v119]).bind fun l121 =>
  pcallF (call Ev) Fn.impl_PutSlot ([v117, v119].all offV) (normVs [] l121) h120 fun v122 h123 =>
  gVA v122 fun c124 =>
  (c124[0]?).bind fun x125 =>
  gI .i64 x125 fun i126 =>
  (c124[1]?).bind fun x127 =>
  gI .i64 x127 fun i128 =>
  (c124[2]?).bind fun x129 =>
  if c124.length = 3 then
  stK 3 (h123.new 0 [.int .i64 0, .int .i64 0, .sl none 0]) (pv h123.n 0) (.agg [.int .i64 i126, .int .i64 i128, x129]) fun h130 =>
  (loadN 3 h130 (pv h123.n 0)).bind fun c131 =>
  (c131[0]?).bind fun x132 =>
  gI .i64 x132 fun i133 =>
  (c131[1]?).bind fun x134 =>
  gI .i64 x134 fun i135 =>
  (c131[2]?).bind fun x136 =>
  if c131.length = 3 then
  (loadN 3 h130 (pv 0 0)).bind fun c137 =>
  (c137[0]?).bind fun x138 =>
  gI .i64 x138 fun i139 =>
  (c137[1]?).bind fun x140 =>
  gI .i64 x140 fun i141 =>
  (c137[2]?).bind fun x142 =>
  if c137.length = 3 then
  (frzVs h130 [.agg [.int .i64 i133, .int .i64 i135, x136], .agg [.int .i64 i139, .int .i64 i141, x142]]).bind fun l143 =>
  pcallS (call Ev) Fn.laws_eqPageResult (normVs [] l143) fun v144 =>
  gV1 v144 fun x145 =>
  gB x145 fun q146 =>
  vcase (bv (!q146))
  (some (bv false))
  ((pureV (call Ev) Fn.laws_toByteS [lv a0]).bind fun v148 =>
  gV1 v148 fun x149 =>
  gF x149 fun z150 =>
  (frzVs h130 [v117, lv z150]).bind fun l151 =>
  pcallS (call Ev) Fn.laws_eqByteS (normVs [] l151) fun v152 =>
  gV1 v152 fun x153 =>
  gB x153 fun q154 =>
  vcase (bv (!q154))
  (some (bv false))
  ((pureV (call Ev) Fn.laws_toByteS [lv a1]).bind fun v156 =>
  gV1 v156 fun x157 =>
  gF x157 fun z158 =>
  (frzVs h130 [v119, lv z158]).bind fun l159 =>
  pcallS (call Ev) Fn.laws_eqByteS (normVs [] l159) fun v160 =>
  gV1 v160 fun x161 =>
  gB x161 fun q162 =>
  vcase (bv (!q162))
  (some (bv false))
  ((call Ev Fn.laws_markByteS [v117, iv .i64 1] h130).bind fun p164 =>
  gV1 p164.1 fun x165 =>
  gI .i64 x165 fun i166 =>
  (call Ev Fn.laws_markByteS [v119, iv .i64 i166] (tidy h130 [p164.1] p164.2)).bind fun p167 =>
  gV1 p167.1 fun x168 =>
  gI .i64 x168 fun i169 =>
  vcase (bv (decide (i169 < 0)))
  (Jn.laws_FnExactPutSlot_0 true h130 p164 p167 h123 a0 a1)
  ((loadN 3 (tidy (tidy h130 [p164.1] p164.2) [p167.1] p167.2) (pv h123.n 0)).bind fun c172 =>
  (c172[0]?).bind fun x173 =>
  gI .i64 x173 fun i174 =>
  (c172[1]?).bind fun x175 =>
  gI .i64 x175 fun i176 =>
  (c172[2]?).bind fun x177 =>
  if c172.length = 3 then
  (loadN 3 (tidy (tidy h130 [p164.1] p164.2) [p167.1] p167.2) (pv 0 0)).bind fun c178 =>
  (c178[0]?).bind fun x179 =>
  gI .i64 x179 fun i180 =>
  (c178[1]?).bind fun x181 =>
  gI .i64 x181 fun i182 =>
  (c178[2]?).bind fun x183 =>
  if c178.length = 3 then
  (frzVs (tidy (tidy h130 [p164.1] p164.2) [p167.1] p167.2) [.agg [.int .i64 i174, .int .i64 i176, x177], .agg [.int .i64 i180, .int .i64 i182, x183]]).bind fun l184 =>
  pcallS (call Ev) Fn.laws_eqPageResult (normVs [] l184) fun v185 =>
  gV1 v185 fun x186 =>
  gB x186 fun q187 =>
  Jn.laws_FnExactPutSlot_0 (!q187) h130 p164 p167 h123 a0 a1
  else none
  else none))))
  else none
  else none
  else none
  else none)) := by
  rw [pure_eq]; kernel_rfl

theorem pu_laws_lwBig (a0 : List (List S)) : pureV (call Ev) Fn.laws_lwBig [lv a0] =
  some (bv (decide ((a0.length : Int) > 1048576))) := by
  rw [pure_eq]; kernel_rfl

theorem eq_spec_l1Source (a0 : List (List S)) (n : Nat) : call Ev Fn.spec_l1Source [lv a0] (D n) =
  some (pv ((D n).n) 0, (D n).new 0 [.fs a0, .int .i64 0]) := by
  rw [call_eq]; kernel_rfl

theorem eq_spec_l1Next (a0_b a0_o : Nat) (a1 : Int) (h : H) : call Ev Fn.spec_l1Next [pv a0_b a0_o, iv .i64 a1] h =
  (load1 h (pv a0_b (a0_o + 1))).bind fun x101 =>
  gI .i64 x101 fun i102 =>
  stK 1 h (pv a0_b (a0_o + 1)) (iv .i64 (IntKind.i64.wrap (i102 + 1))) fun h103 =>
  vcase (bv (decide (a1 < 1)))
  (some (iv .i64 0, h103))
  ((load1 h103 (pv a0_b (a0_o + 1))).bind fun x105 =>
  gI .i64 x105 fun i106 =>
  (load1 h103 (pv a0_b (a0_o + 0))).bind fun x107 =>
  (lenV (.sl 5) (.s x107)).bind fun v108 =>
  gV1 v108 fun x109 =>
  gI .i64 x109 fun i110 =>
  vcase (bv (i110 == 0))
  ((bin Ev .rem 2 (iv .i64 (IntKind.i64.wrap ((IntKind.i64.wrap (i106 - 1)) * 7))) (iv .i64 a1)).bind fun b112 =>
  gV1 b112 fun x113 =>
  gI .i64 x113 fun i114 =>
  some (iv .i64 i114, h103))
  ((load1 h103 (pv a0_b (a0_o + 0))).bind fun x115 =>
  (bin Ev .rem 2 (iv .i64 (IntKind.i64.wrap (i106 - 1))) (iv .i64 i110)).bind fun b116 =>
  gV1 b116 fun x117 =>
  gI .i64 x117 fun i118 =>
  idxK 1 (.s x115) (iv .i64 i118) fun v119 =>
  ldK (.one (.i .u8)) ⟨1, 1, [.int .u8 0], false, .int .u8, false⟩ h103 v119 fun v120 =>
  gV1 v120 fun x121 =>
  gI .u8 x121 fun i122 =>
  (bin Ev .quo 2 (iv .i64 (IntKind.i64.wrap (i106 - 1))) (iv .i64 i110)).bind fun b123 =>
  gV1 b123 fun x124 =>
  gI .i64 x124 fun i125 =>
  vcase (bv (decide (a1 > 200)))
  ((load1 h103 (pv a0_b (a0_o + 0))).bind fun x127 =>
  (bin Ev .rem 2 (iv .i64 (IntKind.i64.wrap ((IntKind.i64.wrap (i106 - 1)) + 1))) (iv .i64 i110)).bind fun b128 =>
  gV1 b128 fun x129 =>
  gI .i64 x129 fun i130 =>
  idxK 1 (.s x127) (iv .i64 i130) fun v131 =>
  ldK (.one (.i .u8)) ⟨1, 1, [.int .u8 0], false, .int .u8, false⟩ h103 v131 fun v132 =>
  gV1 v132 fun x133 =>
  gI .u8 x133 fun i134 =>
  (bin Ev .rem 2 (iv .i64 (IntKind.i64.wrap ((IntKind.i64.wrap ((IntKind.i64.wrap ((IntKind.i64.wrap ((IntKind.i64.wrap i122) + (IntKind.i64.wrap (i125 * 37)))) * 251)) + (IntKind.i64.wrap ((IntKind.i64.wrap i134) * 13)))) + (IntKind.i64.wrap (i106 - 1))))) (iv .i64 a1)).bind fun b135 =>
  gV1 b135 fun x136 =>
  gI .i64 x136 fun i137 =>
  some (iv .i64 i137, h103))
  ((bin Ev .rem 2 (iv .i64 (IntKind.i64.wrap ((IntKind.i64.wrap i122) + (IntKind.i64.wrap (i125 * 37))))) (iv .i64 a1)).bind fun b138 =>
  gV1 b138 fun x139 =>
  gI .i64 x139 fun i140 =>
  some (iv .i64 i140, h103)))) := by
  rw [call_eq]; kernel_rfl

theorem eq_spec_l1Pick (a0_b a0_o : Nat) (a1 : V) (h : H) : call Ev Fn.spec_l1Pick [pv a0_b a0_o, a1] h =
  (lenV (.sl 2) a1).bind fun v101 =>
  gV1 v101 fun x102 =>
  gI .i64 x102 fun i103 =>
  (call Ev Fn.spec_l1Next [pv a0_b a0_o, iv .i64 i103] h).bind fun p104 =>
  gV1 p104.1 fun x105 =>
  gI .i64 x105 fun i106 =>
  idxK 1 a1 (iv .i64 i106) fun v107 =>
  ldK (.one (.i .i64)) ⟨1, 8, [.int .i64 0], false, .int .i64, false⟩ (tidy h [p104.1] p104.2) v107 fun v108 =>
  gV1 v108 fun x109 =>
  gI .i64 x109 fun i110 =>
  some (iv .i64 i110, tidy h [p104.1] p104.2) := by
  rw [call_eq]; kernel_rfl

theorem eq_spec_l1Some (a0_b a0_o : Nat) (a1 : Int) (h : H) : call Ev Fn.spec_l1Some [pv a0_b a0_o, iv .i64 a1] h =
  (Lp.spec_l1Some 0 [pv a0_b a0_o, iv .i64 a1, sv h.n 0 0] (h.new 1 [])).bind fun o101 => lcase o101 (fun l102 h103 =>
  (l102[0]?).bind fun w106 =>
  some (w106, h103)) (fun v104 h105 =>
  some (v104, h105)) := by
  rw [call_eq]; kernel_rfl

theorem eq_spec_l1Some_l0 (s0 : V) (s1 : Int) (s5 : V) (h : H) : Lp.spec_l1Some 0 [s0, iv .i64 s1, s5] h =
  vcase (bv (decide (s1 > 0)))
  ((call Ev Fn.spec_l1Next [s0, iv .i64 256] h).bind fun p203 =>
  gV1 p203.1 fun x204 =>
  gI .i64 x204 fun i205 =>
  (appS 1 ((tidy h [p203.1] p203.2).new 1 [.int .u8 (IntKind.u8.wrap i205)]) s5 (sv ((tidy h [p203.1] p203.2).n) 0 1)).bind fun p206 =>
  Lp.spec_l1Some 0 [s0, iv .i64 (IntKind.i64.wrap (s1 - 1)), p206.1] (tidy h [s0, iv .i64 (IntKind.i64.wrap (s1 - 1)), p206.1] p206.2))
  (some (.done [s5] (tidy h [s5] h))) := by
  unfold Lp.spec_l1Some; rw [loop_eq]; kernel_rfl

theorem eq_spec_l2New (a0 : Int) (n : Nat) : call Ev Fn.spec_l2New [iv .u8 a0] (D n) =
  (mkSl 1 [.int .u8 0] (D n) (iv .i64 64) (iv .i64 64)).bind fun p101 =>
  (Lp.spec_l2New 0 [iv .u8 a0, p101.1, iv .i64 0] p101.2).bind fun o102 => lcase o102 (fun l103 h104 =>
  (l103[0]?).bind fun w107 =>
  idxK 1 w107 (iv .i64 0) fun v108 =>
  stK 1 h104 v108 (iv .u8 0) fun h109 =>
  idxK 1 w107 (iv .i64 1) fun v110 =>
  stK 1 h109 v110 (iv .u8 64) fun h111 =>
  some (w107, h111)) (fun v105 h106 =>
  some (v105, h106)) := by
  rw [call_eq]; kernel_rfl

theorem eq_spec_l2New_l0 (s0 : Int) (s3 : V) (s4 : Int) (h : H) : Lp.spec_l2New 0 [iv .u8 s0, s3, iv .i64 s4] h =
  vcase (bv (decide (s4 < 64)))
  (idxK 1 s3 (iv .i64 s4) fun v203 =>
  stK 1 h v203 (iv .u8 s0) fun h204 =>
  Lp.spec_l2New 0 [iv .u8 s0, s3, iv .i64 (IntKind.i64.wrap (s4 + 1))] (tidy h [iv .u8 s0, s3, iv .i64 (IntKind.i64.wrap (s4 + 1))] h204))
  (some (.done [s3] (tidy h [s3] h))) := by
  unfold Lp.spec_l2New; rw [loop_eq]; kernel_rfl

theorem eq_spec_l1Chance (a0_b a0_o : Nat) (a1 : Int) (h : H) : call Ev Fn.spec_l1Chance [pv a0_b a0_o, iv .i64 a1] h =
  (call Ev Fn.spec_l1Next [pv a0_b a0_o, iv .i64 a1] h).bind fun p101 =>
  gV1 p101.1 fun x102 =>
  gI .i64 x102 fun i103 =>
  some (bv (i103 == 0), tidy h [p101.1] p101.2) := by
  rw [call_eq]; kernel_rfl

theorem eq_spec_l2Right (a0_b a0_o : Nat) (h : H) : call Ev Fn.spec_l2Right [pv a0_b a0_o] h =
  (call Ev Fn.spec_l1Pick [pv a0_b a0_o, sv h.n 0 3] (h.new 1 [.int .i64 0, .int .i64 0, .int .i64 7])).bind fun p101 =>
  gV1 p101.1 fun x102 =>
  gI .i64 x102 fun i103 =>
  pcallF (call Ev) Fn.spec_l2New true [iv .u8 (IntKind.u8.wrap i103)] (tidy (h.new 1 [.int .i64 0, .int .i64 0, .int .i64 7]) [p101.1] p101.2) fun v104 h105 =>
  (call Ev Fn.spec_l1Next [pv a0_b a0_o, iv .i64 14] h105).bind fun p106 =>
  gV1 p106.1 fun x107 =>
  gI .i64 x107 fun i108 =>
  (Lp.spec_l2Right 0 [pv a0_b a0_o, v104, iv .i64 i108] (tidy h105 [p106.1] p106.2)).bind fun o109 => lcase o109 (fun l110 h111 =>
  (l110[0]?).bind fun w114 =>
  some (w114, h111)) (fun v112 h113 =>
  some (v112, h113)) := by
  rw [call_eq]; kernel_rfl

theorem eq_spec_l2Right_l0 (s0 : V) (s3 : V) (s4 : Int) (h : H) : Lp.spec_l2Right 0 [s0, s3, iv .i64 s4] h =
  vcase (bv (decide (s4 > 0)))
  ((call Ev Fn.spec_l1Next [s0, iv .i64 14] h).bind fun p203 =>
  gV1 p203.1 fun x204 =>
  gI .i64 x204 fun i205 =>
  (call Ev Fn.spec_l1Some [s0, iv .i64 (IntKind.i64.wrap (1 + i205))] (tidy h [p203.1] p203.2)).bind fun p206 =>
  (call Ev Fn.spec_l1Next [s0, iv .i64 5] (tidy (tidy h [p203.1] p203.2) [p206.1] p206.2)).bind fun p207 =>
  gV1 p207.1 fun x208 =>
  gI .i64 x208 fun i209 =>
  vcase (bv (i209 == 0))
  ((call Ev Fn.spec_l1Next [s0, iv .i64 6] (tidy (tidy (tidy h [p203.1] p203.2) [p206.1] p206.2) [p207.1] p207.2)).bind fun p212 =>
  gV1 p212.1 fun x213 =>
  gI .i64 x213 fun i214 =>
  (frzVs (tidy (tidy (tidy (tidy h [p203.1] p203.2) [p206.1] p206.2) [p207.1] p207.2) [p212.1] p212.2) [s3, iv .i64 i214]).bind fun l215 =>
  pcallS (call Ev) Fn.spec_l2Has (normVs [] l215) fun v216 =>
  gV1 v216 fun x217 =>
  gB x217 fun q218 =>
  vcase (bv q218)
  ((frzVs (tidy (tidy (tidy (tidy h [p203.1] p203.2) [p206.1] p206.2) [p207.1] p207.2) [p212.1] p212.2) [s3, iv .i64 i214]).bind fun l220 =>
  pcallF (call Ev) Fn.spec_l2Drop ([s3, iv .i64 i214].all offV) (normVs [] l220) (tidy (tidy (tidy (tidy h [p203.1] p203.2) [p206.1] p206.2) [p207.1] p207.2) [p212.1] p212.2) fun v221 h222 =>
  Lp.spec_l2Right 0 [s0, v221, iv .i64 (IntKind.i64.wrap (s4 - 1))] (tidy h [s0, v221, iv .i64 (IntKind.i64.wrap (s4 - 1))] h222))
  (Lp.spec_l2Right 0 [s0, s3, iv .i64 (IntKind.i64.wrap (s4 - 1))] (tidy h [s0, s3, iv .i64 (IntKind.i64.wrap (s4 - 1))] (tidy (tidy (tidy (tidy h [p203.1] p203.2) [p206.1] p206.2) [p207.1] p207.2) [p212.1] p212.2))))
  (vcase (bv (i209 == 1))
  ((call Ev Fn.spec_l1Next [s0, iv .i64 6] (tidy (tidy (tidy h [p203.1] p203.2) [p206.1] p206.2) [p207.1] p207.2)).bind fun p224 =>
  gV1 p224.1 fun x225 =>
  gI .i64 x225 fun i226 =>
  (frzVs (tidy (tidy (tidy (tidy h [p203.1] p203.2) [p206.1] p206.2) [p207.1] p207.2) [p224.1] p224.2) [s3, iv .i64 i226]).bind fun l227 =>
  pcallS (call Ev) Fn.spec_l2Has (normVs [] l227) fun v228 =>
  gV1 v228 fun x229 =>
  gB x229 fun q230 =>
  vcase (bv q230)
  ((frzVs (tidy (tidy (tidy (tidy h [p203.1] p203.2) [p206.1] p206.2) [p207.1] p207.2) [p224.1] p224.2) [s3, iv .i64 i226, p206.1]).bind fun l232 =>
  pcallF (call Ev) Fn.spec_l2Set ([s3, iv .i64 i226, p206.1].all offV) (normVs [] l232) (tidy (tidy (tidy (tidy h [p203.1] p203.2) [p206.1] p206.2) [p207.1] p207.2) [p224.1] p224.2) fun v233 h234 =>
  gVT v233 fun u235 =>
  (u235[0]?).bind fun t236 =>
  gA1 t236 fun x237 =>
  (u235[1]?).bind fun t238 =>
  gA1 t238 fun x239 =>
  gI .i64 x239 fun i240 =>
  if u235.length = 2 then
  vcase (bv (i240 == 0))
  (Lp.spec_l2Right 0 [s0, .s x237, iv .i64 (IntKind.i64.wrap (s4 - 1))] (tidy h [s0, .s x237, iv .i64 (IntKind.i64.wrap (s4 - 1))] h234))
  (Lp.spec_l2Right 0 [s0, s3, iv .i64 (IntKind.i64.wrap (s4 - 1))] (tidy h [s0, s3, iv .i64 (IntKind.i64.wrap (s4 - 1))] h234))
  else none)
  (Lp.spec_l2Right 0 [s0, s3, iv .i64 (IntKind.i64.wrap (s4 - 1))] (tidy h [s0, s3, iv .i64 (IntKind.i64.wrap (s4 - 1))] (tidy (tidy (tidy (tidy h [p203.1] p203.2) [p206.1] p206.2) [p207.1] p207.2) [p224.1] p224.2))))
  (vcase (bv (i209 == 2))
  ((call Ev Fn.spec_l1Chance [s0, iv .i64 3] (tidy (tidy (tidy h [p203.1] p203.2) [p206.1] p206.2) [p207.1] p207.2)).bind fun p243 =>
  gV1 p243.1 fun x244 =>
  gB x244 fun q245 =>
  vcase (bv q245)
  ((frzVs (tidy (tidy (tidy (tidy h [p203.1] p203.2) [p206.1] p206.2) [p207.1] p207.2) [p243.1] p243.2) [s3]).bind fun l247 =>
  pcallF (call Ev) Fn.spec_l2Compact ([s3].all offV) (normVs [] l247) (tidy (tidy (tidy (tidy h [p203.1] p203.2) [p206.1] p206.2) [p207.1] p207.2) [p243.1] p243.2) fun v248 h249 =>
  Lp.spec_l2Right 0 [s0, v248, iv .i64 (IntKind.i64.wrap (s4 - 1))] (tidy h [s0, v248, iv .i64 (IntKind.i64.wrap (s4 - 1))] h249))
  (Lp.spec_l2Right 0 [s0, s3, iv .i64 (IntKind.i64.wrap (s4 - 1))] (tidy h [s0, s3, iv .i64 (IntKind.i64.wrap (s4 - 1))] (tidy (tidy (tidy (tidy h [p203.1] p203.2) [p206.1] p206.2) [p207.1] p207.2) [p243.1] p243.2))))
  ((frzVs (tidy (tidy (tidy h [p203.1] p203.2) [p206.1] p206.2) [p207.1] p207.2) [s3, p206.1]).bind fun l250 =>
  pcallF (call Ev) Fn.spec_l2Put ([s3, p206.1].all offV) (normVs [] l250) (tidy (tidy (tidy h [p203.1] p203.2) [p206.1] p206.2) [p207.1] p207.2) fun v251 h252 =>
  gVT v251 fun u253 =>
  (u253[0]?).bind fun t254 =>
  gA1 t254 fun x255 =>
  (u253[1]?).bind fun t256 =>
  gA1 t256 fun x257 =>
  gI .i64 x257 fun i258 =>
  (u253[2]?).bind fun t259 =>
  gA1 t259 fun x260 =>
  gI .i64 x260 fun i261 =>
  if u253.length = 3 then
  vcase (bv (i261 == 0))
  (Lp.spec_l2Right 0 [s0, .s x255, iv .i64 (IntKind.i64.wrap (s4 - 1))] (tidy h [s0, .s x255, iv .i64 (IntKind.i64.wrap (s4 - 1))] h252))
  (Lp.spec_l2Right 0 [s0, s3, iv .i64 (IntKind.i64.wrap (s4 - 1))] (tidy h [s0, s3, iv .i64 (IntKind.i64.wrap (s4 - 1))] h252))
  else none))))
  (some (.done [s3] (tidy h [s3] h))) := by
  unfold Lp.spec_l2Right; rw [loop_eq]; kernel_rfl

theorem eq_spec_l2Bent (a0_b a0_o : Nat) (h : H) : call Ev Fn.spec_l2Bent [pv a0_b a0_o] h =
  (call Ev Fn.spec_l2Right [pv a0_b a0_o] h).bind fun p101 =>
  (call Ev Fn.spec_l1Next [pv a0_b a0_o, iv .i64 12] (tidy h [p101.1] p101.2)).bind fun p102 =>
  gV1 p102.1 fun x103 =>
  gI .i64 x103 fun i104 =>
  vcase (bv (i104 == 0))
  (slK 1 (tidy (tidy h [p101.1] p101.2) [p102.1] p102.2) p101.1 (some (iv .i64 1)) none fun v107 =>
  some (v107, tidy (tidy h [p101.1] p101.2) [p102.1] p102.2))
  (vcase (bv (i104 == 1))
  ((call Ev Fn.spec_l1Next [pv a0_b a0_o, iv .i64 12] (tidy (tidy h [p101.1] p101.2) [p102.1] p102.2)).bind fun p109 =>
  gV1 p109.1 fun x110 =>
  gI .i64 x110 fun i111 =>
  (call Ev Fn.spec_l1Next [pv a0_b a0_o, iv .i64 70] (tidy (tidy (tidy h [p101.1] p101.2) [p102.1] p102.2) [p109.1] p109.2)).bind fun p112 =>
  gV1 p112.1 fun x113 =>
  gI .i64 x113 fun i114 =>
  idxK 1 p101.1 (iv .i64 i111) fun v115 =>
  stK 1 (tidy (tidy (tidy (tidy h [p101.1] p101.2) [p102.1] p102.2) [p109.1] p109.2) [p112.1] p112.2) v115 (iv .u8 (IntKind.u8.wrap i114)) fun h116 =>
  some (p101.1, h116))
  (some (p101.1, tidy (tidy h [p101.1] p101.2) [p102.1] p102.2))) := by
  rw [call_eq]; kernel_rfl

theorem eq_spec_l2DrawCell (a0_b a0_o : Nat) (h : H) : call Ev Fn.spec_l2DrawCell [pv a0_b a0_o] h =
  (call Ev Fn.spec_l1Next [pv a0_b a0_o, iv .i64 14] h).bind fun p101 =>
  gV1 p101.1 fun x102 =>
  gI .i64 x102 fun i103 =>
  (call Ev Fn.spec_l1Next [pv a0_b a0_o, iv .i64 14] (tidy h [p101.1] p101.2)).bind fun p104 =>
  gV1 p104.1 fun x105 =>
  gI .i64 x105 fun i106 =>
  (call Ev Fn.spec_l1Pick [pv a0_b a0_o, sv ((tidy (tidy h [p101.1] p101.2) [p104.1] p104.2).n) 0 6] ((tidy (tidy h [p101.1] p101.2) [p104.1] p104.2).new 1 [.int .i64 (IntKind.i64.wrap (1 + i103)), .int .i64 (IntKind.i64.wrap (1 + i106)), .int .i64 3, .int .i64 0, .int .i64 20, .int .i64 21])).bind fun p107 =>
  gV1 p107.1 fun x108 =>
  gI .i64 x108 fun i109 =>
  (call Ev Fn.spec_l1Some [pv a0_b a0_o, iv .i64 i109] (tidy ((tidy (tidy h [p101.1] p101.2) [p104.1] p104.2).new 1 [.int .i64 (IntKind.i64.wrap (1 + i103)), .int .i64 (IntKind.i64.wrap (1 + i106)), .int .i64 3, .int .i64 0, .int .i64 20, .int .i64 21]) [p107.1] p107.2)).bind fun p110 =>
  some (p110.1, tidy (tidy ((tidy (tidy h [p101.1] p101.2) [p104.1] p104.2).new 1 [.int .i64 (IntKind.i64.wrap (1 + i103)), .int .i64 (IntKind.i64.wrap (1 + i106)), .int .i64 3, .int .i64 0, .int .i64 20, .int .i64 21]) [p107.1] p107.2) [p110.1] p110.2) := by
  rw [call_eq]; kernel_rfl

theorem pu_spec_DrawPutSlot (a0 : List (List S)) : pureV (call Ev) Fn.spec_DrawPutSlot [lv a0] =
  pcallF (call Ev) Fn.spec_l1Source true [lv a0] (D 0) fun v101 h102 =>
  (call Ev Fn.spec_l2Bent [v101] h102).bind fun p103 =>
  (call Ev Fn.spec_l2DrawCell [v101] (tidy h102 [p103.1] p103.2)).bind fun p104 =>
  (V.toA p103.1).bind fun t105 =>
  (V.toA p104.1).bind fun t106 =>
  frzV (tidy (tidy h102 [p103.1] p103.2) [p104.1] p104.2) (.tup [t105, t106]) := by
  rw [pure_eq]; kernel_rfl

theorem pu_impl_FreeIn (a0 : List (List S)) : pureV (call Ev) Fn.impl_FreeIn [lv a0] =
  pcallS (call Ev) Fn.impl_PageFault [lv a0] fun v101 =>
  gV1 v101 fun x102 =>
  gI .i64 x102 fun i103 =>
  vcase (bv (i103 != 0))
  (some (.agg [.int .i64 i103, .int .i64 0]))
  (pcallS (call Ev) Fn.impl_freeIn [lv a0] fun v105 =>
  gV1 v105 fun x106 =>
  gI .i64 x106 fun i107 =>
  some (.agg [.int .i64 0, .int .i64 i107])) := by
  rw [pure_eq]; kernel_rfl

theorem pu_laws_lwSame (a0 : List (List S)) (a1 : List (List S)) : pureV (call Ev) Fn.laws_lwSame [lv a0, lv a1] =
  (fsStr a0).bind fun v101 =>
  gV1 v101 fun x102 =>
  gS x102 fun y103 =>
  (fsStr a1).bind fun v104 =>
  gV1 v104 fun x105 =>
  gS x105 fun y106 =>
  some (bv ((y103 : ByteArray).toList == (y106 : ByteArray).toList)) := by
  rw [pure_eq]; kernel_rfl

theorem pu_laws_lwOthers (a0 : List (List S)) (a1 : List (List S)) (a2 : Int) : pureV (call Ev) Fn.laws_lwOthers [lv a0, lv a1, iv .i64 a2] =
  (Lp.laws_lwOthers 0 [lv a0, lv a1, iv .i64 a2, iv .i64 0] (D 0)).bind fun o101 => lcase o101 (fun l102 h103 =>
  some (bv true)) (fun v104 h105 =>
  frzV h105 v104) := by
  rw [pure_eq]; kernel_rfl

theorem eq_laws_lwOthers_l0 (s0 : List (List S)) (s1 : List (List S)) (s2 : Int) (s7 : Int) (h : H) : Lp.laws_lwOthers 0 [lv s0, lv s1, iv .i64 s2, iv .i64 s7] h =
  vcase (bv (decide (s7 < 16)))
  ((pureV (call Ev) Fn.impl_SlotIn [lv s0, iv .i64 s7]).bind fun v203 =>
  gVA v203 fun c204 =>
  (c204[0]?).bind fun x205 =>
  gI .i64 x205 fun i206 =>
  (c204[1]?).bind fun x207 =>
  gF x207 fun z208 =>
  if c204.length = 2 then
  stK 2 (h.new 0 [.int .i64 0, .sl none 0]) (pv h.n 0) (.agg [.int .i64 i206, .fs z208]) fun h209 =>
  (pureV (call Ev) Fn.impl_SlotIn [lv s1, iv .i64 s7]).bind fun v210 =>
  gVA v210 fun c211 =>
  (c211[0]?).bind fun x212 =>
  gI .i64 x212 fun i213 =>
  (c211[1]?).bind fun x214 =>
  gF x214 fun z215 =>
  if c211.length = 2 then
  stK 2 (h209.new 0 [.int .i64 0, .sl none 0]) (pv h209.n 0) (.agg [.int .i64 i213, .fs z215]) fun h216 =>
  vcase (bv (s7 != s2))
  ((load1 h216 (pv h.n 0)).bind fun x218 =>
  gI .i64 x218 fun i219 =>
  (load1 h216 (pv h209.n 0)).bind fun x220 =>
  gI .i64 x220 fun i221 =>
  vcase (bv (i219 != i221))
  (some (.ret (bv false) h216))
  ((load1 h216 (pv h.n 1)).bind fun x224 =>
  (load1 h216 (pv h209.n 1)).bind fun x225 =>
  (frzVs h216 [.s x224, .s x225]).bind fun l226 =>
  pcallS (call Ev) Fn.laws_lwSame (normVs [] l226) fun v227 =>
  gV1 v227 fun x228 =>
  gB x228 fun q229 =>
  vcase (bv (!q229))
  (some (.ret (bv false) h216))
  (Lp.laws_lwOthers 0 [lv s0, lv s1, iv .i64 s2, iv .i64 (IntKind.i64.wrap (s7 + 1))] (tidy h [lv s0, lv s1, iv .i64 s2, iv .i64 (IntKind.i64.wrap (s7 + 1))] h216))))
  (Lp.laws_lwOthers 0 [lv s0, lv s1, iv .i64 s2, iv .i64 (IntKind.i64.wrap (s7 + 1))] (tidy h [lv s0, lv s1, iv .i64 s2, iv .i64 (IntKind.i64.wrap (s7 + 1))] h216))
  else none
  else none)
  (some (.done [] (tidy h [] h))) := by
  unfold Lp.laws_lwOthers; rw [loop_eq]; kernel_rfl

end Vm
