/-
  What each function, and each round of each loop, comes to in the small machine. Written by a program (gen3.py).
-/
import Derived.Test.YtainemlfiibooaaEnv
set_option linter.unusedVariables false
set_option maxRecDepth 100000
namespace Vm
open Go

noncomputable def Jn.laws_FnExactReadRecord_0 (q308 : Bool) (h136 : H) (p174 : V × H) (h123 : H) (a0 : List (List S)) : Option (V) :=
  vcase (bv q308)
  (some (bv false))
  ((loadN 6 (tidy h136 [p174.1] p174.2) (pv h123.n 0)).bind fun c310 =>
  (c310[0]?).bind fun x311 =>
  gI .i64 x311 fun i312 =>
  (c310[1]?).bind fun x313 =>
  gI .i64 x313 fun i314 =>
  (c310[2]?).bind fun x315 =>
  gI .i64 x315 fun i316 =>
  (c310[3]?).bind fun x317 =>
  gI .i64 x317 fun i318 =>
  (c310[4]?).bind fun x319 =>
  gI .i64 x319 fun i320 =>
  (c310[5]?).bind fun x321 =>
  if c310.length = 6 then
  (call Ev Fn.laws_markRecordResult [.agg [.int .i64 i312, .int .i64 i314, .int .i64 i316, .int .i64 i318, .int .i64 i320, x321], iv .i64 1] (tidy h136 [p174.1] p174.2)).bind fun p322 =>
  gV1 p322.1 fun x323 =>
  gI .i64 x323 fun i324 =>
  (loadN 6 (tidy (tidy h136 [p174.1] p174.2) [p322.1] p322.2) (pv h123.n 0)).bind fun c325 =>
  (c325[0]?).bind fun x326 =>
  gI .i64 x326 fun i327 =>
  (c325[1]?).bind fun x328 =>
  gI .i64 x328 fun i329 =>
  (c325[2]?).bind fun x330 =>
  gI .i64 x330 fun i331 =>
  (c325[3]?).bind fun x332 =>
  gI .i64 x332 fun i333 =>
  (c325[4]?).bind fun x334 =>
  gI .i64 x334 fun i335 =>
  (c325[5]?).bind fun x336 =>
  if c325.length = 6 then
  (frzVs (tidy (tidy h136 [p174.1] p174.2) [p322.1] p322.2) [.agg [.int .i64 i327, .int .i64 i329, .int .i64 i331, .int .i64 i333, .int .i64 i335, x336], iv .i64 1]).bind fun l337 =>
  pcallS (call Ev) Fn.laws_heldRecordResult (normVs [] l337) fun v338 =>
  gV1 v338 fun x339 =>
  gI .i64 x339 fun i340 =>
  vcase (bv (decide (i340 < 0)))
  (some (bv false))
  (vcase (bv (i340 != i324))
  (some (bv false))
  ((pureV (call Ev) Fn.laws_toByteS [lv a0]).bind fun v343 =>
  gV1 v343 fun x344 =>
  gF x344 fun z345 =>
  (pureV (call Ev) Fn.impl_ReadRecord [lv z345]).bind fun v346 =>
  gVA v346 fun c347 =>
  (c347[0]?).bind fun x348 =>
  gI .i64 x348 fun i349 =>
  (c347[1]?).bind fun x350 =>
  gI .i64 x350 fun i351 =>
  (c347[2]?).bind fun x352 =>
  gI .i64 x352 fun i353 =>
  (c347[3]?).bind fun x354 =>
  gI .i64 x354 fun i355 =>
  (c347[4]?).bind fun x356 =>
  gI .i64 x356 fun i357 =>
  (c347[5]?).bind fun x358 =>
  gF x358 fun z359 =>
  if c347.length = 6 then
  stK 6 ((tidy (tidy h136 [p174.1] p174.2) [p322.1] p322.2).new 0 [.int .i64 0, .int .i64 0, .int .i64 0, .int .i64 0, .int .i64 0, .sl none 0]) (pv ((tidy (tidy h136 [p174.1] p174.2) [p322.1] p322.2).n) 0) (.agg [.int .i64 i349, .int .i64 i351, .int .i64 i353, .int .i64 i355, .int .i64 i357, .fs z359]) fun h360 =>
  (loadN 6 h360 (pv ((tidy (tidy h136 [p174.1] p174.2) [p322.1] p322.2).n) 0)).bind fun c361 =>
  (c361[0]?).bind fun x362 =>
  gI .i64 x362 fun i363 =>
  (c361[1]?).bind fun x364 =>
  gI .i64 x364 fun i365 =>
  (c361[2]?).bind fun x366 =>
  gI .i64 x366 fun i367 =>
  (c361[3]?).bind fun x368 =>
  gI .i64 x368 fun i369 =>
  (c361[4]?).bind fun x370 =>
  gI .i64 x370 fun i371 =>
  (c361[5]?).bind fun x372 =>
  if c361.length = 6 then
  (loadN 6 h360 (pv 0 0)).bind fun c373 =>
  (c373[0]?).bind fun x374 =>
  gI .i64 x374 fun i375 =>
  (c373[1]?).bind fun x376 =>
  gI .i64 x376 fun i377 =>
  (c373[2]?).bind fun x378 =>
  gI .i64 x378 fun i379 =>
  (c373[3]?).bind fun x380 =>
  gI .i64 x380 fun i381 =>
  (c373[4]?).bind fun x382 =>
  gI .i64 x382 fun i383 =>
  (c373[5]?).bind fun x384 =>
  if c373.length = 6 then
  (frzVs h360 [.agg [.int .i64 i363, .int .i64 i365, .int .i64 i367, .int .i64 i369, .int .i64 i371, x372], .agg [.int .i64 i375, .int .i64 i377, .int .i64 i379, .int .i64 i381, .int .i64 i383, x384]]).bind fun l385 =>
  pcallS (call Ev) Fn.laws_eqRecordResult (normVs [] l385) fun v386 =>
  gV1 v386 fun x387 =>
  gB x387 fun q388 =>
  vcase (bv (!q388))
  (some (bv false))
  ((loadN 6 h360 (pv h123.n 0)).bind fun c390 =>
  (c390[0]?).bind fun x391 =>
  gI .i64 x391 fun i392 =>
  (c390[1]?).bind fun x393 =>
  gI .i64 x393 fun i394 =>
  (c390[2]?).bind fun x395 =>
  gI .i64 x395 fun i396 =>
  (c390[3]?).bind fun x397 =>
  gI .i64 x397 fun i398 =>
  (c390[4]?).bind fun x399 =>
  gI .i64 x399 fun i400 =>
  (c390[5]?).bind fun x401 =>
  if c390.length = 6 then
  (frzVs h360 [.agg [.int .i64 i392, .int .i64 i394, .int .i64 i396, .int .i64 i398, .int .i64 i400, x401], iv .i64 1]).bind fun l402 =>
  pcallS (call Ev) Fn.laws_heldRecordResult (normVs [] l402) fun v403 =>
  gV1 v403 fun x404 =>
  gI .i64 x404 fun i405 =>
  vcase (bv (decide (i405 < 0)))
  (some (bv false))
  (vcase (bv (i405 != i324))
  (some (bv false))
  (some (bv true)))
  else none)
  else none
  else none
  else none))
  else none
  else none)

theorem pu_laws_FnExactReadRecord (a0 : List (List S)) : pureV (call Ev) Fn.laws_FnExactReadRecord [lv a0] =
  vcase (bv (decide ((a0.length : Int) > 1048576)))
  (some (bv true))
  ((pureV (call Ev) Fn.laws_toByteS [lv a0]).bind fun v102 =>
  gV1 v102 fun x103 =>
  gF x103 fun z104 =>
  (pureV (call Ev) Fn.spec_ReadRecord [lv z104]).bind fun v105 =>
  gVA v105 fun c106 =>
  (c106[0]?).bind fun x107 =>
  gI .i64 x107 fun i108 =>
  (c106[1]?).bind fun x109 =>
  gI .i64 x109 fun i110 =>
  (c106[2]?).bind fun x111 =>
  gI .i64 x111 fun i112 =>
  (c106[3]?).bind fun x113 =>
  gI .i64 x113 fun i114 =>
  (c106[4]?).bind fun x115 =>
  gI .i64 x115 fun i116 =>
  (c106[5]?).bind fun x117 =>
  gF x117 fun z118 =>
  if c106.length = 6 then
  pcallF (call Ev) Fn.laws_toByteS true [lv a0] (((D 0).new 0 [.int .i64 0, .int .i64 0, .int .i64 0, .int .i64 0, .int .i64 0, .sl none 0]).put 0 (.rw 0 [.int .i64 i108, .int .i64 i110, .int .i64 i112, .int .i64 i114, .int .i64 i116, .fs z118])) fun v119 h120 =>
  (frzVs h120 [v119]).bind fun l121 =>
  pcallF (call Ev) Fn.impl_ReadRecord ([v119].all offV) (normVs [] l121) h120 fun v122 h123 =>
  gVA v122 fun c124 =>
  (c124[0]?).bind fun x125 =>
  gI .i64 x125 fun i126 =>
  (c124[1]?).bind fun x127 =>
  gI .i64 x127 fun i128 =>
  (c124[2]?).bind fun x129 =>
  gI .i64 x129 fun i130 =>
  (c124[3]?).bind fun x131 =>
  gI .i64 x131 fun i132 =>
  (c124[4]?).bind fun x133 =>
  gI .i64 x133 fun i134 =>
  (c124[5]?).bind fun x135 =>
  if c124.length = 6 then
  stK 6 (h123.new 0 [.int .i64 0, .int .i64 0, .int .i64 0, .int .i64 0, .int .i64 0, .sl none 0]) (pv h123.n 0) (.agg [.int .i64 i126, .int .i64 i128, .int .i64 i130, .int .i64 i132, .int .i64 i134, x135]) fun h136 =>
  (loadN 6 h136 (pv h123.n 0)).bind fun c137 =>
  (c137[0]?).bind fun x138 =>
  gI .i64 x138 fun i139 =>
  (c137[1]?).bind fun x140 =>
  gI .i64 x140 fun i141 =>
  (c137[2]?).bind fun x142 =>
  gI .i64 x142 fun i143 =>
  (c137[3]?).bind fun x144 =>
  gI .i64 x144 fun i145 =>
  (c137[4]?).bind fun x146 =>
  gI .i64 x146 fun i147 =>
  (c137[5]?).bind fun x148 =>
  if c137.length = 6 then
  (loadN 6 h136 (pv 0 0)).bind fun c149 =>
  (c149[0]?).bind fun x150 =>
  gI .i64 x150 fun i151 =>
  (c149[1]?).bind fun x152 =>
  gI .i64 x152 fun i153 =>
  (c149[2]?).bind fun x154 =>
  gI .i64 x154 fun i155 =>
  (c149[3]?).bind fun x156 =>
  gI .i64 x156 fun i157 =>
  (c149[4]?).bind fun x158 =>
  gI .i64 x158 fun i159 =>
  (c149[5]?).bind fun x160 =>
  if c149.length = 6 then
  (frzVs h136 [.agg [.int .i64 i139, .int .i64 i141, .int .i64 i143, .int .i64 i145, .int .i64 i147, x148], .agg [.int .i64 i151, .int .i64 i153, .int .i64 i155, .int .i64 i157, .int .i64 i159, x160]]).bind fun l161 =>
  pcallS (call Ev) Fn.laws_eqRecordResult (normVs [] l161) fun v162 =>
  gV1 v162 fun x163 =>
  gB x163 fun q164 =>
  vcase (bv (!q164))
  (some (bv false))
  ((pureV (call Ev) Fn.laws_toByteS [lv a0]).bind fun v166 =>
  gV1 v166 fun x167 =>
  gF x167 fun z168 =>
  (frzVs h136 [v119, lv z168]).bind fun l169 =>
  pcallS (call Ev) Fn.laws_eqByteS (normVs [] l169) fun v170 =>
  gV1 v170 fun x171 =>
  gB x171 fun q172 =>
  vcase (bv (!q172))
  (some (bv false))
  ((call Ev Fn.laws_markByteS [v119, iv .i64 1] h136).bind fun p174 =>
  gV1 p174.1 fun x175 =>
  gI .i64 x175 fun i176 =>
  vcase (bv (decide (i176 < 0)))
  (Jn.laws_FnExactReadRecord_0 true h136 p174 h123 a0)
  ((loadN 6 (tidy h136 [p174.1] p174.2) (pv h123.n 0)).bind fun c179 =>
  (c179[0]?).bind fun x180 =>
  gI .i64 x180 fun i181 =>
  (c179[1]?).bind fun x182 =>
  gI .i64 x182 fun i183 =>
  (c179[2]?).bind fun x184 =>
  gI .i64 x184 fun i185 =>
  (c179[3]?).bind fun x186 =>
  gI .i64 x186 fun i187 =>
  (c179[4]?).bind fun x188 =>
  gI .i64 x188 fun i189 =>
  (c179[5]?).bind fun x190 =>
  if c179.length = 6 then
  (loadN 6 (tidy h136 [p174.1] p174.2) (pv 0 0)).bind fun c191 =>
  (c191[0]?).bind fun x192 =>
  gI .i64 x192 fun i193 =>
  (c191[1]?).bind fun x194 =>
  gI .i64 x194 fun i195 =>
  (c191[2]?).bind fun x196 =>
  gI .i64 x196 fun i197 =>
  (c191[3]?).bind fun x198 =>
  gI .i64 x198 fun i199 =>
  (c191[4]?).bind fun x200 =>
  gI .i64 x200 fun i201 =>
  (c191[5]?).bind fun x202 =>
  if c191.length = 6 then
  (frzVs (tidy h136 [p174.1] p174.2) [.agg [.int .i64 i181, .int .i64 i183, .int .i64 i185, .int .i64 i187, .int .i64 i189, x190], .agg [.int .i64 i193, .int .i64 i195, .int .i64 i197, .int .i64 i199, .int .i64 i201, x202]]).bind fun l203 =>
  pcallS (call Ev) Fn.laws_eqRecordResult (normVs [] l203) fun v204 =>
  gV1 v204 fun x205 =>
  gB x205 fun q206 =>
  Jn.laws_FnExactReadRecord_0 (!q206) h136 p174 h123 a0
  else none
  else none)))
  else none
  else none
  else none
  else none) := by
  rw [pure_eq]; kernel_rfl

theorem pu_laws_szRecordS (a0 : List (List S)) (a1 : Int) : pureV (call Ev) Fn.laws_szRecordS [lv a0, iv .i64 a1] =
  vcase (bv (decide ((IntKind.i64.wrap (a1 - (a0.length : Int))) < 0)))
  (some (iv .i64 (-1)))
  ((Lp.laws_szRecordS 0 [lv a0, iv .i64 (IntKind.i64.wrap (a1 - (a0.length : Int))), iv .i64 0] (D 0)).bind fun o102 => lcase o102 (fun l103 h104 =>
  (l103[0]?).bind fun w107 =>
  gV1 w107 fun x108 =>
  gI .i64 x108 fun i109 =>
  some (iv .i64 i109)) (fun v105 h106 =>
  frzV h106 v105)) := by
  rw [pure_eq]; kernel_rfl

theorem eq_laws_szRecordS_l0 (s0 : List (List S)) (s1 : Int) (s5 : Int) (h : H) : Lp.laws_szRecordS 0 [lv s0, iv .i64 s1, iv .i64 s5] h =
  vcase (bv (decide (s5 < (s0.length : Int))))
  (idxF 4 s0 s5 fun r203 =>
  (rowN 4 r203 0).bind fun c204 =>
  (c204[0]?).bind fun x205 =>
  gI .i64 x205 fun i206 =>
  (c204[1]?).bind fun x207 =>
  gI .i64 x207 fun i208 =>
  (c204[2]?).bind fun x209 =>
  gI .i64 x209 fun i210 =>
  (c204[3]?).bind fun x211 =>
  gF x211 fun z212 =>
  if c204.length = 4 then
  pcallS (call Ev) Fn.laws_szRecord [.agg [.int .i64 i206, .int .i64 i208, .int .i64 i210, .fs z212], iv .i64 s1] fun v213 =>
  gV1 v213 fun x214 =>
  gI .i64 x214 fun i215 =>
  vcase (bv (decide (i215 < 0)))
  (some (.ret (iv .i64 (-1)) h))
  (Lp.laws_szRecordS 0 [lv s0, iv .i64 i215, iv .i64 (IntKind.i64.wrap (s5 + 1))] (tidy h [lv s0, iv .i64 i215, iv .i64 (IntKind.i64.wrap (s5 + 1))] h))
  else none)
  (some (.done [iv .i64 s1] (tidy h [iv .i64 s1] h))) := by
  unfold Lp.laws_szRecordS; rw [loop_eq]; kernel_rfl

theorem pu_spec_l4Same (a0_0 : Int) (a0_1 : Int) (a0_2 : Int) (a0_3 : List (List S)) (a1_0 : Int) (a1_1 : Int) (a1_2 : Int) (a1_3 : List (List S)) : pureV (call Ev) Fn.spec_l4Same [fv [.int .i64 a0_0, .int .i64 a0_1, .int .i64 a0_2, .fs a0_3] 0, fv [.int .i64 a1_0, .int .i64 a1_1, .int .i64 a1_2, .fs a1_3] 0] =
  vcase (bv (a0_0 != a1_0))
  (some (bv false))
  (vcase (bv (a0_1 != a1_1))
  (some (bv false))
  (vcase (bv (a0_2 != a1_2))
  (some (bv false))
  (vcase (bv ((a0_3.length : Int) != (a1_3.length : Int)))
  (some (bv false))
  ((Lp.spec_l4Same 0 [fv [.int .i64 a0_0, .int .i64 a0_1, .int .i64 a0_2, .fs a0_3] 0, fv [.int .i64 a1_0, .int .i64 a1_1, .int .i64 a1_2, .fs a1_3] 0, iv .i64 0] (D 0)).bind fun o117 => lcase o117 (fun l118 h119 =>
  some (bv true)) (fun v120 h121 =>
  frzV h121 v120))))) := by
  rw [pure_eq]; kernel_rfl

theorem eq_spec_l4Same_l0 (s0_r : List S) (s0_o : Nat) (s1_r : List S) (s1_o : Nat) (s5 : Int) (h : H) : Lp.spec_l4Same 0 [fv s0_r s0_o, fv s1_r s1_o, iv .i64 s5] h =
  (s0_r[s0_o + 3]?).bind fun x201 =>
  gF x201 fun z202 =>
  vcase (bv (decide (s5 < (z202.length : Int))))
  ((s0_r[s0_o + 3]?).bind fun x205 =>
  gF x205 fun z206 =>
  idxF 2 z206 s5 fun r207 =>
  (r207[0]?).bind fun x208 =>
  gI .i64 x208 fun i209 =>
  (s1_r[s1_o + 3]?).bind fun x210 =>
  gF x210 fun z211 =>
  idxF 2 z211 s5 fun r212 =>
  (r212[0]?).bind fun x213 =>
  gI .i64 x213 fun i214 =>
  vcase (bv (i209 != i214))
  (some (.ret (bv false) h))
  ((s0_r[s0_o + 3]?).bind fun x217 =>
  gF x217 fun z218 =>
  idxF 2 z218 s5 fun r219 =>
  (r219[1]?).bind fun x220 =>
  gF x220 fun z221 =>
  (fsStr z221).bind fun v222 =>
  gV1 v222 fun x223 =>
  gS x223 fun y224 =>
  (s1_r[s1_o + 3]?).bind fun x225 =>
  gF x225 fun z226 =>
  idxF 2 z226 s5 fun r227 =>
  (r227[1]?).bind fun x228 =>
  gF x228 fun z229 =>
  (fsStr z229).bind fun v230 =>
  gV1 v230 fun x231 =>
  gS x231 fun y232 =>
  vcase (bv (!((y224 : ByteArray).toList == (y232 : ByteArray).toList)))
  (some (.ret (bv false) h))
  (Lp.spec_l4Same 0 [fv s0_r s0_o, fv s1_r s1_o, iv .i64 (IntKind.i64.wrap (s5 + 1))] (tidy h [fv s0_r s0_o, fv s1_r s1_o, iv .i64 (IntKind.i64.wrap (s5 + 1))] h))))
  (some (.done [] (tidy h [] h))) := by
  unfold Lp.spec_l4Same; rw [loop_eq]; kernel_rfl

theorem pu_spec_SameRecords (a0 : List (List S)) (a1 : List (List S)) : pureV (call Ev) Fn.spec_SameRecords [lv a0, lv a1] =
  vcase (bv ((a0.length : Int) != (a1.length : Int)))
  (some (bv false))
  ((Lp.spec_SameRecords 0 [lv a0, lv a1, iv .i64 0] (D 0)).bind fun o102 => lcase o102 (fun l103 h104 =>
  some (bv true)) (fun v105 h106 =>
  frzV h106 v105)) := by
  rw [pure_eq]; kernel_rfl

theorem eq_spec_SameRecords_l0 (s0 : List (List S)) (s1 : List (List S)) (s5 : Int) (h : H) : Lp.spec_SameRecords 0 [lv s0, lv s1, iv .i64 s5] h =
  vcase (bv (decide (s5 < (s0.length : Int))))
  (idxF 4 s0 s5 fun r203 =>
  idxF 4 s1 s5 fun r204 =>
  pcallS (call Ev) Fn.spec_l4Same [normV 4 (fv r203 0), normV 4 (fv r204 0)] fun v205 =>
  gV1 v205 fun x206 =>
  gB x206 fun q207 =>
  hchk h h (
  vcase (bv (!q207))
  (some (.ret (bv false) h))
  (Lp.spec_SameRecords 0 [lv s0, lv s1, iv .i64 (IntKind.i64.wrap (s5 + 1))] (tidy h [lv s0, lv s1, iv .i64 (IntKind.i64.wrap (s5 + 1))] h))))
  (some (.done [] (tidy h [] h))) := by
  unfold Lp.spec_SameRecords; rw [loop_eq]; kernel_rfl

theorem eq_laws_toRecordS (a0 : List (List S)) (n : Nat) : call Ev Fn.laws_toRecordS [lv a0] (D n) =
  (mkSl 4 [.int .i64 0, .int .i64 0, .int .i64 0, .sl none 0] (D n) (iv .i64 (a0.length : Int)) (iv .i64 (a0.length : Int))).bind fun p101 =>
  (Lp.laws_toRecordS 0 [lv a0, p101.1, iv .i64 0] p101.2).bind fun o102 => lcase o102 (fun l103 h104 =>
  (l103[0]?).bind fun w107 =>
  some (w107, h104)) (fun v105 h106 =>
  some (v105, h106)) := by
  rw [call_eq]; kernel_rfl

theorem eq_laws_toRecordS_l0 (s0 : List (List S)) (s3 : V) (s4 : Int) (h : H) : Lp.laws_toRecordS 0 [lv s0, s3, iv .i64 s4] h =
  vcase (bv (decide (s4 < (s0.length : Int))))
  (idxF 4 s0 s4 fun r203 =>
  (rowN 4 r203 0).bind fun c204 =>
  (c204[0]?).bind fun x205 =>
  gI .i64 x205 fun i206 =>
  (c204[1]?).bind fun x207 =>
  gI .i64 x207 fun i208 =>
  (c204[2]?).bind fun x209 =>
  gI .i64 x209 fun i210 =>
  (c204[3]?).bind fun x211 =>
  gF x211 fun z212 =>
  if c204.length = 4 then
  pcallF (call Ev) Fn.laws_toRecord true [.agg [.int .i64 i206, .int .i64 i208, .int .i64 i210, .fs z212]] h fun v213 h214 =>
  gVA v213 fun c215 =>
  (c215[0]?).bind fun x216 =>
  gI .i64 x216 fun i217 =>
  (c215[1]?).bind fun x218 =>
  gI .i64 x218 fun i219 =>
  (c215[2]?).bind fun x220 =>
  gI .i64 x220 fun i221 =>
  (c215[3]?).bind fun x222 =>
  if c215.length = 4 then
  idxK 4 s3 (iv .i64 s4) fun v223 =>
  stK 4 h214 v223 (.agg [.int .i64 i217, .int .i64 i219, .int .i64 i221, x222]) fun h224 =>
  Lp.laws_toRecordS 0 [lv s0, s3, iv .i64 (IntKind.i64.wrap (s4 + 1))] (tidy h [lv s0, s3, iv .i64 (IntKind.i64.wrap (s4 + 1))] h224)
  else none
  else none)
  (some (.done [s3] (tidy h [s3] h))) := by
  unfold Lp.laws_toRecordS; rw [loop_eq]; kernel_rfl

theorem pu_slices_EqualFunc_impl_Record_impl_Record_impl_Record_impl_Record (a0 : List (List S)) (a1 : List (List S)) : pureV (call Ev) Fn.slices_EqualFunc_impl_Record_impl_Record_impl_Record_impl_Record [lv a0, lv a1, .s (.fn Fn.impl_SameRecords_1 [])] =
  vcase (bv ((a0.length : Int) != (a1.length : Int)))
  (some (bv false))
  ((Lp.slices_EqualFunc_impl_Record_impl_Record_impl_Record_impl_Record 0 [lv a1, .s (.fn Fn.impl_SameRecords_1 []), lv a0, iv .i64 (a0.length : Int), iv .i64 0] (D 0)).bind fun o102 => lcase o102 (fun l103 h104 =>
  some (bv true)) (fun v105 h106 =>
  frzV h106 v105)) := by
  rw [pure_eq]; kernel_rfl

theorem eq_slices_EqualFunc_impl_Record_impl_Record_impl_Record_impl_Record_l0 (s1 : List (List S)) (s15 : List (List S)) (s16 : Int) (s17 : Int) (h : H) : Lp.slices_EqualFunc_impl_Record_impl_Record_impl_Record_impl_Record 0 [lv s1, .s (.fn Fn.impl_SameRecords_1 []), lv s15, iv .i64 s16, iv .i64 s17] h =
  vcase (bv (decide (s17 < s16)))
  (idxF 4 s15 s17 fun r203 =>
  (rowN 4 r203 0).bind fun c204 =>
  (c204[0]?).bind fun x205 =>
  gI .i64 x205 fun i206 =>
  (c204[1]?).bind fun x207 =>
  gI .i64 x207 fun i208 =>
  (c204[2]?).bind fun x209 =>
  gI .i64 x209 fun i210 =>
  (c204[3]?).bind fun x211 =>
  gF x211 fun z212 =>
  if c204.length = 4 then
  stK 4 (h.new 0 [.int .i64 0, .int .i64 0, .int .i64 0, .sl none 0]) (pv h.n 0) (.agg [.int .i64 i206, .int .i64 i208, .int .i64 i210, .fs z212]) fun h213 =>
  idxF 4 s1 s17 fun r214 =>
  (rowN 4 r214 0).bind fun c215 =>
  (c215[0]?).bind fun x216 =>
  gI .i64 x216 fun i217 =>
  (c215[1]?).bind fun x218 =>
  gI .i64 x218 fun i219 =>
  (c215[2]?).bind fun x220 =>
  gI .i64 x220 fun i221 =>
  (c215[3]?).bind fun x222 =>
  gF x222 fun z223 =>
  if c215.length = 4 then
  stK 4 (h213.new 0 [.int .i64 0, .int .i64 0, .int .i64 0, .sl none 0]) (pv h213.n 0) (.agg [.int .i64 i217, .int .i64 i219, .int .i64 i221, .fs z223]) fun h224 =>
  (loadN 4 h224 (pv h.n 0)).bind fun c225 =>
  (c225[0]?).bind fun x226 =>
  gI .i64 x226 fun i227 =>
  (c225[1]?).bind fun x228 =>
  gI .i64 x228 fun i229 =>
  (c225[2]?).bind fun x230 =>
  gI .i64 x230 fun i231 =>
  (c225[3]?).bind fun x232 =>
  if c225.length = 4 then
  (loadN 4 h224 (pv h213.n 0)).bind fun c233 =>
  (c233[0]?).bind fun x234 =>
  gI .i64 x234 fun i235 =>
  (c233[1]?).bind fun x236 =>
  gI .i64 x236 fun i237 =>
  (c233[2]?).bind fun x238 =>
  gI .i64 x238 fun i239 =>
  (c233[3]?).bind fun x240 =>
  if c233.length = 4 then
  (frzVs h224 [.agg [.int .i64 i227, .int .i64 i229, .int .i64 i231, x232], .agg [.int .i64 i235, .int .i64 i237, .int .i64 i239, x240]]).bind fun l241 =>
  pcallS (call Ev) Fn.impl_SameRecords_1 (normVs [] l241) fun v242 =>
  gV1 v242 fun x243 =>
  gB x243 fun q244 =>
  vcase (bv (!q244))
  (some (.ret (bv false) h224))
  (Lp.slices_EqualFunc_impl_Record_impl_Record_impl_Record_impl_Record 0 [lv s1, .s (.fn Fn.impl_SameRecords_1 []), lv s15, iv .i64 s16, iv .i64 (IntKind.i64.wrap (s17 + 1))] (tidy h [lv s1, .s (.fn Fn.impl_SameRecords_1 []), lv s15, iv .i64 s16, iv .i64 (IntKind.i64.wrap (s17 + 1))] h224))
  else none
  else none
  else none
  else none)
  (some (.done [] (tidy h [] h))) := by
  unfold Lp.slices_EqualFunc_impl_Record_impl_Record_impl_Record_impl_Record; rw [loop_eq]; kernel_rfl

theorem pu_slices_EqualFunc_impl_Run_impl_Run_impl_Run_impl_Run (a0 : List (List S)) (a1 : List (List S)) : pureV (call Ev) Fn.slices_EqualFunc_impl_Run_impl_Run_impl_Run_impl_Run [lv a0, lv a1, .s (.fn Fn.impl_sameRuns_1 [])] =
  vcase (bv ((a0.length : Int) != (a1.length : Int)))
  (some (bv false))
  ((Lp.slices_EqualFunc_impl_Run_impl_Run_impl_Run_impl_Run 0 [lv a1, .s (.fn Fn.impl_sameRuns_1 []), lv a0, iv .i64 (a0.length : Int), iv .i64 0] (D 0)).bind fun o102 => lcase o102 (fun l103 h104 =>
  some (bv true)) (fun v105 h106 =>
  frzV h106 v105)) := by
  rw [pure_eq]; kernel_rfl

theorem eq_slices_EqualFunc_impl_Run_impl_Run_impl_Run_impl_Run_l0 (s1 : List (List S)) (s15 : List (List S)) (s16 : Int) (s17 : Int) (h : H) : Lp.slices_EqualFunc_impl_Run_impl_Run_impl_Run_impl_Run 0 [lv s1, .s (.fn Fn.impl_sameRuns_1 []), lv s15, iv .i64 s16, iv .i64 s17] h =
  vcase (bv (decide (s17 < s16)))
  (idxF 2 s15 s17 fun r203 =>
  (rowN 2 r203 0).bind fun c204 =>
  (c204[0]?).bind fun x205 =>
  gI .i64 x205 fun i206 =>
  (c204[1]?).bind fun x207 =>
  gF x207 fun z208 =>
  if c204.length = 2 then
  stK 2 (h.new 0 [.int .i64 0, .sl none 0]) (pv h.n 0) (.agg [.int .i64 i206, .fs z208]) fun h209 =>
  idxF 2 s1 s17 fun r210 =>
  (rowN 2 r210 0).bind fun c211 =>
  (c211[0]?).bind fun x212 =>
  gI .i64 x212 fun i213 =>
  (c211[1]?).bind fun x214 =>
  gF x214 fun z215 =>
  if c211.length = 2 then
  stK 2 (h209.new 0 [.int .i64 0, .sl none 0]) (pv h209.n 0) (.agg [.int .i64 i213, .fs z215]) fun h216 =>
  (loadN 2 h216 (pv h.n 0)).bind fun c217 =>
  (c217[0]?).bind fun x218 =>
  gI .i64 x218 fun i219 =>
  (c217[1]?).bind fun x220 =>
  if c217.length = 2 then
  (loadN 2 h216 (pv h209.n 0)).bind fun c221 =>
  (c221[0]?).bind fun x222 =>
  gI .i64 x222 fun i223 =>
  (c221[1]?).bind fun x224 =>
  if c221.length = 2 then
  (frzVs h216 [.agg [.int .i64 i219, x220], .agg [.int .i64 i223, x224]]).bind fun l225 =>
  pcallS (call Ev) Fn.impl_sameRuns_1 (normVs [] l225) fun v226 =>
  gV1 v226 fun x227 =>
  gB x227 fun q228 =>
  vcase (bv (!q228))
  (some (.ret (bv false) h216))
  (Lp.slices_EqualFunc_impl_Run_impl_Run_impl_Run_impl_Run 0 [lv s1, .s (.fn Fn.impl_sameRuns_1 []), lv s15, iv .i64 s16, iv .i64 (IntKind.i64.wrap (s17 + 1))] (tidy h [lv s1, .s (.fn Fn.impl_sameRuns_1 []), lv s15, iv .i64 s16, iv .i64 (IntKind.i64.wrap (s17 + 1))] h216))
  else none
  else none
  else none
  else none)
  (some (.done [] (tidy h [] h))) := by
  unfold Lp.slices_EqualFunc_impl_Run_impl_Run_impl_Run_impl_Run; rw [loop_eq]; kernel_rfl

theorem pu_impl_sameRuns_1 (a0_0 : Int) (a0_1 : List (List S)) (a1_0 : Int) (a1_1 : List (List S)) : pureV (call Ev) Fn.impl_sameRuns_1 [.agg [.int .i64 a0_0, .fs a0_1], .agg [.int .i64 a1_0, .fs a1_1]] =
  vcase (bv (a0_0 == a1_0))
  (pcallS (call Ev) Fn.slices_Equal_byte_byte [lv a0_1, lv a1_1] fun v102 =>
  gV1 v102 fun x103 =>
  gB x103 fun q104 =>
  some (bv q104))
  (some (bv false)) := by
  rw [pure_eq]; kernel_rfl

theorem pu_impl_sameRuns (a0 : List (List S)) (a1 : List (List S)) : pureV (call Ev) Fn.impl_sameRuns [lv a0, lv a1] =
  pcallS (call Ev) Fn.slices_EqualFunc_impl_Run_impl_Run_impl_Run_impl_Run [lv a0, lv a1, .s (.fn Fn.impl_sameRuns_1 [])] fun v101 =>
  gV1 v101 fun x102 =>
  gB x102 fun q103 =>
  some (bv q103) := by
  rw [pure_eq]; kernel_rfl

theorem pu_impl_SameRecords_1 (a0_0 : Int) (a0_1 : Int) (a0_2 : Int) (a0_3 : List (List S)) (a1_0 : Int) (a1_1 : Int) (a1_2 : Int) (a1_3 : List (List S)) : pureV (call Ev) Fn.impl_SameRecords_1 [.agg [.int .i64 a0_0, .int .i64 a0_1, .int .i64 a0_2, .fs a0_3], .agg [.int .i64 a1_0, .int .i64 a1_1, .int .i64 a1_2, .fs a1_3]] =
  vcase (bv (a0_0 == a1_0))
  (vcase (bv (a0_1 == a1_1))
  (vcase (bv (a0_2 == a1_2))
  (pcallS (call Ev) Fn.impl_sameRuns [lv a0_3, lv a1_3] fun v108 =>
  gV1 v108 fun x109 =>
  gB x109 fun q110 =>
  some (bv q110))
  (some (bv false)))
  (some (bv false)))
  (some (bv false)) := by
  rw [pure_eq]; kernel_rfl

theorem pu_impl_SameRecords (a0 : List (List S)) (a1 : List (List S)) : pureV (call Ev) Fn.impl_SameRecords [lv a0, lv a1] =
  pcallS (call Ev) Fn.slices_EqualFunc_impl_Record_impl_Record_impl_Record_impl_Record [lv a0, lv a1, .s (.fn Fn.impl_SameRecords_1 [])] fun v101 =>
  gV1 v101 fun x102 =>
  gB x102 fun q103 =>
  some (bv q103) := by
  rw [pure_eq]; kernel_rfl

theorem pu_laws_eqRecordS (a0 : List (List S)) (a1 : List (List S)) : pureV (call Ev) Fn.laws_eqRecordS [lv a0, lv a1] =
  vcase (bv ((a0.length : Int) != (a1.length : Int)))
  (some (bv false))
  ((Lp.laws_eqRecordS 0 [lv a0, lv a1, iv .i64 0] (D 0)).bind fun o102 => lcase o102 (fun l103 h104 =>
  some (bv true)) (fun v105 h106 =>
  frzV h106 v105)) := by
  rw [pure_eq]; kernel_rfl

theorem eq_laws_eqRecordS_l0 (s0 : List (List S)) (s1 : List (List S)) (s5 : Int) (h : H) : Lp.laws_eqRecordS 0 [lv s0, lv s1, iv .i64 s5] h =
  vcase (bv (decide (s5 < (s0.length : Int))))
  (idxF 4 s0 s5 fun r203 =>
  (rowN 4 r203 0).bind fun c204 =>
  (c204[0]?).bind fun x205 =>
  gI .i64 x205 fun i206 =>
  (c204[1]?).bind fun x207 =>
  gI .i64 x207 fun i208 =>
  (c204[2]?).bind fun x209 =>
  gI .i64 x209 fun i210 =>
  (c204[3]?).bind fun x211 =>
  gF x211 fun z212 =>
  if c204.length = 4 then
  idxF 4 s1 s5 fun r213 =>
  (rowN 4 r213 0).bind fun c214 =>
  (c214[0]?).bind fun x215 =>
  gI .i64 x215 fun i216 =>
  (c214[1]?).bind fun x217 =>
  gI .i64 x217 fun i218 =>
  (c214[2]?).bind fun x219 =>
  gI .i64 x219 fun i220 =>
  (c214[3]?).bind fun x221 =>
  gF x221 fun z222 =>
  if c214.length = 4 then
  pcallS (call Ev) Fn.laws_eqRecord [.agg [.int .i64 i206, .int .i64 i208, .int .i64 i210, .fs z212], .agg [.int .i64 i216, .int .i64 i218, .int .i64 i220, .fs z222]] fun v223 =>
  gV1 v223 fun x224 =>
  gB x224 fun q225 =>
  hchk h h (
  vcase (bv (!q225))
  (some (.ret (bv false) h))
  (Lp.laws_eqRecordS 0 [lv s0, lv s1, iv .i64 (IntKind.i64.wrap (s5 + 1))] (tidy h [lv s0, lv s1, iv .i64 (IntKind.i64.wrap (s5 + 1))] h)))
  else none
  else none)
  (some (.done [] (tidy h [] h))) := by
  unfold Lp.laws_eqRecordS; rw [loop_eq]; kernel_rfl

theorem pu_laws_FnExactSameRecords (a0 : List (List S)) (a1 : List (List S)) : pureV (call Ev) Fn.laws_FnExactSameRecords [lv a0, lv a1] =
  pcallS (call Ev) Fn.laws_szRecordS [lv a0, iv .i64 1048576] fun v101 =>
  gV1 v101 fun x102 =>
  gI .i64 x102 fun i103 =>
  vcase (bv (decide (i103 < 0)))
  (some (bv true))
  (pcallS (call Ev) Fn.laws_szRecordS [lv a1, iv .i64 i103] fun v105 =>
  gV1 v105 fun x106 =>
  gI .i64 x106 fun i107 =>
  vcase (bv (decide (i107 < 0)))
  (some (bv true))
  ((pureV (call Ev) Fn.laws_toRecordS [lv a0]).bind fun v109 =>
  gV1 v109 fun x110 =>
  gF x110 fun z111 =>
  (pureV (call Ev) Fn.laws_toRecordS [lv a1]).bind fun v112 =>
  gV1 v112 fun x113 =>
  gF x113 fun z114 =>
  pcallS (call Ev) Fn.spec_SameRecords [lv z111, lv z114] fun v115 =>
  gV1 v115 fun x116 =>
  gB x116 fun q117 =>
  (pureV (call Ev) Fn.laws_toRecordS [lv a0]).bind fun v118 =>
  gV1 v118 fun x119 =>
  gF x119 fun z120 =>
  (pureV (call Ev) Fn.laws_toRecordS [lv a1]).bind fun v121 =>
  gV1 v121 fun x122 =>
  gF x122 fun z123 =>
  pcallS (call Ev) Fn.impl_SameRecords [lv z120, lv z123] fun v124 =>
  gV1 v124 fun x125 =>
  gB x125 fun q126 =>
  vcase (bv (!(q126 == q117)))
  (some (bv false))
  ((pureV (call Ev) Fn.laws_toRecordS [lv a0]).bind fun v128 =>
  gV1 v128 fun x129 =>
  gF x129 fun z130 =>
  pcallS (call Ev) Fn.laws_eqRecordS [lv z120, lv z130] fun v131 =>
  gV1 v131 fun x132 =>
  gB x132 fun q133 =>
  vcase (bv (!q133))
  (some (bv false))
  ((pureV (call Ev) Fn.laws_toRecordS [lv a1]).bind fun v135 =>
  gV1 v135 fun x136 =>
  gF x136 fun z137 =>
  pcallS (call Ev) Fn.laws_eqRecordS [lv z123, lv z137] fun v138 =>
  gV1 v138 fun x139 =>
  gB x139 fun q140 =>
  vcase (bv (!q140))
  (some (bv false))
  (some (bv true)))))) := by
  rw [pure_eq]; kernel_rfl

theorem pu_laws_szLog (a0_0 : List (List S)) (a0_1 : List (List S)) (a1 : Int) : pureV (call Ev) Fn.laws_szLog [.agg [.fs a0_0, .fs a0_1], iv .i64 a1] =
  pcallS (call Ev) Fn.laws_szByteS [lv a0_0, iv .i64 a1] fun v101 =>
  gV1 v101 fun x102 =>
  gI .i64 x102 fun i103 =>
  vcase (bv (decide (i103 < 0)))
  (some (iv .i64 (-1)))
  (pcallS (call Ev) Fn.laws_szByteS [lv a0_1, iv .i64 i103] fun v105 =>
  gV1 v105 fun x106 =>
  gI .i64 x106 fun i107 =>
  vcase (bv (decide (i107 < 0)))
  (some (iv .i64 (-1)))
  (some (iv .i64 i107))) := by
  rw [pure_eq]; kernel_rfl

theorem eq_spec_l5Read (a0 : List (List S)) (n : Nat) : call Ev Fn.spec_l5Read [lv a0] (D n) =
  (Lp.spec_l5Read 0 [lv a0, sv ((D n).n) 0 0, iv .i64 0] ((D n).new 4 [])).bind fun o101 => lcase o101 (fun l102 h103 =>
  (l102[0]?).bind fun w106 =>
  (l102[1]?).bind fun w107 =>
  gV1 w107 fun x108 =>
  gI .i64 x108 fun i109 =>
  (V.toA w106).bind fun t110 =>
  some (.tup [t110, .s (.int .i64 i109)], h103)) (fun v104 h105 =>
  some (v104, h105)) := by
  rw [call_eq]; kernel_rfl

theorem eq_spec_l5Read_l0 (s0 : List (List S)) (s4 : V) (s5 : Int) (h : H) : Lp.spec_l5Read 0 [lv s0, s4, iv .i64 s5] h =
  vcase (bv (decide (s5 < (s0.length : Int))))
  (slF 1 s0 (some (iv .i64 s5)) none fun z203 =>
  (pureV (call Ev) Fn.spec_ReadRecord [lv z203]).bind fun v204 =>
  gVA v204 fun c205 =>
  (c205[0]?).bind fun x206 =>
  gI .i64 x206 fun i207 =>
  (c205[1]?).bind fun x208 =>
  gI .i64 x208 fun i209 =>
  (c205[2]?).bind fun x210 =>
  gI .i64 x210 fun i211 =>
  (c205[3]?).bind fun x212 =>
  gI .i64 x212 fun i213 =>
  (c205[4]?).bind fun x214 =>
  gI .i64 x214 fun i215 =>
  (c205[5]?).bind fun x216 =>
  gF x216 fun z217 =>
  if c205.length = 6 then
  stK 6 (h.new 0 [.int .i64 0, .int .i64 0, .int .i64 0, .int .i64 0, .int .i64 0, .sl none 0]) (pv h.n 0) (.agg [.int .i64 i207, .int .i64 i209, .int .i64 i211, .int .i64 i213, .int .i64 i215, .fs z217]) fun h218 =>
  (load1 h218 (pv h.n 0)).bind fun x219 =>
  gI .i64 x219 fun i220 =>
  vcase (bv (i220 != 0))
  (some (.done [s4, iv .i64 s5] (tidy h [s4, iv .i64 s5] h218)))
  ((loadN 4 h218 (pv h.n 2)).bind fun c222 =>
  (c222[0]?).bind fun x223 =>
  gI .i64 x223 fun i224 =>
  (c222[1]?).bind fun x225 =>
  gI .i64 x225 fun i226 =>
  (c222[2]?).bind fun x227 =>
  gI .i64 x227 fun i228 =>
  (c222[3]?).bind fun x229 =>
  if c222.length = 4 then
  (appS 4 (h218.new 4 [.int .i64 i224, .int .i64 i226, .int .i64 i228, x229]) s4 (sv h218.n 0 1)).bind fun p230 =>
  (load1 p230.2 (pv h.n 1)).bind fun x231 =>
  gI .i64 x231 fun i232 =>
  Lp.spec_l5Read 0 [lv s0, p230.1, iv .i64 (IntKind.i64.wrap (s5 + i232))] (tidy h [lv s0, p230.1, iv .i64 (IntKind.i64.wrap (s5 + i232))] p230.2)
  else none)
  else none)
  (some (.done [s4, iv .i64 s5] (tidy h [s4, iv .i64 s5] h))) := by
  unfold Lp.spec_l5Read; rw [loop_eq]; kernel_rfl

theorem pu_spec_l5Fault (a0_0 : List (List S)) (a0_1 : List (List S)) : pureV (call Ev) Fn.spec_l5Fault [fv [.fs a0_0, .fs a0_1] 0] =
  vcase (bv (decide ((IntKind.i64.wrap ((a0_0.length : Int) + (a0_1.length : Int))) > 16000)))
  (some (iv .i64 2))
  ((pureV (call Ev) Fn.spec_l5Read [lv a0_0]).bind fun v102 =>
  gVT v102 fun u103 =>
  (u103[0]?).bind fun t104 =>
  gA1 t104 fun x105 =>
  gF x105 fun z106 =>
  (u103[1]?).bind fun t107 =>
  gA1 t107 fun x108 =>
  gI .i64 x108 fun i109 =>
  if u103.length = 2 then
  vcase (bv (i109 != (a0_0.length : Int)))
  (some (iv .i64 5))
  ((pureV (call Ev) Fn.spec_l5Read [lv a0_1]).bind fun v111 =>
  gVT v111 fun u112 =>
  (u112[0]?).bind fun t113 =>
  gA1 t113 fun x114 =>
  gF x114 fun z115 =>
  (u112[1]?).bind fun t116 =>
  gA1 t116 fun x117 =>
  gI .i64 x117 fun i118 =>
  if u112.length = 2 then
  vcase (bv (i118 != (a0_1.length : Int)))
  (some (iv .i64 5))
  (some (iv .i64 0))
  else none)
  else none) := by
  rw [pure_eq]; kernel_rfl

theorem pu_spec_LogFault (a0_0 : List (List S)) (a0_1 : List (List S)) : pureV (call Ev) Fn.spec_LogFault [.agg [.fs a0_0, .fs a0_1]] =
  pcallS (call Ev) Fn.spec_l5Fault [fv [.fs a0_0, .fs a0_1] 0] fun v101 =>
  gV1 v101 fun x102 =>
  gI .i64 x102 fun i103 =>
  some (iv .i64 i103) := by
  rw [pure_eq]; kernel_rfl

theorem eq_laws_toLog (a0_0 : List (List S)) (a0_1 : List (List S)) (n : Nat) : call Ev Fn.laws_toLog [.agg [.fs a0_0, .fs a0_1]] (D n) =
  (load1 ((((D n).new 0 [.fs a0_0, .fs a0_1]).new 0 [.sl none 0, .sl none 0]).new 0 [.sl none 0, .sl none 0]) (pv ((D n).n) 0)).bind fun x101 =>
  (frzVs ((((D n).new 0 [.fs a0_0, .fs a0_1]).new 0 [.sl none 0, .sl none 0]).new 0 [.sl none 0, .sl none 0]) [.s x101]).bind fun l102 =>
  pcallF (call Ev) Fn.laws_toByteS ([.s x101].all offV) (normVs [] l102) ((((D n).new 0 [.fs a0_0, .fs a0_1]).new 0 [.sl none 0, .sl none 0]).new 0 [.sl none 0, .sl none 0]) fun v103 h104 =>
  stK 1 h104 (pv ((((D n).new 0 [.fs a0_0, .fs a0_1]).new 0 [.sl none 0, .sl none 0]).n) 0) v103 fun h105 =>
  (load1 h105 (pv ((D n).n) 1)).bind fun x106 =>
  (frzVs h105 [.s x106]).bind fun l107 =>
  pcallF (call Ev) Fn.laws_toByteS ([.s x106].all offV) (normVs [] l107) h105 fun v108 h109 =>
  stK 1 h109 (pv ((((D n).new 0 [.fs a0_0, .fs a0_1]).new 0 [.sl none 0, .sl none 0]).n) 1) v108 fun h110 =>
  (loadN 2 h110 (pv ((((D n).new 0 [.fs a0_0, .fs a0_1]).new 0 [.sl none 0, .sl none 0]).n) 0)).bind fun c111 =>
  (c111[0]?).bind fun x112 =>
  (c111[1]?).bind fun x113 =>
  if c111.length = 2 then
  stK 2 h110 (pv (((D n).new 0 [.fs a0_0, .fs a0_1]).n) 0) (.agg [x112, x113]) fun h114 =>
  (loadN 2 h114 (pv (((D n).new 0 [.fs a0_0, .fs a0_1]).n) 0)).bind fun c115 =>
  some (.agg c115, h114)
  else none := by
  rw [call_eq]; kernel_rfl

theorem pu_impl_Log_size (a0_0 : List (List S)) (a0_1 : List (List S)) : pureV (call Ev) Fn.impl_Log_size [.agg [.fs a0_0, .fs a0_1]] =
  some (iv .i64 (IntKind.i64.wrap ((a0_0.length : Int) + (a0_1.length : Int)))) := by
  rw [pure_eq]; kernel_rfl

theorem eq_impl_readAll (a0 : List (List S)) (n : Nat) : call Ev Fn.impl_readAll [lv a0] (D n) =
  (Lp.impl_readAll 0 [lv a0, .s (.sl none 0), iv .i64 0] (D n)).bind fun o101 => lcase o101 (fun l102 h103 =>
  (l102[0]?).bind fun w106 =>
  (l102[1]?).bind fun w107 =>
  gV1 w107 fun x108 =>
  gI .i64 x108 fun i109 =>
  (V.toA w106).bind fun t110 =>
  some (.tup [t110, .s (.int .i64 i109)], h103)) (fun v104 h105 =>
  some (v104, h105)) := by
  rw [call_eq]; kernel_rfl

theorem eq_impl_readAll_l0 (s0 : List (List S)) (s4 : V) (s5 : Int) (h : H) : Lp.impl_readAll 0 [lv s0, s4, iv .i64 s5] h =
  slF 1 s0 (some (iv .i64 s5)) none fun z202 =>
  pcallF (call Ev) Fn.impl_read true [lv z202] h fun v203 h204 =>
  gVT v203 fun u205 =>
  (u205[0]?).bind fun t206 =>
  gAA t206 fun c207 =>
  (c207[0]?).bind fun x208 =>
  gI .i64 x208 fun i209 =>
  (c207[1]?).bind fun x210 =>
  gI .i64 x210 fun i211 =>
  (c207[2]?).bind fun x212 =>
  gI .i64 x212 fun i213 =>
  (c207[3]?).bind fun x214 =>
  if c207.length = 4 then
  (u205[1]?).bind fun t215 =>
  gA1 t215 fun x216 =>
  gI .i64 x216 fun i217 =>
  if u205.length = 2 then
  stK 4 (h204.new 0 [.int .i64 0, .int .i64 0, .int .i64 0, .sl none 0]) (pv h204.n 0) (.agg [.int .i64 i209, .int .i64 i211, .int .i64 i213, x214]) fun h218 =>
  vcase (bv (i217 == 0))
  ((V.toA s4).bind fun t220 =>
  some (.ret (.tup [t220, .s (.int .i64 s5)]) h218))
  ((loadN 4 h218 (pv h204.n 0)).bind fun c221 =>
  (c221[0]?).bind fun x222 =>
  gI .i64 x222 fun i223 =>
  (c221[1]?).bind fun x224 =>
  gI .i64 x224 fun i225 =>
  (c221[2]?).bind fun x226 =>
  gI .i64 x226 fun i227 =>
  (c221[3]?).bind fun x228 =>
  if c221.length = 4 then
  (appS 4 (h218.new 4 [.int .i64 i223, .int .i64 i225, .int .i64 i227, x228]) s4 (sv h218.n 0 1)).bind fun p229 =>
  Lp.impl_readAll 0 [lv s0, p229.1, iv .i64 (IntKind.i64.wrap (s5 + i217))] (tidy h [lv s0, p229.1, iv .i64 (IntKind.i64.wrap (s5 + i217))] p229.2)
  else none)
  else none
  else none := by
  unfold Lp.impl_readAll; rw [loop_eq]; kernel_rfl

theorem pu_impl_LogFault (a0_0 : List (List S)) (a0_1 : List (List S)) : pureV (call Ev) Fn.impl_LogFault [.agg [.fs a0_0, .fs a0_1]] =
  pcallS (call Ev) Fn.impl_Log_size [.agg [.fs a0_0, .fs a0_1]] fun v101 =>
  gV1 v101 fun x102 =>
  gI .i64 x102 fun i103 =>
  vcase (bv (decide (i103 > 16000)))
  (some (iv .i64 2))
  ((Lp.impl_LogFault 0 [sv 1 0 2, iv .i64 ((2 : Nat) : Int), iv .i64 0] (((D 0).new 0 [.fs a0_0, .fs a0_1]).new 1 [.fs a0_0, .fs a0_1])).bind fun o105 => lcase o105 (fun l106 h107 =>
  some (iv .i64 0)) (fun v108 h109 =>
  frzV h109 v108)) := by
  rw [pure_eq]; kernel_rfl

theorem eq_impl_LogFault_l0 (s14 : V) (s15 : Int) (s16 : Int) (h : H) : Lp.impl_LogFault 0 [s14, iv .i64 s15, iv .i64 s16] h =
  vcase (bv (decide (s16 < s15)))
  (idxK 1 s14 (iv .i64 s16) fun v203 =>
  ldK (.one (.f)) ⟨1, 24, [.sl none 0], false, .sl 5, false⟩ h v203 fun v204 =>
  bif ([v204].all offV) then
  (frzVs h [v204]).bind fun l205 =>
  (pureV (call Ev) Fn.impl_readAll (normVs [] l205)).bind fun v206 =>
  gVT v206 fun u207 =>
  (u207[0]?).bind fun t208 =>
  gA1 t208 fun x209 =>
  gF x209 fun z210 =>
  (u207[1]?).bind fun t211 =>
  gA1 t211 fun x212 =>
  gI .i64 x212 fun i213 =>
  if u207.length = 2 then
  (lenV (.sl 5) v204).bind fun v214 =>
  gV1 v214 fun x215 =>
  gI .i64 x215 fun i216 =>
  vcase (bv (i213 != i216))
  (some (.ret (iv .i64 5) h))
  (Lp.impl_LogFault 0 [s14, iv .i64 s15, iv .i64 (IntKind.i64.wrap (s16 + 1))] (tidy h [s14, iv .i64 s15, iv .i64 (IntKind.i64.wrap (s16 + 1))] h))
  else none
  else none)
  (some (.done [] (tidy h [] h))) := by
  unfold Lp.impl_LogFault; rw [loop_eq]; kernel_rfl

theorem pu_laws_eqLog (a0_0 : List (List S)) (a0_1 : List (List S)) (a1_0 : List (List S)) (a1_1 : List (List S)) : pureV (call Ev) Fn.laws_eqLog [.agg [.fs a0_0, .fs a0_1], .agg [.fs a1_0, .fs a1_1]] =
  pcallS (call Ev) Fn.laws_eqByteS [lv a0_0, lv a1_0] fun v101 =>
  gV1 v101 fun x102 =>
  gB x102 fun q103 =>
  vcase (bv (!q103))
  (some (bv false))
  (pcallS (call Ev) Fn.laws_eqByteS [lv a0_1, lv a1_1] fun v105 =>
  gV1 v105 fun x106 =>
  gB x106 fun q107 =>
  vcase (bv (!q107))
  (some (bv false))
  (some (bv true))) := by
  rw [pure_eq]; kernel_rfl

theorem pu_laws_FnExactLogFault (a0_0 : List (List S)) (a0_1 : List (List S)) : pureV (call Ev) Fn.laws_FnExactLogFault [.agg [.fs a0_0, .fs a0_1]] =
  pcallS (call Ev) Fn.laws_szLog [.agg [.fs a0_0, .fs a0_1], iv .i64 1048576] fun v101 =>
  gV1 v101 fun x102 =>
  gI .i64 x102 fun i103 =>
  vcase (bv (decide (i103 < 0)))
  (some (bv true))
  ((pureV (call Ev) Fn.laws_toLog [.agg [.fs a0_0, .fs a0_1]]).bind fun v105 =>
  gVA v105 fun c106 =>
  (c106[0]?).bind fun x107 =>
  gF x107 fun z108 =>
  (c106[1]?).bind fun x109 =>
  gF x109 fun z110 =>
  if c106.length = 2 then
  pcallS (call Ev) Fn.spec_LogFault [.agg [.fs z108, .fs z110]] fun v111 =>
  gV1 v111 fun x112 =>
  gI .i64 x112 fun i113 =>
  (pureV (call Ev) Fn.laws_toLog [.agg [.fs a0_0, .fs a0_1]]).bind fun v114 =>
  gVA v114 fun c115 =>
  (c115[0]?).bind fun x116 =>
  gF x116 fun z117 =>
  (c115[1]?).bind fun x118 =>
  gF x118 fun z119 =>
  if c115.length = 2 then
  pcallS (call Ev) Fn.impl_LogFault [.agg [.fs z117, .fs z119]] fun v120 =>
  gV1 v120 fun x121 =>
  gI .i64 x121 fun i122 =>
  vcase (bv (i122 != i113))
  (some (bv false))
  ((pureV (call Ev) Fn.laws_toLog [.agg [.fs a0_0, .fs a0_1]]).bind fun v124 =>
  gVA v124 fun c125 =>
  (c125[0]?).bind fun x126 =>
  gF x126 fun z127 =>
  (c125[1]?).bind fun x128 =>
  gF x128 fun z129 =>
  if c125.length = 2 then
  hchk ((((D 0).new 0 [.fs a0_0, .fs a0_1]).new 0 [.sl none 0, .sl none 0]).put 1 (.rw 0 [.fs z117, .fs z119])) ((((D 0).new 0 [.fs a0_0, .fs a0_1]).new 0 [.sl none 0, .sl none 0]).put 1 (.rw 0 [.fs z117, .fs z119])) (
  pcallS (call Ev) Fn.laws_eqLog [.agg [.fs z117, .fs z119], .agg [.fs z127, .fs z129]] fun v130 =>
  gV1 v130 fun x131 =>
  gB x131 fun q132 =>
  hchk ((((D 0).new 0 [.fs a0_0, .fs a0_1]).new 0 [.sl none 0, .sl none 0]).put 1 (.rw 0 [.fs z117, .fs z119])) ((((D 0).new 0 [.fs a0_0, .fs a0_1]).new 0 [.sl none 0, .sl none 0]).put 1 (.rw 0 [.fs z117, .fs z119])) (
  hchk ((((D 0).new 0 [.fs a0_0, .fs a0_1]).new 0 [.sl none 0, .sl none 0]).put 1 (.rw 0 [.fs z117, .fs z119])) ((((D 0).new 0 [.fs a0_0, .fs a0_1]).new 0 [.sl none 0, .sl none 0]).put 1 (.rw 0 [.fs z117, .fs z119])) (
  vcase (bv (!q132))
  (some (bv false))
  (some (bv true)))))
  else none)
  else none
  else none) := by
  rw [pure_eq]; kernel_rfl

theorem pu_spec_l5Sync (a0_0 : List (List S)) (a0_1 : List (List S)) : pureV (call Ev) Fn.spec_l5Sync [.agg [.fs a0_0, .fs a0_1]] =
  pcallF (call Ev) Fn.spec_l2Copy true [lv a0_0] (((D 0).new 0 [.fs a0_0, .fs a0_1]).new 0 [.sl none 0, .sl none 0]) fun v101 h102 =>
  hchk (((D 0).new 0 [.fs a0_0, .fs a0_1]).new 0 [.sl none 0, .sl none 0]) h102 (
  (appS 1 h102 v101 (lv a0_1)).bind fun p103 =>
  cellsK p103.1 fun c104 =>
  if c104.length = 1 ∧ 0 + 1 ≤ ([.sl none 0, .sl none 0] : List S).length then
  ((setAt ([.sl none 0, .sl none 0] : List S) 0 c104)[0]?).bind fun x105 =>
  ((setAt ([.sl none 0, .sl none 0] : List S) 0 c104)[1]?).bind fun x106 =>
  if (setAt ([.sl none 0, .sl none 0] : List S) 0 c104).length = 2 then
  stK 2 p103.2 (pv 1 0) (.agg [x105, x106]) fun h107 =>
  (loadN 2 h107 (pv 1 0)).bind fun c108 =>
  frzV h107 (.agg c108)
  else none
  else none) := by
  rw [pure_eq]; kernel_rfl

theorem pu_spec_SyncLog (a0_0 : List (List S)) (a0_1 : List (List S)) : pureV (call Ev) Fn.spec_SyncLog [.agg [.fs a0_0, .fs a0_1]] =
  pcallS (call Ev) Fn.spec_l5Fault [fv [.fs a0_0, .fs a0_1] 0] fun v101 =>
  gV1 v101 fun x102 =>
  gI .i64 x102 fun i103 =>
  vcase (bv (i103 != 0))
  (some (.agg [.int .i64 i103, .fs [], .fs []]))
  ((pureV (call Ev) Fn.spec_l5Sync [.agg [.fs a0_0, .fs a0_1]]).bind fun v105 =>
  gVA v105 fun c106 =>
  (c106[0]?).bind fun x107 =>
  gF x107 fun z108 =>
  (c106[1]?).bind fun x109 =>
  gF x109 fun z110 =>
  if c106.length = 2 then
  some (.agg [.int .i64 0, .fs z108, .fs z110])
  else none) := by
  rw [pure_eq]; kernel_rfl

theorem eq_impl_Log_all (a0_0 : List (List S)) (a0_1 : List (List S)) (n : Nat) : call Ev Fn.impl_Log_all [.agg [.fs a0_0, .fs a0_1]] (D n) =
  (load1 ((D n).new 0 [.fs a0_0, .fs a0_1]) (pv ((D n).n) 0)).bind fun x101 =>
  (load1 ((D n).new 0 [.fs a0_0, .fs a0_1]) (pv ((D n).n) 1)).bind fun x102 =>
  (frzVs ((D n).new 0 [.fs a0_0, .fs a0_1]) [.s x101]).bind fun l103 =>
  pcallF (call Ev) Fn.impl_copied ([.s x101].all offV) (normVs [] l103) ((D n).new 0 [.fs a0_0, .fs a0_1]) fun v104 h105 =>
  hchk ((D n).new 0 [.fs a0_0, .fs a0_1]) h105 (
  (appS 1 h105 v104 (.s x102)).bind fun p106 =>
  some (p106.1, p106.2)) := by
  rw [call_eq]; kernel_rfl

theorem eq_impl_Log_synced (a0_0 : List (List S)) (a0_1 : List (List S)) (n : Nat) : call Ev Fn.impl_Log_synced [.agg [.fs a0_0, .fs a0_1]] (D n) =
  (loadN 2 (((D n).new 0 [.fs a0_0, .fs a0_1]).new 0 [.sl none 0, .sl none 0]) (pv ((D n).n) 0)).bind fun c101 =>
  (c101[0]?).bind fun x102 =>
  (c101[1]?).bind fun x103 =>
  if c101.length = 2 then
  (frzVs (((D n).new 0 [.fs a0_0, .fs a0_1]).new 0 [.sl none 0, .sl none 0]) [.agg [x102, x103]]).bind fun l104 =>
  pcallF (call Ev) Fn.impl_Log_all ([.agg [x102, x103]].all offV) (normVs [] l104) (((D n).new 0 [.fs a0_0, .fs a0_1]).new 0 [.sl none 0, .sl none 0]) fun v105 h106 =>
  cellsK v105 fun c107 =>
  if c107.length = 1 ∧ 0 + 1 ≤ ([.sl none 0, .sl none 0] : List S).length then
  ((setAt ([.sl none 0, .sl none 0] : List S) 0 c107)[0]?).bind fun x108 =>
  ((setAt ([.sl none 0, .sl none 0] : List S) 0 c107)[1]?).bind fun x109 =>
  if (setAt ([.sl none 0, .sl none 0] : List S) 0 c107).length = 2 then
  stK 2 h106 (pv (((D n).new 0 [.fs a0_0, .fs a0_1]).n) 0) (.agg [x108, x109]) fun h110 =>
  (loadN 2 h110 (pv (((D n).new 0 [.fs a0_0, .fs a0_1]).n) 0)).bind fun c111 =>
  some (.agg c111, h110)
  else none
  else none
  else none := by
  rw [call_eq]; kernel_rfl

theorem eq_impl_SyncLog (a0_0 : List (List S)) (a0_1 : List (List S)) (n : Nat) : call Ev Fn.impl_SyncLog [.agg [.fs a0_0, .fs a0_1]] (D n) =
  (loadN 2 (((D n).new 0 [.fs a0_0, .fs a0_1]).new 0 [.int .i64 0, .sl none 0, .sl none 0]) (pv ((D n).n) 0)).bind fun c101 =>
  (c101[0]?).bind fun x102 =>
  (c101[1]?).bind fun x103 =>
  if c101.length = 2 then
  (frzVs (((D n).new 0 [.fs a0_0, .fs a0_1]).new 0 [.int .i64 0, .sl none 0, .sl none 0]) [.agg [x102, x103]]).bind fun l104 =>
  pcallS (call Ev) Fn.impl_LogFault (normVs [] l104) fun v105 =>
  gV1 v105 fun x106 =>
  gI .i64 x106 fun i107 =>
  vcase (bv (i107 != 0))
  (stK 3 (((D n).new 0 [.fs a0_0, .fs a0_1]).new 0 [.int .i64 0, .sl none 0, .sl none 0]) (pv (((D n).new 0 [.fs a0_0, .fs a0_1]).n) 0) (.agg [.int .i64 i107, .sl none 0, .sl none 0]) fun h109 =>
  (loadN 3 h109 (pv (((D n).new 0 [.fs a0_0, .fs a0_1]).n) 0)).bind fun c110 =>
  some (.agg c110, h109))
  ((loadN 2 (((D n).new 0 [.fs a0_0, .fs a0_1]).new 0 [.int .i64 0, .sl none 0, .sl none 0]) (pv ((D n).n) 0)).bind fun c111 =>
  (c111[0]?).bind fun x112 =>
  (c111[1]?).bind fun x113 =>
  if c111.length = 2 then
  (frzVs (((D n).new 0 [.fs a0_0, .fs a0_1]).new 0 [.int .i64 0, .sl none 0, .sl none 0]) [.agg [x112, x113]]).bind fun l114 =>
  pcallF (call Ev) Fn.impl_Log_synced ([.agg [x112, x113]].all offV) (normVs [] l114) (((D n).new 0 [.fs a0_0, .fs a0_1]).new 0 [.int .i64 0, .sl none 0, .sl none 0]) fun v115 h116 =>
  gVA v115 fun c117 =>
  (c117[0]?).bind fun x118 =>
  (c117[1]?).bind fun x119 =>
  if c117.length = 2 then
  stK 3 h116 (pv (((D n).new 0 [.fs a0_0, .fs a0_1]).n) 0) (.agg [.int .i64 0, x118, x119]) fun h120 =>
  (loadN 3 h120 (pv (((D n).new 0 [.fs a0_0, .fs a0_1]).n) 0)).bind fun c121 =>
  some (.agg c121, h120)
  else none
  else none)
  else none := by
  rw [call_eq]; kernel_rfl

end Vm
