/-
  What each function, and each round of each loop, comes to in the small machine. Written by a program (gen3.py).
-/
import Derived.Test.YtpdoloemacmbaaaEnv
set_option linter.unusedVariables false
set_option maxRecDepth 100000
namespace Vm
open Go

theorem eq_laws_markEditsResult (a0_0 : Int) (a0_1 : S) (a0_2 : S) (a1 : Int) (h : H) : call Ev Fn.laws_markEditsResult [.agg [.int .i64 a0_0, a0_1, a0_2], iv .i64 a1] h =
  (load1 (h.new 0 [.int .i64 a0_0, a0_1, a0_2]) (pv h.n 1)).bind fun x101 =>
  (call Ev Fn.laws_markEditS [.s x101, iv .i64 a1] (h.new 0 [.int .i64 a0_0, a0_1, a0_2])).bind fun p102 =>
  gV1 p102.1 fun x103 =>
  gI .i64 x103 fun i104 =>
  (load1 (tidy (h.new 0 [.int .i64 a0_0, a0_1, a0_2]) [p102.1] p102.2) (pv h.n 2)).bind fun x105 =>
  (call Ev Fn.laws_markByteSS [.s x105, iv .i64 i104] (tidy (h.new 0 [.int .i64 a0_0, a0_1, a0_2]) [p102.1] p102.2)).bind fun p106 =>
  gV1 p106.1 fun x107 =>
  gI .i64 x107 fun i108 =>
  some (iv .i64 i108, tidy (tidy (h.new 0 [.int .i64 a0_0, a0_1, a0_2]) [p102.1] p102.2) [p106.1] p106.2) := by
  rw [call_eq]; kernel_rfl

theorem pu_laws_heldByteS (a0 : List (List S)) (a1 : Int) : pureV (call Ev) Fn.laws_heldByteS [lv a0, iv .i64 a1] =
  (Lp.laws_heldByteS 0 [lv a0, iv .i64 a1, iv .i64 0] (D 0)).bind fun o101 => lcase o101 (fun l102 h103 =>
  (l102[0]?).bind fun w106 =>
  gV1 w106 fun x107 =>
  gI .i64 x107 fun i108 =>
  some (iv .i64 i108)) (fun v104 h105 =>
  frzV h105 v104) := by
  rw [pure_eq]; kernel_rfl

theorem eq_laws_heldByteS_l0 (s0 : List (List S)) (s1 : Int) (s5 : Int) (h : H) : Lp.laws_heldByteS 0 [lv s0, iv .i64 s1, iv .i64 s5] h =
  vcase (bv (decide (s5 < (s0.length : Int))))
  (idxF 1 s0 s5 fun r203 =>
  (r203[0]?).bind fun x204 =>
  gI .u8 x204 fun i205 =>
  vcase (bv (i205 != (IntKind.u8.wrap s1)))
  (some (.ret (iv .i64 (-1)) h))
  (Lp.laws_heldByteS 0 [lv s0, iv .i64 (IntKind.i64.wrap (s1 + 1)), iv .i64 (IntKind.i64.wrap (s5 + 1))] (tidy h [lv s0, iv .i64 (IntKind.i64.wrap (s1 + 1)), iv .i64 (IntKind.i64.wrap (s5 + 1))] h)))
  (some (.done [iv .i64 s1] (tidy h [iv .i64 s1] h))) := by
  unfold Lp.laws_heldByteS; rw [loop_eq]; kernel_rfl

theorem pu_laws_heldEditS (a0 : List (List S)) (a1 : Int) : pureV (call Ev) Fn.laws_heldEditS [lv a0, iv .i64 a1] =
  (Lp.laws_heldEditS 0 [lv a0, iv .i64 a1, iv .i64 0] (D 0)).bind fun o101 => lcase o101 (fun l102 h103 =>
  (l102[0]?).bind fun w106 =>
  gV1 w106 fun x107 =>
  gI .i64 x107 fun i108 =>
  some (iv .i64 i108)) (fun v104 h105 =>
  frzV h105 v104) := by
  rw [pure_eq]; kernel_rfl

theorem eq_laws_heldEditS_l0 (s0 : List (List S)) (s1 : Int) (s5 : Int) (h : H) : Lp.laws_heldEditS 0 [lv s0, iv .i64 s1, iv .i64 s5] h =
  vcase (bv (decide (s5 < (s0.length : Int))))
  (idxF 2 s0 s5 fun r203 =>
  (r203[0]?).bind fun x204 =>
  gI .i64 x204 fun i205 =>
  vcase (bv (i205 != s1))
  (some (.ret (iv .i64 (-1)) h))
  (idxF 2 s0 s5 fun r207 =>
  (r207[1]?).bind fun x208 =>
  gF x208 fun z209 =>
  pcallS (call Ev) Fn.laws_heldByteS [lv z209, iv .i64 (IntKind.i64.wrap (s1 + 1))] fun v210 =>
  gV1 v210 fun x211 =>
  gI .i64 x211 fun i212 =>
  vcase (bv (decide (i212 < 0)))
  (some (.ret (iv .i64 (-1)) h))
  (Lp.laws_heldEditS 0 [lv s0, iv .i64 i212, iv .i64 (IntKind.i64.wrap (s5 + 1))] (tidy h [lv s0, iv .i64 i212, iv .i64 (IntKind.i64.wrap (s5 + 1))] h))))
  (some (.done [iv .i64 s1] (tidy h [iv .i64 s1] h))) := by
  unfold Lp.laws_heldEditS; rw [loop_eq]; kernel_rfl

theorem pu_laws_heldByteSS (a0 : List (List S)) (a1 : Int) : pureV (call Ev) Fn.laws_heldByteSS [lv a0, iv .i64 a1] =
  (Lp.laws_heldByteSS 0 [lv a0, iv .i64 a1, iv .i64 0] (D 0)).bind fun o101 => lcase o101 (fun l102 h103 =>
  (l102[0]?).bind fun w106 =>
  gV1 w106 fun x107 =>
  gI .i64 x107 fun i108 =>
  some (iv .i64 i108)) (fun v104 h105 =>
  frzV h105 v104) := by
  rw [pure_eq]; kernel_rfl

theorem eq_laws_heldByteSS_l0 (s0 : List (List S)) (s1 : Int) (s5 : Int) (h : H) : Lp.laws_heldByteSS 0 [lv s0, iv .i64 s1, iv .i64 s5] h =
  vcase (bv (decide (s5 < (s0.length : Int))))
  (idxF 1 s0 s5 fun r203 =>
  (r203[0]?).bind fun x204 =>
  gF x204 fun z205 =>
  pcallS (call Ev) Fn.laws_heldByteS [lv z205, iv .i64 s1] fun v206 =>
  gV1 v206 fun x207 =>
  gI .i64 x207 fun i208 =>
  vcase (bv (decide (i208 < 0)))
  (some (.ret (iv .i64 (-1)) h))
  (Lp.laws_heldByteSS 0 [lv s0, iv .i64 i208, iv .i64 (IntKind.i64.wrap (s5 + 1))] (tidy h [lv s0, iv .i64 i208, iv .i64 (IntKind.i64.wrap (s5 + 1))] h)))
  (some (.done [iv .i64 s1] (tidy h [iv .i64 s1] h))) := by
  unfold Lp.laws_heldByteSS; rw [loop_eq]; kernel_rfl

theorem pu_laws_heldEditsResult (a0_0 : Int) (a0_1 : List (List S)) (a0_2 : List (List S)) (a1 : Int) : pureV (call Ev) Fn.laws_heldEditsResult [.agg [.int .i64 a0_0, .fs a0_1, .fs a0_2], iv .i64 a1] =
  pcallS (call Ev) Fn.laws_heldEditS [lv a0_1, iv .i64 a1] fun v101 =>
  gV1 v101 fun x102 =>
  gI .i64 x102 fun i103 =>
  vcase (bv (decide (i103 < 0)))
  (some (iv .i64 (-1)))
  (pcallS (call Ev) Fn.laws_heldByteSS [lv a0_2, iv .i64 i103] fun v105 =>
  gV1 v105 fun x106 =>
  gI .i64 x106 fun i107 =>
  vcase (bv (decide (i107 < 0)))
  (some (iv .i64 (-1)))
  (some (iv .i64 i107))) := by
  rw [pure_eq]; kernel_rfl

noncomputable def Jn.laws_FnExactApplyRecord_0 (q333 : Bool) (h168 : H) (p224 : V × H) (p235 : V × H) (h162 : H) (a0 : List (List S)) : Option (V) :=
  vcase (bv q333)
  (some (bv false))
  ((loadN 3 (tidy (tidy h168 [p224.1] p224.2) [p235.1] p235.2) (pv h162.n 0)).bind fun c335 =>
  (c335[0]?).bind fun x336 =>
  gI .i64 x336 fun i337 =>
  (c335[1]?).bind fun x338 =>
  (c335[2]?).bind fun x339 =>
  if c335.length = 3 then
  (call Ev Fn.laws_markEditsResult [.agg [.int .i64 i337, x338, x339], iv .i64 1] (tidy (tidy h168 [p224.1] p224.2) [p235.1] p235.2)).bind fun p340 =>
  gV1 p340.1 fun x341 =>
  gI .i64 x341 fun i342 =>
  (loadN 3 (tidy (tidy (tidy h168 [p224.1] p224.2) [p235.1] p235.2) [p340.1] p340.2) (pv h162.n 0)).bind fun c343 =>
  (c343[0]?).bind fun x344 =>
  gI .i64 x344 fun i345 =>
  (c343[1]?).bind fun x346 =>
  (c343[2]?).bind fun x347 =>
  if c343.length = 3 then
  (frzVs (tidy (tidy (tidy h168 [p224.1] p224.2) [p235.1] p235.2) [p340.1] p340.2) [.agg [.int .i64 i345, x346, x347], iv .i64 1]).bind fun l348 =>
  pcallS (call Ev) Fn.laws_heldEditsResult (normVs [] l348) fun v349 =>
  gV1 v349 fun x350 =>
  gI .i64 x350 fun i351 =>
  vcase (bv (decide (i351 < 0)))
  (some (bv false))
  (vcase (bv (i351 != i342))
  (some (bv false))
  ((loadN 4 (tidy (tidy (tidy h168 [p224.1] p224.2) [p235.1] p235.2) [p340.1] p340.2) (pv 0 0)).bind fun c354 =>
  (c354[0]?).bind fun x355 =>
  gI .i64 x355 fun i356 =>
  (c354[1]?).bind fun x357 =>
  gI .i64 x357 fun i358 =>
  (c354[2]?).bind fun x359 =>
  gI .i64 x359 fun i360 =>
  (c354[3]?).bind fun x361 =>
  if c354.length = 4 then
  (pureV (call Ev) Fn.laws_toByteSS [lv a0]).bind fun v362 =>
  gV1 v362 fun x363 =>
  gF x363 fun z364 =>
  bif ([.agg [.int .i64 i356, .int .i64 i358, .int .i64 i360, x361]].all offV) then
  (frzVs (tidy (tidy (tidy h168 [p224.1] p224.2) [p235.1] p235.2) [p340.1] p340.2) [.agg [.int .i64 i356, .int .i64 i358, .int .i64 i360, x361]]).bind fun l365 =>
  (pureV (call Ev) Fn.laws_toRecord (normVs [] l365)).bind fun v366 =>
  gVA v366 fun c367 =>
  (c367[0]?).bind fun x368 =>
  gI .i64 x368 fun i369 =>
  (c367[1]?).bind fun x370 =>
  gI .i64 x370 fun i371 =>
  (c367[2]?).bind fun x372 =>
  gI .i64 x372 fun i373 =>
  (c367[3]?).bind fun x374 =>
  gF x374 fun z375 =>
  if c367.length = 4 then
  (pureV (call Ev) Fn.impl_ApplyRecord [lv z364, .agg [.int .i64 i369, .int .i64 i371, .int .i64 i373, .fs z375]]).bind fun v376 =>
  gVA v376 fun c377 =>
  (c377[0]?).bind fun x378 =>
  gI .i64 x378 fun i379 =>
  (c377[1]?).bind fun x380 =>
  gF x380 fun z381 =>
  (c377[2]?).bind fun x382 =>
  gF x382 fun z383 =>
  if c377.length = 3 then
  stK 3 ((tidy (tidy (tidy h168 [p224.1] p224.2) [p235.1] p235.2) [p340.1] p340.2).new 0 [.int .i64 0, .sl none 0, .sl none 0]) (pv ((tidy (tidy (tidy h168 [p224.1] p224.2) [p235.1] p235.2) [p340.1] p340.2).n) 0) (.agg [.int .i64 i379, .fs z381, .fs z383]) fun h384 =>
  (loadN 3 h384 (pv ((tidy (tidy (tidy h168 [p224.1] p224.2) [p235.1] p235.2) [p340.1] p340.2).n) 0)).bind fun c385 =>
  (c385[0]?).bind fun x386 =>
  gI .i64 x386 fun i387 =>
  (c385[1]?).bind fun x388 =>
  (c385[2]?).bind fun x389 =>
  if c385.length = 3 then
  (loadN 3 h384 (pv 1 0)).bind fun c390 =>
  (c390[0]?).bind fun x391 =>
  gI .i64 x391 fun i392 =>
  (c390[1]?).bind fun x393 =>
  (c390[2]?).bind fun x394 =>
  if c390.length = 3 then
  (frzVs h384 [.agg [.int .i64 i387, x388, x389], .agg [.int .i64 i392, x393, x394]]).bind fun l395 =>
  pcallS (call Ev) Fn.laws_eqEditsResult (normVs [] l395) fun v396 =>
  gV1 v396 fun x397 =>
  gB x397 fun q398 =>
  vcase (bv (!q398))
  (some (bv false))
  ((loadN 3 h384 (pv h162.n 0)).bind fun c400 =>
  (c400[0]?).bind fun x401 =>
  gI .i64 x401 fun i402 =>
  (c400[1]?).bind fun x403 =>
  (c400[2]?).bind fun x404 =>
  if c400.length = 3 then
  (frzVs h384 [.agg [.int .i64 i402, x403, x404], iv .i64 1]).bind fun l405 =>
  pcallS (call Ev) Fn.laws_heldEditsResult (normVs [] l405) fun v406 =>
  gV1 v406 fun x407 =>
  gI .i64 x407 fun i408 =>
  vcase (bv (decide (i408 < 0)))
  (some (bv false))
  (vcase (bv (i408 != i342))
  (some (bv false))
  (some (bv true)))
  else none)
  else none
  else none
  else none
  else none
  else none
  else none))
  else none
  else none)

theorem pu_laws_FnExactApplyRecord (a0 : List (List S)) (a1_0 : Int) (a1_1 : Int) (a1_2 : Int) (a1_3 : List (List S)) : pureV (call Ev) Fn.laws_FnExactApplyRecord [lv a0, .agg [.int .i64 a1_0, .int .i64 a1_1, .int .i64 a1_2, .fs a1_3]] =
  pcallS (call Ev) Fn.laws_szByteSS [lv a0, iv .i64 1048576] fun v101 =>
  gV1 v101 fun x102 =>
  gI .i64 x102 fun i103 =>
  vcase (bv (decide (i103 < 0)))
  (some (bv true))
  (pcallS (call Ev) Fn.laws_szRecord [.agg [.int .i64 a1_0, .int .i64 a1_1, .int .i64 a1_2, .fs a1_3], iv .i64 i103] fun v105 =>
  gV1 v105 fun x106 =>
  gI .i64 x106 fun i107 =>
  vcase (bv (decide (i107 < 0)))
  (some (bv true))
  ((pureV (call Ev) Fn.laws_toByteSS [lv a0]).bind fun v109 =>
  gV1 v109 fun x110 =>
  gF x110 fun z111 =>
  (pureV (call Ev) Fn.laws_toRecord [.agg [.int .i64 a1_0, .int .i64 a1_1, .int .i64 a1_2, .fs a1_3]]).bind fun v112 =>
  gVA v112 fun c113 =>
  (c113[0]?).bind fun x114 =>
  gI .i64 x114 fun i115 =>
  (c113[1]?).bind fun x116 =>
  gI .i64 x116 fun i117 =>
  (c113[2]?).bind fun x118 =>
  gI .i64 x118 fun i119 =>
  (c113[3]?).bind fun x120 =>
  gF x120 fun z121 =>
  if c113.length = 4 then
  (pureV (call Ev) Fn.spec_ApplyRecord [lv z111, .agg [.int .i64 i115, .int .i64 i117, .int .i64 i119, .fs z121]]).bind fun v122 =>
  gVA v122 fun c123 =>
  (c123[0]?).bind fun x124 =>
  gI .i64 x124 fun i125 =>
  (c123[1]?).bind fun x126 =>
  gF x126 fun z127 =>
  (c123[2]?).bind fun x128 =>
  gF x128 fun z129 =>
  if c123.length = 3 then
  pcallF (call Ev) Fn.laws_toByteSS true [lv a0] ((((D 0).new 0 [.int .i64 a1_0, .int .i64 a1_1, .int .i64 a1_2, .fs a1_3]).new 0 [.int .i64 0, .sl none 0, .sl none 0]).put 1 (.rw 0 [.int .i64 i125, .fs z127, .fs z129])) fun v130 h131 =>
  (loadN 4 h131 (pv 0 0)).bind fun c132 =>
  (c132[0]?).bind fun x133 =>
  gI .i64 x133 fun i134 =>
  (c132[1]?).bind fun x135 =>
  gI .i64 x135 fun i136 =>
  (c132[2]?).bind fun x137 =>
  gI .i64 x137 fun i138 =>
  (c132[3]?).bind fun x139 =>
  if c132.length = 4 then
  (frzVs h131 [.agg [.int .i64 i134, .int .i64 i136, .int .i64 i138, x139]]).bind fun l140 =>
  pcallF (call Ev) Fn.laws_toRecord ([.agg [.int .i64 i134, .int .i64 i136, .int .i64 i138, x139]].all offV) (normVs [] l140) h131 fun v141 h142 =>
  gVA v141 fun c143 =>
  (c143[0]?).bind fun x144 =>
  gI .i64 x144 fun i145 =>
  (c143[1]?).bind fun x146 =>
  gI .i64 x146 fun i147 =>
  (c143[2]?).bind fun x148 =>
  gI .i64 x148 fun i149 =>
  (c143[3]?).bind fun x150 =>
  if c143.length = 4 then
  stK 4 (h142.new 0 [.int .i64 0, .int .i64 0, .int .i64 0, .sl none 0]) (pv h142.n 0) (.agg [.int .i64 i145, .int .i64 i147, .int .i64 i149, x150]) fun h151 =>
  (loadN 4 h151 (pv h142.n 0)).bind fun c152 =>
  (c152[0]?).bind fun x153 =>
  gI .i64 x153 fun i154 =>
  (c152[1]?).bind fun x155 =>
  gI .i64 x155 fun i156 =>
  (c152[2]?).bind fun x157 =>
  gI .i64 x157 fun i158 =>
  (c152[3]?).bind fun x159 =>
  if c152.length = 4 then
  (frzVs h151 [v130, .agg [.int .i64 i154, .int .i64 i156, .int .i64 i158, x159]]).bind fun l160 =>
  pcallF (call Ev) Fn.impl_ApplyRecord ([v130, .agg [.int .i64 i154, .int .i64 i156, .int .i64 i158, x159]].all offV) (normVs [] l160) h151 fun v161 h162 =>
  gVA v161 fun c163 =>
  (c163[0]?).bind fun x164 =>
  gI .i64 x164 fun i165 =>
  (c163[1]?).bind fun x166 =>
  (c163[2]?).bind fun x167 =>
  if c163.length = 3 then
  stK 3 (h162.new 0 [.int .i64 0, .sl none 0, .sl none 0]) (pv h162.n 0) (.agg [.int .i64 i165, x166, x167]) fun h168 =>
  (loadN 3 h168 (pv h162.n 0)).bind fun c169 =>
  (c169[0]?).bind fun x170 =>
  gI .i64 x170 fun i171 =>
  (c169[1]?).bind fun x172 =>
  (c169[2]?).bind fun x173 =>
  if c169.length = 3 then
  (loadN 3 h168 (pv 1 0)).bind fun c174 =>
  (c174[0]?).bind fun x175 =>
  gI .i64 x175 fun i176 =>
  (c174[1]?).bind fun x177 =>
  (c174[2]?).bind fun x178 =>
  if c174.length = 3 then
  (frzVs h168 [.agg [.int .i64 i171, x172, x173], .agg [.int .i64 i176, x177, x178]]).bind fun l179 =>
  pcallS (call Ev) Fn.laws_eqEditsResult (normVs [] l179) fun v180 =>
  gV1 v180 fun x181 =>
  gB x181 fun q182 =>
  vcase (bv (!q182))
  (some (bv false))
  ((pureV (call Ev) Fn.laws_toByteSS [lv a0]).bind fun v184 =>
  gV1 v184 fun x185 =>
  gF x185 fun z186 =>
  (frzVs h168 [v130, lv z186]).bind fun l187 =>
  pcallS (call Ev) Fn.laws_eqByteSS (normVs [] l187) fun v188 =>
  gV1 v188 fun x189 =>
  gB x189 fun q190 =>
  vcase (bv (!q190))
  (some (bv false))
  ((loadN 4 h168 (pv h142.n 0)).bind fun c192 =>
  (c192[0]?).bind fun x193 =>
  gI .i64 x193 fun i194 =>
  (c192[1]?).bind fun x195 =>
  gI .i64 x195 fun i196 =>
  (c192[2]?).bind fun x197 =>
  gI .i64 x197 fun i198 =>
  (c192[3]?).bind fun x199 =>
  if c192.length = 4 then
  (loadN 4 h168 (pv 0 0)).bind fun c200 =>
  (c200[0]?).bind fun x201 =>
  gI .i64 x201 fun i202 =>
  (c200[1]?).bind fun x203 =>
  gI .i64 x203 fun i204 =>
  (c200[2]?).bind fun x205 =>
  gI .i64 x205 fun i206 =>
  (c200[3]?).bind fun x207 =>
  if c200.length = 4 then
  bif ([.agg [.int .i64 i202, .int .i64 i204, .int .i64 i206, x207]].all offV) then
  (frzVs h168 [.agg [.int .i64 i202, .int .i64 i204, .int .i64 i206, x207]]).bind fun l208 =>
  (pureV (call Ev) Fn.laws_toRecord (normVs [] l208)).bind fun v209 =>
  gVA v209 fun c210 =>
  (c210[0]?).bind fun x211 =>
  gI .i64 x211 fun i212 =>
  (c210[1]?).bind fun x213 =>
  gI .i64 x213 fun i214 =>
  (c210[2]?).bind fun x215 =>
  gI .i64 x215 fun i216 =>
  (c210[3]?).bind fun x217 =>
  gF x217 fun z218 =>
  if c210.length = 4 then
  hchk h168 h168 (
  (frzVs h168 [.agg [.int .i64 i194, .int .i64 i196, .int .i64 i198, x199], .agg [.int .i64 i212, .int .i64 i214, .int .i64 i216, .fs z218]]).bind fun l219 =>
  pcallS (call Ev) Fn.laws_eqRecord (normVs [] l219) fun v220 =>
  gV1 v220 fun x221 =>
  gB x221 fun q222 =>
  hchk h168 h168 (
  hchk h168 h168 (
  vcase (bv (!q222))
  (some (bv false))
  ((call Ev Fn.laws_markByteSS [v130, iv .i64 1] h168).bind fun p224 =>
  gV1 p224.1 fun x225 =>
  gI .i64 x225 fun i226 =>
  (loadN 4 (tidy h168 [p224.1] p224.2) (pv h142.n 0)).bind fun c227 =>
  (c227[0]?).bind fun x228 =>
  gI .i64 x228 fun i229 =>
  (c227[1]?).bind fun x230 =>
  gI .i64 x230 fun i231 =>
  (c227[2]?).bind fun x232 =>
  gI .i64 x232 fun i233 =>
  (c227[3]?).bind fun x234 =>
  if c227.length = 4 then
  (call Ev Fn.laws_markRecord [.agg [.int .i64 i229, .int .i64 i231, .int .i64 i233, x234], iv .i64 i226] (tidy h168 [p224.1] p224.2)).bind fun p235 =>
  gV1 p235.1 fun x236 =>
  gI .i64 x236 fun i237 =>
  vcase (bv (decide (i237 < 0)))
  (Jn.laws_FnExactApplyRecord_0 true h168 p224 p235 h162 a0)
  ((loadN 3 (tidy (tidy h168 [p224.1] p224.2) [p235.1] p235.2) (pv h162.n 0)).bind fun c240 =>
  (c240[0]?).bind fun x241 =>
  gI .i64 x241 fun i242 =>
  (c240[1]?).bind fun x243 =>
  (c240[2]?).bind fun x244 =>
  if c240.length = 3 then
  (loadN 3 (tidy (tidy h168 [p224.1] p224.2) [p235.1] p235.2) (pv 1 0)).bind fun c245 =>
  (c245[0]?).bind fun x246 =>
  gI .i64 x246 fun i247 =>
  (c245[1]?).bind fun x248 =>
  (c245[2]?).bind fun x249 =>
  if c245.length = 3 then
  (frzVs (tidy (tidy h168 [p224.1] p224.2) [p235.1] p235.2) [.agg [.int .i64 i242, x243, x244], .agg [.int .i64 i247, x248, x249]]).bind fun l250 =>
  pcallS (call Ev) Fn.laws_eqEditsResult (normVs [] l250) fun v251 =>
  gV1 v251 fun x252 =>
  gB x252 fun q253 =>
  Jn.laws_FnExactApplyRecord_0 (!q253) h168 p224 p235 h162 a0
  else none
  else none)
  else none))))
  else none
  else none
  else none
  else none))
  else none
  else none
  else none
  else none
  else none
  else none
  else none
  else none)) := by
  rw [pure_eq]; kernel_rfl

theorem pu_laws_szRow (a0_0 : Int) (a0_1 : Int) (a0_2 : Int) (a0_3 : ByteArray) (a1 : Int) : pureV (call Ev) Fn.laws_szRow [.agg [.int .i64 a0_0, .int .i64 a0_1, .int .i64 a0_2, .str a0_3], iv .i64 a1] =
  vcase (bv (decide ((IntKind.i64.wrap (a1 - ((a0_3 : ByteArray).size : Int))) < 0)))
  (some (iv .i64 (-1)))
  (some (iv .i64 (IntKind.i64.wrap (a1 - ((a0_3 : ByteArray).size : Int))))) := by
  rw [pure_eq]; kernel_rfl

theorem pu_laws_szChange (a0_0 : Bool) (a0_1 : Int) (a0_2 : Int) (a0_3 : Int) (a0_4 : ByteArray) (a0_5 : Bool) (a0_6 : Int) (a0_7 : Int) (a0_8 : Int) (a0_9 : ByteArray) (a1 : Int) : pureV (call Ev) Fn.laws_szChange [.agg [.bool a0_0, .int .i64 a0_1, .int .i64 a0_2, .int .i64 a0_3, .str a0_4, .bool a0_5, .int .i64 a0_6, .int .i64 a0_7, .int .i64 a0_8, .str a0_9], iv .i64 a1] =
  pcallS (call Ev) Fn.laws_szRow [.agg [.int .i64 a0_1, .int .i64 a0_2, .int .i64 a0_3, .str a0_4], iv .i64 a1] fun v101 =>
  gV1 v101 fun x102 =>
  gI .i64 x102 fun i103 =>
  vcase (bv (decide (i103 < 0)))
  (some (iv .i64 (-1)))
  (pcallS (call Ev) Fn.laws_szRow [.agg [.int .i64 a0_6, .int .i64 a0_7, .int .i64 a0_8, .str a0_9], iv .i64 i103] fun v105 =>
  gV1 v105 fun x106 =>
  gI .i64 x106 fun i107 =>
  vcase (bv (decide (i107 < 0)))
  (some (iv .i64 (-1)))
  (some (iv .i64 i107))) := by
  rw [pure_eq]; kernel_rfl

theorem pu_laws_szChangeS (a0 : List (List S)) (a1 : Int) : pureV (call Ev) Fn.laws_szChangeS [lv a0, iv .i64 a1] =
  vcase (bv (decide ((IntKind.i64.wrap (a1 - (a0.length : Int))) < 0)))
  (some (iv .i64 (-1)))
  ((Lp.laws_szChangeS 0 [lv a0, iv .i64 (IntKind.i64.wrap (a1 - (a0.length : Int))), iv .i64 0] (D 0)).bind fun o102 => lcase o102 (fun l103 h104 =>
  (l103[0]?).bind fun w107 =>
  gV1 w107 fun x108 =>
  gI .i64 x108 fun i109 =>
  some (iv .i64 i109)) (fun v105 h106 =>
  frzV h106 v105)) := by
  rw [pure_eq]; kernel_rfl

theorem eq_laws_szChangeS_l0 (s0 : List (List S)) (s1 : Int) (s5 : Int) (h : H) : Lp.laws_szChangeS 0 [lv s0, iv .i64 s1, iv .i64 s5] h =
  vcase (bv (decide (s5 < (s0.length : Int))))
  (idxF 10 s0 s5 fun r203 =>
  (rowN 10 r203 0).bind fun c204 =>
  (c204[0]?).bind fun x205 =>
  gB x205 fun q206 =>
  (c204[1]?).bind fun x207 =>
  gI .i64 x207 fun i208 =>
  (c204[2]?).bind fun x209 =>
  gI .i64 x209 fun i210 =>
  (c204[3]?).bind fun x211 =>
  gI .i64 x211 fun i212 =>
  (c204[4]?).bind fun x213 =>
  gS x213 fun y214 =>
  (c204[5]?).bind fun x215 =>
  gB x215 fun q216 =>
  (c204[6]?).bind fun x217 =>
  gI .i64 x217 fun i218 =>
  (c204[7]?).bind fun x219 =>
  gI .i64 x219 fun i220 =>
  (c204[8]?).bind fun x221 =>
  gI .i64 x221 fun i222 =>
  (c204[9]?).bind fun x223 =>
  gS x223 fun y224 =>
  if c204.length = 10 then
  pcallS (call Ev) Fn.laws_szChange [.agg [.bool q206, .int .i64 i208, .int .i64 i210, .int .i64 i212, .str y214, .bool q216, .int .i64 i218, .int .i64 i220, .int .i64 i222, .str y224], iv .i64 s1] fun v225 =>
  gV1 v225 fun x226 =>
  gI .i64 x226 fun i227 =>
  vcase (bv (decide (i227 < 0)))
  (some (.ret (iv .i64 (-1)) h))
  (Lp.laws_szChangeS 0 [lv s0, iv .i64 i227, iv .i64 (IntKind.i64.wrap (s5 + 1))] (tidy h [lv s0, iv .i64 i227, iv .i64 (IntKind.i64.wrap (s5 + 1))] h))
  else none)
  (some (.done [iv .i64 s1] (tidy h [iv .i64 s1] h))) := by
  unfold Lp.laws_szChangeS; rw [loop_eq]; kernel_rfl

theorem pu_laws_szInt64S (a0 : List (List S)) (a1 : Int) : pureV (call Ev) Fn.laws_szInt64S [lv a0, iv .i64 a1] =
  vcase (bv (decide ((IntKind.i64.wrap (a1 - (a0.length : Int))) < 0)))
  (some (iv .i64 (-1)))
  (some (iv .i64 (IntKind.i64.wrap (a1 - (a0.length : Int))))) := by
  rw [pure_eq]; kernel_rfl

theorem pu_laws_szKeyS (a0 : List (List S)) (a1 : Int) : pureV (call Ev) Fn.laws_szKeyS [lv a0, iv .i64 a1] =
  vcase (bv (decide ((IntKind.i64.wrap (a1 - (a0.length : Int))) < 0)))
  (some (iv .i64 (-1)))
  (some (iv .i64 (IntKind.i64.wrap (a1 - (a0.length : Int))))) := by
  rw [pure_eq]; kernel_rfl

theorem pu_laws_szTx (a0_0 : Int) (a0_1 : List (List S)) (a0_2 : List (List S)) (a0_3 : List (List S)) (a1 : Int) : pureV (call Ev) Fn.laws_szTx [.agg [.int .i64 a0_0, .fs a0_1, .fs a0_2, .fs a0_3], iv .i64 a1] =
  pcallS (call Ev) Fn.laws_szChangeS [lv a0_1, iv .i64 a1] fun v101 =>
  gV1 v101 fun x102 =>
  gI .i64 x102 fun i103 =>
  vcase (bv (decide (i103 < 0)))
  (some (iv .i64 (-1)))
  (pcallS (call Ev) Fn.laws_szInt64S [lv a0_2, iv .i64 i103] fun v105 =>
  gV1 v105 fun x106 =>
  gI .i64 x106 fun i107 =>
  vcase (bv (decide (i107 < 0)))
  (some (iv .i64 (-1)))
  (pcallS (call Ev) Fn.laws_szKeyS [lv a0_3, iv .i64 i107] fun v109 =>
  gV1 v109 fun x110 =>
  gI .i64 x110 fun i111 =>
  vcase (bv (decide (i111 < 0)))
  (some (iv .i64 (-1)))
  (some (iv .i64 i111)))) := by
  rw [pure_eq]; kernel_rfl

theorem pu_laws_szTxS (a0 : List (List S)) (a1 : Int) : pureV (call Ev) Fn.laws_szTxS [lv a0, iv .i64 a1] =
  vcase (bv (decide ((IntKind.i64.wrap (a1 - (a0.length : Int))) < 0)))
  (some (iv .i64 (-1)))
  ((Lp.laws_szTxS 0 [lv a0, iv .i64 (IntKind.i64.wrap (a1 - (a0.length : Int))), iv .i64 0] (D 0)).bind fun o102 => lcase o102 (fun l103 h104 =>
  (l103[0]?).bind fun w107 =>
  gV1 w107 fun x108 =>
  gI .i64 x108 fun i109 =>
  some (iv .i64 i109)) (fun v105 h106 =>
  frzV h106 v105)) := by
  rw [pure_eq]; kernel_rfl

theorem eq_laws_szTxS_l0 (s0 : List (List S)) (s1 : Int) (s5 : Int) (h : H) : Lp.laws_szTxS 0 [lv s0, iv .i64 s1, iv .i64 s5] h =
  vcase (bv (decide (s5 < (s0.length : Int))))
  (idxF 4 s0 s5 fun r203 =>
  (rowN 4 r203 0).bind fun c204 =>
  (c204[0]?).bind fun x205 =>
  gI .i64 x205 fun i206 =>
  (c204[1]?).bind fun x207 =>
  gF x207 fun z208 =>
  (c204[2]?).bind fun x209 =>
  gF x209 fun z210 =>
  (c204[3]?).bind fun x211 =>
  gF x211 fun z212 =>
  if c204.length = 4 then
  pcallS (call Ev) Fn.laws_szTx [.agg [.int .i64 i206, .fs z208, .fs z210, .fs z212], iv .i64 s1] fun v213 =>
  gV1 v213 fun x214 =>
  gI .i64 x214 fun i215 =>
  vcase (bv (decide (i215 < 0)))
  (some (.ret (iv .i64 (-1)) h))
  (Lp.laws_szTxS 0 [lv s0, iv .i64 i215, iv .i64 (IntKind.i64.wrap (s5 + 1))] (tidy h [lv s0, iv .i64 i215, iv .i64 (IntKind.i64.wrap (s5 + 1))] h))
  else none)
  (some (.done [iv .i64 s1] (tidy h [iv .i64 s1] h))) := by
  unfold Lp.laws_szTxS; rw [loop_eq]; kernel_rfl

theorem pu_spec_l10Locks (a0_0 : Int) (a0_1 : List (List S)) (a0_2 : List (List S)) (a0_3 : List (List S)) (a1_0 : Int) (a1_1 : Int) : pureV (call Ev) Fn.spec_l10Locks [fv [.int .i64 a0_0, .fs a0_1, .fs a0_2, .fs a0_3] 0, .agg [.int .i64 a1_0, .int .i64 a1_1]] =
  (Lp.spec_l10Locks 0 [fv [.int .i64 a0_0, .fs a0_1, .fs a0_2, .fs a0_3] 0, pv 0 0, iv .i64 0] ((D 0).new 0 [.int .i64 a1_0, .int .i64 a1_1])).bind fun o101 => lcase o101 (fun l102 h103 =>
  some (bv false)) (fun v104 h105 =>
  frzV h105 v104) := by
  rw [pure_eq]; kernel_rfl

theorem eq_spec_l10Locks_l0 (s0_r : List S) (s0_o : Nat) (s3 : V) (s5 : Int) (h : H) : Lp.spec_l10Locks 0 [fv s0_r s0_o, s3, iv .i64 s5] h =
  (s0_r[s0_o + 3]?).bind fun x201 =>
  gF x201 fun z202 =>
  vcase (bv (decide (s5 < (z202.length : Int))))
  ((s0_r[s0_o + 3]?).bind fun x205 =>
  gF x205 fun z206 =>
  idxF 2 z206 s5 fun r207 =>
  (rowN 2 r207 0).bind fun c208 =>
  (c208[0]?).bind fun x209 =>
  gI .i64 x209 fun i210 =>
  (c208[1]?).bind fun x211 =>
  gI .i64 x211 fun i212 =>
  if c208.length = 2 then
  ldK (.agg [.i .i64, .i .i64]) ⟨2, 16, [.int .i64 0, .int .i64 0], true, .st [(0, 2), (1, 2)], true⟩ h s3 fun v213 =>
  gVA v213 fun c214 =>
  (c214[0]?).bind fun x215 =>
  gI .i64 x215 fun i216 =>
  (c214[1]?).bind fun x217 =>
  gI .i64 x217 fun i218 =>
  if c214.length = 2 then
  vcase (bv (((i210 : Int) == i216) && (((i212 : Int) == i218) && true)))
  (some (.ret (bv true) h))
  (Lp.spec_l10Locks 0 [fv s0_r s0_o, s3, iv .i64 (IntKind.i64.wrap (s5 + 1))] (tidy h [fv s0_r s0_o, s3, iv .i64 (IntKind.i64.wrap (s5 + 1))] h))
  else none
  else none)
  (some (.done [] (tidy h [] h))) := by
  unfold Lp.spec_l10Locks; rw [loop_eq]; kernel_rfl

theorem pu_spec_l10KeyOf (a0_0 : Bool) (a0_1 : Int) (a0_2 : Int) (a0_3 : Int) (a0_4 : ByteArray) (a0_5 : Bool) (a0_6 : Int) (a0_7 : Int) (a0_8 : Int) (a0_9 : ByteArray) : pureV (call Ev) Fn.spec_l10KeyOf [fv [.bool a0_0, .int .i64 a0_1, .int .i64 a0_2, .int .i64 a0_3, .str a0_4, .bool a0_5, .int .i64 a0_6, .int .i64 a0_7, .int .i64 a0_8, .str a0_9] 0] =
  pcallS (call Ev) Fn.spec_l6Key [fv [.bool a0_0, .int .i64 a0_1, .int .i64 a0_2, .int .i64 a0_3, .str a0_4, .bool a0_5, .int .i64 a0_6, .int .i64 a0_7, .int .i64 a0_8, .str a0_9] 0] fun v101 =>
  gVT v101 fun u102 =>
  (u102[0]?).bind fun t103 =>
  gA1 t103 fun x104 =>
  gI .i64 x104 fun i105 =>
  (u102[1]?).bind fun t106 =>
  gA1 t106 fun x107 =>
  gI .i64 x107 fun i108 =>
  if u102.length = 2 then
  some (.agg [.int .i64 i105, .int .i64 i108])
  else none := by
  rw [pure_eq]; kernel_rfl

theorem pu_spec_l10Undo (a0_0 : Int) (a0_1 : List (List S)) (a0_2 : List (List S)) (a0_3 : List (List S)) : pureV (call Ev) Fn.spec_l10Undo [fv [.int .i64 a0_0, .fs a0_1, .fs a0_2, .fs a0_3] 0] =
  (Lp.spec_l10Undo 0 [fv [.int .i64 a0_0, .fs a0_1, .fs a0_2, .fs a0_3] 0, iv .i64 0] (D 0)).bind fun o101 => lcase o101 (fun l102 h103 =>
  some (iv .i64 0)) (fun v104 h105 =>
  frzV h105 v104) := by
  rw [pure_eq]; kernel_rfl

theorem eq_spec_l10Undo_l0 (s0_r : List S) (s0_o : Nat) (s3 : Int) (h : H) : Lp.spec_l10Undo 0 [fv s0_r s0_o, iv .i64 s3] h =
  (s0_r[s0_o + 1]?).bind fun x201 =>
  gF x201 fun z202 =>
  vcase (bv (decide (s3 < (z202.length : Int))))
  ((s0_r[s0_o + 1]?).bind fun x205 =>
  gF x205 fun z206 =>
  idxF 10 z206 s3 fun r207 =>
  pcallS (call Ev) Fn.spec_l9Change [normV 10 (fv r207 0)] fun v208 =>
  gV1 v208 fun x209 =>
  gI .i64 x209 fun i210 =>
  vcase (bv (i210 != 0))
  (some (.ret (iv .i64 i210) h))
  ((s0_r[s0_o + 1]?).bind fun x212 =>
  gF x212 fun z213 =>
  idxF 10 z213 s3 fun r214 =>
  pcallS (call Ev) Fn.spec_l10KeyOf [normV 10 (fv r214 0)] fun v215 =>
  gVA v215 fun c216 =>
  (c216[0]?).bind fun x217 =>
  gI .i64 x217 fun i218 =>
  (c216[1]?).bind fun x219 =>
  gI .i64 x219 fun i220 =>
  if c216.length = 2 then
  pcallS (call Ev) Fn.spec_l10Locks [normV 4 (fv s0_r s0_o), .agg [.int .i64 i218, .int .i64 i220]] fun v221 =>
  gV1 v221 fun x222 =>
  gB x222 fun q223 =>
  vcase (bv (!q223))
  (some (.ret (iv .i64 8) h))
  (Lp.spec_l10Undo 0 [fv s0_r s0_o, iv .i64 (IntKind.i64.wrap (s3 + 1))] (tidy h [fv s0_r s0_o, iv .i64 (IntKind.i64.wrap (s3 + 1))] h))
  else none))
  (some (.done [] (tidy h [] h))) := by
  unfold Lp.spec_l10Undo; rw [loop_eq]; kernel_rfl

theorem pu_spec_l10Key (a0_0 : Int) (a0_1 : Int) : pureV (call Ev) Fn.spec_l10Key [fv [.int .i64 a0_0, .int .i64 a0_1] 0] =
  pcallS (call Ev) Fn.spec_l1In [iv .i64 a0_0, iv .i64 0, iv .i64 3] fun v101 =>
  gV1 v101 fun x102 =>
  gB x102 fun q103 =>
  vcase (bv q103)
  (pcallS (call Ev) Fn.spec_l1In [iv .i64 a0_1, iv .i64 1, iv .i64 99] fun v105 =>
  gV1 v105 fun x106 =>
  gB x106 fun q107 =>
  some (bv q107))
  (some (bv false)) := by
  rw [pure_eq]; kernel_rfl

theorem pu_spec_l10Marks (a0_0 : Int) (a0_1 : List (List S)) (a0_2 : List (List S)) (a0_3 : List (List S)) : pureV (call Ev) Fn.spec_l10Marks [fv [.int .i64 a0_0, .fs a0_1, .fs a0_2, .fs a0_3] 0] =
  vcase (bv (decide ((a0_2.length : Int) > 8)))
  (some (iv .i64 2))
  (vcase (bv (decide ((a0_3.length : Int) > 12)))
  (some (iv .i64 2))
  ((Lp.spec_l10Marks 0 [fv [.int .i64 a0_0, .fs a0_1, .fs a0_2, .fs a0_3] 0, iv .i64 0] (D 0)).bind fun o106 => lcase o106 (fun l107 h108 =>
  (l107[0]?).bind fun w111 =>
  (Lp.spec_l10Marks 2 [w111, iv .i64 0] h108).bind fun o112 => lcase o112 (fun l113 h114 =>
  some (iv .i64 0)) (fun v115 h116 =>
  frzV h116 v115)) (fun v109 h110 =>
  frzV h110 v109))) := by
  rw [pure_eq]; kernel_rfl

theorem eq_spec_l10Marks_l0 (s0_r : List S) (s0_o : Nat) (s3 : Int) (h : H) : Lp.spec_l10Marks 0 [fv s0_r s0_o, iv .i64 s3] h =
  (s0_r[s0_o + 2]?).bind fun x201 =>
  gF x201 fun z202 =>
  vcase (bv (decide (s3 < (z202.length : Int))))
  ((s0_r[s0_o + 2]?).bind fun x205 =>
  gF x205 fun z206 =>
  idxF 1 z206 s3 fun r207 =>
  (r207[0]?).bind fun x208 =>
  gI .i64 x208 fun i209 =>
  (s0_r[s0_o + 1]?).bind fun x210 =>
  gF x210 fun z211 =>
  pcallS (call Ev) Fn.spec_l1In [iv .i64 i209, iv .i64 0, iv .i64 (z211.length : Int)] fun v212 =>
  gV1 v212 fun x213 =>
  gB x213 fun q214 =>
  hchk h h (
  vcase (bv (!q214))
  (some (.ret (iv .i64 3) h))
  (vcase (bv (decide (s3 > 0)))
  ((s0_r[s0_o + 2]?).bind fun x218 =>
  gF x218 fun z219 =>
  idxF 1 z219 s3 fun r220 =>
  (r220[0]?).bind fun x221 =>
  gI .i64 x221 fun i222 =>
  (s0_r[s0_o + 2]?).bind fun x223 =>
  gF x223 fun z224 =>
  idxF 1 z224 (IntKind.i64.wrap (s3 - 1)) fun r225 =>
  (r225[0]?).bind fun x226 =>
  gI .i64 x226 fun i227 =>
  vcase (bv (decide (i222 < i227)))
  (some (.ret (iv .i64 3) h))
  (Lp.spec_l10Marks 0 [fv s0_r s0_o, iv .i64 (IntKind.i64.wrap (s3 + 1))] (tidy h [fv s0_r s0_o, iv .i64 (IntKind.i64.wrap (s3 + 1))] h)))
  (Lp.spec_l10Marks 0 [fv s0_r s0_o, iv .i64 (IntKind.i64.wrap (s3 + 1))] (tidy h [fv s0_r s0_o, iv .i64 (IntKind.i64.wrap (s3 + 1))] h)))))
  (some (.done [fv s0_r s0_o] (tidy h [fv s0_r s0_o] h))) := by
  unfold Lp.spec_l10Marks; rw [loop_eq]; kernel_rfl

theorem eq_spec_l10Marks_l2 (s0_r : List S) (s0_o : Nat) (s4 : Int) (h : H) : Lp.spec_l10Marks 2 [fv s0_r s0_o, iv .i64 s4] h =
  (s0_r[s0_o + 3]?).bind fun x401 =>
  gF x401 fun z402 =>
  vcase (bv (decide (s4 < (z402.length : Int))))
  ((s0_r[s0_o + 3]?).bind fun x405 =>
  gF x405 fun z406 =>
  idxF 2 z406 s4 fun r407 =>
  pcallS (call Ev) Fn.spec_l10Key [normV 2 (fv r407 0)] fun v408 =>
  gV1 v408 fun x409 =>
  gB x409 fun q410 =>
  vcase (bv (!q410))
  (some (.ret (iv .i64 3) h))
  ((Lp.spec_l10Marks 4 [fv s0_r s0_o, iv .i64 s4, iv .i64 0] h).bind fun o412 => lcase o412 (fun l413 h414 =>
  (l413[0]?).bind fun w417 =>
  (l413[1]?).bind fun w418 =>
  gV1 w418 fun x419 =>
  gI .i64 x419 fun i420 =>
  Lp.spec_l10Marks 2 [w417, iv .i64 (IntKind.i64.wrap (i420 + 1))] (tidy h [w417, iv .i64 (IntKind.i64.wrap (i420 + 1))] h414)) (fun v415 h416 =>
  some (.ret v415 h416))))
  (some (.done [] (tidy h [] h))) := by
  unfold Lp.spec_l10Marks; rw [loop_eq]; kernel_rfl

theorem eq_spec_l10Marks_l4 (s0_r : List S) (s0_o : Nat) (s4 : Int) (s5 : Int) (h : H) : Lp.spec_l10Marks 4 [fv s0_r s0_o, iv .i64 s4, iv .i64 s5] h =
  vcase (bv (decide (s5 < s4)))
  ((s0_r[s0_o + 3]?).bind fun x603 =>
  gF x603 fun z604 =>
  idxF 2 z604 s5 fun r605 =>
  (rowN 2 r605 0).bind fun c606 =>
  (c606[0]?).bind fun x607 =>
  gI .i64 x607 fun i608 =>
  (c606[1]?).bind fun x609 =>
  gI .i64 x609 fun i610 =>
  if c606.length = 2 then
  (s0_r[s0_o + 3]?).bind fun x611 =>
  gF x611 fun z612 =>
  idxF 2 z612 s4 fun r613 =>
  (rowN 2 r613 0).bind fun c614 =>
  (c614[0]?).bind fun x615 =>
  gI .i64 x615 fun i616 =>
  (c614[1]?).bind fun x617 =>
  gI .i64 x617 fun i618 =>
  if c614.length = 2 then
  vcase (bv (((i608 : Int) == i616) && (((i610 : Int) == i618) && true)))
  (some (.ret (iv .i64 6) h))
  (Lp.spec_l10Marks 4 [fv s0_r s0_o, iv .i64 s4, iv .i64 (IntKind.i64.wrap (s5 + 1))] (tidy h [fv s0_r s0_o, iv .i64 s4, iv .i64 (IntKind.i64.wrap (s5 + 1))] h))
  else none
  else none)
  (some (.done [fv s0_r s0_o, iv .i64 s4] (tidy h [fv s0_r s0_o, iv .i64 s4] h))) := by
  unfold Lp.spec_l10Marks; rw [loop_eq]; kernel_rfl

theorem pu_spec_l10Lock (a0 : List (List S)) (a1_0 : Int) (a1_1 : Int) : pureV (call Ev) Fn.spec_l10Lock [lv a0, .agg [.int .i64 a1_0, .int .i64 a1_1]] =
  (Lp.spec_l10Lock 0 [lv a0, pv 0 0, iv .i64 0] ((D 0).new 0 [.int .i64 a1_0, .int .i64 a1_1])).bind fun o101 => lcase o101 (fun l102 h103 =>
  some (iv .i64 0)) (fun v104 h105 =>
  frzV h105 v104) := by
  rw [pure_eq]; kernel_rfl

theorem eq_spec_l10Lock_l0 (s0 : List (List S)) (s3 : V) (s5 : Int) (h : H) : Lp.spec_l10Lock 0 [lv s0, s3, iv .i64 s5] h =
  vcase (bv (decide (s5 < (s0.length : Int))))
  (idxF 4 s0 s5 fun r203 =>
  ldK (.agg [.i .i64, .i .i64]) ⟨2, 16, [.int .i64 0, .int .i64 0], true, .st [(0, 2), (1, 2)], true⟩ h s3 fun v204 =>
  gVA v204 fun c205 =>
  (c205[0]?).bind fun x206 =>
  gI .i64 x206 fun i207 =>
  (c205[1]?).bind fun x208 =>
  gI .i64 x208 fun i209 =>
  if c205.length = 2 then
  pcallS (call Ev) Fn.spec_l10Locks [normV 4 (fv r203 0), .agg [.int .i64 i207, .int .i64 i209]] fun v210 =>
  gV1 v210 fun x211 =>
  gB x211 fun q212 =>
  hchk h h (
  vcase (bv q212)
  (idxF 4 s0 s5 fun r214 =>
  (r214[0]?).bind fun x215 =>
  gI .i64 x215 fun i216 =>
  some (.ret (iv .i64 i216) h))
  (Lp.spec_l10Lock 0 [lv s0, s3, iv .i64 (IntKind.i64.wrap (s5 + 1))] (tidy h [lv s0, s3, iv .i64 (IntKind.i64.wrap (s5 + 1))] h)))
  else none)
  (some (.done [] (tidy h [] h))) := by
  unfold Lp.spec_l10Lock; rw [loop_eq]; kernel_rfl

theorem pu_spec_l10Apart (a0 : List (List S)) : pureV (call Ev) Fn.spec_l10Apart [lv a0] =
  (Lp.spec_l10Apart 0 [lv a0, iv .i64 0] (D 0)).bind fun o101 => lcase o101 (fun l102 h103 =>
  some (bv true)) (fun v104 h105 =>
  frzV h105 v104) := by
  rw [pure_eq]; kernel_rfl

theorem eq_spec_l10Apart_l0 (s0 : List (List S)) (s3 : Int) (h : H) : Lp.spec_l10Apart 0 [lv s0, iv .i64 s3] h =
  vcase (bv (decide (s3 < (s0.length : Int))))
  ((Lp.spec_l10Apart 2 [lv s0, iv .i64 s3, iv .i64 0] h).bind fun o203 => lcase o203 (fun l204 h205 =>
  (l204[0]?).bind fun w208 =>
  gV1 w208 fun x209 =>
  gF x209 fun z210 =>
  (l204[1]?).bind fun w211 =>
  gV1 w211 fun x212 =>
  gI .i64 x212 fun i213 =>
  Lp.spec_l10Apart 0 [lv z210, iv .i64 (IntKind.i64.wrap (i213 + 1))] (tidy h [lv z210, iv .i64 (IntKind.i64.wrap (i213 + 1))] h205)) (fun v206 h207 =>
  some (.ret v206 h207)))
  (some (.done [] (tidy h [] h))) := by
  unfold Lp.spec_l10Apart; rw [loop_eq]; kernel_rfl

theorem eq_spec_l10Apart_l2 (s0 : List (List S)) (s3 : Int) (s4 : Int) (h : H) : Lp.spec_l10Apart 2 [lv s0, iv .i64 s3, iv .i64 s4] h =
  idxF 4 s0 s3 fun r401 =>
  (r401[3]?).bind fun x402 =>
  gF x402 fun z403 =>
  vcase (bv (decide (s4 < (z403.length : Int))))
  (idxF 4 s0 s3 fun r406 =>
  (r406[3]?).bind fun x407 =>
  gF x407 fun z408 =>
  idxF 2 z408 s4 fun r409 =>
  (rowN 2 r409 0).bind fun c410 =>
  (c410[0]?).bind fun x411 =>
  gI .i64 x411 fun i412 =>
  (c410[1]?).bind fun x413 =>
  gI .i64 x413 fun i414 =>
  if c410.length = 2 then
  idxF 4 s0 s3 fun r415 =>
  (r415[0]?).bind fun x416 =>
  gI .i64 x416 fun i417 =>
  pcallS (call Ev) Fn.spec_l10Lock [lv s0, .agg [.int .i64 i412, .int .i64 i414]] fun v418 =>
  gV1 v418 fun x419 =>
  gI .i64 x419 fun i420 =>
  hchk h h (
  vcase (bv (i420 != i417))
  (some (.ret (bv false) h))
  (Lp.spec_l10Apart 2 [lv s0, iv .i64 s3, iv .i64 (IntKind.i64.wrap (s4 + 1))] (tidy h [lv s0, iv .i64 s3, iv .i64 (IntKind.i64.wrap (s4 + 1))] h)))
  else none)
  (some (.done [lv s0, iv .i64 s3] (tidy h [lv s0, iv .i64 s3] h))) := by
  unfold Lp.spec_l10Apart; rw [loop_eq]; kernel_rfl

theorem pu_spec_l10Count (a0 : List (List S)) : pureV (call Ev) Fn.spec_l10Count [lv a0] =
  (Lp.spec_l10Count 0 [lv a0, iv .i64 0, iv .i64 0] (D 0)).bind fun o101 => lcase o101 (fun l102 h103 =>
  (l102[0]?).bind fun w106 =>
  gV1 w106 fun x107 =>
  gI .i64 x107 fun i108 =>
  some (iv .i64 i108)) (fun v104 h105 =>
  frzV h105 v104) := by
  rw [pure_eq]; kernel_rfl

theorem eq_spec_l10Count_l0 (s0 : List (List S)) (s3 : Int) (s4 : Int) (h : H) : Lp.spec_l10Count 0 [lv s0, iv .i64 s3, iv .i64 s4] h =
  vcase (bv (decide (s4 < (s0.length : Int))))
  (idxF 4 s0 s4 fun r203 =>
  (r203[1]?).bind fun x204 =>
  gF x204 fun z205 =>
  Lp.spec_l10Count 0 [lv s0, iv .i64 (IntKind.i64.wrap (s3 + (z205.length : Int))), iv .i64 (IntKind.i64.wrap (s4 + 1))] (tidy h [lv s0, iv .i64 (IntKind.i64.wrap (s3 + (z205.length : Int))), iv .i64 (IntKind.i64.wrap (s4 + 1))] h))
  (some (.done [iv .i64 s3] (tidy h [iv .i64 s3] h))) := by
  unfold Lp.spec_l10Count; rw [loop_eq]; kernel_rfl

theorem pu_spec_l10Fault (a0 : List (List S)) : pureV (call Ev) Fn.spec_l10Fault [lv a0] =
  vcase (bv (decide ((a0.length : Int) > 4)))
  (some (iv .i64 2))
  ((Lp.spec_l10Fault 0 [lv a0, iv .i64 0] (D 0)).bind fun o102 => lcase o102 (fun l103 h104 =>
  (l103[0]?).bind fun w107 =>
  gV1 w107 fun x108 =>
  gF x108 fun z109 =>
  pcallS (call Ev) Fn.spec_l10Apart [lv z109] fun v110 =>
  gV1 v110 fun x111 =>
  gB x111 fun q112 =>
  vcase (bv (!q112))
  (some (iv .i64 7))
  (pcallS (call Ev) Fn.spec_l10Count [lv z109] fun v114 =>
  gV1 v114 fun x115 =>
  gI .i64 x115 fun i116 =>
  vcase (bv (decide (i116 > 12)))
  (some (iv .i64 2))
  (some (iv .i64 0)))) (fun v105 h106 =>
  frzV h106 v105)) := by
  rw [pure_eq]; kernel_rfl

theorem eq_spec_l10Fault_l0 (s0 : List (List S)) (s3 : Int) (h : H) : Lp.spec_l10Fault 0 [lv s0, iv .i64 s3] h =
  vcase (bv (decide (s3 < (s0.length : Int))))
  (idxF 4 s0 s3 fun r203 =>
  (r203[0]?).bind fun x204 =>
  gI .i64 x204 fun i205 =>
  pcallS (call Ev) Fn.spec_l1In [iv .i64 i205, iv .i64 1, iv .i64 99] fun v206 =>
  gV1 v206 fun x207 =>
  gB x207 fun q208 =>
  vcase (bv (!q208))
  (some (.ret (iv .i64 3) h))
  (vcase (bv (decide (s3 > 0)))
  ((r203[0]?).bind fun x211 =>
  gI .i64 x211 fun i212 =>
  idxF 4 s0 (IntKind.i64.wrap (s3 - 1)) fun r213 =>
  (r213[0]?).bind fun x214 =>
  gI .i64 x214 fun i215 =>
  vcase (bv (decide (i212 ≤ i215)))
  (some (.ret (iv .i64 1) h))
  (pcallS (call Ev) Fn.spec_l10Undo [normV 4 (fv r203 0)] fun v219 =>
  gV1 v219 fun x220 =>
  gI .i64 x220 fun i221 =>
  vcase (bv (i221 != 0))
  (some (.ret (iv .i64 i221) h))
  (pcallS (call Ev) Fn.spec_l10Marks [normV 4 (fv r203 0)] fun v223 =>
  gV1 v223 fun x224 =>
  gI .i64 x224 fun i225 =>
  vcase (bv (i225 != 0))
  (some (.ret (iv .i64 i225) h))
  (Lp.spec_l10Fault 0 [lv s0, iv .i64 (IntKind.i64.wrap (s3 + 1))] (tidy h [lv s0, iv .i64 (IntKind.i64.wrap (s3 + 1))] h)))))
  (pcallS (call Ev) Fn.spec_l10Undo [normV 4 (fv r203 0)] fun v228 =>
  gV1 v228 fun x229 =>
  gI .i64 x229 fun i230 =>
  vcase (bv (i230 != 0))
  (some (.ret (iv .i64 i230) h))
  (pcallS (call Ev) Fn.spec_l10Marks [normV 4 (fv r203 0)] fun v232 =>
  gV1 v232 fun x233 =>
  gI .i64 x233 fun i234 =>
  vcase (bv (i234 != 0))
  (some (.ret (iv .i64 i234) h))
  (Lp.spec_l10Fault 0 [lv s0, iv .i64 (IntKind.i64.wrap (s3 + 1))] (tidy h [lv s0, iv .i64 (IntKind.i64.wrap (s3 + 1))] h))))))
  (some (.done [lv s0] (tidy h [lv s0] h))) := by
  unfold Lp.spec_l10Fault; rw [loop_eq]; kernel_rfl

theorem pu_spec_TxsFault (a0 : List (List S)) : pureV (call Ev) Fn.spec_TxsFault [lv a0] =
  pcallS (call Ev) Fn.spec_l10Fault [lv a0] fun v101 =>
  gV1 v101 fun x102 =>
  gI .i64 x102 fun i103 =>
  some (iv .i64 i103) := by
  rw [pure_eq]; kernel_rfl

theorem pu_laws_toRow (a0_0 : Int) (a0_1 : Int) (a0_2 : Int) (a0_3 : ByteArray) : pureV (call Ev) Fn.laws_toRow [.agg [.int .i64 a0_0, .int .i64 a0_1, .int .i64 a0_2, .str a0_3]] =
  some (.agg [.int .i64 a0_0, .int .i64 a0_1, .int .i64 a0_2, .str a0_3]) := by
  rw [pure_eq]; kernel_rfl

end Vm
