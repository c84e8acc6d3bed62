/-
  What each function, and each round of each loop, comes to in the small machine. Written by a program (gen3.py).
-/
import Derived.Test.YtainemlfiibooaaEnv
set_option linter.unusedVariables false
set_option maxRecDepth 100000
namespace Vm
open Go

theorem eq_impl_PackRecord (a0_0 : Int) (a0_1 : Int) (a0_2 : Int) (a0_3 : List (List S)) (n : Nat) : call Ev Fn.impl_PackRecord [.agg [.int .i64 a0_0, .int .i64 a0_1, .int .i64 a0_2, .fs a0_3]] (D n) =
  (loadN 4 (((D n).new 0 [.int .i64 a0_0, .int .i64 a0_1, .int .i64 a0_2, .fs a0_3]).new 0 [.int .i64 0, .sl none 0]) (pv ((D n).n) 0)).bind fun c101 =>
  (c101[0]?).bind fun x102 =>
  gI .i64 x102 fun i103 =>
  (c101[1]?).bind fun x104 =>
  gI .i64 x104 fun i105 =>
  (c101[2]?).bind fun x106 =>
  gI .i64 x106 fun i107 =>
  (c101[3]?).bind fun x108 =>
  if c101.length = 4 then
  (frzVs (((D n).new 0 [.int .i64 a0_0, .int .i64 a0_1, .int .i64 a0_2, .fs a0_3]).new 0 [.int .i64 0, .sl none 0]) [.agg [.int .i64 i103, .int .i64 i105, .int .i64 i107, x108]]).bind fun l109 =>
  pcallS (call Ev) Fn.impl_RecordFault (normVs [] l109) fun v110 =>
  gV1 v110 fun x111 =>
  gI .i64 x111 fun i112 =>
  vcase (bv (i112 != 0))
  (stK 2 (((D n).new 0 [.int .i64 a0_0, .int .i64 a0_1, .int .i64 a0_2, .fs a0_3]).new 0 [.int .i64 0, .sl none 0]) (pv (((D n).new 0 [.int .i64 a0_0, .int .i64 a0_1, .int .i64 a0_2, .fs a0_3]).n) 0) (.agg [.int .i64 i112, .sl none 0]) fun h114 =>
  (loadN 2 h114 (pv (((D n).new 0 [.int .i64 a0_0, .int .i64 a0_1, .int .i64 a0_2, .fs a0_3]).n) 0)).bind fun c115 =>
  some (.agg c115, h114))
  ((loadN 4 (((D n).new 0 [.int .i64 a0_0, .int .i64 a0_1, .int .i64 a0_2, .fs a0_3]).new 0 [.int .i64 0, .sl none 0]) (pv ((D n).n) 0)).bind fun c116 =>
  (c116[0]?).bind fun x117 =>
  gI .i64 x117 fun i118 =>
  (c116[1]?).bind fun x119 =>
  gI .i64 x119 fun i120 =>
  (c116[2]?).bind fun x121 =>
  gI .i64 x121 fun i122 =>
  (c116[3]?).bind fun x123 =>
  if c116.length = 4 then
  (frzVs (((D n).new 0 [.int .i64 a0_0, .int .i64 a0_1, .int .i64 a0_2, .fs a0_3]).new 0 [.int .i64 0, .sl none 0]) [.agg [.int .i64 i118, .int .i64 i120, .int .i64 i122, x123]]).bind fun l124 =>
  pcallF (call Ev) Fn.impl_packed ([.agg [.int .i64 i118, .int .i64 i120, .int .i64 i122, x123]].all offV) (normVs [] l124) (((D n).new 0 [.int .i64 a0_0, .int .i64 a0_1, .int .i64 a0_2, .fs a0_3]).new 0 [.int .i64 0, .sl none 0]) fun v125 h126 =>
  cellsK v125 fun c127 =>
  if c127.length = 1 ∧ 1 + 1 ≤ ([.int .i64 0, .sl none 0] : List S).length then
  ((setAt ([.int .i64 0, .sl none 0] : List S) 1 c127)[0]?).bind fun x128 =>
  gI .i64 x128 fun i129 =>
  ((setAt ([.int .i64 0, .sl none 0] : List S) 1 c127)[1]?).bind fun x130 =>
  if (setAt ([.int .i64 0, .sl none 0] : List S) 1 c127).length = 2 then
  stK 2 h126 (pv (((D n).new 0 [.int .i64 a0_0, .int .i64 a0_1, .int .i64 a0_2, .fs a0_3]).n) 0) (.agg [.int .i64 i129, x130]) fun h131 =>
  (loadN 2 h131 (pv (((D n).new 0 [.int .i64 a0_0, .int .i64 a0_1, .int .i64 a0_2, .fs a0_3]).n) 0)).bind fun c132 =>
  some (.agg c132, h131)
  else none
  else none
  else none)
  else none := by
  rw [call_eq]; kernel_rfl

theorem pu_laws_eqBytesResult (a0_0 : Int) (a0_1 : List (List S)) (a1_0 : Int) (a1_1 : List (List S)) : pureV (call Ev) Fn.laws_eqBytesResult [.agg [.int .i64 a0_0, .fs a0_1], .agg [.int .i64 a1_0, .fs a1_1]] =
  vcase (bv (a0_0 != a1_0))
  (some (bv false))
  (pcallS (call Ev) Fn.laws_eqByteS [lv a0_1, lv a1_1] fun v102 =>
  gV1 v102 fun x103 =>
  gB x103 fun q104 =>
  vcase (bv (!q104))
  (some (bv false))
  (some (bv true))) := by
  rw [pure_eq]; kernel_rfl

theorem eq_laws_markByteS (a0 : V) (a1 : Int) (h : H) : call Ev Fn.laws_markByteS [a0, iv .i64 a1] h =
  (Lp.laws_markByteS 0 [a0, iv .i64 a1, iv .i64 0] h).bind fun o101 => lcase o101 (fun l102 h103 =>
  (l102[0]?).bind fun w106 =>
  gV1 w106 fun x107 =>
  gI .i64 x107 fun i108 =>
  some (iv .i64 i108, h103)) (fun v104 h105 =>
  some (v104, h105)) := by
  rw [call_eq]; kernel_rfl

theorem eq_laws_markByteS_l0 (s0 : V) (s1 : Int) (s5 : Int) (h : H) : Lp.laws_markByteS 0 [s0, iv .i64 s1, iv .i64 s5] h =
  (lenV (.sl 5) s0).bind fun v201 =>
  gV1 v201 fun x202 =>
  gI .i64 x202 fun i203 =>
  vcase (bv (decide (s5 < i203)))
  (idxK 1 s0 (iv .i64 s5) fun v206 =>
  stK 1 h v206 (iv .u8 (IntKind.u8.wrap s1)) fun h207 =>
  Lp.laws_markByteS 0 [s0, iv .i64 (IntKind.i64.wrap (s1 + 1)), iv .i64 (IntKind.i64.wrap (s5 + 1))] (tidy h [s0, iv .i64 (IntKind.i64.wrap (s1 + 1)), iv .i64 (IntKind.i64.wrap (s5 + 1))] h207))
  (some (.done [iv .i64 s1] (tidy h [iv .i64 s1] h))) := by
  unfold Lp.laws_markByteS; rw [loop_eq]; kernel_rfl

theorem eq_laws_markRunS (a0 : V) (a1 : Int) (h : H) : call Ev Fn.laws_markRunS [a0, iv .i64 a1] h =
  (Lp.laws_markRunS 0 [a0, iv .i64 a1, iv .i64 0] h).bind fun o101 => lcase o101 (fun l102 h103 =>
  (l102[0]?).bind fun w106 =>
  gV1 w106 fun x107 =>
  gI .i64 x107 fun i108 =>
  some (iv .i64 i108, h103)) (fun v104 h105 =>
  some (v104, h105)) := by
  rw [call_eq]; kernel_rfl

theorem eq_laws_markRunS_l0 (s0 : V) (s1 : Int) (s5 : Int) (h : H) : Lp.laws_markRunS 0 [s0, iv .i64 s1, iv .i64 s5] h =
  (lenV (.sl 89) s0).bind fun v201 =>
  gV1 v201 fun x202 =>
  gI .i64 x202 fun i203 =>
  vcase (bv (decide (s5 < i203)))
  (idxK 2 s0 (iv .i64 s5) fun v206 =>
  (padd 0 v206).bind fun v207 =>
  stK 1 h v207 (iv .i64 s1) fun h208 =>
  idxK 2 s0 (iv .i64 s5) fun v209 =>
  (padd 1 v209).bind fun v210 =>
  ldK (.one (.f)) ⟨1, 24, [.sl none 0], false, .sl 5, false⟩ h208 v210 fun v211 =>
  (call Ev Fn.laws_markByteS [v211, iv .i64 (IntKind.i64.wrap (s1 + 1))] h208).bind fun p212 =>
  gV1 p212.1 fun x213 =>
  gI .i64 x213 fun i214 =>
  Lp.laws_markRunS 0 [s0, iv .i64 i214, iv .i64 (IntKind.i64.wrap (s5 + 1))] (tidy h [s0, iv .i64 i214, iv .i64 (IntKind.i64.wrap (s5 + 1))] (tidy h208 [p212.1] p212.2)))
  (some (.done [iv .i64 s1] (tidy h [iv .i64 s1] h))) := by
  unfold Lp.laws_markRunS; rw [loop_eq]; kernel_rfl

theorem eq_laws_markRecord (a0_0 : Int) (a0_1 : Int) (a0_2 : Int) (a0_3 : S) (a1 : Int) (h : H) : call Ev Fn.laws_markRecord [.agg [.int .i64 a0_0, .int .i64 a0_1, .int .i64 a0_2, a0_3], iv .i64 a1] h =
  (load1 (h.new 0 [.int .i64 a0_0, .int .i64 a0_1, .int .i64 a0_2, a0_3]) (pv h.n 3)).bind fun x101 =>
  (call Ev Fn.laws_markRunS [.s x101, iv .i64 a1] (h.new 0 [.int .i64 a0_0, .int .i64 a0_1, .int .i64 a0_2, a0_3])).bind fun p102 =>
  gV1 p102.1 fun x103 =>
  gI .i64 x103 fun i104 =>
  some (iv .i64 i104, tidy (h.new 0 [.int .i64 a0_0, .int .i64 a0_1, .int .i64 a0_2, a0_3]) [p102.1] p102.2) := by
  rw [call_eq]; kernel_rfl

theorem eq_laws_markBytesResult (a0_0 : Int) (a0_1 : S) (a1 : Int) (h : H) : call Ev Fn.laws_markBytesResult [.agg [.int .i64 a0_0, a0_1], iv .i64 a1] h =
  (load1 (h.new 0 [.int .i64 a0_0, a0_1]) (pv h.n 1)).bind fun x101 =>
  (call Ev Fn.laws_markByteS [.s x101, iv .i64 a1] (h.new 0 [.int .i64 a0_0, a0_1])).bind fun p102 =>
  gV1 p102.1 fun x103 =>
  gI .i64 x103 fun i104 =>
  some (iv .i64 i104, tidy (h.new 0 [.int .i64 a0_0, a0_1]) [p102.1] p102.2) := by
  rw [call_eq]; kernel_rfl

theorem pu_laws_heldByteS (a0 : List (List S)) (a1 : Int) : pureV (call Ev) Fn.laws_heldByteS [lv a0, iv .i64 a1] =
  (Lp.laws_heldByteS 0 [lv a0, iv .i64 a1, iv .i64 0] (D 0)).bind fun o101 => lcase o101 (fun l102 h103 =>
  (l102[0]?).bind fun w106 =>
  gV1 w106 fun x107 =>
  gI .i64 x107 fun i108 =>
  some (iv .i64 i108)) (fun v104 h105 =>
  frzV h105 v104) := by
  rw [pure_eq]; kernel_rfl

theorem eq_laws_heldByteS_l0 (s0 : List (List S)) (s1 : Int) (s5 : Int) (h : H) : Lp.laws_heldByteS 0 [lv s0, iv .i64 s1, iv .i64 s5] h =
  vcase (bv (decide (s5 < (s0.length : Int))))
  (idxF 1 s0 s5 fun r203 =>
  (r203[0]?).bind fun x204 =>
  gI .u8 x204 fun i205 =>
  vcase (bv (i205 != (IntKind.u8.wrap s1)))
  (some (.ret (iv .i64 (-1)) h))
  (Lp.laws_heldByteS 0 [lv s0, iv .i64 (IntKind.i64.wrap (s1 + 1)), iv .i64 (IntKind.i64.wrap (s5 + 1))] (tidy h [lv s0, iv .i64 (IntKind.i64.wrap (s1 + 1)), iv .i64 (IntKind.i64.wrap (s5 + 1))] h)))
  (some (.done [iv .i64 s1] (tidy h [iv .i64 s1] h))) := by
  unfold Lp.laws_heldByteS; rw [loop_eq]; kernel_rfl

theorem pu_laws_heldBytesResult (a0_0 : Int) (a0_1 : List (List S)) (a1 : Int) : pureV (call Ev) Fn.laws_heldBytesResult [.agg [.int .i64 a0_0, .fs a0_1], iv .i64 a1] =
  pcallS (call Ev) Fn.laws_heldByteS [lv a0_1, iv .i64 a1] fun v101 =>
  gV1 v101 fun x102 =>
  gI .i64 x102 fun i103 =>
  vcase (bv (decide (i103 < 0)))
  (some (iv .i64 (-1)))
  (some (iv .i64 i103)) := by
  rw [pure_eq]; kernel_rfl

noncomputable def Jn.laws_FnExactPackRecord_0 (q287 : Bool) (h147 : H) (p201 : V × H) (h142 : H) : Option (V) :=
  vcase (bv q287)
  (some (bv false))
  ((loadN 2 (tidy h147 [p201.1] p201.2) (pv h142.n 0)).bind fun c289 =>
  (c289[0]?).bind fun x290 =>
  gI .i64 x290 fun i291 =>
  (c289[1]?).bind fun x292 =>
  if c289.length = 2 then
  (call Ev Fn.laws_markBytesResult [.agg [.int .i64 i291, x292], iv .i64 1] (tidy h147 [p201.1] p201.2)).bind fun p293 =>
  gV1 p293.1 fun x294 =>
  gI .i64 x294 fun i295 =>
  (loadN 2 (tidy (tidy h147 [p201.1] p201.2) [p293.1] p293.2) (pv h142.n 0)).bind fun c296 =>
  (c296[0]?).bind fun x297 =>
  gI .i64 x297 fun i298 =>
  (c296[1]?).bind fun x299 =>
  if c296.length = 2 then
  (frzVs (tidy (tidy h147 [p201.1] p201.2) [p293.1] p293.2) [.agg [.int .i64 i298, x299], iv .i64 1]).bind fun l300 =>
  pcallS (call Ev) Fn.laws_heldBytesResult (normVs [] l300) fun v301 =>
  gV1 v301 fun x302 =>
  gI .i64 x302 fun i303 =>
  vcase (bv (decide (i303 < 0)))
  (some (bv false))
  (vcase (bv (i303 != i295))
  (some (bv false))
  ((loadN 4 (tidy (tidy h147 [p201.1] p201.2) [p293.1] p293.2) (pv 0 0)).bind fun c306 =>
  (c306[0]?).bind fun x307 =>
  gI .i64 x307 fun i308 =>
  (c306[1]?).bind fun x309 =>
  gI .i64 x309 fun i310 =>
  (c306[2]?).bind fun x311 =>
  gI .i64 x311 fun i312 =>
  (c306[3]?).bind fun x313 =>
  if c306.length = 4 then
  bif ([.agg [.int .i64 i308, .int .i64 i310, .int .i64 i312, x313]].all offV) then
  (frzVs (tidy (tidy h147 [p201.1] p201.2) [p293.1] p293.2) [.agg [.int .i64 i308, .int .i64 i310, .int .i64 i312, x313]]).bind fun l314 =>
  (pureV (call Ev) Fn.laws_toRecord (normVs [] l314)).bind fun v315 =>
  gVA v315 fun c316 =>
  (c316[0]?).bind fun x317 =>
  gI .i64 x317 fun i318 =>
  (c316[1]?).bind fun x319 =>
  gI .i64 x319 fun i320 =>
  (c316[2]?).bind fun x321 =>
  gI .i64 x321 fun i322 =>
  (c316[3]?).bind fun x323 =>
  gF x323 fun z324 =>
  if c316.length = 4 then
  (pureV (call Ev) Fn.impl_PackRecord [.agg [.int .i64 i318, .int .i64 i320, .int .i64 i322, .fs z324]]).bind fun v325 =>
  gVA v325 fun c326 =>
  (c326[0]?).bind fun x327 =>
  gI .i64 x327 fun i328 =>
  (c326[1]?).bind fun x329 =>
  gF x329 fun z330 =>
  if c326.length = 2 then
  stK 2 ((tidy (tidy h147 [p201.1] p201.2) [p293.1] p293.2).new 0 [.int .i64 0, .sl none 0]) (pv ((tidy (tidy h147 [p201.1] p201.2) [p293.1] p293.2).n) 0) (.agg [.int .i64 i328, .fs z330]) fun h331 =>
  (loadN 2 h331 (pv ((tidy (tidy h147 [p201.1] p201.2) [p293.1] p293.2).n) 0)).bind fun c332 =>
  (c332[0]?).bind fun x333 =>
  gI .i64 x333 fun i334 =>
  (c332[1]?).bind fun x335 =>
  if c332.length = 2 then
  (loadN 2 h331 (pv 1 0)).bind fun c336 =>
  (c336[0]?).bind fun x337 =>
  gI .i64 x337 fun i338 =>
  (c336[1]?).bind fun x339 =>
  if c336.length = 2 then
  (frzVs h331 [.agg [.int .i64 i334, x335], .agg [.int .i64 i338, x339]]).bind fun l340 =>
  pcallS (call Ev) Fn.laws_eqBytesResult (normVs [] l340) fun v341 =>
  gV1 v341 fun x342 =>
  gB x342 fun q343 =>
  vcase (bv (!q343))
  (some (bv false))
  ((loadN 2 h331 (pv h142.n 0)).bind fun c345 =>
  (c345[0]?).bind fun x346 =>
  gI .i64 x346 fun i347 =>
  (c345[1]?).bind fun x348 =>
  if c345.length = 2 then
  (frzVs h331 [.agg [.int .i64 i347, x348], iv .i64 1]).bind fun l349 =>
  pcallS (call Ev) Fn.laws_heldBytesResult (normVs [] l349) fun v350 =>
  gV1 v350 fun x351 =>
  gI .i64 x351 fun i352 =>
  vcase (bv (decide (i352 < 0)))
  (some (bv false))
  (vcase (bv (i352 != i295))
  (some (bv false))
  (some (bv true)))
  else none)
  else none
  else none
  else none
  else none
  else none
  else none))
  else none
  else none)

theorem pu_laws_FnExactPackRecord (a0_0 : Int) (a0_1 : Int) (a0_2 : Int) (a0_3 : List (List S)) : pureV (call Ev) Fn.laws_FnExactPackRecord [.agg [.int .i64 a0_0, .int .i64 a0_1, .int .i64 a0_2, .fs a0_3]] =
  pcallS (call Ev) Fn.laws_szRecord [.agg [.int .i64 a0_0, .int .i64 a0_1, .int .i64 a0_2, .fs a0_3], iv .i64 1048576] fun v101 =>
  gV1 v101 fun x102 =>
  gI .i64 x102 fun i103 =>
  vcase (bv (decide (i103 < 0)))
  (some (bv true))
  ((pureV (call Ev) Fn.laws_toRecord [.agg [.int .i64 a0_0, .int .i64 a0_1, .int .i64 a0_2, .fs a0_3]]).bind fun v105 =>
  gVA v105 fun c106 =>
  (c106[0]?).bind fun x107 =>
  gI .i64 x107 fun i108 =>
  (c106[1]?).bind fun x109 =>
  gI .i64 x109 fun i110 =>
  (c106[2]?).bind fun x111 =>
  gI .i64 x111 fun i112 =>
  (c106[3]?).bind fun x113 =>
  gF x113 fun z114 =>
  if c106.length = 4 then
  (pureV (call Ev) Fn.spec_PackRecord [.agg [.int .i64 i108, .int .i64 i110, .int .i64 i112, .fs z114]]).bind fun v115 =>
  gVA v115 fun c116 =>
  (c116[0]?).bind fun x117 =>
  gI .i64 x117 fun i118 =>
  (c116[1]?).bind fun x119 =>
  gF x119 fun z120 =>
  if c116.length = 2 then
  pcallF (call Ev) Fn.laws_toRecord true [.agg [.int .i64 a0_0, .int .i64 a0_1, .int .i64 a0_2, .fs a0_3]] ((((D 0).new 0 [.int .i64 a0_0, .int .i64 a0_1, .int .i64 a0_2, .fs a0_3]).new 0 [.int .i64 0, .sl none 0]).put 1 (.rw 0 [.int .i64 i118, .fs z120])) fun v121 h122 =>
  gVA v121 fun c123 =>
  (c123[0]?).bind fun x124 =>
  gI .i64 x124 fun i125 =>
  (c123[1]?).bind fun x126 =>
  gI .i64 x126 fun i127 =>
  (c123[2]?).bind fun x128 =>
  gI .i64 x128 fun i129 =>
  (c123[3]?).bind fun x130 =>
  if c123.length = 4 then
  stK 4 (h122.new 0 [.int .i64 0, .int .i64 0, .int .i64 0, .sl none 0]) (pv h122.n 0) (.agg [.int .i64 i125, .int .i64 i127, .int .i64 i129, x130]) fun h131 =>
  (loadN 4 h131 (pv h122.n 0)).bind fun c132 =>
  (c132[0]?).bind fun x133 =>
  gI .i64 x133 fun i134 =>
  (c132[1]?).bind fun x135 =>
  gI .i64 x135 fun i136 =>
  (c132[2]?).bind fun x137 =>
  gI .i64 x137 fun i138 =>
  (c132[3]?).bind fun x139 =>
  if c132.length = 4 then
  (frzVs h131 [.agg [.int .i64 i134, .int .i64 i136, .int .i64 i138, x139]]).bind fun l140 =>
  pcallF (call Ev) Fn.impl_PackRecord ([.agg [.int .i64 i134, .int .i64 i136, .int .i64 i138, x139]].all offV) (normVs [] l140) h131 fun v141 h142 =>
  gVA v141 fun c143 =>
  (c143[0]?).bind fun x144 =>
  gI .i64 x144 fun i145 =>
  (c143[1]?).bind fun x146 =>
  if c143.length = 2 then
  stK 2 (h142.new 0 [.int .i64 0, .sl none 0]) (pv h142.n 0) (.agg [.int .i64 i145, x146]) fun h147 =>
  (loadN 2 h147 (pv h142.n 0)).bind fun c148 =>
  (c148[0]?).bind fun x149 =>
  gI .i64 x149 fun i150 =>
  (c148[1]?).bind fun x151 =>
  if c148.length = 2 then
  (loadN 2 h147 (pv 1 0)).bind fun c152 =>
  (c152[0]?).bind fun x153 =>
  gI .i64 x153 fun i154 =>
  (c152[1]?).bind fun x155 =>
  if c152.length = 2 then
  (frzVs h147 [.agg [.int .i64 i150, x151], .agg [.int .i64 i154, x155]]).bind fun l156 =>
  pcallS (call Ev) Fn.laws_eqBytesResult (normVs [] l156) fun v157 =>
  gV1 v157 fun x158 =>
  gB x158 fun q159 =>
  vcase (bv (!q159))
  (some (bv false))
  ((loadN 4 h147 (pv h122.n 0)).bind fun c161 =>
  (c161[0]?).bind fun x162 =>
  gI .i64 x162 fun i163 =>
  (c161[1]?).bind fun x164 =>
  gI .i64 x164 fun i165 =>
  (c161[2]?).bind fun x166 =>
  gI .i64 x166 fun i167 =>
  (c161[3]?).bind fun x168 =>
  if c161.length = 4 then
  (loadN 4 h147 (pv 0 0)).bind fun c169 =>
  (c169[0]?).bind fun x170 =>
  gI .i64 x170 fun i171 =>
  (c169[1]?).bind fun x172 =>
  gI .i64 x172 fun i173 =>
  (c169[2]?).bind fun x174 =>
  gI .i64 x174 fun i175 =>
  (c169[3]?).bind fun x176 =>
  if c169.length = 4 then
  bif ([.agg [.int .i64 i171, .int .i64 i173, .int .i64 i175, x176]].all offV) then
  (frzVs h147 [.agg [.int .i64 i171, .int .i64 i173, .int .i64 i175, x176]]).bind fun l177 =>
  (pureV (call Ev) Fn.laws_toRecord (normVs [] l177)).bind fun v178 =>
  gVA v178 fun c179 =>
  (c179[0]?).bind fun x180 =>
  gI .i64 x180 fun i181 =>
  (c179[1]?).bind fun x182 =>
  gI .i64 x182 fun i183 =>
  (c179[2]?).bind fun x184 =>
  gI .i64 x184 fun i185 =>
  (c179[3]?).bind fun x186 =>
  gF x186 fun z187 =>
  if c179.length = 4 then
  hchk h147 h147 (
  (frzVs h147 [.agg [.int .i64 i163, .int .i64 i165, .int .i64 i167, x168], .agg [.int .i64 i181, .int .i64 i183, .int .i64 i185, .fs z187]]).bind fun l188 =>
  pcallS (call Ev) Fn.laws_eqRecord (normVs [] l188) fun v189 =>
  gV1 v189 fun x190 =>
  gB x190 fun q191 =>
  hchk h147 h147 (
  hchk h147 h147 (
  vcase (bv (!q191))
  (some (bv false))
  ((loadN 4 h147 (pv h122.n 0)).bind fun c193 =>
  (c193[0]?).bind fun x194 =>
  gI .i64 x194 fun i195 =>
  (c193[1]?).bind fun x196 =>
  gI .i64 x196 fun i197 =>
  (c193[2]?).bind fun x198 =>
  gI .i64 x198 fun i199 =>
  (c193[3]?).bind fun x200 =>
  if c193.length = 4 then
  (call Ev Fn.laws_markRecord [.agg [.int .i64 i195, .int .i64 i197, .int .i64 i199, x200], iv .i64 1] h147).bind fun p201 =>
  gV1 p201.1 fun x202 =>
  gI .i64 x202 fun i203 =>
  vcase (bv (decide (i203 < 0)))
  (Jn.laws_FnExactPackRecord_0 true h147 p201 h142)
  ((loadN 2 (tidy h147 [p201.1] p201.2) (pv h142.n 0)).bind fun c206 =>
  (c206[0]?).bind fun x207 =>
  gI .i64 x207 fun i208 =>
  (c206[1]?).bind fun x209 =>
  if c206.length = 2 then
  (loadN 2 (tidy h147 [p201.1] p201.2) (pv 1 0)).bind fun c210 =>
  (c210[0]?).bind fun x211 =>
  gI .i64 x211 fun i212 =>
  (c210[1]?).bind fun x213 =>
  if c210.length = 2 then
  (frzVs (tidy h147 [p201.1] p201.2) [.agg [.int .i64 i208, x209], .agg [.int .i64 i212, x213]]).bind fun l214 =>
  pcallS (call Ev) Fn.laws_eqBytesResult (normVs [] l214) fun v215 =>
  gV1 v215 fun x216 =>
  gB x216 fun q217 =>
  Jn.laws_FnExactPackRecord_0 (!q217) h147 p201 h142
  else none
  else none)
  else none))))
  else none
  else none
  else none
  else none)
  else none
  else none
  else none
  else none
  else none
  else none
  else none) := by
  rw [pure_eq]; kernel_rfl

theorem eq_spec_l2Copy (a0 : List (List S)) (n : Nat) : call Ev Fn.spec_l2Copy [lv a0] (D n) =
  (appS 1 ((D n).new 1 []) (sv ((D n).n) 0 0) (lv a0)).bind fun p101 =>
  some (p101.1, p101.2) := by
  rw [call_eq]; kernel_rfl

theorem pu_spec_l4Read (a0 : List (List S)) : pureV (call Ev) Fn.spec_l4Read [lv a0] =
  idxF 1 a0 1 fun r101 =>
  (r101[0]?).bind fun x102 =>
  gI .u8 x102 fun i103 =>
  idxF 1 a0 2 fun r104 =>
  (r104[0]?).bind fun x105 =>
  gI .u8 x105 fun i106 =>
  idxF 1 a0 3 fun r107 =>
  (r107[0]?).bind fun x108 =>
  gI .u8 x108 fun i109 =>
  hchk ((D 0).new 0 [.int .i64 0, .int .i64 0, .int .i64 0, .sl none 0]) (((D 0).new 0 [.int .i64 0, .int .i64 0, .int .i64 0, .sl none 0]).new 0 [.int .i64 0, .int .i64 0, .int .i64 0, .sl none 0]) (
  (Lp.spec_l4Read 0 [lv a0, pv 0 0, pv 1 0, iv .i64 5, iv .i64 0] ((((D 0).new 0 [.int .i64 0, .int .i64 0, .int .i64 0, .sl none 0]).new 0 [.int .i64 0, .int .i64 0, .int .i64 0, .sl none 0]).put 1 (.rw 0 [.int .i64 (IntKind.i64.wrap i103), .int .i64 (IntKind.i64.wrap i106), .int .i64 (IntKind.i64.wrap i109), .sl none 0]))).bind fun o110 => lcase o110 (fun l111 h112 =>
  (l111[0]?).bind fun w115 =>
  (l111[1]?).bind fun w116 =>
  ldK (.agg [.i .i64, .i .i64, .i .i64, .f]) ⟨4, 48, [.int .i64 0, .int .i64 0, .int .i64 0, .sl none 0], true, .st [(0, 2), (1, 2), (2, 2), (3, 27)], false⟩ h112 w116 fun v117 =>
  gVA v117 fun c118 =>
  (c118[0]?).bind fun x119 =>
  gI .i64 x119 fun i120 =>
  (c118[1]?).bind fun x121 =>
  gI .i64 x121 fun i122 =>
  (c118[2]?).bind fun x123 =>
  gI .i64 x123 fun i124 =>
  (c118[3]?).bind fun x125 =>
  if c118.length = 4 then
  stK 4 h112 w115 (.agg [.int .i64 i120, .int .i64 i122, .int .i64 i124, x125]) fun h126 =>
  ldT ⟨4, 48, [.int .i64 0, .int .i64 0, .int .i64 0, .sl none 0], true, .st [(0, 2), (1, 2), (2, 2), (3, 27)], false⟩ h126 w115 fun v127 =>
  frzV h126 v127
  else none) (fun v113 h114 =>
  frzV h114 v113)) := by
  rw [pure_eq]; kernel_rfl

noncomputable def Jn.spec_l4Read_l0_0 (q228 : Bool) (s0 : List (List S)) (s4 : Int) (s2 : V) (s3 : V) (h : H) (s5 : Int) : Option (LOut) :=
  vcase (bv q228)
  (idxF 1 s0 (IntKind.i64.wrap (s4 + 1)) fun r231 =>
  (r231[0]?).bind fun x232 =>
  gI .u8 x232 fun i233 =>
  vcase (bv (decide ((IntKind.i64.wrap ((IntKind.i64.wrap (s4 + 2)) + (IntKind.i64.wrap i233))) > (s0.length : Int))))
  (some (.done [s2, s3] (tidy h [s2, s3] h)))
  ((padd 3 s3).bind fun v235 =>
  ldK (.one (.f)) ⟨1, 24, [.sl none 0], false, .sl 89, false⟩ h v235 fun v236 =>
  idxF 1 s0 s4 fun r237 =>
  (r237[0]?).bind fun x238 =>
  gI .u8 x238 fun i239 =>
  slF 1 s0 (some (iv .i64 (IntKind.i64.wrap (s4 + 2)))) (some (iv .i64 (IntKind.i64.wrap ((IntKind.i64.wrap (s4 + 2)) + (IntKind.i64.wrap i233))))) fun z240 =>
  pcallF (call Ev) Fn.spec_l2Copy true [lv z240] h fun v241 h242 =>
  hchk h h242 (
  bif scaV v241 then
  cellsK v241 fun c243 =>
  if c243.length = 1 ∧ 1 + 1 ≤ ([.int .i64 (IntKind.i64.wrap i239), .sl none 0] : List S).length then
  ((setAt ([.int .i64 (IntKind.i64.wrap i239), .sl none 0] : List S) 1 c243)[0]?).bind fun x244 =>
  gI .i64 x244 fun i245 =>
  ((setAt ([.int .i64 (IntKind.i64.wrap i239), .sl none 0] : List S) 1 c243)[1]?).bind fun x246 =>
  if (setAt ([.int .i64 (IntKind.i64.wrap i239), .sl none 0] : List S) 1 c243).length = 2 then
  hchk h (h242.new 2 [.int .i64 i245, x246]) (
  (appS 2 (h242.new 2 [.int .i64 i245, x246]) v236 (sv h242.n 0 1)).bind fun p247 =>
  (padd 3 s3).bind fun v248 =>
  stK 1 p247.2 v248 p247.1 fun h249 =>
  Lp.spec_l4Read 0 [lv s0, s2, s3, iv .i64 (IntKind.i64.wrap ((IntKind.i64.wrap (s4 + 2)) + (IntKind.i64.wrap i233))), iv .i64 (IntKind.i64.wrap (s5 + 1))] (tidy h [lv s0, s2, s3, iv .i64 (IntKind.i64.wrap ((IntKind.i64.wrap (s4 + 2)) + (IntKind.i64.wrap i233))), iv .i64 (IntKind.i64.wrap (s5 + 1))] h249))
  else none
  else none
  else none)))
  (some (.done [s2, s3] (tidy h [s2, s3] h)))

theorem eq_spec_l4Read_l0 (s0 : List (List S)) (s2 : V) (s3 : V) (s4 : Int) (s5 : Int) (h : H) : Lp.spec_l4Read 0 [lv s0, s2, s3, iv .i64 s4, iv .i64 s5] h =
  idxF 1 s0 4 fun r201 =>
  (r201[0]?).bind fun x202 =>
  gI .u8 x202 fun i203 =>
  vcase (bv (decide (s5 < (IntKind.i64.wrap i203))))
  (Jn.spec_l4Read_l0_0 (decide ((IntKind.i64.wrap (s4 + 2)) ≤ (s0.length : Int))) s0 s4 s2 s3 h s5)
  (Jn.spec_l4Read_l0_0 false s0 s4 s2 s3 h s5) := by
  unfold Lp.spec_l4Read; rw [loop_eq]; kernel_rfl

noncomputable def Jn.spec_ReadRecord_0 (q214 : Bool) (w215 : V) (w216 : V) (w217 : V) (w218 : V) (w219 : V) (w220 : V) (w221 : V) (q222 : Bool) (h223 : H) (i187 : Int) : Option (V) :=
  vcase (bv q222)
  (stK 6 h223 (pv 0 0) (.agg [.int .i64 5, .int .i64 0, .int .i64 0, .int .i64 0, .int .i64 0, .sl none 0]) fun h225 =>
  (loadN 6 h225 (pv 0 0)).bind fun c226 =>
  frzV h225 (.agg c226))
  ((loadN 4 h223 (pv 1 0)).bind fun c227 =>
  (c227[0]?).bind fun x228 =>
  gI .i64 x228 fun i229 =>
  (c227[1]?).bind fun x230 =>
  gI .i64 x230 fun i231 =>
  (c227[2]?).bind fun x232 =>
  gI .i64 x232 fun i233 =>
  (c227[3]?).bind fun x234 =>
  if c227.length = 4 then
  stK 6 h223 (pv 0 0) (.agg [.int .i64 0, .int .i64 (IntKind.i64.wrap i187), .int .i64 i229, .int .i64 i231, .int .i64 i233, x234]) fun h235 =>
  (loadN 6 h235 (pv 0 0)).bind fun c236 =>
  frzV h235 (.agg c236)
  else none)

noncomputable def Jn.spec_ReadRecord_1 (q183 : Bool) (a0 : List (List S)) : Option (V) :=
  vcase (bv q183)
  (some (.agg [.int .i64 5, .int .i64 0, .int .i64 0, .int .i64 0, .int .i64 0, .fs []]))
  (idxF 1 a0 0 fun r185 =>
  (r185[0]?).bind fun x186 =>
  gI .u8 x186 fun i187 =>
  slF 1 a0 none (some (iv .i64 (IntKind.i64.wrap i187))) fun z188 =>
  (pureV (call Ev) Fn.spec_l4Read [lv z188]).bind fun v189 =>
  gVA v189 fun c190 =>
  (c190[0]?).bind fun x191 =>
  gI .i64 x191 fun i192 =>
  (c190[1]?).bind fun x193 =>
  gI .i64 x193 fun i194 =>
  (c190[2]?).bind fun x195 =>
  gI .i64 x195 fun i196 =>
  (c190[3]?).bind fun x197 =>
  gF x197 fun z198 =>
  if c190.length = 4 then
  pcallS (call Ev) Fn.spec_l4Fault [fv [.int .i64 i192, .int .i64 i194, .int .i64 i196, .fs z198] 0] fun v199 =>
  gV1 v199 fun x200 =>
  gI .i64 x200 fun i201 =>
  hchk ((((D 0).new 0 [.int .i64 0, .int .i64 0, .int .i64 0, .int .i64 0, .int .i64 0, .sl none 0]).new 0 [.int .i64 0, .int .i64 0, .int .i64 0, .sl none 0]).put 1 (.rw 0 [.int .i64 i192, .int .i64 i194, .int .i64 i196, .fs z198])) ((((D 0).new 0 [.int .i64 0, .int .i64 0, .int .i64 0, .int .i64 0, .int .i64 0, .sl none 0]).new 0 [.int .i64 0, .int .i64 0, .int .i64 0, .sl none 0]).put 1 (.rw 0 [.int .i64 i192, .int .i64 i194, .int .i64 i196, .fs z198])) (
  vcase (bv (i201 != 0))
  (hchk ((((D 0).new 0 [.int .i64 0, .int .i64 0, .int .i64 0, .int .i64 0, .int .i64 0, .sl none 0]).new 0 [.int .i64 0, .int .i64 0, .int .i64 0, .sl none 0]).put 1 (.rw 0 [.int .i64 i192, .int .i64 i194, .int .i64 i196, .fs z198])) ((((D 0).new 0 [.int .i64 0, .int .i64 0, .int .i64 0, .int .i64 0, .int .i64 0, .sl none 0]).new 0 [.int .i64 0, .int .i64 0, .int .i64 0, .sl none 0]).put 1 (.rw 0 [.int .i64 i192, .int .i64 i194, .int .i64 i196, .fs z198])) (
  hchk ((((D 0).new 0 [.int .i64 0, .int .i64 0, .int .i64 0, .int .i64 0, .int .i64 0, .sl none 0]).new 0 [.int .i64 0, .int .i64 0, .int .i64 0, .sl none 0]).put 1 (.rw 0 [.int .i64 i192, .int .i64 i194, .int .i64 i196, .fs z198])) ((((D 0).new 0 [.int .i64 0, .int .i64 0, .int .i64 0, .int .i64 0, .int .i64 0, .sl none 0]).new 0 [.int .i64 0, .int .i64 0, .int .i64 0, .sl none 0]).put 1 (.rw 0 [.int .i64 i192, .int .i64 i194, .int .i64 i196, .fs z198])) (
  Jn.spec_ReadRecord_0 true (.tup []) (.tup []) (.tup []) (.tup []) (.tup []) (.tup []) (.tup []) true ((((D 0).new 0 [.int .i64 0, .int .i64 0, .int .i64 0, .int .i64 0, .int .i64 0, .sl none 0]).new 0 [.int .i64 0, .int .i64 0, .int .i64 0, .sl none 0]).put 1 (.rw 0 [.int .i64 i192, .int .i64 i194, .int .i64 i196, .fs z198])) i187)))
  (slF 1 a0 none (some (iv .i64 (IntKind.i64.wrap i187))) fun z204 =>
  (fsStr z204).bind fun v205 =>
  gV1 v205 fun x206 =>
  gS x206 fun y207 =>
  pcallF (call Ev) Fn.spec_l4Pack false [fv [.int .i64 i192, .int .i64 i194, .int .i64 i196, .fs z198] 0] ((((D 0).new 0 [.int .i64 0, .int .i64 0, .int .i64 0, .int .i64 0, .int .i64 0, .sl none 0]).new 0 [.int .i64 0, .int .i64 0, .int .i64 0, .sl none 0]).put 1 (.rw 0 [.int .i64 i192, .int .i64 i194, .int .i64 i196, .fs z198])) fun v208 h209 =>
  hchk ((((D 0).new 0 [.int .i64 0, .int .i64 0, .int .i64 0, .int .i64 0, .int .i64 0, .sl none 0]).new 0 [.int .i64 0, .int .i64 0, .int .i64 0, .sl none 0]).put 1 (.rw 0 [.int .i64 i192, .int .i64 i194, .int .i64 i196, .fs z198])) h209 (
  bif scaV v208 then
  (cvStr h209 v208).bind fun v210 =>
  gV1 v210 fun x211 =>
  gS x211 fun y212 =>
  hchk ((((D 0).new 0 [.int .i64 0, .int .i64 0, .int .i64 0, .int .i64 0, .int .i64 0, .sl none 0]).new 0 [.int .i64 0, .int .i64 0, .int .i64 0, .sl none 0]).put 1 (.rw 0 [.int .i64 i192, .int .i64 i194, .int .i64 i196, .fs z198])) h209 (
  Jn.spec_ReadRecord_0 false (lv a0) (iv .i64 (IntKind.i64.wrap i187)) (lv z204) (.s (.str y207)) v208 (.s (.str y212)) (bv (!((y212 : ByteArray).toList == (y207 : ByteArray).toList))) (!((y212 : ByteArray).toList == (y207 : ByteArray).toList)) h209 i187)
  else none)))
  else none)

theorem pu_spec_ReadRecord (a0 : List (List S)) : pureV (call Ev) Fn.spec_ReadRecord [lv a0] =
  vcase (bv (decide ((a0.length : Int) < 7)))
  (some (.agg [.int .i64 5, .int .i64 0, .int .i64 0, .int .i64 0, .int .i64 0, .fs []]))
  (idxF 1 a0 0 fun r103 =>
  (r103[0]?).bind fun x104 =>
  gI .u8 x104 fun i105 =>
  vcase (bv (decide ((IntKind.i64.wrap i105) < 7)))
  (Jn.spec_ReadRecord_1 true a0)
  (idxF 1 a0 0 fun r111 =>
  (r111[0]?).bind fun x112 =>
  gI .u8 x112 fun i113 =>
  Jn.spec_ReadRecord_1 (decide ((a0.length : Int) < (IntKind.i64.wrap i113))) a0)) := by
  rw [pure_eq]; kernel_rfl

theorem eq_impl_copied (a0 : List (List S)) (n : Nat) : call Ev Fn.impl_copied [lv a0] (D n) =
  (appS 1 ((D n).new 1 []) (sv ((D n).n) 0 0) (lv a0)).bind fun p101 =>
  some (p101.1, p101.2) := by
  rw [call_eq]; kernel_rfl

theorem pu_slices_Equal_byte_byte (a0 : List (List S)) (a1 : List (List S)) : pureV (call Ev) Fn.slices_Equal_byte_byte [lv a0, lv a1] =
  vcase (bv ((a0.length : Int) != (a1.length : Int)))
  (some (bv false))
  ((Lp.slices_Equal_byte_byte 0 [lv a0, lv a1, iv .i64 (a0.length : Int), iv .i64 0] (D 0)).bind fun o102 => lcase o102 (fun l103 h104 =>
  some (bv true)) (fun v105 h106 =>
  frzV h106 v105)) := by
  rw [pure_eq]; kernel_rfl

theorem eq_slices_Equal_byte_byte_l0 (s0 : List (List S)) (s1 : List (List S)) (s12 : Int) (s13 : Int) (h : H) : Lp.slices_Equal_byte_byte 0 [lv s0, lv s1, iv .i64 s12, iv .i64 s13] h =
  vcase (bv (decide (s13 < s12)))
  (idxF 1 s0 s13 fun r203 =>
  (r203[0]?).bind fun x204 =>
  gI .u8 x204 fun i205 =>
  idxF 1 s1 s13 fun r206 =>
  (r206[0]?).bind fun x207 =>
  gI .u8 x207 fun i208 =>
  vcase (bv (i205 != i208))
  (some (.ret (bv false) h))
  (Lp.slices_Equal_byte_byte 0 [lv s0, lv s1, iv .i64 s12, iv .i64 (IntKind.i64.wrap (s13 + 1))] (tidy h [lv s0, lv s1, iv .i64 s12, iv .i64 (IntKind.i64.wrap (s13 + 1))] h)))
  (some (.done [] (tidy h [] h))) := by
  unfold Lp.slices_Equal_byte_byte; rw [loop_eq]; kernel_rfl

noncomputable def Jn.impl_read_0 (q345 : Bool) (h346 : H) (w298 : V) (w302 : V) (z301 : List (List S)) : Option (V × H) :=
  vcase (bv q345)
  (stK 4 h346 w298 (.agg [.int .i64 0, .int .i64 0, .int .i64 0, .sl none 0]) fun h348 =>
  ldT ⟨4, 48, [.int .i64 0, .int .i64 0, .int .i64 0, .sl none 0], true, .st [(0, 2), (1, 2), (2, 2), (3, 27)], false⟩ h348 w298 fun v349 =>
  (V.toA v349).bind fun t350 =>
  some (.tup [t350, .s (.int .i64 0)], h348))
  (ldK (.agg [.i .i64, .i .i64, .i .i64, .f]) ⟨4, 48, [.int .i64 0, .int .i64 0, .int .i64 0, .sl none 0], true, .st [(0, 2), (1, 2), (2, 2), (3, 27)], false⟩ h346 w302 fun v351 =>
  gVA v351 fun c352 =>
  (c352[0]?).bind fun x353 =>
  gI .i64 x353 fun i354 =>
  (c352[1]?).bind fun x355 =>
  gI .i64 x355 fun i356 =>
  (c352[2]?).bind fun x357 =>
  gI .i64 x357 fun i358 =>
  (c352[3]?).bind fun x359 =>
  if c352.length = 4 then
  stK 4 h346 w298 (.agg [.int .i64 i354, .int .i64 i356, .int .i64 i358, x359]) fun h360 =>
  ldT ⟨4, 48, [.int .i64 0, .int .i64 0, .int .i64 0, .sl none 0], true, .st [(0, 2), (1, 2), (2, 2), (3, 27)], false⟩ h360 w298 fun v361 =>
  (V.toA v361).bind fun t362 =>
  some (.tup [t362, .s (.int .i64 (z301.length : Int))], h360)
  else none)

noncomputable def Jn.impl_read_1 (q325 : Bool) (h295 : H) (w302 : V) (z301 : List (List S)) (w298 : V) : Option (V × H) :=
  vcase (bv q325)
  (Jn.impl_read_0 true h295 w298 w302 z301)
  (ldK (.agg [.i .i64, .i .i64, .i .i64, .f]) ⟨4, 48, [.int .i64 0, .int .i64 0, .int .i64 0, .sl none 0], true, .st [(0, 2), (1, 2), (2, 2), (3, 27)], false⟩ h295 w302 fun v328 =>
  gVA v328 fun c329 =>
  (c329[0]?).bind fun x330 =>
  gI .i64 x330 fun i331 =>
  (c329[1]?).bind fun x332 =>
  gI .i64 x332 fun i333 =>
  (c329[2]?).bind fun x334 =>
  gI .i64 x334 fun i335 =>
  (c329[3]?).bind fun x336 =>
  if c329.length = 4 then
  (frzVs h295 [.agg [.int .i64 i331, .int .i64 i333, .int .i64 i335, x336]]).bind fun l337 =>
  pcallF (call Ev) Fn.impl_packed ([.agg [.int .i64 i331, .int .i64 i333, .int .i64 i335, x336]].all offV) (normVs [] l337) h295 fun v338 h339 =>
  (frzVs h339 [v338, lv z301]).bind fun l340 =>
  pcallS (call Ev) Fn.slices_Equal_byte_byte (normVs [] l340) fun v341 =>
  gV1 v341 fun x342 =>
  gB x342 fun q343 =>
  Jn.impl_read_0 (!q343) h339 w298 w302 z301
  else none)

noncomputable def Jn.impl_read_2 (q272 : Bool) (n : Nat) (a0 : List (List S)) : Option (V × H) :=
  vcase (bv q272)
  (stK 4 ((D n).new 0 [.int .i64 0, .int .i64 0, .int .i64 0, .sl none 0]) (pv ((D n).n) 0) (.agg [.int .i64 0, .int .i64 0, .int .i64 0, .sl none 0]) fun h274 =>
  (loadN 4 h274 (pv ((D n).n) 0)).bind fun c275 =>
  some (.tup [.agg c275, .s (.int .i64 0)], h274))
  (idxF 1 a0 0 fun r276 =>
  (r276[0]?).bind fun x277 =>
  gI .u8 x277 fun i278 =>
  slF 1 a0 none (some (iv .u8 i278)) fun z279 =>
  idxF 1 z279 1 fun r280 =>
  (r280[0]?).bind fun x281 =>
  gI .u8 x281 fun i282 =>
  idxF 1 z279 2 fun r283 =>
  (r283[0]?).bind fun x284 =>
  gI .u8 x284 fun i285 =>
  idxF 1 z279 3 fun r286 =>
  (r286[0]?).bind fun x287 =>
  gI .u8 x287 fun i288 =>
  hchk ((D n).new 0 [.int .i64 0, .int .i64 0, .int .i64 0, .sl none 0]) (((D n).new 0 [.int .i64 0, .int .i64 0, .int .i64 0, .sl none 0]).new 0 [.int .i64 0, .int .i64 0, .int .i64 0, .sl none 0]) (
  stK 4 (((D n).new 0 [.int .i64 0, .int .i64 0, .int .i64 0, .sl none 0]).new 0 [.int .i64 0, .int .i64 0, .int .i64 0, .sl none 0]) (pv (((D n).new 0 [.int .i64 0, .int .i64 0, .int .i64 0, .sl none 0]).n) 0) (.agg [.int .i64 (IntKind.i64.wrap i282), .int .i64 (IntKind.i64.wrap i285), .int .i64 (IntKind.i64.wrap i288), .sl none 0]) fun h289 =>
  idxF 1 z279 4 fun r290 =>
  (r290[0]?).bind fun x291 =>
  gI .u8 x291 fun i292 =>
  (Lp.impl_read 0 [pv ((D n).n) 0, lv z279, pv (((D n).new 0 [.int .i64 0, .int .i64 0, .int .i64 0, .sl none 0]).n) 0, iv .i64 5, iv .i64 (IntKind.i64.wrap ((z279.length : Int) - 2)), iv .i64 (IntKind.i64.wrap i292), iv .i64 0] h289).bind fun o293 => lcase o293 (fun l294 h295 =>
  (l294[0]?).bind fun w298 =>
  (l294[1]?).bind fun w299 =>
  gV1 w299 fun x300 =>
  gF x300 fun z301 =>
  (l294[2]?).bind fun w302 =>
  (l294[3]?).bind fun w303 =>
  gV1 w303 fun x304 =>
  gI .i64 x304 fun i305 =>
  (l294[4]?).bind fun w306 =>
  gV1 w306 fun x307 =>
  gI .i64 x307 fun i308 =>
  vcase (bv (i305 != i308))
  (Jn.impl_read_1 true h295 w302 z301 w298)
  (ldK (.agg [.i .i64, .i .i64, .i .i64, .f]) ⟨4, 48, [.int .i64 0, .int .i64 0, .int .i64 0, .sl none 0], true, .st [(0, 2), (1, 2), (2, 2), (3, 27)], false⟩ h295 w302 fun v311 =>
  gVA v311 fun c312 =>
  (c312[0]?).bind fun x313 =>
  gI .i64 x313 fun i314 =>
  (c312[1]?).bind fun x315 =>
  gI .i64 x315 fun i316 =>
  (c312[2]?).bind fun x317 =>
  gI .i64 x317 fun i318 =>
  (c312[3]?).bind fun x319 =>
  if c312.length = 4 then
  (frzVs h295 [.agg [.int .i64 i314, .int .i64 i316, .int .i64 i318, x319]]).bind fun l320 =>
  pcallS (call Ev) Fn.impl_RecordFault (normVs [] l320) fun v321 =>
  gV1 v321 fun x322 =>
  gI .i64 x322 fun i323 =>
  Jn.impl_read_1 (i323 != 0) h295 w302 z301 w298
  else none)) (fun v296 h297 =>
  some (v296, h297))))

theorem eq_impl_read (a0 : List (List S)) (n : Nat) : call Ev Fn.impl_read [lv a0] (D n) =
  vcase (bv (decide ((a0.length : Int) < 7)))
  (stK 4 ((D n).new 0 [.int .i64 0, .int .i64 0, .int .i64 0, .sl none 0]) (pv ((D n).n) 0) (.agg [.int .i64 0, .int .i64 0, .int .i64 0, .sl none 0]) fun h109 =>
  (loadN 4 h109 (pv ((D n).n) 0)).bind fun c110 =>
  some (.tup [.agg c110, .s (.int .i64 0)], h109))
  (idxF 1 a0 0 fun r103 =>
  (r103[0]?).bind fun x104 =>
  gI .u8 x104 fun i105 =>
  vcase (bv (decide ((IntKind.i64.wrap i105) > (a0.length : Int))))
  (Jn.impl_read_2 true n a0)
  (idxF 1 a0 0 fun r113 =>
  (r113[0]?).bind fun x114 =>
  gI .u8 x114 fun i115 =>
  Jn.impl_read_2 (decide (i115 < 7)) n a0)) := by
  rw [call_eq]; kernel_rfl

noncomputable def Jn.impl_read_l0_0 (q235 : Bool) (h : H) (s2 : V) (s4 : List (List S)) (s6 : Int) (s5 : V) (s7 : Int) (s52 : Int) (s53 : Int) : Option (LOut) :=
  vcase (bv q235)
  (stK 4 h s2 (.agg [.int .i64 0, .int .i64 0, .int .i64 0, .sl none 0]) fun h237 =>
  ldT ⟨4, 48, [.int .i64 0, .int .i64 0, .int .i64 0, .sl none 0], true, .st [(0, 2), (1, 2), (2, 2), (3, 27)], false⟩ h237 s2 fun v238 =>
  (V.toA v238).bind fun t239 =>
  some (.ret (.tup [t239, .s (.int .i64 0)]) h237))
  (idxF 1 s4 (IntKind.i64.wrap (s6 + 1)) fun r240 =>
  (r240[0]?).bind fun x241 =>
  gI .u8 x241 fun i242 =>
  (padd 3 s5).bind fun v243 =>
  ldK (.one (.f)) ⟨1, 24, [.sl none 0], false, .sl 89, false⟩ h v243 fun v244 =>
  idxF 1 s4 s6 fun r245 =>
  (r245[0]?).bind fun x246 =>
  gI .u8 x246 fun i247 =>
  slF 1 s4 (some (iv .i64 (IntKind.i64.wrap (s6 + 2)))) (some (iv .i64 (IntKind.i64.wrap ((IntKind.i64.wrap (s6 + 2)) + (IntKind.i64.wrap i242))))) fun z248 =>
  pcallF (call Ev) Fn.impl_copied true [lv z248] h fun v249 h250 =>
  hchk h h250 (
  bif scaV v249 then
  cellsK v249 fun c251 =>
  if c251.length = 1 ∧ 1 + 1 ≤ ([.int .i64 (IntKind.i64.wrap i247), .sl none 0] : List S).length then
  ((setAt ([.int .i64 (IntKind.i64.wrap i247), .sl none 0] : List S) 1 c251)[0]?).bind fun x252 =>
  gI .i64 x252 fun i253 =>
  ((setAt ([.int .i64 (IntKind.i64.wrap i247), .sl none 0] : List S) 1 c251)[1]?).bind fun x254 =>
  if (setAt ([.int .i64 (IntKind.i64.wrap i247), .sl none 0] : List S) 1 c251).length = 2 then
  hchk h (h250.new 2 [.int .i64 i253, x254]) (
  (appS 2 (h250.new 2 [.int .i64 i253, x254]) v244 (sv h250.n 0 1)).bind fun p255 =>
  (padd 3 s5).bind fun v256 =>
  stK 1 p255.2 v256 p255.1 fun h257 =>
  Lp.impl_read 0 [s2, lv s4, s5, iv .i64 (IntKind.i64.wrap (s6 + (IntKind.i64.wrap (2 + (IntKind.i64.wrap i242))))), iv .i64 s7, iv .i64 s52, iv .i64 (IntKind.i64.wrap (s53 + 1))] (tidy h [s2, lv s4, s5, iv .i64 (IntKind.i64.wrap (s6 + (IntKind.i64.wrap (2 + (IntKind.i64.wrap i242))))), iv .i64 s7, iv .i64 s52, iv .i64 (IntKind.i64.wrap (s53 + 1))] h257))
  else none
  else none
  else none))

theorem eq_impl_read_l0 (s2 : V) (s4 : List (List S)) (s5 : V) (s6 : Int) (s7 : Int) (s52 : Int) (s53 : Int) (h : H) : Lp.impl_read 0 [s2, lv s4, s5, iv .i64 s6, iv .i64 s7, iv .i64 s52, iv .i64 s53] h =
  vcase (bv (decide (s53 < s52)))
  (vcase (bv (decide ((IntKind.i64.wrap (s6 + 2)) > s7)))
  (Jn.impl_read_l0_0 true h s2 s4 s6 s5 s7 s52 s53)
  (idxF 1 s4 (IntKind.i64.wrap (s6 + 1)) fun r205 =>
  (r205[0]?).bind fun x206 =>
  gI .u8 x206 fun i207 =>
  Jn.impl_read_l0_0 (decide ((IntKind.i64.wrap ((IntKind.i64.wrap (s6 + 2)) + (IntKind.i64.wrap i207))) > s7)) h s2 s4 s6 s5 s7 s52 s53))
  (some (.done [s2, lv s4, s5, iv .i64 s6, iv .i64 s7] (tidy h [s2, lv s4, s5, iv .i64 s6, iv .i64 s7] h))) := by
  unfold Lp.impl_read; rw [loop_eq]; kernel_rfl

theorem eq_impl_ReadRecord (a0 : List (List S)) (n : Nat) : call Ev Fn.impl_ReadRecord [lv a0] (D n) =
  pcallF (call Ev) Fn.impl_read true [lv a0] ((D n).new 0 [.int .i64 0, .int .i64 0, .int .i64 0, .int .i64 0, .int .i64 0, .sl none 0]) fun v101 h102 =>
  gVT v101 fun u103 =>
  (u103[0]?).bind fun t104 =>
  gAA t104 fun c105 =>
  (c105[0]?).bind fun x106 =>
  gI .i64 x106 fun i107 =>
  (c105[1]?).bind fun x108 =>
  gI .i64 x108 fun i109 =>
  (c105[2]?).bind fun x110 =>
  gI .i64 x110 fun i111 =>
  (c105[3]?).bind fun x112 =>
  if c105.length = 4 then
  (u103[1]?).bind fun t113 =>
  gA1 t113 fun x114 =>
  gI .i64 x114 fun i115 =>
  if u103.length = 2 then
  stK 4 (h102.new 0 [.int .i64 0, .int .i64 0, .int .i64 0, .sl none 0]) (pv h102.n 0) (.agg [.int .i64 i107, .int .i64 i109, .int .i64 i111, x112]) fun h116 =>
  vcase (bv (i115 == 0))
  (stK 6 h116 (pv ((D n).n) 0) (.agg [.int .i64 5, .int .i64 0, .int .i64 0, .int .i64 0, .int .i64 0, .sl none 0]) fun h118 =>
  (loadN 6 h118 (pv ((D n).n) 0)).bind fun c119 =>
  some (.agg c119, h118))
  ((loadN 4 h116 (pv h102.n 0)).bind fun c120 =>
  (c120[0]?).bind fun x121 =>
  gI .i64 x121 fun i122 =>
  (c120[1]?).bind fun x123 =>
  gI .i64 x123 fun i124 =>
  (c120[2]?).bind fun x125 =>
  gI .i64 x125 fun i126 =>
  (c120[3]?).bind fun x127 =>
  if c120.length = 4 then
  stK 6 h116 (pv ((D n).n) 0) (.agg [.int .i64 0, .int .i64 i115, .int .i64 i122, .int .i64 i124, .int .i64 i126, x127]) fun h128 =>
  (loadN 6 h128 (pv ((D n).n) 0)).bind fun c129 =>
  some (.agg c129, h128)
  else none)
  else none
  else none := by
  rw [call_eq]; kernel_rfl

theorem pu_laws_eqRecordResult (a0_0 : Int) (a0_1 : Int) (a0_2 : Int) (a0_3 : Int) (a0_4 : Int) (a0_5 : List (List S)) (a1_0 : Int) (a1_1 : Int) (a1_2 : Int) (a1_3 : Int) (a1_4 : Int) (a1_5 : List (List S)) : pureV (call Ev) Fn.laws_eqRecordResult [.agg [.int .i64 a0_0, .int .i64 a0_1, .int .i64 a0_2, .int .i64 a0_3, .int .i64 a0_4, .fs a0_5], .agg [.int .i64 a1_0, .int .i64 a1_1, .int .i64 a1_2, .int .i64 a1_3, .int .i64 a1_4, .fs a1_5]] =
  vcase (bv (a0_0 != a1_0))
  (some (bv false))
  (vcase (bv (a0_1 != a1_1))
  (some (bv false))
  (pcallS (call Ev) Fn.laws_eqRecord [.agg [.int .i64 a0_2, .int .i64 a0_3, .int .i64 a0_4, .fs a0_5], .agg [.int .i64 a1_2, .int .i64 a1_3, .int .i64 a1_4, .fs a1_5]] fun v103 =>
  gV1 v103 fun x104 =>
  gB x104 fun q105 =>
  vcase (bv (!q105))
  (some (bv false))
  (some (bv true)))) := by
  rw [pure_eq]; kernel_rfl

theorem eq_laws_markRecordResult (a0_0 : Int) (a0_1 : Int) (a0_2 : Int) (a0_3 : Int) (a0_4 : Int) (a0_5 : S) (a1 : Int) (h : H) : call Ev Fn.laws_markRecordResult [.agg [.int .i64 a0_0, .int .i64 a0_1, .int .i64 a0_2, .int .i64 a0_3, .int .i64 a0_4, a0_5], iv .i64 a1] h =
  (loadN 4 (h.new 0 [.int .i64 a0_0, .int .i64 a0_1, .int .i64 a0_2, .int .i64 a0_3, .int .i64 a0_4, a0_5]) (pv h.n 2)).bind fun c101 =>
  (c101[0]?).bind fun x102 =>
  gI .i64 x102 fun i103 =>
  (c101[1]?).bind fun x104 =>
  gI .i64 x104 fun i105 =>
  (c101[2]?).bind fun x106 =>
  gI .i64 x106 fun i107 =>
  (c101[3]?).bind fun x108 =>
  if c101.length = 4 then
  (call Ev Fn.laws_markRecord [.agg [.int .i64 i103, .int .i64 i105, .int .i64 i107, x108], iv .i64 a1] (h.new 0 [.int .i64 a0_0, .int .i64 a0_1, .int .i64 a0_2, .int .i64 a0_3, .int .i64 a0_4, a0_5])).bind fun p109 =>
  gV1 p109.1 fun x110 =>
  gI .i64 x110 fun i111 =>
  some (iv .i64 i111, tidy (h.new 0 [.int .i64 a0_0, .int .i64 a0_1, .int .i64 a0_2, .int .i64 a0_3, .int .i64 a0_4, a0_5]) [p109.1] p109.2)
  else none := by
  rw [call_eq]; kernel_rfl

theorem pu_laws_heldRunS (a0 : List (List S)) (a1 : Int) : pureV (call Ev) Fn.laws_heldRunS [lv a0, iv .i64 a1] =
  (Lp.laws_heldRunS 0 [lv a0, iv .i64 a1, iv .i64 0] (D 0)).bind fun o101 => lcase o101 (fun l102 h103 =>
  (l102[0]?).bind fun w106 =>
  gV1 w106 fun x107 =>
  gI .i64 x107 fun i108 =>
  some (iv .i64 i108)) (fun v104 h105 =>
  frzV h105 v104) := by
  rw [pure_eq]; kernel_rfl

theorem eq_laws_heldRunS_l0 (s0 : List (List S)) (s1 : Int) (s5 : Int) (h : H) : Lp.laws_heldRunS 0 [lv s0, iv .i64 s1, iv .i64 s5] h =
  vcase (bv (decide (s5 < (s0.length : Int))))
  (idxF 2 s0 s5 fun r203 =>
  (r203[0]?).bind fun x204 =>
  gI .i64 x204 fun i205 =>
  vcase (bv (i205 != s1))
  (some (.ret (iv .i64 (-1)) h))
  (idxF 2 s0 s5 fun r207 =>
  (r207[1]?).bind fun x208 =>
  gF x208 fun z209 =>
  pcallS (call Ev) Fn.laws_heldByteS [lv z209, iv .i64 (IntKind.i64.wrap (s1 + 1))] fun v210 =>
  gV1 v210 fun x211 =>
  gI .i64 x211 fun i212 =>
  vcase (bv (decide (i212 < 0)))
  (some (.ret (iv .i64 (-1)) h))
  (Lp.laws_heldRunS 0 [lv s0, iv .i64 i212, iv .i64 (IntKind.i64.wrap (s5 + 1))] (tidy h [lv s0, iv .i64 i212, iv .i64 (IntKind.i64.wrap (s5 + 1))] h))))
  (some (.done [iv .i64 s1] (tidy h [iv .i64 s1] h))) := by
  unfold Lp.laws_heldRunS; rw [loop_eq]; kernel_rfl

theorem pu_laws_heldRecord (a0_0 : Int) (a0_1 : Int) (a0_2 : Int) (a0_3 : List (List S)) (a1 : Int) : pureV (call Ev) Fn.laws_heldRecord [.agg [.int .i64 a0_0, .int .i64 a0_1, .int .i64 a0_2, .fs a0_3], iv .i64 a1] =
  pcallS (call Ev) Fn.laws_heldRunS [lv a0_3, iv .i64 a1] fun v101 =>
  gV1 v101 fun x102 =>
  gI .i64 x102 fun i103 =>
  vcase (bv (decide (i103 < 0)))
  (some (iv .i64 (-1)))
  (some (iv .i64 i103)) := by
  rw [pure_eq]; kernel_rfl

theorem pu_laws_heldRecordResult (a0_0 : Int) (a0_1 : Int) (a0_2 : Int) (a0_3 : Int) (a0_4 : Int) (a0_5 : List (List S)) (a1 : Int) : pureV (call Ev) Fn.laws_heldRecordResult [.agg [.int .i64 a0_0, .int .i64 a0_1, .int .i64 a0_2, .int .i64 a0_3, .int .i64 a0_4, .fs a0_5], iv .i64 a1] =
  pcallS (call Ev) Fn.laws_heldRecord [.agg [.int .i64 a0_2, .int .i64 a0_3, .int .i64 a0_4, .fs a0_5], iv .i64 a1] fun v101 =>
  gV1 v101 fun x102 =>
  gI .i64 x102 fun i103 =>
  vcase (bv (decide (i103 < 0)))
  (some (iv .i64 (-1)))
  (some (iv .i64 i103)) := by
  rw [pure_eq]; kernel_rfl

end Vm
