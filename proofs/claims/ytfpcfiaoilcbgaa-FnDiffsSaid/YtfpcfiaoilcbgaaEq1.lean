/-
  What each function, and each round of each loop, comes to in the small machine. Written by a program (gen3.py).
-/
import Derived.Test.YtfpcfiaoilcbgaaEnv
set_option linter.unusedVariables false
set_option maxRecDepth 100000
namespace Vm
open Go

theorem eq_laws_markRowsResult (a0_0 : Int) (a0_1 : S) (a1 : Int) (h : H) : call Ev Fn.laws_markRowsResult [.agg [.int .i64 a0_0, a0_1], iv .i64 a1] h =
  (load1 (h.new 0 [.int .i64 a0_0, a0_1]) (pv h.n 1)).bind fun x101 =>
  (call Ev Fn.laws_markRowS [.s x101, iv .i64 a1] (h.new 0 [.int .i64 a0_0, a0_1])).bind fun p102 =>
  gV1 p102.1 fun x103 =>
  gI .i64 x103 fun i104 =>
  some (iv .i64 i104, tidy (h.new 0 [.int .i64 a0_0, a0_1]) [p102.1] p102.2) := by
  rw [call_eq]; kernel_rfl

theorem pu_laws_heldRowS (a0 : List (List S)) (a1 : Int) : pureV (call Ev) Fn.laws_heldRowS [lv a0, iv .i64 a1] =
  (Lp.laws_heldRowS 0 [lv a0, iv .i64 a1, iv .i64 0] (D 0)).bind fun o101 => lcase o101 (fun l102 h103 =>
  (l102[0]?).bind fun w106 =>
  gV1 w106 fun x107 =>
  gI .i64 x107 fun i108 =>
  some (iv .i64 i108)) (fun v104 h105 =>
  frzV h105 v104) := by
  rw [pure_eq]; kernel_rfl

theorem eq_laws_heldRowS_l0 (s0 : List (List S)) (s1 : Int) (s5 : Int) (h : H) : Lp.laws_heldRowS 0 [lv s0, iv .i64 s1, iv .i64 s5] h =
  vcase (bv (decide (s5 < (s0.length : Int))))
  (idxF 4 s0 s5 fun r203 =>
  (r203[0]?).bind fun x204 =>
  gI .i64 x204 fun i205 =>
  vcase (bv (i205 != s1))
  (some (.ret (iv .i64 (-1)) h))
  (idxF 4 s0 s5 fun r207 =>
  (r207[1]?).bind fun x208 =>
  gI .i64 x208 fun i209 =>
  vcase (bv (i209 != (IntKind.i64.wrap (s1 + 1))))
  (some (.ret (iv .i64 (-1)) h))
  (idxF 4 s0 s5 fun r211 =>
  (r211[2]?).bind fun x212 =>
  gI .i64 x212 fun i213 =>
  vcase (bv (i213 != (IntKind.i64.wrap ((IntKind.i64.wrap (s1 + 1)) + 1))))
  (some (.ret (iv .i64 (-1)) h))
  (idxF 4 s0 s5 fun r215 =>
  (r215[3]?).bind fun x216 =>
  gS x216 fun y217 =>
  pcallS (call Ev) Fn.laws_markText [iv .i64 (IntKind.i64.wrap ((IntKind.i64.wrap ((IntKind.i64.wrap (s1 + 1)) + 1)) + 1))] fun v218 =>
  gV1 v218 fun x219 =>
  gS x219 fun y220 =>
  hchk h h (
  vcase (bv (!((y217 : ByteArray).toList == (y220 : ByteArray).toList)))
  (some (.ret (iv .i64 (-1)) h))
  (Lp.laws_heldRowS 0 [lv s0, iv .i64 (IntKind.i64.wrap ((IntKind.i64.wrap ((IntKind.i64.wrap ((IntKind.i64.wrap (s1 + 1)) + 1)) + 1)) + 1)), iv .i64 (IntKind.i64.wrap (s5 + 1))] (tidy h [lv s0, iv .i64 (IntKind.i64.wrap ((IntKind.i64.wrap ((IntKind.i64.wrap ((IntKind.i64.wrap (s1 + 1)) + 1)) + 1)) + 1)), iv .i64 (IntKind.i64.wrap (s5 + 1))] h)))))))
  (some (.done [iv .i64 s1] (tidy h [iv .i64 s1] h))) := by
  unfold Lp.laws_heldRowS; rw [loop_eq]; kernel_rfl

theorem pu_laws_heldRowsResult (a0_0 : Int) (a0_1 : List (List S)) (a1 : Int) : pureV (call Ev) Fn.laws_heldRowsResult [.agg [.int .i64 a0_0, .fs a0_1], iv .i64 a1] =
  pcallS (call Ev) Fn.laws_heldRowS [lv a0_1, iv .i64 a1] fun v101 =>
  gV1 v101 fun x102 =>
  gI .i64 x102 fun i103 =>
  vcase (bv (decide (i103 < 0)))
  (some (iv .i64 (-1)))
  (some (iv .i64 i103)) := by
  rw [pure_eq]; kernel_rfl

noncomputable def Jn.laws_FnExactTablesIn_0 (q215 : Bool) (h123 : H) (p145 : V × H) (h118 : H) (a0 : List (List S)) : Option (V) :=
  vcase (bv q215)
  (some (bv false))
  ((loadN 2 (tidy h123 [p145.1] p145.2) (pv h118.n 0)).bind fun c217 =>
  (c217[0]?).bind fun x218 =>
  gI .i64 x218 fun i219 =>
  (c217[1]?).bind fun x220 =>
  if c217.length = 2 then
  (call Ev Fn.laws_markRowsResult [.agg [.int .i64 i219, x220], iv .i64 1] (tidy h123 [p145.1] p145.2)).bind fun p221 =>
  gV1 p221.1 fun x222 =>
  gI .i64 x222 fun i223 =>
  (loadN 2 (tidy (tidy h123 [p145.1] p145.2) [p221.1] p221.2) (pv h118.n 0)).bind fun c224 =>
  (c224[0]?).bind fun x225 =>
  gI .i64 x225 fun i226 =>
  (c224[1]?).bind fun x227 =>
  if c224.length = 2 then
  (frzVs (tidy (tidy h123 [p145.1] p145.2) [p221.1] p221.2) [.agg [.int .i64 i226, x227], iv .i64 1]).bind fun l228 =>
  pcallS (call Ev) Fn.laws_heldRowsResult (normVs [] l228) fun v229 =>
  gV1 v229 fun x230 =>
  gI .i64 x230 fun i231 =>
  vcase (bv (decide (i231 < 0)))
  (some (bv false))
  (vcase (bv (i231 != i223))
  (some (bv false))
  ((pureV (call Ev) Fn.laws_toRowS [lv a0]).bind fun v234 =>
  gV1 v234 fun x235 =>
  gF x235 fun z236 =>
  (pureV (call Ev) Fn.impl_TablesIn [lv z236]).bind fun v237 =>
  gVA v237 fun c238 =>
  (c238[0]?).bind fun x239 =>
  gI .i64 x239 fun i240 =>
  (c238[1]?).bind fun x241 =>
  gF x241 fun z242 =>
  if c238.length = 2 then
  stK 2 ((tidy (tidy h123 [p145.1] p145.2) [p221.1] p221.2).new 0 [.int .i64 0, .sl none 0]) (pv ((tidy (tidy h123 [p145.1] p145.2) [p221.1] p221.2).n) 0) (.agg [.int .i64 i240, .fs z242]) fun h243 =>
  (loadN 2 h243 (pv ((tidy (tidy h123 [p145.1] p145.2) [p221.1] p221.2).n) 0)).bind fun c244 =>
  (c244[0]?).bind fun x245 =>
  gI .i64 x245 fun i246 =>
  (c244[1]?).bind fun x247 =>
  if c244.length = 2 then
  (loadN 2 h243 (pv 0 0)).bind fun c248 =>
  (c248[0]?).bind fun x249 =>
  gI .i64 x249 fun i250 =>
  (c248[1]?).bind fun x251 =>
  if c248.length = 2 then
  (frzVs h243 [.agg [.int .i64 i246, x247], .agg [.int .i64 i250, x251]]).bind fun l252 =>
  pcallS (call Ev) Fn.laws_eqRowsResult (normVs [] l252) fun v253 =>
  gV1 v253 fun x254 =>
  gB x254 fun q255 =>
  vcase (bv (!q255))
  (some (bv false))
  ((loadN 2 h243 (pv h118.n 0)).bind fun c257 =>
  (c257[0]?).bind fun x258 =>
  gI .i64 x258 fun i259 =>
  (c257[1]?).bind fun x260 =>
  if c257.length = 2 then
  (frzVs h243 [.agg [.int .i64 i259, x260], iv .i64 1]).bind fun l261 =>
  pcallS (call Ev) Fn.laws_heldRowsResult (normVs [] l261) fun v262 =>
  gV1 v262 fun x263 =>
  gI .i64 x263 fun i264 =>
  vcase (bv (decide (i264 < 0)))
  (some (bv false))
  (vcase (bv (i264 != i223))
  (some (bv false))
  (some (bv true)))
  else none)
  else none
  else none
  else none))
  else none
  else none)

theorem pu_laws_FnExactTablesIn (a0 : List (List S)) : pureV (call Ev) Fn.laws_FnExactTablesIn [lv a0] =
  pcallS (call Ev) Fn.laws_szRowS [lv a0, iv .i64 1048576] fun v101 =>
  gV1 v101 fun x102 =>
  gI .i64 x102 fun i103 =>
  vcase (bv (decide (i103 < 0)))
  (some (bv true))
  ((pureV (call Ev) Fn.laws_toRowS [lv a0]).bind fun v105 =>
  gV1 v105 fun x106 =>
  gF x106 fun z107 =>
  (pureV (call Ev) Fn.spec_TablesIn [lv z107]).bind fun v108 =>
  gVA v108 fun c109 =>
  (c109[0]?).bind fun x110 =>
  gI .i64 x110 fun i111 =>
  (c109[1]?).bind fun x112 =>
  gF x112 fun z113 =>
  if c109.length = 2 then
  pcallF (call Ev) Fn.laws_toRowS true [lv a0] (((D 0).new 0 [.int .i64 0, .sl none 0]).put 0 (.rw 0 [.int .i64 i111, .fs z113])) fun v114 h115 =>
  (frzVs h115 [v114]).bind fun l116 =>
  pcallF (call Ev) Fn.impl_TablesIn ([v114].all offV) (normVs [] l116) h115 fun v117 h118 =>
  gVA v117 fun c119 =>
  (c119[0]?).bind fun x120 =>
  gI .i64 x120 fun i121 =>
  (c119[1]?).bind fun x122 =>
  if c119.length = 2 then
  stK 2 (h118.new 0 [.int .i64 0, .sl none 0]) (pv h118.n 0) (.agg [.int .i64 i121, x122]) fun h123 =>
  (loadN 2 h123 (pv h118.n 0)).bind fun c124 =>
  (c124[0]?).bind fun x125 =>
  gI .i64 x125 fun i126 =>
  (c124[1]?).bind fun x127 =>
  if c124.length = 2 then
  (loadN 2 h123 (pv 0 0)).bind fun c128 =>
  (c128[0]?).bind fun x129 =>
  gI .i64 x129 fun i130 =>
  (c128[1]?).bind fun x131 =>
  if c128.length = 2 then
  (frzVs h123 [.agg [.int .i64 i126, x127], .agg [.int .i64 i130, x131]]).bind fun l132 =>
  pcallS (call Ev) Fn.laws_eqRowsResult (normVs [] l132) fun v133 =>
  gV1 v133 fun x134 =>
  gB x134 fun q135 =>
  vcase (bv (!q135))
  (some (bv false))
  ((pureV (call Ev) Fn.laws_toRowS [lv a0]).bind fun v137 =>
  gV1 v137 fun x138 =>
  gF x138 fun z139 =>
  (frzVs h123 [v114, lv z139]).bind fun l140 =>
  pcallS (call Ev) Fn.laws_eqRowS (normVs [] l140) fun v141 =>
  gV1 v141 fun x142 =>
  gB x142 fun q143 =>
  vcase (bv (!q143))
  (some (bv false))
  ((call Ev Fn.laws_markRowS [v114, iv .i64 1] h123).bind fun p145 =>
  gV1 p145.1 fun x146 =>
  gI .i64 x146 fun i147 =>
  vcase (bv (decide (i147 < 0)))
  (Jn.laws_FnExactTablesIn_0 true h123 p145 h118 a0)
  ((loadN 2 (tidy h123 [p145.1] p145.2) (pv h118.n 0)).bind fun c150 =>
  (c150[0]?).bind fun x151 =>
  gI .i64 x151 fun i152 =>
  (c150[1]?).bind fun x153 =>
  if c150.length = 2 then
  (loadN 2 (tidy h123 [p145.1] p145.2) (pv 0 0)).bind fun c154 =>
  (c154[0]?).bind fun x155 =>
  gI .i64 x155 fun i156 =>
  (c154[1]?).bind fun x157 =>
  if c154.length = 2 then
  (frzVs (tidy h123 [p145.1] p145.2) [.agg [.int .i64 i152, x153], .agg [.int .i64 i156, x157]]).bind fun l158 =>
  pcallS (call Ev) Fn.laws_eqRowsResult (normVs [] l158) fun v159 =>
  gV1 v159 fun x160 =>
  gB x160 fun q161 =>
  Jn.laws_FnExactTablesIn_0 (!q161) h123 p145 h118 a0
  else none
  else none)))
  else none
  else none
  else none
  else none) := by
  rw [pure_eq]; kernel_rfl

theorem pu_laws_szChange (a0_0 : Bool) (a0_1 : Int) (a0_2 : Int) (a0_3 : Int) (a0_4 : ByteArray) (a0_5 : Bool) (a0_6 : Int) (a0_7 : Int) (a0_8 : Int) (a0_9 : ByteArray) (a1 : Int) : pureV (call Ev) Fn.laws_szChange [.agg [.bool a0_0, .int .i64 a0_1, .int .i64 a0_2, .int .i64 a0_3, .str a0_4, .bool a0_5, .int .i64 a0_6, .int .i64 a0_7, .int .i64 a0_8, .str a0_9], iv .i64 a1] =
  pcallS (call Ev) Fn.laws_szRow [.agg [.int .i64 a0_1, .int .i64 a0_2, .int .i64 a0_3, .str a0_4], iv .i64 a1] fun v101 =>
  gV1 v101 fun x102 =>
  gI .i64 x102 fun i103 =>
  vcase (bv (decide (i103 < 0)))
  (some (iv .i64 (-1)))
  (pcallS (call Ev) Fn.laws_szRow [.agg [.int .i64 a0_6, .int .i64 a0_7, .int .i64 a0_8, .str a0_9], iv .i64 i103] fun v105 =>
  gV1 v105 fun x106 =>
  gI .i64 x106 fun i107 =>
  vcase (bv (decide (i107 < 0)))
  (some (iv .i64 (-1)))
  (some (iv .i64 i107))) := by
  rw [pure_eq]; kernel_rfl

noncomputable def Jn.spec_l6Change_0 (q213 : Bool) (w214 : V) (w215 : V) (w216 : V) (w217 : V) (w218 : V) (w219 : V) (w220 : V) (w221 : V) (w222 : V) (w223 : V) (w224 : V) (w225 : V) (w226 : V) (w227 : V) (w228 : V) (w229 : V) (w230 : V) (w231 : V) (w232 : V) (w233 : V) (w234 : V) (w235 : V) (w236 : V) (w237 : V) (w238 : V) (w239 : V) (w240 : V) (w241 : V) (w242 : V) (w243 : V) (w244 : V) (w245 : V) (w246 : V) (w247 : V) (w248 : V) (w249 : V) (q250 : Bool) (a0_0 : Bool) (a0_1 : Int) (a0_2 : Int) (a0_3 : Int) (a0_4 : ByteArray) (a0_5 : Bool) (a0_6 : Int) (a0_7 : Int) (a0_8 : Int) (a0_9 : ByteArray) : Option (V) :=
  vcase (bv q250)
  (some (iv .i64 1))
  (vcase (bv a0_0)
  (pcallS (call Ev) Fn.spec_l1Fault [fv [.int .i64 a0_1, .int .i64 a0_2, .int .i64 a0_3, .str a0_4] 0] fun v253 =>
  gV1 v253 fun x254 =>
  gI .i64 x254 fun i255 =>
  vcase (bv (i255 != 0))
  (some (iv .i64 i255))
  (vcase (bv a0_5)
  (pcallS (call Ev) Fn.spec_l1Fault [fv [.int .i64 a0_6, .int .i64 a0_7, .int .i64 a0_8, .str a0_9] 0] fun v258 =>
  gV1 v258 fun x259 =>
  gI .i64 x259 fun i260 =>
  some (iv .i64 i260))
  (some (iv .i64 0))))
  (vcase (bv a0_5)
  (pcallS (call Ev) Fn.spec_l1Fault [fv [.int .i64 a0_6, .int .i64 a0_7, .int .i64 a0_8, .str a0_9] 0] fun v262 =>
  gV1 v262 fun x263 =>
  gI .i64 x263 fun i264 =>
  some (iv .i64 i264))
  (some (iv .i64 0))))

noncomputable def Jn.spec_l6Change_1 (q189 : Bool) (w190 : V) (w191 : V) (w192 : V) (w193 : V) (w194 : V) (q195 : Bool) (a0_0 : Bool) (a0_5 : Bool) (a0_1 : Int) (a0_6 : Int) (a0_2 : Int) (a0_3 : Int) (a0_4 : ByteArray) (a0_7 : Int) (a0_8 : Int) (a0_9 : ByteArray) : Option (V) :=
  vcase (bv q195)
  (Jn.spec_l6Change_0 true (.tup []) (.tup []) (.tup []) (.tup []) (.tup []) (.tup []) (.tup []) (.tup []) (.tup []) (.tup []) (.tup []) (.tup []) (.tup []) (.tup []) (.tup []) (.tup []) (.tup []) (.tup []) (.tup []) (.tup []) (.tup []) (.tup []) (.tup []) (.tup []) (.tup []) (.tup []) (.tup []) (.tup []) (.tup []) (.tup []) (.tup []) (.tup []) (.tup []) (.tup []) (.tup []) (.tup []) true a0_0 a0_1 a0_2 a0_3 a0_4 a0_5 a0_6 a0_7 a0_8 a0_9)
  (vcase (bv a0_0)
  (vcase (bv a0_5)
  (vcase (bv (a0_1 != a0_6))
  (Jn.spec_l6Change_0 false (fv [.bool a0_0, .int .i64 a0_1, .int .i64 a0_2, .int .i64 a0_3, .str a0_4, .bool a0_5, .int .i64 a0_6, .int .i64 a0_7, .int .i64 a0_8, .str a0_9] 0) (fv [.bool a0_0, .int .i64 a0_1, .int .i64 a0_2, .int .i64 a0_3, .str a0_4, .bool a0_5, .int .i64 a0_6, .int .i64 a0_7, .int .i64 a0_8, .str a0_9] 0) (fv [.bool a0_0, .int .i64 a0_1, .int .i64 a0_2, .int .i64 a0_3, .str a0_4, .bool a0_5, .int .i64 a0_6, .int .i64 a0_7, .int .i64 a0_8, .str a0_9] 0) (bv a0_0) (bv true) (fv [.bool a0_0, .int .i64 a0_1, .int .i64 a0_2, .int .i64 a0_3, .str a0_4, .bool a0_5, .int .i64 a0_6, .int .i64 a0_7, .int .i64 a0_8, .str a0_9] 0) (fv [.bool a0_0, .int .i64 a0_1, .int .i64 a0_2, .int .i64 a0_3, .str a0_4, .bool a0_5, .int .i64 a0_6, .int .i64 a0_7, .int .i64 a0_8, .str a0_9] 0) (fv [.bool a0_0, .int .i64 a0_1, .int .i64 a0_2, .int .i64 a0_3, .str a0_4, .bool a0_5, .int .i64 a0_6, .int .i64 a0_7, .int .i64 a0_8, .str a0_9] 5) (bv a0_5) (bv a0_5) (bv true) (fv [.bool a0_0, .int .i64 a0_1, .int .i64 a0_2, .int .i64 a0_3, .str a0_4, .bool a0_5, .int .i64 a0_6, .int .i64 a0_7, .int .i64 a0_8, .str a0_9] 0) (fv [.bool a0_0, .int .i64 a0_1, .int .i64 a0_2, .int .i64 a0_3, .str a0_4, .bool a0_5, .int .i64 a0_6, .int .i64 a0_7, .int .i64 a0_8, .str a0_9] 0) (fv [.bool a0_0, .int .i64 a0_1, .int .i64 a0_2, .int .i64 a0_3, .str a0_4, .bool a0_5, .int .i64 a0_6, .int .i64 a0_7, .int .i64 a0_8, .str a0_9] 1) (fv [.bool a0_0, .int .i64 a0_1, .int .i64 a0_2, .int .i64 a0_3, .str a0_4, .bool a0_5, .int .i64 a0_6, .int .i64 a0_7, .int .i64 a0_8, .str a0_9] 1) (iv .i64 a0_1) (fv [.bool a0_0, .int .i64 a0_1, .int .i64 a0_2, .int .i64 a0_3, .str a0_4, .bool a0_5, .int .i64 a0_6, .int .i64 a0_7, .int .i64 a0_8, .str a0_9] 0) (fv [.bool a0_0, .int .i64 a0_1, .int .i64 a0_2, .int .i64 a0_3, .str a0_4, .bool a0_5, .int .i64 a0_6, .int .i64 a0_7, .int .i64 a0_8, .str a0_9] 0) (fv [.bool a0_0, .int .i64 a0_1, .int .i64 a0_2, .int .i64 a0_3, .str a0_4, .bool a0_5, .int .i64 a0_6, .int .i64 a0_7, .int .i64 a0_8, .str a0_9] 6) (fv [.bool a0_0, .int .i64 a0_1, .int .i64 a0_2, .int .i64 a0_3, .str a0_4, .bool a0_5, .int .i64 a0_6, .int .i64 a0_7, .int .i64 a0_8, .str a0_9] 6) (iv .i64 a0_6) (bv (a0_1 != a0_6)) (bv true) (.tup []) (.tup []) (.tup []) (.tup []) (.tup []) (.tup []) (.tup []) (.tup []) (.tup []) (.tup []) (.tup []) (bv true) (bv true) true a0_0 a0_1 a0_2 a0_3 a0_4 a0_5 a0_6 a0_7 a0_8 a0_9)
  (Jn.spec_l6Change_0 false (fv [.bool a0_0, .int .i64 a0_1, .int .i64 a0_2, .int .i64 a0_3, .str a0_4, .bool a0_5, .int .i64 a0_6, .int .i64 a0_7, .int .i64 a0_8, .str a0_9] 0) (fv [.bool a0_0, .int .i64 a0_1, .int .i64 a0_2, .int .i64 a0_3, .str a0_4, .bool a0_5, .int .i64 a0_6, .int .i64 a0_7, .int .i64 a0_8, .str a0_9] 0) (fv [.bool a0_0, .int .i64 a0_1, .int .i64 a0_2, .int .i64 a0_3, .str a0_4, .bool a0_5, .int .i64 a0_6, .int .i64 a0_7, .int .i64 a0_8, .str a0_9] 0) (bv a0_0) (bv true) (fv [.bool a0_0, .int .i64 a0_1, .int .i64 a0_2, .int .i64 a0_3, .str a0_4, .bool a0_5, .int .i64 a0_6, .int .i64 a0_7, .int .i64 a0_8, .str a0_9] 0) (fv [.bool a0_0, .int .i64 a0_1, .int .i64 a0_2, .int .i64 a0_3, .str a0_4, .bool a0_5, .int .i64 a0_6, .int .i64 a0_7, .int .i64 a0_8, .str a0_9] 0) (fv [.bool a0_0, .int .i64 a0_1, .int .i64 a0_2, .int .i64 a0_3, .str a0_4, .bool a0_5, .int .i64 a0_6, .int .i64 a0_7, .int .i64 a0_8, .str a0_9] 5) (bv a0_5) (bv a0_5) (bv true) (fv [.bool a0_0, .int .i64 a0_1, .int .i64 a0_2, .int .i64 a0_3, .str a0_4, .bool a0_5, .int .i64 a0_6, .int .i64 a0_7, .int .i64 a0_8, .str a0_9] 0) (fv [.bool a0_0, .int .i64 a0_1, .int .i64 a0_2, .int .i64 a0_3, .str a0_4, .bool a0_5, .int .i64 a0_6, .int .i64 a0_7, .int .i64 a0_8, .str a0_9] 0) (fv [.bool a0_0, .int .i64 a0_1, .int .i64 a0_2, .int .i64 a0_3, .str a0_4, .bool a0_5, .int .i64 a0_6, .int .i64 a0_7, .int .i64 a0_8, .str a0_9] 1) (fv [.bool a0_0, .int .i64 a0_1, .int .i64 a0_2, .int .i64 a0_3, .str a0_4, .bool a0_5, .int .i64 a0_6, .int .i64 a0_7, .int .i64 a0_8, .str a0_9] 1) (iv .i64 a0_1) (fv [.bool a0_0, .int .i64 a0_1, .int .i64 a0_2, .int .i64 a0_3, .str a0_4, .bool a0_5, .int .i64 a0_6, .int .i64 a0_7, .int .i64 a0_8, .str a0_9] 0) (fv [.bool a0_0, .int .i64 a0_1, .int .i64 a0_2, .int .i64 a0_3, .str a0_4, .bool a0_5, .int .i64 a0_6, .int .i64 a0_7, .int .i64 a0_8, .str a0_9] 0) (fv [.bool a0_0, .int .i64 a0_1, .int .i64 a0_2, .int .i64 a0_3, .str a0_4, .bool a0_5, .int .i64 a0_6, .int .i64 a0_7, .int .i64 a0_8, .str a0_9] 6) (fv [.bool a0_0, .int .i64 a0_1, .int .i64 a0_2, .int .i64 a0_3, .str a0_4, .bool a0_5, .int .i64 a0_6, .int .i64 a0_7, .int .i64 a0_8, .str a0_9] 6) (iv .i64 a0_6) (bv (a0_1 != a0_6)) (bv false) (fv [.bool a0_0, .int .i64 a0_1, .int .i64 a0_2, .int .i64 a0_3, .str a0_4, .bool a0_5, .int .i64 a0_6, .int .i64 a0_7, .int .i64 a0_8, .str a0_9] 0) (fv [.bool a0_0, .int .i64 a0_1, .int .i64 a0_2, .int .i64 a0_3, .str a0_4, .bool a0_5, .int .i64 a0_6, .int .i64 a0_7, .int .i64 a0_8, .str a0_9] 0) (fv [.bool a0_0, .int .i64 a0_1, .int .i64 a0_2, .int .i64 a0_3, .str a0_4, .bool a0_5, .int .i64 a0_6, .int .i64 a0_7, .int .i64 a0_8, .str a0_9] 1) (fv [.bool a0_0, .int .i64 a0_1, .int .i64 a0_2, .int .i64 a0_3, .str a0_4, .bool a0_5, .int .i64 a0_6, .int .i64 a0_7, .int .i64 a0_8, .str a0_9] 2) (iv .i64 a0_2) (fv [.bool a0_0, .int .i64 a0_1, .int .i64 a0_2, .int .i64 a0_3, .str a0_4, .bool a0_5, .int .i64 a0_6, .int .i64 a0_7, .int .i64 a0_8, .str a0_9] 0) (fv [.bool a0_0, .int .i64 a0_1, .int .i64 a0_2, .int .i64 a0_3, .str a0_4, .bool a0_5, .int .i64 a0_6, .int .i64 a0_7, .int .i64 a0_8, .str a0_9] 0) (fv [.bool a0_0, .int .i64 a0_1, .int .i64 a0_2, .int .i64 a0_3, .str a0_4, .bool a0_5, .int .i64 a0_6, .int .i64 a0_7, .int .i64 a0_8, .str a0_9] 6) (fv [.bool a0_0, .int .i64 a0_1, .int .i64 a0_2, .int .i64 a0_3, .str a0_4, .bool a0_5, .int .i64 a0_6, .int .i64 a0_7, .int .i64 a0_8, .str a0_9] 7) (iv .i64 a0_7) (bv (a0_2 != a0_7)) (bv (a0_2 != a0_7)) (bv (a0_2 != a0_7)) (a0_2 != a0_7) a0_0 a0_1 a0_2 a0_3 a0_4 a0_5 a0_6 a0_7 a0_8 a0_9))
  (Jn.spec_l6Change_0 false (fv [.bool a0_0, .int .i64 a0_1, .int .i64 a0_2, .int .i64 a0_3, .str a0_4, .bool a0_5, .int .i64 a0_6, .int .i64 a0_7, .int .i64 a0_8, .str a0_9] 0) (fv [.bool a0_0, .int .i64 a0_1, .int .i64 a0_2, .int .i64 a0_3, .str a0_4, .bool a0_5, .int .i64 a0_6, .int .i64 a0_7, .int .i64 a0_8, .str a0_9] 0) (fv [.bool a0_0, .int .i64 a0_1, .int .i64 a0_2, .int .i64 a0_3, .str a0_4, .bool a0_5, .int .i64 a0_6, .int .i64 a0_7, .int .i64 a0_8, .str a0_9] 0) (bv a0_0) (bv true) (fv [.bool a0_0, .int .i64 a0_1, .int .i64 a0_2, .int .i64 a0_3, .str a0_4, .bool a0_5, .int .i64 a0_6, .int .i64 a0_7, .int .i64 a0_8, .str a0_9] 0) (fv [.bool a0_0, .int .i64 a0_1, .int .i64 a0_2, .int .i64 a0_3, .str a0_4, .bool a0_5, .int .i64 a0_6, .int .i64 a0_7, .int .i64 a0_8, .str a0_9] 0) (fv [.bool a0_0, .int .i64 a0_1, .int .i64 a0_2, .int .i64 a0_3, .str a0_4, .bool a0_5, .int .i64 a0_6, .int .i64 a0_7, .int .i64 a0_8, .str a0_9] 5) (bv a0_5) (bv a0_5) (bv false) (.tup []) (.tup []) (.tup []) (.tup []) (.tup []) (.tup []) (.tup []) (.tup []) (.tup []) (.tup []) (.tup []) (.tup []) (.tup []) (.tup []) (.tup []) (.tup []) (.tup []) (.tup []) (.tup []) (.tup []) (.tup []) (.tup []) (.tup []) (.tup []) (bv false) false a0_0 a0_1 a0_2 a0_3 a0_4 a0_5 a0_6 a0_7 a0_8 a0_9))
  (Jn.spec_l6Change_0 false (fv [.bool a0_0, .int .i64 a0_1, .int .i64 a0_2, .int .i64 a0_3, .str a0_4, .bool a0_5, .int .i64 a0_6, .int .i64 a0_7, .int .i64 a0_8, .str a0_9] 0) (fv [.bool a0_0, .int .i64 a0_1, .int .i64 a0_2, .int .i64 a0_3, .str a0_4, .bool a0_5, .int .i64 a0_6, .int .i64 a0_7, .int .i64 a0_8, .str a0_9] 0) (fv [.bool a0_0, .int .i64 a0_1, .int .i64 a0_2, .int .i64 a0_3, .str a0_4, .bool a0_5, .int .i64 a0_6, .int .i64 a0_7, .int .i64 a0_8, .str a0_9] 0) (bv a0_0) (bv false) (.tup []) (.tup []) (.tup []) (.tup []) (bv false) (bv false) (.tup []) (.tup []) (.tup []) (.tup []) (.tup []) (.tup []) (.tup []) (.tup []) (.tup []) (.tup []) (.tup []) (.tup []) (.tup []) (.tup []) (.tup []) (.tup []) (.tup []) (.tup []) (.tup []) (.tup []) (.tup []) (.tup []) (.tup []) (.tup []) (bv false) false a0_0 a0_1 a0_2 a0_3 a0_4 a0_5 a0_6 a0_7 a0_8 a0_9))

theorem pu_spec_l6Change (a0_0 : Bool) (a0_1 : Int) (a0_2 : Int) (a0_3 : Int) (a0_4 : ByteArray) (a0_5 : Bool) (a0_6 : Int) (a0_7 : Int) (a0_8 : Int) (a0_9 : ByteArray) : pureV (call Ev) Fn.spec_l6Change [fv [.bool a0_0, .int .i64 a0_1, .int .i64 a0_2, .int .i64 a0_3, .str a0_4, .bool a0_5, .int .i64 a0_6, .int .i64 a0_7, .int .i64 a0_8, .str a0_9] 0] =
  vcase (bv (!a0_0))
  (Jn.spec_l6Change_1 true (fv [.bool a0_0, .int .i64 a0_1, .int .i64 a0_2, .int .i64 a0_3, .str a0_4, .bool a0_5, .int .i64 a0_6, .int .i64 a0_7, .int .i64 a0_8, .str a0_9] 0) (fv [.bool a0_0, .int .i64 a0_1, .int .i64 a0_2, .int .i64 a0_3, .str a0_4, .bool a0_5, .int .i64 a0_6, .int .i64 a0_7, .int .i64 a0_8, .str a0_9] 0) (fv [.bool a0_0, .int .i64 a0_1, .int .i64 a0_2, .int .i64 a0_3, .str a0_4, .bool a0_5, .int .i64 a0_6, .int .i64 a0_7, .int .i64 a0_8, .str a0_9] 5) (bv a0_5) (bv (!a0_5)) (!a0_5) a0_0 a0_5 a0_1 a0_6 a0_2 a0_3 a0_4 a0_7 a0_8 a0_9)
  (Jn.spec_l6Change_1 false (.tup []) (.tup []) (.tup []) (.tup []) (.tup []) false a0_0 a0_5 a0_1 a0_6 a0_2 a0_3 a0_4 a0_7 a0_8 a0_9) := by
  rw [pure_eq]; kernel_rfl

theorem pu_spec_l6Key (a0_0 : Bool) (a0_1 : Int) (a0_2 : Int) (a0_3 : Int) (a0_4 : ByteArray) (a0_5 : Bool) (a0_6 : Int) (a0_7 : Int) (a0_8 : Int) (a0_9 : ByteArray) : pureV (call Ev) Fn.spec_l6Key [fv [.bool a0_0, .int .i64 a0_1, .int .i64 a0_2, .int .i64 a0_3, .str a0_4, .bool a0_5, .int .i64 a0_6, .int .i64 a0_7, .int .i64 a0_8, .str a0_9] 0] =
  vcase (bv a0_5)
  (some (.tup [.s (.int .i64 a0_6), .s (.int .i64 a0_7)]))
  (some (.tup [.s (.int .i64 a0_1), .s (.int .i64 a0_2)])) := by
  rw [pure_eq]; kernel_rfl

theorem pu_spec_l8Catalog (a0 : List (List S)) (a1_0 : Bool) (a1_1 : Int) (a1_2 : Int) (a1_3 : Int) (a1_4 : ByteArray) (a1_5 : Bool) (a1_6 : Int) (a1_7 : Int) (a1_8 : Int) (a1_9 : ByteArray) : pureV (call Ev) Fn.spec_l8Catalog [lv a0, fv [.bool a1_0, .int .i64 a1_1, .int .i64 a1_2, .int .i64 a1_3, .str a1_4, .bool a1_5, .int .i64 a1_6, .int .i64 a1_7, .int .i64 a1_8, .str a1_9] 0] =
  pcallS (call Ev) Fn.spec_l6Key [fv [.bool a1_0, .int .i64 a1_1, .int .i64 a1_2, .int .i64 a1_3, .str a1_4, .bool a1_5, .int .i64 a1_6, .int .i64 a1_7, .int .i64 a1_8, .str a1_9] 0] fun v101 =>
  gVT v101 fun u102 =>
  (u102[0]?).bind fun t103 =>
  gA1 t103 fun x104 =>
  gI .i64 x104 fun i105 =>
  (u102[1]?).bind fun t106 =>
  gA1 t106 fun x107 =>
  gI .i64 x107 fun i108 =>
  if u102.length = 2 then
  vcase (bv a1_5)
  (pcallS (call Ev) Fn.spec_l1In [iv .i64 i108, iv .i64 1, iv .i64 3] fun v110 =>
  gV1 v110 fun x111 =>
  gB x111 fun q112 =>
  vcase (bv (!q112))
  (some (iv .i64 10))
  (vcase (bv (decide (a1_8 > 8)))
  (some (iv .i64 10))
  (vcase (bv (!((a1_9 : ByteArray).toList == ((⟨#[]⟩) : ByteArray).toList)))
  (some (iv .i64 10))
  ((Lp.spec_l8Catalog 0 [lv a0, fv [.bool a1_0, .int .i64 a1_1, .int .i64 a1_2, .int .i64 a1_3, .str a1_4, .bool a1_5, .int .i64 a1_6, .int .i64 a1_7, .int .i64 a1_8, .str a1_9] 0, iv .i64 i108, iv .i64 0] (D 0)).bind fun o127 => lcase o127 (fun l128 h129 =>
  some (iv .i64 0)) (fun v130 h131 =>
  frzV h131 v130)))))
  ((Lp.spec_l8Catalog 0 [lv a0, fv [.bool a1_0, .int .i64 a1_1, .int .i64 a1_2, .int .i64 a1_3, .str a1_4, .bool a1_5, .int .i64 a1_6, .int .i64 a1_7, .int .i64 a1_8, .str a1_9] 0, iv .i64 i108, iv .i64 0] (D 0)).bind fun o133 => lcase o133 (fun l134 h135 =>
  some (iv .i64 0)) (fun v136 h137 =>
  frzV h137 v136))
  else none := by
  rw [pure_eq]; kernel_rfl

theorem eq_spec_l8Catalog_l0 (s0 : List (List S)) (s1_r : List S) (s1_o : Nat) (s6 : Int) (s7 : Int) (h : H) : Lp.spec_l8Catalog 0 [lv s0, fv s1_r s1_o, iv .i64 s6, iv .i64 s7] h =
  vcase (bv (decide (s7 < (s0.length : Int))))
  (idxF 4 s0 s7 fun r203 =>
  (r203[0]?).bind fun x204 =>
  gI .i64 x204 fun i205 =>
  vcase (bv (i205 == s6))
  (idxF 4 s0 s7 fun r207 =>
  (r207[0]?).bind fun x208 =>
  gI .i64 x208 fun i209 =>
  vcase (bv (i209 != 0))
  ((s1_r[s1_o + 5]?).bind fun x213 =>
  gB x213 fun q214 =>
  vcase (bv (!q214))
  (some (.ret (iv .i64 8) h))
  (idxF 4 s0 s7 fun r217 =>
  (r217[3]?).bind fun x218 =>
  gS x218 fun y219 =>
  (s1_r[s1_o + 6 + 2]?).bind fun x220 =>
  gI .i64 x220 fun i221 =>
  vcase (bv (decide (((y219 : ByteArray).size : Int) > i221)))
  (some (.ret (iv .i64 8) h))
  (Lp.spec_l8Catalog 0 [lv s0, fv s1_r s1_o, iv .i64 s6, iv .i64 (IntKind.i64.wrap (s7 + 1))] (tidy h [lv s0, fv s1_r s1_o, iv .i64 s6, iv .i64 (IntKind.i64.wrap (s7 + 1))] h))))
  (Lp.spec_l8Catalog 0 [lv s0, fv s1_r s1_o, iv .i64 s6, iv .i64 (IntKind.i64.wrap (s7 + 1))] (tidy h [lv s0, fv s1_r s1_o, iv .i64 s6, iv .i64 (IntKind.i64.wrap (s7 + 1))] h)))
  (Lp.spec_l8Catalog 0 [lv s0, fv s1_r s1_o, iv .i64 s6, iv .i64 (IntKind.i64.wrap (s7 + 1))] (tidy h [lv s0, fv s1_r s1_o, iv .i64 s6, iv .i64 (IntKind.i64.wrap (s7 + 1))] h)))
  (some (.done [] (tidy h [] h))) := by
  unfold Lp.spec_l8Catalog; rw [loop_eq]; kernel_rfl

theorem pu_spec_l8May (a0 : List (List S)) (a1_0 : Bool) (a1_1 : Int) (a1_2 : Int) (a1_3 : Int) (a1_4 : ByteArray) (a1_5 : Bool) (a1_6 : Int) (a1_7 : Int) (a1_8 : Int) (a1_9 : ByteArray) : pureV (call Ev) Fn.spec_l8May [lv a0, fv [.bool a1_0, .int .i64 a1_1, .int .i64 a1_2, .int .i64 a1_3, .str a1_4, .bool a1_5, .int .i64 a1_6, .int .i64 a1_7, .int .i64 a1_8, .str a1_9] 0] =
  pcallS (call Ev) Fn.spec_l6Key [fv [.bool a1_0, .int .i64 a1_1, .int .i64 a1_2, .int .i64 a1_3, .str a1_4, .bool a1_5, .int .i64 a1_6, .int .i64 a1_7, .int .i64 a1_8, .str a1_9] 0] fun v101 =>
  gVT v101 fun u102 =>
  (u102[0]?).bind fun t103 =>
  gA1 t103 fun x104 =>
  gI .i64 x104 fun i105 =>
  (u102[1]?).bind fun t106 =>
  gA1 t106 fun x107 =>
  gI .i64 x107 fun i108 =>
  if u102.length = 2 then
  vcase (bv (i105 == 0))
  (pcallS (call Ev) Fn.spec_l8Catalog [lv a0, fv [.bool a1_0, .int .i64 a1_1, .int .i64 a1_2, .int .i64 a1_3, .str a1_4, .bool a1_5, .int .i64 a1_6, .int .i64 a1_7, .int .i64 a1_8, .str a1_9] 0] fun v110 =>
  gV1 v110 fun x111 =>
  gI .i64 x111 fun i112 =>
  some (iv .i64 i112))
  (vcase (bv (!a1_5))
  (some (iv .i64 0))
  (pcallS (call Ev) Fn.spec_l8Longest [lv a0, iv .i64 i105] fun v114 =>
  gV1 v114 fun x115 =>
  gI .i64 x115 fun i116 =>
  vcase (bv (decide (i116 < 0)))
  (some (iv .i64 4))
  (vcase (bv (decide (((a1_9 : ByteArray).size : Int) > i116)))
  (some (iv .i64 10))
  (some (iv .i64 0)))))
  else none := by
  rw [pure_eq]; kernel_rfl

theorem pu_spec_MayBe (a0 : List (List S)) (a1_0 : Bool) (a1_1 : Int) (a1_2 : Int) (a1_3 : Int) (a1_4 : ByteArray) (a1_5 : Bool) (a1_6 : Int) (a1_7 : Int) (a1_8 : Int) (a1_9 : ByteArray) : pureV (call Ev) Fn.spec_MayBe [lv a0, .agg [.bool a1_0, .int .i64 a1_1, .int .i64 a1_2, .int .i64 a1_3, .str a1_4, .bool a1_5, .int .i64 a1_6, .int .i64 a1_7, .int .i64 a1_8, .str a1_9]] =
  pcallS (call Ev) Fn.spec_l6Rows [lv a0] fun v101 =>
  gV1 v101 fun x102 =>
  gI .i64 x102 fun i103 =>
  vcase (bv (i103 != 0))
  (some (iv .i64 i103))
  (pcallS (call Ev) Fn.spec_l6Change [fv [.bool a1_0, .int .i64 a1_1, .int .i64 a1_2, .int .i64 a1_3, .str a1_4, .bool a1_5, .int .i64 a1_6, .int .i64 a1_7, .int .i64 a1_8, .str a1_9] 0] fun v105 =>
  gV1 v105 fun x106 =>
  gI .i64 x106 fun i107 =>
  vcase (bv (i107 != 0))
  (some (iv .i64 i107))
  (pcallS (call Ev) Fn.spec_l8May [lv a0, fv [.bool a1_0, .int .i64 a1_1, .int .i64 a1_2, .int .i64 a1_3, .str a1_4, .bool a1_5, .int .i64 a1_6, .int .i64 a1_7, .int .i64 a1_8, .str a1_9] 0] fun v109 =>
  gV1 v109 fun x110 =>
  gI .i64 x110 fun i111 =>
  some (iv .i64 i111))) := by
  rw [pure_eq]; kernel_rfl

theorem pu_laws_toChange (a0_0 : Bool) (a0_1 : Int) (a0_2 : Int) (a0_3 : Int) (a0_4 : ByteArray) (a0_5 : Bool) (a0_6 : Int) (a0_7 : Int) (a0_8 : Int) (a0_9 : ByteArray) : pureV (call Ev) Fn.laws_toChange [.agg [.bool a0_0, .int .i64 a0_1, .int .i64 a0_2, .int .i64 a0_3, .str a0_4, .bool a0_5, .int .i64 a0_6, .int .i64 a0_7, .int .i64 a0_8, .str a0_9]] =
  pcallS (call Ev) Fn.laws_toRow [.agg [.int .i64 a0_1, .int .i64 a0_2, .int .i64 a0_3, .str a0_4]] fun v101 =>
  gVA v101 fun c102 =>
  (c102[0]?).bind fun x103 =>
  gI .i64 x103 fun i104 =>
  (c102[1]?).bind fun x105 =>
  gI .i64 x105 fun i106 =>
  (c102[2]?).bind fun x107 =>
  gI .i64 x107 fun i108 =>
  (c102[3]?).bind fun x109 =>
  gS x109 fun y110 =>
  if c102.length = 4 then
  pcallS (call Ev) Fn.laws_toRow [.agg [.int .i64 a0_6, .int .i64 a0_7, .int .i64 a0_8, .str a0_9]] fun v111 =>
  gVA v111 fun c112 =>
  (c112[0]?).bind fun x113 =>
  gI .i64 x113 fun i114 =>
  (c112[1]?).bind fun x115 =>
  gI .i64 x115 fun i116 =>
  (c112[2]?).bind fun x117 =>
  gI .i64 x117 fun i118 =>
  (c112[3]?).bind fun x119 =>
  gS x119 fun y120 =>
  if c112.length = 4 then
  some (.agg [.bool a0_0, .int .i64 i104, .int .i64 i106, .int .i64 i108, .str y110, .bool a0_5, .int .i64 i114, .int .i64 i116, .int .i64 i118, .str y120])
  else none
  else none := by
  rw [pure_eq]; kernel_rfl

theorem pu_impl_order (a0_0 : Int) (a0_1 : Int) (a0_2 : Int) (a0_3 : ByteArray) (a1_0 : Int) (a1_1 : Int) (a1_2 : Int) (a1_3 : ByteArray) : pureV (call Ev) Fn.impl_order [.agg [.int .i64 a0_0, .int .i64 a0_1, .int .i64 a0_2, .str a0_3], .agg [.int .i64 a1_0, .int .i64 a1_1, .int .i64 a1_2, .str a1_3]] =
  pcallS (call Ev) Fn.impl_IsBefore [.agg [.int .i64 a0_0, .int .i64 a0_1, .int .i64 a0_2, .str a0_3], .agg [.int .i64 a1_0, .int .i64 a1_1, .int .i64 a1_2, .str a1_3]] fun v102 =>
  gV1 v102 fun x103 =>
  gB x103 fun q104 =>
  vcase (bv q104)
  (some (iv .i64 (-1)))
  (pcallS (call Ev) Fn.impl_IsBefore [.agg [.int .i64 a1_0, .int .i64 a1_1, .int .i64 a1_2, .str a1_3], .agg [.int .i64 a0_0, .int .i64 a0_1, .int .i64 a0_2, .str a0_3]] fun v106 =>
  gV1 v106 fun x107 =>
  gB x107 fun q108 =>
  vcase (bv q108)
  (some (iv .i64 1))
  (some (iv .i64 0))) := by
  rw [pure_eq]; kernel_rfl

noncomputable def Jn.impl_changeFault_0 (q221 : Bool) (a0_0 : Bool) (a0_1 : Int) (a0_2 : Int) (a0_3 : Int) (a0_4 : ByteArray) (a0_5 : Bool) (a0_6 : Int) (a0_7 : Int) (a0_8 : Int) (a0_9 : ByteArray) : Option (V) :=
  vcase (bv q221)
  (some (iv .i64 1))
  (vcase (bv a0_0)
  (pcallS (call Ev) Fn.impl_RowFault [.agg [.int .i64 a0_1, .int .i64 a0_2, .int .i64 a0_3, .str a0_4]] fun v224 =>
  gV1 v224 fun x225 =>
  gI .i64 x225 fun i226 =>
  vcase (bv (i226 != 0))
  (some (iv .i64 i226))
  (vcase (bv a0_5)
  (pcallS (call Ev) Fn.impl_RowFault [.agg [.int .i64 a0_6, .int .i64 a0_7, .int .i64 a0_8, .str a0_9]] fun v229 =>
  gV1 v229 fun x230 =>
  gI .i64 x230 fun i231 =>
  some (iv .i64 i231))
  (some (iv .i64 0))))
  (vcase (bv a0_5)
  (pcallS (call Ev) Fn.impl_RowFault [.agg [.int .i64 a0_6, .int .i64 a0_7, .int .i64 a0_8, .str a0_9]] fun v233 =>
  gV1 v233 fun x234 =>
  gI .i64 x234 fun i235 =>
  some (iv .i64 i235))
  (some (iv .i64 0))))

noncomputable def Jn.impl_changeFault_1 (q217 : Bool) (a0_0 : Bool) (a0_1 : Int) (a0_2 : Int) (a0_3 : Int) (a0_4 : ByteArray) (a0_5 : Bool) (a0_6 : Int) (a0_7 : Int) (a0_8 : Int) (a0_9 : ByteArray) : Option (V) :=
  Jn.impl_changeFault_0 q217 a0_0 a0_1 a0_2 a0_3 a0_4 a0_5 a0_6 a0_7 a0_8 a0_9

noncomputable def Jn.impl_changeFault_2 (q205 : Bool) (a0_0 : Bool) (a0_5 : Bool) (a0_1 : Int) (a0_2 : Int) (a0_3 : Int) (a0_4 : ByteArray) (a0_6 : Int) (a0_7 : Int) (a0_8 : Int) (a0_9 : ByteArray) : Option (V) :=
  vcase (bv q205)
  (Jn.impl_changeFault_0 true a0_0 a0_1 a0_2 a0_3 a0_4 a0_5 a0_6 a0_7 a0_8 a0_9)
  (vcase (bv a0_0)
  (vcase (bv a0_5)
  (pcallS (call Ev) Fn.impl_order [.agg [.int .i64 a0_1, .int .i64 a0_2, .int .i64 a0_3, .str a0_4], .agg [.int .i64 a0_6, .int .i64 a0_7, .int .i64 a0_8, .str a0_9]] fun v212 =>
  gV1 v212 fun x213 =>
  gI .i64 x213 fun i214 =>
  Jn.impl_changeFault_1 (i214 != 0) a0_0 a0_1 a0_2 a0_3 a0_4 a0_5 a0_6 a0_7 a0_8 a0_9)
  (Jn.impl_changeFault_1 false a0_0 a0_1 a0_2 a0_3 a0_4 a0_5 a0_6 a0_7 a0_8 a0_9))
  (Jn.impl_changeFault_0 false a0_0 a0_1 a0_2 a0_3 a0_4 a0_5 a0_6 a0_7 a0_8 a0_9))

theorem pu_impl_changeFault (a0_0 : Bool) (a0_1 : Int) (a0_2 : Int) (a0_3 : Int) (a0_4 : ByteArray) (a0_5 : Bool) (a0_6 : Int) (a0_7 : Int) (a0_8 : Int) (a0_9 : ByteArray) : pureV (call Ev) Fn.impl_changeFault [.agg [.bool a0_0, .int .i64 a0_1, .int .i64 a0_2, .int .i64 a0_3, .str a0_4, .bool a0_5, .int .i64 a0_6, .int .i64 a0_7, .int .i64 a0_8, .str a0_9]] =
  vcase (bv (!a0_0))
  (Jn.impl_changeFault_2 (!a0_5) a0_0 a0_5 a0_1 a0_2 a0_3 a0_4 a0_6 a0_7 a0_8 a0_9)
  (Jn.impl_changeFault_2 false a0_0 a0_5 a0_1 a0_2 a0_3 a0_4 a0_6 a0_7 a0_8 a0_9) := by
  rw [pure_eq]; kernel_rfl

theorem pu_impl_Change_key (a0_0 : Bool) (a0_1 : Int) (a0_2 : Int) (a0_3 : Int) (a0_4 : ByteArray) (a0_5 : Bool) (a0_6 : Int) (a0_7 : Int) (a0_8 : Int) (a0_9 : ByteArray) : pureV (call Ev) Fn.impl_Change_key [.agg [.bool a0_0, .int .i64 a0_1, .int .i64 a0_2, .int .i64 a0_3, .str a0_4, .bool a0_5, .int .i64 a0_6, .int .i64 a0_7, .int .i64 a0_8, .str a0_9]] =
  vcase (bv a0_5)
  (some (.agg [.int .i64 a0_6, .int .i64 a0_7, .int .i64 a0_8, .str a0_9]))
  (some (.agg [.int .i64 a0_1, .int .i64 a0_2, .int .i64 a0_3, .str a0_4])) := by
  rw [pure_eq]; kernel_rfl

theorem pu_impl_tableMayBe (a0 : List (List S)) (a1_0 : Bool) (a1_1 : Int) (a1_2 : Int) (a1_3 : Int) (a1_4 : ByteArray) (a1_5 : Bool) (a1_6 : Int) (a1_7 : Int) (a1_8 : Int) (a1_9 : ByteArray) : pureV (call Ev) Fn.impl_tableMayBe [lv a0, .agg [.bool a1_0, .int .i64 a1_1, .int .i64 a1_2, .int .i64 a1_3, .str a1_4, .bool a1_5, .int .i64 a1_6, .int .i64 a1_7, .int .i64 a1_8, .str a1_9]] =
  vcase (bv a1_5)
  (pcallS (call Ev) Fn.impl_in [iv .i64 a1_7, iv .i64 1, iv .i64 3] fun v102 =>
  gV1 v102 fun x103 =>
  gB x103 fun q104 =>
  vcase (bv (!q104))
  (some (iv .i64 10))
  (vcase (bv (decide (a1_8 > 8)))
  (some (iv .i64 10))
  (vcase (bv (!((a1_9 : ByteArray).toList == ((⟨#[]⟩) : ByteArray).toList)))
  (some (iv .i64 10))
  ((Lp.impl_tableMayBe 0 [pv 0 0, lv a0, iv .i64 (a0.length : Int), iv .i64 0] ((D 0).new 0 [.bool a1_0, .int .i64 a1_1, .int .i64 a1_2, .int .i64 a1_3, .str a1_4, .bool a1_5, .int .i64 a1_6, .int .i64 a1_7, .int .i64 a1_8, .str a1_9])).bind fun o119 => lcase o119 (fun l120 h121 =>
  some (iv .i64 0)) (fun v122 h123 =>
  frzV h123 v122)))))
  ((Lp.impl_tableMayBe 0 [pv 0 0, lv a0, iv .i64 (a0.length : Int), iv .i64 0] ((D 0).new 0 [.bool a1_0, .int .i64 a1_1, .int .i64 a1_2, .int .i64 a1_3, .str a1_4, .bool a1_5, .int .i64 a1_6, .int .i64 a1_7, .int .i64 a1_8, .str a1_9])).bind fun o125 => lcase o125 (fun l126 h127 =>
  some (iv .i64 0)) (fun v128 h129 =>
  frzV h129 v128)) := by
  rw [pure_eq]; kernel_rfl

theorem eq_impl_tableMayBe_l0 (s3 : V) (s28 : List (List S)) (s29 : Int) (s30 : Int) (h : H) : Lp.impl_tableMayBe 0 [s3, lv s28, iv .i64 s29, iv .i64 s30] h =
  vcase (bv (decide (s30 < s29)))
  (idxF 4 s28 s30 fun r203 =>
  (rowN 4 r203 0).bind fun c204 =>
  (c204[0]?).bind fun x205 =>
  gI .i64 x205 fun i206 =>
  (c204[1]?).bind fun x207 =>
  gI .i64 x207 fun i208 =>
  (c204[2]?).bind fun x209 =>
  gI .i64 x209 fun i210 =>
  (c204[3]?).bind fun x211 =>
  gS x211 fun y212 =>
  if c204.length = 4 then
  stK 4 (h.new 0 [.int .i64 0, .int .i64 0, .int .i64 0, .str (⟨#[]⟩)]) (pv h.n 0) (.agg [.int .i64 i206, .int .i64 i208, .int .i64 i210, .str y212]) fun h213 =>
  (load1 h213 (pv h.n 0)).bind fun x214 =>
  gI .i64 x214 fun i215 =>
  ldK (.agg [.b, .i .i64, .i .i64, .i .i64, .s, .b, .i .i64, .i .i64, .i .i64, .s]) ⟨10, 96, [.bool false, .int .i64 0, .int .i64 0, .int .i64 0, .str ⟨#[]⟩, .bool false, .int .i64 0, .int .i64 0, .int .i64 0, .str ⟨#[]⟩], true, .st [(0, 4), (1, 45), (5, 4), (6, 45)], true⟩ h213 s3 fun v216 =>
  gVA v216 fun c217 =>
  (c217[0]?).bind fun x218 =>
  gB x218 fun q219 =>
  (c217[1]?).bind fun x220 =>
  gI .i64 x220 fun i221 =>
  (c217[2]?).bind fun x222 =>
  gI .i64 x222 fun i223 =>
  (c217[3]?).bind fun x224 =>
  gI .i64 x224 fun i225 =>
  (c217[4]?).bind fun x226 =>
  gS x226 fun y227 =>
  (c217[5]?).bind fun x228 =>
  gB x228 fun q229 =>
  (c217[6]?).bind fun x230 =>
  gI .i64 x230 fun i231 =>
  (c217[7]?).bind fun x232 =>
  gI .i64 x232 fun i233 =>
  (c217[8]?).bind fun x234 =>
  gI .i64 x234 fun i235 =>
  (c217[9]?).bind fun x236 =>
  gS x236 fun y237 =>
  if c217.length = 10 then
  pcallS (call Ev) Fn.impl_Change_key [.agg [.bool q219, .int .i64 i221, .int .i64 i223, .int .i64 i225, .str y227, .bool q229, .int .i64 i231, .int .i64 i233, .int .i64 i235, .str y237]] fun v238 =>
  gVA v238 fun c239 =>
  (c239[0]?).bind fun x240 =>
  gI .i64 x240 fun i241 =>
  (c239[1]?).bind fun x242 =>
  gI .i64 x242 fun i243 =>
  (c239[2]?).bind fun x244 =>
  gI .i64 x244 fun i245 =>
  (c239[3]?).bind fun x246 =>
  gS x246 fun y247 =>
  if c239.length = 4 then
  hchk h213 h213 (
  vcase (bv (i215 == i243))
  ((load1 h213 (pv h.n 0)).bind fun x249 =>
  gI .i64 x249 fun i250 =>
  vcase (bv (i250 != 0))
  ((padd 5 s3).bind fun v254 =>
  ldK (.one (.b)) ⟨1, 1, [.bool false], false, .bool, false⟩ h213 v254 fun v255 =>
  gV1 v255 fun x256 =>
  gB x256 fun q257 =>
  vcase (bv (!q257))
  (some (.ret (iv .i64 8) h213))
  ((load1 h213 (pv h.n 3)).bind fun x260 =>
  gS x260 fun y261 =>
  (padd 6 s3).bind fun v262 =>
  (padd 2 v262).bind fun v263 =>
  ldK (.one (.i .i64)) ⟨1, 8, [.int .i64 0], false, .int .i64, false⟩ h213 v263 fun v264 =>
  gV1 v264 fun x265 =>
  gI .i64 x265 fun i266 =>
  vcase (bv (decide (((y261 : ByteArray).size : Int) > i266)))
  (some (.ret (iv .i64 8) h213))
  (Lp.impl_tableMayBe 0 [s3, lv s28, iv .i64 s29, iv .i64 (IntKind.i64.wrap (s30 + 1))] (tidy h [s3, lv s28, iv .i64 s29, iv .i64 (IntKind.i64.wrap (s30 + 1))] h213))))
  (Lp.impl_tableMayBe 0 [s3, lv s28, iv .i64 s29, iv .i64 (IntKind.i64.wrap (s30 + 1))] (tidy h [s3, lv s28, iv .i64 s29, iv .i64 (IntKind.i64.wrap (s30 + 1))] h213)))
  (Lp.impl_tableMayBe 0 [s3, lv s28, iv .i64 s29, iv .i64 (IntKind.i64.wrap (s30 + 1))] (tidy h [s3, lv s28, iv .i64 s29, iv .i64 (IntKind.i64.wrap (s30 + 1))] h213)))
  else none
  else none
  else none)
  (some (.done [] (tidy h [] h))) := by
  unfold Lp.impl_tableMayBe; rw [loop_eq]; kernel_rfl

theorem pu_impl_mayBe (a0 : List (List S)) (a1_0 : Bool) (a1_1 : Int) (a1_2 : Int) (a1_3 : Int) (a1_4 : ByteArray) (a1_5 : Bool) (a1_6 : Int) (a1_7 : Int) (a1_8 : Int) (a1_9 : ByteArray) : pureV (call Ev) Fn.impl_mayBe [lv a0, .agg [.bool a1_0, .int .i64 a1_1, .int .i64 a1_2, .int .i64 a1_3, .str a1_4, .bool a1_5, .int .i64 a1_6, .int .i64 a1_7, .int .i64 a1_8, .str a1_9]] =
  pcallS (call Ev) Fn.impl_Change_key [.agg [.bool a1_0, .int .i64 a1_1, .int .i64 a1_2, .int .i64 a1_3, .str a1_4, .bool a1_5, .int .i64 a1_6, .int .i64 a1_7, .int .i64 a1_8, .str a1_9]] fun v101 =>
  gVA v101 fun c102 =>
  (c102[0]?).bind fun x103 =>
  gI .i64 x103 fun i104 =>
  (c102[1]?).bind fun x105 =>
  gI .i64 x105 fun i106 =>
  (c102[2]?).bind fun x107 =>
  gI .i64 x107 fun i108 =>
  (c102[3]?).bind fun x109 =>
  gS x109 fun y110 =>
  if c102.length = 4 then
  vcase (bv (i104 == 0))
  (pcallS (call Ev) Fn.impl_tableMayBe [lv a0, .agg [.bool a1_0, .int .i64 a1_1, .int .i64 a1_2, .int .i64 a1_3, .str a1_4, .bool a1_5, .int .i64 a1_6, .int .i64 a1_7, .int .i64 a1_8, .str a1_9]] fun v112 =>
  gV1 v112 fun x113 =>
  gI .i64 x113 fun i114 =>
  some (iv .i64 i114))
  (vcase (bv (!a1_5))
  (some (iv .i64 0))
  (pcallS (call Ev) Fn.impl_longest [lv a0, iv .i64 a1_6] fun v116 =>
  gVT v116 fun u117 =>
  (u117[0]?).bind fun t118 =>
  gA1 t118 fun x119 =>
  gI .i64 x119 fun i120 =>
  (u117[1]?).bind fun t121 =>
  gA1 t121 fun x122 =>
  gB x122 fun q123 =>
  if u117.length = 2 then
  vcase (bv (!q123))
  (some (iv .i64 4))
  (vcase (bv (decide (((a1_9 : ByteArray).size : Int) > i120)))
  (some (iv .i64 10))
  (some (iv .i64 0)))
  else none))
  else none := by
  rw [pure_eq]; kernel_rfl

theorem pu_impl_MayBe (a0 : List (List S)) (a1_0 : Bool) (a1_1 : Int) (a1_2 : Int) (a1_3 : Int) (a1_4 : ByteArray) (a1_5 : Bool) (a1_6 : Int) (a1_7 : Int) (a1_8 : Int) (a1_9 : ByteArray) : pureV (call Ev) Fn.impl_MayBe [lv a0, .agg [.bool a1_0, .int .i64 a1_1, .int .i64 a1_2, .int .i64 a1_3, .str a1_4, .bool a1_5, .int .i64 a1_6, .int .i64 a1_7, .int .i64 a1_8, .str a1_9]] =
  pcallS (call Ev) Fn.impl_RowsFault [lv a0] fun v101 =>
  gV1 v101 fun x102 =>
  gI .i64 x102 fun i103 =>
  vcase (bv (i103 != 0))
  (some (iv .i64 i103))
  (pcallS (call Ev) Fn.impl_changeFault [.agg [.bool a1_0, .int .i64 a1_1, .int .i64 a1_2, .int .i64 a1_3, .str a1_4, .bool a1_5, .int .i64 a1_6, .int .i64 a1_7, .int .i64 a1_8, .str a1_9]] fun v105 =>
  gV1 v105 fun x106 =>
  gI .i64 x106 fun i107 =>
  vcase (bv (i107 != 0))
  (some (iv .i64 i107))
  (pcallS (call Ev) Fn.impl_mayBe [lv a0, .agg [.bool a1_0, .int .i64 a1_1, .int .i64 a1_2, .int .i64 a1_3, .str a1_4, .bool a1_5, .int .i64 a1_6, .int .i64 a1_7, .int .i64 a1_8, .str a1_9]] fun v109 =>
  gV1 v109 fun x110 =>
  gI .i64 x110 fun i111 =>
  some (iv .i64 i111))) := by
  rw [pure_eq]; kernel_rfl

end Vm
