/-
  What each function, and each round of each loop, comes to in the small machine. Written by a program (gen3.py).
-/
import Derived.Test.YtpdoloemacmbaaaEnv
set_option linter.unusedVariables false
set_option maxRecDepth 100000
namespace Vm
open Go

noncomputable def Jn.spec_DrawFoldChange_0 (h414 : H) (h102 : H) (p103 : V × H) (p104 : V × H) (p109 : V × H) (z108 : List (List S)) : Option (V) :=
  (loadN 10 h414 (pv ((tidy (tidy (tidy h102 [p103.1] p103.2) [p104.1] p104.2) [p109.1] p109.2).n) 0)).bind fun c415 =>
  (c415[0]?).bind fun x416 =>
  gB x416 fun q417 =>
  (c415[1]?).bind fun x418 =>
  gI .i64 x418 fun i419 =>
  (c415[2]?).bind fun x420 =>
  gI .i64 x420 fun i421 =>
  (c415[3]?).bind fun x422 =>
  gI .i64 x422 fun i423 =>
  (c415[4]?).bind fun x424 =>
  gS x424 fun y425 =>
  (c415[5]?).bind fun x426 =>
  gB x426 fun q427 =>
  (c415[6]?).bind fun x428 =>
  gI .i64 x428 fun i429 =>
  (c415[7]?).bind fun x430 =>
  gI .i64 x430 fun i431 =>
  (c415[8]?).bind fun x432 =>
  gI .i64 x432 fun i433 =>
  (c415[9]?).bind fun x434 =>
  gS x434 fun y435 =>
  if c415.length = 10 then
  stK 10 h414 (pv 0 0) (.agg [.bool q417, .int .i64 i419, .int .i64 i421, .int .i64 i423, .str y425, .bool q427, .int .i64 i429, .int .i64 i431, .int .i64 i433, .str y435]) fun h436 =>
  (loadN 10 h436 (pv 0 0)).bind fun c437 =>
  frzV h436 (.tup [.s (.fs z108), .agg c437])
  else none

noncomputable def Jn.spec_DrawFoldChange_1 (h398 : H) (v101 : V) (h102 : H) (p103 : V × H) (p104 : V × H) (p109 : V × H) (z108 : List (List S)) : Option (V) :=
  (call Ev Fn.spec_l1Chance [v101, iv .i64 10] h398).bind fun p399 =>
  gV1 p399.1 fun x400 =>
  gB x400 fun q401 =>
  vcase (bv q401)
  ((call Ev Fn.spec_l1Bent [v101] (tidy h398 [p399.1] p399.2)).bind fun p403 =>
  gVA p403.1 fun c404 =>
  (c404[0]?).bind fun x405 =>
  gI .i64 x405 fun i406 =>
  (c404[1]?).bind fun x407 =>
  gI .i64 x407 fun i408 =>
  (c404[2]?).bind fun x409 =>
  gI .i64 x409 fun i410 =>
  (c404[3]?).bind fun x411 =>
  gS x411 fun y412 =>
  if c404.length = 4 then
  stK 4 (tidy (tidy h398 [p399.1] p399.2) [p403.1] p403.2) (pv ((tidy (tidy (tidy h102 [p103.1] p103.2) [p104.1] p104.2) [p109.1] p109.2).n) 1) (.agg [.int .i64 i406, .int .i64 i408, .int .i64 i410, .str y412]) fun h413 =>
  Jn.spec_DrawFoldChange_0 h413 h102 p103 p104 p109 z108
  else none)
  (Jn.spec_DrawFoldChange_0 (tidy h398 [p399.1] p399.2) h102 p103 p104 p109 z108)

noncomputable def Jn.spec_DrawFoldChange_2 (q380 : Bool) (h381 : H) (h102 : H) (p103 : V × H) (p104 : V × H) (p109 : V × H) (h321 : H) (p323 : V × H) (v101 : V) (z108 : List (List S)) : Option (V) :=
  vcase (bv q380)
  (stK 1 h381 (pv ((tidy (tidy (tidy h102 [p103.1] p103.2) [p104.1] p104.2) [p109.1] p109.2).n) 5) (bv true) fun h383 =>
  (loadN 4 h383 (pv ((tidy h321 [p323.1] p323.2).n) 6)).bind fun c384 =>
  (c384[0]?).bind fun x385 =>
  gI .i64 x385 fun i386 =>
  (c384[1]?).bind fun x387 =>
  gI .i64 x387 fun i388 =>
  (c384[2]?).bind fun x389 =>
  gI .i64 x389 fun i390 =>
  (c384[3]?).bind fun x391 =>
  gS x391 fun y392 =>
  if c384.length = 4 then
  stK 4 h383 (pv ((tidy (tidy (tidy h102 [p103.1] p103.2) [p104.1] p104.2) [p109.1] p109.2).n) 6) (.agg [.int .i64 i386, .int .i64 i388, .int .i64 i390, .str y392]) fun h393 =>
  (call Ev Fn.spec_l1Next [v101, iv .i64 5] h393).bind fun p394 =>
  gV1 p394.1 fun x395 =>
  gI .i64 x395 fun i396 =>
  stK 1 (tidy h393 [p394.1] p394.2) (pv ((tidy (tidy (tidy h102 [p103.1] p103.2) [p104.1] p104.2) [p109.1] p109.2).n) 8) (iv .i64 i396) fun h397 =>
  Jn.spec_DrawFoldChange_1 h397 v101 h102 p103 p104 p109 z108
  else none)
  (Jn.spec_DrawFoldChange_1 h381 v101 h102 p103 p104 p109 z108)

noncomputable def Jn.spec_DrawFoldChange_3 (q320 : Bool) (h321 : H) (v101 : V) (z108 : List (List S)) (h102 : H) (p103 : V × H) (p104 : V × H) (p109 : V × H) : Option (V) :=
  vcase (bv q320)
  ((call Ev Fn.spec_l1Next [v101, iv .i64 (z108.length : Int)] h321).bind fun p323 =>
  gV1 p323.1 fun x324 =>
  gI .i64 x324 fun i325 =>
  idxF 10 z108 i325 fun r326 =>
  (rowN 10 r326 0).bind fun c327 =>
  (c327[0]?).bind fun x328 =>
  gB x328 fun q329 =>
  (c327[1]?).bind fun x330 =>
  gI .i64 x330 fun i331 =>
  (c327[2]?).bind fun x332 =>
  gI .i64 x332 fun i333 =>
  (c327[3]?).bind fun x334 =>
  gI .i64 x334 fun i335 =>
  (c327[4]?).bind fun x336 =>
  gS x336 fun y337 =>
  (c327[5]?).bind fun x338 =>
  gB x338 fun q339 =>
  (c327[6]?).bind fun x340 =>
  gI .i64 x340 fun i341 =>
  (c327[7]?).bind fun x342 =>
  gI .i64 x342 fun i343 =>
  (c327[8]?).bind fun x344 =>
  gI .i64 x344 fun i345 =>
  (c327[9]?).bind fun x346 =>
  gS x346 fun y347 =>
  if c327.length = 10 then
  stK 10 ((tidy h321 [p323.1] p323.2).new 0 [.bool false, .int .i64 0, .int .i64 0, .int .i64 0, .str (⟨#[]⟩), .bool false, .int .i64 0, .int .i64 0, .int .i64 0, .str (⟨#[]⟩)]) (pv ((tidy h321 [p323.1] p323.2).n) 0) (.agg [.bool q329, .int .i64 i331, .int .i64 i333, .int .i64 i335, .str y337, .bool q339, .int .i64 i341, .int .i64 i343, .int .i64 i345, .str y347]) fun h348 =>
  (load1 h348 (pv ((tidy h321 [p323.1] p323.2).n) 5)).bind fun x349 =>
  gB x349 fun q350 =>
  (loadN 4 h348 (pv ((tidy h321 [p323.1] p323.2).n) 6)).bind fun c351 =>
  (c351[0]?).bind fun x352 =>
  gI .i64 x352 fun i353 =>
  (c351[1]?).bind fun x354 =>
  gI .i64 x354 fun i355 =>
  (c351[2]?).bind fun x356 =>
  gI .i64 x356 fun i357 =>
  (c351[3]?).bind fun x358 =>
  gS x358 fun y359 =>
  if c351.length = 4 then
  (load1 h348 (pv ((tidy h321 [p323.1] p323.2).n) 0)).bind fun x360 =>
  gB x360 fun q361 =>
  (loadN 4 h348 (pv ((tidy h321 [p323.1] p323.2).n) 1)).bind fun c362 =>
  (c362[0]?).bind fun x363 =>
  gI .i64 x363 fun i364 =>
  (c362[1]?).bind fun x365 =>
  gI .i64 x365 fun i366 =>
  (c362[2]?).bind fun x367 =>
  gI .i64 x367 fun i368 =>
  (c362[3]?).bind fun x369 =>
  gS x369 fun y370 =>
  if c362.length = 4 then
  stK 10 h348 (pv ((tidy (tidy (tidy h102 [p103.1] p103.2) [p104.1] p104.2) [p109.1] p109.2).n) 0) (.agg [.bool q350, .int .i64 i353, .int .i64 i355, .int .i64 i357, .str y359, .bool q361, .int .i64 i364, .int .i64 i366, .int .i64 i368, .str y370]) fun h371 =>
  (load1 h371 (pv ((tidy h321 [p323.1] p323.2).n) 5)).bind fun x372 =>
  gB x372 fun q373 =>
  vcase (bv q373)
  ((call Ev Fn.spec_l1Chance [v101, iv .i64 2] h371).bind fun p375 =>
  gV1 p375.1 fun x376 =>
  gB x376 fun q377 =>
  Jn.spec_DrawFoldChange_2 q377 (tidy h371 [p375.1] p375.2) h102 p103 p104 p109 h321 p323 v101 z108)
  (Jn.spec_DrawFoldChange_2 false h371 h102 p103 p104 p109 h321 p323 v101 z108)
  else none
  else none
  else none)
  (Jn.spec_DrawFoldChange_1 h321 v101 h102 p103 p104 p109 z108)

theorem pu_spec_DrawFoldChange (a0 : List (List S)) : pureV (call Ev) Fn.spec_DrawFoldChange [lv a0] =
  pcallF (call Ev) Fn.spec_l1Source true [lv a0] ((D 0).new 0 [.bool false, .int .i64 0, .int .i64 0, .int .i64 0, .str (⟨#[]⟩), .bool false, .int .i64 0, .int .i64 0, .int .i64 0, .str (⟨#[]⟩)]) fun v101 h102 =>
  (call Ev Fn.spec_l6DrawRows [v101] h102).bind fun p103 =>
  (call Ev Fn.spec_l6DrawRows [v101] (tidy h102 [p103.1] p103.2)).bind fun p104 =>
  bif ([p103.1, p104.1].all offV) then
  (frzVs (tidy (tidy h102 [p103.1] p103.2) [p104.1] p104.2) [p103.1, p104.1]).bind fun l105 =>
  (pureV (call Ev) Fn.spec_l6Changes (normVs [] l105)).bind fun v106 =>
  gV1 v106 fun x107 =>
  gF x107 fun z108 =>
  (call Ev Fn.spec_l1Draw [v101] (tidy (tidy h102 [p103.1] p103.2) [p104.1] p104.2)).bind fun p109 =>
  gVA p109.1 fun c110 =>
  (c110[0]?).bind fun x111 =>
  gI .i64 x111 fun i112 =>
  (c110[1]?).bind fun x113 =>
  gI .i64 x113 fun i114 =>
  (c110[2]?).bind fun x115 =>
  gI .i64 x115 fun i116 =>
  (c110[3]?).bind fun x117 =>
  gS x117 fun y118 =>
  if c110.length = 4 then
  stK 10 ((tidy (tidy (tidy h102 [p103.1] p103.2) [p104.1] p104.2) [p109.1] p109.2).new 0 [.bool false, .int .i64 0, .int .i64 0, .int .i64 0, .str (⟨#[]⟩), .bool false, .int .i64 0, .int .i64 0, .int .i64 0, .str (⟨#[]⟩)]) (pv ((tidy (tidy (tidy h102 [p103.1] p103.2) [p104.1] p104.2) [p109.1] p109.2).n) 0) (.agg [.bool false, .int .i64 0, .int .i64 0, .int .i64 0, .str (⟨#[]⟩), .bool true, .int .i64 i112, .int .i64 i114, .int .i64 i116, .str y118]) fun h119 =>
  vcase (bv (decide ((z108.length : Int) > 0)))
  ((call Ev Fn.spec_l1Chance [v101, iv .i64 4] h119).bind fun p121 =>
  gV1 p121.1 fun x122 =>
  gB x122 fun q123 =>
  Jn.spec_DrawFoldChange_3 (!q123) (tidy h119 [p121.1] p121.2) v101 z108 h102 p103 p104 p109)
  (Jn.spec_DrawFoldChange_3 false h119 v101 z108 h102 p103 p104 p109)
  else none
  else none := by
  rw [pure_eq]; kernel_rfl

theorem pu_impl_foldedFault (a0 : List (List S)) : pureV (call Ev) Fn.impl_foldedFault [lv a0] =
  vcase (bv (decide ((a0.length : Int) > 60)))
  (some (iv .i64 2))
  ((Lp.impl_foldedFault 0 [lv a0, lv a0, iv .i64 (a0.length : Int), iv .i64 0] (D 0)).bind fun o102 => lcase o102 (fun l103 h104 =>
  some (iv .i64 0)) (fun v105 h106 =>
  frzV h106 v105)) := by
  rw [pure_eq]; kernel_rfl

theorem eq_impl_foldedFault_l0 (s0 : List (List S)) (s9 : List (List S)) (s10 : Int) (s11 : Int) (h : H) : Lp.impl_foldedFault 0 [lv s0, lv s9, iv .i64 s10, iv .i64 s11] h =
  vcase (bv (decide (s11 < s10)))
  (idxF 10 s9 s11 fun r203 =>
  (rowN 10 r203 0).bind fun c204 =>
  (c204[0]?).bind fun x205 =>
  gB x205 fun q206 =>
  (c204[1]?).bind fun x207 =>
  gI .i64 x207 fun i208 =>
  (c204[2]?).bind fun x209 =>
  gI .i64 x209 fun i210 =>
  (c204[3]?).bind fun x211 =>
  gI .i64 x211 fun i212 =>
  (c204[4]?).bind fun x213 =>
  gS x213 fun y214 =>
  (c204[5]?).bind fun x215 =>
  gB x215 fun q216 =>
  (c204[6]?).bind fun x217 =>
  gI .i64 x217 fun i218 =>
  (c204[7]?).bind fun x219 =>
  gI .i64 x219 fun i220 =>
  (c204[8]?).bind fun x221 =>
  gI .i64 x221 fun i222 =>
  (c204[9]?).bind fun x223 =>
  gS x223 fun y224 =>
  if c204.length = 10 then
  stK 10 (h.new 0 [.bool false, .int .i64 0, .int .i64 0, .int .i64 0, .str (⟨#[]⟩), .bool false, .int .i64 0, .int .i64 0, .int .i64 0, .str (⟨#[]⟩)]) (pv h.n 0) (.agg [.bool q206, .int .i64 i208, .int .i64 i210, .int .i64 i212, .str y214, .bool q216, .int .i64 i218, .int .i64 i220, .int .i64 i222, .str y224]) fun h225 =>
  (loadN 10 h225 (pv h.n 0)).bind fun c226 =>
  (c226[0]?).bind fun x227 =>
  gB x227 fun q228 =>
  (c226[1]?).bind fun x229 =>
  gI .i64 x229 fun i230 =>
  (c226[2]?).bind fun x231 =>
  gI .i64 x231 fun i232 =>
  (c226[3]?).bind fun x233 =>
  gI .i64 x233 fun i234 =>
  (c226[4]?).bind fun x235 =>
  gS x235 fun y236 =>
  (c226[5]?).bind fun x237 =>
  gB x237 fun q238 =>
  (c226[6]?).bind fun x239 =>
  gI .i64 x239 fun i240 =>
  (c226[7]?).bind fun x241 =>
  gI .i64 x241 fun i242 =>
  (c226[8]?).bind fun x243 =>
  gI .i64 x243 fun i244 =>
  (c226[9]?).bind fun x245 =>
  gS x245 fun y246 =>
  if c226.length = 10 then
  pcallS (call Ev) Fn.impl_singleFault [.agg [.bool q228, .int .i64 i230, .int .i64 i232, .int .i64 i234, .str y236, .bool q238, .int .i64 i240, .int .i64 i242, .int .i64 i244, .str y246]] fun v247 =>
  gV1 v247 fun x248 =>
  gI .i64 x248 fun i249 =>
  vcase (bv (i249 != 0))
  (some (.ret (iv .i64 i249) h225))
  (vcase (bv (decide (s11 > 0)))
  (idxF 10 s0 (IntKind.i64.wrap (s11 - 1)) fun r252 =>
  (rowN 10 r252 0).bind fun c253 =>
  (c253[0]?).bind fun x254 =>
  gB x254 fun q255 =>
  (c253[1]?).bind fun x256 =>
  gI .i64 x256 fun i257 =>
  (c253[2]?).bind fun x258 =>
  gI .i64 x258 fun i259 =>
  (c253[3]?).bind fun x260 =>
  gI .i64 x260 fun i261 =>
  (c253[4]?).bind fun x262 =>
  gS x262 fun y263 =>
  (c253[5]?).bind fun x264 =>
  gB x264 fun q265 =>
  (c253[6]?).bind fun x266 =>
  gI .i64 x266 fun i267 =>
  (c253[7]?).bind fun x268 =>
  gI .i64 x268 fun i269 =>
  (c253[8]?).bind fun x270 =>
  gI .i64 x270 fun i271 =>
  (c253[9]?).bind fun x272 =>
  gS x272 fun y273 =>
  if c253.length = 10 then
  (loadN 10 h225 (pv h.n 0)).bind fun c274 =>
  (c274[0]?).bind fun x275 =>
  gB x275 fun q276 =>
  (c274[1]?).bind fun x277 =>
  gI .i64 x277 fun i278 =>
  (c274[2]?).bind fun x279 =>
  gI .i64 x279 fun i280 =>
  (c274[3]?).bind fun x281 =>
  gI .i64 x281 fun i282 =>
  (c274[4]?).bind fun x283 =>
  gS x283 fun y284 =>
  (c274[5]?).bind fun x285 =>
  gB x285 fun q286 =>
  (c274[6]?).bind fun x287 =>
  gI .i64 x287 fun i288 =>
  (c274[7]?).bind fun x289 =>
  gI .i64 x289 fun i290 =>
  (c274[8]?).bind fun x291 =>
  gI .i64 x291 fun i292 =>
  (c274[9]?).bind fun x293 =>
  gS x293 fun y294 =>
  if c274.length = 10 then
  pcallS (call Ev) Fn.impl_Change_key [.agg [.bool q255, .int .i64 i257, .int .i64 i259, .int .i64 i261, .str y263, .bool q265, .int .i64 i267, .int .i64 i269, .int .i64 i271, .str y273]] fun v295 =>
  gVA v295 fun c296 =>
  (c296[0]?).bind fun x297 =>
  gI .i64 x297 fun i298 =>
  (c296[1]?).bind fun x299 =>
  gI .i64 x299 fun i300 =>
  (c296[2]?).bind fun x301 =>
  gI .i64 x301 fun i302 =>
  (c296[3]?).bind fun x303 =>
  gS x303 fun y304 =>
  if c296.length = 4 then
  hchk h225 h225 (
  pcallS (call Ev) Fn.impl_Change_key [.agg [.bool q276, .int .i64 i278, .int .i64 i280, .int .i64 i282, .str y284, .bool q286, .int .i64 i288, .int .i64 i290, .int .i64 i292, .str y294]] fun v305 =>
  gVA v305 fun c306 =>
  (c306[0]?).bind fun x307 =>
  gI .i64 x307 fun i308 =>
  (c306[1]?).bind fun x309 =>
  gI .i64 x309 fun i310 =>
  (c306[2]?).bind fun x311 =>
  gI .i64 x311 fun i312 =>
  (c306[3]?).bind fun x313 =>
  gS x313 fun y314 =>
  if c306.length = 4 then
  hchk h225 h225 (
  pcallS (call Ev) Fn.impl_IsBefore [.agg [.int .i64 i298, .int .i64 i300, .int .i64 i302, .str y304], .agg [.int .i64 i308, .int .i64 i310, .int .i64 i312, .str y314]] fun v315 =>
  gV1 v315 fun x316 =>
  gB x316 fun q317 =>
  hchk h225 h225 (
  vcase (bv (!q317))
  (some (.ret (iv .i64 1) h225))
  (Lp.impl_foldedFault 0 [lv s0, lv s9, iv .i64 s10, iv .i64 (IntKind.i64.wrap (s11 + 1))] (tidy h [lv s0, lv s9, iv .i64 s10, iv .i64 (IntKind.i64.wrap (s11 + 1))] h225))))
  else none)
  else none
  else none
  else none)
  (hchk h225 h225 (
  hchk h225 h225 (
  hchk h225 h225 (
  Lp.impl_foldedFault 0 [lv s0, lv s9, iv .i64 s10, iv .i64 (IntKind.i64.wrap (s11 + 1))] (tidy h [lv s0, lv s9, iv .i64 s10, iv .i64 (IntKind.i64.wrap (s11 + 1))] h225))))))
  else none
  else none)
  (some (.done [] (tidy h [] h))) := by
  unfold Lp.impl_foldedFault; rw [loop_eq]; kernel_rfl

theorem pu_slices_BinarySearchFunc_impl_Change_impl_Change_impl_Row (a0 : List (List S)) (a1_0 : Int) (a1_1 : Int) (a1_2 : Int) (a1_3 : ByteArray) : pureV (call Ev) Fn.slices_BinarySearchFunc_impl_Change_impl_Change_impl_Row [lv a0, .agg [.int .i64 a1_0, .int .i64 a1_1, .int .i64 a1_2, .str a1_3], .s (.fn Fn.impl_keyOrder [])] =
  (Lp.slices_BinarySearchFunc_impl_Change_impl_Change_impl_Row 0 [lv a0, .s (.fn Fn.impl_keyOrder []), pv 0 0, iv .i64 (a0.length : Int), iv .i64 0, iv .i64 (a0.length : Int)] ((D 0).new 0 [.int .i64 a1_0, .int .i64 a1_1, .int .i64 a1_2, .str a1_3])).bind fun o101 => lcase o101 (fun l102 h103 =>
  (l102[0]?).bind fun w106 =>
  gV1 w106 fun x107 =>
  gF x107 fun z108 =>
  (l102[1]?).bind fun w109 =>
  (l102[2]?).bind fun w110 =>
  (l102[3]?).bind fun w111 =>
  gV1 w111 fun x112 =>
  gI .i64 x112 fun i113 =>
  (l102[4]?).bind fun w114 =>
  gV1 w114 fun x115 =>
  gI .i64 x115 fun i116 =>
  vcase (bv (decide (i116 < i113)))
  (idxF 10 z108 i116 fun r118 =>
  (rowN 10 r118 0).bind fun c119 =>
  (c119[0]?).bind fun x120 =>
  gB x120 fun q121 =>
  (c119[1]?).bind fun x122 =>
  gI .i64 x122 fun i123 =>
  (c119[2]?).bind fun x124 =>
  gI .i64 x124 fun i125 =>
  (c119[3]?).bind fun x126 =>
  gI .i64 x126 fun i127 =>
  (c119[4]?).bind fun x128 =>
  gS x128 fun y129 =>
  (c119[5]?).bind fun x130 =>
  gB x130 fun q131 =>
  (c119[6]?).bind fun x132 =>
  gI .i64 x132 fun i133 =>
  (c119[7]?).bind fun x134 =>
  gI .i64 x134 fun i135 =>
  (c119[8]?).bind fun x136 =>
  gI .i64 x136 fun i137 =>
  (c119[9]?).bind fun x138 =>
  gS x138 fun y139 =>
  if c119.length = 10 then
  ldK (.agg [.i .i64, .i .i64, .i .i64, .s]) ⟨4, 40, [.int .i64 0, .int .i64 0, .int .i64 0, .str ⟨#[]⟩], true, .st [(0, 2), (1, 2), (2, 2), (3, 9)], true⟩ h103 w110 fun v140 =>
  gVA v140 fun c141 =>
  (c141[0]?).bind fun x142 =>
  gI .i64 x142 fun i143 =>
  (c141[1]?).bind fun x144 =>
  gI .i64 x144 fun i145 =>
  (c141[2]?).bind fun x146 =>
  gI .i64 x146 fun i147 =>
  (c141[3]?).bind fun x148 =>
  gS x148 fun y149 =>
  if c141.length = 4 then
  fnK w109 fun j150 m151 =>
  (frzVs h103 ([.agg [.bool q121, .int .i64 i123, .int .i64 i125, .int .i64 i127, .str y129, .bool q131, .int .i64 i133, .int .i64 i135, .int .i64 i137, .str y139], .agg [.int .i64 i143, .int .i64 i145, .int .i64 i147, .str y149]] ++ m151.map fun p => .s (.ptr (some p)))).bind fun l152 =>
  pcallS (call Ev) j150 (normVs (Ev.psz j150) l152) fun v153 =>
  Vm.tyV (Ev.rt j150) v153 fun v154 =>
  gV1 v154 fun x155 =>
  gI .i64 x155 fun i156 =>
  hchk h103 h103 (
  some (.tup [.s (.int .i64 i116), .s (.bool (i156 == 0))]))
  else none
  else none)
  (hchk h103 h103 (
  some (.tup [.s (.int .i64 i116), .s (.bool false)])))) (fun v104 h105 =>
  frzV h105 v104) := by
  rw [pure_eq]; kernel_rfl

theorem eq_slices_BinarySearchFunc_impl_Change_impl_Change_impl_Row_l0 (s0 : List (List S)) (s4 : V) (s8 : Int) (s9 : Int) (s10 : Int) (h : H) : Lp.slices_BinarySearchFunc_impl_Change_impl_Change_impl_Row 0 [lv s0, .s (.fn Fn.impl_keyOrder []), s4, iv .i64 s8, iv .i64 s9, iv .i64 s10] h =
  vcase (bv (decide (s9 < s10)))
  ((bin Ev .shr 170 (iv .u64 (IntKind.u64.wrap (IntKind.i64.wrap (s9 + s10)))) (iv .u64 1)).bind fun b203 =>
  gV1 b203 fun x204 =>
  gI .u64 x204 fun i205 =>
  idxF 10 s0 (IntKind.i64.wrap i205) fun r206 =>
  (rowN 10 r206 0).bind fun c207 =>
  (c207[0]?).bind fun x208 =>
  gB x208 fun q209 =>
  (c207[1]?).bind fun x210 =>
  gI .i64 x210 fun i211 =>
  (c207[2]?).bind fun x212 =>
  gI .i64 x212 fun i213 =>
  (c207[3]?).bind fun x214 =>
  gI .i64 x214 fun i215 =>
  (c207[4]?).bind fun x216 =>
  gS x216 fun y217 =>
  (c207[5]?).bind fun x218 =>
  gB x218 fun q219 =>
  (c207[6]?).bind fun x220 =>
  gI .i64 x220 fun i221 =>
  (c207[7]?).bind fun x222 =>
  gI .i64 x222 fun i223 =>
  (c207[8]?).bind fun x224 =>
  gI .i64 x224 fun i225 =>
  (c207[9]?).bind fun x226 =>
  gS x226 fun y227 =>
  if c207.length = 10 then
  ldK (.agg [.i .i64, .i .i64, .i .i64, .s]) ⟨4, 40, [.int .i64 0, .int .i64 0, .int .i64 0, .str ⟨#[]⟩], true, .st [(0, 2), (1, 2), (2, 2), (3, 9)], true⟩ h s4 fun v228 =>
  gVA v228 fun c229 =>
  (c229[0]?).bind fun x230 =>
  gI .i64 x230 fun i231 =>
  (c229[1]?).bind fun x232 =>
  gI .i64 x232 fun i233 =>
  (c229[2]?).bind fun x234 =>
  gI .i64 x234 fun i235 =>
  (c229[3]?).bind fun x236 =>
  gS x236 fun y237 =>
  if c229.length = 4 then
  pcallS (call Ev) Fn.impl_keyOrder [.agg [.bool q209, .int .i64 i211, .int .i64 i213, .int .i64 i215, .str y217, .bool q219, .int .i64 i221, .int .i64 i223, .int .i64 i225, .str y227], .agg [.int .i64 i231, .int .i64 i233, .int .i64 i235, .str y237]] fun v238 =>
  gV1 v238 fun x239 =>
  gI .i64 x239 fun i240 =>
  hchk h h (
  vcase (bv (decide (i240 < 0)))
  (Lp.slices_BinarySearchFunc_impl_Change_impl_Change_impl_Row 0 [lv s0, .s (.fn Fn.impl_keyOrder []), s4, iv .i64 s8, iv .i64 (IntKind.i64.wrap ((IntKind.i64.wrap i205) + 1)), iv .i64 s10] (tidy h [lv s0, .s (.fn Fn.impl_keyOrder []), s4, iv .i64 s8, iv .i64 (IntKind.i64.wrap ((IntKind.i64.wrap i205) + 1)), iv .i64 s10] h))
  (Lp.slices_BinarySearchFunc_impl_Change_impl_Change_impl_Row 0 [lv s0, .s (.fn Fn.impl_keyOrder []), s4, iv .i64 s8, iv .i64 s9, iv .i64 (IntKind.i64.wrap i205)] (tidy h [lv s0, .s (.fn Fn.impl_keyOrder []), s4, iv .i64 s8, iv .i64 s9, iv .i64 (IntKind.i64.wrap i205)] h)))
  else none
  else none)
  (some (.done [lv s0, .s (.fn Fn.impl_keyOrder []), s4, iv .i64 s8, iv .i64 s9] (tidy h [lv s0, .s (.fn Fn.impl_keyOrder []), s4, iv .i64 s8, iv .i64 s9] h))) := by
  unfold Lp.slices_BinarySearchFunc_impl_Change_impl_Change_impl_Row; rw [loop_eq]; kernel_rfl

theorem pu_impl_keyOrder (a0_0 : Bool) (a0_1 : Int) (a0_2 : Int) (a0_3 : Int) (a0_4 : ByteArray) (a0_5 : Bool) (a0_6 : Int) (a0_7 : Int) (a0_8 : Int) (a0_9 : ByteArray) (a1_0 : Int) (a1_1 : Int) (a1_2 : Int) (a1_3 : ByteArray) : pureV (call Ev) Fn.impl_keyOrder [.agg [.bool a0_0, .int .i64 a0_1, .int .i64 a0_2, .int .i64 a0_3, .str a0_4, .bool a0_5, .int .i64 a0_6, .int .i64 a0_7, .int .i64 a0_8, .str a0_9], .agg [.int .i64 a1_0, .int .i64 a1_1, .int .i64 a1_2, .str a1_3]] =
  pcallS (call Ev) Fn.impl_Change_key [.agg [.bool a0_0, .int .i64 a0_1, .int .i64 a0_2, .int .i64 a0_3, .str a0_4, .bool a0_5, .int .i64 a0_6, .int .i64 a0_7, .int .i64 a0_8, .str a0_9]] fun v101 =>
  gVA v101 fun c102 =>
  (c102[0]?).bind fun x103 =>
  gI .i64 x103 fun i104 =>
  (c102[1]?).bind fun x105 =>
  gI .i64 x105 fun i106 =>
  (c102[2]?).bind fun x107 =>
  gI .i64 x107 fun i108 =>
  (c102[3]?).bind fun x109 =>
  gS x109 fun y110 =>
  if c102.length = 4 then
  hchk (((D 0).new 0 [.bool a0_0, .int .i64 a0_1, .int .i64 a0_2, .int .i64 a0_3, .str a0_4, .bool a0_5, .int .i64 a0_6, .int .i64 a0_7, .int .i64 a0_8, .str a0_9]).new 0 [.int .i64 a1_0, .int .i64 a1_1, .int .i64 a1_2, .str a1_3]) (((D 0).new 0 [.bool a0_0, .int .i64 a0_1, .int .i64 a0_2, .int .i64 a0_3, .str a0_4, .bool a0_5, .int .i64 a0_6, .int .i64 a0_7, .int .i64 a0_8, .str a0_9]).new 0 [.int .i64 a1_0, .int .i64 a1_1, .int .i64 a1_2, .str a1_3]) (
  pcallS (call Ev) Fn.impl_order [.agg [.int .i64 i104, .int .i64 i106, .int .i64 i108, .str y110], .agg [.int .i64 a1_0, .int .i64 a1_1, .int .i64 a1_2, .str a1_3]] fun v111 =>
  gV1 v111 fun x112 =>
  gI .i64 x112 fun i113 =>
  hchk (((D 0).new 0 [.bool a0_0, .int .i64 a0_1, .int .i64 a0_2, .int .i64 a0_3, .str a0_4, .bool a0_5, .int .i64 a0_6, .int .i64 a0_7, .int .i64 a0_8, .str a0_9]).new 0 [.int .i64 a1_0, .int .i64 a1_1, .int .i64 a1_2, .str a1_3]) (((D 0).new 0 [.bool a0_0, .int .i64 a0_1, .int .i64 a0_2, .int .i64 a0_3, .str a0_4, .bool a0_5, .int .i64 a0_6, .int .i64 a0_7, .int .i64 a0_8, .str a0_9]).new 0 [.int .i64 a1_0, .int .i64 a1_1, .int .i64 a1_2, .str a1_3]) (
  some (iv .i64 i113)))
  else none := by
  rw [pure_eq]; kernel_rfl

theorem eq_slices_Clone_impl_Change_impl_Change (a0 : List (List S)) (n : Nat) : call Ev Fn.slices_Clone_impl_Change_impl_Change [lv a0] (D n) =
  (bin Ev .eql 27 (lv a0) (.s (.sl none 0))).bind fun b101 =>
  gV1 b101 fun x102 =>
  gB x102 fun q103 =>
  vcase (bv q103)
  (some (.s (.sl none 0), (D n)))
  ((appS 10 ((D n).new 10 []) (sv ((D n).n) 0 0) (lv a0)).bind fun p105 =>
  some (p105.1, p105.2)) := by
  rw [call_eq]; kernel_rfl

theorem eq_slices_Reverse_impl_Change_impl_Change (a0 : V) (h : H) : call Ev Fn.slices_Reverse_impl_Change_impl_Change [a0] h =
  (lenV (.sl 41) a0).bind fun v101 =>
  gV1 v101 fun x102 =>
  gI .i64 x102 fun i103 =>
  (Lp.slices_Reverse_impl_Change_impl_Change 0 [a0, iv .i64 0, iv .i64 (IntKind.i64.wrap (i103 - 1))] h).bind fun o104 => lcase o104 (fun l105 h106 =>
  some (.tup [], h106)) (fun v107 h108 =>
  some (v107, h108)) := by
  rw [call_eq]; kernel_rfl

theorem eq_slices_Reverse_impl_Change_impl_Change_l0 (s0 : V) (s2 : Int) (s3 : Int) (h : H) : Lp.slices_Reverse_impl_Change_impl_Change 0 [s0, iv .i64 s2, iv .i64 s3] h =
  vcase (bv (decide (s2 < s3)))
  (idxK 10 s0 (iv .i64 s3) fun v203 =>
  ldK (.agg [.b, .i .i64, .i .i64, .i .i64, .s, .b, .i .i64, .i .i64, .i .i64, .s]) ⟨10, 96, [.bool false, .int .i64 0, .int .i64 0, .int .i64 0, .str ⟨#[]⟩, .bool false, .int .i64 0, .int .i64 0, .int .i64 0, .str ⟨#[]⟩], true, .st [(0, 4), (1, 39), (5, 4), (6, 39)], true⟩ h v203 fun v204 =>
  gVA v204 fun c205 =>
  (c205[0]?).bind fun x206 =>
  gB x206 fun q207 =>
  (c205[1]?).bind fun x208 =>
  gI .i64 x208 fun i209 =>
  (c205[2]?).bind fun x210 =>
  gI .i64 x210 fun i211 =>
  (c205[3]?).bind fun x212 =>
  gI .i64 x212 fun i213 =>
  (c205[4]?).bind fun x214 =>
  gS x214 fun y215 =>
  (c205[5]?).bind fun x216 =>
  gB x216 fun q217 =>
  (c205[6]?).bind fun x218 =>
  gI .i64 x218 fun i219 =>
  (c205[7]?).bind fun x220 =>
  gI .i64 x220 fun i221 =>
  (c205[8]?).bind fun x222 =>
  gI .i64 x222 fun i223 =>
  (c205[9]?).bind fun x224 =>
  gS x224 fun y225 =>
  if c205.length = 10 then
  idxK 10 s0 (iv .i64 s2) fun v226 =>
  ldK (.agg [.b, .i .i64, .i .i64, .i .i64, .s, .b, .i .i64, .i .i64, .i .i64, .s]) ⟨10, 96, [.bool false, .int .i64 0, .int .i64 0, .int .i64 0, .str ⟨#[]⟩, .bool false, .int .i64 0, .int .i64 0, .int .i64 0, .str ⟨#[]⟩], true, .st [(0, 4), (1, 39), (5, 4), (6, 39)], true⟩ h v226 fun v227 =>
  gVA v227 fun c228 =>
  (c228[0]?).bind fun x229 =>
  gB x229 fun q230 =>
  (c228[1]?).bind fun x231 =>
  gI .i64 x231 fun i232 =>
  (c228[2]?).bind fun x233 =>
  gI .i64 x233 fun i234 =>
  (c228[3]?).bind fun x235 =>
  gI .i64 x235 fun i236 =>
  (c228[4]?).bind fun x237 =>
  gS x237 fun y238 =>
  (c228[5]?).bind fun x239 =>
  gB x239 fun q240 =>
  (c228[6]?).bind fun x241 =>
  gI .i64 x241 fun i242 =>
  (c228[7]?).bind fun x243 =>
  gI .i64 x243 fun i244 =>
  (c228[8]?).bind fun x245 =>
  gI .i64 x245 fun i246 =>
  (c228[9]?).bind fun x247 =>
  gS x247 fun y248 =>
  if c228.length = 10 then
  idxK 10 s0 (iv .i64 s2) fun v249 =>
  stK 10 h v249 (.agg [.bool q207, .int .i64 i209, .int .i64 i211, .int .i64 i213, .str y215, .bool q217, .int .i64 i219, .int .i64 i221, .int .i64 i223, .str y225]) fun h250 =>
  idxK 10 s0 (iv .i64 s3) fun v251 =>
  stK 10 h250 v251 (.agg [.bool q230, .int .i64 i232, .int .i64 i234, .int .i64 i236, .str y238, .bool q240, .int .i64 i242, .int .i64 i244, .int .i64 i246, .str y248]) fun h252 =>
  Lp.slices_Reverse_impl_Change_impl_Change 0 [s0, iv .i64 (IntKind.i64.wrap (s2 + 1)), iv .i64 (IntKind.i64.wrap (s3 - 1))] (tidy h [s0, iv .i64 (IntKind.i64.wrap (s2 + 1)), iv .i64 (IntKind.i64.wrap (s3 - 1))] h252)
  else none
  else none)
  (some (.done [] (tidy h [] h))) := by
  unfold Lp.slices_Reverse_impl_Change_impl_Change; rw [loop_eq]; kernel_rfl

theorem eq_slices_rotateLeft_impl_Change (a0 : V) (a1 : Int) (h : H) : call Ev Fn.slices_rotateLeft_impl_Change [a0, iv .i64 a1] h =
  slK 10 h a0 none (some (iv .i64 a1)) fun v101 =>
  (call Ev Fn.slices_Reverse_impl_Change_impl_Change [v101] h).bind fun p102 =>
  slK 10 (tidy h [p102.1] p102.2) a0 (some (iv .i64 a1)) none fun v103 =>
  (call Ev Fn.slices_Reverse_impl_Change_impl_Change [v103] (tidy h [p102.1] p102.2)).bind fun p104 =>
  (call Ev Fn.slices_Reverse_impl_Change_impl_Change [a0] (tidy (tidy h [p102.1] p102.2) [p104.1] p104.2)).bind fun p105 =>
  some (.tup [], tidy (tidy (tidy h [p102.1] p102.2) [p104.1] p104.2) [p105.1] p105.2) := by
  rw [call_eq]; kernel_rfl

theorem eq_slices_rotateRight_impl_Change (a0 : V) (a1 : Int) (h : H) : call Ev Fn.slices_rotateRight_impl_Change [a0, iv .i64 a1] h =
  (lenV (.sl 41) a0).bind fun v101 =>
  gV1 v101 fun x102 =>
  gI .i64 x102 fun i103 =>
  (call Ev Fn.slices_rotateLeft_impl_Change [a0, iv .i64 (IntKind.i64.wrap (i103 - a1))] h).bind fun p104 =>
  some (.tup [], tidy h [p104.1] p104.2) := by
  rw [call_eq]; kernel_rfl

noncomputable def Jn.impl_FoldChange_0 (q488 : Bool) (v127 : V) (i123 : Int) (h445 : H) (h128 : H) : Option (V) :=
  vcase (bv q488)
  ((call Ev Fn.slices_Delete_impl_Change_impl_Change [v127, iv .i64 i123, iv .i64 (IntKind.i64.wrap (i123 + 1))] h445).bind fun p490 =>
  cellsK p490.1 fun c491 =>
  if c491.length = 1 ∧ 1 + 1 ≤ ([.int .i64 0, .sl none 0] : List S).length then
  ((setAt ([.int .i64 0, .sl none 0] : List S) 1 c491)[0]?).bind fun x492 =>
  gI .i64 x492 fun i493 =>
  ((setAt ([.int .i64 0, .sl none 0] : List S) 1 c491)[1]?).bind fun x494 =>
  if (setAt ([.int .i64 0, .sl none 0] : List S) 1 c491).length = 2 then
  stK 2 (tidy h445 [p490.1] p490.2) (pv 1 0) (.agg [.int .i64 i493, x494]) fun h495 =>
  (loadN 2 h495 (pv 1 0)).bind fun c496 =>
  frzV h495 (.agg c496)
  else none
  else none)
  ((loadN 10 h445 (pv h128.n 0)).bind fun c497 =>
  (c497[0]?).bind fun x498 =>
  gB x498 fun q499 =>
  (c497[1]?).bind fun x500 =>
  gI .i64 x500 fun i501 =>
  (c497[2]?).bind fun x502 =>
  gI .i64 x502 fun i503 =>
  (c497[3]?).bind fun x504 =>
  gI .i64 x504 fun i505 =>
  (c497[4]?).bind fun x506 =>
  gS x506 fun y507 =>
  (c497[5]?).bind fun x508 =>
  gB x508 fun q509 =>
  (c497[6]?).bind fun x510 =>
  gI .i64 x510 fun i511 =>
  (c497[7]?).bind fun x512 =>
  gI .i64 x512 fun i513 =>
  (c497[8]?).bind fun x514 =>
  gI .i64 x514 fun i515 =>
  (c497[9]?).bind fun x516 =>
  gS x516 fun y517 =>
  if c497.length = 10 then
  idxK 10 v127 (iv .i64 i123) fun v518 =>
  stK 10 h445 v518 (.agg [.bool q499, .int .i64 i501, .int .i64 i503, .int .i64 i505, .str y507, .bool q509, .int .i64 i511, .int .i64 i513, .int .i64 i515, .str y517]) fun h519 =>
  cellsK v127 fun c520 =>
  if c520.length = 1 ∧ 1 + 1 ≤ ([.int .i64 0, .sl none 0] : List S).length then
  ((setAt ([.int .i64 0, .sl none 0] : List S) 1 c520)[0]?).bind fun x521 =>
  gI .i64 x521 fun i522 =>
  ((setAt ([.int .i64 0, .sl none 0] : List S) 1 c520)[1]?).bind fun x523 =>
  if (setAt ([.int .i64 0, .sl none 0] : List S) 1 c520).length = 2 then
  stK 2 h519 (pv 1 0) (.agg [.int .i64 i522, x523]) fun h524 =>
  (loadN 2 h524 (pv 1 0)).bind fun c525 =>
  frzV h524 (.agg c525)
  else none
  else none
  else none)

noncomputable def Jn.impl_FoldChange_1 (q453 : Bool) (h445 : H) (h128 : H) (v127 : V) (i123 : Int) : Option (V) :=
  vcase (bv q453)
  (Jn.impl_FoldChange_0 true v127 i123 h445 h128)
  ((load1 h445 (pv h128.n 0)).bind fun x456 =>
  gB x456 fun q457 =>
  vcase (bv q457)
  ((load1 h445 (pv h128.n 5)).bind fun x459 =>
  gB x459 fun q460 =>
  vcase (bv q460)
  ((loadN 4 h445 (pv h128.n 1)).bind fun c464 =>
  (c464[0]?).bind fun x465 =>
  gI .i64 x465 fun i466 =>
  (c464[1]?).bind fun x467 =>
  gI .i64 x467 fun i468 =>
  (c464[2]?).bind fun x469 =>
  gI .i64 x469 fun i470 =>
  (c464[3]?).bind fun x471 =>
  gS x471 fun y472 =>
  if c464.length = 4 then
  (loadN 4 h445 (pv h128.n 6)).bind fun c473 =>
  (c473[0]?).bind fun x474 =>
  gI .i64 x474 fun i475 =>
  (c473[1]?).bind fun x476 =>
  gI .i64 x476 fun i477 =>
  (c473[2]?).bind fun x478 =>
  gI .i64 x478 fun i479 =>
  (c473[3]?).bind fun x480 =>
  gS x480 fun y481 =>
  if c473.length = 4 then
  Jn.impl_FoldChange_0 (((i466 : Int) == i475) && (((i468 : Int) == i477) && (((i470 : Int) == i479) && (((y472 : ByteArray).toList == (y481 : ByteArray).toList) && true)))) v127 i123 h445 h128
  else none
  else none)
  (Jn.impl_FoldChange_0 false v127 i123 h445 h128))
  (Jn.impl_FoldChange_0 false v127 i123 h445 h128))

noncomputable def Jn.impl_FoldChange_2 (q429 : Bool) (h181 : H) (h128 : H) (v127 : V) (i123 : Int) : Option (V) :=
  vcase (bv q429)
  (stK 2 h181 (pv 1 0) (.agg [.int .i64 8, .sl none 0]) fun h431 =>
  (loadN 2 h431 (pv 1 0)).bind fun c432 =>
  frzV h431 (.agg c432))
  ((load1 (h181.put h128.n .dead) (pv 0 5)).bind fun x433 =>
  gB x433 fun q434 =>
  (loadN 4 (h181.put h128.n .dead) (pv 0 6)).bind fun c435 =>
  (c435[0]?).bind fun x436 =>
  gI .i64 x436 fun i437 =>
  (c435[1]?).bind fun x438 =>
  gI .i64 x438 fun i439 =>
  (c435[2]?).bind fun x440 =>
  gI .i64 x440 fun i441 =>
  (c435[3]?).bind fun x442 =>
  gS x442 fun y443 =>
  if c435.length = 4 then
  stK 1 h181 (pv h128.n 5) (bv q434) fun h444 =>
  hchk (h181.put h128.n .dead) h444 (
  stK 4 h444 (pv h128.n 6) (.agg [.int .i64 i437, .int .i64 i439, .int .i64 i441, .str y443]) fun h445 =>
  hchk (h181.put h128.n .dead) h445 (
  (load1 h445 (pv h128.n 0)).bind fun x446 =>
  gB x446 fun q447 =>
  vcase (bv (!q447))
  ((load1 h445 (pv h128.n 5)).bind fun x449 =>
  gB x449 fun q450 =>
  Jn.impl_FoldChange_1 (!q450) h445 h128 v127 i123)
  (Jn.impl_FoldChange_1 false h445 h128 v127 i123)))
  else none)

theorem pu_impl_FoldChange (a0 : List (List S)) (a1_0 : Bool) (a1_1 : Int) (a1_2 : Int) (a1_3 : Int) (a1_4 : ByteArray) (a1_5 : Bool) (a1_6 : Int) (a1_7 : Int) (a1_8 : Int) (a1_9 : ByteArray) : pureV (call Ev) Fn.impl_FoldChange [lv a0, .agg [.bool a1_0, .int .i64 a1_1, .int .i64 a1_2, .int .i64 a1_3, .str a1_4, .bool a1_5, .int .i64 a1_6, .int .i64 a1_7, .int .i64 a1_8, .str a1_9]] =
  pcallS (call Ev) Fn.impl_foldedFault [lv a0] fun v101 =>
  gV1 v101 fun x102 =>
  gI .i64 x102 fun i103 =>
  vcase (bv (i103 != 0))
  (some (.agg [.int .i64 i103, .fs []]))
  (pcallS (call Ev) Fn.impl_singleFault [.agg [.bool a1_0, .int .i64 a1_1, .int .i64 a1_2, .int .i64 a1_3, .str a1_4, .bool a1_5, .int .i64 a1_6, .int .i64 a1_7, .int .i64 a1_8, .str a1_9]] fun v105 =>
  gV1 v105 fun x106 =>
  gI .i64 x106 fun i107 =>
  vcase (bv (i107 != 0))
  (some (.agg [.int .i64 i107, .fs []]))
  (pcallS (call Ev) Fn.impl_Change_key [.agg [.bool a1_0, .int .i64 a1_1, .int .i64 a1_2, .int .i64 a1_3, .str a1_4, .bool a1_5, .int .i64 a1_6, .int .i64 a1_7, .int .i64 a1_8, .str a1_9]] fun v109 =>
  gVA v109 fun c110 =>
  (c110[0]?).bind fun x111 =>
  gI .i64 x111 fun i112 =>
  (c110[1]?).bind fun x113 =>
  gI .i64 x113 fun i114 =>
  (c110[2]?).bind fun x115 =>
  gI .i64 x115 fun i116 =>
  (c110[3]?).bind fun x117 =>
  gS x117 fun y118 =>
  if c110.length = 4 then
  pcallS (call Ev) Fn.slices_BinarySearchFunc_impl_Change_impl_Change_impl_Row [lv a0, .agg [.int .i64 i112, .int .i64 i114, .int .i64 i116, .str y118], .s (.fn Fn.impl_keyOrder [])] fun v119 =>
  gVT v119 fun u120 =>
  (u120[0]?).bind fun t121 =>
  gA1 t121 fun x122 =>
  gI .i64 x122 fun i123 =>
  (u120[1]?).bind fun t124 =>
  gA1 t124 fun x125 =>
  gB x125 fun q126 =>
  if u120.length = 2 then
  pcallF (call Ev) Fn.slices_Clone_impl_Change_impl_Change true [lv a0] (((D 0).new 0 [.bool a1_0, .int .i64 a1_1, .int .i64 a1_2, .int .i64 a1_3, .str a1_4, .bool a1_5, .int .i64 a1_6, .int .i64 a1_7, .int .i64 a1_8, .str a1_9]).new 0 [.int .i64 0, .sl none 0]) fun v127 h128 =>
  vcase (bv (!q126))
  ((loadN 10 h128 (pv 0 0)).bind fun c130 =>
  (c130[0]?).bind fun x131 =>
  gB x131 fun q132 =>
  (c130[1]?).bind fun x133 =>
  gI .i64 x133 fun i134 =>
  (c130[2]?).bind fun x135 =>
  gI .i64 x135 fun i136 =>
  (c130[3]?).bind fun x137 =>
  gI .i64 x137 fun i138 =>
  (c130[4]?).bind fun x139 =>
  gS x139 fun y140 =>
  (c130[5]?).bind fun x141 =>
  gB x141 fun q142 =>
  (c130[6]?).bind fun x143 =>
  gI .i64 x143 fun i144 =>
  (c130[7]?).bind fun x145 =>
  gI .i64 x145 fun i146 =>
  (c130[8]?).bind fun x147 =>
  gI .i64 x147 fun i148 =>
  (c130[9]?).bind fun x149 =>
  gS x149 fun y150 =>
  if c130.length = 10 then
  (call Ev Fn.slices_Insert_impl_Change_impl_Change [v127, iv .i64 i123, sv h128.n 0 1] (h128.new 10 [.bool q132, .int .i64 i134, .int .i64 i136, .int .i64 i138, .str y140, .bool q142, .int .i64 i144, .int .i64 i146, .int .i64 i148, .str y150])).bind fun p151 =>
  cellsK p151.1 fun c152 =>
  if c152.length = 1 ∧ 1 + 1 ≤ ([.int .i64 0, .sl none 0] : List S).length then
  ((setAt ([.int .i64 0, .sl none 0] : List S) 1 c152)[0]?).bind fun x153 =>
  gI .i64 x153 fun i154 =>
  ((setAt ([.int .i64 0, .sl none 0] : List S) 1 c152)[1]?).bind fun x155 =>
  if (setAt ([.int .i64 0, .sl none 0] : List S) 1 c152).length = 2 then
  stK 2 (tidy (h128.new 10 [.bool q132, .int .i64 i134, .int .i64 i136, .int .i64 i138, .str y140, .bool q142, .int .i64 i144, .int .i64 i146, .int .i64 i148, .str y150]) [p151.1] p151.2) (pv 1 0) (.agg [.int .i64 i154, x155]) fun h156 =>
  (loadN 2 h156 (pv 1 0)).bind fun c157 =>
  frzV h156 (.agg c157)
  else none
  else none
  else none)
  (idxK 10 v127 (iv .i64 i123) fun v158 =>
  ldK (.agg [.b, .i .i64, .i .i64, .i .i64, .s, .b, .i .i64, .i .i64, .i .i64, .s]) ⟨10, 96, [.bool false, .int .i64 0, .int .i64 0, .int .i64 0, .str ⟨#[]⟩, .bool false, .int .i64 0, .int .i64 0, .int .i64 0, .str ⟨#[]⟩], true, .st [(0, 4), (1, 39), (5, 4), (6, 39)], true⟩ h128 v158 fun v159 =>
  gVA v159 fun c160 =>
  (c160[0]?).bind fun x161 =>
  gB x161 fun q162 =>
  (c160[1]?).bind fun x163 =>
  gI .i64 x163 fun i164 =>
  (c160[2]?).bind fun x165 =>
  gI .i64 x165 fun i166 =>
  (c160[3]?).bind fun x167 =>
  gI .i64 x167 fun i168 =>
  (c160[4]?).bind fun x169 =>
  gS x169 fun y170 =>
  (c160[5]?).bind fun x171 =>
  gB x171 fun q172 =>
  (c160[6]?).bind fun x173 =>
  gI .i64 x173 fun i174 =>
  (c160[7]?).bind fun x175 =>
  gI .i64 x175 fun i176 =>
  (c160[8]?).bind fun x177 =>
  gI .i64 x177 fun i178 =>
  (c160[9]?).bind fun x179 =>
  gS x179 fun y180 =>
  if c160.length = 10 then
  stK 10 (h128.new 0 [.bool false, .int .i64 0, .int .i64 0, .int .i64 0, .str (⟨#[]⟩), .bool false, .int .i64 0, .int .i64 0, .int .i64 0, .str (⟨#[]⟩)]) (pv h128.n 0) (.agg [.bool q162, .int .i64 i164, .int .i64 i166, .int .i64 i168, .str y170, .bool q172, .int .i64 i174, .int .i64 i176, .int .i64 i178, .str y180]) fun h181 =>
  (load1 h181 (pv 0 0)).bind fun x182 =>
  gB x182 fun q183 =>
  (load1 h181 (pv h128.n 5)).bind fun x184 =>
  gB x184 fun q185 =>
  vcase (bv (!(q183 == q185)))
  (Jn.impl_FoldChange_2 true h181 h128 v127 i123)
  ((load1 h181 (pv 0 0)).bind fun x188 =>
  gB x188 fun q189 =>
  vcase (bv q189)
  ((loadN 4 h181 (pv 0 1)).bind fun c191 =>
  (c191[0]?).bind fun x192 =>
  gI .i64 x192 fun i193 =>
  (c191[1]?).bind fun x194 =>
  gI .i64 x194 fun i195 =>
  (c191[2]?).bind fun x196 =>
  gI .i64 x196 fun i197 =>
  (c191[3]?).bind fun x198 =>
  gS x198 fun y199 =>
  if c191.length = 4 then
  (loadN 4 h181 (pv h128.n 6)).bind fun c200 =>
  (c200[0]?).bind fun x201 =>
  gI .i64 x201 fun i202 =>
  (c200[1]?).bind fun x203 =>
  gI .i64 x203 fun i204 =>
  (c200[2]?).bind fun x205 =>
  gI .i64 x205 fun i206 =>
  (c200[3]?).bind fun x207 =>
  gS x207 fun y208 =>
  if c200.length = 4 then
  Jn.impl_FoldChange_2 (!(((i193 : Int) == i202) && (((i195 : Int) == i204) && (((i197 : Int) == i206) && (((y199 : ByteArray).toList == (y208 : ByteArray).toList) && true))))) h181 h128 v127 i123
  else none
  else none)
  (Jn.impl_FoldChange_2 false h181 h128 v127 i123))
  else none)
  else none
  else none)) := by
  rw [pure_eq]; kernel_rfl

theorem pu_spec_l9Change (a0_0 : Bool) (a0_1 : Int) (a0_2 : Int) (a0_3 : Int) (a0_4 : ByteArray) (a0_5 : Bool) (a0_6 : Int) (a0_7 : Int) (a0_8 : Int) (a0_9 : ByteArray) : pureV (call Ev) Fn.spec_l9Change [fv [.bool a0_0, .int .i64 a0_1, .int .i64 a0_2, .int .i64 a0_3, .str a0_4, .bool a0_5, .int .i64 a0_6, .int .i64 a0_7, .int .i64 a0_8, .str a0_9] 0] =
  pcallS (call Ev) Fn.spec_l6Change [fv [.bool a0_0, .int .i64 a0_1, .int .i64 a0_2, .int .i64 a0_3, .str a0_4, .bool a0_5, .int .i64 a0_6, .int .i64 a0_7, .int .i64 a0_8, .str a0_9] 0] fun v101 =>
  gV1 v101 fun x102 =>
  gI .i64 x102 fun i103 =>
  vcase (bv (i103 != 0))
  (some (iv .i64 i103))
  (vcase (bv a0_0)
  (vcase (bv a0_5)
  (vcase (bv (((a0_1 : Int) == a0_6) && (((a0_2 : Int) == a0_7) && (((a0_3 : Int) == a0_8) && (((a0_4 : ByteArray).toList == (a0_9 : ByteArray).toList) && true)))))
  (some (iv .i64 1))
  (some (iv .i64 0)))
  (some (iv .i64 0)))
  (some (iv .i64 0))) := by
  rw [pure_eq]; kernel_rfl

theorem pu_spec_l9Ahead (a0_0 : Bool) (a0_1 : Int) (a0_2 : Int) (a0_3 : Int) (a0_4 : ByteArray) (a0_5 : Bool) (a0_6 : Int) (a0_7 : Int) (a0_8 : Int) (a0_9 : ByteArray) (a1_0 : Bool) (a1_1 : Int) (a1_2 : Int) (a1_3 : Int) (a1_4 : ByteArray) (a1_5 : Bool) (a1_6 : Int) (a1_7 : Int) (a1_8 : Int) (a1_9 : ByteArray) : pureV (call Ev) Fn.spec_l9Ahead [fv [.bool a0_0, .int .i64 a0_1, .int .i64 a0_2, .int .i64 a0_3, .str a0_4, .bool a0_5, .int .i64 a0_6, .int .i64 a0_7, .int .i64 a0_8, .str a0_9] 0, fv [.bool a1_0, .int .i64 a1_1, .int .i64 a1_2, .int .i64 a1_3, .str a1_4, .bool a1_5, .int .i64 a1_6, .int .i64 a1_7, .int .i64 a1_8, .str a1_9] 0] =
  pcallS (call Ev) Fn.spec_l6Key [fv [.bool a0_0, .int .i64 a0_1, .int .i64 a0_2, .int .i64 a0_3, .str a0_4, .bool a0_5, .int .i64 a0_6, .int .i64 a0_7, .int .i64 a0_8, .str a0_9] 0] fun v101 =>
  gVT v101 fun u102 =>
  (u102[0]?).bind fun t103 =>
  gA1 t103 fun x104 =>
  gI .i64 x104 fun i105 =>
  (u102[1]?).bind fun t106 =>
  gA1 t106 fun x107 =>
  gI .i64 x107 fun i108 =>
  if u102.length = 2 then
  pcallS (call Ev) Fn.spec_l6Key [fv [.bool a1_0, .int .i64 a1_1, .int .i64 a1_2, .int .i64 a1_3, .str a1_4, .bool a1_5, .int .i64 a1_6, .int .i64 a1_7, .int .i64 a1_8, .str a1_9] 0] fun v109 =>
  gVT v109 fun u110 =>
  (u110[0]?).bind fun t111 =>
  gA1 t111 fun x112 =>
  gI .i64 x112 fun i113 =>
  (u110[1]?).bind fun t114 =>
  gA1 t114 fun x115 =>
  gI .i64 x115 fun i116 =>
  if u110.length = 2 then
  vcase (bv (decide (i105 < i113)))
  (some (bv true))
  (vcase (bv (i105 == i113))
  (some (bv (decide (i108 < i116))))
  (some (bv false)))
  else none
  else none := by
  rw [pure_eq]; kernel_rfl

theorem pu_spec_l9List (a0 : List (List S)) : pureV (call Ev) Fn.spec_l9List [lv a0] =
  vcase (bv (decide ((a0.length : Int) > 60)))
  (some (iv .i64 2))
  ((Lp.spec_l9List 0 [lv a0, iv .i64 0] (D 0)).bind fun o102 => lcase o102 (fun l103 h104 =>
  some (iv .i64 0)) (fun v105 h106 =>
  frzV h106 v105)) := by
  rw [pure_eq]; kernel_rfl

theorem eq_spec_l9List_l0 (s0 : List (List S)) (s3 : Int) (h : H) : Lp.spec_l9List 0 [lv s0, iv .i64 s3] h =
  vcase (bv (decide (s3 < (s0.length : Int))))
  (idxF 10 s0 s3 fun r203 =>
  pcallS (call Ev) Fn.spec_l9Change [normV 10 (fv r203 0)] fun v204 =>
  gV1 v204 fun x205 =>
  gI .i64 x205 fun i206 =>
  vcase (bv (i206 != 0))
  (some (.ret (iv .i64 i206) h))
  (vcase (bv (decide (s3 > 0)))
  (idxF 10 s0 (IntKind.i64.wrap (s3 - 1)) fun r209 =>
  idxF 10 s0 s3 fun r210 =>
  pcallS (call Ev) Fn.spec_l9Ahead [normV 10 (fv r209 0), normV 10 (fv r210 0)] fun v211 =>
  gV1 v211 fun x212 =>
  gB x212 fun q213 =>
  hchk h h (
  vcase (bv (!q213))
  (some (.ret (iv .i64 1) h))
  (Lp.spec_l9List 0 [lv s0, iv .i64 (IntKind.i64.wrap (s3 + 1))] (tidy h [lv s0, iv .i64 (IntKind.i64.wrap (s3 + 1))] h))))
  (hchk h h (
  Lp.spec_l9List 0 [lv s0, iv .i64 (IntKind.i64.wrap (s3 + 1))] (tidy h [lv s0, iv .i64 (IntKind.i64.wrap (s3 + 1))] h)))))
  (some (.done [] (tidy h [] h))) := by
  unfold Lp.spec_l9List; rw [loop_eq]; kernel_rfl

end Vm
