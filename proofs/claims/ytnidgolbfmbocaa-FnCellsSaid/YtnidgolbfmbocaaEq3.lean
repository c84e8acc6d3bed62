/-
  What each function, and each round of each loop, comes to in the small machine. Written by a program (gen3.py).
-/
import Derived.Test.YtnidgolbfmbocaaEnv
set_option linter.unusedVariables false
set_option maxRecDepth 100000
namespace Vm
open Go

noncomputable def Jn.laws_FnPuts_0 (q409 : Bool) (w410 : V) (w411 : V) (w412 : V) (w413 : V) (w414 : V) (w415 : V) (w416 : V) (w417 : V) (w418 : V) (q419 : Bool) (z109 : List (List S)) (z112 : List (List S)) (i116 : Int) (i118 : Int) (z120 : List (List S)) (i133 : Int) (z135 : List (List S)) (i139 : Int) (z141 : List (List S)) : Option (V) :=
  vcase (bv q419)
  ((pureV (call Ev) Fn.spec_PutSlot [lv z109, lv z112]).bind fun v421 =>
  gVA v421 fun c422 =>
  (c422[0]?).bind fun x423 =>
  gI .i64 x423 fun i424 =>
  (c422[1]?).bind fun x425 =>
  gI .i64 x425 fun i426 =>
  (c422[2]?).bind fun x427 =>
  gF x427 fun z428 =>
  if c422.length = 3 then
  hchk (((((((D 0).new 0 [.int .i64 0, .int .i64 0, .sl none 0]).put 0 (.rw 0 [.int .i64 i116, .int .i64 i118, .fs z120])).new 0 [.int .i64 0, .sl none 0]).put 1 (.rw 0 [.int .i64 i133, .fs z135])).new 0 [.int .i64 0, .sl none 0]).put 2 (.rw 0 [.int .i64 i139, .fs z141])) (((((((D 0).new 0 [.int .i64 0, .int .i64 0, .sl none 0]).put 0 (.rw 0 [.int .i64 i116, .int .i64 i118, .fs z120])).new 0 [.int .i64 0, .sl none 0]).put 1 (.rw 0 [.int .i64 i133, .fs z135])).new 0 [.int .i64 0, .sl none 0]).put 2 (.rw 0 [.int .i64 i139, .fs z141])) (
  hchk (((((((D 0).new 0 [.int .i64 0, .int .i64 0, .sl none 0]).put 0 (.rw 0 [.int .i64 i116, .int .i64 i118, .fs z120])).new 0 [.int .i64 0, .sl none 0]).put 1 (.rw 0 [.int .i64 i133, .fs z135])).new 0 [.int .i64 0, .sl none 0]).put 2 (.rw 0 [.int .i64 i139, .fs z141])) (((((((D 0).new 0 [.int .i64 0, .int .i64 0, .sl none 0]).put 0 (.rw 0 [.int .i64 i116, .int .i64 i118, .fs z120])).new 0 [.int .i64 0, .sl none 0]).put 1 (.rw 0 [.int .i64 i133, .fs z135])).new 0 [.int .i64 0, .sl none 0]).put 2 (.rw 0 [.int .i64 i139, .fs z141])) (
  hchk (((((((D 0).new 0 [.int .i64 0, .int .i64 0, .sl none 0]).put 0 (.rw 0 [.int .i64 i116, .int .i64 i118, .fs z120])).new 0 [.int .i64 0, .sl none 0]).put 1 (.rw 0 [.int .i64 i133, .fs z135])).new 0 [.int .i64 0, .sl none 0]).put 2 (.rw 0 [.int .i64 i139, .fs z141])) (((((((D 0).new 0 [.int .i64 0, .int .i64 0, .sl none 0]).put 0 (.rw 0 [.int .i64 i116, .int .i64 i118, .fs z120])).new 0 [.int .i64 0, .sl none 0]).put 1 (.rw 0 [.int .i64 i133, .fs z135])).new 0 [.int .i64 0, .sl none 0]).put 2 (.rw 0 [.int .i64 i139, .fs z141])) (
  hchk (((((((D 0).new 0 [.int .i64 0, .int .i64 0, .sl none 0]).put 0 (.rw 0 [.int .i64 i116, .int .i64 i118, .fs z120])).new 0 [.int .i64 0, .sl none 0]).put 1 (.rw 0 [.int .i64 i133, .fs z135])).new 0 [.int .i64 0, .sl none 0]).put 2 (.rw 0 [.int .i64 i139, .fs z141])) (((((((D 0).new 0 [.int .i64 0, .int .i64 0, .sl none 0]).put 0 (.rw 0 [.int .i64 i116, .int .i64 i118, .fs z120])).new 0 [.int .i64 0, .sl none 0]).put 1 (.rw 0 [.int .i64 i133, .fs z135])).new 0 [.int .i64 0, .sl none 0]).put 2 (.rw 0 [.int .i64 i139, .fs z141])) (
  hchk (((((((D 0).new 0 [.int .i64 0, .int .i64 0, .sl none 0]).put 0 (.rw 0 [.int .i64 i116, .int .i64 i118, .fs z120])).new 0 [.int .i64 0, .sl none 0]).put 1 (.rw 0 [.int .i64 i133, .fs z135])).new 0 [.int .i64 0, .sl none 0]).put 2 (.rw 0 [.int .i64 i139, .fs z141])) (((((((D 0).new 0 [.int .i64 0, .int .i64 0, .sl none 0]).put 0 (.rw 0 [.int .i64 i116, .int .i64 i118, .fs z120])).new 0 [.int .i64 0, .sl none 0]).put 1 (.rw 0 [.int .i64 i133, .fs z135])).new 0 [.int .i64 0, .sl none 0]).put 2 (.rw 0 [.int .i64 i139, .fs z141])) (
  some (bv (i118 == i426)))))))
  else none)
  (hchk (((((((D 0).new 0 [.int .i64 0, .int .i64 0, .sl none 0]).put 0 (.rw 0 [.int .i64 i116, .int .i64 i118, .fs z120])).new 0 [.int .i64 0, .sl none 0]).put 1 (.rw 0 [.int .i64 i133, .fs z135])).new 0 [.int .i64 0, .sl none 0]).put 2 (.rw 0 [.int .i64 i139, .fs z141])) (((((((D 0).new 0 [.int .i64 0, .int .i64 0, .sl none 0]).put 0 (.rw 0 [.int .i64 i116, .int .i64 i118, .fs z120])).new 0 [.int .i64 0, .sl none 0]).put 1 (.rw 0 [.int .i64 i133, .fs z135])).new 0 [.int .i64 0, .sl none 0]).put 2 (.rw 0 [.int .i64 i139, .fs z141])) (
  hchk (((((((D 0).new 0 [.int .i64 0, .int .i64 0, .sl none 0]).put 0 (.rw 0 [.int .i64 i116, .int .i64 i118, .fs z120])).new 0 [.int .i64 0, .sl none 0]).put 1 (.rw 0 [.int .i64 i133, .fs z135])).new 0 [.int .i64 0, .sl none 0]).put 2 (.rw 0 [.int .i64 i139, .fs z141])) (((((((D 0).new 0 [.int .i64 0, .int .i64 0, .sl none 0]).put 0 (.rw 0 [.int .i64 i116, .int .i64 i118, .fs z120])).new 0 [.int .i64 0, .sl none 0]).put 1 (.rw 0 [.int .i64 i133, .fs z135])).new 0 [.int .i64 0, .sl none 0]).put 2 (.rw 0 [.int .i64 i139, .fs z141])) (
  hchk (((((((D 0).new 0 [.int .i64 0, .int .i64 0, .sl none 0]).put 0 (.rw 0 [.int .i64 i116, .int .i64 i118, .fs z120])).new 0 [.int .i64 0, .sl none 0]).put 1 (.rw 0 [.int .i64 i133, .fs z135])).new 0 [.int .i64 0, .sl none 0]).put 2 (.rw 0 [.int .i64 i139, .fs z141])) (((((((D 0).new 0 [.int .i64 0, .int .i64 0, .sl none 0]).put 0 (.rw 0 [.int .i64 i116, .int .i64 i118, .fs z120])).new 0 [.int .i64 0, .sl none 0]).put 1 (.rw 0 [.int .i64 i133, .fs z135])).new 0 [.int .i64 0, .sl none 0]).put 2 (.rw 0 [.int .i64 i139, .fs z141])) (
  hchk (((((((D 0).new 0 [.int .i64 0, .int .i64 0, .sl none 0]).put 0 (.rw 0 [.int .i64 i116, .int .i64 i118, .fs z120])).new 0 [.int .i64 0, .sl none 0]).put 1 (.rw 0 [.int .i64 i133, .fs z135])).new 0 [.int .i64 0, .sl none 0]).put 2 (.rw 0 [.int .i64 i139, .fs z141])) (((((((D 0).new 0 [.int .i64 0, .int .i64 0, .sl none 0]).put 0 (.rw 0 [.int .i64 i116, .int .i64 i118, .fs z120])).new 0 [.int .i64 0, .sl none 0]).put 1 (.rw 0 [.int .i64 i133, .fs z135])).new 0 [.int .i64 0, .sl none 0]).put 2 (.rw 0 [.int .i64 i139, .fs z141])) (
  hchk (((((((D 0).new 0 [.int .i64 0, .int .i64 0, .sl none 0]).put 0 (.rw 0 [.int .i64 i116, .int .i64 i118, .fs z120])).new 0 [.int .i64 0, .sl none 0]).put 1 (.rw 0 [.int .i64 i133, .fs z135])).new 0 [.int .i64 0, .sl none 0]).put 2 (.rw 0 [.int .i64 i139, .fs z141])) (((((((D 0).new 0 [.int .i64 0, .int .i64 0, .sl none 0]).put 0 (.rw 0 [.int .i64 i116, .int .i64 i118, .fs z120])).new 0 [.int .i64 0, .sl none 0]).put 1 (.rw 0 [.int .i64 i133, .fs z135])).new 0 [.int .i64 0, .sl none 0]).put 2 (.rw 0 [.int .i64 i139, .fs z141])) (
  some (bv false)))))))

noncomputable def Jn.laws_FnPuts_1 (q396 : Bool) (w397 : V) (w398 : V) (w399 : V) (w400 : V) (q401 : Bool) (i147 : Int) (i153 : Int) (z112 : List (List S)) (z109 : List (List S)) (i116 : Int) (i118 : Int) (z120 : List (List S)) (i133 : Int) (z135 : List (List S)) (i139 : Int) (z141 : List (List S)) : Option (V) :=
  vcase (bv q401)
  (vcase (bv ((IntKind.i64.wrap (i147 - i153)) == (z112.length : Int)))
  (Jn.laws_FnPuts_0 true (iv .i64 (IntKind.i64.wrap (i147 - i153))) (iv .i64 (z112.length : Int)) (bv ((IntKind.i64.wrap (i147 - i153)) == (z112.length : Int))) (bv true) (.tup []) (.tup []) (.tup []) (.tup []) (bv true) true z109 z112 i116 i118 z120 i133 z135 i139 z141)
  (Jn.laws_FnPuts_0 true (iv .i64 (IntKind.i64.wrap (i147 - i153))) (iv .i64 (z112.length : Int)) (bv ((IntKind.i64.wrap (i147 - i153)) == (z112.length : Int))) (bv false) (iv .i64 (IntKind.i64.wrap (i147 - i153))) (iv .i64 (z112.length : Int)) (iv .i64 (IntKind.i64.wrap ((z112.length : Int) + 2))) (bv ((IntKind.i64.wrap (i147 - i153)) == (IntKind.i64.wrap ((z112.length : Int) + 2)))) (bv ((IntKind.i64.wrap (i147 - i153)) == (IntKind.i64.wrap ((z112.length : Int) + 2)))) ((IntKind.i64.wrap (i147 - i153)) == (IntKind.i64.wrap ((z112.length : Int) + 2))) z109 z112 i116 i118 z120 i133 z135 i139 z141))
  (Jn.laws_FnPuts_0 false (.tup []) (.tup []) (.tup []) (.tup []) (.tup []) (.tup []) (.tup []) (.tup []) (.tup []) false z109 z112 i116 i118 z120 i133 z135 i139 z141)

noncomputable def Jn.laws_FnPuts_2 (q382 : Bool) (w383 : V) (w384 : V) (w385 : V) (w386 : V) (w387 : V) (w388 : V) (q389 : Bool) (z120 : List (List S)) (i116 : Int) (i118 : Int) (i133 : Int) (z135 : List (List S)) (i139 : Int) (z141 : List (List S)) (i147 : Int) (i153 : Int) (z112 : List (List S)) (z109 : List (List S)) : Option (V) :=
  vcase (bv q389)
  (pcallS (call Ev) Fn.impl_PageFault [lv z120] fun v391 =>
  gV1 v391 fun x392 =>
  gI .i64 x392 fun i393 =>
  hchk (((((((D 0).new 0 [.int .i64 0, .int .i64 0, .sl none 0]).put 0 (.rw 0 [.int .i64 i116, .int .i64 i118, .fs z120])).new 0 [.int .i64 0, .sl none 0]).put 1 (.rw 0 [.int .i64 i133, .fs z135])).new 0 [.int .i64 0, .sl none 0]).put 2 (.rw 0 [.int .i64 i139, .fs z141])) (((((((D 0).new 0 [.int .i64 0, .int .i64 0, .sl none 0]).put 0 (.rw 0 [.int .i64 i116, .int .i64 i118, .fs z120])).new 0 [.int .i64 0, .sl none 0]).put 1 (.rw 0 [.int .i64 i133, .fs z135])).new 0 [.int .i64 0, .sl none 0]).put 2 (.rw 0 [.int .i64 i139, .fs z141])) (
  Jn.laws_FnPuts_1 true (pv 0 2) (lv z120) (iv .i64 i393) (bv (i393 == 0)) (i393 == 0) i147 i153 z112 z109 i116 i118 z120 i133 z135 i139 z141))
  (hchk (((((((D 0).new 0 [.int .i64 0, .int .i64 0, .sl none 0]).put 0 (.rw 0 [.int .i64 i116, .int .i64 i118, .fs z120])).new 0 [.int .i64 0, .sl none 0]).put 1 (.rw 0 [.int .i64 i133, .fs z135])).new 0 [.int .i64 0, .sl none 0]).put 2 (.rw 0 [.int .i64 i139, .fs z141])) (((((((D 0).new 0 [.int .i64 0, .int .i64 0, .sl none 0]).put 0 (.rw 0 [.int .i64 i116, .int .i64 i118, .fs z120])).new 0 [.int .i64 0, .sl none 0]).put 1 (.rw 0 [.int .i64 i133, .fs z135])).new 0 [.int .i64 0, .sl none 0]).put 2 (.rw 0 [.int .i64 i139, .fs z141])) (
  Jn.laws_FnPuts_1 false (.tup []) (.tup []) (.tup []) (.tup []) false i147 i153 z112 z109 i116 i118 z120 i133 z135 i139 z141))

noncomputable def Jn.laws_FnPuts_3 (q371 : Bool) (w372 : V) (w373 : V) (w374 : V) (q375 : Bool) (z109 : List (List S)) (z120 : List (List S)) (i118 : Int) (i116 : Int) (i133 : Int) (z135 : List (List S)) (i139 : Int) (z141 : List (List S)) (i147 : Int) (i153 : Int) (z112 : List (List S)) : Option (V) :=
  vcase (bv q375)
  (pcallS (call Ev) Fn.laws_lwOthers [lv z109, lv z120, iv .i64 i118] fun v377 =>
  gV1 v377 fun x378 =>
  gB x378 fun q379 =>
  hchk (((((((D 0).new 0 [.int .i64 0, .int .i64 0, .sl none 0]).put 0 (.rw 0 [.int .i64 i116, .int .i64 i118, .fs z120])).new 0 [.int .i64 0, .sl none 0]).put 1 (.rw 0 [.int .i64 i133, .fs z135])).new 0 [.int .i64 0, .sl none 0]).put 2 (.rw 0 [.int .i64 i139, .fs z141])) (((((((D 0).new 0 [.int .i64 0, .int .i64 0, .sl none 0]).put 0 (.rw 0 [.int .i64 i116, .int .i64 i118, .fs z120])).new 0 [.int .i64 0, .sl none 0]).put 1 (.rw 0 [.int .i64 i133, .fs z135])).new 0 [.int .i64 0, .sl none 0]).put 2 (.rw 0 [.int .i64 i139, .fs z141])) (
  Jn.laws_FnPuts_2 true (lv z109) (pv 0 2) (lv z120) (pv 0 1) (iv .i64 i118) (bv q379) q379 z120 i116 i118 i133 z135 i139 z141 i147 i153 z112 z109))
  (hchk (((((((D 0).new 0 [.int .i64 0, .int .i64 0, .sl none 0]).put 0 (.rw 0 [.int .i64 i116, .int .i64 i118, .fs z120])).new 0 [.int .i64 0, .sl none 0]).put 1 (.rw 0 [.int .i64 i133, .fs z135])).new 0 [.int .i64 0, .sl none 0]).put 2 (.rw 0 [.int .i64 i139, .fs z141])) (((((((D 0).new 0 [.int .i64 0, .int .i64 0, .sl none 0]).put 0 (.rw 0 [.int .i64 i116, .int .i64 i118, .fs z120])).new 0 [.int .i64 0, .sl none 0]).put 1 (.rw 0 [.int .i64 i133, .fs z135])).new 0 [.int .i64 0, .sl none 0]).put 2 (.rw 0 [.int .i64 i139, .fs z141])) (
  Jn.laws_FnPuts_2 false (.tup []) (.tup []) (.tup []) (.tup []) (.tup []) (.tup []) false z120 i116 i118 i133 z135 i139 z141 i147 i153 z112 z109))

noncomputable def Jn.laws_FnPuts_4 (q362 : Bool) (w363 : V) (w364 : V) (w365 : V) (w366 : V) (q367 : Bool) (i139 : Int) (z109 : List (List S)) (z120 : List (List S)) (i118 : Int) (i116 : Int) (i133 : Int) (z135 : List (List S)) (z141 : List (List S)) (i147 : Int) (i153 : Int) (z112 : List (List S)) : Option (V) :=
  vcase (bv q367)
  (Jn.laws_FnPuts_3 true (pv 2 0) (iv .i64 i139) (bv (i139 == 4)) (i139 == 4) z109 z120 i118 i116 i133 z135 i139 z141 i147 i153 z112)
  (Jn.laws_FnPuts_3 false (.tup []) (.tup []) (.tup []) false z109 z120 i118 i116 i133 z135 i139 z141 i147 i153 z112)

theorem pu_laws_FnPuts (a0 : List (List S)) : pureV (call Ev) Fn.laws_FnPuts [lv a0] =
  pcallS (call Ev) Fn.laws_lwBig [lv a0] fun v101 =>
  gV1 v101 fun x102 =>
  gB x102 fun q103 =>
  vcase (bv q103)
  (some (bv true))
  ((pureV (call Ev) Fn.spec_DrawPutSlot [lv a0]).bind fun v105 =>
  gVT v105 fun u106 =>
  (u106[0]?).bind fun t107 =>
  gA1 t107 fun x108 =>
  gF x108 fun z109 =>
  (u106[1]?).bind fun t110 =>
  gA1 t110 fun x111 =>
  gF x111 fun z112 =>
  if u106.length = 2 then
  (pureV (call Ev) Fn.impl_PutSlot [lv z109, lv z112]).bind fun v113 =>
  gVA v113 fun c114 =>
  (c114[0]?).bind fun x115 =>
  gI .i64 x115 fun i116 =>
  (c114[1]?).bind fun x117 =>
  gI .i64 x117 fun i118 =>
  (c114[2]?).bind fun x119 =>
  gF x119 fun z120 =>
  if c114.length = 3 then
  vcase (bv (i116 != 0))
  ((pureV (call Ev) Fn.spec_PutSlot [lv z109, lv z112]).bind fun v122 =>
  gVA v122 fun c123 =>
  (c123[0]?).bind fun x124 =>
  gI .i64 x124 fun i125 =>
  (c123[1]?).bind fun x126 =>
  gI .i64 x126 fun i127 =>
  (c123[2]?).bind fun x128 =>
  gF x128 fun z129 =>
  if c123.length = 3 then
  hchk (((D 0).new 0 [.int .i64 0, .int .i64 0, .sl none 0]).put 0 (.rw 0 [.int .i64 i116, .int .i64 i118, .fs z120])) (((D 0).new 0 [.int .i64 0, .int .i64 0, .sl none 0]).put 0 (.rw 0 [.int .i64 i116, .int .i64 i118, .fs z120])) (
  hchk (((D 0).new 0 [.int .i64 0, .int .i64 0, .sl none 0]).put 0 (.rw 0 [.int .i64 i116, .int .i64 i118, .fs z120])) (((D 0).new 0 [.int .i64 0, .int .i64 0, .sl none 0]).put 0 (.rw 0 [.int .i64 i116, .int .i64 i118, .fs z120])) (
  hchk (((D 0).new 0 [.int .i64 0, .int .i64 0, .sl none 0]).put 0 (.rw 0 [.int .i64 i116, .int .i64 i118, .fs z120])) (((D 0).new 0 [.int .i64 0, .int .i64 0, .sl none 0]).put 0 (.rw 0 [.int .i64 i116, .int .i64 i118, .fs z120])) (
  hchk (((D 0).new 0 [.int .i64 0, .int .i64 0, .sl none 0]).put 0 (.rw 0 [.int .i64 i116, .int .i64 i118, .fs z120])) (((D 0).new 0 [.int .i64 0, .int .i64 0, .sl none 0]).put 0 (.rw 0 [.int .i64 i116, .int .i64 i118, .fs z120])) (
  some (bv (i125 == i116))))))
  else none)
  ((pureV (call Ev) Fn.impl_SlotIn [lv z120, iv .i64 i118]).bind fun v130 =>
  gVA v130 fun c131 =>
  (c131[0]?).bind fun x132 =>
  gI .i64 x132 fun i133 =>
  (c131[1]?).bind fun x134 =>
  gF x134 fun z135 =>
  if c131.length = 2 then
  (pureV (call Ev) Fn.impl_SlotIn [lv z109, iv .i64 i118]).bind fun v136 =>
  gVA v136 fun c137 =>
  (c137[0]?).bind fun x138 =>
  gI .i64 x138 fun i139 =>
  (c137[1]?).bind fun x140 =>
  gF x140 fun z141 =>
  if c137.length = 2 then
  pcallS (call Ev) Fn.impl_FreeIn [lv z109] fun v142 =>
  gVA v142 fun c143 =>
  (c143[0]?).bind fun x144 =>
  gI .i64 x144 fun i145 =>
  (c143[1]?).bind fun x146 =>
  gI .i64 x146 fun i147 =>
  if c143.length = 2 then
  hchk (((((((D 0).new 0 [.int .i64 0, .int .i64 0, .sl none 0]).put 0 (.rw 0 [.int .i64 i116, .int .i64 i118, .fs z120])).new 0 [.int .i64 0, .sl none 0]).put 1 (.rw 0 [.int .i64 i133, .fs z135])).new 0 [.int .i64 0, .sl none 0]).put 2 (.rw 0 [.int .i64 i139, .fs z141])) (((((((D 0).new 0 [.int .i64 0, .int .i64 0, .sl none 0]).put 0 (.rw 0 [.int .i64 i116, .int .i64 i118, .fs z120])).new 0 [.int .i64 0, .sl none 0]).put 1 (.rw 0 [.int .i64 i133, .fs z135])).new 0 [.int .i64 0, .sl none 0]).put 2 (.rw 0 [.int .i64 i139, .fs z141])) (
  pcallS (call Ev) Fn.impl_FreeIn [lv z120] fun v148 =>
  gVA v148 fun c149 =>
  (c149[0]?).bind fun x150 =>
  gI .i64 x150 fun i151 =>
  (c149[1]?).bind fun x152 =>
  gI .i64 x152 fun i153 =>
  if c149.length = 2 then
  hchk (((((((D 0).new 0 [.int .i64 0, .int .i64 0, .sl none 0]).put 0 (.rw 0 [.int .i64 i116, .int .i64 i118, .fs z120])).new 0 [.int .i64 0, .sl none 0]).put 1 (.rw 0 [.int .i64 i133, .fs z135])).new 0 [.int .i64 0, .sl none 0]).put 2 (.rw 0 [.int .i64 i139, .fs z141])) (((((((D 0).new 0 [.int .i64 0, .int .i64 0, .sl none 0]).put 0 (.rw 0 [.int .i64 i116, .int .i64 i118, .fs z120])).new 0 [.int .i64 0, .sl none 0]).put 1 (.rw 0 [.int .i64 i133, .fs z135])).new 0 [.int .i64 0, .sl none 0]).put 2 (.rw 0 [.int .i64 i139, .fs z141])) (
  vcase (bv (i133 == 0))
  (pcallS (call Ev) Fn.laws_lwSame [lv z135, lv z112] fun v155 =>
  gV1 v155 fun x156 =>
  gB x156 fun q157 =>
  hchk (((((((D 0).new 0 [.int .i64 0, .int .i64 0, .sl none 0]).put 0 (.rw 0 [.int .i64 i116, .int .i64 i118, .fs z120])).new 0 [.int .i64 0, .sl none 0]).put 1 (.rw 0 [.int .i64 i133, .fs z135])).new 0 [.int .i64 0, .sl none 0]).put 2 (.rw 0 [.int .i64 i139, .fs z141])) (((((((D 0).new 0 [.int .i64 0, .int .i64 0, .sl none 0]).put 0 (.rw 0 [.int .i64 i116, .int .i64 i118, .fs z120])).new 0 [.int .i64 0, .sl none 0]).put 1 (.rw 0 [.int .i64 i133, .fs z135])).new 0 [.int .i64 0, .sl none 0]).put 2 (.rw 0 [.int .i64 i139, .fs z141])) (
  Jn.laws_FnPuts_4 true (pv 1 1) (lv z135) (lv z112) (bv q157) q157 i139 z109 z120 i118 i116 i133 z135 z141 i147 i153 z112))
  (hchk (((((((D 0).new 0 [.int .i64 0, .int .i64 0, .sl none 0]).put 0 (.rw 0 [.int .i64 i116, .int .i64 i118, .fs z120])).new 0 [.int .i64 0, .sl none 0]).put 1 (.rw 0 [.int .i64 i133, .fs z135])).new 0 [.int .i64 0, .sl none 0]).put 2 (.rw 0 [.int .i64 i139, .fs z141])) (((((((D 0).new 0 [.int .i64 0, .int .i64 0, .sl none 0]).put 0 (.rw 0 [.int .i64 i116, .int .i64 i118, .fs z120])).new 0 [.int .i64 0, .sl none 0]).put 1 (.rw 0 [.int .i64 i133, .fs z135])).new 0 [.int .i64 0, .sl none 0]).put 2 (.rw 0 [.int .i64 i139, .fs z141])) (
  Jn.laws_FnPuts_4 false (.tup []) (.tup []) (.tup []) (.tup []) false i139 z109 z120 i118 i116 i133 z135 z141 i147 i153 z112)))
  else none)
  else none
  else none
  else none)
  else none
  else none) := by
  rw [pure_eq]; kernel_rfl

theorem pu_spec_DrawCompactPage (a0 : List (List S)) : pureV (call Ev) Fn.spec_DrawCompactPage [lv a0] =
  pcallF (call Ev) Fn.spec_l1Source true [lv a0] (D 0) fun v101 h102 =>
  (call Ev Fn.spec_l2Bent [v101] h102).bind fun p103 =>
  frzV (tidy h102 [p103.1] p103.2) p103.1 := by
  rw [pure_eq]; kernel_rfl

theorem pu_spec_DrawNewPage (a0 : List (List S)) : pureV (call Ev) Fn.spec_DrawNewPage [lv a0] =
  pcallF (call Ev) Fn.spec_l1Source true [lv a0] (D 0) fun v101 h102 =>
  (call Ev Fn.spec_l1Pick [v101, sv h102.n 0 3] (h102.new 1 [.int .i64 0, .int .i64 7, .int .i64 255])).bind fun p103 =>
  gV1 p103.1 fun x104 =>
  gI .i64 x104 fun i105 =>
  some (iv .u8 (IntKind.u8.wrap i105)) := by
  rw [pure_eq]; kernel_rfl

theorem pu_impl_newPage (a0 : Int) : pureV (call Ev) Fn.impl_newPage [iv .u8 a0] =
  (mkSl 1 [.int .u8 0] (D 0) (iv .i64 64) (iv .i64 64)).bind fun p101 =>
  (lenV (.sl 5) p101.1).bind fun v102 =>
  gV1 v102 fun x103 =>
  gI .i64 x103 fun i104 =>
  (Lp.impl_newPage 0 [iv .u8 a0, p101.1, iv .i64 i104, iv .i64 0] p101.2).bind fun o105 => lcase o105 (fun l106 h107 =>
  (l106[0]?).bind fun w110 =>
  idxK 1 w110 (iv .i64 0) fun v111 =>
  stK 1 h107 v111 (iv .u8 0) fun h112 =>
  idxK 1 w110 (iv .i64 1) fun v113 =>
  stK 1 h112 v113 (iv .u8 64) fun h114 =>
  frzV h114 w110) (fun v108 h109 =>
  frzV h109 v108) := by
  rw [pure_eq]; kernel_rfl

theorem eq_impl_newPage_l0 (s0 : Int) (s3 : V) (s7 : Int) (s8 : Int) (h : H) : Lp.impl_newPage 0 [iv .u8 s0, s3, iv .i64 s7, iv .i64 s8] h =
  vcase (bv (decide (s8 < s7)))
  (idxK 1 s3 (iv .i64 s8) fun v203 =>
  stK 1 h v203 (iv .u8 s0) fun h204 =>
  Lp.impl_newPage 0 [iv .u8 s0, s3, iv .i64 s7, iv .i64 (IntKind.i64.wrap (s8 + 1))] (tidy h [iv .u8 s0, s3, iv .i64 s7, iv .i64 (IntKind.i64.wrap (s8 + 1))] h204))
  (some (.done [s3] (tidy h [s3] h))) := by
  unfold Lp.impl_newPage; rw [loop_eq]; kernel_rfl

theorem pu_impl_NewPage (a0 : Int) : pureV (call Ev) Fn.impl_NewPage [iv .u8 a0] =
  (pureV (call Ev) Fn.impl_newPage [iv .u8 a0]).bind fun v101 =>
  gV1 v101 fun x102 =>
  gF x102 fun z103 =>
  some (.agg [.int .i64 0, .int .i64 0, .fs z103]) := by
  rw [pure_eq]; kernel_rfl

noncomputable def Jn.laws_FnCompacts_0 (q594 : Bool) (w595 : V) (w596 : V) (w597 : V) (w598 : V) (w599 : V) (w600 : V) (w601 : V) (q602 : Bool) (h535 : H) (h523 : H) : Option (V) :=
  hchk h535 h535 (
  vcase (bv q602)
  (hchk h535 h535 (
  (load1 h535 (pv h523.n 2)).bind fun x604 =>
  hchk h535 h535 (
  (frzVs h535 [.s x604]).bind fun l605 =>
  pcallS (call Ev) Fn.impl_PageFault (normVs [] l605) fun v606 =>
  gV1 v606 fun x607 =>
  gI .i64 x607 fun i608 =>
  hchk h535 h535 (
  hchk h535 h535 (
  hchk h535 h535 (
  hchk h535 h535 (
  vcase (bv (i608 == 0))
  (hchk h535 h535 (
  (load1 h535 (pv h523.n 2)).bind fun x612 =>
  hchk h535 h535 (
  (frzVs h535 [.s x612]).bind fun l613 =>
  pcallS (call Ev) Fn.impl_FreeIn (normVs [] l613) fun v614 =>
  gVA v614 fun c615 =>
  (c615[0]?).bind fun x616 =>
  gI .i64 x616 fun i617 =>
  (c615[1]?).bind fun x618 =>
  gI .i64 x618 fun i619 =>
  if c615.length = 2 then
  hchk h535 h535 (
  hchk h535 h535 (
  hchk h535 h535 (
  hchk h535 h535 (
  hchk h535 h535 (
  some (bv (i619 == 62)))))))
  else none)))
  (hchk h535 h535 (
  hchk h535 h535 (
  hchk h535 h535 (
  hchk h535 h535 (
  hchk h535 h535 (
  hchk h535 h535 (
  hchk h535 h535 (
  some (bv false))))))))))))))))
  (hchk h535 h535 (
  hchk h535 h535 (
  hchk h535 h535 (
  hchk h535 h535 (
  hchk h535 h535 (
  hchk h535 h535 (
  hchk h535 h535 (
  hchk h535 h535 (
  hchk h535 h535 (
  hchk h535 h535 (
  hchk h535 h535 (
  hchk h535 h535 (
  hchk h535 h535 (
  some (bv false))))))))))))))))

noncomputable def Jn.laws_FnCompacts_1 (q570 : Bool) (w571 : V) (w572 : V) (w573 : V) (w574 : V) (q575 : Bool) (h535 : H) (h523 : H) : Option (V) :=
  vcase (bv q575)
  ((load1 h535 (pv 0 2)).bind fun x577 =>
  (load1 h535 (pv 0 2)).bind fun x578 =>
  bif ([.s x577].all offV) then
  (frzVs h535 [.s x577]).bind fun l579 =>
  (pureV (call Ev) Fn.impl_CompactPage (normVs [] l579)).bind fun v580 =>
  gVA v580 fun c581 =>
  (c581[0]?).bind fun x582 =>
  gI .i64 x582 fun i583 =>
  (c581[1]?).bind fun x584 =>
  gI .i64 x584 fun i585 =>
  (c581[2]?).bind fun x586 =>
  gF x586 fun z587 =>
  if c581.length = 3 then
  hchk h535 h535 (
  hchk h535 h535 (
  (frzVs h535 [lv z587, .s x578]).bind fun l588 =>
  pcallS (call Ev) Fn.laws_lwSame (normVs [] l588) fun v589 =>
  gV1 v589 fun x590 =>
  gB x590 fun q591 =>
  hchk h535 h535 (
  hchk h535 h535 (
  Jn.laws_FnCompacts_0 true (pv 0 2) (.s x577) (pv 0 2) (.s x578) (.agg [.int .i64 i583, .int .i64 i585, .fs z587]) (lv z587) (bv q591) q591 h535 h523))))
  else none
  else none)
  (hchk h535 h535 (
  hchk h535 h535 (
  hchk h535 h535 (
  hchk h535 h535 (
  Jn.laws_FnCompacts_0 false (.tup []) (.tup []) (.tup []) (.tup []) (.tup []) (.tup []) (.tup []) false h535 h523)))))

noncomputable def Jn.laws_FnCompacts_2 (q546 : Bool) (w547 : V) (w548 : V) (w549 : V) (q550 : Bool) (h535 : H) (z107 : List (List S)) (h523 : H) : Option (V) :=
  vcase (bv q550)
  ((load1 h535 (pv 1 1)).bind fun x552 =>
  gI .i64 x552 fun i553 =>
  pcallS (call Ev) Fn.impl_FreeIn [lv z107] fun v554 =>
  gVA v554 fun c555 =>
  (c555[0]?).bind fun x556 =>
  gI .i64 x556 fun i557 =>
  (c555[1]?).bind fun x558 =>
  gI .i64 x558 fun i559 =>
  if c555.length = 2 then
  hchk h535 h535 (
  vcase (bv (i553 == i559))
  ((load1 h535 (pv 0 2)).bind fun x563 =>
  (frzVs h535 [.s x563]).bind fun l564 =>
  pcallS (call Ev) Fn.impl_PageFault (normVs [] l564) fun v565 =>
  gV1 v565 fun x566 =>
  gI .i64 x566 fun i567 =>
  hchk h535 h535 (
  Jn.laws_FnCompacts_1 true (pv 0 2) (.s x563) (iv .i64 i567) (bv (i567 == 0)) (i567 == 0) h535 h523))
  (hchk h535 h535 (
  Jn.laws_FnCompacts_1 false (.tup []) (.tup []) (.tup []) (.tup []) false h535 h523)))
  else none)
  (hchk h535 h535 (
  hchk h535 h535 (
  hchk h535 h535 (
  hchk h535 h535 (
  hchk h535 h535 (
  hchk h535 h535 (
  hchk h535 h535 (
  hchk h535 h535 (
  hchk h535 h535 (
  hchk h535 h535 (
  hchk h535 h535 (
  hchk h535 h535 (
  hchk h535 h535 (
  hchk h535 h535 (
  hchk h535 h535 (
  hchk h535 h535 (
  hchk h535 h535 (
  hchk h535 h535 (
  hchk h535 h535 (
  hchk h535 h535 (
  some (bv false))))))))))))))))))))))

noncomputable def Jn.laws_FnCompacts_3 (h523 : H) (a0 : List (List S)) (z107 : List (List S)) : Option (V) :=
  pcallS (call Ev) Fn.spec_DrawNewPage [lv a0] fun v524 =>
  gV1 v524 fun x525 =>
  gI .u8 x525 fun i526 =>
  (pureV (call Ev) Fn.impl_NewPage [iv .u8 i526]).bind fun v527 =>
  gVA v527 fun c528 =>
  (c528[0]?).bind fun x529 =>
  gI .i64 x529 fun i530 =>
  (c528[1]?).bind fun x531 =>
  gI .i64 x531 fun i532 =>
  (c528[2]?).bind fun x533 =>
  gF x533 fun z534 =>
  if c528.length = 3 then
  stK 3 (h523.new 0 [.int .i64 0, .int .i64 0, .sl none 0]) (pv h523.n 0) (.agg [.int .i64 i530, .int .i64 i532, .fs z534]) fun h535 =>
  (load1 h535 (pv 0 2)).bind fun x536 =>
  (frzVs h535 [lv z107, .s x536, iv .i64 (-1)]).bind fun l537 =>
  pcallS (call Ev) Fn.laws_lwOthers (normVs [] l537) fun v538 =>
  gV1 v538 fun x539 =>
  gB x539 fun q540 =>
  hchk h535 h535 (
  vcase (bv q540)
  ((load1 h535 (pv 1 0)).bind fun x542 =>
  gI .i64 x542 fun i543 =>
  Jn.laws_FnCompacts_2 true (pv 1 0) (iv .i64 i543) (bv (i543 == 0)) (i543 == 0) h535 z107 h523)
  (Jn.laws_FnCompacts_2 false (.tup []) (.tup []) (.tup []) false h535 z107 h523))
  else none

noncomputable def Jn.laws_FnCompacts_4 (q510 : Bool) (i111 : Int) (i113 : Int) (z115 : List (List S)) (i138 : Int) (i140 : Int) (a0 : List (List S)) (z107 : List (List S)) : Option (V) :=
  vcase (bv q510)
  ((mkSl 1 [.int .u8 0] (((((D 0).new 0 [.int .i64 0, .int .i64 0, .sl none 0]).put 0 (.rw 0 [.int .i64 i111, .int .i64 i113, .fs z115])).new 0 [.int .i64 0, .int .i64 0]).put 1 (.rw 0 [.int .i64 i138, .int .i64 i140])) (iv .i64 20) (iv .i64 20)).bind fun p512 =>
  hchk (((((D 0).new 0 [.int .i64 0, .int .i64 0, .sl none 0]).put 0 (.rw 0 [.int .i64 i111, .int .i64 i113, .fs z115])).new 0 [.int .i64 0, .int .i64 0]).put 1 (.rw 0 [.int .i64 i138, .int .i64 i140])) p512.2 (
  bif scaV p512.1 then
  (frzVs p512.2 [lv z115, p512.1]).bind fun l513 =>
  pcallF (call Ev) Fn.impl_PutSlot ([lv z115, p512.1].all offV) (normVs [] l513) p512.2 fun v514 h515 =>
  gVA v514 fun c516 =>
  (c516[0]?).bind fun x517 =>
  gI .i64 x517 fun i518 =>
  (c516[1]?).bind fun x519 =>
  gI .i64 x519 fun i520 =>
  (c516[2]?).bind fun x521 =>
  if c516.length = 3 then
  hchk (((((D 0).new 0 [.int .i64 0, .int .i64 0, .sl none 0]).put 0 (.rw 0 [.int .i64 i111, .int .i64 i113, .fs z115])).new 0 [.int .i64 0, .int .i64 0]).put 1 (.rw 0 [.int .i64 i138, .int .i64 i140])) h515 (
  bif scaV (.agg [.int .i64 i518, .int .i64 i520, x521]) then
  vcase (bv (i518 != 0))
  (some (bv false))
  (Jn.laws_FnCompacts_3 h515 a0 z107)
  else none)
  else none
  else none))
  (Jn.laws_FnCompacts_3 (((((D 0).new 0 [.int .i64 0, .int .i64 0, .sl none 0]).put 0 (.rw 0 [.int .i64 i111, .int .i64 i113, .fs z115])).new 0 [.int .i64 0, .int .i64 0]).put 1 (.rw 0 [.int .i64 i138, .int .i64 i140])) a0 z107)

noncomputable def Jn.laws_FnCompacts_5 (q633 : Bool) (i111 : Int) (i113 : Int) (z115 : List (List S)) (i138 : Int) (i140 : Int) (a0 : List (List S)) (z107 : List (List S)) : Option (V) :=
  vcase (bv q633)
  ((mkSl 1 [.int .u8 0] (((((D 0).new 0 [.int .i64 0, .int .i64 0, .sl none 0]).put 0 (.rw 0 [.int .i64 i111, .int .i64 i113, .fs z115])).new 0 [.int .i64 0, .int .i64 0]).put 1 (.rw 0 [.int .i64 i138, .int .i64 i140])) (iv .i64 (IntKind.i64.wrap (i140 - 2))) (iv .i64 (IntKind.i64.wrap (i140 - 2)))).bind fun p635 =>
  hchk (((((D 0).new 0 [.int .i64 0, .int .i64 0, .sl none 0]).put 0 (.rw 0 [.int .i64 i111, .int .i64 i113, .fs z115])).new 0 [.int .i64 0, .int .i64 0]).put 1 (.rw 0 [.int .i64 i138, .int .i64 i140])) p635.2 (
  bif scaV p635.1 then
  (frzVs p635.2 [lv z115, p635.1]).bind fun l636 =>
  pcallF (call Ev) Fn.impl_PutSlot ([lv z115, p635.1].all offV) (normVs [] l636) p635.2 fun v637 h638 =>
  gVA v637 fun c639 =>
  (c639[0]?).bind fun x640 =>
  gI .i64 x640 fun i641 =>
  (c639[1]?).bind fun x642 =>
  gI .i64 x642 fun i643 =>
  (c639[2]?).bind fun x644 =>
  if c639.length = 3 then
  hchk (((((D 0).new 0 [.int .i64 0, .int .i64 0, .sl none 0]).put 0 (.rw 0 [.int .i64 i111, .int .i64 i113, .fs z115])).new 0 [.int .i64 0, .int .i64 0]).put 1 (.rw 0 [.int .i64 i138, .int .i64 i140])) h638 (
  bif scaV (.agg [.int .i64 i641, .int .i64 i643, x644]) then
  vcase (bv (i641 != 0))
  (some (bv false))
  (Jn.laws_FnCompacts_3 h638 a0 z107)
  else none)
  else none
  else none))
  (Jn.laws_FnCompacts_3 (((((D 0).new 0 [.int .i64 0, .int .i64 0, .sl none 0]).put 0 (.rw 0 [.int .i64 i111, .int .i64 i113, .fs z115])).new 0 [.int .i64 0, .int .i64 0]).put 1 (.rw 0 [.int .i64 i138, .int .i64 i140])) a0 z107)

theorem pu_laws_FnCompacts (a0 : List (List S)) : pureV (call Ev) Fn.laws_FnCompacts [lv a0] =
  pcallS (call Ev) Fn.laws_lwBig [lv a0] fun v101 =>
  gV1 v101 fun x102 =>
  gB x102 fun q103 =>
  vcase (bv q103)
  (some (bv true))
  ((pureV (call Ev) Fn.spec_DrawCompactPage [lv a0]).bind fun v105 =>
  gV1 v105 fun x106 =>
  gF x106 fun z107 =>
  (pureV (call Ev) Fn.impl_CompactPage [lv z107]).bind fun v108 =>
  gVA v108 fun c109 =>
  (c109[0]?).bind fun x110 =>
  gI .i64 x110 fun i111 =>
  (c109[1]?).bind fun x112 =>
  gI .i64 x112 fun i113 =>
  (c109[2]?).bind fun x114 =>
  gF x114 fun z115 =>
  if c109.length = 3 then
  vcase (bv (i111 != 0))
  ((pureV (call Ev) Fn.spec_CompactPage [lv z107]).bind fun v117 =>
  gVA v117 fun c118 =>
  (c118[0]?).bind fun x119 =>
  gI .i64 x119 fun i120 =>
  (c118[1]?).bind fun x121 =>
  gI .i64 x121 fun i122 =>
  (c118[2]?).bind fun x123 =>
  gF x123 fun z124 =>
  if c118.length = 3 then
  hchk (((D 0).new 0 [.int .i64 0, .int .i64 0, .sl none 0]).put 0 (.rw 0 [.int .i64 i111, .int .i64 i113, .fs z115])) (((D 0).new 0 [.int .i64 0, .int .i64 0, .sl none 0]).put 0 (.rw 0 [.int .i64 i111, .int .i64 i113, .fs z115])) (
  vcase (bv (i120 == i111))
  (pcallS (call Ev) Fn.impl_FreeIn [lv z107] fun v126 =>
  gVA v126 fun c127 =>
  (c127[0]?).bind fun x128 =>
  gI .i64 x128 fun i129 =>
  (c127[1]?).bind fun x130 =>
  gI .i64 x130 fun i131 =>
  if c127.length = 2 then
  hchk (((D 0).new 0 [.int .i64 0, .int .i64 0, .sl none 0]).put 0 (.rw 0 [.int .i64 i111, .int .i64 i113, .fs z115])) (((D 0).new 0 [.int .i64 0, .int .i64 0, .sl none 0]).put 0 (.rw 0 [.int .i64 i111, .int .i64 i113, .fs z115])) (
  some (bv (i129 == i111)))
  else none)
  (hchk (((D 0).new 0 [.int .i64 0, .int .i64 0, .sl none 0]).put 0 (.rw 0 [.int .i64 i111, .int .i64 i113, .fs z115])) (((D 0).new 0 [.int .i64 0, .int .i64 0, .sl none 0]).put 0 (.rw 0 [.int .i64 i111, .int .i64 i113, .fs z115])) (
  some (bv false))))
  else none)
  (vcase (bv ((z115.length : Int) != 64))
  (some (bv false))
  (pcallS (call Ev) Fn.impl_FreeIn [lv z115] fun v135 =>
  gVA v135 fun c136 =>
  (c136[0]?).bind fun x137 =>
  gI .i64 x137 fun i138 =>
  (c136[1]?).bind fun x139 =>
  gI .i64 x139 fun i140 =>
  if c136.length = 2 then
  vcase (bv (decide ((IntKind.i64.wrap (i140 - 2)) > 20)))
  (vcase (bv (decide (20 ≥ 1)))
  (idxF 1 z115 0 fun r143 =>
  (r143[0]?).bind fun x144 =>
  gI .u8 x144 fun i145 =>
  Jn.laws_FnCompacts_4 (decide (i145 < 16)) i111 i113 z115 i138 i140 a0 z107)
  (Jn.laws_FnCompacts_4 false i111 i113 z115 i138 i140 a0 z107))
  (vcase (bv (decide ((IntKind.i64.wrap (i140 - 2)) ≥ 1)))
  (idxF 1 z115 0 fun r628 =>
  (r628[0]?).bind fun x629 =>
  gI .u8 x629 fun i630 =>
  Jn.laws_FnCompacts_5 (decide (i630 < 16)) i111 i113 z115 i138 i140 a0 z107)
  (Jn.laws_FnCompacts_5 false i111 i113 z115 i138 i140 a0 z107))
  else none))
  else none) := by
  rw [pure_eq]; kernel_rfl

theorem pu_spec_l2With (a0 : List (List S)) : pureV (call Ev) Fn.spec_l2With [lv a0] =
  pcallF (call Ev) Fn.spec_l1Source true [lv a0] (D 0) fun v101 h102 =>
  (call Ev Fn.spec_l2Bent [v101] h102).bind fun p103 =>
  (call Ev Fn.spec_l1Next [v101, iv .i64 6] (tidy h102 [p103.1] p103.2)).bind fun p104 =>
  gV1 p104.1 fun x105 =>
  gI .i64 x105 fun i106 =>
  (call Ev Fn.spec_l1Next [v101, iv .i64 6] (tidy (tidy h102 [p103.1] p103.2) [p104.1] p104.2)).bind fun p107 =>
  gV1 p107.1 fun x108 =>
  gI .i64 x108 fun i109 =>
  (call Ev Fn.spec_l1Pick [v101, sv ((tidy (tidy (tidy h102 [p103.1] p103.2) [p104.1] p104.2) [p107.1] p107.2).n) 0 5] ((tidy (tidy (tidy h102 [p103.1] p103.2) [p104.1] p104.2) [p107.1] p107.2).new 1 [.int .i64 i106, .int .i64 i109, .int .i64 0, .int .i64 16, .int .i64 (-1)])).bind fun p110 =>
  gV1 p110.1 fun x111 =>
  gI .i64 x111 fun i112 =>
  (V.toA p103.1).bind fun t113 =>
  frzV (tidy ((tidy (tidy (tidy h102 [p103.1] p103.2) [p104.1] p104.2) [p107.1] p107.2).new 1 [.int .i64 i106, .int .i64 i109, .int .i64 0, .int .i64 16, .int .i64 (-1)]) [p110.1] p110.2) (.tup [t113, .s (.int .i64 i112)]) := by
  rw [pure_eq]; kernel_rfl

theorem eq_spec_l1Later (a0 : List (List S)) (a1 : Int) (n : Nat) : call Ev Fn.spec_l1Later [lv a0, iv .i64 a1] (D n) =
  some (pv ((D n).n) 0, (D n).new 0 [.fs a0, .int .i64 (IntKind.i64.wrap (5 + (IntKind.i64.wrap (7 * a1))))]) := by
  rw [call_eq]; kernel_rfl

theorem pu_spec_DrawSetSlot (a0 : List (List S)) : pureV (call Ev) Fn.spec_DrawSetSlot [lv a0] =
  (pureV (call Ev) Fn.spec_l2With [lv a0]).bind fun v101 =>
  gVT v101 fun u102 =>
  (u102[0]?).bind fun t103 =>
  gA1 t103 fun x104 =>
  gF x104 fun z105 =>
  (u102[1]?).bind fun t106 =>
  gA1 t106 fun x107 =>
  gI .i64 x107 fun i108 =>
  if u102.length = 2 then
  pcallF (call Ev) Fn.spec_l1Later true [lv a0, iv .i64 2] (D 0) fun v109 h110 =>
  (call Ev Fn.spec_l2DrawCell [v109] h110).bind fun p111 =>
  (V.toA p111.1).bind fun t112 =>
  frzV (tidy h110 [p111.1] p111.2) (.tup [.s (.fs z105), .s (.int .i64 i108), t112])
  else none := by
  rw [pure_eq]; kernel_rfl

theorem pu_spec_DrawDropSlot (a0 : List (List S)) : pureV (call Ev) Fn.spec_DrawDropSlot [lv a0] =
  (pureV (call Ev) Fn.spec_l2With [lv a0]).bind fun v101 =>
  gVT v101 fun u102 =>
  (u102[0]?).bind fun t103 =>
  gA1 t103 fun x104 =>
  gF x104 fun z105 =>
  (u102[1]?).bind fun t106 =>
  gA1 t106 fun x107 =>
  gI .i64 x107 fun i108 =>
  if u102.length = 2 then
  some (.tup [.s (.fs z105), .s (.int .i64 i108)])
  else none := by
  rw [pure_eq]; kernel_rfl

end Vm
