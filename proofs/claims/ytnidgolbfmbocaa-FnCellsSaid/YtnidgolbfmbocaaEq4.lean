/-
  What each function, and each round of each loop, comes to in the small machine. Written by a program (gen3.py).
-/
import Derived.Test.YtnidgolbfmbocaaEnv
set_option linter.unusedVariables false
set_option maxRecDepth 100000
namespace Vm
open Go

noncomputable def Jn.laws_FnSets_0 (q480 : Bool) (w481 : V) (w482 : V) (w483 : V) (w484 : V) (q485 : Bool) (z109 : List (List S)) (i112 : Int) (z115 : List (List S)) (i119 : Int) (i121 : Int) (z123 : List (List S)) (i135 : Int) (i137 : Int) (z139 : List (List S)) (i437 : Int) (z439 : List (List S)) : Option (V) :=
  vcase (bv q485)
  ((pureV (call Ev) Fn.spec_SetSlot [lv z109, iv .i64 i112, lv z115]).bind fun v487 =>
  gVA v487 fun c488 =>
  (c488[0]?).bind fun x489 =>
  gI .i64 x489 fun i490 =>
  (c488[1]?).bind fun x491 =>
  gI .i64 x491 fun i492 =>
  (c488[2]?).bind fun x493 =>
  gF x493 fun z494 =>
  if c488.length = 3 then
  hchk (((((((D 0).new 0 [.int .i64 0, .int .i64 0, .sl none 0]).put 0 (.rw 0 [.int .i64 i119, .int .i64 i121, .fs z123])).new 0 [.int .i64 0, .int .i64 0, .sl none 0]).put 1 (.rw 0 [.int .i64 i135, .int .i64 i137, .fs z139])).new 0 [.int .i64 0, .sl none 0]).put 2 (.rw 0 [.int .i64 i437, .fs z439])) (((((((D 0).new 0 [.int .i64 0, .int .i64 0, .sl none 0]).put 0 (.rw 0 [.int .i64 i119, .int .i64 i121, .fs z123])).new 0 [.int .i64 0, .int .i64 0, .sl none 0]).put 1 (.rw 0 [.int .i64 i135, .int .i64 i137, .fs z139])).new 0 [.int .i64 0, .sl none 0]).put 2 (.rw 0 [.int .i64 i437, .fs z439])) (
  hchk (((((((D 0).new 0 [.int .i64 0, .int .i64 0, .sl none 0]).put 0 (.rw 0 [.int .i64 i119, .int .i64 i121, .fs z123])).new 0 [.int .i64 0, .int .i64 0, .sl none 0]).put 1 (.rw 0 [.int .i64 i135, .int .i64 i137, .fs z139])).new 0 [.int .i64 0, .sl none 0]).put 2 (.rw 0 [.int .i64 i437, .fs z439])) (((((((D 0).new 0 [.int .i64 0, .int .i64 0, .sl none 0]).put 0 (.rw 0 [.int .i64 i119, .int .i64 i121, .fs z123])).new 0 [.int .i64 0, .int .i64 0, .sl none 0]).put 1 (.rw 0 [.int .i64 i135, .int .i64 i137, .fs z139])).new 0 [.int .i64 0, .sl none 0]).put 2 (.rw 0 [.int .i64 i437, .fs z439])) (
  pcallS (call Ev) Fn.laws_lwSame [lv z123, lv z494] fun v495 =>
  gV1 v495 fun x496 =>
  gB x496 fun q497 =>
  hchk (((((((D 0).new 0 [.int .i64 0, .int .i64 0, .sl none 0]).put 0 (.rw 0 [.int .i64 i119, .int .i64 i121, .fs z123])).new 0 [.int .i64 0, .int .i64 0, .sl none 0]).put 1 (.rw 0 [.int .i64 i135, .int .i64 i137, .fs z139])).new 0 [.int .i64 0, .sl none 0]).put 2 (.rw 0 [.int .i64 i437, .fs z439])) (((((((D 0).new 0 [.int .i64 0, .int .i64 0, .sl none 0]).put 0 (.rw 0 [.int .i64 i119, .int .i64 i121, .fs z123])).new 0 [.int .i64 0, .int .i64 0, .sl none 0]).put 1 (.rw 0 [.int .i64 i135, .int .i64 i137, .fs z139])).new 0 [.int .i64 0, .sl none 0]).put 2 (.rw 0 [.int .i64 i437, .fs z439])) (
  hchk (((((((D 0).new 0 [.int .i64 0, .int .i64 0, .sl none 0]).put 0 (.rw 0 [.int .i64 i119, .int .i64 i121, .fs z123])).new 0 [.int .i64 0, .int .i64 0, .sl none 0]).put 1 (.rw 0 [.int .i64 i135, .int .i64 i137, .fs z139])).new 0 [.int .i64 0, .sl none 0]).put 2 (.rw 0 [.int .i64 i437, .fs z439])) (((((((D 0).new 0 [.int .i64 0, .int .i64 0, .sl none 0]).put 0 (.rw 0 [.int .i64 i119, .int .i64 i121, .fs z123])).new 0 [.int .i64 0, .int .i64 0, .sl none 0]).put 1 (.rw 0 [.int .i64 i135, .int .i64 i137, .fs z139])).new 0 [.int .i64 0, .sl none 0]).put 2 (.rw 0 [.int .i64 i437, .fs z439])) (
  hchk (((((((D 0).new 0 [.int .i64 0, .int .i64 0, .sl none 0]).put 0 (.rw 0 [.int .i64 i119, .int .i64 i121, .fs z123])).new 0 [.int .i64 0, .int .i64 0, .sl none 0]).put 1 (.rw 0 [.int .i64 i135, .int .i64 i137, .fs z139])).new 0 [.int .i64 0, .sl none 0]).put 2 (.rw 0 [.int .i64 i437, .fs z439])) (((((((D 0).new 0 [.int .i64 0, .int .i64 0, .sl none 0]).put 0 (.rw 0 [.int .i64 i119, .int .i64 i121, .fs z123])).new 0 [.int .i64 0, .int .i64 0, .sl none 0]).put 1 (.rw 0 [.int .i64 i135, .int .i64 i137, .fs z139])).new 0 [.int .i64 0, .sl none 0]).put 2 (.rw 0 [.int .i64 i437, .fs z439])) (
  some (bv q497))))))
  else none)
  (hchk (((((((D 0).new 0 [.int .i64 0, .int .i64 0, .sl none 0]).put 0 (.rw 0 [.int .i64 i119, .int .i64 i121, .fs z123])).new 0 [.int .i64 0, .int .i64 0, .sl none 0]).put 1 (.rw 0 [.int .i64 i135, .int .i64 i137, .fs z139])).new 0 [.int .i64 0, .sl none 0]).put 2 (.rw 0 [.int .i64 i437, .fs z439])) (((((((D 0).new 0 [.int .i64 0, .int .i64 0, .sl none 0]).put 0 (.rw 0 [.int .i64 i119, .int .i64 i121, .fs z123])).new 0 [.int .i64 0, .int .i64 0, .sl none 0]).put 1 (.rw 0 [.int .i64 i135, .int .i64 i137, .fs z139])).new 0 [.int .i64 0, .sl none 0]).put 2 (.rw 0 [.int .i64 i437, .fs z439])) (
  hchk (((((((D 0).new 0 [.int .i64 0, .int .i64 0, .sl none 0]).put 0 (.rw 0 [.int .i64 i119, .int .i64 i121, .fs z123])).new 0 [.int .i64 0, .int .i64 0, .sl none 0]).put 1 (.rw 0 [.int .i64 i135, .int .i64 i137, .fs z139])).new 0 [.int .i64 0, .sl none 0]).put 2 (.rw 0 [.int .i64 i437, .fs z439])) (((((((D 0).new 0 [.int .i64 0, .int .i64 0, .sl none 0]).put 0 (.rw 0 [.int .i64 i119, .int .i64 i121, .fs z123])).new 0 [.int .i64 0, .int .i64 0, .sl none 0]).put 1 (.rw 0 [.int .i64 i135, .int .i64 i137, .fs z139])).new 0 [.int .i64 0, .sl none 0]).put 2 (.rw 0 [.int .i64 i437, .fs z439])) (
  hchk (((((((D 0).new 0 [.int .i64 0, .int .i64 0, .sl none 0]).put 0 (.rw 0 [.int .i64 i119, .int .i64 i121, .fs z123])).new 0 [.int .i64 0, .int .i64 0, .sl none 0]).put 1 (.rw 0 [.int .i64 i135, .int .i64 i137, .fs z139])).new 0 [.int .i64 0, .sl none 0]).put 2 (.rw 0 [.int .i64 i437, .fs z439])) (((((((D 0).new 0 [.int .i64 0, .int .i64 0, .sl none 0]).put 0 (.rw 0 [.int .i64 i119, .int .i64 i121, .fs z123])).new 0 [.int .i64 0, .int .i64 0, .sl none 0]).put 1 (.rw 0 [.int .i64 i135, .int .i64 i137, .fs z139])).new 0 [.int .i64 0, .sl none 0]).put 2 (.rw 0 [.int .i64 i437, .fs z439])) (
  hchk (((((((D 0).new 0 [.int .i64 0, .int .i64 0, .sl none 0]).put 0 (.rw 0 [.int .i64 i119, .int .i64 i121, .fs z123])).new 0 [.int .i64 0, .int .i64 0, .sl none 0]).put 1 (.rw 0 [.int .i64 i135, .int .i64 i137, .fs z139])).new 0 [.int .i64 0, .sl none 0]).put 2 (.rw 0 [.int .i64 i437, .fs z439])) (((((((D 0).new 0 [.int .i64 0, .int .i64 0, .sl none 0]).put 0 (.rw 0 [.int .i64 i119, .int .i64 i121, .fs z123])).new 0 [.int .i64 0, .int .i64 0, .sl none 0]).put 1 (.rw 0 [.int .i64 i135, .int .i64 i137, .fs z139])).new 0 [.int .i64 0, .sl none 0]).put 2 (.rw 0 [.int .i64 i437, .fs z439])) (
  hchk (((((((D 0).new 0 [.int .i64 0, .int .i64 0, .sl none 0]).put 0 (.rw 0 [.int .i64 i119, .int .i64 i121, .fs z123])).new 0 [.int .i64 0, .int .i64 0, .sl none 0]).put 1 (.rw 0 [.int .i64 i135, .int .i64 i137, .fs z139])).new 0 [.int .i64 0, .sl none 0]).put 2 (.rw 0 [.int .i64 i437, .fs z439])) (((((((D 0).new 0 [.int .i64 0, .int .i64 0, .sl none 0]).put 0 (.rw 0 [.int .i64 i119, .int .i64 i121, .fs z123])).new 0 [.int .i64 0, .int .i64 0, .sl none 0]).put 1 (.rw 0 [.int .i64 i135, .int .i64 i137, .fs z139])).new 0 [.int .i64 0, .sl none 0]).put 2 (.rw 0 [.int .i64 i437, .fs z439])) (
  some (bv false)))))))

noncomputable def Jn.laws_FnSets_1 (q471 : Bool) (w472 : V) (w473 : V) (w474 : V) (w475 : V) (q476 : Bool) (i121 : Int) (i112 : Int) (z109 : List (List S)) (z115 : List (List S)) (i119 : Int) (z123 : List (List S)) (i135 : Int) (i137 : Int) (z139 : List (List S)) (i437 : Int) (z439 : List (List S)) : Option (V) :=
  vcase (bv q476)
  (Jn.laws_FnSets_0 true (pv 0 1) (iv .i64 i121) (iv .i64 i112) (bv (i121 == i112)) (i121 == i112) z109 i112 z115 i119 i121 z123 i135 i137 z139 i437 z439)
  (Jn.laws_FnSets_0 false (.tup []) (.tup []) (.tup []) (.tup []) false z109 i112 z115 i119 i121 z123 i135 i137 z139 i437 z439)

noncomputable def Jn.laws_FnSets_2 (q458 : Bool) (w459 : V) (w460 : V) (w461 : V) (w462 : V) (w463 : V) (q464 : Bool) (z123 : List (List S)) (i119 : Int) (i121 : Int) (i135 : Int) (i137 : Int) (z139 : List (List S)) (i437 : Int) (z439 : List (List S)) (i112 : Int) (z109 : List (List S)) (z115 : List (List S)) : Option (V) :=
  vcase (bv q464)
  (pcallS (call Ev) Fn.impl_PageFault [lv z123] fun v466 =>
  gV1 v466 fun x467 =>
  gI .i64 x467 fun i468 =>
  hchk (((((((D 0).new 0 [.int .i64 0, .int .i64 0, .sl none 0]).put 0 (.rw 0 [.int .i64 i119, .int .i64 i121, .fs z123])).new 0 [.int .i64 0, .int .i64 0, .sl none 0]).put 1 (.rw 0 [.int .i64 i135, .int .i64 i137, .fs z139])).new 0 [.int .i64 0, .sl none 0]).put 2 (.rw 0 [.int .i64 i437, .fs z439])) (((((((D 0).new 0 [.int .i64 0, .int .i64 0, .sl none 0]).put 0 (.rw 0 [.int .i64 i119, .int .i64 i121, .fs z123])).new 0 [.int .i64 0, .int .i64 0, .sl none 0]).put 1 (.rw 0 [.int .i64 i135, .int .i64 i137, .fs z139])).new 0 [.int .i64 0, .sl none 0]).put 2 (.rw 0 [.int .i64 i437, .fs z439])) (
  Jn.laws_FnSets_1 true (pv 0 2) (lv z123) (iv .i64 i468) (bv (i468 == 0)) (i468 == 0) i121 i112 z109 z115 i119 z123 i135 i137 z139 i437 z439))
  (hchk (((((((D 0).new 0 [.int .i64 0, .int .i64 0, .sl none 0]).put 0 (.rw 0 [.int .i64 i119, .int .i64 i121, .fs z123])).new 0 [.int .i64 0, .int .i64 0, .sl none 0]).put 1 (.rw 0 [.int .i64 i135, .int .i64 i137, .fs z139])).new 0 [.int .i64 0, .sl none 0]).put 2 (.rw 0 [.int .i64 i437, .fs z439])) (((((((D 0).new 0 [.int .i64 0, .int .i64 0, .sl none 0]).put 0 (.rw 0 [.int .i64 i119, .int .i64 i121, .fs z123])).new 0 [.int .i64 0, .int .i64 0, .sl none 0]).put 1 (.rw 0 [.int .i64 i135, .int .i64 i137, .fs z139])).new 0 [.int .i64 0, .sl none 0]).put 2 (.rw 0 [.int .i64 i437, .fs z439])) (
  Jn.laws_FnSets_1 false (.tup []) (.tup []) (.tup []) (.tup []) false i121 i112 z109 z115 i119 z123 i135 i137 z139 i437 z439))

noncomputable def Jn.laws_FnSets_3 (q446 : Bool) (w447 : V) (w448 : V) (w449 : V) (w450 : V) (q451 : Bool) (z109 : List (List S)) (z123 : List (List S)) (i112 : Int) (i119 : Int) (i121 : Int) (i135 : Int) (i137 : Int) (z139 : List (List S)) (i437 : Int) (z439 : List (List S)) (z115 : List (List S)) : Option (V) :=
  vcase (bv q451)
  (pcallS (call Ev) Fn.laws_lwOthers [lv z109, lv z123, iv .i64 i112] fun v453 =>
  gV1 v453 fun x454 =>
  gB x454 fun q455 =>
  hchk (((((((D 0).new 0 [.int .i64 0, .int .i64 0, .sl none 0]).put 0 (.rw 0 [.int .i64 i119, .int .i64 i121, .fs z123])).new 0 [.int .i64 0, .int .i64 0, .sl none 0]).put 1 (.rw 0 [.int .i64 i135, .int .i64 i137, .fs z139])).new 0 [.int .i64 0, .sl none 0]).put 2 (.rw 0 [.int .i64 i437, .fs z439])) (((((((D 0).new 0 [.int .i64 0, .int .i64 0, .sl none 0]).put 0 (.rw 0 [.int .i64 i119, .int .i64 i121, .fs z123])).new 0 [.int .i64 0, .int .i64 0, .sl none 0]).put 1 (.rw 0 [.int .i64 i135, .int .i64 i137, .fs z139])).new 0 [.int .i64 0, .sl none 0]).put 2 (.rw 0 [.int .i64 i437, .fs z439])) (
  Jn.laws_FnSets_2 true (lv z109) (pv 0 2) (lv z123) (iv .i64 i112) (bv q455) q455 z123 i119 i121 i135 i137 z139 i437 z439 i112 z109 z115))
  (hchk (((((((D 0).new 0 [.int .i64 0, .int .i64 0, .sl none 0]).put 0 (.rw 0 [.int .i64 i119, .int .i64 i121, .fs z123])).new 0 [.int .i64 0, .int .i64 0, .sl none 0]).put 1 (.rw 0 [.int .i64 i135, .int .i64 i137, .fs z139])).new 0 [.int .i64 0, .sl none 0]).put 2 (.rw 0 [.int .i64 i437, .fs z439])) (((((((D 0).new 0 [.int .i64 0, .int .i64 0, .sl none 0]).put 0 (.rw 0 [.int .i64 i119, .int .i64 i121, .fs z123])).new 0 [.int .i64 0, .int .i64 0, .sl none 0]).put 1 (.rw 0 [.int .i64 i135, .int .i64 i137, .fs z139])).new 0 [.int .i64 0, .sl none 0]).put 2 (.rw 0 [.int .i64 i437, .fs z439])) (
  Jn.laws_FnSets_2 false (.tup []) (.tup []) (.tup []) (.tup []) (.tup []) false z123 i119 i121 i135 i137 z139 i437 z439 i112 z109 z115))

noncomputable def Jn.laws_FnSets_4 (q397 : Bool) (w398 : V) (w399 : V) (w400 : V) (w401 : V) (w402 : V) (w403 : V) (w404 : V) (w405 : V) (w406 : V) (w407 : V) (w408 : V) (w409 : V) (w410 : V) (w411 : V) (w412 : V) (w413 : V) (w414 : V) (w415 : V) (w416 : V) (w417 : V) (w418 : V) (w419 : V) (w420 : V) (w421 : V) (w422 : V) (q423 : Bool) (i119 : Int) (z109 : List (List S)) (i112 : Int) (z115 : List (List S)) (i121 : Int) (z123 : List (List S)) (i135 : Int) (i137 : Int) (z139 : List (List S)) : Option (V) :=
  vcase (bv q423)
  (some (bv false))
  (vcase (bv (i119 != 0))
  ((pureV (call Ev) Fn.spec_SetSlot [lv z109, iv .i64 i112, lv z115]).bind fun v426 =>
  gVA v426 fun c427 =>
  (c427[0]?).bind fun x428 =>
  gI .i64 x428 fun i429 =>
  (c427[1]?).bind fun x430 =>
  gI .i64 x430 fun i431 =>
  (c427[2]?).bind fun x432 =>
  gF x432 fun z433 =>
  if c427.length = 3 then
  hchk (((((D 0).new 0 [.int .i64 0, .int .i64 0, .sl none 0]).put 0 (.rw 0 [.int .i64 i119, .int .i64 i121, .fs z123])).new 0 [.int .i64 0, .int .i64 0, .sl none 0]).put 1 (.rw 0 [.int .i64 i135, .int .i64 i137, .fs z139])) (((((D 0).new 0 [.int .i64 0, .int .i64 0, .sl none 0]).put 0 (.rw 0 [.int .i64 i119, .int .i64 i121, .fs z123])).new 0 [.int .i64 0, .int .i64 0, .sl none 0]).put 1 (.rw 0 [.int .i64 i135, .int .i64 i137, .fs z139])) (
  hchk (((((D 0).new 0 [.int .i64 0, .int .i64 0, .sl none 0]).put 0 (.rw 0 [.int .i64 i119, .int .i64 i121, .fs z123])).new 0 [.int .i64 0, .int .i64 0, .sl none 0]).put 1 (.rw 0 [.int .i64 i135, .int .i64 i137, .fs z139])) (((((D 0).new 0 [.int .i64 0, .int .i64 0, .sl none 0]).put 0 (.rw 0 [.int .i64 i119, .int .i64 i121, .fs z123])).new 0 [.int .i64 0, .int .i64 0, .sl none 0]).put 1 (.rw 0 [.int .i64 i135, .int .i64 i137, .fs z139])) (
  hchk (((((D 0).new 0 [.int .i64 0, .int .i64 0, .sl none 0]).put 0 (.rw 0 [.int .i64 i119, .int .i64 i121, .fs z123])).new 0 [.int .i64 0, .int .i64 0, .sl none 0]).put 1 (.rw 0 [.int .i64 i135, .int .i64 i137, .fs z139])) (((((D 0).new 0 [.int .i64 0, .int .i64 0, .sl none 0]).put 0 (.rw 0 [.int .i64 i119, .int .i64 i121, .fs z123])).new 0 [.int .i64 0, .int .i64 0, .sl none 0]).put 1 (.rw 0 [.int .i64 i135, .int .i64 i137, .fs z139])) (
  hchk (((((D 0).new 0 [.int .i64 0, .int .i64 0, .sl none 0]).put 0 (.rw 0 [.int .i64 i119, .int .i64 i121, .fs z123])).new 0 [.int .i64 0, .int .i64 0, .sl none 0]).put 1 (.rw 0 [.int .i64 i135, .int .i64 i137, .fs z139])) (((((D 0).new 0 [.int .i64 0, .int .i64 0, .sl none 0]).put 0 (.rw 0 [.int .i64 i119, .int .i64 i121, .fs z123])).new 0 [.int .i64 0, .int .i64 0, .sl none 0]).put 1 (.rw 0 [.int .i64 i135, .int .i64 i137, .fs z139])) (
  some (bv (i429 == i119))))))
  else none)
  ((pureV (call Ev) Fn.impl_SlotIn [lv z123, iv .i64 i112]).bind fun v434 =>
  gVA v434 fun c435 =>
  (c435[0]?).bind fun x436 =>
  gI .i64 x436 fun i437 =>
  (c435[1]?).bind fun x438 =>
  gF x438 fun z439 =>
  if c435.length = 2 then
  vcase (bv (i437 == 0))
  (pcallS (call Ev) Fn.laws_lwSame [lv z439, lv z115] fun v441 =>
  gV1 v441 fun x442 =>
  gB x442 fun q443 =>
  hchk (((((((D 0).new 0 [.int .i64 0, .int .i64 0, .sl none 0]).put 0 (.rw 0 [.int .i64 i119, .int .i64 i121, .fs z123])).new 0 [.int .i64 0, .int .i64 0, .sl none 0]).put 1 (.rw 0 [.int .i64 i135, .int .i64 i137, .fs z139])).new 0 [.int .i64 0, .sl none 0]).put 2 (.rw 0 [.int .i64 i437, .fs z439])) (((((((D 0).new 0 [.int .i64 0, .int .i64 0, .sl none 0]).put 0 (.rw 0 [.int .i64 i119, .int .i64 i121, .fs z123])).new 0 [.int .i64 0, .int .i64 0, .sl none 0]).put 1 (.rw 0 [.int .i64 i135, .int .i64 i137, .fs z139])).new 0 [.int .i64 0, .sl none 0]).put 2 (.rw 0 [.int .i64 i437, .fs z439])) (
  Jn.laws_FnSets_3 true (pv 2 1) (lv z439) (lv z115) (bv q443) q443 z109 z123 i112 i119 i121 i135 i137 z139 i437 z439 z115))
  (hchk (((((((D 0).new 0 [.int .i64 0, .int .i64 0, .sl none 0]).put 0 (.rw 0 [.int .i64 i119, .int .i64 i121, .fs z123])).new 0 [.int .i64 0, .int .i64 0, .sl none 0]).put 1 (.rw 0 [.int .i64 i135, .int .i64 i137, .fs z139])).new 0 [.int .i64 0, .sl none 0]).put 2 (.rw 0 [.int .i64 i437, .fs z439])) (((((((D 0).new 0 [.int .i64 0, .int .i64 0, .sl none 0]).put 0 (.rw 0 [.int .i64 i119, .int .i64 i121, .fs z123])).new 0 [.int .i64 0, .int .i64 0, .sl none 0]).put 1 (.rw 0 [.int .i64 i135, .int .i64 i137, .fs z139])).new 0 [.int .i64 0, .sl none 0]).put 2 (.rw 0 [.int .i64 i437, .fs z439])) (
  Jn.laws_FnSets_3 false (.tup []) (.tup []) (.tup []) (.tup []) false z109 z123 i112 i119 i121 i135 i137 z139 i437 z439 z115))
  else none))

noncomputable def Jn.laws_FnSets_5 (q173 : Bool) (w174 : V) (w175 : V) (w176 : V) (w177 : V) (w178 : V) (w179 : V) (q180 : Bool) (i119 : Int) (i121 : Int) (z123 : List (List S)) (i135 : Int) (i137 : Int) (z139 : List (List S)) (i131 : Int) (i154 : Int) (z156 : List (List S)) (z109 : List (List S)) (i112 : Int) (z115 : List (List S)) : Option (V) :=
  vcase (bv q180)
  (hchk (((((D 0).new 0 [.int .i64 0, .int .i64 0, .sl none 0]).put 0 (.rw 0 [.int .i64 i119, .int .i64 i121, .fs z123])).new 0 [.int .i64 0, .int .i64 0, .sl none 0]).put 1 (.rw 0 [.int .i64 i135, .int .i64 i137, .fs z139])) (((((D 0).new 0 [.int .i64 0, .int .i64 0, .sl none 0]).put 0 (.rw 0 [.int .i64 i119, .int .i64 i121, .fs z123])).new 0 [.int .i64 0, .int .i64 0, .sl none 0]).put 1 (.rw 0 [.int .i64 i135, .int .i64 i137, .fs z139])) (
  Jn.laws_FnSets_4 false (pv 1 0) (iv .i64 i135) (bv (i135 == 0)) (bv true) (pv 1 2) (iv .i64 i131) (lv z139) (.agg [.int .i64 i154, .fs z156]) (iv .i64 i154) (bv (i154 != 4)) (bv q173) w174 w175 w176 w177 w178 w179 (bv q180) (bv true) (.tup []) (.tup []) (.tup []) (.tup []) (bv true) (bv true) true i119 z109 i112 z115 i121 z123 i135 i137 z139))
  (pcallS (call Ev) Fn.impl_PageFault [lv z139] fun v183 =>
  gV1 v183 fun x184 =>
  gI .i64 x184 fun i185 =>
  hchk (((((D 0).new 0 [.int .i64 0, .int .i64 0, .sl none 0]).put 0 (.rw 0 [.int .i64 i119, .int .i64 i121, .fs z123])).new 0 [.int .i64 0, .int .i64 0, .sl none 0]).put 1 (.rw 0 [.int .i64 i135, .int .i64 i137, .fs z139])) (((((D 0).new 0 [.int .i64 0, .int .i64 0, .sl none 0]).put 0 (.rw 0 [.int .i64 i119, .int .i64 i121, .fs z123])).new 0 [.int .i64 0, .int .i64 0, .sl none 0]).put 1 (.rw 0 [.int .i64 i135, .int .i64 i137, .fs z139])) (
  Jn.laws_FnSets_4 false (pv 1 0) (iv .i64 i135) (bv (i135 == 0)) (bv true) (pv 1 2) (iv .i64 i131) (lv z139) (.agg [.int .i64 i154, .fs z156]) (iv .i64 i154) (bv (i154 != 4)) (bv q173) w174 w175 w176 w177 w178 w179 (bv q180) (bv false) (pv 1 2) (lv z139) (iv .i64 i185) (bv (i185 != 0)) (bv (i185 != 0)) (bv (i185 != 0)) (i185 != 0) i119 z109 i112 z115 i121 z123 i135 i137 z139))

theorem pu_laws_FnSets (a0 : List (List S)) : pureV (call Ev) Fn.laws_FnSets [lv a0] =
  pcallS (call Ev) Fn.laws_lwBig [lv a0] fun v101 =>
  gV1 v101 fun x102 =>
  gB x102 fun q103 =>
  vcase (bv q103)
  (some (bv true))
  ((pureV (call Ev) Fn.spec_DrawSetSlot [lv a0]).bind fun v105 =>
  gVT v105 fun u106 =>
  (u106[0]?).bind fun t107 =>
  gA1 t107 fun x108 =>
  gF x108 fun z109 =>
  (u106[1]?).bind fun t110 =>
  gA1 t110 fun x111 =>
  gI .i64 x111 fun i112 =>
  (u106[2]?).bind fun t113 =>
  gA1 t113 fun x114 =>
  gF x114 fun z115 =>
  if u106.length = 3 then
  (pureV (call Ev) Fn.impl_SetSlot [lv z109, iv .i64 i112, lv z115]).bind fun v116 =>
  gVA v116 fun c117 =>
  (c117[0]?).bind fun x118 =>
  gI .i64 x118 fun i119 =>
  (c117[1]?).bind fun x120 =>
  gI .i64 x120 fun i121 =>
  (c117[2]?).bind fun x122 =>
  gF x122 fun z123 =>
  if c117.length = 3 then
  (pureV (call Ev) Fn.spec_DrawDropSlot [lv a0]).bind fun v124 =>
  gVT v124 fun u125 =>
  (u125[0]?).bind fun t126 =>
  gA1 t126 fun x127 =>
  gF x127 fun z128 =>
  (u125[1]?).bind fun t129 =>
  gA1 t129 fun x130 =>
  gI .i64 x130 fun i131 =>
  if u125.length = 2 then
  (pureV (call Ev) Fn.impl_DropSlot [lv z128, iv .i64 i131]).bind fun v132 =>
  gVA v132 fun c133 =>
  (c133[0]?).bind fun x134 =>
  gI .i64 x134 fun i135 =>
  (c133[1]?).bind fun x136 =>
  gI .i64 x136 fun i137 =>
  (c133[2]?).bind fun x138 =>
  gF x138 fun z139 =>
  if c133.length = 3 then
  (pureV (call Ev) Fn.spec_DropSlot [lv z128, iv .i64 i131]).bind fun v140 =>
  gVA v140 fun c141 =>
  (c141[0]?).bind fun x142 =>
  gI .i64 x142 fun i143 =>
  (c141[1]?).bind fun x144 =>
  gI .i64 x144 fun i145 =>
  (c141[2]?).bind fun x146 =>
  gF x146 fun z147 =>
  if c141.length = 3 then
  hchk (((((D 0).new 0 [.int .i64 0, .int .i64 0, .sl none 0]).put 0 (.rw 0 [.int .i64 i119, .int .i64 i121, .fs z123])).new 0 [.int .i64 0, .int .i64 0, .sl none 0]).put 1 (.rw 0 [.int .i64 i135, .int .i64 i137, .fs z139])) (((((D 0).new 0 [.int .i64 0, .int .i64 0, .sl none 0]).put 0 (.rw 0 [.int .i64 i119, .int .i64 i121, .fs z123])).new 0 [.int .i64 0, .int .i64 0, .sl none 0]).put 1 (.rw 0 [.int .i64 i135, .int .i64 i137, .fs z139])) (
  vcase (bv (i135 != i143))
  (hchk (((((D 0).new 0 [.int .i64 0, .int .i64 0, .sl none 0]).put 0 (.rw 0 [.int .i64 i119, .int .i64 i121, .fs z123])).new 0 [.int .i64 0, .int .i64 0, .sl none 0]).put 1 (.rw 0 [.int .i64 i135, .int .i64 i137, .fs z139])) (((((D 0).new 0 [.int .i64 0, .int .i64 0, .sl none 0]).put 0 (.rw 0 [.int .i64 i119, .int .i64 i121, .fs z123])).new 0 [.int .i64 0, .int .i64 0, .sl none 0]).put 1 (.rw 0 [.int .i64 i135, .int .i64 i137, .fs z139])) (
  hchk (((((D 0).new 0 [.int .i64 0, .int .i64 0, .sl none 0]).put 0 (.rw 0 [.int .i64 i119, .int .i64 i121, .fs z123])).new 0 [.int .i64 0, .int .i64 0, .sl none 0]).put 1 (.rw 0 [.int .i64 i135, .int .i64 i137, .fs z139])) (((((D 0).new 0 [.int .i64 0, .int .i64 0, .sl none 0]).put 0 (.rw 0 [.int .i64 i119, .int .i64 i121, .fs z123])).new 0 [.int .i64 0, .int .i64 0, .sl none 0]).put 1 (.rw 0 [.int .i64 i135, .int .i64 i137, .fs z139])) (
  hchk (((((D 0).new 0 [.int .i64 0, .int .i64 0, .sl none 0]).put 0 (.rw 0 [.int .i64 i119, .int .i64 i121, .fs z123])).new 0 [.int .i64 0, .int .i64 0, .sl none 0]).put 1 (.rw 0 [.int .i64 i135, .int .i64 i137, .fs z139])) (((((D 0).new 0 [.int .i64 0, .int .i64 0, .sl none 0]).put 0 (.rw 0 [.int .i64 i119, .int .i64 i121, .fs z123])).new 0 [.int .i64 0, .int .i64 0, .sl none 0]).put 1 (.rw 0 [.int .i64 i135, .int .i64 i137, .fs z139])) (
  Jn.laws_FnSets_4 true (.tup []) (.tup []) (.tup []) (.tup []) (.tup []) (.tup []) (.tup []) (.tup []) (.tup []) (.tup []) (.tup []) (.tup []) (.tup []) (.tup []) (.tup []) (.tup []) (.tup []) (.tup []) (.tup []) (.tup []) (.tup []) (.tup []) (.tup []) (.tup []) (.tup []) true i119 z109 i112 z115 i121 z123 i135 i137 z139))))
  (vcase (bv (i135 == 0))
  ((pureV (call Ev) Fn.impl_SlotIn [lv z139, iv .i64 i131]).bind fun v151 =>
  gVA v151 fun c152 =>
  (c152[0]?).bind fun x153 =>
  gI .i64 x153 fun i154 =>
  (c152[1]?).bind fun x155 =>
  gF x155 fun z156 =>
  if c152.length = 2 then
  hchk (((((D 0).new 0 [.int .i64 0, .int .i64 0, .sl none 0]).put 0 (.rw 0 [.int .i64 i119, .int .i64 i121, .fs z123])).new 0 [.int .i64 0, .int .i64 0, .sl none 0]).put 1 (.rw 0 [.int .i64 i135, .int .i64 i137, .fs z139])) (((((D 0).new 0 [.int .i64 0, .int .i64 0, .sl none 0]).put 0 (.rw 0 [.int .i64 i119, .int .i64 i121, .fs z123])).new 0 [.int .i64 0, .int .i64 0, .sl none 0]).put 1 (.rw 0 [.int .i64 i135, .int .i64 i137, .fs z139])) (
  vcase (bv (i154 != 4))
  (hchk (((((D 0).new 0 [.int .i64 0, .int .i64 0, .sl none 0]).put 0 (.rw 0 [.int .i64 i119, .int .i64 i121, .fs z123])).new 0 [.int .i64 0, .int .i64 0, .sl none 0]).put 1 (.rw 0 [.int .i64 i135, .int .i64 i137, .fs z139])) (((((D 0).new 0 [.int .i64 0, .int .i64 0, .sl none 0]).put 0 (.rw 0 [.int .i64 i119, .int .i64 i121, .fs z123])).new 0 [.int .i64 0, .int .i64 0, .sl none 0]).put 1 (.rw 0 [.int .i64 i135, .int .i64 i137, .fs z139])) (
  Jn.laws_FnSets_5 true (.tup []) (.tup []) (.tup []) (.tup []) (.tup []) (.tup []) true i119 i121 z123 i135 i137 z139 i131 i154 z156 z109 i112 z115))
  (pcallS (call Ev) Fn.laws_lwOthers [lv z128, lv z139, iv .i64 i131] fun v159 =>
  gV1 v159 fun x160 =>
  gB x160 fun q161 =>
  hchk (((((D 0).new 0 [.int .i64 0, .int .i64 0, .sl none 0]).put 0 (.rw 0 [.int .i64 i119, .int .i64 i121, .fs z123])).new 0 [.int .i64 0, .int .i64 0, .sl none 0]).put 1 (.rw 0 [.int .i64 i135, .int .i64 i137, .fs z139])) (((((D 0).new 0 [.int .i64 0, .int .i64 0, .sl none 0]).put 0 (.rw 0 [.int .i64 i119, .int .i64 i121, .fs z123])).new 0 [.int .i64 0, .int .i64 0, .sl none 0]).put 1 (.rw 0 [.int .i64 i135, .int .i64 i137, .fs z139])) (
  Jn.laws_FnSets_5 false (lv z128) (pv 1 2) (iv .i64 i131) (lv z139) (bv q161) (bv (!q161)) (!q161) i119 i121 z123 i135 i137 z139 i131 i154 z156 z109 i112 z115)))
  else none)
  (hchk (((((D 0).new 0 [.int .i64 0, .int .i64 0, .sl none 0]).put 0 (.rw 0 [.int .i64 i119, .int .i64 i121, .fs z123])).new 0 [.int .i64 0, .int .i64 0, .sl none 0]).put 1 (.rw 0 [.int .i64 i135, .int .i64 i137, .fs z139])) (((((D 0).new 0 [.int .i64 0, .int .i64 0, .sl none 0]).put 0 (.rw 0 [.int .i64 i119, .int .i64 i121, .fs z123])).new 0 [.int .i64 0, .int .i64 0, .sl none 0]).put 1 (.rw 0 [.int .i64 i135, .int .i64 i137, .fs z139])) (
  hchk (((((D 0).new 0 [.int .i64 0, .int .i64 0, .sl none 0]).put 0 (.rw 0 [.int .i64 i119, .int .i64 i121, .fs z123])).new 0 [.int .i64 0, .int .i64 0, .sl none 0]).put 1 (.rw 0 [.int .i64 i135, .int .i64 i137, .fs z139])) (((((D 0).new 0 [.int .i64 0, .int .i64 0, .sl none 0]).put 0 (.rw 0 [.int .i64 i119, .int .i64 i121, .fs z123])).new 0 [.int .i64 0, .int .i64 0, .sl none 0]).put 1 (.rw 0 [.int .i64 i135, .int .i64 i137, .fs z139])) (
  hchk (((((D 0).new 0 [.int .i64 0, .int .i64 0, .sl none 0]).put 0 (.rw 0 [.int .i64 i119, .int .i64 i121, .fs z123])).new 0 [.int .i64 0, .int .i64 0, .sl none 0]).put 1 (.rw 0 [.int .i64 i135, .int .i64 i137, .fs z139])) (((((D 0).new 0 [.int .i64 0, .int .i64 0, .sl none 0]).put 0 (.rw 0 [.int .i64 i119, .int .i64 i121, .fs z123])).new 0 [.int .i64 0, .int .i64 0, .sl none 0]).put 1 (.rw 0 [.int .i64 i135, .int .i64 i137, .fs z139])) (
  Jn.laws_FnSets_4 false (pv 1 0) (iv .i64 i135) (bv (i135 == 0)) (bv false) (.tup []) (.tup []) (.tup []) (.tup []) (.tup []) (.tup []) (.tup []) (.tup []) (.tup []) (.tup []) (.tup []) (.tup []) (.tup []) (.tup []) (.tup []) (.tup []) (.tup []) (.tup []) (.tup []) (.tup []) (bv false) false i119 z109 i112 z115 i121 z123 i135 i137 z139))))))
  else none
  else none
  else none
  else none
  else none) := by
  rw [pure_eq]; kernel_rfl

theorem eq_spec_l1Draw (a0_b a0_o : Nat) (h : H) : call Ev Fn.spec_l1Draw [pv a0_b a0_o] h =
  (call Ev Fn.spec_l1Next [pv a0_b a0_o, iv .i64 3] (h.new 0 [.int .i64 0, .int .i64 0, .int .i64 0, .str (⟨#[]⟩)])).bind fun p101 =>
  gV1 p101.1 fun x102 =>
  gI .i64 x102 fun i103 =>
  (call Ev Fn.spec_l1Next [pv a0_b a0_o, iv .i64 6] (tidy (h.new 0 [.int .i64 0, .int .i64 0, .int .i64 0, .str (⟨#[]⟩)]) [p101.1] p101.2)).bind fun p104 =>
  gV1 p104.1 fun x105 =>
  gI .i64 x105 fun i106 =>
  (call Ev Fn.spec_l1Next [pv a0_b a0_o, iv .i64 9] (tidy (tidy (h.new 0 [.int .i64 0, .int .i64 0, .int .i64 0, .str (⟨#[]⟩)]) [p101.1] p101.2) [p104.1] p104.2)).bind fun p107 =>
  gV1 p107.1 fun x108 =>
  gI .i64 x108 fun i109 =>
  (call Ev Fn.spec_l1Pick [pv a0_b a0_o, sv ((tidy (tidy (tidy (h.new 0 [.int .i64 0, .int .i64 0, .int .i64 0, .str (⟨#[]⟩)]) [p101.1] p101.2) [p104.1] p104.2) [p107.1] p107.2).n) 0 3] ((tidy (tidy (tidy (h.new 0 [.int .i64 0, .int .i64 0, .int .i64 0, .str (⟨#[]⟩)]) [p101.1] p101.2) [p104.1] p104.2) [p107.1] p107.2).new 1 [.int .i64 i109, .int .i64 300, .int .i64 999])).bind fun p110 =>
  gV1 p110.1 fun x111 =>
  gI .i64 x111 fun i112 =>
  (call Ev Fn.spec_l1Next [pv a0_b a0_o, iv .i64 4] ((tidy ((tidy (tidy (tidy (h.new 0 [.int .i64 0, .int .i64 0, .int .i64 0, .str (⟨#[]⟩)]) [p101.1] p101.2) [p104.1] p104.2) [p107.1] p107.2).new 1 [.int .i64 i109, .int .i64 300, .int .i64 999]) [p110.1] p110.2).new 1 [.str (⟨#[]⟩), .str (⟨#[97]⟩), .str (⟨#[97, 98, 99]⟩), .str (⟨#[97, 98, 99, 100, 101, 102, 103, 104]⟩)])).bind fun p113 =>
  gV1 p113.1 fun x114 =>
  gI .i64 x114 fun i115 =>
  idxK 1 (sv ((tidy ((tidy (tidy (tidy (h.new 0 [.int .i64 0, .int .i64 0, .int .i64 0, .str (⟨#[]⟩)]) [p101.1] p101.2) [p104.1] p104.2) [p107.1] p107.2).new 1 [.int .i64 i109, .int .i64 300, .int .i64 999]) [p110.1] p110.2).n) 0 4) (iv .i64 i115) fun v116 =>
  ldK (.one (.s)) ⟨1, 16, [.str ⟨#[]⟩], false, .str, false⟩ (tidy ((tidy ((tidy (tidy (tidy (h.new 0 [.int .i64 0, .int .i64 0, .int .i64 0, .str (⟨#[]⟩)]) [p101.1] p101.2) [p104.1] p104.2) [p107.1] p107.2).new 1 [.int .i64 i109, .int .i64 300, .int .i64 999]) [p110.1] p110.2).new 1 [.str (⟨#[]⟩), .str (⟨#[97]⟩), .str (⟨#[97, 98, 99]⟩), .str (⟨#[97, 98, 99, 100, 101, 102, 103, 104]⟩)]) [p113.1] p113.2) v116 fun v117 =>
  gV1 v117 fun x118 =>
  gS x118 fun y119 =>
  stK 4 (tidy ((tidy ((tidy (tidy (tidy (h.new 0 [.int .i64 0, .int .i64 0, .int .i64 0, .str (⟨#[]⟩)]) [p101.1] p101.2) [p104.1] p104.2) [p107.1] p107.2).new 1 [.int .i64 i109, .int .i64 300, .int .i64 999]) [p110.1] p110.2).new 1 [.str (⟨#[]⟩), .str (⟨#[97]⟩), .str (⟨#[97, 98, 99]⟩), .str (⟨#[97, 98, 99, 100, 101, 102, 103, 104]⟩)]) [p113.1] p113.2) (pv h.n 0) (.agg [.int .i64 i103, .int .i64 (IntKind.i64.wrap (1 + i106)), .int .i64 i112, .str y119]) fun h120 =>
  (loadN 4 h120 (pv h.n 0)).bind fun c121 =>
  some (.agg c121, h120) := by
  rw [call_eq]; kernel_rfl

theorem eq_spec_l1Cell (a0 : Int) (a1_0 : Int) (a1_1 : Int) (a1_2 : Int) (a1_3 : ByteArray) (n : Nat) : call Ev Fn.spec_l1Cell [iv .i64 a0, fv [.int .i64 a1_0, .int .i64 a1_1, .int .i64 a1_2, .str a1_3] 0] (D n) =
  (bin Ev .quo 2 (iv .i64 a1_2) (iv .i64 256)).bind fun b101 =>
  gV1 b101 fun x102 =>
  gI .i64 x102 fun i103 =>
  (bin Ev .rem 2 (iv .i64 a1_2) (iv .i64 256)).bind fun b104 =>
  gV1 b104 fun x105 =>
  gI .i64 x105 fun i106 =>
  hchk (D n) ((D n).new 1 [.int .u8 (IntKind.u8.wrap a0), .int .u8 (IntKind.u8.wrap a1_0), .int .u8 (IntKind.u8.wrap a1_1), .int .u8 (IntKind.u8.wrap i103), .int .u8 (IntKind.u8.wrap i106), .int .u8 (IntKind.u8.wrap ((a1_3 : ByteArray).size : Int))]) (
  (cvBytes ((D n).new 1 [.int .u8 (IntKind.u8.wrap a0), .int .u8 (IntKind.u8.wrap a1_0), .int .u8 (IntKind.u8.wrap a1_1), .int .u8 (IntKind.u8.wrap i103), .int .u8 (IntKind.u8.wrap i106), .int .u8 (IntKind.u8.wrap ((a1_3 : ByteArray).size : Int))]) (.s (.str a1_3))).bind fun p107 =>
  (appS 1 p107.2 (sv ((D n).n) 0 6) p107.1).bind fun p108 =>
  some (p108.1, p108.2)) := by
  rw [call_eq]; kernel_rfl

theorem pu_spec_l1Stub (a0 : Int) (a1 : Int) : pureV (call Ev) Fn.spec_l1Stub [iv .i64 a0, iv .i64 a1] =
  some (lv [[.int .u8 1], [.int .u8 (IntKind.u8.wrap a0)], [.int .u8 (IntKind.u8.wrap a1)]]) := by
  rw [pure_eq]; kernel_rfl

theorem pu_spec_DrawUnpackCell (a0 : List (List S)) : pureV (call Ev) Fn.spec_DrawUnpackCell [lv a0] =
  pcallF (call Ev) Fn.spec_l1Source true [lv a0] (D 0) fun v101 h102 =>
  (call Ev Fn.spec_l1Draw [v101] h102).bind fun p103 =>
  gVA p103.1 fun c104 =>
  (c104[0]?).bind fun x105 =>
  gI .i64 x105 fun i106 =>
  (c104[1]?).bind fun x107 =>
  gI .i64 x107 fun i108 =>
  (c104[2]?).bind fun x109 =>
  gI .i64 x109 fun i110 =>
  (c104[3]?).bind fun x111 =>
  gS x111 fun y112 =>
  if c104.length = 4 then
  stK 4 ((tidy h102 [p103.1] p103.2).new 0 [.int .i64 0, .int .i64 0, .int .i64 0, .str (⟨#[]⟩)]) (pv ((tidy h102 [p103.1] p103.2).n) 0) (.agg [.int .i64 i106, .int .i64 i108, .int .i64 i110, .str y112]) fun h113 =>
  (call Ev Fn.spec_l1Pick [v101, sv h113.n 0 2] (h113.new 1 [.int .i64 0, .int .i64 2])).bind fun p114 =>
  gV1 p114.1 fun x115 =>
  gI .i64 x115 fun i116 =>
  (frzVs (tidy (h113.new 1 [.int .i64 0, .int .i64 2]) [p114.1] p114.2) [iv .i64 i116, pv ((tidy h102 [p103.1] p103.2).n) 0]).bind fun l117 =>
  pcallF (call Ev) Fn.spec_l1Cell false (normVs [0, 4] l117) (tidy (h113.new 1 [.int .i64 0, .int .i64 2]) [p114.1] p114.2) fun v118 h119 =>
  (call Ev Fn.spec_l1Next [v101, iv .i64 6] h119).bind fun p120 =>
  gV1 p120.1 fun x121 =>
  gI .i64 x121 fun i122 =>
  vcase (bv (i122 == 0))
  ((lenV (.sl 5) v118).bind fun v125 =>
  gV1 v125 fun x126 =>
  gI .i64 x126 fun i127 =>
  (call Ev Fn.spec_l1Next [v101, iv .i64 i127] (tidy h119 [p120.1] p120.2)).bind fun p128 =>
  gV1 p128.1 fun x129 =>
  gI .i64 x129 fun i130 =>
  (call Ev Fn.spec_l1Next [v101, iv .i64 256] (tidy (tidy h119 [p120.1] p120.2) [p128.1] p128.2)).bind fun p131 =>
  gV1 p131.1 fun x132 =>
  gI .i64 x132 fun i133 =>
  idxK 1 v118 (iv .i64 i130) fun v134 =>
  stK 1 (tidy (tidy (tidy h119 [p120.1] p120.2) [p128.1] p128.2) [p131.1] p131.2) v134 (iv .u8 (IntKind.u8.wrap i133)) fun h135 =>
  frzV h135 v118)
  (vcase (bv (i122 == 1))
  ((lenV (.sl 5) v118).bind fun v137 =>
  gV1 v137 fun x138 =>
  gI .i64 x138 fun i139 =>
  (call Ev Fn.spec_l1Next [v101, iv .i64 i139] (tidy h119 [p120.1] p120.2)).bind fun p140 =>
  gV1 p140.1 fun x141 =>
  gI .i64 x141 fun i142 =>
  slK 1 (tidy (tidy h119 [p120.1] p120.2) [p140.1] p140.2) v118 none (some (iv .i64 i142)) fun v143 =>
  frzV (tidy (tidy h119 [p120.1] p120.2) [p140.1] p140.2) v143)
  (vcase (bv (i122 == 2))
  ((call Ev Fn.spec_l1Next [v101, iv .i64 13] (tidy h119 [p120.1] p120.2)).bind fun p145 =>
  gV1 p145.1 fun x146 =>
  gI .i64 x146 fun i147 =>
  (call Ev Fn.spec_l1Next [v101, iv .i64 17] (tidy (tidy h119 [p120.1] p120.2) [p145.1] p145.2)).bind fun p148 =>
  gV1 p148.1 fun x149 =>
  gI .i64 x149 fun i150 =>
  (pureV (call Ev) Fn.spec_l1Stub [iv .i64 i147, iv .i64 i150]).bind fun v151 =>
  gV1 v151 fun x152 =>
  gF x152 fun z153 =>
  some (lv z153))
  (frzV (tidy h119 [p120.1] p120.2) v118)))
  else none := by
  rw [pure_eq]; kernel_rfl

theorem pu_impl_in (a0 : Int) (a1 : Int) (a2 : Int) : pureV (call Ev) Fn.impl_in [iv .i64 a0, iv .i64 a1, iv .i64 a2] =
  vcase (bv (decide (a0 ≥ a1)))
  (some (bv (decide (a0 ≤ a2))))
  (some (bv false)) := by
  rw [pure_eq]; kernel_rfl

theorem pu_impl_RowFault (a0_0 : Int) (a0_1 : Int) (a0_2 : Int) (a0_3 : ByteArray) : pureV (call Ev) Fn.impl_RowFault [.agg [.int .i64 a0_0, .int .i64 a0_1, .int .i64 a0_2, .str a0_3]] =
  pcallS (call Ev) Fn.impl_in [iv .i64 a0_0, iv .i64 0, iv .i64 3] fun v101 =>
  gV1 v101 fun x102 =>
  gB x102 fun q103 =>
  vcase (bv (!q103))
  (some (iv .i64 3))
  (pcallS (call Ev) Fn.impl_in [iv .i64 a0_1, iv .i64 1, iv .i64 99] fun v106 =>
  gV1 v106 fun x107 =>
  gB x107 fun q108 =>
  vcase (bv (!q108))
  (some (iv .i64 3))
  (pcallS (call Ev) Fn.impl_in [iv .i64 a0_2, iv .i64 0, iv .i64 999] fun v114 =>
  gV1 v114 fun x115 =>
  gB x115 fun q116 =>
  vcase (bv (!q116))
  (some (iv .i64 3))
  (vcase (bv (decide (((a0_3 : ByteArray).size : Int) > 8)))
  (some (iv .i64 5))
  ((Lp.impl_RowFault 0 [pv 0 0, iv .i64 ((a0_3 : ByteArray).size : Int), iv .i64 0] ((D 0).new 0 [.int .i64 a0_0, .int .i64 a0_1, .int .i64 a0_2, .str a0_3])).bind fun o121 => lcase o121 (fun l122 h123 =>
  some (iv .i64 0)) (fun v124 h125 =>
  frzV h125 v124))))) := by
  rw [pure_eq]; kernel_rfl

theorem eq_impl_RowFault_l0 (s1 : V) (s26 : Int) (s27 : Int) (h : H) : Lp.impl_RowFault 0 [s1, iv .i64 s26, iv .i64 s27] h =
  vcase (bv (decide (s27 < s26)))
  ((padd 3 s1).bind fun v203 =>
  ldK (.one (.s)) ⟨1, 16, [.str ⟨#[]⟩], false, .str, false⟩ h v203 fun v204 =>
  gV1 v204 fun x205 =>
  gS x205 fun y206 =>
  (idxStr (.s (.str y206)) (iv .i64 s27)).bind fun v207 =>
  gV1 v207 fun x208 =>
  gI .u8 x208 fun i209 =>
  vcase (bv (decide (i209 < 97)))
  (some (.ret (iv .i64 5) h))
  ((padd 3 s1).bind fun v212 =>
  ldK (.one (.s)) ⟨1, 16, [.str ⟨#[]⟩], false, .str, false⟩ h v212 fun v213 =>
  gV1 v213 fun x214 =>
  gS x214 fun y215 =>
  (idxStr (.s (.str y215)) (iv .i64 s27)).bind fun v216 =>
  gV1 v216 fun x217 =>
  gI .u8 x217 fun i218 =>
  vcase (bv (decide (i218 > 122)))
  (some (.ret (iv .i64 5) h))
  (Lp.impl_RowFault 0 [s1, iv .i64 s26, iv .i64 (IntKind.i64.wrap (s27 + 1))] (tidy h [s1, iv .i64 s26, iv .i64 (IntKind.i64.wrap (s27 + 1))] h))))
  (some (.done [] (tidy h [] h))) := by
  unfold Lp.impl_RowFault; rw [loop_eq]; kernel_rfl

noncomputable def Jn.impl_UnpackCell_0 (q367 : Bool) (a0 : List (List S)) : Option (V) :=
  vcase (bv q367)
  (some (.agg [.int .i64 5, .int .i64 0, .int .i64 0, .int .i64 0, .int .i64 0, .int .i64 0, .int .i64 0, .str (⟨#[]⟩)]))
  (idxF 1 a0 1 fun r369 =>
  (r369[0]?).bind fun x370 =>
  gI .u8 x370 fun i371 =>
  idxF 1 a0 2 fun r372 =>
  (r372[0]?).bind fun x373 =>
  gI .u8 x373 fun i374 =>
  idxF 1 a0 3 fun r375 =>
  (r375[0]?).bind fun x376 =>
  gI .u8 x376 fun i377 =>
  (bin Ev .shl 2 (iv .i64 (IntKind.i64.wrap i377)) (iv .u64 8)).bind fun b378 =>
  gV1 b378 fun x379 =>
  gI .i64 x379 fun i380 =>
  idxF 1 a0 4 fun r381 =>
  (r381[0]?).bind fun x382 =>
  gI .u8 x382 fun i383 =>
  (bin Ev .or 2 (iv .i64 i380) (iv .i64 (IntKind.i64.wrap i383))).bind fun b384 =>
  gV1 b384 fun x385 =>
  gI .i64 x385 fun i386 =>
  slF 1 a0 (some (iv .i64 6)) none fun z387 =>
  (fsStr z387).bind fun v388 =>
  gV1 v388 fun x389 =>
  gS x389 fun y390 =>
  hchk ((D 0).new 0 [.int .i64 0, .int .i64 0, .int .i64 0, .int .i64 0, .int .i64 0, .int .i64 0, .int .i64 0, .str (⟨#[]⟩)]) (((D 0).new 0 [.int .i64 0, .int .i64 0, .int .i64 0, .int .i64 0, .int .i64 0, .int .i64 0, .int .i64 0, .str (⟨#[]⟩)]).new 0 [.int .i64 0, .int .i64 0, .int .i64 0, .str (⟨#[]⟩)]) (
  pcallS (call Ev) Fn.impl_RowFault [.agg [.int .i64 (IntKind.i64.wrap i371), .int .i64 (IntKind.i64.wrap i374), .int .i64 i386, .str y390]] fun v391 =>
  gV1 v391 fun x392 =>
  gI .i64 x392 fun i393 =>
  vcase (bv (i393 != 0))
  (some (.agg [.int .i64 5, .int .i64 0, .int .i64 0, .int .i64 0, .int .i64 0, .int .i64 0, .int .i64 0, .str (⟨#[]⟩)]))
  (idxF 1 a0 0 fun r395 =>
  (r395[0]?).bind fun x396 =>
  gI .u8 x396 fun i397 =>
  some (.agg [.int .i64 0, .int .i64 (IntKind.i64.wrap i397), .int .i64 0, .int .i64 0, .int .i64 (IntKind.i64.wrap i371), .int .i64 (IntKind.i64.wrap i374), .int .i64 i386, .str y390]))))

noncomputable def Jn.impl_UnpackCell_1 (q360 : Bool) (a0 : List (List S)) : Option (V) :=
  vcase (bv q360)
  (Jn.impl_UnpackCell_0 true a0)
  (idxF 1 a0 5 fun r363 =>
  (r363[0]?).bind fun x364 =>
  gI .u8 x364 fun i365 =>
  Jn.impl_UnpackCell_0 ((a0.length : Int) != (IntKind.i64.wrap (6 + (IntKind.i64.wrap i365)))) a0)

noncomputable def Jn.impl_UnpackCell_2 (q333 : Bool) (a0 : List (List S)) : Option (V) :=
  vcase (bv q333)
  (idxF 1 a0 2 fun r335 =>
  (r335[0]?).bind fun x336 =>
  gI .u8 x336 fun i337 =>
  vcase (bv (decide (i337 < 16)))
  (idxF 1 a0 1 fun r341 =>
  (r341[0]?).bind fun x342 =>
  gI .u8 x342 fun i343 =>
  idxF 1 a0 2 fun r344 =>
  (r344[0]?).bind fun x345 =>
  gI .u8 x345 fun i346 =>
  some (.agg [.int .i64 0, .int .i64 1, .int .i64 (IntKind.i64.wrap i343), .int .i64 (IntKind.i64.wrap i346), .int .i64 0, .int .i64 0, .int .i64 0, .str (⟨#[]⟩)]))
  (vcase (bv (decide ((a0.length : Int) < 6)))
  (Jn.impl_UnpackCell_1 true a0)
  (idxF 1 a0 0 fun r349 =>
  (r349[0]?).bind fun x350 =>
  gI .u8 x350 fun i351 =>
  vcase (bv (i351 != 0))
  (idxF 1 a0 0 fun r353 =>
  (r353[0]?).bind fun x354 =>
  gI .u8 x354 fun i355 =>
  Jn.impl_UnpackCell_1 (i355 != 2) a0)
  (Jn.impl_UnpackCell_1 false a0))))
  (vcase (bv (decide ((a0.length : Int) < 6)))
  (Jn.impl_UnpackCell_1 true a0)
  (idxF 1 a0 0 fun r401 =>
  (r401[0]?).bind fun x402 =>
  gI .u8 x402 fun i403 =>
  vcase (bv (i403 != 0))
  (idxF 1 a0 0 fun r405 =>
  (r405[0]?).bind fun x406 =>
  gI .u8 x406 fun i407 =>
  Jn.impl_UnpackCell_1 (i407 != 2) a0)
  (Jn.impl_UnpackCell_1 false a0)))

theorem pu_impl_UnpackCell (a0 : List (List S)) : pureV (call Ev) Fn.impl_UnpackCell [lv a0] =
  vcase (bv ((a0.length : Int) == 3))
  (idxF 1 a0 0 fun r102 =>
  (r102[0]?).bind fun x103 =>
  gI .u8 x103 fun i104 =>
  vcase (bv (i104 == 1))
  (idxF 1 a0 1 fun r108 =>
  (r108[0]?).bind fun x109 =>
  gI .u8 x109 fun i110 =>
  Jn.impl_UnpackCell_2 (decide (i110 < 12)) a0)
  (Jn.impl_UnpackCell_2 false a0))
  (vcase (bv (decide ((a0.length : Int) < 6)))
  (Jn.impl_UnpackCell_1 true a0)
  (idxF 1 a0 0 fun r455 =>
  (r455[0]?).bind fun x456 =>
  gI .u8 x456 fun i457 =>
  vcase (bv (i457 != 0))
  (idxF 1 a0 0 fun r459 =>
  (r459[0]?).bind fun x460 =>
  gI .u8 x460 fun i461 =>
  Jn.impl_UnpackCell_1 (i461 != 2) a0)
  (Jn.impl_UnpackCell_1 false a0))) := by
  rw [pure_eq]; kernel_rfl

theorem pu_spec_l1Place (a0 : Int) (a1 : Int) : pureV (call Ev) Fn.spec_l1Place [iv .i64 a0, iv .i64 a1] =
  pcallS (call Ev) Fn.spec_l1In [iv .i64 a0, iv .i64 0, iv .i64 11] fun v101 =>
  gV1 v101 fun x102 =>
  gB x102 fun q103 =>
  vcase (bv q103)
  (pcallS (call Ev) Fn.spec_l1In [iv .i64 a1, iv .i64 0, iv .i64 15] fun v105 =>
  gV1 v105 fun x106 =>
  gB x106 fun q107 =>
  some (bv q107))
  (some (bv false)) := by
  rw [pure_eq]; kernel_rfl

theorem pu_spec_l1Text (a0 : ByteArray) : pureV (call Ev) Fn.spec_l1Text [.s (.str a0)] =
  (Lp.spec_l1Text 0 [.s (.str a0), iv .i64 0] (D 0)).bind fun o101 => lcase o101 (fun l102 h103 =>
  (l102[0]?).bind fun w106 =>
  gV1 w106 fun x107 =>
  gS x107 fun y108 =>
  some (bv (decide (((y108 : ByteArray).size : Int) ≤ 8)))) (fun v104 h105 =>
  frzV h105 v104) := by
  rw [pure_eq]; kernel_rfl

theorem eq_spec_l1Text_l0 (s0 : ByteArray) (s3 : Int) (h : H) : Lp.spec_l1Text 0 [.s (.str s0), iv .i64 s3] h =
  vcase (bv (decide (s3 < ((s0 : ByteArray).size : Int))))
  ((idxStr (.s (.str s0)) (iv .i64 s3)).bind fun v203 =>
  gV1 v203 fun x204 =>
  gI .u8 x204 fun i205 =>
  vcase (bv (decide (i205 < 97)))
  (some (.ret (bv false) h))
  ((idxStr (.s (.str s0)) (iv .i64 s3)).bind fun v208 =>
  gV1 v208 fun x209 =>
  gI .u8 x209 fun i210 =>
  vcase (bv (decide (i210 > 122)))
  (some (.ret (bv false) h))
  (Lp.spec_l1Text 0 [.s (.str s0), iv .i64 (IntKind.i64.wrap (s3 + 1))] (tidy h [.s (.str s0), iv .i64 (IntKind.i64.wrap (s3 + 1))] h))))
  (some (.done [.s (.str s0)] (tidy h [.s (.str s0)] h))) := by
  unfold Lp.spec_l1Text; rw [loop_eq]; kernel_rfl

theorem pu_spec_l1Fault (a0_0 : Int) (a0_1 : Int) (a0_2 : Int) (a0_3 : ByteArray) : pureV (call Ev) Fn.spec_l1Fault [fv [.int .i64 a0_0, .int .i64 a0_1, .int .i64 a0_2, .str a0_3] 0] =
  pcallS (call Ev) Fn.spec_l1In [iv .i64 a0_0, iv .i64 0, iv .i64 3] fun v101 =>
  gV1 v101 fun x102 =>
  gB x102 fun q103 =>
  vcase (bv (!q103))
  (some (iv .i64 3))
  (pcallS (call Ev) Fn.spec_l1In [iv .i64 a0_1, iv .i64 1, iv .i64 99] fun v106 =>
  gV1 v106 fun x107 =>
  gB x107 fun q108 =>
  vcase (bv (!q108))
  (some (iv .i64 3))
  (pcallS (call Ev) Fn.spec_l1In [iv .i64 a0_2, iv .i64 0, iv .i64 999] fun v114 =>
  gV1 v114 fun x115 =>
  gB x115 fun q116 =>
  vcase (bv (!q116))
  (some (iv .i64 3))
  (pcallS (call Ev) Fn.spec_l1Text [.s (.str a0_3)] fun v120 =>
  gV1 v120 fun x121 =>
  gB x121 fun q122 =>
  vcase (bv (!q122))
  (some (iv .i64 5))
  (some (iv .i64 0))))) := by
  rw [pure_eq]; kernel_rfl

end Vm
