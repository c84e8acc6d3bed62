/-
  What each function, and each round of each loop, comes to in the small machine. Written by a program (gen3.py).
-/
import Derived.Test.YtmenpfhpflnbnaaEnv
set_option linter.unusedVariables false
set_option maxRecDepth 100000
namespace Vm
open Go

theorem pu_laws_szMiner (a0_0 : List (List S)) (a0_1 : List (List S)) (a1 : Int) : pureV (call Ev) Fn.laws_szMiner [.agg [.fs a0_0, .fs a0_1], iv .i64 a1] =
  pcallS (call Ev) Fn.laws_szByteSS [lv a0_0, iv .i64 a1] fun v101 =>
  gV1 v101 fun x102 =>
  gI .i64 x102 fun i103 =>
  vcase (bv (decide (i103 < 0)))
  (some (iv .i64 (-1)))
  (pcallS (call Ev) Fn.laws_szBufferS [lv a0_1, iv .i64 i103] fun v105 =>
  gV1 v105 fun x106 =>
  gI .i64 x106 fun i107 =>
  vcase (bv (decide (i107 < 0)))
  (some (iv .i64 (-1)))
  (some (iv .i64 i107))) := by
  rw [pure_eq]; kernel_rfl

noncomputable def Jn.spec_l6Change_0 (q213 : Bool) (w214 : V) (w215 : V) (w216 : V) (w217 : V) (w218 : V) (w219 : V) (w220 : V) (w221 : V) (w222 : V) (w223 : V) (w224 : V) (w225 : V) (w226 : V) (w227 : V) (w228 : V) (w229 : V) (w230 : V) (w231 : V) (w232 : V) (w233 : V) (w234 : V) (w235 : V) (w236 : V) (w237 : V) (w238 : V) (w239 : V) (w240 : V) (w241 : V) (w242 : V) (w243 : V) (w244 : V) (w245 : V) (w246 : V) (w247 : V) (w248 : V) (w249 : V) (q250 : Bool) (a0_0 : Bool) (a0_1 : Int) (a0_2 : Int) (a0_3 : Int) (a0_4 : ByteArray) (a0_5 : Bool) (a0_6 : Int) (a0_7 : Int) (a0_8 : Int) (a0_9 : ByteArray) : Option (V) :=
  vcase (bv q250)
  (some (iv .i64 1))
  (vcase (bv a0_0)
  (pcallS (call Ev) Fn.spec_l1Fault [fv [.int .i64 a0_1, .int .i64 a0_2, .int .i64 a0_3, .str a0_4] 0] fun v253 =>
  gV1 v253 fun x254 =>
  gI .i64 x254 fun i255 =>
  vcase (bv (i255 != 0))
  (some (iv .i64 i255))
  (vcase (bv a0_5)
  (pcallS (call Ev) Fn.spec_l1Fault [fv [.int .i64 a0_6, .int .i64 a0_7, .int .i64 a0_8, .str a0_9] 0] fun v258 =>
  gV1 v258 fun x259 =>
  gI .i64 x259 fun i260 =>
  some (iv .i64 i260))
  (some (iv .i64 0))))
  (vcase (bv a0_5)
  (pcallS (call Ev) Fn.spec_l1Fault [fv [.int .i64 a0_6, .int .i64 a0_7, .int .i64 a0_8, .str a0_9] 0] fun v262 =>
  gV1 v262 fun x263 =>
  gI .i64 x263 fun i264 =>
  some (iv .i64 i264))
  (some (iv .i64 0))))

noncomputable def Jn.spec_l6Change_1 (q189 : Bool) (w190 : V) (w191 : V) (w192 : V) (w193 : V) (w194 : V) (q195 : Bool) (a0_0 : Bool) (a0_5 : Bool) (a0_1 : Int) (a0_6 : Int) (a0_2 : Int) (a0_3 : Int) (a0_4 : ByteArray) (a0_7 : Int) (a0_8 : Int) (a0_9 : ByteArray) : Option (V) :=
  vcase (bv q195)
  (Jn.spec_l6Change_0 true (.tup []) (.tup []) (.tup []) (.tup []) (.tup []) (.tup []) (.tup []) (.tup []) (.tup []) (.tup []) (.tup []) (.tup []) (.tup []) (.tup []) (.tup []) (.tup []) (.tup []) (.tup []) (.tup []) (.tup []) (.tup []) (.tup []) (.tup []) (.tup []) (.tup []) (.tup []) (.tup []) (.tup []) (.tup []) (.tup []) (.tup []) (.tup []) (.tup []) (.tup []) (.tup []) (.tup []) true a0_0 a0_1 a0_2 a0_3 a0_4 a0_5 a0_6 a0_7 a0_8 a0_9)
  (vcase (bv a0_0)
  (vcase (bv a0_5)
  (vcase (bv (a0_1 != a0_6))
  (Jn.spec_l6Change_0 false (fv [.bool a0_0, .int .i64 a0_1, .int .i64 a0_2, .int .i64 a0_3, .str a0_4, .bool a0_5, .int .i64 a0_6, .int .i64 a0_7, .int .i64 a0_8, .str a0_9] 0) (fv [.bool a0_0, .int .i64 a0_1, .int .i64 a0_2, .int .i64 a0_3, .str a0_4, .bool a0_5, .int .i64 a0_6, .int .i64 a0_7, .int .i64 a0_8, .str a0_9] 0) (fv [.bool a0_0, .int .i64 a0_1, .int .i64 a0_2, .int .i64 a0_3, .str a0_4, .bool a0_5, .int .i64 a0_6, .int .i64 a0_7, .int .i64 a0_8, .str a0_9] 0) (bv a0_0) (bv true) (fv [.bool a0_0, .int .i64 a0_1, .int .i64 a0_2, .int .i64 a0_3, .str a0_4, .bool a0_5, .int .i64 a0_6, .int .i64 a0_7, .int .i64 a0_8, .str a0_9] 0) (fv [.bool a0_0, .int .i64 a0_1, .int .i64 a0_2, .int .i64 a0_3, .str a0_4, .bool a0_5, .int .i64 a0_6, .int .i64 a0_7, .int .i64 a0_8, .str a0_9] 0) (fv [.bool a0_0, .int .i64 a0_1, .int .i64 a0_2, .int .i64 a0_3, .str a0_4, .bool a0_5, .int .i64 a0_6, .int .i64 a0_7, .int .i64 a0_8, .str a0_9] 5) (bv a0_5) (bv a0_5) (bv true) (fv [.bool a0_0, .int .i64 a0_1, .int .i64 a0_2, .int .i64 a0_3, .str a0_4, .bool a0_5, .int .i64 a0_6, .int .i64 a0_7, .int .i64 a0_8, .str a0_9] 0) (fv [.bool a0_0, .int .i64 a0_1, .int .i64 a0_2, .int .i64 a0_3, .str a0_4, .bool a0_5, .int .i64 a0_6, .int .i64 a0_7, .int .i64 a0_8, .str a0_9] 0) (fv [.bool a0_0, .int .i64 a0_1, .int .i64 a0_2, .int .i64 a0_3, .str a0_4, .bool a0_5, .int .i64 a0_6, .int .i64 a0_7, .int .i64 a0_8, .str a0_9] 1) (fv [.bool a0_0, .int .i64 a0_1, .int .i64 a0_2, .int .i64 a0_3, .str a0_4, .bool a0_5, .int .i64 a0_6, .int .i64 a0_7, .int .i64 a0_8, .str a0_9] 1) (iv .i64 a0_1) (fv [.bool a0_0, .int .i64 a0_1, .int .i64 a0_2, .int .i64 a0_3, .str a0_4, .bool a0_5, .int .i64 a0_6, .int .i64 a0_7, .int .i64 a0_8, .str a0_9] 0) (fv [.bool a0_0, .int .i64 a0_1, .int .i64 a0_2, .int .i64 a0_3, .str a0_4, .bool a0_5, .int .i64 a0_6, .int .i64 a0_7, .int .i64 a0_8, .str a0_9] 0) (fv [.bool a0_0, .int .i64 a0_1, .int .i64 a0_2, .int .i64 a0_3, .str a0_4, .bool a0_5, .int .i64 a0_6, .int .i64 a0_7, .int .i64 a0_8, .str a0_9] 6) (fv [.bool a0_0, .int .i64 a0_1, .int .i64 a0_2, .int .i64 a0_3, .str a0_4, .bool a0_5, .int .i64 a0_6, .int .i64 a0_7, .int .i64 a0_8, .str a0_9] 6) (iv .i64 a0_6) (bv (a0_1 != a0_6)) (bv true) (.tup []) (.tup []) (.tup []) (.tup []) (.tup []) (.tup []) (.tup []) (.tup []) (.tup []) (.tup []) (.tup []) (bv true) (bv true) true a0_0 a0_1 a0_2 a0_3 a0_4 a0_5 a0_6 a0_7 a0_8 a0_9)
  (Jn.spec_l6Change_0 false (fv [.bool a0_0, .int .i64 a0_1, .int .i64 a0_2, .int .i64 a0_3, .str a0_4, .bool a0_5, .int .i64 a0_6, .int .i64 a0_7, .int .i64 a0_8, .str a0_9] 0) (fv [.bool a0_0, .int .i64 a0_1, .int .i64 a0_2, .int .i64 a0_3, .str a0_4, .bool a0_5, .int .i64 a0_6, .int .i64 a0_7, .int .i64 a0_8, .str a0_9] 0) (fv [.bool a0_0, .int .i64 a0_1, .int .i64 a0_2, .int .i64 a0_3, .str a0_4, .bool a0_5, .int .i64 a0_6, .int .i64 a0_7, .int .i64 a0_8, .str a0_9] 0) (bv a0_0) (bv true) (fv [.bool a0_0, .int .i64 a0_1, .int .i64 a0_2, .int .i64 a0_3, .str a0_4, .bool a0_5, .int .i64 a0_6, .int .i64 a0_7, .int .i64 a0_8, .str a0_9] 0) (fv [.bool a0_0, .int .i64 a0_1, .int .i64 a0_2, .int .i64 a0_3, .str a0_4, .bool a0_5, .int .i64 a0_6, .int .i64 a0_7, .int .i64 a0_8, .str a0_9] 0) (fv [.bool a0_0, .int .i64 a0_1, .int .i64 a0_2, .int .i64 a0_3, .str a0_4, .bool a0_5, .int .i64 a0_6, .int .i64 a0_7, .int .i64 a0_8, .str a0_9] 5) (bv a0_5) (bv a0_5) (bv true) (fv [.bool a0_0, .int .i64 a0_1, .int .i64 a0_2, .int .i64 a0_3, .str a0_4, .bool a0_5, .int .i64 a0_6, .int .i64 a0_7, .int .i64 a0_8, .str a0_9] 0) (fv [.bool a0_0, .int .i64 a0_1, .int .i64 a0_2, .int .i64 a0_3, .str a0_4, .bool a0_5, .int .i64 a0_6, .int .i64 a0_7, .int .i64 a0_8, .str a0_9] 0) (fv [.bool a0_0, .int .i64 a0_1, .int .i64 a0_2, .int .i64 a0_3, .str a0_4, .bool a0_5, .int .i64 a0_6, .int .i64 a0_7, .int .i64 a0_8, .str a0_9] 1) (fv [.bool a0_0, .int .i64 a0_1, .int .i64 a0_2, .int .i64 a0_3, .str a0_4, .bool a0_5, .int .i64 a0_6, .int .i64 a0_7, .int .i64 a0_8, .str a0_9] 1) (iv .i64 a0_1) (fv [.bool a0_0, .int .i64 a0_1, .int .i64 a0_2, .int .i64 a0_3, .str a0_4, .bool a0_5, .int .i64 a0_6, .int .i64 a0_7, .int .i64 a0_8, .str a0_9] 0) (fv [.bool a0_0, .int .i64 a0_1, .int .i64 a0_2, .int .i64 a0_3, .str a0_4, .bool a0_5, .int .i64 a0_6, .int .i64 a0_7, .int .i64 a0_8, .str a0_9] 0) (fv [.bool a0_0, .int .i64 a0_1, .int .i64 a0_2, .int .i64 a0_3, .str a0_4, .bool a0_5, .int .i64 a0_6, .int .i64 a0_7, .int .i64 a0_8, .str a0_9] 6) (fv [.bool a0_0, .int .i64 a0_1, .int .i64 a0_2, .int .i64 a0_3, .str a0_4, .bool a0_5, .int .i64 a0_6, .int .i64 a0_7, .int .i64 a0_8, .str a0_9] 6) (iv .i64 a0_6) (bv (a0_1 != a0_6)) (bv false) (fv [.bool a0_0, .int .i64 a0_1, .int .i64 a0_2, .int .i64 a0_3, .str a0_4, .bool a0_5, .int .i64 a0_6, .int .i64 a0_7, .int .i64 a0_8, .str a0_9] 0) (fv [.bool a0_0, .int .i64 a0_1, .int .i64 a0_2, .int .i64 a0_3, .str a0_4, .bool a0_5, .int .i64 a0_6, .int .i64 a0_7, .int .i64 a0_8, .str a0_9] 0) (fv [.bool a0_0, .int .i64 a0_1, .int .i64 a0_2, .int .i64 a0_3, .str a0_4, .bool a0_5, .int .i64 a0_6, .int .i64 a0_7, .int .i64 a0_8, .str a0_9] 1) (fv [.bool a0_0, .int .i64 a0_1, .int .i64 a0_2, .int .i64 a0_3, .str a0_4, .bool a0_5, .int .i64 a0_6, .int .i64 a0_7, .int .i64 a0_8, .str a0_9] 2) (iv .i64 a0_2) (fv [.bool a0_0, .int .i64 a0_1, .int .i64 a0_2, .int .i64 a0_3, .str a0_4, .bool a0_5, .int .i64 a0_6, .int .i64 a0_7, .int .i64 a0_8, .str a0_9] 0) (fv [.bool a0_0, .int .i64 a0_1, .int .i64 a0_2, .int .i64 a0_3, .str a0_4, .bool a0_5, .int .i64 a0_6, .int .i64 a0_7, .int .i64 a0_8, .str a0_9] 0) (fv [.bool a0_0, .int .i64 a0_1, .int .i64 a0_2, .int .i64 a0_3, .str a0_4, .bool a0_5, .int .i64 a0_6, .int .i64 a0_7, .int .i64 a0_8, .str a0_9] 6) (fv [.bool a0_0, .int .i64 a0_1, .int .i64 a0_2, .int .i64 a0_3, .str a0_4, .bool a0_5, .int .i64 a0_6, .int .i64 a0_7, .int .i64 a0_8, .str a0_9] 7) (iv .i64 a0_7) (bv (a0_2 != a0_7)) (bv (a0_2 != a0_7)) (bv (a0_2 != a0_7)) (a0_2 != a0_7) a0_0 a0_1 a0_2 a0_3 a0_4 a0_5 a0_6 a0_7 a0_8 a0_9))
  (Jn.spec_l6Change_0 false (fv [.bool a0_0, .int .i64 a0_1, .int .i64 a0_2, .int .i64 a0_3, .str a0_4, .bool a0_5, .int .i64 a0_6, .int .i64 a0_7, .int .i64 a0_8, .str a0_9] 0) (fv [.bool a0_0, .int .i64 a0_1, .int .i64 a0_2, .int .i64 a0_3, .str a0_4, .bool a0_5, .int .i64 a0_6, .int .i64 a0_7, .int .i64 a0_8, .str a0_9] 0) (fv [.bool a0_0, .int .i64 a0_1, .int .i64 a0_2, .int .i64 a0_3, .str a0_4, .bool a0_5, .int .i64 a0_6, .int .i64 a0_7, .int .i64 a0_8, .str a0_9] 0) (bv a0_0) (bv true) (fv [.bool a0_0, .int .i64 a0_1, .int .i64 a0_2, .int .i64 a0_3, .str a0_4, .bool a0_5, .int .i64 a0_6, .int .i64 a0_7, .int .i64 a0_8, .str a0_9] 0) (fv [.bool a0_0, .int .i64 a0_1, .int .i64 a0_2, .int .i64 a0_3, .str a0_4, .bool a0_5, .int .i64 a0_6, .int .i64 a0_7, .int .i64 a0_8, .str a0_9] 0) (fv [.bool a0_0, .int .i64 a0_1, .int .i64 a0_2, .int .i64 a0_3, .str a0_4, .bool a0_5, .int .i64 a0_6, .int .i64 a0_7, .int .i64 a0_8, .str a0_9] 5) (bv a0_5) (bv a0_5) (bv false) (.tup []) (.tup []) (.tup []) (.tup []) (.tup []) (.tup []) (.tup []) (.tup []) (.tup []) (.tup []) (.tup []) (.tup []) (.tup []) (.tup []) (.tup []) (.tup []) (.tup []) (.tup []) (.tup []) (.tup []) (.tup []) (.tup []) (.tup []) (.tup []) (bv false) false a0_0 a0_1 a0_2 a0_3 a0_4 a0_5 a0_6 a0_7 a0_8 a0_9))
  (Jn.spec_l6Change_0 false (fv [.bool a0_0, .int .i64 a0_1, .int .i64 a0_2, .int .i64 a0_3, .str a0_4, .bool a0_5, .int .i64 a0_6, .int .i64 a0_7, .int .i64 a0_8, .str a0_9] 0) (fv [.bool a0_0, .int .i64 a0_1, .int .i64 a0_2, .int .i64 a0_3, .str a0_4, .bool a0_5, .int .i64 a0_6, .int .i64 a0_7, .int .i64 a0_8, .str a0_9] 0) (fv [.bool a0_0, .int .i64 a0_1, .int .i64 a0_2, .int .i64 a0_3, .str a0_4, .bool a0_5, .int .i64 a0_6, .int .i64 a0_7, .int .i64 a0_8, .str a0_9] 0) (bv a0_0) (bv false) (.tup []) (.tup []) (.tup []) (.tup []) (bv false) (bv false) (.tup []) (.tup []) (.tup []) (.tup []) (.tup []) (.tup []) (.tup []) (.tup []) (.tup []) (.tup []) (.tup []) (.tup []) (.tup []) (.tup []) (.tup []) (.tup []) (.tup []) (.tup []) (.tup []) (.tup []) (.tup []) (.tup []) (.tup []) (.tup []) (bv false) false a0_0 a0_1 a0_2 a0_3 a0_4 a0_5 a0_6 a0_7 a0_8 a0_9))

theorem pu_spec_l6Change (a0_0 : Bool) (a0_1 : Int) (a0_2 : Int) (a0_3 : Int) (a0_4 : ByteArray) (a0_5 : Bool) (a0_6 : Int) (a0_7 : Int) (a0_8 : Int) (a0_9 : ByteArray) : pureV (call Ev) Fn.spec_l6Change [fv [.bool a0_0, .int .i64 a0_1, .int .i64 a0_2, .int .i64 a0_3, .str a0_4, .bool a0_5, .int .i64 a0_6, .int .i64 a0_7, .int .i64 a0_8, .str a0_9] 0] =
  vcase (bv (!a0_0))
  (Jn.spec_l6Change_1 true (fv [.bool a0_0, .int .i64 a0_1, .int .i64 a0_2, .int .i64 a0_3, .str a0_4, .bool a0_5, .int .i64 a0_6, .int .i64 a0_7, .int .i64 a0_8, .str a0_9] 0) (fv [.bool a0_0, .int .i64 a0_1, .int .i64 a0_2, .int .i64 a0_3, .str a0_4, .bool a0_5, .int .i64 a0_6, .int .i64 a0_7, .int .i64 a0_8, .str a0_9] 0) (fv [.bool a0_0, .int .i64 a0_1, .int .i64 a0_2, .int .i64 a0_3, .str a0_4, .bool a0_5, .int .i64 a0_6, .int .i64 a0_7, .int .i64 a0_8, .str a0_9] 5) (bv a0_5) (bv (!a0_5)) (!a0_5) a0_0 a0_5 a0_1 a0_6 a0_2 a0_3 a0_4 a0_7 a0_8 a0_9)
  (Jn.spec_l6Change_1 false (.tup []) (.tup []) (.tup []) (.tup []) (.tup []) false a0_0 a0_5 a0_1 a0_6 a0_2 a0_3 a0_4 a0_7 a0_8 a0_9) := by
  rw [pure_eq]; kernel_rfl

theorem pu_spec_l9Change (a0_0 : Bool) (a0_1 : Int) (a0_2 : Int) (a0_3 : Int) (a0_4 : ByteArray) (a0_5 : Bool) (a0_6 : Int) (a0_7 : Int) (a0_8 : Int) (a0_9 : ByteArray) : pureV (call Ev) Fn.spec_l9Change [fv [.bool a0_0, .int .i64 a0_1, .int .i64 a0_2, .int .i64 a0_3, .str a0_4, .bool a0_5, .int .i64 a0_6, .int .i64 a0_7, .int .i64 a0_8, .str a0_9] 0] =
  pcallS (call Ev) Fn.spec_l6Change [fv [.bool a0_0, .int .i64 a0_1, .int .i64 a0_2, .int .i64 a0_3, .str a0_4, .bool a0_5, .int .i64 a0_6, .int .i64 a0_7, .int .i64 a0_8, .str a0_9] 0] fun v101 =>
  gV1 v101 fun x102 =>
  gI .i64 x102 fun i103 =>
  vcase (bv (i103 != 0))
  (some (iv .i64 i103))
  (vcase (bv a0_0)
  (vcase (bv a0_5)
  (vcase (bv (((a0_1 : Int) == a0_6) && (((a0_2 : Int) == a0_7) && (((a0_3 : Int) == a0_8) && (((a0_4 : ByteArray).toList == (a0_9 : ByteArray).toList) && true)))))
  (some (iv .i64 1))
  (some (iv .i64 0)))
  (some (iv .i64 0)))
  (some (iv .i64 0))) := by
  rw [pure_eq]; kernel_rfl

theorem pu_spec_l6Key (a0_0 : Bool) (a0_1 : Int) (a0_2 : Int) (a0_3 : Int) (a0_4 : ByteArray) (a0_5 : Bool) (a0_6 : Int) (a0_7 : Int) (a0_8 : Int) (a0_9 : ByteArray) : pureV (call Ev) Fn.spec_l6Key [fv [.bool a0_0, .int .i64 a0_1, .int .i64 a0_2, .int .i64 a0_3, .str a0_4, .bool a0_5, .int .i64 a0_6, .int .i64 a0_7, .int .i64 a0_8, .str a0_9] 0] =
  vcase (bv a0_5)
  (some (.tup [.s (.int .i64 a0_6), .s (.int .i64 a0_7)]))
  (some (.tup [.s (.int .i64 a0_1), .s (.int .i64 a0_2)])) := by
  rw [pure_eq]; kernel_rfl

theorem pu_spec_l9Ahead (a0_0 : Bool) (a0_1 : Int) (a0_2 : Int) (a0_3 : Int) (a0_4 : ByteArray) (a0_5 : Bool) (a0_6 : Int) (a0_7 : Int) (a0_8 : Int) (a0_9 : ByteArray) (a1_0 : Bool) (a1_1 : Int) (a1_2 : Int) (a1_3 : Int) (a1_4 : ByteArray) (a1_5 : Bool) (a1_6 : Int) (a1_7 : Int) (a1_8 : Int) (a1_9 : ByteArray) : pureV (call Ev) Fn.spec_l9Ahead [fv [.bool a0_0, .int .i64 a0_1, .int .i64 a0_2, .int .i64 a0_3, .str a0_4, .bool a0_5, .int .i64 a0_6, .int .i64 a0_7, .int .i64 a0_8, .str a0_9] 0, fv [.bool a1_0, .int .i64 a1_1, .int .i64 a1_2, .int .i64 a1_3, .str a1_4, .bool a1_5, .int .i64 a1_6, .int .i64 a1_7, .int .i64 a1_8, .str a1_9] 0] =
  pcallS (call Ev) Fn.spec_l6Key [fv [.bool a0_0, .int .i64 a0_1, .int .i64 a0_2, .int .i64 a0_3, .str a0_4, .bool a0_5, .int .i64 a0_6, .int .i64 a0_7, .int .i64 a0_8, .str a0_9] 0] fun v101 =>
  gVT v101 fun u102 =>
  (u102[0]?).bind fun t103 =>
  gA1 t103 fun x104 =>
  gI .i64 x104 fun i105 =>
  (u102[1]?).bind fun t106 =>
  gA1 t106 fun x107 =>
  gI .i64 x107 fun i108 =>
  if u102.length = 2 then
  pcallS (call Ev) Fn.spec_l6Key [fv [.bool a1_0, .int .i64 a1_1, .int .i64 a1_2, .int .i64 a1_3, .str a1_4, .bool a1_5, .int .i64 a1_6, .int .i64 a1_7, .int .i64 a1_8, .str a1_9] 0] fun v109 =>
  gVT v109 fun u110 =>
  (u110[0]?).bind fun t111 =>
  gA1 t111 fun x112 =>
  gI .i64 x112 fun i113 =>
  (u110[1]?).bind fun t114 =>
  gA1 t114 fun x115 =>
  gI .i64 x115 fun i116 =>
  if u110.length = 2 then
  vcase (bv (decide (i105 < i113)))
  (some (bv true))
  (vcase (bv (i105 == i113))
  (some (bv (decide (i108 < i116))))
  (some (bv false)))
  else none
  else none := by
  rw [pure_eq]; kernel_rfl

theorem pu_spec_l9List (a0 : List (List S)) : pureV (call Ev) Fn.spec_l9List [lv a0] =
  vcase (bv (decide ((a0.length : Int) > 60)))
  (some (iv .i64 2))
  ((Lp.spec_l9List 0 [lv a0, iv .i64 0] (D 0)).bind fun o102 => lcase o102 (fun l103 h104 =>
  some (iv .i64 0)) (fun v105 h106 =>
  frzV h106 v105)) := by
  rw [pure_eq]; kernel_rfl

theorem eq_spec_l9List_l0 (s0 : List (List S)) (s3 : Int) (h : H) : Lp.spec_l9List 0 [lv s0, iv .i64 s3] h =
  vcase (bv (decide (s3 < (s0.length : Int))))
  (idxF 10 s0 s3 fun r203 =>
  pcallS (call Ev) Fn.spec_l9Change [normV 10 (fv r203 0)] fun v204 =>
  gV1 v204 fun x205 =>
  gI .i64 x205 fun i206 =>
  vcase (bv (i206 != 0))
  (some (.ret (iv .i64 i206) h))
  (vcase (bv (decide (s3 > 0)))
  (idxF 10 s0 (IntKind.i64.wrap (s3 - 1)) fun r209 =>
  idxF 10 s0 s3 fun r210 =>
  pcallS (call Ev) Fn.spec_l9Ahead [normV 10 (fv r209 0), normV 10 (fv r210 0)] fun v211 =>
  gV1 v211 fun x212 =>
  gB x212 fun q213 =>
  hchk h h (
  vcase (bv (!q213))
  (some (.ret (iv .i64 1) h))
  (Lp.spec_l9List 0 [lv s0, iv .i64 (IntKind.i64.wrap (s3 + 1))] (tidy h [lv s0, iv .i64 (IntKind.i64.wrap (s3 + 1))] h))))
  (hchk h h (
  Lp.spec_l9List 0 [lv s0, iv .i64 (IntKind.i64.wrap (s3 + 1))] (tidy h [lv s0, iv .i64 (IntKind.i64.wrap (s3 + 1))] h)))))
  (some (.done [] (tidy h [] h))) := by
  unfold Lp.spec_l9List; rw [loop_eq]; kernel_rfl

theorem pu_spec_l9At (a0_0 : List (List S)) (a0_1 : List (List S)) (a1 : Int) : pureV (call Ev) Fn.spec_l9At [fv [.fs a0_0, .fs a0_1] 0, iv .i64 a1] =
  (Lp.spec_l9At 0 [fv [.fs a0_0, .fs a0_1] 0, iv .i64 a1, iv .i64 0] (D 0)).bind fun o101 => lcase o101 (fun l102 h103 =>
  some (iv .i64 (-1))) (fun v104 h105 =>
  frzV h105 v104) := by
  rw [pure_eq]; kernel_rfl

theorem eq_spec_l9At_l0 (s0_r : List S) (s0_o : Nat) (s1 : Int) (s5 : Int) (h : H) : Lp.spec_l9At 0 [fv s0_r s0_o, iv .i64 s1, iv .i64 s5] h =
  (s0_r[s0_o + 1]?).bind fun x201 =>
  gF x201 fun z202 =>
  vcase (bv (decide (s5 < (z202.length : Int))))
  ((s0_r[s0_o + 1]?).bind fun x205 =>
  gF x205 fun z206 =>
  idxF 2 z206 s5 fun r207 =>
  (r207[0]?).bind fun x208 =>
  gI .i64 x208 fun i209 =>
  vcase (bv (i209 == s1))
  (some (.ret (iv .i64 s5) h))
  (Lp.spec_l9At 0 [fv s0_r s0_o, iv .i64 s1, iv .i64 (IntKind.i64.wrap (s5 + 1))] (tidy h [fv s0_r s0_o, iv .i64 s1, iv .i64 (IntKind.i64.wrap (s5 + 1))] h)))
  (some (.done [] (tidy h [] h))) := by
  unfold Lp.spec_l9At; rw [loop_eq]; kernel_rfl

theorem pu_spec_l9Fault (a0_0 : List (List S)) (a0_1 : List (List S)) : pureV (call Ev) Fn.spec_l9Fault [fv [.fs a0_0, .fs a0_1] 0] =
  pcallS (call Ev) Fn.spec_l6Fault [lv a0_0] fun v101 =>
  gV1 v101 fun x102 =>
  gI .i64 x102 fun i103 =>
  vcase (bv (i103 != 0))
  (some (iv .i64 i103))
  (vcase (bv (decide ((a0_1.length : Int) > 8)))
  (some (iv .i64 2))
  ((Lp.spec_l9Fault 0 [fv [.fs a0_0, .fs a0_1] 0, iv .i64 0] (D 0)).bind fun o106 => lcase o106 (fun l107 h108 =>
  some (iv .i64 0)) (fun v109 h110 =>
  frzV h110 v109))) := by
  rw [pure_eq]; kernel_rfl

theorem eq_spec_l9Fault_l0 (s0_r : List S) (s0_o : Nat) (s4 : Int) (h : H) : Lp.spec_l9Fault 0 [fv s0_r s0_o, iv .i64 s4] h =
  (s0_r[s0_o + 1]?).bind fun x201 =>
  gF x201 fun z202 =>
  vcase (bv (decide (s4 < (z202.length : Int))))
  ((s0_r[s0_o + 1]?).bind fun x205 =>
  gF x205 fun z206 =>
  idxF 2 z206 s4 fun r207 =>
  (r207[0]?).bind fun x208 =>
  gI .i64 x208 fun i209 =>
  pcallS (call Ev) Fn.spec_l1In [iv .i64 i209, iv .i64 1, iv .i64 99] fun v210 =>
  gV1 v210 fun x211 =>
  gB x211 fun q212 =>
  vcase (bv (!q212))
  (some (.ret (iv .i64 3) h))
  ((s0_r[s0_o + 1]?).bind fun x214 =>
  gF x214 fun z215 =>
  idxF 2 z215 s4 fun r216 =>
  (r216[1]?).bind fun x217 =>
  gF x217 fun z218 =>
  pcallS (call Ev) Fn.spec_l9List [lv z218] fun v219 =>
  gV1 v219 fun x220 =>
  gI .i64 x220 fun i221 =>
  vcase (bv (i221 != 0))
  (some (.ret (iv .i64 i221) h))
  ((s0_r[s0_o + 1]?).bind fun x223 =>
  gF x223 fun z224 =>
  idxF 2 z224 s4 fun r225 =>
  (r225[0]?).bind fun x226 =>
  gI .i64 x226 fun i227 =>
  pcallS (call Ev) Fn.spec_l9At [normV 2 (fv s0_r s0_o), iv .i64 i227] fun v228 =>
  gV1 v228 fun x229 =>
  gI .i64 x229 fun i230 =>
  vcase (bv (i230 != s4))
  (some (.ret (iv .i64 6) h))
  (Lp.spec_l9Fault 0 [fv s0_r s0_o, iv .i64 (IntKind.i64.wrap (s4 + 1))] (tidy h [fv s0_r s0_o, iv .i64 (IntKind.i64.wrap (s4 + 1))] h)))))
  (some (.done [] (tidy h [] h))) := by
  unfold Lp.spec_l9Fault; rw [loop_eq]; kernel_rfl

theorem pu_spec_MinerFault (a0_0 : List (List S)) (a0_1 : List (List S)) : pureV (call Ev) Fn.spec_MinerFault [.agg [.fs a0_0, .fs a0_1]] =
  pcallS (call Ev) Fn.spec_l9Fault [fv [.fs a0_0, .fs a0_1] 0] fun v101 =>
  gV1 v101 fun x102 =>
  gI .i64 x102 fun i103 =>
  some (iv .i64 i103) := by
  rw [pure_eq]; kernel_rfl

theorem pu_laws_toRow (a0_0 : Int) (a0_1 : Int) (a0_2 : Int) (a0_3 : ByteArray) : pureV (call Ev) Fn.laws_toRow [.agg [.int .i64 a0_0, .int .i64 a0_1, .int .i64 a0_2, .str a0_3]] =
  some (.agg [.int .i64 a0_0, .int .i64 a0_1, .int .i64 a0_2, .str a0_3]) := by
  rw [pure_eq]; kernel_rfl

theorem pu_laws_toChange (a0_0 : Bool) (a0_1 : Int) (a0_2 : Int) (a0_3 : Int) (a0_4 : ByteArray) (a0_5 : Bool) (a0_6 : Int) (a0_7 : Int) (a0_8 : Int) (a0_9 : ByteArray) : pureV (call Ev) Fn.laws_toChange [.agg [.bool a0_0, .int .i64 a0_1, .int .i64 a0_2, .int .i64 a0_3, .str a0_4, .bool a0_5, .int .i64 a0_6, .int .i64 a0_7, .int .i64 a0_8, .str a0_9]] =
  pcallS (call Ev) Fn.laws_toRow [.agg [.int .i64 a0_1, .int .i64 a0_2, .int .i64 a0_3, .str a0_4]] fun v101 =>
  gVA v101 fun c102 =>
  (c102[0]?).bind fun x103 =>
  gI .i64 x103 fun i104 =>
  (c102[1]?).bind fun x105 =>
  gI .i64 x105 fun i106 =>
  (c102[2]?).bind fun x107 =>
  gI .i64 x107 fun i108 =>
  (c102[3]?).bind fun x109 =>
  gS x109 fun y110 =>
  if c102.length = 4 then
  pcallS (call Ev) Fn.laws_toRow [.agg [.int .i64 a0_6, .int .i64 a0_7, .int .i64 a0_8, .str a0_9]] fun v111 =>
  gVA v111 fun c112 =>
  (c112[0]?).bind fun x113 =>
  gI .i64 x113 fun i114 =>
  (c112[1]?).bind fun x115 =>
  gI .i64 x115 fun i116 =>
  (c112[2]?).bind fun x117 =>
  gI .i64 x117 fun i118 =>
  (c112[3]?).bind fun x119 =>
  gS x119 fun y120 =>
  if c112.length = 4 then
  some (.agg [.bool a0_0, .int .i64 i104, .int .i64 i106, .int .i64 i108, .str y110, .bool a0_5, .int .i64 i114, .int .i64 i116, .int .i64 i118, .str y120])
  else none
  else none := by
  rw [pure_eq]; kernel_rfl

theorem pu_laws_toChangeS (a0 : List (List S)) : pureV (call Ev) Fn.laws_toChangeS [lv a0] =
  (mkSl 10 [.bool false, .int .i64 0, .int .i64 0, .int .i64 0, .str ⟨#[]⟩, .bool false, .int .i64 0, .int .i64 0, .int .i64 0, .str ⟨#[]⟩] (D 0) (iv .i64 (a0.length : Int)) (iv .i64 (a0.length : Int))).bind fun p101 =>
  (Lp.laws_toChangeS 0 [lv a0, p101.1, iv .i64 0] p101.2).bind fun o102 => lcase o102 (fun l103 h104 =>
  (l103[0]?).bind fun w107 =>
  frzV h104 w107) (fun v105 h106 =>
  frzV h106 v105) := by
  rw [pure_eq]; kernel_rfl

theorem eq_laws_toChangeS_l0 (s0 : List (List S)) (s3 : V) (s4 : Int) (h : H) : Lp.laws_toChangeS 0 [lv s0, s3, iv .i64 s4] h =
  vcase (bv (decide (s4 < (s0.length : Int))))
  (idxF 10 s0 s4 fun r203 =>
  (rowN 10 r203 0).bind fun c204 =>
  (c204[0]?).bind fun x205 =>
  gB x205 fun q206 =>
  (c204[1]?).bind fun x207 =>
  gI .i64 x207 fun i208 =>
  (c204[2]?).bind fun x209 =>
  gI .i64 x209 fun i210 =>
  (c204[3]?).bind fun x211 =>
  gI .i64 x211 fun i212 =>
  (c204[4]?).bind fun x213 =>
  gS x213 fun y214 =>
  (c204[5]?).bind fun x215 =>
  gB x215 fun q216 =>
  (c204[6]?).bind fun x217 =>
  gI .i64 x217 fun i218 =>
  (c204[7]?).bind fun x219 =>
  gI .i64 x219 fun i220 =>
  (c204[8]?).bind fun x221 =>
  gI .i64 x221 fun i222 =>
  (c204[9]?).bind fun x223 =>
  gS x223 fun y224 =>
  if c204.length = 10 then
  pcallS (call Ev) Fn.laws_toChange [.agg [.bool q206, .int .i64 i208, .int .i64 i210, .int .i64 i212, .str y214, .bool q216, .int .i64 i218, .int .i64 i220, .int .i64 i222, .str y224]] fun v225 =>
  gVA v225 fun c226 =>
  (c226[0]?).bind fun x227 =>
  gB x227 fun q228 =>
  (c226[1]?).bind fun x229 =>
  gI .i64 x229 fun i230 =>
  (c226[2]?).bind fun x231 =>
  gI .i64 x231 fun i232 =>
  (c226[3]?).bind fun x233 =>
  gI .i64 x233 fun i234 =>
  (c226[4]?).bind fun x235 =>
  gS x235 fun y236 =>
  (c226[5]?).bind fun x237 =>
  gB x237 fun q238 =>
  (c226[6]?).bind fun x239 =>
  gI .i64 x239 fun i240 =>
  (c226[7]?).bind fun x241 =>
  gI .i64 x241 fun i242 =>
  (c226[8]?).bind fun x243 =>
  gI .i64 x243 fun i244 =>
  (c226[9]?).bind fun x245 =>
  gS x245 fun y246 =>
  if c226.length = 10 then
  idxK 10 s3 (iv .i64 s4) fun v247 =>
  stK 10 h v247 (.agg [.bool q228, .int .i64 i230, .int .i64 i232, .int .i64 i234, .str y236, .bool q238, .int .i64 i240, .int .i64 i242, .int .i64 i244, .str y246]) fun h248 =>
  Lp.laws_toChangeS 0 [lv s0, s3, iv .i64 (IntKind.i64.wrap (s4 + 1))] (tidy h [lv s0, s3, iv .i64 (IntKind.i64.wrap (s4 + 1))] h248)
  else none
  else none)
  (some (.done [s3] (tidy h [s3] h))) := by
  unfold Lp.laws_toChangeS; rw [loop_eq]; kernel_rfl

theorem pu_laws_toBuffer (a0_0 : Int) (a0_1 : List (List S)) : pureV (call Ev) Fn.laws_toBuffer [.agg [.int .i64 a0_0, .fs a0_1]] =
  (pureV (call Ev) Fn.laws_toChangeS [lv a0_1]).bind fun v101 =>
  gV1 v101 fun x102 =>
  gF x102 fun z103 =>
  some (.agg [.int .i64 a0_0, .fs z103]) := by
  rw [pure_eq]; kernel_rfl

theorem pu_laws_toBufferS (a0 : List (List S)) : pureV (call Ev) Fn.laws_toBufferS [lv a0] =
  (mkSl 2 [.int .i64 0, .sl none 0] (D 0) (iv .i64 (a0.length : Int)) (iv .i64 (a0.length : Int))).bind fun p101 =>
  (Lp.laws_toBufferS 0 [lv a0, p101.1, iv .i64 0] p101.2).bind fun o102 => lcase o102 (fun l103 h104 =>
  (l103[0]?).bind fun w107 =>
  frzV h104 w107) (fun v105 h106 =>
  frzV h106 v105) := by
  rw [pure_eq]; kernel_rfl

theorem eq_laws_toBufferS_l0 (s0 : List (List S)) (s3 : V) (s4 : Int) (h : H) : Lp.laws_toBufferS 0 [lv s0, s3, iv .i64 s4] h =
  vcase (bv (decide (s4 < (s0.length : Int))))
  (idxF 2 s0 s4 fun r203 =>
  (rowN 2 r203 0).bind fun c204 =>
  (c204[0]?).bind fun x205 =>
  gI .i64 x205 fun i206 =>
  (c204[1]?).bind fun x207 =>
  gF x207 fun z208 =>
  if c204.length = 2 then
  (pureV (call Ev) Fn.laws_toBuffer [.agg [.int .i64 i206, .fs z208]]).bind fun v209 =>
  gVA v209 fun c210 =>
  (c210[0]?).bind fun x211 =>
  gI .i64 x211 fun i212 =>
  (c210[1]?).bind fun x213 =>
  gF x213 fun z214 =>
  if c210.length = 2 then
  idxK 2 s3 (iv .i64 s4) fun v215 =>
  stK 2 h v215 (.agg [.int .i64 i212, .fs z214]) fun h216 =>
  Lp.laws_toBufferS 0 [lv s0, s3, iv .i64 (IntKind.i64.wrap (s4 + 1))] (tidy h [lv s0, s3, iv .i64 (IntKind.i64.wrap (s4 + 1))] h216)
  else none
  else none)
  (some (.done [s3] (tidy h [s3] h))) := by
  unfold Lp.laws_toBufferS; rw [loop_eq]; kernel_rfl

theorem pu_laws_toMiner (a0_0 : List (List S)) (a0_1 : List (List S)) : pureV (call Ev) Fn.laws_toMiner [.agg [.fs a0_0, .fs a0_1]] =
  (pureV (call Ev) Fn.laws_toByteSS [lv a0_0]).bind fun v101 =>
  gV1 v101 fun x102 =>
  gF x102 fun z103 =>
  (pureV (call Ev) Fn.laws_toBufferS [lv a0_1]).bind fun v104 =>
  gV1 v104 fun x105 =>
  gF x105 fun z106 =>
  some (.agg [.fs z103, .fs z106]) := by
  rw [pure_eq]; kernel_rfl

theorem pu_impl_isTx (a0 : Int) : pureV (call Ev) Fn.impl_isTx [iv .i64 a0] =
  pcallS (call Ev) Fn.impl_in [iv .i64 a0, iv .i64 1, iv .i64 99] fun v101 =>
  gV1 v101 fun x102 =>
  gB x102 fun q103 =>
  some (bv q103) := by
  rw [pure_eq]; kernel_rfl

noncomputable def Jn.impl_changeFault_0 (q221 : Bool) (a0_0 : Bool) (a0_1 : Int) (a0_2 : Int) (a0_3 : Int) (a0_4 : ByteArray) (a0_5 : Bool) (a0_6 : Int) (a0_7 : Int) (a0_8 : Int) (a0_9 : ByteArray) : Option (V) :=
  vcase (bv q221)
  (some (iv .i64 1))
  (vcase (bv a0_0)
  (pcallS (call Ev) Fn.impl_RowFault [.agg [.int .i64 a0_1, .int .i64 a0_2, .int .i64 a0_3, .str a0_4]] fun v224 =>
  gV1 v224 fun x225 =>
  gI .i64 x225 fun i226 =>
  vcase (bv (i226 != 0))
  (some (iv .i64 i226))
  (vcase (bv a0_5)
  (pcallS (call Ev) Fn.impl_RowFault [.agg [.int .i64 a0_6, .int .i64 a0_7, .int .i64 a0_8, .str a0_9]] fun v229 =>
  gV1 v229 fun x230 =>
  gI .i64 x230 fun i231 =>
  some (iv .i64 i231))
  (some (iv .i64 0))))
  (vcase (bv a0_5)
  (pcallS (call Ev) Fn.impl_RowFault [.agg [.int .i64 a0_6, .int .i64 a0_7, .int .i64 a0_8, .str a0_9]] fun v233 =>
  gV1 v233 fun x234 =>
  gI .i64 x234 fun i235 =>
  some (iv .i64 i235))
  (some (iv .i64 0))))

noncomputable def Jn.impl_changeFault_1 (q217 : Bool) (a0_0 : Bool) (a0_1 : Int) (a0_2 : Int) (a0_3 : Int) (a0_4 : ByteArray) (a0_5 : Bool) (a0_6 : Int) (a0_7 : Int) (a0_8 : Int) (a0_9 : ByteArray) : Option (V) :=
  Jn.impl_changeFault_0 q217 a0_0 a0_1 a0_2 a0_3 a0_4 a0_5 a0_6 a0_7 a0_8 a0_9

noncomputable def Jn.impl_changeFault_2 (q205 : Bool) (a0_0 : Bool) (a0_5 : Bool) (a0_1 : Int) (a0_2 : Int) (a0_3 : Int) (a0_4 : ByteArray) (a0_6 : Int) (a0_7 : Int) (a0_8 : Int) (a0_9 : ByteArray) : Option (V) :=
  vcase (bv q205)
  (Jn.impl_changeFault_0 true a0_0 a0_1 a0_2 a0_3 a0_4 a0_5 a0_6 a0_7 a0_8 a0_9)
  (vcase (bv a0_0)
  (vcase (bv a0_5)
  (pcallS (call Ev) Fn.impl_order [.agg [.int .i64 a0_1, .int .i64 a0_2, .int .i64 a0_3, .str a0_4], .agg [.int .i64 a0_6, .int .i64 a0_7, .int .i64 a0_8, .str a0_9]] fun v212 =>
  gV1 v212 fun x213 =>
  gI .i64 x213 fun i214 =>
  Jn.impl_changeFault_1 (i214 != 0) a0_0 a0_1 a0_2 a0_3 a0_4 a0_5 a0_6 a0_7 a0_8 a0_9)
  (Jn.impl_changeFault_1 false a0_0 a0_1 a0_2 a0_3 a0_4 a0_5 a0_6 a0_7 a0_8 a0_9))
  (Jn.impl_changeFault_0 false a0_0 a0_1 a0_2 a0_3 a0_4 a0_5 a0_6 a0_7 a0_8 a0_9))

theorem pu_impl_changeFault (a0_0 : Bool) (a0_1 : Int) (a0_2 : Int) (a0_3 : Int) (a0_4 : ByteArray) (a0_5 : Bool) (a0_6 : Int) (a0_7 : Int) (a0_8 : Int) (a0_9 : ByteArray) : pureV (call Ev) Fn.impl_changeFault [.agg [.bool a0_0, .int .i64 a0_1, .int .i64 a0_2, .int .i64 a0_3, .str a0_4, .bool a0_5, .int .i64 a0_6, .int .i64 a0_7, .int .i64 a0_8, .str a0_9]] =
  vcase (bv (!a0_0))
  (Jn.impl_changeFault_2 (!a0_5) a0_0 a0_5 a0_1 a0_2 a0_3 a0_4 a0_6 a0_7 a0_8 a0_9)
  (Jn.impl_changeFault_2 false a0_0 a0_5 a0_1 a0_2 a0_3 a0_4 a0_6 a0_7 a0_8 a0_9) := by
  rw [pure_eq]; kernel_rfl

theorem pu_impl_singleFault (a0_0 : Bool) (a0_1 : Int) (a0_2 : Int) (a0_3 : Int) (a0_4 : ByteArray) (a0_5 : Bool) (a0_6 : Int) (a0_7 : Int) (a0_8 : Int) (a0_9 : ByteArray) : pureV (call Ev) Fn.impl_singleFault [.agg [.bool a0_0, .int .i64 a0_1, .int .i64 a0_2, .int .i64 a0_3, .str a0_4, .bool a0_5, .int .i64 a0_6, .int .i64 a0_7, .int .i64 a0_8, .str a0_9]] =
  pcallS (call Ev) Fn.impl_changeFault [.agg [.bool a0_0, .int .i64 a0_1, .int .i64 a0_2, .int .i64 a0_3, .str a0_4, .bool a0_5, .int .i64 a0_6, .int .i64 a0_7, .int .i64 a0_8, .str a0_9]] fun v101 =>
  gV1 v101 fun x102 =>
  gI .i64 x102 fun i103 =>
  vcase (bv (i103 != 0))
  (some (iv .i64 i103))
  (vcase (bv a0_0)
  (vcase (bv a0_5)
  (vcase (bv (((a0_1 : Int) == a0_6) && (((a0_2 : Int) == a0_7) && (((a0_3 : Int) == a0_8) && (((a0_4 : ByteArray).toList == (a0_9 : ByteArray).toList) && true)))))
  (some (iv .i64 1))
  (some (iv .i64 0)))
  (some (iv .i64 0)))
  (some (iv .i64 0))) := by
  rw [pure_eq]; kernel_rfl

theorem pu_impl_Change_key (a0_0 : Bool) (a0_1 : Int) (a0_2 : Int) (a0_3 : Int) (a0_4 : ByteArray) (a0_5 : Bool) (a0_6 : Int) (a0_7 : Int) (a0_8 : Int) (a0_9 : ByteArray) : pureV (call Ev) Fn.impl_Change_key [.agg [.bool a0_0, .int .i64 a0_1, .int .i64 a0_2, .int .i64 a0_3, .str a0_4, .bool a0_5, .int .i64 a0_6, .int .i64 a0_7, .int .i64 a0_8, .str a0_9]] =
  vcase (bv a0_5)
  (some (.agg [.int .i64 a0_6, .int .i64 a0_7, .int .i64 a0_8, .str a0_9]))
  (some (.agg [.int .i64 a0_1, .int .i64 a0_2, .int .i64 a0_3, .str a0_4])) := by
  rw [pure_eq]; kernel_rfl

theorem pu_impl_foldedFault (a0 : List (List S)) : pureV (call Ev) Fn.impl_foldedFault [lv a0] =
  vcase (bv (decide ((a0.length : Int) > 60)))
  (some (iv .i64 2))
  ((Lp.impl_foldedFault 0 [lv a0, lv a0, iv .i64 (a0.length : Int), iv .i64 0] (D 0)).bind fun o102 => lcase o102 (fun l103 h104 =>
  some (iv .i64 0)) (fun v105 h106 =>
  frzV h106 v105)) := by
  rw [pure_eq]; kernel_rfl

theorem eq_impl_foldedFault_l0 (s0 : List (List S)) (s9 : List (List S)) (s10 : Int) (s11 : Int) (h : H) : Lp.impl_foldedFault 0 [lv s0, lv s9, iv .i64 s10, iv .i64 s11] h =
  vcase (bv (decide (s11 < s10)))
  (idxF 10 s9 s11 fun r203 =>
  (rowN 10 r203 0).bind fun c204 =>
  (c204[0]?).bind fun x205 =>
  gB x205 fun q206 =>
  (c204[1]?).bind fun x207 =>
  gI .i64 x207 fun i208 =>
  (c204[2]?).bind fun x209 =>
  gI .i64 x209 fun i210 =>
  (c204[3]?).bind fun x211 =>
  gI .i64 x211 fun i212 =>
  (c204[4]?).bind fun x213 =>
  gS x213 fun y214 =>
  (c204[5]?).bind fun x215 =>
  gB x215 fun q216 =>
  (c204[6]?).bind fun x217 =>
  gI .i64 x217 fun i218 =>
  (c204[7]?).bind fun x219 =>
  gI .i64 x219 fun i220 =>
  (c204[8]?).bind fun x221 =>
  gI .i64 x221 fun i222 =>
  (c204[9]?).bind fun x223 =>
  gS x223 fun y224 =>
  if c204.length = 10 then
  stK 10 (h.new 0 [.bool false, .int .i64 0, .int .i64 0, .int .i64 0, .str (⟨#[]⟩), .bool false, .int .i64 0, .int .i64 0, .int .i64 0, .str (⟨#[]⟩)]) (pv h.n 0) (.agg [.bool q206, .int .i64 i208, .int .i64 i210, .int .i64 i212, .str y214, .bool q216, .int .i64 i218, .int .i64 i220, .int .i64 i222, .str y224]) fun h225 =>
  (loadN 10 h225 (pv h.n 0)).bind fun c226 =>
  (c226[0]?).bind fun x227 =>
  gB x227 fun q228 =>
  (c226[1]?).bind fun x229 =>
  gI .i64 x229 fun i230 =>
  (c226[2]?).bind fun x231 =>
  gI .i64 x231 fun i232 =>
  (c226[3]?).bind fun x233 =>
  gI .i64 x233 fun i234 =>
  (c226[4]?).bind fun x235 =>
  gS x235 fun y236 =>
  (c226[5]?).bind fun x237 =>
  gB x237 fun q238 =>
  (c226[6]?).bind fun x239 =>
  gI .i64 x239 fun i240 =>
  (c226[7]?).bind fun x241 =>
  gI .i64 x241 fun i242 =>
  (c226[8]?).bind fun x243 =>
  gI .i64 x243 fun i244 =>
  (c226[9]?).bind fun x245 =>
  gS x245 fun y246 =>
  if c226.length = 10 then
  pcallS (call Ev) Fn.impl_singleFault [.agg [.bool q228, .int .i64 i230, .int .i64 i232, .int .i64 i234, .str y236, .bool q238, .int .i64 i240, .int .i64 i242, .int .i64 i244, .str y246]] fun v247 =>
  gV1 v247 fun x248 =>
  gI .i64 x248 fun i249 =>
  vcase (bv (i249 != 0))
  (some (.ret (iv .i64 i249) h225))
  (vcase (bv (decide (s11 > 0)))
  (idxF 10 s0 (IntKind.i64.wrap (s11 - 1)) fun r252 =>
  (rowN 10 r252 0).bind fun c253 =>
  (c253[0]?).bind fun x254 =>
  gB x254 fun q255 =>
  (c253[1]?).bind fun x256 =>
  gI .i64 x256 fun i257 =>
  (c253[2]?).bind fun x258 =>
  gI .i64 x258 fun i259 =>
  (c253[3]?).bind fun x260 =>
  gI .i64 x260 fun i261 =>
  (c253[4]?).bind fun x262 =>
  gS x262 fun y263 =>
  (c253[5]?).bind fun x264 =>
  gB x264 fun q265 =>
  (c253[6]?).bind fun x266 =>
  gI .i64 x266 fun i267 =>
  (c253[7]?).bind fun x268 =>
  gI .i64 x268 fun i269 =>
  (c253[8]?).bind fun x270 =>
  gI .i64 x270 fun i271 =>
  (c253[9]?).bind fun x272 =>
  gS x272 fun y273 =>
  if c253.length = 10 then
  (loadN 10 h225 (pv h.n 0)).bind fun c274 =>
  (c274[0]?).bind fun x275 =>
  gB x275 fun q276 =>
  (c274[1]?).bind fun x277 =>
  gI .i64 x277 fun i278 =>
  (c274[2]?).bind fun x279 =>
  gI .i64 x279 fun i280 =>
  (c274[3]?).bind fun x281 =>
  gI .i64 x281 fun i282 =>
  (c274[4]?).bind fun x283 =>
  gS x283 fun y284 =>
  (c274[5]?).bind fun x285 =>
  gB x285 fun q286 =>
  (c274[6]?).bind fun x287 =>
  gI .i64 x287 fun i288 =>
  (c274[7]?).bind fun x289 =>
  gI .i64 x289 fun i290 =>
  (c274[8]?).bind fun x291 =>
  gI .i64 x291 fun i292 =>
  (c274[9]?).bind fun x293 =>
  gS x293 fun y294 =>
  if c274.length = 10 then
  pcallS (call Ev) Fn.impl_Change_key [.agg [.bool q255, .int .i64 i257, .int .i64 i259, .int .i64 i261, .str y263, .bool q265, .int .i64 i267, .int .i64 i269, .int .i64 i271, .str y273]] fun v295 =>
  gVA v295 fun c296 =>
  (c296[0]?).bind fun x297 =>
  gI .i64 x297 fun i298 =>
  (c296[1]?).bind fun x299 =>
  gI .i64 x299 fun i300 =>
  (c296[2]?).bind fun x301 =>
  gI .i64 x301 fun i302 =>
  (c296[3]?).bind fun x303 =>
  gS x303 fun y304 =>
  if c296.length = 4 then
  hchk h225 h225 (
  pcallS (call Ev) Fn.impl_Change_key [.agg [.bool q276, .int .i64 i278, .int .i64 i280, .int .i64 i282, .str y284, .bool q286, .int .i64 i288, .int .i64 i290, .int .i64 i292, .str y294]] fun v305 =>
  gVA v305 fun c306 =>
  (c306[0]?).bind fun x307 =>
  gI .i64 x307 fun i308 =>
  (c306[1]?).bind fun x309 =>
  gI .i64 x309 fun i310 =>
  (c306[2]?).bind fun x311 =>
  gI .i64 x311 fun i312 =>
  (c306[3]?).bind fun x313 =>
  gS x313 fun y314 =>
  if c306.length = 4 then
  hchk h225 h225 (
  pcallS (call Ev) Fn.impl_IsBefore [.agg [.int .i64 i298, .int .i64 i300, .int .i64 i302, .str y304], .agg [.int .i64 i308, .int .i64 i310, .int .i64 i312, .str y314]] fun v315 =>
  gV1 v315 fun x316 =>
  gB x316 fun q317 =>
  hchk h225 h225 (
  vcase (bv (!q317))
  (some (.ret (iv .i64 1) h225))
  (Lp.impl_foldedFault 0 [lv s0, lv s9, iv .i64 s10, iv .i64 (IntKind.i64.wrap (s11 + 1))] (tidy h [lv s0, lv s9, iv .i64 s10, iv .i64 (IntKind.i64.wrap (s11 + 1))] h225))))
  else none)
  else none
  else none
  else none)
  (hchk h225 h225 (
  hchk h225 h225 (
  hchk h225 h225 (
  Lp.impl_foldedFault 0 [lv s0, lv s9, iv .i64 s10, iv .i64 (IntKind.i64.wrap (s11 + 1))] (tidy h [lv s0, lv s9, iv .i64 s10, iv .i64 (IntKind.i64.wrap (s11 + 1))] h225))))))
  else none
  else none)
  (some (.done [] (tidy h [] h))) := by
  unfold Lp.impl_foldedFault; rw [loop_eq]; kernel_rfl

theorem eq_slices_IndexFunc_impl_Buffer_impl_Buffer (a0 : V) (a1 : V) (h : H) : call Ev Fn.slices_IndexFunc_impl_Buffer_impl_Buffer [a0, a1] h =
  (lenV (.sl 105) a0).bind fun v101 =>
  gV1 v101 fun x102 =>
  gI .i64 x102 fun i103 =>
  (Lp.slices_IndexFunc_impl_Buffer_impl_Buffer 0 [a0, a1, iv .i64 i103, iv .i64 0] h).bind fun o104 => lcase o104 (fun l105 h106 =>
  some (iv .i64 (-1), h106)) (fun v107 h108 =>
  some (v107, h108)) := by
  rw [call_eq]; kernel_rfl

theorem eq_slices_IndexFunc_impl_Buffer_impl_Buffer_l0 (s0 : V) (s1 : V) (s7 : Int) (s8 : Int) (h : H) : Lp.slices_IndexFunc_impl_Buffer_impl_Buffer 0 [s0, s1, iv .i64 s7, iv .i64 s8] h =
  vcase (bv (decide (s8 < s7)))
  (idxK 2 s0 (iv .i64 s8) fun v203 =>
  ldK (.agg [.i .i64, .f]) ⟨2, 32, [.int .i64 0, .sl none 0], true, .st [(0, 2), (1, 41)], false⟩ h v203 fun v204 =>
  gVA v204 fun c205 =>
  (c205[0]?).bind fun x206 =>
  gI .i64 x206 fun i207 =>
  (c205[1]?).bind fun x208 =>
  if c205.length = 2 then
  fnK s1 fun j209 m210 =>
  (frzVs h ([.agg [.int .i64 i207, x208]] ++ m210.map fun p => .s (.ptr (some p)))).bind fun l211 =>
  pcallS (call Ev) j209 (normVs (Ev.psz j209) l211) fun v212 =>
  Vm.tyV (Ev.rt j209) v212 fun v213 =>
  gV1 v213 fun x214 =>
  gB x214 fun q215 =>
  vcase (bv q215)
  (some (.ret (iv .i64 s8) h))
  (Lp.slices_IndexFunc_impl_Buffer_impl_Buffer 0 [s0, s1, iv .i64 s7, iv .i64 (IntKind.i64.wrap (s8 + 1))] (tidy h [s0, s1, iv .i64 s7, iv .i64 (IntKind.i64.wrap (s8 + 1))] h))
  else none)
  (some (.done [] (tidy h [] h))) := by
  unfold Lp.slices_IndexFunc_impl_Buffer_impl_Buffer; rw [loop_eq]; kernel_rfl

theorem pu_impl_Miner_open_1 (a0_0 : Int) (a0_1 : List (List S)) (f0 : List S) (g0 : Nat) : pureV (call Ev) Fn.impl_Miner_open_1 [.agg [.int .i64 a0_0, .fs a0_1], fv f0 g0] =
  (f0[g0]?).bind fun x101 =>
  gI .i64 x101 fun i102 =>
  some (bv (a0_0 == i102)) := by
  rw [pure_eq]; kernel_rfl

theorem pu_impl_Miner_open (a0_0 : List (List S)) (a0_1 : List (List S)) (a1 : Int) : pureV (call Ev) Fn.impl_Miner_open [.agg [.fs a0_0, .fs a0_1], iv .i64 a1] =
  (call Ev Fn.slices_IndexFunc_impl_Buffer_impl_Buffer [lv a0_1, .s (.fn Fn.impl_Miner_open_1 [(1, 0)])] (((D 0).new 0 [.fs a0_0, .fs a0_1]).new 0 [.int .i64 a1])).bind fun p101 =>
  gV1 p101.1 fun x102 =>
  gI .i64 x102 fun i103 =>
  some (iv .i64 i103) := by
  rw [pure_eq]; kernel_rfl

theorem pu_impl_MinerFault (a0_0 : List (List S)) (a0_1 : List (List S)) : pureV (call Ev) Fn.impl_MinerFault [.agg [.fs a0_0, .fs a0_1]] =
  pcallS (call Ev) Fn.impl_PagesFault [lv a0_0] fun v101 =>
  gV1 v101 fun x102 =>
  gI .i64 x102 fun i103 =>
  vcase (bv (i103 != 0))
  (some (iv .i64 i103))
  (vcase (bv (decide ((a0_1.length : Int) > 8)))
  (some (iv .i64 2))
  ((Lp.impl_MinerFault 0 [pv 0 0, lv a0_1, iv .i64 (a0_1.length : Int), iv .i64 0] ((D 0).new 0 [.fs a0_0, .fs a0_1])).bind fun o106 => lcase o106 (fun l107 h108 =>
  some (iv .i64 0)) (fun v109 h110 =>
  frzV h110 v109))) := by
  rw [pure_eq]; kernel_rfl

theorem eq_impl_MinerFault_l0 (s1 : V) (s18 : V) (s19 : Int) (s20 : Int) (h : H) : Lp.impl_MinerFault 0 [s1, s18, iv .i64 s19, iv .i64 s20] h =
  vcase (bv (decide (s20 < s19)))
  (idxK 2 s18 (iv .i64 s20) fun v203 =>
  ldK (.agg [.i .i64, .f]) ⟨2, 32, [.int .i64 0, .sl none 0], true, .st [(0, 2), (1, 41)], false⟩ h v203 fun v204 =>
  gVA v204 fun c205 =>
  (c205[0]?).bind fun x206 =>
  gI .i64 x206 fun i207 =>
  (c205[1]?).bind fun x208 =>
  if c205.length = 2 then
  stK 2 (h.new 0 [.int .i64 0, .sl none 0]) (pv h.n 0) (.agg [.int .i64 i207, x208]) fun h209 =>
  (load1 h209 (pv h.n 0)).bind fun x210 =>
  gI .i64 x210 fun i211 =>
  pcallS (call Ev) Fn.impl_isTx [iv .i64 i211] fun v212 =>
  gV1 v212 fun x213 =>
  gB x213 fun q214 =>
  vcase (bv (!q214))
  (some (.ret (iv .i64 3) h209))
  ((load1 h209 (pv h.n 1)).bind fun x216 =>
  (frzVs h209 [.s x216]).bind fun l217 =>
  pcallS (call Ev) Fn.impl_foldedFault (normVs [] l217) fun v218 =>
  gV1 v218 fun x219 =>
  gI .i64 x219 fun i220 =>
  vcase (bv (i220 != 0))
  (some (.ret (iv .i64 i220) h209))
  (ldK (.agg [.f, .f]) ⟨2, 48, [.sl none 0, .sl none 0], true, .st [(0, 22), (1, 42)], false⟩ h209 s1 fun v222 =>
  gVA v222 fun c223 =>
  (c223[0]?).bind fun x224 =>
  (c223[1]?).bind fun x225 =>
  if c223.length = 2 then
  (load1 h209 (pv h.n 0)).bind fun x226 =>
  gI .i64 x226 fun i227 =>
  (frzVs h209 [.agg [x224, x225], iv .i64 i227]).bind fun l228 =>
  pcallS (call Ev) Fn.impl_Miner_open (normVs [] l228) fun v229 =>
  gV1 v229 fun x230 =>
  gI .i64 x230 fun i231 =>
  vcase (bv (decide (i231 < s20)))
  (some (.ret (iv .i64 6) h209))
  (Lp.impl_MinerFault 0 [s1, s18, iv .i64 s19, iv .i64 (IntKind.i64.wrap (s20 + 1))] (tidy h [s1, s18, iv .i64 s19, iv .i64 (IntKind.i64.wrap (s20 + 1))] h209))
  else none))
  else none)
  (some (.done [] (tidy h [] h))) := by
  unfold Lp.impl_MinerFault; rw [loop_eq]; kernel_rfl

theorem pu_laws_FnExactMinerFault (a0_0 : List (List S)) (a0_1 : List (List S)) : pureV (call Ev) Fn.laws_FnExactMinerFault [.agg [.fs a0_0, .fs a0_1]] =
  pcallS (call Ev) Fn.laws_szMiner [.agg [.fs a0_0, .fs a0_1], iv .i64 1048576] fun v101 =>
  gV1 v101 fun x102 =>
  gI .i64 x102 fun i103 =>
  vcase (bv (decide (i103 < 0)))
  (some (bv true))
  ((pureV (call Ev) Fn.laws_toMiner [.agg [.fs a0_0, .fs a0_1]]).bind fun v105 =>
  gVA v105 fun c106 =>
  (c106[0]?).bind fun x107 =>
  gF x107 fun z108 =>
  (c106[1]?).bind fun x109 =>
  gF x109 fun z110 =>
  if c106.length = 2 then
  pcallS (call Ev) Fn.spec_MinerFault [.agg [.fs z108, .fs z110]] fun v111 =>
  gV1 v111 fun x112 =>
  gI .i64 x112 fun i113 =>
  (pureV (call Ev) Fn.laws_toMiner [.agg [.fs a0_0, .fs a0_1]]).bind fun v114 =>
  gVA v114 fun c115 =>
  (c115[0]?).bind fun x116 =>
  gF x116 fun z117 =>
  (c115[1]?).bind fun x118 =>
  gF x118 fun z119 =>
  if c115.length = 2 then
  pcallS (call Ev) Fn.impl_MinerFault [.agg [.fs z117, .fs z119]] fun v120 =>
  gV1 v120 fun x121 =>
  gI .i64 x121 fun i122 =>
  vcase (bv (i122 != i113))
  (some (bv false))
  ((pureV (call Ev) Fn.laws_toMiner [.agg [.fs a0_0, .fs a0_1]]).bind fun v124 =>
  gVA v124 fun c125 =>
  (c125[0]?).bind fun x126 =>
  gF x126 fun z127 =>
  (c125[1]?).bind fun x128 =>
  gF x128 fun z129 =>
  if c125.length = 2 then
  hchk ((((D 0).new 0 [.fs a0_0, .fs a0_1]).new 0 [.sl none 0, .sl none 0]).put 1 (.rw 0 [.fs z117, .fs z119])) ((((D 0).new 0 [.fs a0_0, .fs a0_1]).new 0 [.sl none 0, .sl none 0]).put 1 (.rw 0 [.fs z117, .fs z119])) (
  pcallS (call Ev) Fn.laws_eqMiner [.agg [.fs z117, .fs z119], .agg [.fs z127, .fs z129]] fun v130 =>
  gV1 v130 fun x131 =>
  gB x131 fun q132 =>
  hchk ((((D 0).new 0 [.fs a0_0, .fs a0_1]).new 0 [.sl none 0, .sl none 0]).put 1 (.rw 0 [.fs z117, .fs z119])) ((((D 0).new 0 [.fs a0_0, .fs a0_1]).new 0 [.sl none 0, .sl none 0]).put 1 (.rw 0 [.fs z117, .fs z119])) (
  hchk ((((D 0).new 0 [.fs a0_0, .fs a0_1]).new 0 [.sl none 0, .sl none 0]).put 1 (.rw 0 [.fs z117, .fs z119])) ((((D 0).new 0 [.fs a0_0, .fs a0_1]).new 0 [.sl none 0, .sl none 0]).put 1 (.rw 0 [.fs z117, .fs z119])) (
  vcase (bv (!q132))
  (some (bv false))
  (some (bv true)))))
  else none)
  else none
  else none) := by
  rw [pure_eq]; kernel_rfl

end Vm
