/-
  What each function, and each round of each loop, comes to in the small machine. Written by a program (gen3.py).
-/
import Derived.Test.YtpdoloemacmbaaaEnv
set_option linter.unusedVariables false
set_option maxRecDepth 100000
namespace Vm
open Go

noncomputable def Jn.spec_l6Change_0 (q213 : Bool) (w214 : V) (w215 : V) (w216 : V) (w217 : V) (w218 : V) (w219 : V) (w220 : V) (w221 : V) (w222 : V) (w223 : V) (w224 : V) (w225 : V) (w226 : V) (w227 : V) (w228 : V) (w229 : V) (w230 : V) (w231 : V) (w232 : V) (w233 : V) (w234 : V) (w235 : V) (w236 : V) (w237 : V) (w238 : V) (w239 : V) (w240 : V) (w241 : V) (w242 : V) (w243 : V) (w244 : V) (w245 : V) (w246 : V) (w247 : V) (w248 : V) (w249 : V) (q250 : Bool) (a0_0 : Bool) (a0_1 : Int) (a0_2 : Int) (a0_3 : Int) (a0_4 : ByteArray) (a0_5 : Bool) (a0_6 : Int) (a0_7 : Int) (a0_8 : Int) (a0_9 : ByteArray) : Option (V) :=
  vcase (bv q250)
  (some (iv .i64 1))
  (vcase (bv a0_0)
  (pcallS (call Ev) Fn.spec_l1Fault [fv [.int .i64 a0_1, .int .i64 a0_2, .int .i64 a0_3, .str a0_4] 0] fun v253 =>
  gV1 v253 fun x254 =>
  gI .i64 x254 fun i255 =>
  vcase (bv (i255 != 0))
  (some (iv .i64 i255))
  (vcase (bv a0_5)
  (pcallS (call Ev) Fn.spec_l1Fault [fv [.int .i64 a0_6, .int .i64 a0_7, .int .i64 a0_8, .str a0_9] 0] fun v258 =>
  gV1 v258 fun x259 =>
  gI .i64 x259 fun i260 =>
  some (iv .i64 i260))
  (some (iv .i64 0))))
  (vcase (bv a0_5)
  (pcallS (call Ev) Fn.spec_l1Fault [fv [.int .i64 a0_6, .int .i64 a0_7, .int .i64 a0_8, .str a0_9] 0] fun v262 =>
  gV1 v262 fun x263 =>
  gI .i64 x263 fun i264 =>
  some (iv .i64 i264))
  (some (iv .i64 0))))

noncomputable def Jn.spec_l6Change_1 (q189 : Bool) (w190 : V) (w191 : V) (w192 : V) (w193 : V) (w194 : V) (q195 : Bool) (a0_0 : Bool) (a0_5 : Bool) (a0_1 : Int) (a0_6 : Int) (a0_2 : Int) (a0_3 : Int) (a0_4 : ByteArray) (a0_7 : Int) (a0_8 : Int) (a0_9 : ByteArray) : Option (V) :=
  vcase (bv q195)
  (Jn.spec_l6Change_0 true (.tup []) (.tup []) (.tup []) (.tup []) (.tup []) (.tup []) (.tup []) (.tup []) (.tup []) (.tup []) (.tup []) (.tup []) (.tup []) (.tup []) (.tup []) (.tup []) (.tup []) (.tup []) (.tup []) (.tup []) (.tup []) (.tup []) (.tup []) (.tup []) (.tup []) (.tup []) (.tup []) (.tup []) (.tup []) (.tup []) (.tup []) (.tup []) (.tup []) (.tup []) (.tup []) (.tup []) true a0_0 a0_1 a0_2 a0_3 a0_4 a0_5 a0_6 a0_7 a0_8 a0_9)
  (vcase (bv a0_0)
  (vcase (bv a0_5)
  (vcase (bv (a0_1 != a0_6))
  (Jn.spec_l6Change_0 false (fv [.bool a0_0, .int .i64 a0_1, .int .i64 a0_2, .int .i64 a0_3, .str a0_4, .bool a0_5, .int .i64 a0_6, .int .i64 a0_7, .int .i64 a0_8, .str a0_9] 0) (fv [.bool a0_0, .int .i64 a0_1, .int .i64 a0_2, .int .i64 a0_3, .str a0_4, .bool a0_5, .int .i64 a0_6, .int .i64 a0_7, .int .i64 a0_8, .str a0_9] 0) (fv [.bool a0_0, .int .i64 a0_1, .int .i64 a0_2, .int .i64 a0_3, .str a0_4, .bool a0_5, .int .i64 a0_6, .int .i64 a0_7, .int .i64 a0_8, .str a0_9] 0) (bv a0_0) (bv true) (fv [.bool a0_0, .int .i64 a0_1, .int .i64 a0_2, .int .i64 a0_3, .str a0_4, .bool a0_5, .int .i64 a0_6, .int .i64 a0_7, .int .i64 a0_8, .str a0_9] 0) (fv [.bool a0_0, .int .i64 a0_1, .int .i64 a0_2, .int .i64 a0_3, .str a0_4, .bool a0_5, .int .i64 a0_6, .int .i64 a0_7, .int .i64 a0_8, .str a0_9] 0) (fv [.bool a0_0, .int .i64 a0_1, .int .i64 a0_2, .int .i64 a0_3, .str a0_4, .bool a0_5, .int .i64 a0_6, .int .i64 a0_7, .int .i64 a0_8, .str a0_9] 5) (bv a0_5) (bv a0_5) (bv true) (fv [.bool a0_0, .int .i64 a0_1, .int .i64 a0_2, .int .i64 a0_3, .str a0_4, .bool a0_5, .int .i64 a0_6, .int .i64 a0_7, .int .i64 a0_8, .str a0_9] 0) (fv [.bool a0_0, .int .i64 a0_1, .int .i64 a0_2, .int .i64 a0_3, .str a0_4, .bool a0_5, .int .i64 a0_6, .int .i64 a0_7, .int .i64 a0_8, .str a0_9] 0) (fv [.bool a0_0, .int .i64 a0_1, .int .i64 a0_2, .int .i64 a0_3, .str a0_4, .bool a0_5, .int .i64 a0_6, .int .i64 a0_7, .int .i64 a0_8, .str a0_9] 1) (fv [.bool a0_0, .int .i64 a0_1, .int .i64 a0_2, .int .i64 a0_3, .str a0_4, .bool a0_5, .int .i64 a0_6, .int .i64 a0_7, .int .i64 a0_8, .str a0_9] 1) (iv .i64 a0_1) (fv [.bool a0_0, .int .i64 a0_1, .int .i64 a0_2, .int .i64 a0_3, .str a0_4, .bool a0_5, .int .i64 a0_6, .int .i64 a0_7, .int .i64 a0_8, .str a0_9] 0) (fv [.bool a0_0, .int .i64 a0_1, .int .i64 a0_2, .int .i64 a0_3, .str a0_4, .bool a0_5, .int .i64 a0_6, .int .i64 a0_7, .int .i64 a0_8, .str a0_9] 0) (fv [.bool a0_0, .int .i64 a0_1, .int .i64 a0_2, .int .i64 a0_3, .str a0_4, .bool a0_5, .int .i64 a0_6, .int .i64 a0_7, .int .i64 a0_8, .str a0_9] 6) (fv [.bool a0_0, .int .i64 a0_1, .int .i64 a0_2, .int .i64 a0_3, .str a0_4, .bool a0_5, .int .i64 a0_6, .int .i64 a0_7, .int .i64 a0_8, .str a0_9] 6) (iv .i64 a0_6) (bv (a0_1 != a0_6)) (bv true) (.tup []) (.tup []) (.tup []) (.tup []) (.tup []) (.tup []) (.tup []) (.tup []) (.tup []) (.tup []) (.tup []) (bv true) (bv true) true a0_0 a0_1 a0_2 a0_3 a0_4 a0_5 a0_6 a0_7 a0_8 a0_9)
  (Jn.spec_l6Change_0 false (fv [.bool a0_0, .int .i64 a0_1, .int .i64 a0_2, .int .i64 a0_3, .str a0_4, .bool a0_5, .int .i64 a0_6, .int .i64 a0_7, .int .i64 a0_8, .str a0_9] 0) (fv [.bool a0_0, .int .i64 a0_1, .int .i64 a0_2, .int .i64 a0_3, .str a0_4, .bool a0_5, .int .i64 a0_6, .int .i64 a0_7, .int .i64 a0_8, .str a0_9] 0) (fv [.bool a0_0, .int .i64 a0_1, .int .i64 a0_2, .int .i64 a0_3, .str a0_4, .bool a0_5, .int .i64 a0_6, .int .i64 a0_7, .int .i64 a0_8, .str a0_9] 0) (bv a0_0) (bv true) (fv [.bool a0_0, .int .i64 a0_1, .int .i64 a0_2, .int .i64 a0_3, .str a0_4, .bool a0_5, .int .i64 a0_6, .int .i64 a0_7, .int .i64 a0_8, .str a0_9] 0) (fv [.bool a0_0, .int .i64 a0_1, .int .i64 a0_2, .int .i64 a0_3, .str a0_4, .bool a0_5, .int .i64 a0_6, .int .i64 a0_7, .int .i64 a0_8, .str a0_9] 0) (fv [.bool a0_0, .int .i64 a0_1, .int .i64 a0_2, .int .i64 a0_3, .str a0_4, .bool a0_5, .int .i64 a0_6, .int .i64 a0_7, .int .i64 a0_8, .str a0_9] 5) (bv a0_5) (bv a0_5) (bv true) (fv [.bool a0_0, .int .i64 a0_1, .int .i64 a0_2, .int .i64 a0_3, .str a0_4, .bool a0_5, .int .i64 a0_6, .int .i64 a0_7, .int .i64 a0_8, .str a0_9] 0) (fv [.bool a0_0, .int .i64 a0_1, .int .i64 a0_2, .int .i64 a0_3, .str a0_4, .bool a0_5, .int .i64 a0_6, .int .i64 a0_7, .int .i64 a0_8, .str a0_9] 0) (fv [.bool a0_0, .int .i64 a0_1, .int .i64 a0_2, .int .i64 a0_3, .str a0_4, .bool a0_5, .int .i64 a0_6, .int .i64 a0_7, .int .i64 a0_8, .str a0_9] 1) (fv [.bool a0_0, .int .i64 a0_1, .int .i64 a0_2, .int .i64 a0_3, .str a0_4, .bool a0_5, .int .i64 a0_6, .int .i64 a0_7, .int .i64 a0_8, .str a0_9] 1) (iv .i64 a0_1) (fv [.bool a0_0, .int .i64 a0_1, .int .i64 a0_2, .int .i64 a0_3, .str a0_4, .bool a0_5, .int .i64 a0_6, .int .i64 a0_7, .int .i64 a0_8, .str a0_9] 0) (fv [.bool a0_0, .int .i64 a0_1, .int .i64 a0_2, .int .i64 a0_3, .str a0_4, .bool a0_5, .int .i64 a0_6, .int .i64 a0_7, .int .i64 a0_8, .str a0_9] 0) (fv [.bool a0_0, .int .i64 a0_1, .int .i64 a0_2, .int .i64 a0_3, .str a0_4, .bool a0_5, .int .i64 a0_6, .int .i64 a0_7, .int .i64 a0_8, .str a0_9] 6) (fv [.bool a0_0, .int .i64 a0_1, .int .i64 a0_2, .int .i64 a0_3, .str a0_4, .bool a0_5, .int .i64 a0_6, .int .i64 a0_7, .int .i64 a0_8, .str a0_9] 6) (iv .i64 a0_6) (bv (a0_1 != a0_6)) (bv false) (fv [.bool a0_0, .int .i64 a0_1, .int .i64 a0_2, .int .i64 a0_3, .str a0_4, .bool a0_5, .int .i64 a0_6, .int .i64 a0_7, .int .i64 a0_8, .str a0_9] 0) (fv [.bool a0_0, .int .i64 a0_1, .int .i64 a0_2, .int .i64 a0_3, .str a0_4, .bool a0_5, .int .i64 a0_6, .int .i64 a0_7, .int .i64 a0_8, .str a0_9] 0) (fv [.bool a0_0, .int .i64 a0_1, .int .i64 a0_2, .int .i64 a0_3, .str a0_4, .bool a0_5, .int .i64 a0_6, .int .i64 a0_7, .int .i64 a0_8, .str a0_9] 1) (fv [.bool a0_0, .int .i64 a0_1, .int .i64 a0_2, .int .i64 a0_3, .str a0_4, .bool a0_5, .int .i64 a0_6, .int .i64 a0_7, .int .i64 a0_8, .str a0_9] 2) (iv .i64 a0_2) (fv [.bool a0_0, .int .i64 a0_1, .int .i64 a0_2, .int .i64 a0_3, .str a0_4, .bool a0_5, .int .i64 a0_6, .int .i64 a0_7, .int .i64 a0_8, .str a0_9] 0) (fv [.bool a0_0, .int .i64 a0_1, .int .i64 a0_2, .int .i64 a0_3, .str a0_4, .bool a0_5, .int .i64 a0_6, .int .i64 a0_7, .int .i64 a0_8, .str a0_9] 0) (fv [.bool a0_0, .int .i64 a0_1, .int .i64 a0_2, .int .i64 a0_3, .str a0_4, .bool a0_5, .int .i64 a0_6, .int .i64 a0_7, .int .i64 a0_8, .str a0_9] 6) (fv [.bool a0_0, .int .i64 a0_1, .int .i64 a0_2, .int .i64 a0_3, .str a0_4, .bool a0_5, .int .i64 a0_6, .int .i64 a0_7, .int .i64 a0_8, .str a0_9] 7) (iv .i64 a0_7) (bv (a0_2 != a0_7)) (bv (a0_2 != a0_7)) (bv (a0_2 != a0_7)) (a0_2 != a0_7) a0_0 a0_1 a0_2 a0_3 a0_4 a0_5 a0_6 a0_7 a0_8 a0_9))
  (Jn.spec_l6Change_0 false (fv [.bool a0_0, .int .i64 a0_1, .int .i64 a0_2, .int .i64 a0_3, .str a0_4, .bool a0_5, .int .i64 a0_6, .int .i64 a0_7, .int .i64 a0_8, .str a0_9] 0) (fv [.bool a0_0, .int .i64 a0_1, .int .i64 a0_2, .int .i64 a0_3, .str a0_4, .bool a0_5, .int .i64 a0_6, .int .i64 a0_7, .int .i64 a0_8, .str a0_9] 0) (fv [.bool a0_0, .int .i64 a0_1, .int .i64 a0_2, .int .i64 a0_3, .str a0_4, .bool a0_5, .int .i64 a0_6, .int .i64 a0_7, .int .i64 a0_8, .str a0_9] 0) (bv a0_0) (bv true) (fv [.bool a0_0, .int .i64 a0_1, .int .i64 a0_2, .int .i64 a0_3, .str a0_4, .bool a0_5, .int .i64 a0_6, .int .i64 a0_7, .int .i64 a0_8, .str a0_9] 0) (fv [.bool a0_0, .int .i64 a0_1, .int .i64 a0_2, .int .i64 a0_3, .str a0_4, .bool a0_5, .int .i64 a0_6, .int .i64 a0_7, .int .i64 a0_8, .str a0_9] 0) (fv [.bool a0_0, .int .i64 a0_1, .int .i64 a0_2, .int .i64 a0_3, .str a0_4, .bool a0_5, .int .i64 a0_6, .int .i64 a0_7, .int .i64 a0_8, .str a0_9] 5) (bv a0_5) (bv a0_5) (bv false) (.tup []) (.tup []) (.tup []) (.tup []) (.tup []) (.tup []) (.tup []) (.tup []) (.tup []) (.tup []) (.tup []) (.tup []) (.tup []) (.tup []) (.tup []) (.tup []) (.tup []) (.tup []) (.tup []) (.tup []) (.tup []) (.tup []) (.tup []) (.tup []) (bv false) false a0_0 a0_1 a0_2 a0_3 a0_4 a0_5 a0_6 a0_7 a0_8 a0_9))
  (Jn.spec_l6Change_0 false (fv [.bool a0_0, .int .i64 a0_1, .int .i64 a0_2, .int .i64 a0_3, .str a0_4, .bool a0_5, .int .i64 a0_6, .int .i64 a0_7, .int .i64 a0_8, .str a0_9] 0) (fv [.bool a0_0, .int .i64 a0_1, .int .i64 a0_2, .int .i64 a0_3, .str a0_4, .bool a0_5, .int .i64 a0_6, .int .i64 a0_7, .int .i64 a0_8, .str a0_9] 0) (fv [.bool a0_0, .int .i64 a0_1, .int .i64 a0_2, .int .i64 a0_3, .str a0_4, .bool a0_5, .int .i64 a0_6, .int .i64 a0_7, .int .i64 a0_8, .str a0_9] 0) (bv a0_0) (bv false) (.tup []) (.tup []) (.tup []) (.tup []) (bv false) (bv false) (.tup []) (.tup []) (.tup []) (.tup []) (.tup []) (.tup []) (.tup []) (.tup []) (.tup []) (.tup []) (.tup []) (.tup []) (.tup []) (.tup []) (.tup []) (.tup []) (.tup []) (.tup []) (.tup []) (.tup []) (.tup []) (.tup []) (.tup []) (.tup []) (bv false) false a0_0 a0_1 a0_2 a0_3 a0_4 a0_5 a0_6 a0_7 a0_8 a0_9))

theorem pu_spec_l6Change (a0_0 : Bool) (a0_1 : Int) (a0_2 : Int) (a0_3 : Int) (a0_4 : ByteArray) (a0_5 : Bool) (a0_6 : Int) (a0_7 : Int) (a0_8 : Int) (a0_9 : ByteArray) : pureV (call Ev) Fn.spec_l6Change [fv [.bool a0_0, .int .i64 a0_1, .int .i64 a0_2, .int .i64 a0_3, .str a0_4, .bool a0_5, .int .i64 a0_6, .int .i64 a0_7, .int .i64 a0_8, .str a0_9] 0] =
  vcase (bv (!a0_0))
  (Jn.spec_l6Change_1 true (fv [.bool a0_0, .int .i64 a0_1, .int .i64 a0_2, .int .i64 a0_3, .str a0_4, .bool a0_5, .int .i64 a0_6, .int .i64 a0_7, .int .i64 a0_8, .str a0_9] 0) (fv [.bool a0_0, .int .i64 a0_1, .int .i64 a0_2, .int .i64 a0_3, .str a0_4, .bool a0_5, .int .i64 a0_6, .int .i64 a0_7, .int .i64 a0_8, .str a0_9] 0) (fv [.bool a0_0, .int .i64 a0_1, .int .i64 a0_2, .int .i64 a0_3, .str a0_4, .bool a0_5, .int .i64 a0_6, .int .i64 a0_7, .int .i64 a0_8, .str a0_9] 5) (bv a0_5) (bv (!a0_5)) (!a0_5) a0_0 a0_5 a0_1 a0_6 a0_2 a0_3 a0_4 a0_7 a0_8 a0_9)
  (Jn.spec_l6Change_1 false (.tup []) (.tup []) (.tup []) (.tup []) (.tup []) false a0_0 a0_5 a0_1 a0_6 a0_2 a0_3 a0_4 a0_7 a0_8 a0_9) := by
  rw [pure_eq]; kernel_rfl

theorem pu_spec_l6Key (a0_0 : Bool) (a0_1 : Int) (a0_2 : Int) (a0_3 : Int) (a0_4 : ByteArray) (a0_5 : Bool) (a0_6 : Int) (a0_7 : Int) (a0_8 : Int) (a0_9 : ByteArray) : pureV (call Ev) Fn.spec_l6Key [fv [.bool a0_0, .int .i64 a0_1, .int .i64 a0_2, .int .i64 a0_3, .str a0_4, .bool a0_5, .int .i64 a0_6, .int .i64 a0_7, .int .i64 a0_8, .str a0_9] 0] =
  vcase (bv a0_5)
  (some (.tup [.s (.int .i64 a0_6), .s (.int .i64 a0_7)]))
  (some (.tup [.s (.int .i64 a0_1), .s (.int .i64 a0_2)])) := by
  rw [pure_eq]; kernel_rfl

noncomputable def Jn.spec_l6Do_0 (q161 : Bool) (w162 : V) (w163 : V) (w164 : V) (w165 : V) (w166 : V) (w167 : V) (w168 : V) (w169 : V) (w170 : V) (w171 : V) (w172 : V) (w173 : V) (w174 : V) (q175 : Bool) (n : Nat) (a0 : List (List S)) (a1_0 : Bool) (a1_1 : Int) (a1_2 : Int) (a1_3 : Int) (a1_4 : ByteArray) (a1_5 : Bool) (a1_6 : Int) (a1_7 : Int) (a1_8 : Int) (a1_9 : ByteArray) (i111 : Int) : Option (V × H) :=
  vcase (bv q175)
  (some (.tup [.s (.sl none 0), .s (.bool false)], (D n)))
  ((Lp.spec_l6Do 0 [lv a0, fv [.bool a1_0, .int .i64 a1_1, .int .i64 a1_2, .int .i64 a1_3, .str a1_4, .bool a1_5, .int .i64 a1_6, .int .i64 a1_7, .int .i64 a1_8, .str a1_9] 0, iv .i64 i111, sv ((D n).n) 0 0, iv .i64 0] ((D n).new 4 [])).bind fun o177 => lcase o177 (fun l178 h179 =>
  (l178[0]?).bind fun w182 =>
  (l178[1]?).bind fun w183 =>
  (notNil w182).bind fun v184 =>
  (padd 5 v184).bind fun v185 =>
  ldK (.one (.b)) ⟨1, 1, [.bool false], false, .bool, false⟩ h179 v185 fun v186 =>
  gV1 v186 fun x187 =>
  gB x187 fun q188 =>
  vcase (bv q188)
  ((notNil w182).bind fun v190 =>
  (padd 6 v190).bind fun v191 =>
  ldK (.agg [.i .i64, .i .i64, .i .i64, .s]) ⟨4, 40, [.int .i64 0, .int .i64 0, .int .i64 0, .str ⟨#[]⟩], true, .st [(0, 2), (1, 2), (2, 2), (3, 9)], true⟩ h179 v191 fun v192 =>
  gVA v192 fun c193 =>
  (c193[0]?).bind fun x194 =>
  gI .i64 x194 fun i195 =>
  (c193[1]?).bind fun x196 =>
  gI .i64 x196 fun i197 =>
  (c193[2]?).bind fun x198 =>
  gI .i64 x198 fun i199 =>
  (c193[3]?).bind fun x200 =>
  gS x200 fun y201 =>
  if c193.length = 4 then
  (frzVs h179 [w183, .agg [.int .i64 i195, .int .i64 i197, .int .i64 i199, .str y201]]).bind fun l202 =>
  pcallF (call Ev) Fn.spec_l6Put ([w183, .agg [.int .i64 i195, .int .i64 i197, .int .i64 i199, .str y201]].all offV) (normVs [] l202) h179 fun v203 h204 =>
  (V.toA v203).bind fun t205 =>
  some (.tup [t205, .s (.bool true)], h204)
  else none)
  ((V.toA w183).bind fun t206 =>
  some (.tup [t206, .s (.bool true)], h179))) (fun v180 h181 =>
  some (v180, h181)))

theorem eq_spec_l6Do (a0 : List (List S)) (a1_0 : Bool) (a1_1 : Int) (a1_2 : Int) (a1_3 : Int) (a1_4 : ByteArray) (a1_5 : Bool) (a1_6 : Int) (a1_7 : Int) (a1_8 : Int) (a1_9 : ByteArray) (n : Nat) : call Ev Fn.spec_l6Do [lv a0, fv [.bool a1_0, .int .i64 a1_1, .int .i64 a1_2, .int .i64 a1_3, .str a1_4, .bool a1_5, .int .i64 a1_6, .int .i64 a1_7, .int .i64 a1_8, .str a1_9] 0] (D n) =
  pcallS (call Ev) Fn.spec_l6Key [fv [.bool a1_0, .int .i64 a1_1, .int .i64 a1_2, .int .i64 a1_3, .str a1_4, .bool a1_5, .int .i64 a1_6, .int .i64 a1_7, .int .i64 a1_8, .str a1_9] 0] fun v101 =>
  gVT v101 fun u102 =>
  (u102[0]?).bind fun t103 =>
  gA1 t103 fun x104 =>
  gI .i64 x104 fun i105 =>
  (u102[1]?).bind fun t106 =>
  gA1 t106 fun x107 =>
  gI .i64 x107 fun i108 =>
  if u102.length = 2 then
  pcallS (call Ev) Fn.spec_l6At [lv a0, iv .i64 i105, iv .i64 i108] fun v109 =>
  gV1 v109 fun x110 =>
  gI .i64 x110 fun i111 =>
  vcase (bv (!(a1_0 == (decide (i111 ≥ 0)))))
  (Jn.spec_l6Do_0 true (.tup []) (.tup []) (.tup []) (.tup []) (.tup []) (.tup []) (.tup []) (.tup []) (.tup []) (.tup []) (.tup []) (.tup []) (.tup []) true n a0 a1_0 a1_1 a1_2 a1_3 a1_4 a1_5 a1_6 a1_7 a1_8 a1_9 i111)
  (vcase (bv (decide (i111 ≥ 0)))
  (idxF 4 a0 i111 fun r115 =>
  (rowN 4 r115 0).bind fun c116 =>
  (c116[0]?).bind fun x117 =>
  gI .i64 x117 fun i118 =>
  (c116[1]?).bind fun x119 =>
  gI .i64 x119 fun i120 =>
  (c116[2]?).bind fun x121 =>
  gI .i64 x121 fun i122 =>
  (c116[3]?).bind fun x123 =>
  gS x123 fun y124 =>
  if c116.length = 4 then
  Jn.spec_l6Do_0 false (iv .i64 i111) (bv (decide (i111 ≥ 0))) (bv true) (lv a0) (iv .i64 i111) (fv r115 0) (.agg [.int .i64 i118, .int .i64 i120, .int .i64 i122, .str y124]) (fv [.bool a1_0, .int .i64 a1_1, .int .i64 a1_2, .int .i64 a1_3, .str a1_4, .bool a1_5, .int .i64 a1_6, .int .i64 a1_7, .int .i64 a1_8, .str a1_9] 0) (fv [.bool a1_0, .int .i64 a1_1, .int .i64 a1_2, .int .i64 a1_3, .str a1_4, .bool a1_5, .int .i64 a1_6, .int .i64 a1_7, .int .i64 a1_8, .str a1_9] 0) (fv [.bool a1_0, .int .i64 a1_1, .int .i64 a1_2, .int .i64 a1_3, .str a1_4, .bool a1_5, .int .i64 a1_6, .int .i64 a1_7, .int .i64 a1_8, .str a1_9] 1) (.agg [.int .i64 a1_1, .int .i64 a1_2, .int .i64 a1_3, .str a1_4]) (bv (!(((i118 : Int) == a1_1) && (((i120 : Int) == a1_2) && (((i122 : Int) == a1_3) && (((y124 : ByteArray).toList == (a1_4 : ByteArray).toList) && true)))))) (bv (!(((i118 : Int) == a1_1) && (((i120 : Int) == a1_2) && (((i122 : Int) == a1_3) && (((y124 : ByteArray).toList == (a1_4 : ByteArray).toList) && true)))))) (!(((i118 : Int) == a1_1) && (((i120 : Int) == a1_2) && (((i122 : Int) == a1_3) && (((y124 : ByteArray).toList == (a1_4 : ByteArray).toList) && true))))) n a0 a1_0 a1_1 a1_2 a1_3 a1_4 a1_5 a1_6 a1_7 a1_8 a1_9 i111
  else none)
  (Jn.spec_l6Do_0 false (iv .i64 i111) (bv (decide (i111 ≥ 0))) (bv false) (.tup []) (.tup []) (.tup []) (.tup []) (.tup []) (.tup []) (.tup []) (.tup []) (.tup []) (bv false) false n a0 a1_0 a1_1 a1_2 a1_3 a1_4 a1_5 a1_6 a1_7 a1_8 a1_9 i111))
  else none := by
  rw [call_eq]; kernel_rfl

theorem eq_spec_l6Do_l0 (s0 : List (List S)) (s1_r : List S) (s1_o : Nat) (s8 : Int) (s9 : V) (s10 : Int) (h : H) : Lp.spec_l6Do 0 [lv s0, fv s1_r s1_o, iv .i64 s8, s9, iv .i64 s10] h =
  vcase (bv (decide (s10 < (s0.length : Int))))
  (vcase (bv (s10 != s8))
  (idxF 4 s0 s10 fun r204 =>
  (rowN 4 r204 0).bind fun c205 =>
  (c205[0]?).bind fun x206 =>
  gI .i64 x206 fun i207 =>
  (c205[1]?).bind fun x208 =>
  gI .i64 x208 fun i209 =>
  (c205[2]?).bind fun x210 =>
  gI .i64 x210 fun i211 =>
  (c205[3]?).bind fun x212 =>
  gS x212 fun y213 =>
  if c205.length = 4 then
  (appS 4 (h.new 4 [.int .i64 i207, .int .i64 i209, .int .i64 i211, .str y213]) s9 (sv h.n 0 1)).bind fun p214 =>
  Lp.spec_l6Do 0 [lv s0, fv s1_r s1_o, iv .i64 s8, p214.1, iv .i64 (IntKind.i64.wrap (s10 + 1))] (tidy h [lv s0, fv s1_r s1_o, iv .i64 s8, p214.1, iv .i64 (IntKind.i64.wrap (s10 + 1))] p214.2)
  else none)
  (Lp.spec_l6Do 0 [lv s0, fv s1_r s1_o, iv .i64 s8, s9, iv .i64 (IntKind.i64.wrap (s10 + 1))] (tidy h [lv s0, fv s1_r s1_o, iv .i64 s8, s9, iv .i64 (IntKind.i64.wrap (s10 + 1))] h)))
  (some (.done [fv s1_r s1_o, s9] (tidy h [fv s1_r s1_o, s9] h))) := by
  unfold Lp.spec_l6Do; rw [loop_eq]; kernel_rfl

theorem eq_spec_ApplyChanges (a0 : List (List S)) (a1 : List (List S)) (n : Nat) : call Ev Fn.spec_ApplyChanges [lv a0, lv a1] (D n) =
  pcallS (call Ev) Fn.spec_l6Rows [lv a0] fun v101 =>
  gV1 v101 fun x102 =>
  gI .i64 x102 fun i103 =>
  vcase (bv (i103 != 0))
  (stK 2 ((D n).new 0 [.int .i64 0, .sl none 0]) (pv ((D n).n) 0) (.agg [.int .i64 i103, .sl none 0]) fun h105 =>
  (loadN 2 h105 (pv ((D n).n) 0)).bind fun c106 =>
  some (.agg c106, h105))
  ((appS 4 (((D n).new 0 [.int .i64 0, .sl none 0]).new 4 []) (sv (((D n).new 0 [.int .i64 0, .sl none 0]).n) 0 0) (lv a0)).bind fun p107 =>
  (Lp.spec_ApplyChanges 0 [lv a1, pv ((D n).n) 0, p107.1, iv .i64 0] p107.2).bind fun o108 => lcase o108 (fun l109 h110 =>
  (l109[0]?).bind fun w113 =>
  (l109[1]?).bind fun w114 =>
  (lenV (.sl 39) w114).bind fun v115 =>
  gV1 v115 fun x116 =>
  gI .i64 x116 fun i117 =>
  vcase (bv (decide (i117 > 60)))
  (stK 2 h110 w113 (.agg [.int .i64 2, .sl none 0]) fun h119 =>
  ldT ⟨2, 32, [.int .i64 0, .sl none 0], true, .st [(0, 2), (1, 24)], false⟩ h119 w113 fun v120 =>
  some (v120, h119))
  (cellsK w114 fun c121 =>
  if c121.length = 1 ∧ 1 + 1 ≤ ([.int .i64 0, .sl none 0] : List S).length then
  ((setAt ([.int .i64 0, .sl none 0] : List S) 1 c121)[0]?).bind fun x122 =>
  gI .i64 x122 fun i123 =>
  ((setAt ([.int .i64 0, .sl none 0] : List S) 1 c121)[1]?).bind fun x124 =>
  if (setAt ([.int .i64 0, .sl none 0] : List S) 1 c121).length = 2 then
  stK 2 h110 w113 (.agg [.int .i64 i123, x124]) fun h125 =>
  ldT ⟨2, 32, [.int .i64 0, .sl none 0], true, .st [(0, 2), (1, 24)], false⟩ h125 w113 fun v126 =>
  some (v126, h125)
  else none
  else none)) (fun v111 h112 =>
  some (v111, h112))) := by
  rw [call_eq]; kernel_rfl

theorem eq_spec_ApplyChanges_l0 (s1 : List (List S)) (s4 : V) (s6 : V) (s7 : Int) (h : H) : Lp.spec_ApplyChanges 0 [lv s1, s4, s6, iv .i64 s7] h =
  vcase (bv (decide (s7 < (s1.length : Int))))
  (idxF 10 s1 s7 fun r203 =>
  pcallS (call Ev) Fn.spec_l6Change [normV 10 (fv r203 0)] fun v204 =>
  gV1 v204 fun x205 =>
  gI .i64 x205 fun i206 =>
  vcase (bv (i206 != 0))
  (stK 2 h s4 (.agg [.int .i64 i206, .sl none 0]) fun h208 =>
  ldT ⟨2, 32, [.int .i64 0, .sl none 0], true, .st [(0, 2), (1, 24)], false⟩ h208 s4 fun v209 =>
  some (.ret v209 h208))
  (idxF 10 s1 s7 fun r210 =>
  (frzVs h [s6, fv r210 0]).bind fun l211 =>
  pcallF (call Ev) Fn.spec_l6Do ([s6, fv r210 0].all offV) (normVs [0, 10] l211) h fun v212 h213 =>
  gVT v212 fun u214 =>
  (u214[0]?).bind fun t215 =>
  gA1 t215 fun x216 =>
  (u214[1]?).bind fun t217 =>
  gA1 t217 fun x218 =>
  gB x218 fun q219 =>
  if u214.length = 2 then
  vcase (bv (!q219))
  (stK 2 h213 s4 (.agg [.int .i64 8, .sl none 0]) fun h221 =>
  ldT ⟨2, 32, [.int .i64 0, .sl none 0], true, .st [(0, 2), (1, 24)], false⟩ h221 s4 fun v222 =>
  some (.ret v222 h221))
  (Lp.spec_ApplyChanges 0 [lv s1, s4, .s x216, iv .i64 (IntKind.i64.wrap (s7 + 1))] (tidy h [lv s1, s4, .s x216, iv .i64 (IntKind.i64.wrap (s7 + 1))] h213))
  else none))
  (some (.done [s4, s6] (tidy h [s4, s6] h))) := by
  unfold Lp.spec_ApplyChanges; rw [loop_eq]; kernel_rfl

noncomputable def Jn.laws_FnChanges_0 (q300 : Bool) (w301 : V) (w302 : V) (w303 : V) (w304 : V) (w305 : V) (w306 : V) (w307 : V) (w308 : V) (q309 : Bool) (h167 : H) (h156 : H) (p162 : V × H) (x159 : S) (x161 : S) : Option (V) :=
  vcase (bv q309)
  ((load1 h167 (pv ((tidy h156 [p162.1] p162.2).n) 0)).bind fun x311 =>
  gI .i64 x311 fun i312 =>
  (frzVs h167 [.s x159, .s x161]).bind fun l313 =>
  pcallF (call Ev) Fn.spec_ApplyChanges ([.s x159, .s x161].all offV) (normVs [] l313) h167 fun v314 h315 =>
  gVA v314 fun c316 =>
  (c316[0]?).bind fun x317 =>
  gI .i64 x317 fun i318 =>
  (c316[1]?).bind fun x319 =>
  if c316.length = 2 then
  hchk h167 h315 (
  bif scaV (.agg [.int .i64 i318, x319]) then
  vcase (bv (i312 == i318))
  ((load1 h167 (pv ((tidy h156 [p162.1] p162.2).n) 1)).bind fun x323 =>
  (frzVs h315 [.s x159, .s x161]).bind fun l324 =>
  pcallF (call Ev) Fn.spec_ApplyChanges ([.s x159, .s x161].all offV) (normVs [] l324) h315 fun v325 h326 =>
  gVA v325 fun c327 =>
  (c327[0]?).bind fun x328 =>
  gI .i64 x328 fun i329 =>
  (c327[1]?).bind fun x330 =>
  if c327.length = 2 then
  hchk h167 h326 (
  bif scaV (.agg [.int .i64 i329, x330]) then
  (frzVs h326 [.s x323, .s x330]).bind fun l331 =>
  pcallS (call Ev) Fn.laws_lwRows (normVs [] l331) fun v332 =>
  gV1 v332 fun x333 =>
  gB x333 fun q334 =>
  hchk h167 h326 (
  some (bv q334))
  else none)
  else none)
  (hchk h167 h315 (
  hchk h167 h315 (
  some (bv false))))
  else none)
  else none)
  (hchk h167 h167 (
  hchk h167 h167 (
  hchk h167 h167 (
  some (bv false)))))

noncomputable def Jn.laws_FnChanges_1 (q276 : Bool) (w277 : V) (w278 : V) (w279 : V) (q280 : Bool) (h167 : H) (h147 : H) (p149 : V × H) (x109 : S) (h114 : H) (x111 : S) (h156 : H) (p162 : V × H) (x159 : S) (x161 : S) : Option (V) :=
  vcase (bv q280)
  ((load1 h167 (pv ((tidy h147 [p149.1] p149.2).n) 1)).bind fun x282 =>
  (frzVs h167 [.s x282, .s x109]).bind fun l283 =>
  pcallS (call Ev) Fn.laws_lwRows (normVs [] l283) fun v284 =>
  gV1 v284 fun x285 =>
  gB x285 fun q286 =>
  hchk h167 h167 (
  vcase (bv q286)
  ((load1 h167 (pv h114.n 1)).bind fun x290 =>
  (lenV (.sl 41) (.s x290)).bind fun v291 =>
  gV1 v291 fun x292 =>
  gI .i64 x292 fun i293 =>
  (frzVs h167 [.s x109, .s x111]).bind fun l294 =>
  pcallS (call Ev) Fn.laws_lwRows (normVs [] l294) fun v295 =>
  gV1 v295 fun x296 =>
  gB x296 fun q297 =>
  hchk h167 h167 (
  Jn.laws_FnChanges_0 true (pv h114.n 1) (.s x290) (iv .i64 i293) (bv (i293 == 0)) (.s x109) (.s x111) (bv q297) (bv ((i293 == 0) == q297)) ((i293 == 0) == q297) h167 h156 p162 x159 x161))
  (hchk h167 h167 (
  Jn.laws_FnChanges_0 false (.tup []) (.tup []) (.tup []) (.tup []) (.tup []) (.tup []) (.tup []) (.tup []) false h167 h156 p162 x159 x161))))
  (hchk h167 h167 (
  hchk h167 h167 (
  hchk h167 h167 (
  hchk h167 h167 (
  hchk h167 h167 (
  some (bv false)))))))

theorem pu_laws_FnChanges (a0 : List (List S)) : pureV (call Ev) Fn.laws_FnChanges [lv a0] =
  pcallS (call Ev) Fn.laws_lwBig [lv a0] fun v101 =>
  gV1 v101 fun x102 =>
  gB x102 fun q103 =>
  vcase (bv q103)
  (some (bv true))
  (pcallF (call Ev) Fn.spec_DrawChangesOf true [lv a0] (D 0) fun v105 h106 =>
  gVT v105 fun u107 =>
  (u107[0]?).bind fun t108 =>
  gA1 t108 fun x109 =>
  (u107[1]?).bind fun t110 =>
  gA1 t110 fun x111 =>
  if u107.length = 2 then
  (frzVs h106 [.s x109, .s x111]).bind fun l112 =>
  pcallF (call Ev) Fn.impl_ChangesOf ([.s x109, .s x111].all offV) (normVs [] l112) h106 fun v113 h114 =>
  gVA v113 fun c115 =>
  (c115[0]?).bind fun x116 =>
  gI .i64 x116 fun i117 =>
  (c115[1]?).bind fun x118 =>
  if c115.length = 2 then
  stK 2 (h114.new 0 [.int .i64 0, .sl none 0]) (pv h114.n 0) (.agg [.int .i64 i117, x118]) fun h119 =>
  (load1 h119 (pv h114.n 0)).bind fun x120 =>
  gI .i64 x120 fun i121 =>
  vcase (bv (i121 != 0))
  ((load1 h119 (pv h114.n 0)).bind fun x123 =>
  gI .i64 x123 fun i124 =>
  (frzVs h119 [.s x109, .s x111]).bind fun l125 =>
  pcallF (call Ev) Fn.spec_ChangesOf ([.s x109, .s x111].all offV) (normVs [] l125) h119 fun v126 h127 =>
  gVA v126 fun c128 =>
  (c128[0]?).bind fun x129 =>
  gI .i64 x129 fun i130 =>
  (c128[1]?).bind fun x131 =>
  if c128.length = 2 then
  hchk h119 h127 (
  bif scaV (.agg [.int .i64 i130, x131]) then
  some (bv (i130 == i124))
  else none)
  else none)
  ((load1 h119 (pv h114.n 1)).bind fun x132 =>
  (call Ev Fn.impl_ApplyChanges [.s x109, .s x132] h119).bind fun p133 =>
  gVA p133.1 fun c134 =>
  (c134[0]?).bind fun x135 =>
  gI .i64 x135 fun i136 =>
  (c134[1]?).bind fun x137 =>
  if c134.length = 2 then
  stK 2 ((tidy h119 [p133.1] p133.2).new 0 [.int .i64 0, .sl none 0]) (pv ((tidy h119 [p133.1] p133.2).n) 0) (.agg [.int .i64 i136, x137]) fun h138 =>
  (load1 h138 (pv h114.n 1)).bind fun x139 =>
  (frzVs h138 [.s x139]).bind fun l140 =>
  pcallF (call Ev) Fn.impl_InverseOf ([.s x139].all offV) (normVs [] l140) h138 fun v141 h142 =>
  gVA v141 fun c143 =>
  (c143[0]?).bind fun x144 =>
  gI .i64 x144 fun i145 =>
  (c143[1]?).bind fun x146 =>
  if c143.length = 2 then
  stK 2 (h142.new 0 [.int .i64 0, .sl none 0]) (pv h142.n 0) (.agg [.int .i64 i145, x146]) fun h147 =>
  (load1 h147 (pv h142.n 1)).bind fun x148 =>
  (call Ev Fn.impl_ApplyChanges [.s x111, .s x148] h147).bind fun p149 =>
  gVA p149.1 fun c150 =>
  (c150[0]?).bind fun x151 =>
  gI .i64 x151 fun i152 =>
  (c150[1]?).bind fun x153 =>
  if c150.length = 2 then
  stK 2 ((tidy h147 [p149.1] p149.2).new 0 [.int .i64 0, .sl none 0]) (pv ((tidy h147 [p149.1] p149.2).n) 0) (.agg [.int .i64 i152, x153]) fun h154 =>
  pcallF (call Ev) Fn.spec_DrawApplyChanges true [lv a0] h154 fun v155 h156 =>
  gVT v155 fun u157 =>
  (u157[0]?).bind fun t158 =>
  gA1 t158 fun x159 =>
  (u157[1]?).bind fun t160 =>
  gA1 t160 fun x161 =>
  if u157.length = 2 then
  (call Ev Fn.impl_ApplyChanges [.s x159, .s x161] h156).bind fun p162 =>
  gVA p162.1 fun c163 =>
  (c163[0]?).bind fun x164 =>
  gI .i64 x164 fun i165 =>
  (c163[1]?).bind fun x166 =>
  if c163.length = 2 then
  stK 2 ((tidy h156 [p162.1] p162.2).new 0 [.int .i64 0, .sl none 0]) (pv ((tidy h156 [p162.1] p162.2).n) 0) (.agg [.int .i64 i165, x166]) fun h167 =>
  (load1 h167 (pv ((tidy h119 [p133.1] p133.2).n) 0)).bind fun x168 =>
  gI .i64 x168 fun i169 =>
  vcase (bv (i169 == 0))
  ((load1 h167 (pv ((tidy h119 [p133.1] p133.2).n) 1)).bind fun x171 =>
  (frzVs h167 [.s x171, .s x111]).bind fun l172 =>
  pcallS (call Ev) Fn.laws_lwRows (normVs [] l172) fun v173 =>
  gV1 v173 fun x174 =>
  gB x174 fun q175 =>
  hchk h167 h167 (
  vcase (bv q175)
  ((load1 h167 (pv h142.n 0)).bind fun x179 =>
  gI .i64 x179 fun i180 =>
  vcase (bv (i180 == 0))
  ((load1 h167 (pv ((tidy h147 [p149.1] p149.2).n) 0)).bind fun x184 =>
  gI .i64 x184 fun i185 =>
  Jn.laws_FnChanges_1 true (pv ((tidy h147 [p149.1] p149.2).n) 0) (iv .i64 i185) (bv (i185 == 0)) (i185 == 0) h167 h147 p149 x109 h114 x111 h156 p162 x159 x161)
  (Jn.laws_FnChanges_1 false (.tup []) (.tup []) (.tup []) false h167 h147 p149 x109 h114 x111 h156 p162 x159 x161))
  (hchk h167 h167 (
  hchk h167 h167 (
  hchk h167 h167 (
  hchk h167 h167 (
  hchk h167 h167 (
  some (bv false)))))))))
  (hchk h167 h167 (
  hchk h167 h167 (
  hchk h167 h167 (
  hchk h167 h167 (
  hchk h167 h167 (
  hchk h167 h167 (
  some (bv false))))))))
  else none
  else none
  else none
  else none
  else none)
  else none
  else none) := by
  rw [pure_eq]; kernel_rfl

end Vm
