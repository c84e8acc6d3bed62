/-
  What each function, and each round of each loop, comes to in the small machine. Written by a program (gen3.py).
-/
import Derived.Test.YtpdoloemacmbaaaEnv
set_option linter.unusedVariables false
set_option maxRecDepth 100000
namespace Vm
open Go

noncomputable def Jn.spec_l6Change_0 (q213 : Bool) (w214 : V) (w215 : V) (w216 : V) (w217 : V) (w218 : V) (w219 : V) (w220 : V) (w221 : V) (w222 : V) (w223 : V) (w224 : V) (w225 : V) (w226 : V) (w227 : V) (w228 : V) (w229 : V) (w230 : V) (w231 : V) (w232 : V) (w233 : V) (w234 : V) (w235 : V) (w236 : V) (w237 : V) (w238 : V) (w239 : V) (w240 : V) (w241 : V) (w242 : V) (w243 : V) (w244 : V) (w245 : V) (w246 : V) (w247 : V) (w248 : V) (w249 : V) (q250 : Bool) (a0_0 : Bool) (a0_1 : Int) (a0_2 : Int) (a0_3 : Int) (a0_4 : ByteArray) (a0_5 : Bool) (a0_6 : Int) (a0_7 : Int) (a0_8 : Int) (a0_9 : ByteArray) : Option (V) :=
  vcase (bv q250)
  (some (iv .i64 1))
  (vcase (bv a0_0)
  (pcallS (call Ev) Fn.spec_l1Fault [fv [.int .i64 a0_1, .int .i64 a0_2, .int .i64 a0_3, .str a0_4] 0] fun v253 =>
  gV1 v253 fun x254 =>
  gI .i64 x254 fun i255 =>
  vcase (bv (i255 != 0))
  (some (iv .i64 i255))
  (vcase (bv a0_5)
  (pcallS (call Ev) Fn.spec_l1Fault [fv [.int .i64 a0_6, .int .i64 a0_7, .int .i64 a0_8, .str a0_9] 0] fun v258 =>
  gV1 v258 fun x259 =>
  gI .i64 x259 fun i260 =>
  some (iv .i64 i260))
  (some (iv .i64 0))))
  (vcase (bv a0_5)
  (pcallS (call Ev) Fn.spec_l1Fault [fv [.int .i64 a0_6, .int .i64 a0_7, .int .i64 a0_8, .str a0_9] 0] fun v262 =>
  gV1 v262 fun x263 =>
  gI .i64 x263 fun i264 =>
  some (iv .i64 i264))
  (some (iv .i64 0))))

noncomputable def Jn.spec_l6Change_1 (q189 : Bool) (w190 : V) (w191 : V) (w192 : V) (w193 : V) (w194 : V) (q195 : Bool) (a0_0 : Bool) (a0_5 : Bool) (a0_1 : Int) (a0_6 : Int) (a0_2 : Int) (a0_3 : Int) (a0_4 : ByteArray) (a0_7 : Int) (a0_8 : Int) (a0_9 : ByteArray) : Option (V) :=
  vcase (bv q195)
  (Jn.spec_l6Change_0 true (.tup []) (.tup []) (.tup []) (.tup []) (.tup []) (.tup []) (.tup []) (.tup []) (.tup []) (.tup []) (.tup []) (.tup []) (.tup []) (.tup []) (.tup []) (.tup []) (.tup []) (.tup []) (.tup []) (.tup []) (.tup []) (.tup []) (.tup []) (.tup []) (.tup []) (.tup []) (.tup []) (.tup []) (.tup []) (.tup []) (.tup []) (.tup []) (.tup []) (.tup []) (.tup []) (.tup []) true a0_0 a0_1 a0_2 a0_3 a0_4 a0_5 a0_6 a0_7 a0_8 a0_9)
  (vcase (bv a0_0)
  (vcase (bv a0_5)
  (vcase (bv (a0_1 != a0_6))
  (Jn.spec_l6Change_0 false (fv [.bool a0_0, .int .i64 a0_1, .int .i64 a0_2, .int .i64 a0_3, .str a0_4, .bool a0_5, .int .i64 a0_6, .int .i64 a0_7, .int .i64 a0_8, .str a0_9] 0) (fv [.bool a0_0, .int .i64 a0_1, .int .i64 a0_2, .int .i64 a0_3, .str a0_4, .bool a0_5, .int .i64 a0_6, .int .i64 a0_7, .int .i64 a0_8, .str a0_9] 0) (fv [.bool a0_0, .int .i64 a0_1, .int .i64 a0_2, .int .i64 a0_3, .str a0_4, .bool a0_5, .int .i64 a0_6, .int .i64 a0_7, .int .i64 a0_8, .str a0_9] 0) (bv a0_0) (bv true) (fv [.bool a0_0, .int .i64 a0_1, .int .i64 a0_2, .int .i64 a0_3, .str a0_4, .bool a0_5, .int .i64 a0_6, .int .i64 a0_7, .int .i64 a0_8, .str a0_9] 0) (fv [.bool a0_0, .int .i64 a0_1, .int .i64 a0_2, .int .i64 a0_3, .str a0_4, .bool a0_5, .int .i64 a0_6, .int .i64 a0_7, .int .i64 a0_8, .str a0_9] 0) (fv [.bool a0_0, .int .i64 a0_1, .int .i64 a0_2, .int .i64 a0_3, .str a0_4, .bool a0_5, .int .i64 a0_6, .int .i64 a0_7, .int .i64 a0_8, .str a0_9] 5) (bv a0_5) (bv a0_5) (bv true) (fv [.bool a0_0, .int .i64 a0_1, .int .i64 a0_2, .int .i64 a0_3, .str a0_4, .bool a0_5, .int .i64 a0_6, .int .i64 a0_7, .int .i64 a0_8, .str a0_9] 0) (fv [.bool a0_0, .int .i64 a0_1, .int .i64 a0_2, .int .i64 a0_3, .str a0_4, .bool a0_5, .int .i64 a0_6, .int .i64 a0_7, .int .i64 a0_8, .str a0_9] 0) (fv [.bool a0_0, .int .i64 a0_1, .int .i64 a0_2, .int .i64 a0_3, .str a0_4, .bool a0_5, .int .i64 a0_6, .int .i64 a0_7, .int .i64 a0_8, .str a0_9] 1) (fv [.bool a0_0, .int .i64 a0_1, .int .i64 a0_2, .int .i64 a0_3, .str a0_4, .bool a0_5, .int .i64 a0_6, .int .i64 a0_7, .int .i64 a0_8, .str a0_9] 1) (iv .i64 a0_1) (fv [.bool a0_0, .int .i64 a0_1, .int .i64 a0_2, .int .i64 a0_3, .str a0_4, .bool a0_5, .int .i64 a0_6, .int .i64 a0_7, .int .i64 a0_8, .str a0_9] 0) (fv [.bool a0_0, .int .i64 a0_1, .int .i64 a0_2, .int .i64 a0_3, .str a0_4, .bool a0_5, .int .i64 a0_6, .int .i64 a0_7, .int .i64 a0_8, .str a0_9] 0) (fv [.bool a0_0, .int .i64 a0_1, .int .i64 a0_2, .int .i64 a0_3, .str a0_4, .bool a0_5, .int .i64 a0_6, .int .i64 a0_7, .int .i64 a0_8, .str a0_9] 6) (fv [.bool a0_0, .int .i64 a0_1, .int .i64 a0_2, .int .i64 a0_3, .str a0_4, .bool a0_5, .int .i64 a0_6, .int .i64 a0_7, .int .i64 a0_8, .str a0_9] 6) (iv .i64 a0_6) (bv (a0_1 != a0_6)) (bv true) (.tup []) (.tup []) (.tup []) (.tup []) (.tup []) (.tup []) (.tup []) (.tup []) (.tup []) (.tup []) (.tup []) (bv true) (bv true) true a0_0 a0_1 a0_2 a0_3 a0_4 a0_5 a0_6 a0_7 a0_8 a0_9)
  (Jn.spec_l6Change_0 false (fv [.bool a0_0, .int .i64 a0_1, .int .i64 a0_2, .int .i64 a0_3, .str a0_4, .bool a0_5, .int .i64 a0_6, .int .i64 a0_7, .int .i64 a0_8, .str a0_9] 0) (fv [.bool a0_0, .int .i64 a0_1, .int .i64 a0_2, .int .i64 a0_3, .str a0_4, .bool a0_5, .int .i64 a0_6, .int .i64 a0_7, .int .i64 a0_8, .str a0_9] 0) (fv [.bool a0_0, .int .i64 a0_1, .int .i64 a0_2, .int .i64 a0_3, .str a0_4, .bool a0_5, .int .i64 a0_6, .int .i64 a0_7, .int .i64 a0_8, .str a0_9] 0) (bv a0_0) (bv true) (fv [.bool a0_0, .int .i64 a0_1, .int .i64 a0_2, .int .i64 a0_3, .str a0_4, .bool a0_5, .int .i64 a0_6, .int .i64 a0_7, .int .i64 a0_8, .str a0_9] 0) (fv [.bool a0_0, .int .i64 a0_1, .int .i64 a0_2, .int .i64 a0_3, .str a0_4, .bool a0_5, .int .i64 a0_6, .int .i64 a0_7, .int .i64 a0_8, .str a0_9] 0) (fv [.bool a0_0, .int .i64 a0_1, .int .i64 a0_2, .int .i64 a0_3, .str a0_4, .bool a0_5, .int .i64 a0_6, .int .i64 a0_7, .int .i64 a0_8, .str a0_9] 5) (bv a0_5) (bv a0_5) (bv true) (fv [.bool a0_0, .int .i64 a0_1, .int .i64 a0_2, .int .i64 a0_3, .str a0_4, .bool a0_5, .int .i64 a0_6, .int .i64 a0_7, .int .i64 a0_8, .str a0_9] 0) (fv [.bool a0_0, .int .i64 a0_1, .int .i64 a0_2, .int .i64 a0_3, .str a0_4, .bool a0_5, .int .i64 a0_6, .int .i64 a0_7, .int .i64 a0_8, .str a0_9] 0) (fv [.bool a0_0, .int .i64 a0_1, .int .i64 a0_2, .int .i64 a0_3, .str a0_4, .bool a0_5, .int .i64 a0_6, .int .i64 a0_7, .int .i64 a0_8, .str a0_9] 1) (fv [.bool a0_0, .int .i64 a0_1, .int .i64 a0_2, .int .i64 a0_3, .str a0_4, .bool a0_5, .int .i64 a0_6, .int .i64 a0_7, .int .i64 a0_8, .str a0_9] 1) (iv .i64 a0_1) (fv [.bool a0_0, .int .i64 a0_1, .int .i64 a0_2, .int .i64 a0_3, .str a0_4, .bool a0_5, .int .i64 a0_6, .int .i64 a0_7, .int .i64 a0_8, .str a0_9] 0) (fv [.bool a0_0, .int .i64 a0_1, .int .i64 a0_2, .int .i64 a0_3, .str a0_4, .bool a0_5, .int .i64 a0_6, .int .i64 a0_7, .int .i64 a0_8, .str a0_9] 0) (fv [.bool a0_0, .int .i64 a0_1, .int .i64 a0_2, .int .i64 a0_3, .str a0_4, .bool a0_5, .int .i64 a0_6, .int .i64 a0_7, .int .i64 a0_8, .str a0_9] 6) (fv [.bool a0_0, .int .i64 a0_1, .int .i64 a0_2, .int .i64 a0_3, .str a0_4, .bool a0_5, .int .i64 a0_6, .int .i64 a0_7, .int .i64 a0_8, .str a0_9] 6) (iv .i64 a0_6) (bv (a0_1 != a0_6)) (bv false) (fv [.bool a0_0, .int .i64 a0_1, .int .i64 a0_2, .int .i64 a0_3, .str a0_4, .bool a0_5, .int .i64 a0_6, .int .i64 a0_7, .int .i64 a0_8, .str a0_9] 0) (fv [.bool a0_0, .int .i64 a0_1, .int .i64 a0_2, .int .i64 a0_3, .str a0_4, .bool a0_5, .int .i64 a0_6, .int .i64 a0_7, .int .i64 a0_8, .str a0_9] 0) (fv [.bool a0_0, .int .i64 a0_1, .int .i64 a0_2, .int .i64 a0_3, .str a0_4, .bool a0_5, .int .i64 a0_6, .int .i64 a0_7, .int .i64 a0_8, .str a0_9] 1) (fv [.bool a0_0, .int .i64 a0_1, .int .i64 a0_2, .int .i64 a0_3, .str a0_4, .bool a0_5, .int .i64 a0_6, .int .i64 a0_7, .int .i64 a0_8, .str a0_9] 2) (iv .i64 a0_2) (fv [.bool a0_0, .int .i64 a0_1, .int .i64 a0_2, .int .i64 a0_3, .str a0_4, .bool a0_5, .int .i64 a0_6, .int .i64 a0_7, .int .i64 a0_8, .str a0_9] 0) (fv [.bool a0_0, .int .i64 a0_1, .int .i64 a0_2, .int .i64 a0_3, .str a0_4, .bool a0_5, .int .i64 a0_6, .int .i64 a0_7, .int .i64 a0_8, .str a0_9] 0) (fv [.bool a0_0, .int .i64 a0_1, .int .i64 a0_2, .int .i64 a0_3, .str a0_4, .bool a0_5, .int .i64 a0_6, .int .i64 a0_7, .int .i64 a0_8, .str a0_9] 6) (fv [.bool a0_0, .int .i64 a0_1, .int .i64 a0_2, .int .i64 a0_3, .str a0_4, .bool a0_5, .int .i64 a0_6, .int .i64 a0_7, .int .i64 a0_8, .str a0_9] 7) (iv .i64 a0_7) (bv (a0_2 != a0_7)) (bv (a0_2 != a0_7)) (bv (a0_2 != a0_7)) (a0_2 != a0_7) a0_0 a0_1 a0_2 a0_3 a0_4 a0_5 a0_6 a0_7 a0_8 a0_9))
  (Jn.spec_l6Change_0 false (fv [.bool a0_0, .int .i64 a0_1, .int .i64 a0_2, .int .i64 a0_3, .str a0_4, .bool a0_5, .int .i64 a0_6, .int .i64 a0_7, .int .i64 a0_8, .str a0_9] 0) (fv [.bool a0_0, .int .i64 a0_1, .int .i64 a0_2, .int .i64 a0_3, .str a0_4, .bool a0_5, .int .i64 a0_6, .int .i64 a0_7, .int .i64 a0_8, .str a0_9] 0) (fv [.bool a0_0, .int .i64 a0_1, .int .i64 a0_2, .int .i64 a0_3, .str a0_4, .bool a0_5, .int .i64 a0_6, .int .i64 a0_7, .int .i64 a0_8, .str a0_9] 0) (bv a0_0) (bv true) (fv [.bool a0_0, .int .i64 a0_1, .int .i64 a0_2, .int .i64 a0_3, .str a0_4, .bool a0_5, .int .i64 a0_6, .int .i64 a0_7, .int .i64 a0_8, .str a0_9] 0) (fv [.bool a0_0, .int .i64 a0_1, .int .i64 a0_2, .int .i64 a0_3, .str a0_4, .bool a0_5, .int .i64 a0_6, .int .i64 a0_7, .int .i64 a0_8, .str a0_9] 0) (fv [.bool a0_0, .int .i64 a0_1, .int .i64 a0_2, .int .i64 a0_3, .str a0_4, .bool a0_5, .int .i64 a0_6, .int .i64 a0_7, .int .i64 a0_8, .str a0_9] 5) (bv a0_5) (bv a0_5) (bv false) (.tup []) (.tup []) (.tup []) (.tup []) (.tup []) (.tup []) (.tup []) (.tup []) (.tup []) (.tup []) (.tup []) (.tup []) (.tup []) (.tup []) (.tup []) (.tup []) (.tup []) (.tup []) (.tup []) (.tup []) (.tup []) (.tup []) (.tup []) (.tup []) (bv false) false a0_0 a0_1 a0_2 a0_3 a0_4 a0_5 a0_6 a0_7 a0_8 a0_9))
  (Jn.spec_l6Change_0 false (fv [.bool a0_0, .int .i64 a0_1, .int .i64 a0_2, .int .i64 a0_3, .str a0_4, .bool a0_5, .int .i64 a0_6, .int .i64 a0_7, .int .i64 a0_8, .str a0_9] 0) (fv [.bool a0_0, .int .i64 a0_1, .int .i64 a0_2, .int .i64 a0_3, .str a0_4, .bool a0_5, .int .i64 a0_6, .int .i64 a0_7, .int .i64 a0_8, .str a0_9] 0) (fv [.bool a0_0, .int .i64 a0_1, .int .i64 a0_2, .int .i64 a0_3, .str a0_4, .bool a0_5, .int .i64 a0_6, .int .i64 a0_7, .int .i64 a0_8, .str a0_9] 0) (bv a0_0) (bv false) (.tup []) (.tup []) (.tup []) (.tup []) (bv false) (bv false) (.tup []) (.tup []) (.tup []) (.tup []) (.tup []) (.tup []) (.tup []) (.tup []) (.tup []) (.tup []) (.tup []) (.tup []) (.tup []) (.tup []) (.tup []) (.tup []) (.tup []) (.tup []) (.tup []) (.tup []) (.tup []) (.tup []) (.tup []) (.tup []) (bv false) false a0_0 a0_1 a0_2 a0_3 a0_4 a0_5 a0_6 a0_7 a0_8 a0_9))

theorem pu_spec_l6Change (a0_0 : Bool) (a0_1 : Int) (a0_2 : Int) (a0_3 : Int) (a0_4 : ByteArray) (a0_5 : Bool) (a0_6 : Int) (a0_7 : Int) (a0_8 : Int) (a0_9 : ByteArray) : pureV (call Ev) Fn.spec_l6Change [fv [.bool a0_0, .int .i64 a0_1, .int .i64 a0_2, .int .i64 a0_3, .str a0_4, .bool a0_5, .int .i64 a0_6, .int .i64 a0_7, .int .i64 a0_8, .str a0_9] 0] =
  vcase (bv (!a0_0))
  (Jn.spec_l6Change_1 true (fv [.bool a0_0, .int .i64 a0_1, .int .i64 a0_2, .int .i64 a0_3, .str a0_4, .bool a0_5, .int .i64 a0_6, .int .i64 a0_7, .int .i64 a0_8, .str a0_9] 0) (fv [.bool a0_0, .int .i64 a0_1, .int .i64 a0_2, .int .i64 a0_3, .str a0_4, .bool a0_5, .int .i64 a0_6, .int .i64 a0_7, .int .i64 a0_8, .str a0_9] 0) (fv [.bool a0_0, .int .i64 a0_1, .int .i64 a0_2, .int .i64 a0_3, .str a0_4, .bool a0_5, .int .i64 a0_6, .int .i64 a0_7, .int .i64 a0_8, .str a0_9] 5) (bv a0_5) (bv (!a0_5)) (!a0_5) a0_0 a0_5 a0_1 a0_6 a0_2 a0_3 a0_4 a0_7 a0_8 a0_9)
  (Jn.spec_l6Change_1 false (.tup []) (.tup []) (.tup []) (.tup []) (.tup []) false a0_0 a0_5 a0_1 a0_6 a0_2 a0_3 a0_4 a0_7 a0_8 a0_9) := by
  rw [pure_eq]; kernel_rfl

theorem pu_spec_l6Key (a0_0 : Bool) (a0_1 : Int) (a0_2 : Int) (a0_3 : Int) (a0_4 : ByteArray) (a0_5 : Bool) (a0_6 : Int) (a0_7 : Int) (a0_8 : Int) (a0_9 : ByteArray) : pureV (call Ev) Fn.spec_l6Key [fv [.bool a0_0, .int .i64 a0_1, .int .i64 a0_2, .int .i64 a0_3, .str a0_4, .bool a0_5, .int .i64 a0_6, .int .i64 a0_7, .int .i64 a0_8, .str a0_9] 0] =
  vcase (bv a0_5)
  (some (.tup [.s (.int .i64 a0_6), .s (.int .i64 a0_7)]))
  (some (.tup [.s (.int .i64 a0_1), .s (.int .i64 a0_2)])) := by
  rw [pure_eq]; kernel_rfl

noncomputable def Jn.spec_l6Do_0 (q161 : Bool) (w162 : V) (w163 : V) (w164 : V) (w165 : V) (w166 : V) (w167 : V) (w168 : V) (w169 : V) (w170 : V) (w171 : V) (w172 : V) (w173 : V) (w174 : V) (q175 : Bool) (n : Nat) (a0 : List (List S)) (a1_0 : Bool) (a1_1 : Int) (a1_2 : Int) (a1_3 : Int) (a1_4 : ByteArray) (a1_5 : Bool) (a1_6 : Int) (a1_7 : Int) (a1_8 : Int) (a1_9 : ByteArray) (i111 : Int) : Option (V × H) :=
  vcase (bv q175)
  (some (.tup [.s (.sl none 0), .s (.bool false)], (D n)))
  ((Lp.spec_l6Do 0 [lv a0, fv [.bool a1_0, .int .i64 a1_1, .int .i64 a1_2, .int .i64 a1_3, .str a1_4, .bool a1_5, .int .i64 a1_6, .int .i64 a1_7, .int .i64 a1_8, .str a1_9] 0, iv .i64 i111, sv ((D n).n) 0 0, iv .i64 0] ((D n).new 4 [])).bind fun o177 => lcase o177 (fun l178 h179 =>
  (l178[0]?).bind fun w182 =>
  (l178[1]?).bind fun w183 =>
  (notNil w182).bind fun v184 =>
  (padd 5 v184).bind fun v185 =>
  ldK (.one (.b)) ⟨1, 1, [.bool false], false, .bool, false⟩ h179 v185 fun v186 =>
  gV1 v186 fun x187 =>
  gB x187 fun q188 =>
  vcase (bv q188)
  ((notNil w182).bind fun v190 =>
  (padd 6 v190).bind fun v191 =>
  ldK (.agg [.i .i64, .i .i64, .i .i64, .s]) ⟨4, 40, [.int .i64 0, .int .i64 0, .int .i64 0, .str ⟨#[]⟩], true, .st [(0, 2), (1, 2), (2, 2), (3, 9)], true⟩ h179 v191 fun v192 =>
  gVA v192 fun c193 =>
  (c193[0]?).bind fun x194 =>
  gI .i64 x194 fun i195 =>
  (c193[1]?).bind fun x196 =>
  gI .i64 x196 fun i197 =>
  (c193[2]?).bind fun x198 =>
  gI .i64 x198 fun i199 =>
  (c193[3]?).bind fun x200 =>
  gS x200 fun y201 =>
  if c193.length = 4 then
  (frzVs h179 [w183, .agg [.int .i64 i195, .int .i64 i197, .int .i64 i199, .str y201]]).bind fun l202 =>
  pcallF (call Ev) Fn.spec_l6Put ([w183, .agg [.int .i64 i195, .int .i64 i197, .int .i64 i199, .str y201]].all offV) (normVs [] l202) h179 fun v203 h204 =>
  (V.toA v203).bind fun t205 =>
  some (.tup [t205, .s (.bool true)], h204)
  else none)
  ((V.toA w183).bind fun t206 =>
  some (.tup [t206, .s (.bool true)], h179))) (fun v180 h181 =>
  some (v180, h181)))

theorem eq_spec_l6Do (a0 : List (List S)) (a1_0 : Bool) (a1_1 : Int) (a1_2 : Int) (a1_3 : Int) (a1_4 : ByteArray) (a1_5 : Bool) (a1_6 : Int) (a1_7 : Int) (a1_8 : Int) (a1_9 : ByteArray) (n : Nat) : call Ev Fn.spec_l6Do [lv a0, fv [.bool a1_0, .int .i64 a1_1, .int .i64 a1_2, .int .i64 a1_3, .str a1_4, .bool a1_5, .int .i64 a1_6, .int .i64 a1_7, .int .i64 a1_8, .str a1_9] 0] (D n) =
  pcallS (call Ev) Fn.spec_l6Key [fv [.bool a1_0, .int .i64 a1_1, .int .i64 a1_2, .int .i64 a1_3, .str a1_4, .bool a1_5, .int .i64 a1_6, .int .i64 a1_7, .int .i64 a1_8, .str a1_9] 0] fun v101 =>
  gVT v101 fun u102 =>
  (u102[0]?).bind fun t103 =>
  gA1 t103 fun x104 =>
  gI .i64 x104 fun i105 =>
  (u102[1]?).bind fun t106 =>
  gA1 t106 fun x107 =>
  gI .i64 x107 fun i108 =>
  if u102.length = 2 then
  pcallS (call Ev) Fn.spec_l6At [lv a0, iv .i64 i105, iv .i64 i108] fun v109 =>
  gV1 v109 fun x110 =>
  gI .i64 x110 fun i111 =>
  vcase (bv (!(a1_0 == (decide (i111 ≥ 0)))))
  (Jn.spec_l6Do_0 true (.tup []) (.tup []) (.tup []) (.tup []) (.tup []) (.tup []) (.tup []) (.tup []) (.tup []) (.tup []) (.tup []) (.tup []) (.tup []) true n a0 a1_0 a1_1 a1_2 a1_3 a1_4 a1_5 a1_6 a1_7 a1_8 a1_9 i111)
  (vcase (bv (decide (i111 ≥ 0)))
  (idxF 4 a0 i111 fun r115 =>
  (rowN 4 r115 0).bind fun c116 =>
  (c116[0]?).bind fun x117 =>
  gI .i64 x117 fun i118 =>
  (c116[1]?).bind fun x119 =>
  gI .i64 x119 fun i120 =>
  (c116[2]?).bind fun x121 =>
  gI .i64 x121 fun i122 =>
  (c116[3]?).bind fun x123 =>
  gS x123 fun y124 =>
  if c116.length = 4 then
  Jn.spec_l6Do_0 false (iv .i64 i111) (bv (decide (i111 ≥ 0))) (bv true) (lv a0) (iv .i64 i111) (fv r115 0) (.agg [.int .i64 i118, .int .i64 i120, .int .i64 i122, .str y124]) (fv [.bool a1_0, .int .i64 a1_1, .int .i64 a1_2, .int .i64 a1_3, .str a1_4, .bool a1_5, .int .i64 a1_6, .int .i64 a1_7, .int .i64 a1_8, .str a1_9] 0) (fv [.bool a1_0, .int .i64 a1_1, .int .i64 a1_2, .int .i64 a1_3, .str a1_4, .bool a1_5, .int .i64 a1_6, .int .i64 a1_7, .int .i64 a1_8, .str a1_9] 0) (fv [.bool a1_0, .int .i64 a1_1, .int .i64 a1_2, .int .i64 a1_3, .str a1_4, .bool a1_5, .int .i64 a1_6, .int .i64 a1_7, .int .i64 a1_8, .str a1_9] 1) (.agg [.int .i64 a1_1, .int .i64 a1_2, .int .i64 a1_3, .str a1_4]) (bv (!(((i118 : Int) == a1_1) && (((i120 : Int) == a1_2) && (((i122 : Int) == a1_3) && (((y124 : ByteArray).toList == (a1_4 : ByteArray).toList) && true)))))) (bv (!(((i118 : Int) == a1_1) && (((i120 : Int) == a1_2) && (((i122 : Int) == a1_3) && (((y124 : ByteArray).toList == (a1_4 : ByteArray).toList) && true)))))) (!(((i118 : Int) == a1_1) && (((i120 : Int) == a1_2) && (((i122 : Int) == a1_3) && (((y124 : ByteArray).toList == (a1_4 : ByteArray).toList) && true))))) n a0 a1_0 a1_1 a1_2 a1_3 a1_4 a1_5 a1_6 a1_7 a1_8 a1_9 i111
  else none)
  (Jn.spec_l6Do_0 false (iv .i64 i111) (bv (decide (i111 ≥ 0))) (bv false) (.tup []) (.tup []) (.tup []) (.tup []) (.tup []) (.tup []) (.tup []) (.tup []) (.tup []) (bv false) false n a0 a1_0 a1_1 a1_2 a1_3 a1_4 a1_5 a1_6 a1_7 a1_8 a1_9 i111))
  else none := by
  rw [call_eq]; kernel_rfl

theorem eq_spec_l6Do_l0 (s0 : List (List S)) (s1_r : List S) (s1_o : Nat) (s8 : Int) (s9 : V) (s10 : Int) (h : H) : Lp.spec_l6Do 0 [lv s0, fv s1_r s1_o, iv .i64 s8, s9, iv .i64 s10] h =
  vcase (bv (decide (s10 < (s0.length : Int))))
  (vcase (bv (s10 != s8))
  (idxF 4 s0 s10 fun r204 =>
  (rowN 4 r204 0).bind fun c205 =>
  (c205[0]?).bind fun x206 =>
  gI .i64 x206 fun i207 =>
  (c205[1]?).bind fun x208 =>
  gI .i64 x208 fun i209 =>
  (c205[2]?).bind fun x210 =>
  gI .i64 x210 fun i211 =>
  (c205[3]?).bind fun x212 =>
  gS x212 fun y213 =>
  if c205.length = 4 then
  (appS 4 (h.new 4 [.int .i64 i207, .int .i64 i209, .int .i64 i211, .str y213]) s9 (sv h.n 0 1)).bind fun p214 =>
  Lp.spec_l6Do 0 [lv s0, fv s1_r s1_o, iv .i64 s8, p214.1, iv .i64 (IntKind.i64.wrap (s10 + 1))] (tidy h [lv s0, fv s1_r s1_o, iv .i64 s8, p214.1, iv .i64 (IntKind.i64.wrap (s10 + 1))] p214.2)
  else none)
  (Lp.spec_l6Do 0 [lv s0, fv s1_r s1_o, iv .i64 s8, s9, iv .i64 (IntKind.i64.wrap (s10 + 1))] (tidy h [lv s0, fv s1_r s1_o, iv .i64 s8, s9, iv .i64 (IntKind.i64.wrap (s10 + 1))] h)))
  (some (.done [fv s1_r s1_o, s9] (tidy h [fv s1_r s1_o, s9] h))) := by
  unfold Lp.spec_l6Do; rw [loop_eq]; kernel_rfl

theorem pu_spec_ApplyChanges (a0 : List (List S)) (a1 : List (List S)) : pureV (call Ev) Fn.spec_ApplyChanges [lv a0, lv a1] =
  pcallS (call Ev) Fn.spec_l6Rows [lv a0] fun v101 =>
  gV1 v101 fun x102 =>
  gI .i64 x102 fun i103 =>
  vcase (bv (i103 != 0))
  (some (.agg [.int .i64 i103, .fs []]))
  ((appS 4 (((D 0).new 0 [.int .i64 0, .sl none 0]).new 4 []) (sv 1 0 0) (lv a0)).bind fun p105 =>
  (Lp.spec_ApplyChanges 0 [lv a1, pv 0 0, p105.1, iv .i64 0] p105.2).bind fun o106 => lcase o106 (fun l107 h108 =>
  (l107[0]?).bind fun w111 =>
  (l107[1]?).bind fun w112 =>
  (lenV (.sl 39) w112).bind fun v113 =>
  gV1 v113 fun x114 =>
  gI .i64 x114 fun i115 =>
  vcase (bv (decide (i115 > 60)))
  (stK 2 h108 w111 (.agg [.int .i64 2, .sl none 0]) fun h117 =>
  ldT ⟨2, 32, [.int .i64 0, .sl none 0], true, .st [(0, 2), (1, 24)], false⟩ h117 w111 fun v118 =>
  frzV h117 v118)
  (cellsK w112 fun c119 =>
  if c119.length = 1 ∧ 1 + 1 ≤ ([.int .i64 0, .sl none 0] : List S).length then
  ((setAt ([.int .i64 0, .sl none 0] : List S) 1 c119)[0]?).bind fun x120 =>
  gI .i64 x120 fun i121 =>
  ((setAt ([.int .i64 0, .sl none 0] : List S) 1 c119)[1]?).bind fun x122 =>
  if (setAt ([.int .i64 0, .sl none 0] : List S) 1 c119).length = 2 then
  stK 2 h108 w111 (.agg [.int .i64 i121, x122]) fun h123 =>
  ldT ⟨2, 32, [.int .i64 0, .sl none 0], true, .st [(0, 2), (1, 24)], false⟩ h123 w111 fun v124 =>
  frzV h123 v124
  else none
  else none)) (fun v109 h110 =>
  frzV h110 v109)) := by
  rw [pure_eq]; kernel_rfl

theorem eq_spec_ApplyChanges_l0 (s1 : List (List S)) (s4 : V) (s6 : V) (s7 : Int) (h : H) : Lp.spec_ApplyChanges 0 [lv s1, s4, s6, iv .i64 s7] h =
  vcase (bv (decide (s7 < (s1.length : Int))))
  (idxF 10 s1 s7 fun r203 =>
  pcallS (call Ev) Fn.spec_l6Change [normV 10 (fv r203 0)] fun v204 =>
  gV1 v204 fun x205 =>
  gI .i64 x205 fun i206 =>
  vcase (bv (i206 != 0))
  (stK 2 h s4 (.agg [.int .i64 i206, .sl none 0]) fun h208 =>
  ldT ⟨2, 32, [.int .i64 0, .sl none 0], true, .st [(0, 2), (1, 24)], false⟩ h208 s4 fun v209 =>
  some (.ret v209 h208))
  (idxF 10 s1 s7 fun r210 =>
  (frzVs h [s6, fv r210 0]).bind fun l211 =>
  pcallF (call Ev) Fn.spec_l6Do ([s6, fv r210 0].all offV) (normVs [0, 10] l211) h fun v212 h213 =>
  gVT v212 fun u214 =>
  (u214[0]?).bind fun t215 =>
  gA1 t215 fun x216 =>
  (u214[1]?).bind fun t217 =>
  gA1 t217 fun x218 =>
  gB x218 fun q219 =>
  if u214.length = 2 then
  vcase (bv (!q219))
  (stK 2 h213 s4 (.agg [.int .i64 8, .sl none 0]) fun h221 =>
  ldT ⟨2, 32, [.int .i64 0, .sl none 0], true, .st [(0, 2), (1, 24)], false⟩ h221 s4 fun v222 =>
  some (.ret v222 h221))
  (Lp.spec_ApplyChanges 0 [lv s1, s4, .s x216, iv .i64 (IntKind.i64.wrap (s7 + 1))] (tidy h [lv s1, s4, .s x216, iv .i64 (IntKind.i64.wrap (s7 + 1))] h213))
  else none))
  (some (.done [s4, s6] (tidy h [s4, s6] h))) := by
  unfold Lp.spec_ApplyChanges; rw [loop_eq]; kernel_rfl

noncomputable def Jn.laws_FnChanges_0 (q520 : Bool) (w521 : V) (w522 : V) (w523 : V) (w524 : V) (w525 : V) (w526 : V) (w527 : V) (q528 : Bool) (z148 : List (List S)) (z151 : List (List S)) (i116 : Int) (z118 : List (List S)) (i129 : Int) (z131 : List (List S)) (i135 : Int) (z137 : List (List S)) (i141 : Int) (z143 : List (List S)) (i155 : Int) (z157 : List (List S)) : Option (V) :=
  vcase (bv q528)
  ((pureV (call Ev) Fn.spec_ApplyChanges [lv z148, lv z151]).bind fun v530 =>
  gVA v530 fun c531 =>
  (c531[0]?).bind fun x532 =>
  gI .i64 x532 fun i533 =>
  (c531[1]?).bind fun x534 =>
  gF x534 fun z535 =>
  if c531.length = 2 then
  hchk (((((((((((D 0).new 0 [.int .i64 0, .sl none 0]).put 0 (.rw 0 [.int .i64 i116, .fs z118])).new 0 [.int .i64 0, .sl none 0]).put 1 (.rw 0 [.int .i64 i129, .fs z131])).new 0 [.int .i64 0, .sl none 0]).put 2 (.rw 0 [.int .i64 i135, .fs z137])).new 0 [.int .i64 0, .sl none 0]).put 3 (.rw 0 [.int .i64 i141, .fs z143])).new 0 [.int .i64 0, .sl none 0]).put 4 (.rw 0 [.int .i64 i155, .fs z157])) (((((((((((D 0).new 0 [.int .i64 0, .sl none 0]).put 0 (.rw 0 [.int .i64 i116, .fs z118])).new 0 [.int .i64 0, .sl none 0]).put 1 (.rw 0 [.int .i64 i129, .fs z131])).new 0 [.int .i64 0, .sl none 0]).put 2 (.rw 0 [.int .i64 i135, .fs z137])).new 0 [.int .i64 0, .sl none 0]).put 3 (.rw 0 [.int .i64 i141, .fs z143])).new 0 [.int .i64 0, .sl none 0]).put 4 (.rw 0 [.int .i64 i155, .fs z157])) (
  pcallS (call Ev) Fn.laws_lwRows [lv z157, lv z535] fun v536 =>
  gV1 v536 fun x537 =>
  gB x537 fun q538 =>
  hchk (((((((((((D 0).new 0 [.int .i64 0, .sl none 0]).put 0 (.rw 0 [.int .i64 i116, .fs z118])).new 0 [.int .i64 0, .sl none 0]).put 1 (.rw 0 [.int .i64 i129, .fs z131])).new 0 [.int .i64 0, .sl none 0]).put 2 (.rw 0 [.int .i64 i135, .fs z137])).new 0 [.int .i64 0, .sl none 0]).put 3 (.rw 0 [.int .i64 i141, .fs z143])).new 0 [.int .i64 0, .sl none 0]).put 4 (.rw 0 [.int .i64 i155, .fs z157])) (((((((((((D 0).new 0 [.int .i64 0, .sl none 0]).put 0 (.rw 0 [.int .i64 i116, .fs z118])).new 0 [.int .i64 0, .sl none 0]).put 1 (.rw 0 [.int .i64 i129, .fs z131])).new 0 [.int .i64 0, .sl none 0]).put 2 (.rw 0 [.int .i64 i135, .fs z137])).new 0 [.int .i64 0, .sl none 0]).put 3 (.rw 0 [.int .i64 i141, .fs z143])).new 0 [.int .i64 0, .sl none 0]).put 4 (.rw 0 [.int .i64 i155, .fs z157])) (
  some (bv q538)))
  else none)
  (hchk (((((((((((D 0).new 0 [.int .i64 0, .sl none 0]).put 0 (.rw 0 [.int .i64 i116, .fs z118])).new 0 [.int .i64 0, .sl none 0]).put 1 (.rw 0 [.int .i64 i129, .fs z131])).new 0 [.int .i64 0, .sl none 0]).put 2 (.rw 0 [.int .i64 i135, .fs z137])).new 0 [.int .i64 0, .sl none 0]).put 3 (.rw 0 [.int .i64 i141, .fs z143])).new 0 [.int .i64 0, .sl none 0]).put 4 (.rw 0 [.int .i64 i155, .fs z157])) (((((((((((D 0).new 0 [.int .i64 0, .sl none 0]).put 0 (.rw 0 [.int .i64 i116, .fs z118])).new 0 [.int .i64 0, .sl none 0]).put 1 (.rw 0 [.int .i64 i129, .fs z131])).new 0 [.int .i64 0, .sl none 0]).put 2 (.rw 0 [.int .i64 i135, .fs z137])).new 0 [.int .i64 0, .sl none 0]).put 3 (.rw 0 [.int .i64 i141, .fs z143])).new 0 [.int .i64 0, .sl none 0]).put 4 (.rw 0 [.int .i64 i155, .fs z157])) (
  hchk (((((((((((D 0).new 0 [.int .i64 0, .sl none 0]).put 0 (.rw 0 [.int .i64 i116, .fs z118])).new 0 [.int .i64 0, .sl none 0]).put 1 (.rw 0 [.int .i64 i129, .fs z131])).new 0 [.int .i64 0, .sl none 0]).put 2 (.rw 0 [.int .i64 i135, .fs z137])).new 0 [.int .i64 0, .sl none 0]).put 3 (.rw 0 [.int .i64 i141, .fs z143])).new 0 [.int .i64 0, .sl none 0]).put 4 (.rw 0 [.int .i64 i155, .fs z157])) (((((((((((D 0).new 0 [.int .i64 0, .sl none 0]).put 0 (.rw 0 [.int .i64 i116, .fs z118])).new 0 [.int .i64 0, .sl none 0]).put 1 (.rw 0 [.int .i64 i129, .fs z131])).new 0 [.int .i64 0, .sl none 0]).put 2 (.rw 0 [.int .i64 i135, .fs z137])).new 0 [.int .i64 0, .sl none 0]).put 3 (.rw 0 [.int .i64 i141, .fs z143])).new 0 [.int .i64 0, .sl none 0]).put 4 (.rw 0 [.int .i64 i155, .fs z157])) (
  some (bv false))))

noncomputable def Jn.laws_FnChanges_1 (q501 : Bool) (w502 : V) (w503 : V) (w504 : V) (w505 : V) (w506 : V) (w507 : V) (w508 : V) (w509 : V) (q510 : Bool) (z148 : List (List S)) (z151 : List (List S)) (i116 : Int) (z118 : List (List S)) (i129 : Int) (z131 : List (List S)) (i135 : Int) (z137 : List (List S)) (i141 : Int) (z143 : List (List S)) (i155 : Int) (z157 : List (List S)) : Option (V) :=
  vcase (bv q510)
  ((pureV (call Ev) Fn.spec_ApplyChanges [lv z148, lv z151]).bind fun v512 =>
  gVA v512 fun c513 =>
  (c513[0]?).bind fun x514 =>
  gI .i64 x514 fun i515 =>
  (c513[1]?).bind fun x516 =>
  gF x516 fun z517 =>
  if c513.length = 2 then
  hchk (((((((((((D 0).new 0 [.int .i64 0, .sl none 0]).put 0 (.rw 0 [.int .i64 i116, .fs z118])).new 0 [.int .i64 0, .sl none 0]).put 1 (.rw 0 [.int .i64 i129, .fs z131])).new 0 [.int .i64 0, .sl none 0]).put 2 (.rw 0 [.int .i64 i135, .fs z137])).new 0 [.int .i64 0, .sl none 0]).put 3 (.rw 0 [.int .i64 i141, .fs z143])).new 0 [.int .i64 0, .sl none 0]).put 4 (.rw 0 [.int .i64 i155, .fs z157])) (((((((((((D 0).new 0 [.int .i64 0, .sl none 0]).put 0 (.rw 0 [.int .i64 i116, .fs z118])).new 0 [.int .i64 0, .sl none 0]).put 1 (.rw 0 [.int .i64 i129, .fs z131])).new 0 [.int .i64 0, .sl none 0]).put 2 (.rw 0 [.int .i64 i135, .fs z137])).new 0 [.int .i64 0, .sl none 0]).put 3 (.rw 0 [.int .i64 i141, .fs z143])).new 0 [.int .i64 0, .sl none 0]).put 4 (.rw 0 [.int .i64 i155, .fs z157])) (
  Jn.laws_FnChanges_0 true (pv 4 0) (iv .i64 i155) (lv z148) (lv z151) (.agg [.int .i64 i515, .fs z517]) (iv .i64 i515) (bv (i155 == i515)) (i155 == i515) z148 z151 i116 z118 i129 z131 i135 z137 i141 z143 i155 z157)
  else none)
  (hchk (((((((((((D 0).new 0 [.int .i64 0, .sl none 0]).put 0 (.rw 0 [.int .i64 i116, .fs z118])).new 0 [.int .i64 0, .sl none 0]).put 1 (.rw 0 [.int .i64 i129, .fs z131])).new 0 [.int .i64 0, .sl none 0]).put 2 (.rw 0 [.int .i64 i135, .fs z137])).new 0 [.int .i64 0, .sl none 0]).put 3 (.rw 0 [.int .i64 i141, .fs z143])).new 0 [.int .i64 0, .sl none 0]).put 4 (.rw 0 [.int .i64 i155, .fs z157])) (((((((((((D 0).new 0 [.int .i64 0, .sl none 0]).put 0 (.rw 0 [.int .i64 i116, .fs z118])).new 0 [.int .i64 0, .sl none 0]).put 1 (.rw 0 [.int .i64 i129, .fs z131])).new 0 [.int .i64 0, .sl none 0]).put 2 (.rw 0 [.int .i64 i135, .fs z137])).new 0 [.int .i64 0, .sl none 0]).put 3 (.rw 0 [.int .i64 i141, .fs z143])).new 0 [.int .i64 0, .sl none 0]).put 4 (.rw 0 [.int .i64 i155, .fs z157])) (
  Jn.laws_FnChanges_0 false (.tup []) (.tup []) (.tup []) (.tup []) (.tup []) (.tup []) (.tup []) false z148 z151 i116 z118 i129 z131 i135 z137 i141 z143 i155 z157))

noncomputable def Jn.laws_FnChanges_2 (q489 : Bool) (w490 : V) (w491 : V) (w492 : V) (w493 : V) (q494 : Bool) (z109 : List (List S)) (z112 : List (List S)) (i116 : Int) (z118 : List (List S)) (i129 : Int) (z131 : List (List S)) (i135 : Int) (z137 : List (List S)) (i141 : Int) (z143 : List (List S)) (i155 : Int) (z157 : List (List S)) (z148 : List (List S)) (z151 : List (List S)) : Option (V) :=
  vcase (bv q494)
  (pcallS (call Ev) Fn.laws_lwRows [lv z109, lv z112] fun v496 =>
  gV1 v496 fun x497 =>
  gB x497 fun q498 =>
  hchk (((((((((((D 0).new 0 [.int .i64 0, .sl none 0]).put 0 (.rw 0 [.int .i64 i116, .fs z118])).new 0 [.int .i64 0, .sl none 0]).put 1 (.rw 0 [.int .i64 i129, .fs z131])).new 0 [.int .i64 0, .sl none 0]).put 2 (.rw 0 [.int .i64 i135, .fs z137])).new 0 [.int .i64 0, .sl none 0]).put 3 (.rw 0 [.int .i64 i141, .fs z143])).new 0 [.int .i64 0, .sl none 0]).put 4 (.rw 0 [.int .i64 i155, .fs z157])) (((((((((((D 0).new 0 [.int .i64 0, .sl none 0]).put 0 (.rw 0 [.int .i64 i116, .fs z118])).new 0 [.int .i64 0, .sl none 0]).put 1 (.rw 0 [.int .i64 i129, .fs z131])).new 0 [.int .i64 0, .sl none 0]).put 2 (.rw 0 [.int .i64 i135, .fs z137])).new 0 [.int .i64 0, .sl none 0]).put 3 (.rw 0 [.int .i64 i141, .fs z143])).new 0 [.int .i64 0, .sl none 0]).put 4 (.rw 0 [.int .i64 i155, .fs z157])) (
  Jn.laws_FnChanges_1 true (pv 0 1) (lv z118) (iv .i64 (z118.length : Int)) (bv ((z118.length : Int) == 0)) (lv z109) (lv z112) (bv q498) (bv (((z118.length : Int) == 0) == q498)) (((z118.length : Int) == 0) == q498) z148 z151 i116 z118 i129 z131 i135 z137 i141 z143 i155 z157))
  (hchk (((((((((((D 0).new 0 [.int .i64 0, .sl none 0]).put 0 (.rw 0 [.int .i64 i116, .fs z118])).new 0 [.int .i64 0, .sl none 0]).put 1 (.rw 0 [.int .i64 i129, .fs z131])).new 0 [.int .i64 0, .sl none 0]).put 2 (.rw 0 [.int .i64 i135, .fs z137])).new 0 [.int .i64 0, .sl none 0]).put 3 (.rw 0 [.int .i64 i141, .fs z143])).new 0 [.int .i64 0, .sl none 0]).put 4 (.rw 0 [.int .i64 i155, .fs z157])) (((((((((((D 0).new 0 [.int .i64 0, .sl none 0]).put 0 (.rw 0 [.int .i64 i116, .fs z118])).new 0 [.int .i64 0, .sl none 0]).put 1 (.rw 0 [.int .i64 i129, .fs z131])).new 0 [.int .i64 0, .sl none 0]).put 2 (.rw 0 [.int .i64 i135, .fs z137])).new 0 [.int .i64 0, .sl none 0]).put 3 (.rw 0 [.int .i64 i141, .fs z143])).new 0 [.int .i64 0, .sl none 0]).put 4 (.rw 0 [.int .i64 i155, .fs z157])) (
  Jn.laws_FnChanges_1 false (.tup []) (.tup []) (.tup []) (.tup []) (.tup []) (.tup []) (.tup []) (.tup []) false z148 z151 i116 z118 i129 z131 i135 z137 i141 z143 i155 z157))

noncomputable def Jn.laws_FnChanges_3 (q478 : Bool) (w479 : V) (w480 : V) (w481 : V) (q482 : Bool) (z143 : List (List S)) (z109 : List (List S)) (i116 : Int) (z118 : List (List S)) (i129 : Int) (z131 : List (List S)) (i135 : Int) (z137 : List (List S)) (i141 : Int) (i155 : Int) (z157 : List (List S)) (z112 : List (List S)) (z148 : List (List S)) (z151 : List (List S)) : Option (V) :=
  vcase (bv q482)
  (pcallS (call Ev) Fn.laws_lwRows [lv z143, lv z109] fun v484 =>
  gV1 v484 fun x485 =>
  gB x485 fun q486 =>
  hchk (((((((((((D 0).new 0 [.int .i64 0, .sl none 0]).put 0 (.rw 0 [.int .i64 i116, .fs z118])).new 0 [.int .i64 0, .sl none 0]).put 1 (.rw 0 [.int .i64 i129, .fs z131])).new 0 [.int .i64 0, .sl none 0]).put 2 (.rw 0 [.int .i64 i135, .fs z137])).new 0 [.int .i64 0, .sl none 0]).put 3 (.rw 0 [.int .i64 i141, .fs z143])).new 0 [.int .i64 0, .sl none 0]).put 4 (.rw 0 [.int .i64 i155, .fs z157])) (((((((((((D 0).new 0 [.int .i64 0, .sl none 0]).put 0 (.rw 0 [.int .i64 i116, .fs z118])).new 0 [.int .i64 0, .sl none 0]).put 1 (.rw 0 [.int .i64 i129, .fs z131])).new 0 [.int .i64 0, .sl none 0]).put 2 (.rw 0 [.int .i64 i135, .fs z137])).new 0 [.int .i64 0, .sl none 0]).put 3 (.rw 0 [.int .i64 i141, .fs z143])).new 0 [.int .i64 0, .sl none 0]).put 4 (.rw 0 [.int .i64 i155, .fs z157])) (
  Jn.laws_FnChanges_2 true (pv 3 1) (lv z143) (lv z109) (bv q486) q486 z109 z112 i116 z118 i129 z131 i135 z137 i141 z143 i155 z157 z148 z151))
  (hchk (((((((((((D 0).new 0 [.int .i64 0, .sl none 0]).put 0 (.rw 0 [.int .i64 i116, .fs z118])).new 0 [.int .i64 0, .sl none 0]).put 1 (.rw 0 [.int .i64 i129, .fs z131])).new 0 [.int .i64 0, .sl none 0]).put 2 (.rw 0 [.int .i64 i135, .fs z137])).new 0 [.int .i64 0, .sl none 0]).put 3 (.rw 0 [.int .i64 i141, .fs z143])).new 0 [.int .i64 0, .sl none 0]).put 4 (.rw 0 [.int .i64 i155, .fs z157])) (((((((((((D 0).new 0 [.int .i64 0, .sl none 0]).put 0 (.rw 0 [.int .i64 i116, .fs z118])).new 0 [.int .i64 0, .sl none 0]).put 1 (.rw 0 [.int .i64 i129, .fs z131])).new 0 [.int .i64 0, .sl none 0]).put 2 (.rw 0 [.int .i64 i135, .fs z137])).new 0 [.int .i64 0, .sl none 0]).put 3 (.rw 0 [.int .i64 i141, .fs z143])).new 0 [.int .i64 0, .sl none 0]).put 4 (.rw 0 [.int .i64 i155, .fs z157])) (
  Jn.laws_FnChanges_2 false (.tup []) (.tup []) (.tup []) (.tup []) false z109 z112 i116 z118 i129 z131 i135 z137 i141 z143 i155 z157 z148 z151))

noncomputable def Jn.laws_FnChanges_4 (q470 : Bool) (w471 : V) (w472 : V) (w473 : V) (q474 : Bool) (i141 : Int) (z143 : List (List S)) (z109 : List (List S)) (i116 : Int) (z118 : List (List S)) (i129 : Int) (z131 : List (List S)) (i135 : Int) (z137 : List (List S)) (i155 : Int) (z157 : List (List S)) (z112 : List (List S)) (z148 : List (List S)) (z151 : List (List S)) : Option (V) :=
  vcase (bv q474)
  (Jn.laws_FnChanges_3 true (pv 3 0) (iv .i64 i141) (bv (i141 == 0)) (i141 == 0) z143 z109 i116 z118 i129 z131 i135 z137 i141 i155 z157 z112 z148 z151)
  (Jn.laws_FnChanges_3 false (.tup []) (.tup []) (.tup []) false z143 z109 i116 z118 i129 z131 i135 z137 i141 i155 z157 z112 z148 z151)

noncomputable def Jn.laws_FnChanges_5 (q461 : Bool) (w462 : V) (w463 : V) (w464 : V) (w465 : V) (q466 : Bool) (i135 : Int) (i141 : Int) (z143 : List (List S)) (z109 : List (List S)) (i116 : Int) (z118 : List (List S)) (i129 : Int) (z131 : List (List S)) (z137 : List (List S)) (i155 : Int) (z157 : List (List S)) (z112 : List (List S)) (z148 : List (List S)) (z151 : List (List S)) : Option (V) :=
  vcase (bv q466)
  (Jn.laws_FnChanges_4 true (pv 2 0) (iv .i64 i135) (bv (i135 == 0)) (i135 == 0) i141 z143 z109 i116 z118 i129 z131 i135 z137 i155 z157 z112 z148 z151)
  (Jn.laws_FnChanges_4 false (.tup []) (.tup []) (.tup []) false i141 z143 z109 i116 z118 i129 z131 i135 z137 i155 z157 z112 z148 z151)

theorem pu_laws_FnChanges (a0 : List (List S)) : pureV (call Ev) Fn.laws_FnChanges [lv a0] =
  pcallS (call Ev) Fn.laws_lwBig [lv a0] fun v101 =>
  gV1 v101 fun x102 =>
  gB x102 fun q103 =>
  vcase (bv q103)
  (some (bv true))
  ((pureV (call Ev) Fn.spec_DrawChangesOf [lv a0]).bind fun v105 =>
  gVT v105 fun u106 =>
  (u106[0]?).bind fun t107 =>
  gA1 t107 fun x108 =>
  gF x108 fun z109 =>
  (u106[1]?).bind fun t110 =>
  gA1 t110 fun x111 =>
  gF x111 fun z112 =>
  if u106.length = 2 then
  (pureV (call Ev) Fn.impl_ChangesOf [lv z109, lv z112]).bind fun v113 =>
  gVA v113 fun c114 =>
  (c114[0]?).bind fun x115 =>
  gI .i64 x115 fun i116 =>
  (c114[1]?).bind fun x117 =>
  gF x117 fun z118 =>
  if c114.length = 2 then
  vcase (bv (i116 != 0))
  ((pureV (call Ev) Fn.spec_ChangesOf [lv z109, lv z112]).bind fun v120 =>
  gVA v120 fun c121 =>
  (c121[0]?).bind fun x122 =>
  gI .i64 x122 fun i123 =>
  (c121[1]?).bind fun x124 =>
  gF x124 fun z125 =>
  if c121.length = 2 then
  hchk (((D 0).new 0 [.int .i64 0, .sl none 0]).put 0 (.rw 0 [.int .i64 i116, .fs z118])) (((D 0).new 0 [.int .i64 0, .sl none 0]).put 0 (.rw 0 [.int .i64 i116, .fs z118])) (
  hchk (((D 0).new 0 [.int .i64 0, .sl none 0]).put 0 (.rw 0 [.int .i64 i116, .fs z118])) (((D 0).new 0 [.int .i64 0, .sl none 0]).put 0 (.rw 0 [.int .i64 i116, .fs z118])) (
  hchk (((D 0).new 0 [.int .i64 0, .sl none 0]).put 0 (.rw 0 [.int .i64 i116, .fs z118])) (((D 0).new 0 [.int .i64 0, .sl none 0]).put 0 (.rw 0 [.int .i64 i116, .fs z118])) (
  hchk (((D 0).new 0 [.int .i64 0, .sl none 0]).put 0 (.rw 0 [.int .i64 i116, .fs z118])) (((D 0).new 0 [.int .i64 0, .sl none 0]).put 0 (.rw 0 [.int .i64 i116, .fs z118])) (
  some (bv (i123 == i116))))))
  else none)
  ((pureV (call Ev) Fn.impl_ApplyChanges [lv z109, lv z118]).bind fun v126 =>
  gVA v126 fun c127 =>
  (c127[0]?).bind fun x128 =>
  gI .i64 x128 fun i129 =>
  (c127[1]?).bind fun x130 =>
  gF x130 fun z131 =>
  if c127.length = 2 then
  (pureV (call Ev) Fn.impl_InverseOf [lv z118]).bind fun v132 =>
  gVA v132 fun c133 =>
  (c133[0]?).bind fun x134 =>
  gI .i64 x134 fun i135 =>
  (c133[1]?).bind fun x136 =>
  gF x136 fun z137 =>
  if c133.length = 2 then
  (pureV (call Ev) Fn.impl_ApplyChanges [lv z112, lv z137]).bind fun v138 =>
  gVA v138 fun c139 =>
  (c139[0]?).bind fun x140 =>
  gI .i64 x140 fun i141 =>
  (c139[1]?).bind fun x142 =>
  gF x142 fun z143 =>
  if c139.length = 2 then
  (pureV (call Ev) Fn.spec_DrawApplyChanges [lv a0]).bind fun v144 =>
  gVT v144 fun u145 =>
  (u145[0]?).bind fun t146 =>
  gA1 t146 fun x147 =>
  gF x147 fun z148 =>
  (u145[1]?).bind fun t149 =>
  gA1 t149 fun x150 =>
  gF x150 fun z151 =>
  if u145.length = 2 then
  (pureV (call Ev) Fn.impl_ApplyChanges [lv z148, lv z151]).bind fun v152 =>
  gVA v152 fun c153 =>
  (c153[0]?).bind fun x154 =>
  gI .i64 x154 fun i155 =>
  (c153[1]?).bind fun x156 =>
  gF x156 fun z157 =>
  if c153.length = 2 then
  vcase (bv (i129 == 0))
  (pcallS (call Ev) Fn.laws_lwRows [lv z131, lv z112] fun v159 =>
  gV1 v159 fun x160 =>
  gB x160 fun q161 =>
  hchk (((((((((((D 0).new 0 [.int .i64 0, .sl none 0]).put 0 (.rw 0 [.int .i64 i116, .fs z118])).new 0 [.int .i64 0, .sl none 0]).put 1 (.rw 0 [.int .i64 i129, .fs z131])).new 0 [.int .i64 0, .sl none 0]).put 2 (.rw 0 [.int .i64 i135, .fs z137])).new 0 [.int .i64 0, .sl none 0]).put 3 (.rw 0 [.int .i64 i141, .fs z143])).new 0 [.int .i64 0, .sl none 0]).put 4 (.rw 0 [.int .i64 i155, .fs z157])) (((((((((((D 0).new 0 [.int .i64 0, .sl none 0]).put 0 (.rw 0 [.int .i64 i116, .fs z118])).new 0 [.int .i64 0, .sl none 0]).put 1 (.rw 0 [.int .i64 i129, .fs z131])).new 0 [.int .i64 0, .sl none 0]).put 2 (.rw 0 [.int .i64 i135, .fs z137])).new 0 [.int .i64 0, .sl none 0]).put 3 (.rw 0 [.int .i64 i141, .fs z143])).new 0 [.int .i64 0, .sl none 0]).put 4 (.rw 0 [.int .i64 i155, .fs z157])) (
  Jn.laws_FnChanges_5 true (pv 1 1) (lv z131) (lv z112) (bv q161) q161 i135 i141 z143 z109 i116 z118 i129 z131 z137 i155 z157 z112 z148 z151))
  (hchk (((((((((((D 0).new 0 [.int .i64 0, .sl none 0]).put 0 (.rw 0 [.int .i64 i116, .fs z118])).new 0 [.int .i64 0, .sl none 0]).put 1 (.rw 0 [.int .i64 i129, .fs z131])).new 0 [.int .i64 0, .sl none 0]).put 2 (.rw 0 [.int .i64 i135, .fs z137])).new 0 [.int .i64 0, .sl none 0]).put 3 (.rw 0 [.int .i64 i141, .fs z143])).new 0 [.int .i64 0, .sl none 0]).put 4 (.rw 0 [.int .i64 i155, .fs z157])) (((((((((((D 0).new 0 [.int .i64 0, .sl none 0]).put 0 (.rw 0 [.int .i64 i116, .fs z118])).new 0 [.int .i64 0, .sl none 0]).put 1 (.rw 0 [.int .i64 i129, .fs z131])).new 0 [.int .i64 0, .sl none 0]).put 2 (.rw 0 [.int .i64 i135, .fs z137])).new 0 [.int .i64 0, .sl none 0]).put 3 (.rw 0 [.int .i64 i141, .fs z143])).new 0 [.int .i64 0, .sl none 0]).put 4 (.rw 0 [.int .i64 i155, .fs z157])) (
  Jn.laws_FnChanges_5 false (.tup []) (.tup []) (.tup []) (.tup []) false i135 i141 z143 z109 i116 z118 i129 z131 z137 i155 z157 z112 z148 z151))
  else none
  else none
  else none
  else none
  else none)
  else none
  else none) := by
  rw [pure_eq]; kernel_rfl

end Vm
