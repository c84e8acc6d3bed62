/-
  What each function, and each round of each loop, comes to in the small machine. Written by a program (gen3.py).
-/
import Derived.Test.YtpdoloemacmbaaaDoorEnv
set_option linter.unusedVariables false
set_option maxRecDepth 100000
namespace Vm
open Go

noncomputable def Jn.impl_changeFault_0 (q221 : Bool) (a0_0 : Bool) (a0_1 : Int) (a0_2 : Int) (a0_3 : Int) (a0_4 : ByteArray) (a0_5 : Bool) (a0_6 : Int) (a0_7 : Int) (a0_8 : Int) (a0_9 : ByteArray) : Option (V) :=
  vcase (bv q221)
  (some (iv .i64 1))
  (vcase (bv a0_0)
  (pcallS (call Ev) Fn.impl_RowFault [.agg [.int .i64 a0_1, .int .i64 a0_2, .int .i64 a0_3, .str a0_4]] fun v224 =>
  gV1 v224 fun x225 =>
  gI .i64 x225 fun i226 =>
  vcase (bv (i226 != 0))
  (some (iv .i64 i226))
  (vcase (bv a0_5)
  (pcallS (call Ev) Fn.impl_RowFault [.agg [.int .i64 a0_6, .int .i64 a0_7, .int .i64 a0_8, .str a0_9]] fun v229 =>
  gV1 v229 fun x230 =>
  gI .i64 x230 fun i231 =>
  some (iv .i64 i231))
  (some (iv .i64 0))))
  (vcase (bv a0_5)
  (pcallS (call Ev) Fn.impl_RowFault [.agg [.int .i64 a0_6, .int .i64 a0_7, .int .i64 a0_8, .str a0_9]] fun v233 =>
  gV1 v233 fun x234 =>
  gI .i64 x234 fun i235 =>
  some (iv .i64 i235))
  (some (iv .i64 0))))

noncomputable def Jn.impl_changeFault_1 (q217 : Bool) (a0_0 : Bool) (a0_1 : Int) (a0_2 : Int) (a0_3 : Int) (a0_4 : ByteArray) (a0_5 : Bool) (a0_6 : Int) (a0_7 : Int) (a0_8 : Int) (a0_9 : ByteArray) : Option (V) :=
  Jn.impl_changeFault_0 q217 a0_0 a0_1 a0_2 a0_3 a0_4 a0_5 a0_6 a0_7 a0_8 a0_9

noncomputable def Jn.impl_changeFault_2 (q205 : Bool) (a0_0 : Bool) (a0_5 : Bool) (a0_1 : Int) (a0_2 : Int) (a0_3 : Int) (a0_4 : ByteArray) (a0_6 : Int) (a0_7 : Int) (a0_8 : Int) (a0_9 : ByteArray) : Option (V) :=
  vcase (bv q205)
  (Jn.impl_changeFault_0 true a0_0 a0_1 a0_2 a0_3 a0_4 a0_5 a0_6 a0_7 a0_8 a0_9)
  (vcase (bv a0_0)
  (vcase (bv a0_5)
  (pcallS (call Ev) Fn.impl_order [.agg [.int .i64 a0_1, .int .i64 a0_2, .int .i64 a0_3, .str a0_4], .agg [.int .i64 a0_6, .int .i64 a0_7, .int .i64 a0_8, .str a0_9]] fun v212 =>
  gV1 v212 fun x213 =>
  gI .i64 x213 fun i214 =>
  Jn.impl_changeFault_1 (i214 != 0) a0_0 a0_1 a0_2 a0_3 a0_4 a0_5 a0_6 a0_7 a0_8 a0_9)
  (Jn.impl_changeFault_1 false a0_0 a0_1 a0_2 a0_3 a0_4 a0_5 a0_6 a0_7 a0_8 a0_9))
  (Jn.impl_changeFault_0 false a0_0 a0_1 a0_2 a0_3 a0_4 a0_5 a0_6 a0_7 a0_8 a0_9))

theorem pu_impl_changeFault (a0_0 : Bool) (a0_1 : Int) (a0_2 : Int) (a0_3 : Int) (a0_4 : ByteArray) (a0_5 : Bool) (a0_6 : Int) (a0_7 : Int) (a0_8 : Int) (a0_9 : ByteArray) : pureV (call Ev) Fn.impl_changeFault [.agg [.bool a0_0, .int .i64 a0_1, .int .i64 a0_2, .int .i64 a0_3, .str a0_4, .bool a0_5, .int .i64 a0_6, .int .i64 a0_7, .int .i64 a0_8, .str a0_9]] =
  vcase (bv (!a0_0))
  (Jn.impl_changeFault_2 (!a0_5) a0_0 a0_5 a0_1 a0_2 a0_3 a0_4 a0_6 a0_7 a0_8 a0_9)
  (Jn.impl_changeFault_2 false a0_0 a0_5 a0_1 a0_2 a0_3 a0_4 a0_6 a0_7 a0_8 a0_9) := by
  rw [pure_eq]; kernel_rfl

theorem pu_impl_longest (a0 : List (List S)) (a1 : Int) : pureV (call Ev) Fn.impl_longest [lv a0, iv .i64 a1] =
  (Lp.impl_longest 0 [iv .i64 a1, lv a0, iv .i64 (a0.length : Int), iv .i64 0] (D 0)).bind fun o101 => lcase o101 (fun l102 h103 =>
  some (.tup [.s (.int .i64 0), .s (.bool false)])) (fun v104 h105 =>
  frzV h105 v104) := by
  rw [pure_eq]; kernel_rfl

theorem eq_impl_longest_l0 (s1 : Int) (s8 : List (List S)) (s9 : Int) (s10 : Int) (h : H) : Lp.impl_longest 0 [iv .i64 s1, lv s8, iv .i64 s9, iv .i64 s10] h =
  vcase (bv (decide (s10 < s9)))
  (idxF 4 s8 s10 fun r203 =>
  (rowN 4 r203 0).bind fun c204 =>
  (c204[0]?).bind fun x205 =>
  gI .i64 x205 fun i206 =>
  (c204[1]?).bind fun x207 =>
  gI .i64 x207 fun i208 =>
  (c204[2]?).bind fun x209 =>
  gI .i64 x209 fun i210 =>
  (c204[3]?).bind fun x211 =>
  gS x211 fun y212 =>
  if c204.length = 4 then
  stK 4 (h.new 0 [.int .i64 0, .int .i64 0, .int .i64 0, .str (⟨#[]⟩)]) (pv h.n 0) (.agg [.int .i64 i206, .int .i64 i208, .int .i64 i210, .str y212]) fun h213 =>
  (load1 h213 (pv h.n 0)).bind fun x214 =>
  gI .i64 x214 fun i215 =>
  vcase (bv (i215 == 0))
  ((load1 h213 (pv h.n 1)).bind fun x217 =>
  gI .i64 x217 fun i218 =>
  vcase (bv (i218 == s1))
  ((load1 h213 (pv h.n 2)).bind fun x222 =>
  gI .i64 x222 fun i223 =>
  some (.ret (.tup [.s (.int .i64 i223), .s (.bool true)]) h213))
  (Lp.impl_longest 0 [iv .i64 s1, lv s8, iv .i64 s9, iv .i64 (IntKind.i64.wrap (s10 + 1))] (tidy h [iv .i64 s1, lv s8, iv .i64 s9, iv .i64 (IntKind.i64.wrap (s10 + 1))] h213)))
  (Lp.impl_longest 0 [iv .i64 s1, lv s8, iv .i64 s9, iv .i64 (IntKind.i64.wrap (s10 + 1))] (tidy h [iv .i64 s1, lv s8, iv .i64 s9, iv .i64 (IntKind.i64.wrap (s10 + 1))] h213))
  else none)
  (some (.done [] (tidy h [] h))) := by
  unfold Lp.impl_longest; rw [loop_eq]; kernel_rfl

theorem pu_impl_Change_key (a0_0 : Bool) (a0_1 : Int) (a0_2 : Int) (a0_3 : Int) (a0_4 : ByteArray) (a0_5 : Bool) (a0_6 : Int) (a0_7 : Int) (a0_8 : Int) (a0_9 : ByteArray) : pureV (call Ev) Fn.impl_Change_key [.agg [.bool a0_0, .int .i64 a0_1, .int .i64 a0_2, .int .i64 a0_3, .str a0_4, .bool a0_5, .int .i64 a0_6, .int .i64 a0_7, .int .i64 a0_8, .str a0_9]] =
  vcase (bv a0_5)
  (some (.agg [.int .i64 a0_6, .int .i64 a0_7, .int .i64 a0_8, .str a0_9]))
  (some (.agg [.int .i64 a0_1, .int .i64 a0_2, .int .i64 a0_3, .str a0_4])) := by
  rw [pure_eq]; kernel_rfl

theorem pu_impl_tableMayBe (a0 : List (List S)) (a1_0 : Bool) (a1_1 : Int) (a1_2 : Int) (a1_3 : Int) (a1_4 : ByteArray) (a1_5 : Bool) (a1_6 : Int) (a1_7 : Int) (a1_8 : Int) (a1_9 : ByteArray) : pureV (call Ev) Fn.impl_tableMayBe [lv a0, .agg [.bool a1_0, .int .i64 a1_1, .int .i64 a1_2, .int .i64 a1_3, .str a1_4, .bool a1_5, .int .i64 a1_6, .int .i64 a1_7, .int .i64 a1_8, .str a1_9]] =
  vcase (bv a1_5)
  (pcallS (call Ev) Fn.impl_in [iv .i64 a1_7, iv .i64 1, iv .i64 3] fun v102 =>
  gV1 v102 fun x103 =>
  gB x103 fun q104 =>
  vcase (bv (!q104))
  (some (iv .i64 10))
  (vcase (bv (decide (a1_8 > 8)))
  (some (iv .i64 10))
  (vcase (bv (!((a1_9 : ByteArray).toList == ((⟨#[]⟩) : ByteArray).toList)))
  (some (iv .i64 10))
  ((Lp.impl_tableMayBe 0 [pv 0 0, lv a0, iv .i64 (a0.length : Int), iv .i64 0] ((D 0).new 0 [.bool a1_0, .int .i64 a1_1, .int .i64 a1_2, .int .i64 a1_3, .str a1_4, .bool a1_5, .int .i64 a1_6, .int .i64 a1_7, .int .i64 a1_8, .str a1_9])).bind fun o119 => lcase o119 (fun l120 h121 =>
  some (iv .i64 0)) (fun v122 h123 =>
  frzV h123 v122)))))
  ((Lp.impl_tableMayBe 0 [pv 0 0, lv a0, iv .i64 (a0.length : Int), iv .i64 0] ((D 0).new 0 [.bool a1_0, .int .i64 a1_1, .int .i64 a1_2, .int .i64 a1_3, .str a1_4, .bool a1_5, .int .i64 a1_6, .int .i64 a1_7, .int .i64 a1_8, .str a1_9])).bind fun o125 => lcase o125 (fun l126 h127 =>
  some (iv .i64 0)) (fun v128 h129 =>
  frzV h129 v128)) := by
  rw [pure_eq]; kernel_rfl

theorem eq_impl_tableMayBe_l0 (s3 : V) (s28 : List (List S)) (s29 : Int) (s30 : Int) (h : H) : Lp.impl_tableMayBe 0 [s3, lv s28, iv .i64 s29, iv .i64 s30] h =
  vcase (bv (decide (s30 < s29)))
  (idxF 4 s28 s30 fun r203 =>
  (rowN 4 r203 0).bind fun c204 =>
  (c204[0]?).bind fun x205 =>
  gI .i64 x205 fun i206 =>
  (c204[1]?).bind fun x207 =>
  gI .i64 x207 fun i208 =>
  (c204[2]?).bind fun x209 =>
  gI .i64 x209 fun i210 =>
  (c204[3]?).bind fun x211 =>
  gS x211 fun y212 =>
  if c204.length = 4 then
  stK 4 (h.new 0 [.int .i64 0, .int .i64 0, .int .i64 0, .str (⟨#[]⟩)]) (pv h.n 0) (.agg [.int .i64 i206, .int .i64 i208, .int .i64 i210, .str y212]) fun h213 =>
  (load1 h213 (pv h.n 0)).bind fun x214 =>
  gI .i64 x214 fun i215 =>
  ldK (.agg [.b, .i .i64, .i .i64, .i .i64, .s, .b, .i .i64, .i .i64, .i .i64, .s]) ⟨10, 96, [.bool false, .int .i64 0, .int .i64 0, .int .i64 0, .str ⟨#[]⟩, .bool false, .int .i64 0, .int .i64 0, .int .i64 0, .str ⟨#[]⟩], true, .st [(0, 4), (1, 26), (5, 4), (6, 26)], true⟩ h213 s3 fun v216 =>
  gVA v216 fun c217 =>
  (c217[0]?).bind fun x218 =>
  gB x218 fun q219 =>
  (c217[1]?).bind fun x220 =>
  gI .i64 x220 fun i221 =>
  (c217[2]?).bind fun x222 =>
  gI .i64 x222 fun i223 =>
  (c217[3]?).bind fun x224 =>
  gI .i64 x224 fun i225 =>
  (c217[4]?).bind fun x226 =>
  gS x226 fun y227 =>
  (c217[5]?).bind fun x228 =>
  gB x228 fun q229 =>
  (c217[6]?).bind fun x230 =>
  gI .i64 x230 fun i231 =>
  (c217[7]?).bind fun x232 =>
  gI .i64 x232 fun i233 =>
  (c217[8]?).bind fun x234 =>
  gI .i64 x234 fun i235 =>
  (c217[9]?).bind fun x236 =>
  gS x236 fun y237 =>
  if c217.length = 10 then
  pcallS (call Ev) Fn.impl_Change_key [.agg [.bool q219, .int .i64 i221, .int .i64 i223, .int .i64 i225, .str y227, .bool q229, .int .i64 i231, .int .i64 i233, .int .i64 i235, .str y237]] fun v238 =>
  gVA v238 fun c239 =>
  (c239[0]?).bind fun x240 =>
  gI .i64 x240 fun i241 =>
  (c239[1]?).bind fun x242 =>
  gI .i64 x242 fun i243 =>
  (c239[2]?).bind fun x244 =>
  gI .i64 x244 fun i245 =>
  (c239[3]?).bind fun x246 =>
  gS x246 fun y247 =>
  if c239.length = 4 then
  hchk h213 h213 (
  vcase (bv (i215 == i243))
  ((load1 h213 (pv h.n 0)).bind fun x249 =>
  gI .i64 x249 fun i250 =>
  vcase (bv (i250 != 0))
  ((padd 5 s3).bind fun v254 =>
  ldK (.one (.b)) ⟨1, 1, [.bool false], false, .bool, false⟩ h213 v254 fun v255 =>
  gV1 v255 fun x256 =>
  gB x256 fun q257 =>
  vcase (bv (!q257))
  (some (.ret (iv .i64 8) h213))
  ((load1 h213 (pv h.n 3)).bind fun x260 =>
  gS x260 fun y261 =>
  (padd 6 s3).bind fun v262 =>
  (padd 2 v262).bind fun v263 =>
  ldK (.one (.i .i64)) ⟨1, 8, [.int .i64 0], false, .int .i64, false⟩ h213 v263 fun v264 =>
  gV1 v264 fun x265 =>
  gI .i64 x265 fun i266 =>
  vcase (bv (decide (((y261 : ByteArray).size : Int) > i266)))
  (some (.ret (iv .i64 8) h213))
  (Lp.impl_tableMayBe 0 [s3, lv s28, iv .i64 s29, iv .i64 (IntKind.i64.wrap (s30 + 1))] (tidy h [s3, lv s28, iv .i64 s29, iv .i64 (IntKind.i64.wrap (s30 + 1))] h213))))
  (Lp.impl_tableMayBe 0 [s3, lv s28, iv .i64 s29, iv .i64 (IntKind.i64.wrap (s30 + 1))] (tidy h [s3, lv s28, iv .i64 s29, iv .i64 (IntKind.i64.wrap (s30 + 1))] h213)))
  (Lp.impl_tableMayBe 0 [s3, lv s28, iv .i64 s29, iv .i64 (IntKind.i64.wrap (s30 + 1))] (tidy h [s3, lv s28, iv .i64 s29, iv .i64 (IntKind.i64.wrap (s30 + 1))] h213)))
  else none
  else none
  else none)
  (some (.done [] (tidy h [] h))) := by
  unfold Lp.impl_tableMayBe; rw [loop_eq]; kernel_rfl

theorem pu_impl_mayBe (a0 : List (List S)) (a1_0 : Bool) (a1_1 : Int) (a1_2 : Int) (a1_3 : Int) (a1_4 : ByteArray) (a1_5 : Bool) (a1_6 : Int) (a1_7 : Int) (a1_8 : Int) (a1_9 : ByteArray) : pureV (call Ev) Fn.impl_mayBe [lv a0, .agg [.bool a1_0, .int .i64 a1_1, .int .i64 a1_2, .int .i64 a1_3, .str a1_4, .bool a1_5, .int .i64 a1_6, .int .i64 a1_7, .int .i64 a1_8, .str a1_9]] =
  pcallS (call Ev) Fn.impl_Change_key [.agg [.bool a1_0, .int .i64 a1_1, .int .i64 a1_2, .int .i64 a1_3, .str a1_4, .bool a1_5, .int .i64 a1_6, .int .i64 a1_7, .int .i64 a1_8, .str a1_9]] fun v101 =>
  gVA v101 fun c102 =>
  (c102[0]?).bind fun x103 =>
  gI .i64 x103 fun i104 =>
  (c102[1]?).bind fun x105 =>
  gI .i64 x105 fun i106 =>
  (c102[2]?).bind fun x107 =>
  gI .i64 x107 fun i108 =>
  (c102[3]?).bind fun x109 =>
  gS x109 fun y110 =>
  if c102.length = 4 then
  vcase (bv (i104 == 0))
  (pcallS (call Ev) Fn.impl_tableMayBe [lv a0, .agg [.bool a1_0, .int .i64 a1_1, .int .i64 a1_2, .int .i64 a1_3, .str a1_4, .bool a1_5, .int .i64 a1_6, .int .i64 a1_7, .int .i64 a1_8, .str a1_9]] fun v112 =>
  gV1 v112 fun x113 =>
  gI .i64 x113 fun i114 =>
  some (iv .i64 i114))
  (vcase (bv (!a1_5))
  (some (iv .i64 0))
  (pcallS (call Ev) Fn.impl_longest [lv a0, iv .i64 a1_6] fun v116 =>
  gVT v116 fun u117 =>
  (u117[0]?).bind fun t118 =>
  gA1 t118 fun x119 =>
  gI .i64 x119 fun i120 =>
  (u117[1]?).bind fun t121 =>
  gA1 t121 fun x122 =>
  gB x122 fun q123 =>
  if u117.length = 2 then
  vcase (bv (!q123))
  (some (iv .i64 4))
  (vcase (bv (decide (((a1_9 : ByteArray).size : Int) > i120)))
  (some (iv .i64 10))
  (some (iv .i64 0)))
  else none))
  else none := by
  rw [pure_eq]; kernel_rfl

theorem pu_impl_MayBe (a0 : List (List S)) (a1_0 : Bool) (a1_1 : Int) (a1_2 : Int) (a1_3 : Int) (a1_4 : ByteArray) (a1_5 : Bool) (a1_6 : Int) (a1_7 : Int) (a1_8 : Int) (a1_9 : ByteArray) : pureV (call Ev) Fn.impl_MayBe [lv a0, .agg [.bool a1_0, .int .i64 a1_1, .int .i64 a1_2, .int .i64 a1_3, .str a1_4, .bool a1_5, .int .i64 a1_6, .int .i64 a1_7, .int .i64 a1_8, .str a1_9]] =
  pcallS (call Ev) Fn.impl_RowsFault [lv a0] fun v101 =>
  gV1 v101 fun x102 =>
  gI .i64 x102 fun i103 =>
  vcase (bv (i103 != 0))
  (some (iv .i64 i103))
  (pcallS (call Ev) Fn.impl_changeFault [.agg [.bool a1_0, .int .i64 a1_1, .int .i64 a1_2, .int .i64 a1_3, .str a1_4, .bool a1_5, .int .i64 a1_6, .int .i64 a1_7, .int .i64 a1_8, .str a1_9]] fun v105 =>
  gV1 v105 fun x106 =>
  gI .i64 x106 fun i107 =>
  vcase (bv (i107 != 0))
  (some (iv .i64 i107))
  (pcallS (call Ev) Fn.impl_mayBe [lv a0, .agg [.bool a1_0, .int .i64 a1_1, .int .i64 a1_2, .int .i64 a1_3, .str a1_4, .bool a1_5, .int .i64 a1_6, .int .i64 a1_7, .int .i64 a1_8, .str a1_9]] fun v109 =>
  gV1 v109 fun x110 =>
  gI .i64 x110 fun i111 =>
  some (iv .i64 i111))) := by
  rw [pure_eq]; kernel_rfl

theorem pu_spec_l1In (a0 : Int) (a1 : Int) (a2 : Int) : pureV (call Ev) Fn.spec_l1In [iv .i64 a0, iv .i64 a1, iv .i64 a2] =
  vcase (bv (decide (a0 ≥ a1)))
  (some (bv (decide (a0 ≤ a2))))
  (some (bv false)) := by
  rw [pure_eq]; kernel_rfl

theorem pu_spec_l1Text (a0 : ByteArray) : pureV (call Ev) Fn.spec_l1Text [.s (.str a0)] =
  (Lp.spec_l1Text 0 [.s (.str a0), iv .i64 0] (D 0)).bind fun o101 => lcase o101 (fun l102 h103 =>
  (l102[0]?).bind fun w106 =>
  gV1 w106 fun x107 =>
  gS x107 fun y108 =>
  some (bv (decide (((y108 : ByteArray).size : Int) ≤ 8)))) (fun v104 h105 =>
  frzV h105 v104) := by
  rw [pure_eq]; kernel_rfl

theorem eq_spec_l1Text_l0 (s0 : ByteArray) (s3 : Int) (h : H) : Lp.spec_l1Text 0 [.s (.str s0), iv .i64 s3] h =
  vcase (bv (decide (s3 < ((s0 : ByteArray).size : Int))))
  ((idxStr (.s (.str s0)) (iv .i64 s3)).bind fun v203 =>
  gV1 v203 fun x204 =>
  gI .u8 x204 fun i205 =>
  vcase (bv (decide (i205 < 97)))
  (some (.ret (bv false) h))
  ((idxStr (.s (.str s0)) (iv .i64 s3)).bind fun v208 =>
  gV1 v208 fun x209 =>
  gI .u8 x209 fun i210 =>
  vcase (bv (decide (i210 > 122)))
  (some (.ret (bv false) h))
  (Lp.spec_l1Text 0 [.s (.str s0), iv .i64 (IntKind.i64.wrap (s3 + 1))] (tidy h [.s (.str s0), iv .i64 (IntKind.i64.wrap (s3 + 1))] h))))
  (some (.done [.s (.str s0)] (tidy h [.s (.str s0)] h))) := by
  unfold Lp.spec_l1Text; rw [loop_eq]; kernel_rfl

theorem pu_spec_l1Fault (a0_0 : Int) (a0_1 : Int) (a0_2 : Int) (a0_3 : ByteArray) : pureV (call Ev) Fn.spec_l1Fault [fv [.int .i64 a0_0, .int .i64 a0_1, .int .i64 a0_2, .str a0_3] 0] =
  pcallS (call Ev) Fn.spec_l1In [iv .i64 a0_0, iv .i64 0, iv .i64 3] fun v101 =>
  gV1 v101 fun x102 =>
  gB x102 fun q103 =>
  vcase (bv (!q103))
  (some (iv .i64 3))
  (pcallS (call Ev) Fn.spec_l1In [iv .i64 a0_1, iv .i64 1, iv .i64 99] fun v106 =>
  gV1 v106 fun x107 =>
  gB x107 fun q108 =>
  vcase (bv (!q108))
  (some (iv .i64 3))
  (pcallS (call Ev) Fn.spec_l1In [iv .i64 a0_2, iv .i64 0, iv .i64 999] fun v114 =>
  gV1 v114 fun x115 =>
  gB x115 fun q116 =>
  vcase (bv (!q116))
  (some (iv .i64 3))
  (pcallS (call Ev) Fn.spec_l1Text [.s (.str a0_3)] fun v120 =>
  gV1 v120 fun x121 =>
  gB x121 fun q122 =>
  vcase (bv (!q122))
  (some (iv .i64 5))
  (some (iv .i64 0))))) := by
  rw [pure_eq]; kernel_rfl

theorem pu_spec_l6Rows (a0 : List (List S)) : pureV (call Ev) Fn.spec_l6Rows [lv a0] =
  vcase (bv (decide ((a0.length : Int) > 60)))
  (some (iv .i64 2))
  ((Lp.spec_l6Rows 0 [lv a0, iv .i64 0] (D 0)).bind fun o102 => lcase o102 (fun l103 h104 =>
  some (iv .i64 0)) (fun v105 h106 =>
  frzV h106 v105)) := by
  rw [pure_eq]; kernel_rfl

theorem eq_spec_l6Rows_l0 (s0 : List (List S)) (s3 : Int) (h : H) : Lp.spec_l6Rows 0 [lv s0, iv .i64 s3] h =
  vcase (bv (decide (s3 < (s0.length : Int))))
  (idxF 4 s0 s3 fun r203 =>
  pcallS (call Ev) Fn.spec_l1Fault [normV 4 (fv r203 0)] fun v204 =>
  gV1 v204 fun x205 =>
  gI .i64 x205 fun i206 =>
  vcase (bv (i206 != 0))
  (some (.ret (iv .i64 i206) h))
  (vcase (bv (decide (s3 > 0)))
  (idxF 4 s0 (IntKind.i64.wrap (s3 - 1)) fun r209 =>
  idxF 4 s0 s3 fun r210 =>
  pcallS (call Ev) Fn.spec_l1Before [normV 4 (fv r209 0), normV 4 (fv r210 0)] fun v211 =>
  gV1 v211 fun x212 =>
  gB x212 fun q213 =>
  hchk h h (
  vcase (bv (!q213))
  (some (.ret (iv .i64 1) h))
  (Lp.spec_l6Rows 0 [lv s0, iv .i64 (IntKind.i64.wrap (s3 + 1))] (tidy h [lv s0, iv .i64 (IntKind.i64.wrap (s3 + 1))] h))))
  (hchk h h (
  Lp.spec_l6Rows 0 [lv s0, iv .i64 (IntKind.i64.wrap (s3 + 1))] (tidy h [lv s0, iv .i64 (IntKind.i64.wrap (s3 + 1))] h)))))
  (some (.done [] (tidy h [] h))) := by
  unfold Lp.spec_l6Rows; rw [loop_eq]; kernel_rfl

noncomputable def Jn.spec_l6Change_0 (q213 : Bool) (w214 : V) (w215 : V) (w216 : V) (w217 : V) (w218 : V) (w219 : V) (w220 : V) (w221 : V) (w222 : V) (w223 : V) (w224 : V) (w225 : V) (w226 : V) (w227 : V) (w228 : V) (w229 : V) (w230 : V) (w231 : V) (w232 : V) (w233 : V) (w234 : V) (w235 : V) (w236 : V) (w237 : V) (w238 : V) (w239 : V) (w240 : V) (w241 : V) (w242 : V) (w243 : V) (w244 : V) (w245 : V) (w246 : V) (w247 : V) (w248 : V) (w249 : V) (q250 : Bool) (a0_0 : Bool) (a0_1 : Int) (a0_2 : Int) (a0_3 : Int) (a0_4 : ByteArray) (a0_5 : Bool) (a0_6 : Int) (a0_7 : Int) (a0_8 : Int) (a0_9 : ByteArray) : Option (V) :=
  vcase (bv q250)
  (some (iv .i64 1))
  (vcase (bv a0_0)
  (pcallS (call Ev) Fn.spec_l1Fault [fv [.int .i64 a0_1, .int .i64 a0_2, .int .i64 a0_3, .str a0_4] 0] fun v253 =>
  gV1 v253 fun x254 =>
  gI .i64 x254 fun i255 =>
  vcase (bv (i255 != 0))
  (some (iv .i64 i255))
  (vcase (bv a0_5)
  (pcallS (call Ev) Fn.spec_l1Fault [fv [.int .i64 a0_6, .int .i64 a0_7, .int .i64 a0_8, .str a0_9] 0] fun v258 =>
  gV1 v258 fun x259 =>
  gI .i64 x259 fun i260 =>
  some (iv .i64 i260))
  (some (iv .i64 0))))
  (vcase (bv a0_5)
  (pcallS (call Ev) Fn.spec_l1Fault [fv [.int .i64 a0_6, .int .i64 a0_7, .int .i64 a0_8, .str a0_9] 0] fun v262 =>
  gV1 v262 fun x263 =>
  gI .i64 x263 fun i264 =>
  some (iv .i64 i264))
  (some (iv .i64 0))))

noncomputable def Jn.spec_l6Change_1 (q189 : Bool) (w190 : V) (w191 : V) (w192 : V) (w193 : V) (w194 : V) (q195 : Bool) (a0_0 : Bool) (a0_5 : Bool) (a0_1 : Int) (a0_6 : Int) (a0_2 : Int) (a0_3 : Int) (a0_4 : ByteArray) (a0_7 : Int) (a0_8 : Int) (a0_9 : ByteArray) : Option (V) :=
  vcase (bv q195)
  (Jn.spec_l6Change_0 true (.tup []) (.tup []) (.tup []) (.tup []) (.tup []) (.tup []) (.tup []) (.tup []) (.tup []) (.tup []) (.tup []) (.tup []) (.tup []) (.tup []) (.tup []) (.tup []) (.tup []) (.tup []) (.tup []) (.tup []) (.tup []) (.tup []) (.tup []) (.tup []) (.tup []) (.tup []) (.tup []) (.tup []) (.tup []) (.tup []) (.tup []) (.tup []) (.tup []) (.tup []) (.tup []) (.tup []) true a0_0 a0_1 a0_2 a0_3 a0_4 a0_5 a0_6 a0_7 a0_8 a0_9)
  (vcase (bv a0_0)
  (vcase (bv a0_5)
  (vcase (bv (a0_1 != a0_6))
  (Jn.spec_l6Change_0 false (fv [.bool a0_0, .int .i64 a0_1, .int .i64 a0_2, .int .i64 a0_3, .str a0_4, .bool a0_5, .int .i64 a0_6, .int .i64 a0_7, .int .i64 a0_8, .str a0_9] 0) (fv [.bool a0_0, .int .i64 a0_1, .int .i64 a0_2, .int .i64 a0_3, .str a0_4, .bool a0_5, .int .i64 a0_6, .int .i64 a0_7, .int .i64 a0_8, .str a0_9] 0) (fv [.bool a0_0, .int .i64 a0_1, .int .i64 a0_2, .int .i64 a0_3, .str a0_4, .bool a0_5, .int .i64 a0_6, .int .i64 a0_7, .int .i64 a0_8, .str a0_9] 0) (bv a0_0) (bv true) (fv [.bool a0_0, .int .i64 a0_1, .int .i64 a0_2, .int .i64 a0_3, .str a0_4, .bool a0_5, .int .i64 a0_6, .int .i64 a0_7, .int .i64 a0_8, .str a0_9] 0) (fv [.bool a0_0, .int .i64 a0_1, .int .i64 a0_2, .int .i64 a0_3, .str a0_4, .bool a0_5, .int .i64 a0_6, .int .i64 a0_7, .int .i64 a0_8, .str a0_9] 0) (fv [.bool a0_0, .int .i64 a0_1, .int .i64 a0_2, .int .i64 a0_3, .str a0_4, .bool a0_5, .int .i64 a0_6, .int .i64 a0_7, .int .i64 a0_8, .str a0_9] 5) (bv a0_5) (bv a0_5) (bv true) (fv [.bool a0_0, .int .i64 a0_1, .int .i64 a0_2, .int .i64 a0_3, .str a0_4, .bool a0_5, .int .i64 a0_6, .int .i64 a0_7, .int .i64 a0_8, .str a0_9] 0) (fv [.bool a0_0, .int .i64 a0_1, .int .i64 a0_2, .int .i64 a0_3, .str a0_4, .bool a0_5, .int .i64 a0_6, .int .i64 a0_7, .int .i64 a0_8, .str a0_9] 0) (fv [.bool a0_0, .int .i64 a0_1, .int .i64 a0_2, .int .i64 a0_3, .str a0_4, .bool a0_5, .int .i64 a0_6, .int .i64 a0_7, .int .i64 a0_8, .str a0_9] 1) (fv [.bool a0_0, .int .i64 a0_1, .int .i64 a0_2, .int .i64 a0_3, .str a0_4, .bool a0_5, .int .i64 a0_6, .int .i64 a0_7, .int .i64 a0_8, .str a0_9] 1) (iv .i64 a0_1) (fv [.bool a0_0, .int .i64 a0_1, .int .i64 a0_2, .int .i64 a0_3, .str a0_4, .bool a0_5, .int .i64 a0_6, .int .i64 a0_7, .int .i64 a0_8, .str a0_9] 0) (fv [.bool a0_0, .int .i64 a0_1, .int .i64 a0_2, .int .i64 a0_3, .str a0_4, .bool a0_5, .int .i64 a0_6, .int .i64 a0_7, .int .i64 a0_8, .str a0_9] 0) (fv [.bool a0_0, .int .i64 a0_1, .int .i64 a0_2, .int .i64 a0_3, .str a0_4, .bool a0_5, .int .i64 a0_6, .int .i64 a0_7, .int .i64 a0_8, .str a0_9] 6) (fv [.bool a0_0, .int .i64 a0_1, .int .i64 a0_2, .int .i64 a0_3, .str a0_4, .bool a0_5, .int .i64 a0_6, .int .i64 a0_7, .int .i64 a0_8, .str a0_9] 6) (iv .i64 a0_6) (bv (a0_1 != a0_6)) (bv true) (.tup []) (.tup []) (.tup []) (.tup []) (.tup []) (.tup []) (.tup []) (.tup []) (.tup []) (.tup []) (.tup []) (bv true) (bv true) true a0_0 a0_1 a0_2 a0_3 a0_4 a0_5 a0_6 a0_7 a0_8 a0_9)
  (Jn.spec_l6Change_0 false (fv [.bool a0_0, .int .i64 a0_1, .int .i64 a0_2, .int .i64 a0_3, .str a0_4, .bool a0_5, .int .i64 a0_6, .int .i64 a0_7, .int .i64 a0_8, .str a0_9] 0) (fv [.bool a0_0, .int .i64 a0_1, .int .i64 a0_2, .int .i64 a0_3, .str a0_4, .bool a0_5, .int .i64 a0_6, .int .i64 a0_7, .int .i64 a0_8, .str a0_9] 0) (fv [.bool a0_0, .int .i64 a0_1, .int .i64 a0_2, .int .i64 a0_3, .str a0_4, .bool a0_5, .int .i64 a0_6, .int .i64 a0_7, .int .i64 a0_8, .str a0_9] 0) (bv a0_0) (bv true) (fv [.bool a0_0, .int .i64 a0_1, .int .i64 a0_2, .int .i64 a0_3, .str a0_4, .bool a0_5, .int .i64 a0_6, .int .i64 a0_7, .int .i64 a0_8, .str a0_9] 0) (fv [.bool a0_0, .int .i64 a0_1, .int .i64 a0_2, .int .i64 a0_3, .str a0_4, .bool a0_5, .int .i64 a0_6, .int .i64 a0_7, .int .i64 a0_8, .str a0_9] 0) (fv [.bool a0_0, .int .i64 a0_1, .int .i64 a0_2, .int .i64 a0_3, .str a0_4, .bool a0_5, .int .i64 a0_6, .int .i64 a0_7, .int .i64 a0_8, .str a0_9] 5) (bv a0_5) (bv a0_5) (bv true) (fv [.bool a0_0, .int .i64 a0_1, .int .i64 a0_2, .int .i64 a0_3, .str a0_4, .bool a0_5, .int .i64 a0_6, .int .i64 a0_7, .int .i64 a0_8, .str a0_9] 0) (fv [.bool a0_0, .int .i64 a0_1, .int .i64 a0_2, .int .i64 a0_3, .str a0_4, .bool a0_5, .int .i64 a0_6, .int .i64 a0_7, .int .i64 a0_8, .str a0_9] 0) (fv [.bool a0_0, .int .i64 a0_1, .int .i64 a0_2, .int .i64 a0_3, .str a0_4, .bool a0_5, .int .i64 a0_6, .int .i64 a0_7, .int .i64 a0_8, .str a0_9] 1) (fv [.bool a0_0, .int .i64 a0_1, .int .i64 a0_2, .int .i64 a0_3, .str a0_4, .bool a0_5, .int .i64 a0_6, .int .i64 a0_7, .int .i64 a0_8, .str a0_9] 1) (iv .i64 a0_1) (fv [.bool a0_0, .int .i64 a0_1, .int .i64 a0_2, .int .i64 a0_3, .str a0_4, .bool a0_5, .int .i64 a0_6, .int .i64 a0_7, .int .i64 a0_8, .str a0_9] 0) (fv [.bool a0_0, .int .i64 a0_1, .int .i64 a0_2, .int .i64 a0_3, .str a0_4, .bool a0_5, .int .i64 a0_6, .int .i64 a0_7, .int .i64 a0_8, .str a0_9] 0) (fv [.bool a0_0, .int .i64 a0_1, .int .i64 a0_2, .int .i64 a0_3, .str a0_4, .bool a0_5, .int .i64 a0_6, .int .i64 a0_7, .int .i64 a0_8, .str a0_9] 6) (fv [.bool a0_0, .int .i64 a0_1, .int .i64 a0_2, .int .i64 a0_3, .str a0_4, .bool a0_5, .int .i64 a0_6, .int .i64 a0_7, .int .i64 a0_8, .str a0_9] 6) (iv .i64 a0_6) (bv (a0_1 != a0_6)) (bv false) (fv [.bool a0_0, .int .i64 a0_1, .int .i64 a0_2, .int .i64 a0_3, .str a0_4, .bool a0_5, .int .i64 a0_6, .int .i64 a0_7, .int .i64 a0_8, .str a0_9] 0) (fv [.bool a0_0, .int .i64 a0_1, .int .i64 a0_2, .int .i64 a0_3, .str a0_4, .bool a0_5, .int .i64 a0_6, .int .i64 a0_7, .int .i64 a0_8, .str a0_9] 0) (fv [.bool a0_0, .int .i64 a0_1, .int .i64 a0_2, .int .i64 a0_3, .str a0_4, .bool a0_5, .int .i64 a0_6, .int .i64 a0_7, .int .i64 a0_8, .str a0_9] 1) (fv [.bool a0_0, .int .i64 a0_1, .int .i64 a0_2, .int .i64 a0_3, .str a0_4, .bool a0_5, .int .i64 a0_6, .int .i64 a0_7, .int .i64 a0_8, .str a0_9] 2) (iv .i64 a0_2) (fv [.bool a0_0, .int .i64 a0_1, .int .i64 a0_2, .int .i64 a0_3, .str a0_4, .bool a0_5, .int .i64 a0_6, .int .i64 a0_7, .int .i64 a0_8, .str a0_9] 0) (fv [.bool a0_0, .int .i64 a0_1, .int .i64 a0_2, .int .i64 a0_3, .str a0_4, .bool a0_5, .int .i64 a0_6, .int .i64 a0_7, .int .i64 a0_8, .str a0_9] 0) (fv [.bool a0_0, .int .i64 a0_1, .int .i64 a0_2, .int .i64 a0_3, .str a0_4, .bool a0_5, .int .i64 a0_6, .int .i64 a0_7, .int .i64 a0_8, .str a0_9] 6) (fv [.bool a0_0, .int .i64 a0_1, .int .i64 a0_2, .int .i64 a0_3, .str a0_4, .bool a0_5, .int .i64 a0_6, .int .i64 a0_7, .int .i64 a0_8, .str a0_9] 7) (iv .i64 a0_7) (bv (a0_2 != a0_7)) (bv (a0_2 != a0_7)) (bv (a0_2 != a0_7)) (a0_2 != a0_7) a0_0 a0_1 a0_2 a0_3 a0_4 a0_5 a0_6 a0_7 a0_8 a0_9))
  (Jn.spec_l6Change_0 false (fv [.bool a0_0, .int .i64 a0_1, .int .i64 a0_2, .int .i64 a0_3, .str a0_4, .bool a0_5, .int .i64 a0_6, .int .i64 a0_7, .int .i64 a0_8, .str a0_9] 0) (fv [.bool a0_0, .int .i64 a0_1, .int .i64 a0_2, .int .i64 a0_3, .str a0_4, .bool a0_5, .int .i64 a0_6, .int .i64 a0_7, .int .i64 a0_8, .str a0_9] 0) (fv [.bool a0_0, .int .i64 a0_1, .int .i64 a0_2, .int .i64 a0_3, .str a0_4, .bool a0_5, .int .i64 a0_6, .int .i64 a0_7, .int .i64 a0_8, .str a0_9] 0) (bv a0_0) (bv true) (fv [.bool a0_0, .int .i64 a0_1, .int .i64 a0_2, .int .i64 a0_3, .str a0_4, .bool a0_5, .int .i64 a0_6, .int .i64 a0_7, .int .i64 a0_8, .str a0_9] 0) (fv [.bool a0_0, .int .i64 a0_1, .int .i64 a0_2, .int .i64 a0_3, .str a0_4, .bool a0_5, .int .i64 a0_6, .int .i64 a0_7, .int .i64 a0_8, .str a0_9] 0) (fv [.bool a0_0, .int .i64 a0_1, .int .i64 a0_2, .int .i64 a0_3, .str a0_4, .bool a0_5, .int .i64 a0_6, .int .i64 a0_7, .int .i64 a0_8, .str a0_9] 5) (bv a0_5) (bv a0_5) (bv false) (.tup []) (.tup []) (.tup []) (.tup []) (.tup []) (.tup []) (.tup []) (.tup []) (.tup []) (.tup []) (.tup []) (.tup []) (.tup []) (.tup []) (.tup []) (.tup []) (.tup []) (.tup []) (.tup []) (.tup []) (.tup []) (.tup []) (.tup []) (.tup []) (bv false) false a0_0 a0_1 a0_2 a0_3 a0_4 a0_5 a0_6 a0_7 a0_8 a0_9))
  (Jn.spec_l6Change_0 false (fv [.bool a0_0, .int .i64 a0_1, .int .i64 a0_2, .int .i64 a0_3, .str a0_4, .bool a0_5, .int .i64 a0_6, .int .i64 a0_7, .int .i64 a0_8, .str a0_9] 0) (fv [.bool a0_0, .int .i64 a0_1, .int .i64 a0_2, .int .i64 a0_3, .str a0_4, .bool a0_5, .int .i64 a0_6, .int .i64 a0_7, .int .i64 a0_8, .str a0_9] 0) (fv [.bool a0_0, .int .i64 a0_1, .int .i64 a0_2, .int .i64 a0_3, .str a0_4, .bool a0_5, .int .i64 a0_6, .int .i64 a0_7, .int .i64 a0_8, .str a0_9] 0) (bv a0_0) (bv false) (.tup []) (.tup []) (.tup []) (.tup []) (bv false) (bv false) (.tup []) (.tup []) (.tup []) (.tup []) (.tup []) (.tup []) (.tup []) (.tup []) (.tup []) (.tup []) (.tup []) (.tup []) (.tup []) (.tup []) (.tup []) (.tup []) (.tup []) (.tup []) (.tup []) (.tup []) (.tup []) (.tup []) (.tup []) (.tup []) (bv false) false a0_0 a0_1 a0_2 a0_3 a0_4 a0_5 a0_6 a0_7 a0_8 a0_9))

theorem pu_spec_l6Change (a0_0 : Bool) (a0_1 : Int) (a0_2 : Int) (a0_3 : Int) (a0_4 : ByteArray) (a0_5 : Bool) (a0_6 : Int) (a0_7 : Int) (a0_8 : Int) (a0_9 : ByteArray) : pureV (call Ev) Fn.spec_l6Change [fv [.bool a0_0, .int .i64 a0_1, .int .i64 a0_2, .int .i64 a0_3, .str a0_4, .bool a0_5, .int .i64 a0_6, .int .i64 a0_7, .int .i64 a0_8, .str a0_9] 0] =
  vcase (bv (!a0_0))
  (Jn.spec_l6Change_1 true (fv [.bool a0_0, .int .i64 a0_1, .int .i64 a0_2, .int .i64 a0_3, .str a0_4, .bool a0_5, .int .i64 a0_6, .int .i64 a0_7, .int .i64 a0_8, .str a0_9] 0) (fv [.bool a0_0, .int .i64 a0_1, .int .i64 a0_2, .int .i64 a0_3, .str a0_4, .bool a0_5, .int .i64 a0_6, .int .i64 a0_7, .int .i64 a0_8, .str a0_9] 0) (fv [.bool a0_0, .int .i64 a0_1, .int .i64 a0_2, .int .i64 a0_3, .str a0_4, .bool a0_5, .int .i64 a0_6, .int .i64 a0_7, .int .i64 a0_8, .str a0_9] 5) (bv a0_5) (bv (!a0_5)) (!a0_5) a0_0 a0_5 a0_1 a0_6 a0_2 a0_3 a0_4 a0_7 a0_8 a0_9)
  (Jn.spec_l6Change_1 false (.tup []) (.tup []) (.tup []) (.tup []) (.tup []) false a0_0 a0_5 a0_1 a0_6 a0_2 a0_3 a0_4 a0_7 a0_8 a0_9) := by
  rw [pure_eq]; kernel_rfl

theorem pu_spec_l8Longest (a0 : List (List S)) (a1 : Int) : pureV (call Ev) Fn.spec_l8Longest [lv a0, iv .i64 a1] =
  pcallS (call Ev) Fn.spec_l6At [lv a0, iv .i64 0, iv .i64 a1] fun v101 =>
  gV1 v101 fun x102 =>
  gI .i64 x102 fun i103 =>
  vcase (bv (decide (i103 < 0)))
  (some (iv .i64 (-1)))
  (idxF 4 a0 i103 fun r105 =>
  (r105[2]?).bind fun x106 =>
  gI .i64 x106 fun i107 =>
  some (iv .i64 i107)) := by
  rw [pure_eq]; kernel_rfl

theorem pu_spec_l6Key (a0_0 : Bool) (a0_1 : Int) (a0_2 : Int) (a0_3 : Int) (a0_4 : ByteArray) (a0_5 : Bool) (a0_6 : Int) (a0_7 : Int) (a0_8 : Int) (a0_9 : ByteArray) : pureV (call Ev) Fn.spec_l6Key [fv [.bool a0_0, .int .i64 a0_1, .int .i64 a0_2, .int .i64 a0_3, .str a0_4, .bool a0_5, .int .i64 a0_6, .int .i64 a0_7, .int .i64 a0_8, .str a0_9] 0] =
  vcase (bv a0_5)
  (some (.tup [.s (.int .i64 a0_6), .s (.int .i64 a0_7)]))
  (some (.tup [.s (.int .i64 a0_1), .s (.int .i64 a0_2)])) := by
  rw [pure_eq]; kernel_rfl

theorem pu_spec_l8Catalog (a0 : List (List S)) (a1_0 : Bool) (a1_1 : Int) (a1_2 : Int) (a1_3 : Int) (a1_4 : ByteArray) (a1_5 : Bool) (a1_6 : Int) (a1_7 : Int) (a1_8 : Int) (a1_9 : ByteArray) : pureV (call Ev) Fn.spec_l8Catalog [lv a0, fv [.bool a1_0, .int .i64 a1_1, .int .i64 a1_2, .int .i64 a1_3, .str a1_4, .bool a1_5, .int .i64 a1_6, .int .i64 a1_7, .int .i64 a1_8, .str a1_9] 0] =
  pcallS (call Ev) Fn.spec_l6Key [fv [.bool a1_0, .int .i64 a1_1, .int .i64 a1_2, .int .i64 a1_3, .str a1_4, .bool a1_5, .int .i64 a1_6, .int .i64 a1_7, .int .i64 a1_8, .str a1_9] 0] fun v101 =>
  gVT v101 fun u102 =>
  (u102[0]?).bind fun t103 =>
  gA1 t103 fun x104 =>
  gI .i64 x104 fun i105 =>
  (u102[1]?).bind fun t106 =>
  gA1 t106 fun x107 =>
  gI .i64 x107 fun i108 =>
  if u102.length = 2 then
  vcase (bv a1_5)
  (pcallS (call Ev) Fn.spec_l1In [iv .i64 i108, iv .i64 1, iv .i64 3] fun v110 =>
  gV1 v110 fun x111 =>
  gB x111 fun q112 =>
  vcase (bv (!q112))
  (some (iv .i64 10))
  (vcase (bv (decide (a1_8 > 8)))
  (some (iv .i64 10))
  (vcase (bv (!((a1_9 : ByteArray).toList == ((⟨#[]⟩) : ByteArray).toList)))
  (some (iv .i64 10))
  ((Lp.spec_l8Catalog 0 [lv a0, fv [.bool a1_0, .int .i64 a1_1, .int .i64 a1_2, .int .i64 a1_3, .str a1_4, .bool a1_5, .int .i64 a1_6, .int .i64 a1_7, .int .i64 a1_8, .str a1_9] 0, iv .i64 i108, iv .i64 0] (D 0)).bind fun o127 => lcase o127 (fun l128 h129 =>
  some (iv .i64 0)) (fun v130 h131 =>
  frzV h131 v130)))))
  ((Lp.spec_l8Catalog 0 [lv a0, fv [.bool a1_0, .int .i64 a1_1, .int .i64 a1_2, .int .i64 a1_3, .str a1_4, .bool a1_5, .int .i64 a1_6, .int .i64 a1_7, .int .i64 a1_8, .str a1_9] 0, iv .i64 i108, iv .i64 0] (D 0)).bind fun o133 => lcase o133 (fun l134 h135 =>
  some (iv .i64 0)) (fun v136 h137 =>
  frzV h137 v136))
  else none := by
  rw [pure_eq]; kernel_rfl

theorem eq_spec_l8Catalog_l0 (s0 : List (List S)) (s1_r : List S) (s1_o : Nat) (s6 : Int) (s7 : Int) (h : H) : Lp.spec_l8Catalog 0 [lv s0, fv s1_r s1_o, iv .i64 s6, iv .i64 s7] h =
  vcase (bv (decide (s7 < (s0.length : Int))))
  (idxF 4 s0 s7 fun r203 =>
  (r203[0]?).bind fun x204 =>
  gI .i64 x204 fun i205 =>
  vcase (bv (i205 == s6))
  (idxF 4 s0 s7 fun r207 =>
  (r207[0]?).bind fun x208 =>
  gI .i64 x208 fun i209 =>
  vcase (bv (i209 != 0))
  ((s1_r[s1_o + 5]?).bind fun x213 =>
  gB x213 fun q214 =>
  vcase (bv (!q214))
  (some (.ret (iv .i64 8) h))
  (idxF 4 s0 s7 fun r217 =>
  (r217[3]?).bind fun x218 =>
  gS x218 fun y219 =>
  (s1_r[s1_o + 6 + 2]?).bind fun x220 =>
  gI .i64 x220 fun i221 =>
  vcase (bv (decide (((y219 : ByteArray).size : Int) > i221)))
  (some (.ret (iv .i64 8) h))
  (Lp.spec_l8Catalog 0 [lv s0, fv s1_r s1_o, iv .i64 s6, iv .i64 (IntKind.i64.wrap (s7 + 1))] (tidy h [lv s0, fv s1_r s1_o, iv .i64 s6, iv .i64 (IntKind.i64.wrap (s7 + 1))] h))))
  (Lp.spec_l8Catalog 0 [lv s0, fv s1_r s1_o, iv .i64 s6, iv .i64 (IntKind.i64.wrap (s7 + 1))] (tidy h [lv s0, fv s1_r s1_o, iv .i64 s6, iv .i64 (IntKind.i64.wrap (s7 + 1))] h)))
  (Lp.spec_l8Catalog 0 [lv s0, fv s1_r s1_o, iv .i64 s6, iv .i64 (IntKind.i64.wrap (s7 + 1))] (tidy h [lv s0, fv s1_r s1_o, iv .i64 s6, iv .i64 (IntKind.i64.wrap (s7 + 1))] h)))
  (some (.done [] (tidy h [] h))) := by
  unfold Lp.spec_l8Catalog; rw [loop_eq]; kernel_rfl

theorem pu_spec_l8May (a0 : List (List S)) (a1_0 : Bool) (a1_1 : Int) (a1_2 : Int) (a1_3 : Int) (a1_4 : ByteArray) (a1_5 : Bool) (a1_6 : Int) (a1_7 : Int) (a1_8 : Int) (a1_9 : ByteArray) : pureV (call Ev) Fn.spec_l8May [lv a0, fv [.bool a1_0, .int .i64 a1_1, .int .i64 a1_2, .int .i64 a1_3, .str a1_4, .bool a1_5, .int .i64 a1_6, .int .i64 a1_7, .int .i64 a1_8, .str a1_9] 0] =
  pcallS (call Ev) Fn.spec_l6Key [fv [.bool a1_0, .int .i64 a1_1, .int .i64 a1_2, .int .i64 a1_3, .str a1_4, .bool a1_5, .int .i64 a1_6, .int .i64 a1_7, .int .i64 a1_8, .str a1_9] 0] fun v101 =>
  gVT v101 fun u102 =>
  (u102[0]?).bind fun t103 =>
  gA1 t103 fun x104 =>
  gI .i64 x104 fun i105 =>
  (u102[1]?).bind fun t106 =>
  gA1 t106 fun x107 =>
  gI .i64 x107 fun i108 =>
  if u102.length = 2 then
  vcase (bv (i105 == 0))
  (pcallS (call Ev) Fn.spec_l8Catalog [lv a0, fv [.bool a1_0, .int .i64 a1_1, .int .i64 a1_2, .int .i64 a1_3, .str a1_4, .bool a1_5, .int .i64 a1_6, .int .i64 a1_7, .int .i64 a1_8, .str a1_9] 0] fun v110 =>
  gV1 v110 fun x111 =>
  gI .i64 x111 fun i112 =>
  some (iv .i64 i112))
  (vcase (bv (!a1_5))
  (some (iv .i64 0))
  (pcallS (call Ev) Fn.spec_l8Longest [lv a0, iv .i64 i105] fun v114 =>
  gV1 v114 fun x115 =>
  gI .i64 x115 fun i116 =>
  vcase (bv (decide (i116 < 0)))
  (some (iv .i64 4))
  (vcase (bv (decide (((a1_9 : ByteArray).size : Int) > i116)))
  (some (iv .i64 10))
  (some (iv .i64 0)))))
  else none := by
  rw [pure_eq]; kernel_rfl

theorem pu_spec_MayBe (a0 : List (List S)) (a1_0 : Bool) (a1_1 : Int) (a1_2 : Int) (a1_3 : Int) (a1_4 : ByteArray) (a1_5 : Bool) (a1_6 : Int) (a1_7 : Int) (a1_8 : Int) (a1_9 : ByteArray) : pureV (call Ev) Fn.spec_MayBe [lv a0, .agg [.bool a1_0, .int .i64 a1_1, .int .i64 a1_2, .int .i64 a1_3, .str a1_4, .bool a1_5, .int .i64 a1_6, .int .i64 a1_7, .int .i64 a1_8, .str a1_9]] =
  pcallS (call Ev) Fn.spec_l6Rows [lv a0] fun v101 =>
  gV1 v101 fun x102 =>
  gI .i64 x102 fun i103 =>
  vcase (bv (i103 != 0))
  (some (iv .i64 i103))
  (pcallS (call Ev) Fn.spec_l6Change [fv [.bool a1_0, .int .i64 a1_1, .int .i64 a1_2, .int .i64 a1_3, .str a1_4, .bool a1_5, .int .i64 a1_6, .int .i64 a1_7, .int .i64 a1_8, .str a1_9] 0] fun v105 =>
  gV1 v105 fun x106 =>
  gI .i64 x106 fun i107 =>
  vcase (bv (i107 != 0))
  (some (iv .i64 i107))
  (pcallS (call Ev) Fn.spec_l8May [lv a0, fv [.bool a1_0, .int .i64 a1_1, .int .i64 a1_2, .int .i64 a1_3, .str a1_4, .bool a1_5, .int .i64 a1_6, .int .i64 a1_7, .int .i64 a1_8, .str a1_9] 0] fun v109 =>
  gV1 v109 fun x110 =>
  gI .i64 x110 fun i111 =>
  some (iv .i64 i111))) := by
  rw [pure_eq]; kernel_rfl

theorem pu_spec_DrawLongestIn (a0 : List (List S)) : pureV (call Ev) Fn.spec_DrawLongestIn [lv a0] =
  pcallF (call Ev) Fn.spec_l1Source true [lv a0] (D 0) fun v101 h102 =>
  (call Ev Fn.spec_l8Bent [v101] h102).bind fun p103 =>
  (call Ev Fn.spec_l1Pick [v101, sv ((tidy h102 [p103.1] p103.2).n) 0 5] ((tidy h102 [p103.1] p103.2).new 1 [.int .i64 1, .int .i64 2, .int .i64 3, .int .i64 0, .int .i64 4])).bind fun p104 =>
  gV1 p104.1 fun x105 =>
  gI .i64 x105 fun i106 =>
  (V.toA p103.1).bind fun t107 =>
  frzV (tidy ((tidy h102 [p103.1] p103.2).new 1 [.int .i64 1, .int .i64 2, .int .i64 3, .int .i64 0, .int .i64 4]) [p104.1] p104.2) (.tup [t107, .s (.int .i64 i106)]) := by
  rw [pure_eq]; kernel_rfl

theorem pu_impl_LongestIn (a0 : List (List S)) (a1 : Int) : pureV (call Ev) Fn.impl_LongestIn [lv a0, iv .i64 a1] =
  pcallS (call Ev) Fn.impl_RowsFault [lv a0] fun v101 =>
  gV1 v101 fun x102 =>
  gI .i64 x102 fun i103 =>
  vcase (bv (i103 != 0))
  (some (.agg [.int .i64 i103, .int .i64 0]))
  (pcallS (call Ev) Fn.impl_in [iv .i64 a1, iv .i64 1, iv .i64 3] fun v105 =>
  gV1 v105 fun x106 =>
  gB x106 fun q107 =>
  vcase (bv (!q107))
  (some (.agg [.int .i64 3, .int .i64 0]))
  (pcallS (call Ev) Fn.impl_longest [lv a0, iv .i64 a1] fun v109 =>
  gVT v109 fun u110 =>
  (u110[0]?).bind fun t111 =>
  gA1 t111 fun x112 =>
  gI .i64 x112 fun i113 =>
  (u110[1]?).bind fun t114 =>
  gA1 t114 fun x115 =>
  gB x115 fun q116 =>
  if u110.length = 2 then
  vcase (bv (!q116))
  (some (.agg [.int .i64 4, .int .i64 0]))
  (some (.agg [.int .i64 0, .int .i64 i113]))
  else none)) := by
  rw [pure_eq]; kernel_rfl

theorem pu_impl_TablesIn (a0 : List (List S)) : pureV (call Ev) Fn.impl_TablesIn [lv a0] =
  pcallS (call Ev) Fn.impl_RowsFault [lv a0] fun v101 =>
  gV1 v101 fun x102 =>
  gI .i64 x102 fun i103 =>
  vcase (bv (i103 != 0))
  (some (.agg [.int .i64 i103, .fs []]))
  ((Lp.impl_TablesIn 0 [pv 0 0, .s (.sl none 0), lv a0, iv .i64 (a0.length : Int), iv .i64 0] ((D 0).new 0 [.int .i64 0, .sl none 0])).bind fun o105 => lcase o105 (fun l106 h107 =>
  (l106[0]?).bind fun w110 =>
  (l106[1]?).bind fun w111 =>
  cellsK w111 fun c112 =>
  if c112.length = 1 ∧ 1 + 1 ≤ ([.int .i64 0, .sl none 0] : List S).length then
  ((setAt ([.int .i64 0, .sl none 0] : List S) 1 c112)[0]?).bind fun x113 =>
  gI .i64 x113 fun i114 =>
  ((setAt ([.int .i64 0, .sl none 0] : List S) 1 c112)[1]?).bind fun x115 =>
  if (setAt ([.int .i64 0, .sl none 0] : List S) 1 c112).length = 2 then
  stK 2 h107 w110 (.agg [.int .i64 i114, x115]) fun h116 =>
  ldT ⟨2, 32, [.int .i64 0, .sl none 0], true, .st [(0, 2), (1, 38)], false⟩ h116 w110 fun v117 =>
  frzV h116 v117
  else none
  else none) (fun v108 h109 =>
  frzV h109 v108)) := by
  rw [pure_eq]; kernel_rfl

theorem eq_impl_TablesIn_l0 (s2 : V) (s4 : V) (s13 : List (List S)) (s14 : Int) (s15 : Int) (h : H) : Lp.impl_TablesIn 0 [s2, s4, lv s13, iv .i64 s14, iv .i64 s15] h =
  vcase (bv (decide (s15 < s14)))
  (idxF 4 s13 s15 fun r203 =>
  (rowN 4 r203 0).bind fun c204 =>
  (c204[0]?).bind fun x205 =>
  gI .i64 x205 fun i206 =>
  (c204[1]?).bind fun x207 =>
  gI .i64 x207 fun i208 =>
  (c204[2]?).bind fun x209 =>
  gI .i64 x209 fun i210 =>
  (c204[3]?).bind fun x211 =>
  gS x211 fun y212 =>
  if c204.length = 4 then
  stK 4 (h.new 0 [.int .i64 0, .int .i64 0, .int .i64 0, .str (⟨#[]⟩)]) (pv h.n 0) (.agg [.int .i64 i206, .int .i64 i208, .int .i64 i210, .str y212]) fun h213 =>
  (load1 h213 (pv h.n 0)).bind fun x214 =>
  gI .i64 x214 fun i215 =>
  vcase (bv (i215 == 0))
  ((loadN 4 h213 (pv h.n 0)).bind fun c217 =>
  (c217[0]?).bind fun x218 =>
  gI .i64 x218 fun i219 =>
  (c217[1]?).bind fun x220 =>
  gI .i64 x220 fun i221 =>
  (c217[2]?).bind fun x222 =>
  gI .i64 x222 fun i223 =>
  (c217[3]?).bind fun x224 =>
  gS x224 fun y225 =>
  if c217.length = 4 then
  (appS 4 (h213.new 4 [.int .i64 i219, .int .i64 i221, .int .i64 i223, .str y225]) s4 (sv h213.n 0 1)).bind fun p226 =>
  Lp.impl_TablesIn 0 [s2, p226.1, lv s13, iv .i64 s14, iv .i64 (IntKind.i64.wrap (s15 + 1))] (tidy h [s2, p226.1, lv s13, iv .i64 s14, iv .i64 (IntKind.i64.wrap (s15 + 1))] p226.2)
  else none)
  (Lp.impl_TablesIn 0 [s2, s4, lv s13, iv .i64 s14, iv .i64 (IntKind.i64.wrap (s15 + 1))] (tidy h [s2, s4, lv s13, iv .i64 s14, iv .i64 (IntKind.i64.wrap (s15 + 1))] h213))
  else none)
  (some (.done [s2, s4] (tidy h [s2, s4] h))) := by
  unfold Lp.impl_TablesIn; rw [loop_eq]; kernel_rfl

theorem pu_spec_LongestIn (a0 : List (List S)) (a1 : Int) : pureV (call Ev) Fn.spec_LongestIn [lv a0, iv .i64 a1] =
  pcallS (call Ev) Fn.spec_l6Rows [lv a0] fun v101 =>
  gV1 v101 fun x102 =>
  gI .i64 x102 fun i103 =>
  vcase (bv (i103 != 0))
  (some (.agg [.int .i64 i103, .int .i64 0]))
  (pcallS (call Ev) Fn.spec_l1In [iv .i64 a1, iv .i64 1, iv .i64 3] fun v105 =>
  gV1 v105 fun x106 =>
  gB x106 fun q107 =>
  vcase (bv (!q107))
  (some (.agg [.int .i64 3, .int .i64 0]))
  (pcallS (call Ev) Fn.spec_l8Longest [lv a0, iv .i64 a1] fun v109 =>
  gV1 v109 fun x110 =>
  gI .i64 x110 fun i111 =>
  vcase (bv (decide (i111 < 0)))
  (some (.agg [.int .i64 4, .int .i64 0]))
  (some (.agg [.int .i64 0, .int .i64 i111])))) := by
  rw [pure_eq]; kernel_rfl

theorem pu_spec_l8Tables (a0 : List (List S)) : pureV (call Ev) Fn.spec_l8Tables [lv a0] =
  (Lp.spec_l8Tables 0 [lv a0, sv 0 0 0, iv .i64 0] ((D 0).new 4 [])).bind fun o101 => lcase o101 (fun l102 h103 =>
  (l102[0]?).bind fun w106 =>
  frzV h103 w106) (fun v104 h105 =>
  frzV h105 v104) := by
  rw [pure_eq]; kernel_rfl

theorem eq_spec_l8Tables_l0 (s0 : List (List S)) (s3 : V) (s4 : Int) (h : H) : Lp.spec_l8Tables 0 [lv s0, s3, iv .i64 s4] h =
  vcase (bv (decide (s4 < (s0.length : Int))))
  (idxF 4 s0 s4 fun r203 =>
  (r203[0]?).bind fun x204 =>
  gI .i64 x204 fun i205 =>
  vcase (bv (i205 == 0))
  (idxF 4 s0 s4 fun r207 =>
  (rowN 4 r207 0).bind fun c208 =>
  (c208[0]?).bind fun x209 =>
  gI .i64 x209 fun i210 =>
  (c208[1]?).bind fun x211 =>
  gI .i64 x211 fun i212 =>
  (c208[2]?).bind fun x213 =>
  gI .i64 x213 fun i214 =>
  (c208[3]?).bind fun x215 =>
  gS x215 fun y216 =>
  if c208.length = 4 then
  (appS 4 (h.new 4 [.int .i64 i210, .int .i64 i212, .int .i64 i214, .str y216]) s3 (sv h.n 0 1)).bind fun p217 =>
  Lp.spec_l8Tables 0 [lv s0, p217.1, iv .i64 (IntKind.i64.wrap (s4 + 1))] (tidy h [lv s0, p217.1, iv .i64 (IntKind.i64.wrap (s4 + 1))] p217.2)
  else none)
  (Lp.spec_l8Tables 0 [lv s0, s3, iv .i64 (IntKind.i64.wrap (s4 + 1))] (tidy h [lv s0, s3, iv .i64 (IntKind.i64.wrap (s4 + 1))] h)))
  (some (.done [s3] (tidy h [s3] h))) := by
  unfold Lp.spec_l8Tables; rw [loop_eq]; kernel_rfl

theorem pu_spec_TablesIn (a0 : List (List S)) : pureV (call Ev) Fn.spec_TablesIn [lv a0] =
  pcallS (call Ev) Fn.spec_l6Rows [lv a0] fun v101 =>
  gV1 v101 fun x102 =>
  gI .i64 x102 fun i103 =>
  vcase (bv (i103 != 0))
  (some (.agg [.int .i64 i103, .fs []]))
  ((pureV (call Ev) Fn.spec_l8Tables [lv a0]).bind fun v105 =>
  gV1 v105 fun x106 =>
  gF x106 fun z107 =>
  some (.agg [.int .i64 0, .fs z107])) := by
  rw [pure_eq]; kernel_rfl

theorem pu_spec_DrawKeyText (a0 : List (List S)) : pureV (call Ev) Fn.spec_DrawKeyText [lv a0] =
  pcallF (call Ev) Fn.spec_l1Source true [lv a0] ((D 0).new 0 [.int .i64 0, .int .i64 0]) fun v101 h102 =>
  (call Ev Fn.spec_l1Pick [v101, sv h102.n 0 4] (h102.new 1 [.int .i64 0, .int .i64 3, .int .i64 4, .int .i64 (-1)])).bind fun p103 =>
  gV1 p103.1 fun x104 =>
  gI .i64 x104 fun i105 =>
  (call Ev Fn.spec_l1Pick [v101, sv ((tidy (h102.new 1 [.int .i64 0, .int .i64 3, .int .i64 4, .int .i64 (-1)]) [p103.1] p103.2).n) 0 4] ((tidy (h102.new 1 [.int .i64 0, .int .i64 3, .int .i64 4, .int .i64 (-1)]) [p103.1] p103.2).new 1 [.int .i64 1, .int .i64 99, .int .i64 0, .int .i64 100])).bind fun p106 =>
  gV1 p106.1 fun x107 =>
  gI .i64 x107 fun i108 =>
  stK 2 (tidy ((tidy (h102.new 1 [.int .i64 0, .int .i64 3, .int .i64 4, .int .i64 (-1)]) [p103.1] p103.2).new 1 [.int .i64 1, .int .i64 99, .int .i64 0, .int .i64 100]) [p106.1] p106.2) (pv 0 0) (.agg [.int .i64 i105, .int .i64 i108]) fun h109 =>
  (loadN 2 h109 (pv 0 0)).bind fun c110 =>
  frzV h109 (.agg c110) := by
  rw [pure_eq]; kernel_rfl

theorem pu_impl_isKey (a0 : Int) (a1 : Int) : pureV (call Ev) Fn.impl_isKey [iv .i64 a0, iv .i64 a1] =
  pcallS (call Ev) Fn.impl_in [iv .i64 a0, iv .i64 0, iv .i64 3] fun v101 =>
  gV1 v101 fun x102 =>
  gB x102 fun q103 =>
  vcase (bv q103)
  (pcallS (call Ev) Fn.impl_in [iv .i64 a1, iv .i64 1, iv .i64 99] fun v105 =>
  gV1 v105 fun x106 =>
  gB x106 fun q107 =>
  some (bv q107))
  (some (bv false)) := by
  rw [pure_eq]; kernel_rfl

theorem pu_strconv_small (a0 : Int) : pureV (call Ev) Fn.strconv_small [iv .i64 a0] =
  vcase (bv (decide (a0 < 10)))
  ((slStr (.s (.str (⟨#[48, 49, 50, 51, 52, 53, 54, 55, 56, 57, 97, 98, 99, 100, 101, 102, 103, 104, 105, 106, 107, 108, 109, 110, 111, 112, 113, 114, 115, 116, 117, 118, 119, 120, 121, 122]⟩))) (some (iv .i64 a0)) (some (iv .i64 (IntKind.i64.wrap (a0 + 1))))).bind fun v102 =>
  gV1 v102 fun x103 =>
  gS x103 fun y104 =>
  some (.s (.str y104)))
  ((slStr (.s (.str (⟨#[48, 48, 48, 49, 48, 50, 48, 51, 48, 52, 48, 53, 48, 54, 48, 55, 48, 56, 48, 57, 49, 48, 49, 49, 49, 50, 49, 51, 49, 52, 49, 53, 49, 54, 49, 55, 49, 56, 49, 57, 50, 48, 50, 49, 50, 50, 50, 51, 50, 52, 50, 53, 50, 54, 50, 55, 50, 56, 50, 57, 51, 48, 51, 49, 51, 50, 51, 51, 51, 52, 51, 53, 51, 54, 51, 55, 51, 56, 51, 57, 52, 48, 52, 49, 52, 50, 52, 51, 52, 52, 52, 53, 52, 54, 52, 55, 52, 56, 52, 57, 53, 48, 53, 49, 53, 50, 53, 51, 53, 52, 53, 53, 53, 54, 53, 55, 53, 56, 53, 57, 54, 48, 54, 49, 54, 50, 54, 51, 54, 52, 54, 53, 54, 54, 54, 55, 54, 56, 54, 57, 55, 48, 55, 49, 55, 50, 55, 51, 55, 52, 55, 53, 55, 54, 55, 55, 55, 56, 55, 57, 56, 48, 56, 49, 56, 50, 56, 51, 56, 52, 56, 53, 56, 54, 56, 55, 56, 56, 56, 57, 57, 48, 57, 49, 57, 50, 57, 51, 57, 52, 57, 53, 57, 54, 57, 55, 57, 56, 57, 57]⟩))) (some (iv .i64 (IntKind.i64.wrap (a0 * 2)))) (some (iv .i64 (IntKind.i64.wrap ((IntKind.i64.wrap (a0 * 2)) + 2))))).bind fun v105 =>
  gV1 v105 fun x106 =>
  gS x106 fun y107 =>
  some (.s (.str y107))) := by
  rw [pure_eq]; kernel_rfl

end Vm
