/-
  What each function, and each round of each loop, comes to in the small machine. Written by a program (gen3.py).
-/
import Derived.Test.YtnidgolbfmbocaaEnv
set_option linter.unusedVariables false
set_option maxRecDepth 100000
namespace Vm
open Go

theorem pu_spec_l2Count (a0 : List (List S)) : pureV (call Ev) Fn.spec_l2Count [lv a0] =
  idxF 1 a0 0 fun r101 =>
  (r101[0]?).bind fun x102 =>
  gI .u8 x102 fun i103 =>
  some (iv .i64 (IntKind.i64.wrap i103)) := by
  rw [pure_eq]; kernel_rfl

theorem pu_spec_l2Low (a0 : List (List S)) : pureV (call Ev) Fn.spec_l2Low [lv a0] =
  idxF 1 a0 1 fun r101 =>
  (r101[0]?).bind fun x102 =>
  gI .u8 x102 fun i103 =>
  some (iv .i64 (IntKind.i64.wrap i103)) := by
  rw [pure_eq]; kernel_rfl

theorem pu_spec_l2Size (a0 : List (List S)) (a1 : Int) : pureV (call Ev) Fn.spec_l2Size [lv a0, iv .i64 a1] =
  idxF 1 a0 (IntKind.i64.wrap (3 + (IntKind.i64.wrap (2 * a1)))) fun r101 =>
  (r101[0]?).bind fun x102 =>
  gI .u8 x102 fun i103 =>
  some (iv .i64 (IntKind.i64.wrap i103)) := by
  rw [pure_eq]; kernel_rfl

theorem pu_spec_l2Place (a0 : List (List S)) (a1 : Int) : pureV (call Ev) Fn.spec_l2Place [lv a0, iv .i64 a1] =
  idxF 1 a0 (IntKind.i64.wrap (2 + (IntKind.i64.wrap (2 * a1)))) fun r101 =>
  (r101[0]?).bind fun x102 =>
  gI .u8 x102 fun i103 =>
  some (iv .i64 (IntKind.i64.wrap i103)) := by
  rw [pure_eq]; kernel_rfl

theorem pu_spec_l2Slot (a0 : List (List S)) (a1 : Int) : pureV (call Ev) Fn.spec_l2Slot [lv a0, iv .i64 a1] =
  pcallS (call Ev) Fn.spec_l2Place [lv a0, iv .i64 a1] fun v101 =>
  gV1 v101 fun x102 =>
  gI .i64 x102 fun i103 =>
  pcallS (call Ev) Fn.spec_l2Size [lv a0, iv .i64 a1] fun v104 =>
  gV1 v104 fun x105 =>
  gI .i64 x105 fun i106 =>
  vcase (bv (i103 == 0))
  (some (bv (i103 == i106)))
  (vcase (bv (i106 == 0))
  (some (bv (i103 == i106)))
  (pcallS (call Ev) Fn.spec_l2Low [lv a0] fun v112 =>
  gV1 v112 fun x113 =>
  gI .i64 x113 fun i114 =>
  vcase (bv (decide (i103 ≥ i114)))
  (some (bv (decide ((IntKind.i64.wrap (i103 + i106)) ≤ 64))))
  (some (bv false)))) := by
  rw [pure_eq]; kernel_rfl

noncomputable def Jn.spec_l2Apart_0 (q133 : Bool) (a0 : List (List S)) (a1 : Int) (a2 : Int) : Option (V) :=
  vcase (bv q133)
  (some (bv true))
  (pcallS (call Ev) Fn.spec_l2Place [lv a0, iv .i64 a1] fun v135 =>
  gV1 v135 fun x136 =>
  gI .i64 x136 fun i137 =>
  pcallS (call Ev) Fn.spec_l2Size [lv a0, iv .i64 a1] fun v138 =>
  gV1 v138 fun x139 =>
  gI .i64 x139 fun i140 =>
  pcallS (call Ev) Fn.spec_l2Place [lv a0, iv .i64 a2] fun v141 =>
  gV1 v141 fun x142 =>
  gI .i64 x142 fun i143 =>
  vcase (bv (decide ((IntKind.i64.wrap (i137 + i140)) ≤ i143)))
  (some (bv true))
  (pcallS (call Ev) Fn.spec_l2Place [lv a0, iv .i64 a2] fun v146 =>
  gV1 v146 fun x147 =>
  gI .i64 x147 fun i148 =>
  pcallS (call Ev) Fn.spec_l2Size [lv a0, iv .i64 a2] fun v149 =>
  gV1 v149 fun x150 =>
  gI .i64 x150 fun i151 =>
  pcallS (call Ev) Fn.spec_l2Place [lv a0, iv .i64 a1] fun v152 =>
  gV1 v152 fun x153 =>
  gI .i64 x153 fun i154 =>
  some (bv (decide ((IntKind.i64.wrap (i148 + i151)) ≤ i154)))))

theorem pu_spec_l2Apart (a0 : List (List S)) (a1 : Int) (a2 : Int) : pureV (call Ev) Fn.spec_l2Apart [lv a0, iv .i64 a1, iv .i64 a2] =
  pcallS (call Ev) Fn.spec_l2Size [lv a0, iv .i64 a1] fun v101 =>
  gV1 v101 fun x102 =>
  gI .i64 x102 fun i103 =>
  vcase (bv (i103 == 0))
  (Jn.spec_l2Apart_0 true a0 a1 a2)
  (pcallS (call Ev) Fn.spec_l2Size [lv a0, iv .i64 a2] fun v106 =>
  gV1 v106 fun x107 =>
  gI .i64 x107 fun i108 =>
  Jn.spec_l2Apart_0 (i108 == 0) a0 a1 a2) := by
  rw [pure_eq]; kernel_rfl

noncomputable def Jn.spec_l2Fault_0 (q151 : Bool) (a0 : List (List S)) (i104 : Int) : Option (V) :=
  vcase (bv q151)
  (some (iv .i64 3))
  ((Lp.spec_l2Fault 0 [lv a0, iv .i64 i104, iv .i64 0] (D 0)).bind fun o153 => lcase o153 (fun l154 h155 =>
  (l154[0]?).bind fun w158 =>
  gV1 w158 fun x159 =>
  gF x159 fun z160 =>
  (l154[1]?).bind fun w161 =>
  gV1 w161 fun x162 =>
  gI .i64 x162 fun i163 =>
  (Lp.spec_l2Fault 2 [lv z160, iv .i64 i163, iv .i64 0] h155).bind fun o164 => lcase o164 (fun l165 h166 =>
  (l165[0]?).bind fun w169 =>
  gV1 w169 fun x170 =>
  gF x170 fun z171 =>
  (l165[1]?).bind fun w172 =>
  gV1 w172 fun x173 =>
  gI .i64 x173 fun i174 =>
  vcase (bv (decide (i174 > 0)))
  (pcallS (call Ev) Fn.spec_l2Size [lv z171, iv .i64 (IntKind.i64.wrap (i174 - 1))] fun v176 =>
  gV1 v176 fun x177 =>
  gI .i64 x177 fun i178 =>
  vcase (bv (i178 == 0))
  (some (iv .i64 8))
  (some (iv .i64 0)))
  (some (iv .i64 0))) (fun v167 h168 =>
  frzV h168 v167)) (fun v156 h157 =>
  frzV h157 v156))

theorem pu_spec_l2Fault (a0 : List (List S)) : pureV (call Ev) Fn.spec_l2Fault [lv a0] =
  vcase (bv ((a0.length : Int) != 64))
  (some (iv .i64 1))
  (pcallS (call Ev) Fn.spec_l2Count [lv a0] fun v102 =>
  gV1 v102 fun x103 =>
  gI .i64 x103 fun i104 =>
  vcase (bv (decide (i104 > 16)))
  (some (iv .i64 3))
  (pcallS (call Ev) Fn.spec_l2Low [lv a0] fun v107 =>
  gV1 v107 fun x108 =>
  gI .i64 x108 fun i109 =>
  vcase (bv (decide (i109 < (IntKind.i64.wrap (2 + (IntKind.i64.wrap (2 * i104)))))))
  (Jn.spec_l2Fault_0 true a0 i104)
  (pcallS (call Ev) Fn.spec_l2Low [lv a0] fun v115 =>
  gV1 v115 fun x116 =>
  gI .i64 x116 fun i117 =>
  Jn.spec_l2Fault_0 (decide (i117 > 64)) a0 i104))) := by
  rw [pure_eq]; kernel_rfl

theorem eq_spec_l2Fault_l0 (s0 : List (List S)) (s3 : Int) (s4 : Int) (h : H) : Lp.spec_l2Fault 0 [lv s0, iv .i64 s3, iv .i64 s4] h =
  vcase (bv (decide (s4 < s3)))
  (pcallS (call Ev) Fn.spec_l2Slot [lv s0, iv .i64 s4] fun v203 =>
  gV1 v203 fun x204 =>
  gB x204 fun q205 =>
  vcase (bv (!q205))
  (some (.ret (iv .i64 3) h))
  (Lp.spec_l2Fault 0 [lv s0, iv .i64 s3, iv .i64 (IntKind.i64.wrap (s4 + 1))] (tidy h [lv s0, iv .i64 s3, iv .i64 (IntKind.i64.wrap (s4 + 1))] h)))
  (some (.done [lv s0, iv .i64 s3] (tidy h [lv s0, iv .i64 s3] h))) := by
  unfold Lp.spec_l2Fault; rw [loop_eq]; kernel_rfl

theorem eq_spec_l2Fault_l2 (s0 : List (List S)) (s3 : Int) (s5 : Int) (h : H) : Lp.spec_l2Fault 2 [lv s0, iv .i64 s3, iv .i64 s5] h =
  vcase (bv (decide (s5 < s3)))
  ((Lp.spec_l2Fault 4 [lv s0, iv .i64 s3, iv .i64 s5, iv .i64 0] h).bind fun o403 => lcase o403 (fun l404 h405 =>
  (l404[0]?).bind fun w408 =>
  gV1 w408 fun x409 =>
  gF x409 fun z410 =>
  (l404[1]?).bind fun w411 =>
  gV1 w411 fun x412 =>
  gI .i64 x412 fun i413 =>
  (l404[2]?).bind fun w414 =>
  gV1 w414 fun x415 =>
  gI .i64 x415 fun i416 =>
  Lp.spec_l2Fault 2 [lv z410, iv .i64 i413, iv .i64 (IntKind.i64.wrap (i416 + 1))] (tidy h [lv z410, iv .i64 i413, iv .i64 (IntKind.i64.wrap (i416 + 1))] h405)) (fun v406 h407 =>
  some (.ret v406 h407)))
  (some (.done [lv s0, iv .i64 s3] (tidy h [lv s0, iv .i64 s3] h))) := by
  unfold Lp.spec_l2Fault; rw [loop_eq]; kernel_rfl

theorem eq_spec_l2Fault_l4 (s0 : List (List S)) (s3 : Int) (s5 : Int) (s6 : Int) (h : H) : Lp.spec_l2Fault 4 [lv s0, iv .i64 s3, iv .i64 s5, iv .i64 s6] h =
  vcase (bv (decide (s6 < s5)))
  (pcallS (call Ev) Fn.spec_l2Apart [lv s0, iv .i64 s5, iv .i64 s6] fun v603 =>
  gV1 v603 fun x604 =>
  gB x604 fun q605 =>
  vcase (bv (!q605))
  (some (.ret (iv .i64 8) h))
  (Lp.spec_l2Fault 4 [lv s0, iv .i64 s3, iv .i64 s5, iv .i64 (IntKind.i64.wrap (s6 + 1))] (tidy h [lv s0, iv .i64 s3, iv .i64 s5, iv .i64 (IntKind.i64.wrap (s6 + 1))] h)))
  (some (.done [lv s0, iv .i64 s3, iv .i64 s5] (tidy h [lv s0, iv .i64 s3, iv .i64 s5] h))) := by
  unfold Lp.spec_l2Fault; rw [loop_eq]; kernel_rfl

theorem pu_spec_l1In (a0 : Int) (a1 : Int) (a2 : Int) : pureV (call Ev) Fn.spec_l1In [iv .i64 a0, iv .i64 a1, iv .i64 a2] =
  vcase (bv (decide (a0 ≥ a1)))
  (some (bv (decide (a0 ≤ a2))))
  (some (bv false)) := by
  rw [pure_eq]; kernel_rfl

theorem pu_spec_l2Has (a0 : List (List S)) (a1 : Int) : pureV (call Ev) Fn.spec_l2Has [lv a0, iv .i64 a1] =
  pcallS (call Ev) Fn.spec_l2Count [lv a0] fun v101 =>
  gV1 v101 fun x102 =>
  gI .i64 x102 fun i103 =>
  pcallS (call Ev) Fn.spec_l1In [iv .i64 a1, iv .i64 0, iv .i64 (IntKind.i64.wrap (i103 - 1))] fun v104 =>
  gV1 v104 fun x105 =>
  gB x105 fun q106 =>
  vcase (bv q106)
  (pcallS (call Ev) Fn.spec_l2Size [lv a0, iv .i64 a1] fun v108 =>
  gV1 v108 fun x109 =>
  gI .i64 x109 fun i110 =>
  some (bv (decide (i110 > 0))))
  (some (bv false)) := by
  rw [pure_eq]; kernel_rfl

theorem pu_spec_l2Cell (a0 : List (List S)) (a1 : Int) : pureV (call Ev) Fn.spec_l2Cell [lv a0, iv .i64 a1] =
  pcallS (call Ev) Fn.spec_l2Place [lv a0, iv .i64 a1] fun v101 =>
  gV1 v101 fun x102 =>
  gI .i64 x102 fun i103 =>
  pcallS (call Ev) Fn.spec_l2Size [lv a0, iv .i64 a1] fun v104 =>
  gV1 v104 fun x105 =>
  gI .i64 x105 fun i106 =>
  slF 1 a0 (some (iv .i64 i103)) (some (iv .i64 (IntKind.i64.wrap (i103 + i106)))) fun z107 =>
  (appS 1 ((D 0).new 1 []) (sv 0 0 0) (lv z107)).bind fun p108 =>
  frzV p108.2 p108.1 := by
  rw [pure_eq]; kernel_rfl

theorem pu_spec_SlotIn (a0 : List (List S)) (a1 : Int) : pureV (call Ev) Fn.spec_SlotIn [lv a0, iv .i64 a1] =
  pcallS (call Ev) Fn.spec_l2Fault [lv a0] fun v101 =>
  gV1 v101 fun x102 =>
  gI .i64 x102 fun i103 =>
  vcase (bv (i103 != 0))
  (some (.agg [.int .i64 i103, .fs []]))
  (pcallS (call Ev) Fn.spec_l2Has [lv a0, iv .i64 a1] fun v105 =>
  gV1 v105 fun x106 =>
  gB x106 fun q107 =>
  vcase (bv (!q107))
  (some (.agg [.int .i64 4, .fs []]))
  ((pureV (call Ev) Fn.spec_l2Cell [lv a0, iv .i64 a1]).bind fun v109 =>
  gV1 v109 fun x110 =>
  gF x110 fun z111 =>
  some (.agg [.int .i64 0, .fs z111]))) := by
  rw [pure_eq]; kernel_rfl

theorem eq_laws_toByteS (a0 : List (List S)) (n : Nat) : call Ev Fn.laws_toByteS [lv a0] (D n) =
  (mkSl 1 [.int .u8 0] (D n) (iv .i64 (a0.length : Int)) (iv .i64 (a0.length : Int))).bind fun p101 =>
  (Lp.laws_toByteS 0 [lv a0, p101.1, iv .i64 0] p101.2).bind fun o102 => lcase o102 (fun l103 h104 =>
  (l103[0]?).bind fun w107 =>
  some (w107, h104)) (fun v105 h106 =>
  some (v105, h106)) := by
  rw [call_eq]; kernel_rfl

theorem eq_laws_toByteS_l0 (s0 : List (List S)) (s3 : V) (s4 : Int) (h : H) : Lp.laws_toByteS 0 [lv s0, s3, iv .i64 s4] h =
  vcase (bv (decide (s4 < (s0.length : Int))))
  (idxF 1 s0 s4 fun r203 =>
  (r203[0]?).bind fun x204 =>
  gI .u8 x204 fun i205 =>
  idxK 1 s3 (iv .i64 s4) fun v206 =>
  stK 1 h v206 (iv .u8 i205) fun h207 =>
  Lp.laws_toByteS 0 [lv s0, s3, iv .i64 (IntKind.i64.wrap (s4 + 1))] (tidy h [lv s0, s3, iv .i64 (IntKind.i64.wrap (s4 + 1))] h207))
  (some (.done [s3] (tidy h [s3] h))) := by
  unfold Lp.laws_toByteS; rw [loop_eq]; kernel_rfl

theorem pu_impl_slots (a0 : List (List S)) : pureV (call Ev) Fn.impl_slots [lv a0] =
  idxF 1 a0 0 fun r101 =>
  (r101[0]?).bind fun x102 =>
  gI .u8 x102 fun i103 =>
  some (iv .i64 (IntKind.i64.wrap i103)) := by
  rw [pure_eq]; kernel_rfl

theorem pu_impl_spot (a0 : List (List S)) (a1 : Int) : pureV (call Ev) Fn.impl_spot [lv a0, iv .i64 a1] =
  idxF 1 a0 (IntKind.i64.wrap (2 + (IntKind.i64.wrap (2 * a1)))) fun r101 =>
  (r101[0]?).bind fun x102 =>
  gI .u8 x102 fun i103 =>
  idxF 1 a0 (IntKind.i64.wrap (3 + (IntKind.i64.wrap (2 * a1)))) fun r104 =>
  (r104[0]?).bind fun x105 =>
  gI .u8 x105 fun i106 =>
  some (.tup [.s (.int .i64 (IntKind.i64.wrap i103)), .s (.int .i64 (IntKind.i64.wrap i106))]) := by
  rw [pure_eq]; kernel_rfl

noncomputable def Jn.impl_PageFault_0 (q148 : Bool) (a0 : List (List S)) (i107 : Int) (i104 : Int) : Option (V) :=
  vcase (bv q148)
  (some (iv .i64 3))
  ((Lp.impl_PageFault 0 [lv a0, iv .i64 i107, iv .i64 (IntKind.i64.wrap i104), iv .i64 i107, iv .i64 0] (D 0)).bind fun o150 => lcase o150 (fun l151 h152 =>
  (l151[0]?).bind fun w155 =>
  gV1 w155 fun x156 =>
  gF x156 fun z157 =>
  (l151[1]?).bind fun w158 =>
  gV1 w158 fun x159 =>
  gI .i64 x159 fun i160 =>
  (Lp.impl_PageFault 2 [lv z157, iv .i64 i160, pv h152.n 0, iv .i64 i160, iv .i64 0] (h152.new 0 [.bool false, .bool false, .bool false, .bool false, .bool false, .bool false, .bool false, .bool false, .bool false, .bool false, .bool false, .bool false, .bool false, .bool false, .bool false, .bool false, .bool false, .bool false, .bool false, .bool false, .bool false, .bool false, .bool false, .bool false, .bool false, .bool false, .bool false, .bool false, .bool false, .bool false, .bool false, .bool false, .bool false, .bool false, .bool false, .bool false, .bool false, .bool false, .bool false, .bool false, .bool false, .bool false, .bool false, .bool false, .bool false, .bool false, .bool false, .bool false, .bool false, .bool false, .bool false, .bool false, .bool false, .bool false, .bool false, .bool false, .bool false, .bool false, .bool false, .bool false, .bool false, .bool false, .bool false, .bool false])).bind fun o161 => lcase o161 (fun l162 h163 =>
  (l162[0]?).bind fun w166 =>
  gV1 w166 fun x167 =>
  gF x167 fun z168 =>
  (l162[1]?).bind fun w169 =>
  gV1 w169 fun x170 =>
  gI .i64 x170 fun i171 =>
  vcase (bv (decide (i171 > 0)))
  (idxF 1 z168 (IntKind.i64.wrap ((IntKind.i64.wrap (2 * i171)) + 1)) fun r173 =>
  (r173[0]?).bind fun x174 =>
  gI .u8 x174 fun i175 =>
  vcase (bv (i175 == 0))
  (some (iv .i64 8))
  (some (iv .i64 0)))
  (some (iv .i64 0))) (fun v164 h165 =>
  frzV h165 v164)) (fun v153 h154 =>
  frzV h154 v153))

theorem pu_impl_PageFault (a0 : List (List S)) : pureV (call Ev) Fn.impl_PageFault [lv a0] =
  vcase (bv ((a0.length : Int) != 64))
  (some (iv .i64 1))
  (idxF 1 a0 1 fun r102 =>
  (r102[0]?).bind fun x103 =>
  gI .u8 x103 fun i104 =>
  pcallS (call Ev) Fn.impl_slots [lv a0] fun v105 =>
  gV1 v105 fun x106 =>
  gI .i64 x106 fun i107 =>
  hchk (D 0) (D 0) (
  vcase (bv (decide (i107 > 16)))
  (some (iv .i64 3))
  (vcase (bv (decide ((IntKind.i64.wrap i104) < (IntKind.i64.wrap (2 + (IntKind.i64.wrap (2 * i107)))))))
  (Jn.impl_PageFault_0 true a0 i107 i104)
  (Jn.impl_PageFault_0 (decide ((IntKind.i64.wrap i104) > 64)) a0 i107 i104)))) := by
  rw [pure_eq]; kernel_rfl

theorem eq_impl_PageFault_l0 (s0 : List (List S)) (s3 : Int) (s4 : Int) (s35 : Int) (s36 : Int) (h : H) : Lp.impl_PageFault 0 [lv s0, iv .i64 s3, iv .i64 s4, iv .i64 s35, iv .i64 s36] h =
  vcase (bv (decide (s36 < s35)))
  (pcallS (call Ev) Fn.impl_spot [lv s0, iv .i64 s36] fun v203 =>
  gVT v203 fun u204 =>
  (u204[0]?).bind fun t205 =>
  gA1 t205 fun x206 =>
  gI .i64 x206 fun i207 =>
  (u204[1]?).bind fun t208 =>
  gA1 t208 fun x209 =>
  gI .i64 x209 fun i210 =>
  if u204.length = 2 then
  vcase (bv (!((i207 == 0) == (i210 == 0))))
  (some (.ret (iv .i64 3) h))
  (vcase (bv (i207 != 0))
  (vcase (bv (decide (i207 < s4)))
  (some (.ret (iv .i64 3) h))
  (vcase (bv (decide ((IntKind.i64.wrap (i207 + i210)) > 64)))
  (some (.ret (iv .i64 3) h))
  (Lp.impl_PageFault 0 [lv s0, iv .i64 s3, iv .i64 s4, iv .i64 s35, iv .i64 (IntKind.i64.wrap (s36 + 1))] (tidy h [lv s0, iv .i64 s3, iv .i64 s4, iv .i64 s35, iv .i64 (IntKind.i64.wrap (s36 + 1))] h))))
  (vcase (bv (decide ((IntKind.i64.wrap (i207 + i210)) > 64)))
  (some (.ret (iv .i64 3) h))
  (Lp.impl_PageFault 0 [lv s0, iv .i64 s3, iv .i64 s4, iv .i64 s35, iv .i64 (IntKind.i64.wrap (s36 + 1))] (tidy h [lv s0, iv .i64 s3, iv .i64 s4, iv .i64 s35, iv .i64 (IntKind.i64.wrap (s36 + 1))] h))))
  else none)
  (some (.done [lv s0, iv .i64 s3] (tidy h [lv s0, iv .i64 s3] h))) := by
  unfold Lp.impl_PageFault; rw [loop_eq]; kernel_rfl

theorem eq_impl_PageFault_l2 (s0 : List (List S)) (s3 : Int) (s8 : V) (s66 : Int) (s67 : Int) (h : H) : Lp.impl_PageFault 2 [lv s0, iv .i64 s3, s8, iv .i64 s66, iv .i64 s67] h =
  vcase (bv (decide (s67 < s66)))
  (pcallS (call Ev) Fn.impl_spot [lv s0, iv .i64 s67] fun v403 =>
  gVT v403 fun u404 =>
  (u404[0]?).bind fun t405 =>
  gA1 t405 fun x406 =>
  gI .i64 x406 fun i407 =>
  (u404[1]?).bind fun t408 =>
  gA1 t408 fun x409 =>
  gI .i64 x409 fun i410 =>
  if u404.length = 2 then
  (Lp.impl_PageFault 4 [lv s0, iv .i64 s3, s8, iv .i64 i407, iv .i64 i410, iv .i64 i407, iv .i64 s66, iv .i64 s67] h).bind fun o411 => lcase o411 (fun l412 h413 =>
  (l412[0]?).bind fun w416 =>
  gV1 w416 fun x417 =>
  gF x417 fun z418 =>
  (l412[1]?).bind fun w419 =>
  gV1 w419 fun x420 =>
  gI .i64 x420 fun i421 =>
  (l412[2]?).bind fun w422 =>
  (l412[3]?).bind fun w423 =>
  gV1 w423 fun x424 =>
  gI .i64 x424 fun i425 =>
  (l412[4]?).bind fun w426 =>
  gV1 w426 fun x427 =>
  gI .i64 x427 fun i428 =>
  Lp.impl_PageFault 2 [lv z418, iv .i64 i421, w422, iv .i64 i425, iv .i64 (IntKind.i64.wrap (i428 + 1))] (tidy h [lv z418, iv .i64 i421, w422, iv .i64 i425, iv .i64 (IntKind.i64.wrap (i428 + 1))] h413)) (fun v414 h415 =>
  some (.ret v414 h415))
  else none)
  (some (.done [lv s0, iv .i64 s3] (tidy h [lv s0, iv .i64 s3] h))) := by
  unfold Lp.impl_PageFault; rw [loop_eq]; kernel_rfl

theorem eq_impl_PageFault_l4 (s0 : List (List S)) (s3 : Int) (s8 : V) (s10 : Int) (s11 : Int) (s12 : Int) (s66 : Int) (s67 : Int) (h : H) : Lp.impl_PageFault 4 [lv s0, iv .i64 s3, s8, iv .i64 s10, iv .i64 s11, iv .i64 s12, iv .i64 s66, iv .i64 s67] h =
  vcase (bv (decide (s12 < (IntKind.i64.wrap (s10 + s11)))))
  ((idxA 64 1 s8 (iv .i64 s12)).bind fun v603 =>
  ldK (.one (.b)) ⟨1, 1, [.bool false], false, .bool, false⟩ h v603 fun v604 =>
  gV1 v604 fun x605 =>
  gB x605 fun q606 =>
  vcase (bv q606)
  (some (.ret (iv .i64 8) h))
  ((idxA 64 1 s8 (iv .i64 s12)).bind fun v608 =>
  stK 1 h v608 (bv true) fun h609 =>
  Lp.impl_PageFault 4 [lv s0, iv .i64 s3, s8, iv .i64 s10, iv .i64 s11, iv .i64 (IntKind.i64.wrap (s12 + 1)), iv .i64 s66, iv .i64 s67] (tidy h [lv s0, iv .i64 s3, s8, iv .i64 s10, iv .i64 s11, iv .i64 (IntKind.i64.wrap (s12 + 1)), iv .i64 s66, iv .i64 s67] h609)))
  (some (.done [lv s0, iv .i64 s3, s8, iv .i64 s66, iv .i64 s67] (tidy h [lv s0, iv .i64 s3, s8, iv .i64 s66, iv .i64 s67] h))) := by
  unfold Lp.impl_PageFault; rw [loop_eq]; kernel_rfl

theorem pu_impl_hasSlot (a0 : List (List S)) (a1 : Int) : pureV (call Ev) Fn.impl_hasSlot [lv a0, iv .i64 a1] =
  vcase (bv (decide (a1 ≥ 0)))
  (pcallS (call Ev) Fn.impl_slots [lv a0] fun v102 =>
  gV1 v102 fun x103 =>
  gI .i64 x103 fun i104 =>
  vcase (bv (decide (a1 < i104)))
  (idxF 1 a0 (IntKind.i64.wrap (3 + (IntKind.i64.wrap (2 * a1)))) fun r108 =>
  (r108[0]?).bind fun x109 =>
  gI .u8 x109 fun i110 =>
  some (bv (i110 != 0)))
  (some (bv false)))
  (some (bv false)) := by
  rw [pure_eq]; kernel_rfl

theorem eq_impl_copied (a0 : List (List S)) (n : Nat) : call Ev Fn.impl_copied [lv a0] (D n) =
  (appS 1 ((D n).new 1 []) (sv ((D n).n) 0 0) (lv a0)).bind fun p101 =>
  some (p101.1, p101.2) := by
  rw [call_eq]; kernel_rfl

theorem pu_impl_cellAt (a0 : List (List S)) (a1 : Int) : pureV (call Ev) Fn.impl_cellAt [lv a0, iv .i64 a1] =
  pcallS (call Ev) Fn.impl_spot [lv a0, iv .i64 a1] fun v101 =>
  gVT v101 fun u102 =>
  (u102[0]?).bind fun t103 =>
  gA1 t103 fun x104 =>
  gI .i64 x104 fun i105 =>
  (u102[1]?).bind fun t106 =>
  gA1 t106 fun x107 =>
  gI .i64 x107 fun i108 =>
  if u102.length = 2 then
  slF 1 a0 (some (iv .i64 i105)) (some (iv .i64 (IntKind.i64.wrap (i105 + i108)))) fun z109 =>
  some (lv z109)
  else none := by
  rw [pure_eq]; kernel_rfl

theorem eq_impl_SlotIn (a0 : List (List S)) (a1 : Int) (n : Nat) : call Ev Fn.impl_SlotIn [lv a0, iv .i64 a1] (D n) =
  pcallS (call Ev) Fn.impl_PageFault [lv a0] fun v101 =>
  gV1 v101 fun x102 =>
  gI .i64 x102 fun i103 =>
  vcase (bv (i103 != 0))
  (stK 2 ((D n).new 0 [.int .i64 0, .sl none 0]) (pv ((D n).n) 0) (.agg [.int .i64 i103, .sl none 0]) fun h105 =>
  (loadN 2 h105 (pv ((D n).n) 0)).bind fun c106 =>
  some (.agg c106, h105))
  (pcallS (call Ev) Fn.impl_hasSlot [lv a0, iv .i64 a1] fun v107 =>
  gV1 v107 fun x108 =>
  gB x108 fun q109 =>
  vcase (bv (!q109))
  (stK 2 ((D n).new 0 [.int .i64 0, .sl none 0]) (pv ((D n).n) 0) (.agg [.int .i64 4, .sl none 0]) fun h111 =>
  (loadN 2 h111 (pv ((D n).n) 0)).bind fun c112 =>
  some (.agg c112, h111))
  ((pureV (call Ev) Fn.impl_cellAt [lv a0, iv .i64 a1]).bind fun v113 =>
  gV1 v113 fun x114 =>
  gF x114 fun z115 =>
  pcallF (call Ev) Fn.impl_copied true [lv z115] ((D n).new 0 [.int .i64 0, .sl none 0]) fun v116 h117 =>
  cellsK v116 fun c118 =>
  if c118.length = 1 ∧ 1 + 1 ≤ ([.int .i64 0, .sl none 0] : List S).length then
  ((setAt ([.int .i64 0, .sl none 0] : List S) 1 c118)[0]?).bind fun x119 =>
  gI .i64 x119 fun i120 =>
  ((setAt ([.int .i64 0, .sl none 0] : List S) 1 c118)[1]?).bind fun x121 =>
  if (setAt ([.int .i64 0, .sl none 0] : List S) 1 c118).length = 2 then
  stK 2 h117 (pv ((D n).n) 0) (.agg [.int .i64 i120, x121]) fun h122 =>
  (loadN 2 h122 (pv ((D n).n) 0)).bind fun c123 =>
  some (.agg c123, h122)
  else none
  else none)) := by
  rw [call_eq]; kernel_rfl

theorem pu_laws_eqByteS (a0 : List (List S)) (a1 : List (List S)) : pureV (call Ev) Fn.laws_eqByteS [lv a0, lv a1] =
  vcase (bv ((a0.length : Int) != (a1.length : Int)))
  (some (bv false))
  ((Lp.laws_eqByteS 0 [lv a0, lv a1, iv .i64 0] (D 0)).bind fun o102 => lcase o102 (fun l103 h104 =>
  some (bv true)) (fun v105 h106 =>
  frzV h106 v105)) := by
  rw [pure_eq]; kernel_rfl

theorem eq_laws_eqByteS_l0 (s0 : List (List S)) (s1 : List (List S)) (s5 : Int) (h : H) : Lp.laws_eqByteS 0 [lv s0, lv s1, iv .i64 s5] h =
  vcase (bv (decide (s5 < (s0.length : Int))))
  (idxF 1 s0 s5 fun r203 =>
  (r203[0]?).bind fun x204 =>
  gI .u8 x204 fun i205 =>
  idxF 1 s1 s5 fun r206 =>
  (r206[0]?).bind fun x207 =>
  gI .u8 x207 fun i208 =>
  vcase (bv (i205 != i208))
  (some (.ret (bv false) h))
  (Lp.laws_eqByteS 0 [lv s0, lv s1, iv .i64 (IntKind.i64.wrap (s5 + 1))] (tidy h [lv s0, lv s1, iv .i64 (IntKind.i64.wrap (s5 + 1))] h)))
  (some (.done [] (tidy h [] h))) := by
  unfold Lp.laws_eqByteS; rw [loop_eq]; kernel_rfl

theorem pu_laws_eqBytesResult (a0_0 : Int) (a0_1 : List (List S)) (a1_0 : Int) (a1_1 : List (List S)) : pureV (call Ev) Fn.laws_eqBytesResult [.agg [.int .i64 a0_0, .fs a0_1], .agg [.int .i64 a1_0, .fs a1_1]] =
  vcase (bv (a0_0 != a1_0))
  (some (bv false))
  (pcallS (call Ev) Fn.laws_eqByteS [lv a0_1, lv a1_1] fun v102 =>
  gV1 v102 fun x103 =>
  gB x103 fun q104 =>
  vcase (bv (!q104))
  (some (bv false))
  (some (bv true))) := by
  rw [pure_eq]; kernel_rfl

theorem eq_laws_markByteS (a0 : V) (a1 : Int) (h : H) : call Ev Fn.laws_markByteS [a0, iv .i64 a1] h =
  (Lp.laws_markByteS 0 [a0, iv .i64 a1, iv .i64 0] h).bind fun o101 => lcase o101 (fun l102 h103 =>
  (l102[0]?).bind fun w106 =>
  gV1 w106 fun x107 =>
  gI .i64 x107 fun i108 =>
  some (iv .i64 i108, h103)) (fun v104 h105 =>
  some (v104, h105)) := by
  rw [call_eq]; kernel_rfl

theorem eq_laws_markByteS_l0 (s0 : V) (s1 : Int) (s5 : Int) (h : H) : Lp.laws_markByteS 0 [s0, iv .i64 s1, iv .i64 s5] h =
  (lenV (.sl 5) s0).bind fun v201 =>
  gV1 v201 fun x202 =>
  gI .i64 x202 fun i203 =>
  vcase (bv (decide (s5 < i203)))
  (idxK 1 s0 (iv .i64 s5) fun v206 =>
  stK 1 h v206 (iv .u8 (IntKind.u8.wrap s1)) fun h207 =>
  Lp.laws_markByteS 0 [s0, iv .i64 (IntKind.i64.wrap (s1 + 1)), iv .i64 (IntKind.i64.wrap (s5 + 1))] (tidy h [s0, iv .i64 (IntKind.i64.wrap (s1 + 1)), iv .i64 (IntKind.i64.wrap (s5 + 1))] h207))
  (some (.done [iv .i64 s1] (tidy h [iv .i64 s1] h))) := by
  unfold Lp.laws_markByteS; rw [loop_eq]; kernel_rfl

theorem eq_laws_markBytesResult (a0_0 : Int) (a0_1 : S) (a1 : Int) (h : H) : call Ev Fn.laws_markBytesResult [.agg [.int .i64 a0_0, a0_1], iv .i64 a1] h =
  (load1 (h.new 0 [.int .i64 a0_0, a0_1]) (pv h.n 1)).bind fun x101 =>
  (call Ev Fn.laws_markByteS [.s x101, iv .i64 a1] (h.new 0 [.int .i64 a0_0, a0_1])).bind fun p102 =>
  gV1 p102.1 fun x103 =>
  gI .i64 x103 fun i104 =>
  some (iv .i64 i104, tidy (h.new 0 [.int .i64 a0_0, a0_1]) [p102.1] p102.2) := by
  rw [call_eq]; kernel_rfl

theorem pu_laws_heldByteS (a0 : List (List S)) (a1 : Int) : pureV (call Ev) Fn.laws_heldByteS [lv a0, iv .i64 a1] =
  (Lp.laws_heldByteS 0 [lv a0, iv .i64 a1, iv .i64 0] (D 0)).bind fun o101 => lcase o101 (fun l102 h103 =>
  (l102[0]?).bind fun w106 =>
  gV1 w106 fun x107 =>
  gI .i64 x107 fun i108 =>
  some (iv .i64 i108)) (fun v104 h105 =>
  frzV h105 v104) := by
  rw [pure_eq]; kernel_rfl

theorem eq_laws_heldByteS_l0 (s0 : List (List S)) (s1 : Int) (s5 : Int) (h : H) : Lp.laws_heldByteS 0 [lv s0, iv .i64 s1, iv .i64 s5] h =
  vcase (bv (decide (s5 < (s0.length : Int))))
  (idxF 1 s0 s5 fun r203 =>
  (r203[0]?).bind fun x204 =>
  gI .u8 x204 fun i205 =>
  vcase (bv (i205 != (IntKind.u8.wrap s1)))
  (some (.ret (iv .i64 (-1)) h))
  (Lp.laws_heldByteS 0 [lv s0, iv .i64 (IntKind.i64.wrap (s1 + 1)), iv .i64 (IntKind.i64.wrap (s5 + 1))] (tidy h [lv s0, iv .i64 (IntKind.i64.wrap (s1 + 1)), iv .i64 (IntKind.i64.wrap (s5 + 1))] h)))
  (some (.done [iv .i64 s1] (tidy h [iv .i64 s1] h))) := by
  unfold Lp.laws_heldByteS; rw [loop_eq]; kernel_rfl

theorem pu_laws_heldBytesResult (a0_0 : Int) (a0_1 : List (List S)) (a1 : Int) : pureV (call Ev) Fn.laws_heldBytesResult [.agg [.int .i64 a0_0, .fs a0_1], iv .i64 a1] =
  pcallS (call Ev) Fn.laws_heldByteS [lv a0_1, iv .i64 a1] fun v101 =>
  gV1 v101 fun x102 =>
  gI .i64 x102 fun i103 =>
  vcase (bv (decide (i103 < 0)))
  (some (iv .i64 (-1)))
  (some (iv .i64 i103)) := by
  rw [pure_eq]; kernel_rfl

noncomputable def Jn.laws_FnExactSlotIn_0 (q212 : Bool) (h120 : H) (p142 : V × H) (h115 : H) (a0 : List (List S)) (a1 : Int) : Option (V) :=
  vcase (bv q212)
  (some (bv false))
  ((loadN 2 (tidy h120 [p142.1] p142.2) (pv h115.n 0)).bind fun c214 =>
  (c214[0]?).bind fun x215 =>
  gI .i64 x215 fun i216 =>
  (c214[1]?).bind fun x217 =>
  if c214.length = 2 then
  (call Ev Fn.laws_markBytesResult [.agg [.int .i64 i216, x217], iv .i64 1] (tidy h120 [p142.1] p142.2)).bind fun p218 =>
  gV1 p218.1 fun x219 =>
  gI .i64 x219 fun i220 =>
  (loadN 2 (tidy (tidy h120 [p142.1] p142.2) [p218.1] p218.2) (pv h115.n 0)).bind fun c221 =>
  (c221[0]?).bind fun x222 =>
  gI .i64 x222 fun i223 =>
  (c221[1]?).bind fun x224 =>
  if c221.length = 2 then
  (frzVs (tidy (tidy h120 [p142.1] p142.2) [p218.1] p218.2) [.agg [.int .i64 i223, x224], iv .i64 1]).bind fun l225 =>
  pcallS (call Ev) Fn.laws_heldBytesResult (normVs [] l225) fun v226 =>
  gV1 v226 fun x227 =>
  gI .i64 x227 fun i228 =>
  vcase (bv (decide (i228 < 0)))
  (some (bv false))
  (vcase (bv (i228 != i220))
  (some (bv false))
  ((pureV (call Ev) Fn.laws_toByteS [lv a0]).bind fun v231 =>
  gV1 v231 fun x232 =>
  gF x232 fun z233 =>
  (pureV (call Ev) Fn.impl_SlotIn [lv z233, iv .i64 a1]).bind fun v234 =>
  gVA v234 fun c235 =>
  (c235[0]?).bind fun x236 =>
  gI .i64 x236 fun i237 =>
  (c235[1]?).bind fun x238 =>
  gF x238 fun z239 =>
  if c235.length = 2 then
  stK 2 ((tidy (tidy h120 [p142.1] p142.2) [p218.1] p218.2).new 0 [.int .i64 0, .sl none 0]) (pv ((tidy (tidy h120 [p142.1] p142.2) [p218.1] p218.2).n) 0) (.agg [.int .i64 i237, .fs z239]) fun h240 =>
  (loadN 2 h240 (pv ((tidy (tidy h120 [p142.1] p142.2) [p218.1] p218.2).n) 0)).bind fun c241 =>
  (c241[0]?).bind fun x242 =>
  gI .i64 x242 fun i243 =>
  (c241[1]?).bind fun x244 =>
  if c241.length = 2 then
  (loadN 2 h240 (pv 0 0)).bind fun c245 =>
  (c245[0]?).bind fun x246 =>
  gI .i64 x246 fun i247 =>
  (c245[1]?).bind fun x248 =>
  if c245.length = 2 then
  (frzVs h240 [.agg [.int .i64 i243, x244], .agg [.int .i64 i247, x248]]).bind fun l249 =>
  pcallS (call Ev) Fn.laws_eqBytesResult (normVs [] l249) fun v250 =>
  gV1 v250 fun x251 =>
  gB x251 fun q252 =>
  vcase (bv (!q252))
  (some (bv false))
  ((loadN 2 h240 (pv h115.n 0)).bind fun c254 =>
  (c254[0]?).bind fun x255 =>
  gI .i64 x255 fun i256 =>
  (c254[1]?).bind fun x257 =>
  if c254.length = 2 then
  (frzVs h240 [.agg [.int .i64 i256, x257], iv .i64 1]).bind fun l258 =>
  pcallS (call Ev) Fn.laws_heldBytesResult (normVs [] l258) fun v259 =>
  gV1 v259 fun x260 =>
  gI .i64 x260 fun i261 =>
  vcase (bv (decide (i261 < 0)))
  (some (bv false))
  (vcase (bv (i261 != i220))
  (some (bv false))
  (some (bv true)))
  else none)
  else none
  else none
  else none))
  else none
  else none)

theorem pu_laws_FnExactSlotIn (a0 : List (List S)) (a1 : Int) : pureV (call Ev) Fn.laws_FnExactSlotIn [lv a0, iv .i64 a1] =
  vcase (bv (decide ((a0.length : Int) > 1048576)))
  (some (bv true))
  ((pureV (call Ev) Fn.laws_toByteS [lv a0]).bind fun v102 =>
  gV1 v102 fun x103 =>
  gF x103 fun z104 =>
  (pureV (call Ev) Fn.spec_SlotIn [lv z104, iv .i64 a1]).bind fun v105 =>
  gVA v105 fun c106 =>
  (c106[0]?).bind fun x107 =>
  gI .i64 x107 fun i108 =>
  (c106[1]?).bind fun x109 =>
  gF x109 fun z110 =>
  if c106.length = 2 then
  pcallF (call Ev) Fn.laws_toByteS true [lv a0] (((D 0).new 0 [.int .i64 0, .sl none 0]).put 0 (.rw 0 [.int .i64 i108, .fs z110])) fun v111 h112 =>
  (frzVs h112 [v111, iv .i64 a1]).bind fun l113 =>
  pcallF (call Ev) Fn.impl_SlotIn ([v111, iv .i64 a1].all offV) (normVs [] l113) h112 fun v114 h115 =>
  gVA v114 fun c116 =>
  (c116[0]?).bind fun x117 =>
  gI .i64 x117 fun i118 =>
  (c116[1]?).bind fun x119 =>
  if c116.length = 2 then
  stK 2 (h115.new 0 [.int .i64 0, .sl none 0]) (pv h115.n 0) (.agg [.int .i64 i118, x119]) fun h120 =>
  (loadN 2 h120 (pv h115.n 0)).bind fun c121 =>
  (c121[0]?).bind fun x122 =>
  gI .i64 x122 fun i123 =>
  (c121[1]?).bind fun x124 =>
  if c121.length = 2 then
  (loadN 2 h120 (pv 0 0)).bind fun c125 =>
  (c125[0]?).bind fun x126 =>
  gI .i64 x126 fun i127 =>
  (c125[1]?).bind fun x128 =>
  if c125.length = 2 then
  (frzVs h120 [.agg [.int .i64 i123, x124], .agg [.int .i64 i127, x128]]).bind fun l129 =>
  pcallS (call Ev) Fn.laws_eqBytesResult (normVs [] l129) fun v130 =>
  gV1 v130 fun x131 =>
  gB x131 fun q132 =>
  vcase (bv (!q132))
  (some (bv false))
  ((pureV (call Ev) Fn.laws_toByteS [lv a0]).bind fun v134 =>
  gV1 v134 fun x135 =>
  gF x135 fun z136 =>
  (frzVs h120 [v111, lv z136]).bind fun l137 =>
  pcallS (call Ev) Fn.laws_eqByteS (normVs [] l137) fun v138 =>
  gV1 v138 fun x139 =>
  gB x139 fun q140 =>
  vcase (bv (!q140))
  (some (bv false))
  ((call Ev Fn.laws_markByteS [v111, iv .i64 1] h120).bind fun p142 =>
  gV1 p142.1 fun x143 =>
  gI .i64 x143 fun i144 =>
  vcase (bv (decide (i144 < 0)))
  (Jn.laws_FnExactSlotIn_0 true h120 p142 h115 a0 a1)
  ((loadN 2 (tidy h120 [p142.1] p142.2) (pv h115.n 0)).bind fun c147 =>
  (c147[0]?).bind fun x148 =>
  gI .i64 x148 fun i149 =>
  (c147[1]?).bind fun x150 =>
  if c147.length = 2 then
  (loadN 2 (tidy h120 [p142.1] p142.2) (pv 0 0)).bind fun c151 =>
  (c151[0]?).bind fun x152 =>
  gI .i64 x152 fun i153 =>
  (c151[1]?).bind fun x154 =>
  if c151.length = 2 then
  (frzVs (tidy h120 [p142.1] p142.2) [.agg [.int .i64 i149, x150], .agg [.int .i64 i153, x154]]).bind fun l155 =>
  pcallS (call Ev) Fn.laws_eqBytesResult (normVs [] l155) fun v156 =>
  gV1 v156 fun x157 =>
  gB x157 fun q158 =>
  Jn.laws_FnExactSlotIn_0 (!q158) h120 p142 h115 a0 a1
  else none
  else none)))
  else none
  else none
  else none
  else none) := by
  rw [pure_eq]; kernel_rfl

end Vm
