/-
  What each function, and each round of each loop, comes to in the small machine. Written by a program (gen3.py).
-/
import Derived.Test.YtfmkfefblbophaaEnv
set_option linter.unusedVariables false
set_option maxRecDepth 100000
namespace Vm
open Go

theorem pu_laws_heldPageResult (a0_0 : Int) (a0_1 : Int) (a0_2 : List (List S)) (a1 : Int) : pureV (call Ev) Fn.laws_heldPageResult [.agg [.int .i64 a0_0, .int .i64 a0_1, .fs a0_2], iv .i64 a1] =
  pcallS (call Ev) Fn.laws_heldByteS [lv a0_2, iv .i64 a1] fun v101 =>
  gV1 v101 fun x102 =>
  gI .i64 x102 fun i103 =>
  vcase (bv (decide (i103 < 0)))
  (some (iv .i64 (-1)))
  (some (iv .i64 i103)) := by
  rw [pure_eq]; kernel_rfl

theorem pu_laws_FnExactNewPage (a0 : Int) : pureV (call Ev) Fn.laws_FnExactNewPage [iv .u8 a0] =
  (pureV (call Ev) Fn.spec_NewPage [iv .u8 a0]).bind fun v101 =>
  gVA v101 fun c102 =>
  (c102[0]?).bind fun x103 =>
  gI .i64 x103 fun i104 =>
  (c102[1]?).bind fun x105 =>
  gI .i64 x105 fun i106 =>
  (c102[2]?).bind fun x107 =>
  gF x107 fun z108 =>
  if c102.length = 3 then
  pcallF (call Ev) Fn.impl_NewPage true [iv .u8 a0] (((D 0).new 0 [.int .i64 0, .int .i64 0, .sl none 0]).put 0 (.rw 0 [.int .i64 i104, .int .i64 i106, .fs z108])) fun v109 h110 =>
  gVA v109 fun c111 =>
  (c111[0]?).bind fun x112 =>
  gI .i64 x112 fun i113 =>
  (c111[1]?).bind fun x114 =>
  gI .i64 x114 fun i115 =>
  (c111[2]?).bind fun x116 =>
  if c111.length = 3 then
  stK 3 (h110.new 0 [.int .i64 0, .int .i64 0, .sl none 0]) (pv h110.n 0) (.agg [.int .i64 i113, .int .i64 i115, x116]) fun h117 =>
  (loadN 3 h117 (pv h110.n 0)).bind fun c118 =>
  (c118[0]?).bind fun x119 =>
  gI .i64 x119 fun i120 =>
  (c118[1]?).bind fun x121 =>
  gI .i64 x121 fun i122 =>
  (c118[2]?).bind fun x123 =>
  if c118.length = 3 then
  (loadN 3 h117 (pv 0 0)).bind fun c124 =>
  (c124[0]?).bind fun x125 =>
  gI .i64 x125 fun i126 =>
  (c124[1]?).bind fun x127 =>
  gI .i64 x127 fun i128 =>
  (c124[2]?).bind fun x129 =>
  if c124.length = 3 then
  (frzVs h117 [.agg [.int .i64 i120, .int .i64 i122, x123], .agg [.int .i64 i126, .int .i64 i128, x129]]).bind fun l130 =>
  pcallS (call Ev) Fn.laws_eqPageResult (normVs [] l130) fun v131 =>
  gV1 v131 fun x132 =>
  gB x132 fun q133 =>
  vcase (bv (!q133))
  (some (bv false))
  ((loadN 3 h117 (pv h110.n 0)).bind fun c135 =>
  (c135[0]?).bind fun x136 =>
  gI .i64 x136 fun i137 =>
  (c135[1]?).bind fun x138 =>
  gI .i64 x138 fun i139 =>
  (c135[2]?).bind fun x140 =>
  if c135.length = 3 then
  (call Ev Fn.laws_markPageResult [.agg [.int .i64 i137, .int .i64 i139, x140], iv .i64 1] h117).bind fun p141 =>
  gV1 p141.1 fun x142 =>
  gI .i64 x142 fun i143 =>
  (loadN 3 (tidy h117 [p141.1] p141.2) (pv h110.n 0)).bind fun c144 =>
  (c144[0]?).bind fun x145 =>
  gI .i64 x145 fun i146 =>
  (c144[1]?).bind fun x147 =>
  gI .i64 x147 fun i148 =>
  (c144[2]?).bind fun x149 =>
  if c144.length = 3 then
  (frzVs (tidy h117 [p141.1] p141.2) [.agg [.int .i64 i146, .int .i64 i148, x149], iv .i64 1]).bind fun l150 =>
  pcallS (call Ev) Fn.laws_heldPageResult (normVs [] l150) fun v151 =>
  gV1 v151 fun x152 =>
  gI .i64 x152 fun i153 =>
  vcase (bv (decide (i153 < 0)))
  (some (bv false))
  (vcase (bv (i153 != i143))
  (some (bv false))
  ((pureV (call Ev) Fn.impl_NewPage [iv .u8 a0]).bind fun v156 =>
  gVA v156 fun c157 =>
  (c157[0]?).bind fun x158 =>
  gI .i64 x158 fun i159 =>
  (c157[1]?).bind fun x160 =>
  gI .i64 x160 fun i161 =>
  (c157[2]?).bind fun x162 =>
  gF x162 fun z163 =>
  if c157.length = 3 then
  stK 3 ((tidy h117 [p141.1] p141.2).new 0 [.int .i64 0, .int .i64 0, .sl none 0]) (pv ((tidy h117 [p141.1] p141.2).n) 0) (.agg [.int .i64 i159, .int .i64 i161, .fs z163]) fun h164 =>
  (loadN 3 h164 (pv ((tidy h117 [p141.1] p141.2).n) 0)).bind fun c165 =>
  (c165[0]?).bind fun x166 =>
  gI .i64 x166 fun i167 =>
  (c165[1]?).bind fun x168 =>
  gI .i64 x168 fun i169 =>
  (c165[2]?).bind fun x170 =>
  if c165.length = 3 then
  (loadN 3 h164 (pv 0 0)).bind fun c171 =>
  (c171[0]?).bind fun x172 =>
  gI .i64 x172 fun i173 =>
  (c171[1]?).bind fun x174 =>
  gI .i64 x174 fun i175 =>
  (c171[2]?).bind fun x176 =>
  if c171.length = 3 then
  (frzVs h164 [.agg [.int .i64 i167, .int .i64 i169, x170], .agg [.int .i64 i173, .int .i64 i175, x176]]).bind fun l177 =>
  pcallS (call Ev) Fn.laws_eqPageResult (normVs [] l177) fun v178 =>
  gV1 v178 fun x179 =>
  gB x179 fun q180 =>
  vcase (bv (!q180))
  (some (bv false))
  ((loadN 3 h164 (pv h110.n 0)).bind fun c182 =>
  (c182[0]?).bind fun x183 =>
  gI .i64 x183 fun i184 =>
  (c182[1]?).bind fun x185 =>
  gI .i64 x185 fun i186 =>
  (c182[2]?).bind fun x187 =>
  if c182.length = 3 then
  (frzVs h164 [.agg [.int .i64 i184, .int .i64 i186, x187], iv .i64 1]).bind fun l188 =>
  pcallS (call Ev) Fn.laws_heldPageResult (normVs [] l188) fun v189 =>
  gV1 v189 fun x190 =>
  gI .i64 x190 fun i191 =>
  vcase (bv (decide (i191 < 0)))
  (some (bv false))
  (vcase (bv (i191 != i143))
  (some (bv false))
  (some (bv true)))
  else none)
  else none
  else none
  else none))
  else none
  else none)
  else none
  else none
  else none
  else none := by
  rw [pure_eq]; kernel_rfl

theorem pu_spec_l2Count (a0 : List (List S)) : pureV (call Ev) Fn.spec_l2Count [lv a0] =
  idxF 1 a0 0 fun r101 =>
  (r101[0]?).bind fun x102 =>
  gI .u8 x102 fun i103 =>
  some (iv .i64 (IntKind.i64.wrap i103)) := by
  rw [pure_eq]; kernel_rfl

theorem pu_spec_l2Low (a0 : List (List S)) : pureV (call Ev) Fn.spec_l2Low [lv a0] =
  idxF 1 a0 1 fun r101 =>
  (r101[0]?).bind fun x102 =>
  gI .u8 x102 fun i103 =>
  some (iv .i64 (IntKind.i64.wrap i103)) := by
  rw [pure_eq]; kernel_rfl

theorem pu_spec_l2Size (a0 : List (List S)) (a1 : Int) : pureV (call Ev) Fn.spec_l2Size [lv a0, iv .i64 a1] =
  idxF 1 a0 (IntKind.i64.wrap (3 + (IntKind.i64.wrap (2 * a1)))) fun r101 =>
  (r101[0]?).bind fun x102 =>
  gI .u8 x102 fun i103 =>
  some (iv .i64 (IntKind.i64.wrap i103)) := by
  rw [pure_eq]; kernel_rfl

theorem pu_spec_l2Place (a0 : List (List S)) (a1 : Int) : pureV (call Ev) Fn.spec_l2Place [lv a0, iv .i64 a1] =
  idxF 1 a0 (IntKind.i64.wrap (2 + (IntKind.i64.wrap (2 * a1)))) fun r101 =>
  (r101[0]?).bind fun x102 =>
  gI .u8 x102 fun i103 =>
  some (iv .i64 (IntKind.i64.wrap i103)) := by
  rw [pure_eq]; kernel_rfl

theorem pu_spec_l2Slot (a0 : List (List S)) (a1 : Int) : pureV (call Ev) Fn.spec_l2Slot [lv a0, iv .i64 a1] =
  pcallS (call Ev) Fn.spec_l2Place [lv a0, iv .i64 a1] fun v101 =>
  gV1 v101 fun x102 =>
  gI .i64 x102 fun i103 =>
  pcallS (call Ev) Fn.spec_l2Size [lv a0, iv .i64 a1] fun v104 =>
  gV1 v104 fun x105 =>
  gI .i64 x105 fun i106 =>
  vcase (bv (i103 == 0))
  (some (bv (i103 == i106)))
  (vcase (bv (i106 == 0))
  (some (bv (i103 == i106)))
  (pcallS (call Ev) Fn.spec_l2Low [lv a0] fun v112 =>
  gV1 v112 fun x113 =>
  gI .i64 x113 fun i114 =>
  vcase (bv (decide (i103 ≥ i114)))
  (some (bv (decide ((IntKind.i64.wrap (i103 + i106)) ≤ 64))))
  (some (bv false)))) := by
  rw [pure_eq]; kernel_rfl

noncomputable def Jn.spec_l2Apart_0 (q133 : Bool) (a0 : List (List S)) (a1 : Int) (a2 : Int) : Option (V) :=
  vcase (bv q133)
  (some (bv true))
  (pcallS (call Ev) Fn.spec_l2Place [lv a0, iv .i64 a1] fun v135 =>
  gV1 v135 fun x136 =>
  gI .i64 x136 fun i137 =>
  pcallS (call Ev) Fn.spec_l2Size [lv a0, iv .i64 a1] fun v138 =>
  gV1 v138 fun x139 =>
  gI .i64 x139 fun i140 =>
  pcallS (call Ev) Fn.spec_l2Place [lv a0, iv .i64 a2] fun v141 =>
  gV1 v141 fun x142 =>
  gI .i64 x142 fun i143 =>
  vcase (bv (decide ((IntKind.i64.wrap (i137 + i140)) ≤ i143)))
  (some (bv true))
  (pcallS (call Ev) Fn.spec_l2Place [lv a0, iv .i64 a2] fun v146 =>
  gV1 v146 fun x147 =>
  gI .i64 x147 fun i148 =>
  pcallS (call Ev) Fn.spec_l2Size [lv a0, iv .i64 a2] fun v149 =>
  gV1 v149 fun x150 =>
  gI .i64 x150 fun i151 =>
  pcallS (call Ev) Fn.spec_l2Place [lv a0, iv .i64 a1] fun v152 =>
  gV1 v152 fun x153 =>
  gI .i64 x153 fun i154 =>
  some (bv (decide ((IntKind.i64.wrap (i148 + i151)) ≤ i154)))))

theorem pu_spec_l2Apart (a0 : List (List S)) (a1 : Int) (a2 : Int) : pureV (call Ev) Fn.spec_l2Apart [lv a0, iv .i64 a1, iv .i64 a2] =
  pcallS (call Ev) Fn.spec_l2Size [lv a0, iv .i64 a1] fun v101 =>
  gV1 v101 fun x102 =>
  gI .i64 x102 fun i103 =>
  vcase (bv (i103 == 0))
  (Jn.spec_l2Apart_0 true a0 a1 a2)
  (pcallS (call Ev) Fn.spec_l2Size [lv a0, iv .i64 a2] fun v106 =>
  gV1 v106 fun x107 =>
  gI .i64 x107 fun i108 =>
  Jn.spec_l2Apart_0 (i108 == 0) a0 a1 a2) := by
  rw [pure_eq]; kernel_rfl

noncomputable def Jn.spec_l2Fault_0 (q151 : Bool) (a0 : List (List S)) (i104 : Int) : Option (V) :=
  vcase (bv q151)
  (some (iv .i64 3))
  ((Lp.spec_l2Fault 0 [lv a0, iv .i64 i104, iv .i64 0] (D 0)).bind fun o153 => lcase o153 (fun l154 h155 =>
  (l154[0]?).bind fun w158 =>
  gV1 w158 fun x159 =>
  gF x159 fun z160 =>
  (l154[1]?).bind fun w161 =>
  gV1 w161 fun x162 =>
  gI .i64 x162 fun i163 =>
  (Lp.spec_l2Fault 2 [lv z160, iv .i64 i163, iv .i64 0] h155).bind fun o164 => lcase o164 (fun l165 h166 =>
  (l165[0]?).bind fun w169 =>
  gV1 w169 fun x170 =>
  gF x170 fun z171 =>
  (l165[1]?).bind fun w172 =>
  gV1 w172 fun x173 =>
  gI .i64 x173 fun i174 =>
  vcase (bv (decide (i174 > 0)))
  (pcallS (call Ev) Fn.spec_l2Size [lv z171, iv .i64 (IntKind.i64.wrap (i174 - 1))] fun v176 =>
  gV1 v176 fun x177 =>
  gI .i64 x177 fun i178 =>
  vcase (bv (i178 == 0))
  (some (iv .i64 8))
  (some (iv .i64 0)))
  (some (iv .i64 0))) (fun v167 h168 =>
  frzV h168 v167)) (fun v156 h157 =>
  frzV h157 v156))

theorem pu_spec_l2Fault (a0 : List (List S)) : pureV (call Ev) Fn.spec_l2Fault [lv a0] =
  vcase (bv ((a0.length : Int) != 64))
  (some (iv .i64 1))
  (pcallS (call Ev) Fn.spec_l2Count [lv a0] fun v102 =>
  gV1 v102 fun x103 =>
  gI .i64 x103 fun i104 =>
  vcase (bv (decide (i104 > 16)))
  (some (iv .i64 3))
  (pcallS (call Ev) Fn.spec_l2Low [lv a0] fun v107 =>
  gV1 v107 fun x108 =>
  gI .i64 x108 fun i109 =>
  vcase (bv (decide (i109 < (IntKind.i64.wrap (2 + (IntKind.i64.wrap (2 * i104)))))))
  (Jn.spec_l2Fault_0 true a0 i104)
  (pcallS (call Ev) Fn.spec_l2Low [lv a0] fun v115 =>
  gV1 v115 fun x116 =>
  gI .i64 x116 fun i117 =>
  Jn.spec_l2Fault_0 (decide (i117 > 64)) a0 i104))) := by
  rw [pure_eq]; kernel_rfl

theorem eq_spec_l2Fault_l0 (s0 : List (List S)) (s3 : Int) (s4 : Int) (h : H) : Lp.spec_l2Fault 0 [lv s0, iv .i64 s3, iv .i64 s4] h =
  vcase (bv (decide (s4 < s3)))
  (pcallS (call Ev) Fn.spec_l2Slot [lv s0, iv .i64 s4] fun v203 =>
  gV1 v203 fun x204 =>
  gB x204 fun q205 =>
  vcase (bv (!q205))
  (some (.ret (iv .i64 3) h))
  (Lp.spec_l2Fault 0 [lv s0, iv .i64 s3, iv .i64 (IntKind.i64.wrap (s4 + 1))] (tidy h [lv s0, iv .i64 s3, iv .i64 (IntKind.i64.wrap (s4 + 1))] h)))
  (some (.done [lv s0, iv .i64 s3] (tidy h [lv s0, iv .i64 s3] h))) := by
  unfold Lp.spec_l2Fault; rw [loop_eq]; kernel_rfl

theorem eq_spec_l2Fault_l2 (s0 : List (List S)) (s3 : Int) (s5 : Int) (h : H) : Lp.spec_l2Fault 2 [lv s0, iv .i64 s3, iv .i64 s5] h =
  vcase (bv (decide (s5 < s3)))
  ((Lp.spec_l2Fault 4 [lv s0, iv .i64 s3, iv .i64 s5, iv .i64 0] h).bind fun o403 => lcase o403 (fun l404 h405 =>
  (l404[0]?).bind fun w408 =>
  gV1 w408 fun x409 =>
  gF x409 fun z410 =>
  (l404[1]?).bind fun w411 =>
  gV1 w411 fun x412 =>
  gI .i64 x412 fun i413 =>
  (l404[2]?).bind fun w414 =>
  gV1 w414 fun x415 =>
  gI .i64 x415 fun i416 =>
  Lp.spec_l2Fault 2 [lv z410, iv .i64 i413, iv .i64 (IntKind.i64.wrap (i416 + 1))] (tidy h [lv z410, iv .i64 i413, iv .i64 (IntKind.i64.wrap (i416 + 1))] h405)) (fun v406 h407 =>
  some (.ret v406 h407)))
  (some (.done [lv s0, iv .i64 s3] (tidy h [lv s0, iv .i64 s3] h))) := by
  unfold Lp.spec_l2Fault; rw [loop_eq]; kernel_rfl

theorem eq_spec_l2Fault_l4 (s0 : List (List S)) (s3 : Int) (s5 : Int) (s6 : Int) (h : H) : Lp.spec_l2Fault 4 [lv s0, iv .i64 s3, iv .i64 s5, iv .i64 s6] h =
  vcase (bv (decide (s6 < s5)))
  (pcallS (call Ev) Fn.spec_l2Apart [lv s0, iv .i64 s5, iv .i64 s6] fun v603 =>
  gV1 v603 fun x604 =>
  gB x604 fun q605 =>
  vcase (bv (!q605))
  (some (.ret (iv .i64 8) h))
  (Lp.spec_l2Fault 4 [lv s0, iv .i64 s3, iv .i64 s5, iv .i64 (IntKind.i64.wrap (s6 + 1))] (tidy h [lv s0, iv .i64 s3, iv .i64 s5, iv .i64 (IntKind.i64.wrap (s6 + 1))] h)))
  (some (.done [lv s0, iv .i64 s3, iv .i64 s5] (tidy h [lv s0, iv .i64 s3, iv .i64 s5] h))) := by
  unfold Lp.spec_l2Fault; rw [loop_eq]; kernel_rfl

theorem pu_spec_PageFault (a0 : List (List S)) : pureV (call Ev) Fn.spec_PageFault [lv a0] =
  pcallS (call Ev) Fn.spec_l2Fault [lv a0] fun v101 =>
  gV1 v101 fun x102 =>
  gI .i64 x102 fun i103 =>
  some (iv .i64 i103) := by
  rw [pure_eq]; kernel_rfl

theorem pu_laws_toByteS (a0 : List (List S)) : pureV (call Ev) Fn.laws_toByteS [lv a0] =
  (mkSl 1 [.int .u8 0] (D 0) (iv .i64 (a0.length : Int)) (iv .i64 (a0.length : Int))).bind fun p101 =>
  (Lp.laws_toByteS 0 [lv a0, p101.1, iv .i64 0] p101.2).bind fun o102 => lcase o102 (fun l103 h104 =>
  (l103[0]?).bind fun w107 =>
  frzV h104 w107) (fun v105 h106 =>
  frzV h106 v105) := by
  rw [pure_eq]; kernel_rfl

theorem eq_laws_toByteS_l0 (s0 : List (List S)) (s3 : V) (s4 : Int) (h : H) : Lp.laws_toByteS 0 [lv s0, s3, iv .i64 s4] h =
  vcase (bv (decide (s4 < (s0.length : Int))))
  (idxF 1 s0 s4 fun r203 =>
  (r203[0]?).bind fun x204 =>
  gI .u8 x204 fun i205 =>
  idxK 1 s3 (iv .i64 s4) fun v206 =>
  stK 1 h v206 (iv .u8 i205) fun h207 =>
  Lp.laws_toByteS 0 [lv s0, s3, iv .i64 (IntKind.i64.wrap (s4 + 1))] (tidy h [lv s0, s3, iv .i64 (IntKind.i64.wrap (s4 + 1))] h207))
  (some (.done [s3] (tidy h [s3] h))) := by
  unfold Lp.laws_toByteS; rw [loop_eq]; kernel_rfl

theorem pu_impl_slots (a0 : List (List S)) : pureV (call Ev) Fn.impl_slots [lv a0] =
  idxF 1 a0 0 fun r101 =>
  (r101[0]?).bind fun x102 =>
  gI .u8 x102 fun i103 =>
  some (iv .i64 (IntKind.i64.wrap i103)) := by
  rw [pure_eq]; kernel_rfl

theorem pu_impl_spot (a0 : List (List S)) (a1 : Int) : pureV (call Ev) Fn.impl_spot [lv a0, iv .i64 a1] =
  idxF 1 a0 (IntKind.i64.wrap (2 + (IntKind.i64.wrap (2 * a1)))) fun r101 =>
  (r101[0]?).bind fun x102 =>
  gI .u8 x102 fun i103 =>
  idxF 1 a0 (IntKind.i64.wrap (3 + (IntKind.i64.wrap (2 * a1)))) fun r104 =>
  (r104[0]?).bind fun x105 =>
  gI .u8 x105 fun i106 =>
  some (.tup [.s (.int .i64 (IntKind.i64.wrap i103)), .s (.int .i64 (IntKind.i64.wrap i106))]) := by
  rw [pure_eq]; kernel_rfl

noncomputable def Jn.impl_PageFault_0 (q148 : Bool) (a0 : List (List S)) (i107 : Int) (i104 : Int) : Option (V) :=
  vcase (bv q148)
  (some (iv .i64 3))
  ((Lp.impl_PageFault 0 [lv a0, iv .i64 i107, iv .i64 (IntKind.i64.wrap i104), iv .i64 i107, iv .i64 0] (D 0)).bind fun o150 => lcase o150 (fun l151 h152 =>
  (l151[0]?).bind fun w155 =>
  gV1 w155 fun x156 =>
  gF x156 fun z157 =>
  (l151[1]?).bind fun w158 =>
  gV1 w158 fun x159 =>
  gI .i64 x159 fun i160 =>
  (Lp.impl_PageFault 2 [lv z157, iv .i64 i160, pv h152.n 0, iv .i64 i160, iv .i64 0] (h152.new 0 [.bool false, .bool false, .bool false, .bool false, .bool false, .bool false, .bool false, .bool false, .bool false, .bool false, .bool false, .bool false, .bool false, .bool false, .bool false, .bool false, .bool false, .bool false, .bool false, .bool false, .bool false, .bool false, .bool false, .bool false, .bool false, .bool false, .bool false, .bool false, .bool false, .bool false, .bool false, .bool false, .bool false, .bool false, .bool false, .bool false, .bool false, .bool false, .bool false, .bool false, .bool false, .bool false, .bool false, .bool false, .bool false, .bool false, .bool false, .bool false, .bool false, .bool false, .bool false, .bool false, .bool false, .bool false, .bool false, .bool false, .bool false, .bool false, .bool false, .bool false, .bool false, .bool false, .bool false, .bool false])).bind fun o161 => lcase o161 (fun l162 h163 =>
  (l162[0]?).bind fun w166 =>
  gV1 w166 fun x167 =>
  gF x167 fun z168 =>
  (l162[1]?).bind fun w169 =>
  gV1 w169 fun x170 =>
  gI .i64 x170 fun i171 =>
  vcase (bv (decide (i171 > 0)))
  (idxF 1 z168 (IntKind.i64.wrap ((IntKind.i64.wrap (2 * i171)) + 1)) fun r173 =>
  (r173[0]?).bind fun x174 =>
  gI .u8 x174 fun i175 =>
  vcase (bv (i175 == 0))
  (some (iv .i64 8))
  (some (iv .i64 0)))
  (some (iv .i64 0))) (fun v164 h165 =>
  frzV h165 v164)) (fun v153 h154 =>
  frzV h154 v153))

theorem pu_impl_PageFault (a0 : List (List S)) : pureV (call Ev) Fn.impl_PageFault [lv a0] =
  vcase (bv ((a0.length : Int) != 64))
  (some (iv .i64 1))
  (idxF 1 a0 1 fun r102 =>
  (r102[0]?).bind fun x103 =>
  gI .u8 x103 fun i104 =>
  pcallS (call Ev) Fn.impl_slots [lv a0] fun v105 =>
  gV1 v105 fun x106 =>
  gI .i64 x106 fun i107 =>
  hchk (D 0) (D 0) (
  vcase (bv (decide (i107 > 16)))
  (some (iv .i64 3))
  (vcase (bv (decide ((IntKind.i64.wrap i104) < (IntKind.i64.wrap (2 + (IntKind.i64.wrap (2 * i107)))))))
  (Jn.impl_PageFault_0 true a0 i107 i104)
  (Jn.impl_PageFault_0 (decide ((IntKind.i64.wrap i104) > 64)) a0 i107 i104)))) := by
  rw [pure_eq]; kernel_rfl

theorem eq_impl_PageFault_l0 (s0 : List (List S)) (s3 : Int) (s4 : Int) (s35 : Int) (s36 : Int) (h : H) : Lp.impl_PageFault 0 [lv s0, iv .i64 s3, iv .i64 s4, iv .i64 s35, iv .i64 s36] h =
  vcase (bv (decide (s36 < s35)))
  (pcallS (call Ev) Fn.impl_spot [lv s0, iv .i64 s36] fun v203 =>
  gVT v203 fun u204 =>
  (u204[0]?).bind fun t205 =>
  gA1 t205 fun x206 =>
  gI .i64 x206 fun i207 =>
  (u204[1]?).bind fun t208 =>
  gA1 t208 fun x209 =>
  gI .i64 x209 fun i210 =>
  if u204.length = 2 then
  vcase (bv (!((i207 == 0) == (i210 == 0))))
  (some (.ret (iv .i64 3) h))
  (vcase (bv (i207 != 0))
  (vcase (bv (decide (i207 < s4)))
  (some (.ret (iv .i64 3) h))
  (vcase (bv (decide ((IntKind.i64.wrap (i207 + i210)) > 64)))
  (some (.ret (iv .i64 3) h))
  (Lp.impl_PageFault 0 [lv s0, iv .i64 s3, iv .i64 s4, iv .i64 s35, iv .i64 (IntKind.i64.wrap (s36 + 1))] (tidy h [lv s0, iv .i64 s3, iv .i64 s4, iv .i64 s35, iv .i64 (IntKind.i64.wrap (s36 + 1))] h))))
  (vcase (bv (decide ((IntKind.i64.wrap (i207 + i210)) > 64)))
  (some (.ret (iv .i64 3) h))
  (Lp.impl_PageFault 0 [lv s0, iv .i64 s3, iv .i64 s4, iv .i64 s35, iv .i64 (IntKind.i64.wrap (s36 + 1))] (tidy h [lv s0, iv .i64 s3, iv .i64 s4, iv .i64 s35, iv .i64 (IntKind.i64.wrap (s36 + 1))] h))))
  else none)
  (some (.done [lv s0, iv .i64 s3] (tidy h [lv s0, iv .i64 s3] h))) := by
  unfold Lp.impl_PageFault; rw [loop_eq]; kernel_rfl

theorem eq_impl_PageFault_l2 (s0 : List (List S)) (s3 : Int) (s8 : V) (s66 : Int) (s67 : Int) (h : H) : Lp.impl_PageFault 2 [lv s0, iv .i64 s3, s8, iv .i64 s66, iv .i64 s67] h =
  vcase (bv (decide (s67 < s66)))
  (pcallS (call Ev) Fn.impl_spot [lv s0, iv .i64 s67] fun v403 =>
  gVT v403 fun u404 =>
  (u404[0]?).bind fun t405 =>
  gA1 t405 fun x406 =>
  gI .i64 x406 fun i407 =>
  (u404[1]?).bind fun t408 =>
  gA1 t408 fun x409 =>
  gI .i64 x409 fun i410 =>
  if u404.length = 2 then
  (Lp.impl_PageFault 4 [lv s0, iv .i64 s3, s8, iv .i64 i407, iv .i64 i410, iv .i64 i407, iv .i64 s66, iv .i64 s67] h).bind fun o411 => lcase o411 (fun l412 h413 =>
  (l412[0]?).bind fun w416 =>
  gV1 w416 fun x417 =>
  gF x417 fun z418 =>
  (l412[1]?).bind fun w419 =>
  gV1 w419 fun x420 =>
  gI .i64 x420 fun i421 =>
  (l412[2]?).bind fun w422 =>
  (l412[3]?).bind fun w423 =>
  gV1 w423 fun x424 =>
  gI .i64 x424 fun i425 =>
  (l412[4]?).bind fun w426 =>
  gV1 w426 fun x427 =>
  gI .i64 x427 fun i428 =>
  Lp.impl_PageFault 2 [lv z418, iv .i64 i421, w422, iv .i64 i425, iv .i64 (IntKind.i64.wrap (i428 + 1))] (tidy h [lv z418, iv .i64 i421, w422, iv .i64 i425, iv .i64 (IntKind.i64.wrap (i428 + 1))] h413)) (fun v414 h415 =>
  some (.ret v414 h415))
  else none)
  (some (.done [lv s0, iv .i64 s3] (tidy h [lv s0, iv .i64 s3] h))) := by
  unfold Lp.impl_PageFault; rw [loop_eq]; kernel_rfl

theorem eq_impl_PageFault_l4 (s0 : List (List S)) (s3 : Int) (s8 : V) (s10 : Int) (s11 : Int) (s12 : Int) (s66 : Int) (s67 : Int) (h : H) : Lp.impl_PageFault 4 [lv s0, iv .i64 s3, s8, iv .i64 s10, iv .i64 s11, iv .i64 s12, iv .i64 s66, iv .i64 s67] h =
  vcase (bv (decide (s12 < (IntKind.i64.wrap (s10 + s11)))))
  ((idxA 64 1 s8 (iv .i64 s12)).bind fun v603 =>
  ldK (.one (.b)) ⟨1, 1, [.bool false], false, .bool, false⟩ h v603 fun v604 =>
  gV1 v604 fun x605 =>
  gB x605 fun q606 =>
  vcase (bv q606)
  (some (.ret (iv .i64 8) h))
  ((idxA 64 1 s8 (iv .i64 s12)).bind fun v608 =>
  stK 1 h v608 (bv true) fun h609 =>
  Lp.impl_PageFault 4 [lv s0, iv .i64 s3, s8, iv .i64 s10, iv .i64 s11, iv .i64 (IntKind.i64.wrap (s12 + 1)), iv .i64 s66, iv .i64 s67] (tidy h [lv s0, iv .i64 s3, s8, iv .i64 s10, iv .i64 s11, iv .i64 (IntKind.i64.wrap (s12 + 1)), iv .i64 s66, iv .i64 s67] h609)))
  (some (.done [lv s0, iv .i64 s3, s8, iv .i64 s66, iv .i64 s67] (tidy h [lv s0, iv .i64 s3, s8, iv .i64 s66, iv .i64 s67] h))) := by
  unfold Lp.impl_PageFault; rw [loop_eq]; kernel_rfl

theorem pu_laws_FnExactPageFault (a0 : List (List S)) : pureV (call Ev) Fn.laws_FnExactPageFault [lv a0] =
  vcase (bv (decide ((a0.length : Int) > 1048576)))
  (some (bv true))
  ((pureV (call Ev) Fn.laws_toByteS [lv a0]).bind fun v102 =>
  gV1 v102 fun x103 =>
  gF x103 fun z104 =>
  pcallS (call Ev) Fn.spec_PageFault [lv z104] fun v105 =>
  gV1 v105 fun x106 =>
  gI .i64 x106 fun i107 =>
  (pureV (call Ev) Fn.laws_toByteS [lv a0]).bind fun v108 =>
  gV1 v108 fun x109 =>
  gF x109 fun z110 =>
  pcallS (call Ev) Fn.impl_PageFault [lv z110] fun v111 =>
  gV1 v111 fun x112 =>
  gI .i64 x112 fun i113 =>
  vcase (bv (i113 != i107))
  (some (bv false))
  ((pureV (call Ev) Fn.laws_toByteS [lv a0]).bind fun v115 =>
  gV1 v115 fun x116 =>
  gF x116 fun z117 =>
  pcallS (call Ev) Fn.laws_eqByteS [lv z110, lv z117] fun v118 =>
  gV1 v118 fun x119 =>
  gB x119 fun q120 =>
  vcase (bv (!q120))
  (some (bv false))
  (some (bv true)))) := by
  rw [pure_eq]; kernel_rfl

theorem pu_laws_szOp (a0_0 : Int) (a0_1 : Int) (a0_2 : Int) (a0_3 : Int) (a0_4 : Int) (a0_5 : ByteArray) (a0_6 : Int) (a1 : Int) : pureV (call Ev) Fn.laws_szOp [.agg [.int .i64 a0_0, .int .i64 a0_1, .int .i64 a0_2, .int .i64 a0_3, .int .i64 a0_4, .str a0_5, .int .i64 a0_6], iv .i64 a1] =
  pcallS (call Ev) Fn.laws_szRow [.agg [.int .i64 a0_2, .int .i64 a0_3, .int .i64 a0_4, .str a0_5], iv .i64 a1] fun v101 =>
  gV1 v101 fun x102 =>
  gI .i64 x102 fun i103 =>
  vcase (bv (decide (i103 < 0)))
  (some (iv .i64 (-1)))
  (some (iv .i64 i103)) := by
  rw [pure_eq]; kernel_rfl

theorem pu_spec_l10Row (a0 : Int) : pureV (call Ev) Fn.spec_l10Row [iv .i64 a0] =
  pcallS (call Ev) Fn.spec_l1In [iv .i64 a0, iv .i64 2, iv .i64 4] fun v101 =>
  gV1 v101 fun x102 =>
  gB x102 fun q103 =>
  some (bv q103) := by
  rw [pure_eq]; kernel_rfl

noncomputable def Jn.spec_l10Form_0 (q153 : Bool) (a0_1 : Int) (a0_0 : Int) (a0_4 : Int) (a0_5 : ByteArray) (a0_2 : Int) (a0_3 : Int) : Option (V) :=
  vcase (bv q153)
  (vcase (bv (a0_1 != 0))
  (some (bv false))
  (vcase (bv (a0_0 == 4))
  (vcase (bv (a0_4 == 0))
  (some (bv ((a0_5 : ByteArray).toList == ((⟨#[]⟩) : ByteArray).toList)))
  (some (bv false)))
  (pcallS (call Ev) Fn.spec_l10Row [iv .i64 a0_0] fun v162 =>
  gV1 v162 fun x163 =>
  gB x163 fun q164 =>
  vcase (bv q164)
  (some (bv true))
  (some (bv (((a0_2 : Int) == 0) && (((a0_3 : Int) == 0) && (((a0_4 : Int) == 0) && (((a0_5 : ByteArray).toList == ((⟨#[]⟩) : ByteArray).toList) && true)))))))))
  (vcase (bv (a0_0 == 4))
  (vcase (bv (a0_4 == 0))
  (some (bv ((a0_5 : ByteArray).toList == ((⟨#[]⟩) : ByteArray).toList)))
  (some (bv false)))
  (pcallS (call Ev) Fn.spec_l10Row [iv .i64 a0_0] fun v173 =>
  gV1 v173 fun x174 =>
  gB x174 fun q175 =>
  vcase (bv q175)
  (some (bv true))
  (some (bv (((a0_2 : Int) == 0) && (((a0_3 : Int) == 0) && (((a0_4 : Int) == 0) && (((a0_5 : ByteArray).toList == ((⟨#[]⟩) : ByteArray).toList) && true))))))))

theorem pu_spec_l10Form (a0_0 : Int) (a0_1 : Int) (a0_2 : Int) (a0_3 : Int) (a0_4 : Int) (a0_5 : ByteArray) (a0_6 : Int) : pureV (call Ev) Fn.spec_l10Form [fv [.int .i64 a0_0, .int .i64 a0_1, .int .i64 a0_2, .int .i64 a0_3, .int .i64 a0_4, .str a0_5, .int .i64 a0_6] 0] =
  pcallS (call Ev) Fn.spec_l1In [iv .i64 a0_0, iv .i64 1, iv .i64 9] fun v101 =>
  gV1 v101 fun x102 =>
  gB x102 fun q103 =>
  vcase (bv (!q103))
  (some (bv false))
  (vcase (bv (a0_0 != 6))
  (vcase (bv (a0_6 != 0))
  (some (bv false))
  (vcase (bv (a0_0 == 1))
  (Jn.spec_l10Form_0 true a0_1 a0_0 a0_4 a0_5 a0_2 a0_3)
  (Jn.spec_l10Form_0 (a0_0 == 9) a0_1 a0_0 a0_4 a0_5 a0_2 a0_3)))
  (vcase (bv (a0_0 == 1))
  (Jn.spec_l10Form_0 true a0_1 a0_0 a0_4 a0_5 a0_2 a0_3)
  (Jn.spec_l10Form_0 (a0_0 == 9) a0_1 a0_0 a0_4 a0_5 a0_2 a0_3))) := by
  rw [pure_eq]; kernel_rfl

noncomputable def Jn.spec_l10Op_0 (q141 : Bool) (a0_1 : Int) (a0_6 : Int) (a0_0 : Int) (a0_2 : Int) (a0_3 : Int) (a0_4 : Int) (a0_5 : ByteArray) : Option (V) :=
  vcase (bv q141)
  (pcallS (call Ev) Fn.spec_l1In [iv .i64 a0_1, iv .i64 1, iv .i64 99] fun v143 =>
  gV1 v143 fun x144 =>
  gB x144 fun q145 =>
  vcase (bv (!q145))
  (some (iv .i64 3))
  (pcallS (call Ev) Fn.spec_l1In [iv .i64 a0_6, iv .i64 0, iv .i64 7] fun v150 =>
  gV1 v150 fun x151 =>
  gB x151 fun q152 =>
  vcase (bv (!q152))
  (some (iv .i64 3))
  (pcallS (call Ev) Fn.spec_l10Row [iv .i64 a0_0] fun v156 =>
  gV1 v156 fun x157 =>
  gB x157 fun q158 =>
  vcase (bv q158)
  (pcallS (call Ev) Fn.spec_l1Fault [fv [.int .i64 a0_2, .int .i64 a0_3, .int .i64 a0_4, .str a0_5] 0] fun v160 =>
  gV1 v160 fun x161 =>
  gI .i64 x161 fun i162 =>
  some (iv .i64 i162))
  (some (iv .i64 0)))))
  (pcallS (call Ev) Fn.spec_l1In [iv .i64 a0_6, iv .i64 0, iv .i64 7] fun v163 =>
  gV1 v163 fun x164 =>
  gB x164 fun q165 =>
  vcase (bv (!q165))
  (some (iv .i64 3))
  (pcallS (call Ev) Fn.spec_l10Row [iv .i64 a0_0] fun v168 =>
  gV1 v168 fun x169 =>
  gB x169 fun q170 =>
  vcase (bv q170)
  (pcallS (call Ev) Fn.spec_l1Fault [fv [.int .i64 a0_2, .int .i64 a0_3, .int .i64 a0_4, .str a0_5] 0] fun v172 =>
  gV1 v172 fun x173 =>
  gI .i64 x173 fun i174 =>
  some (iv .i64 i174))
  (some (iv .i64 0))))

theorem pu_spec_l10Op (a0_0 : Int) (a0_1 : Int) (a0_2 : Int) (a0_3 : Int) (a0_4 : Int) (a0_5 : ByteArray) (a0_6 : Int) : pureV (call Ev) Fn.spec_l10Op [fv [.int .i64 a0_0, .int .i64 a0_1, .int .i64 a0_2, .int .i64 a0_3, .int .i64 a0_4, .str a0_5, .int .i64 a0_6] 0] =
  pcallS (call Ev) Fn.spec_l10Form [fv [.int .i64 a0_0, .int .i64 a0_1, .int .i64 a0_2, .int .i64 a0_3, .int .i64 a0_4, .str a0_5, .int .i64 a0_6] 0] fun v101 =>
  gV1 v101 fun x102 =>
  gB x102 fun q103 =>
  vcase (bv (!q103))
  (some (iv .i64 1))
  (vcase (bv (a0_0 != 1))
  (Jn.spec_l10Op_0 (a0_0 != 9) a0_1 a0_6 a0_0 a0_2 a0_3 a0_4 a0_5)
  (Jn.spec_l10Op_0 false a0_1 a0_6 a0_0 a0_2 a0_3 a0_4 a0_5)) := by
  rw [pure_eq]; kernel_rfl

theorem pu_spec_OpFault (a0_0 : Int) (a0_1 : Int) (a0_2 : Int) (a0_3 : Int) (a0_4 : Int) (a0_5 : ByteArray) (a0_6 : Int) : pureV (call Ev) Fn.spec_OpFault [.agg [.int .i64 a0_0, .int .i64 a0_1, .int .i64 a0_2, .int .i64 a0_3, .int .i64 a0_4, .str a0_5, .int .i64 a0_6]] =
  pcallS (call Ev) Fn.spec_l10Op [fv [.int .i64 a0_0, .int .i64 a0_1, .int .i64 a0_2, .int .i64 a0_3, .int .i64 a0_4, .str a0_5, .int .i64 a0_6] 0] fun v101 =>
  gV1 v101 fun x102 =>
  gI .i64 x102 fun i103 =>
  some (iv .i64 i103) := by
  rw [pure_eq]; kernel_rfl

theorem pu_laws_toOp (a0_0 : Int) (a0_1 : Int) (a0_2 : Int) (a0_3 : Int) (a0_4 : Int) (a0_5 : ByteArray) (a0_6 : Int) : pureV (call Ev) Fn.laws_toOp [.agg [.int .i64 a0_0, .int .i64 a0_1, .int .i64 a0_2, .int .i64 a0_3, .int .i64 a0_4, .str a0_5, .int .i64 a0_6]] =
  pcallS (call Ev) Fn.laws_toRow [.agg [.int .i64 a0_2, .int .i64 a0_3, .int .i64 a0_4, .str a0_5]] fun v101 =>
  gVA v101 fun c102 =>
  (c102[0]?).bind fun x103 =>
  gI .i64 x103 fun i104 =>
  (c102[1]?).bind fun x105 =>
  gI .i64 x105 fun i106 =>
  (c102[2]?).bind fun x107 =>
  gI .i64 x107 fun i108 =>
  (c102[3]?).bind fun x109 =>
  gS x109 fun y110 =>
  if c102.length = 4 then
  some (.agg [.int .i64 a0_0, .int .i64 a0_1, .int .i64 i104, .int .i64 i106, .int .i64 i108, .str y110, .int .i64 a0_6])
  else none := by
  rw [pure_eq]; kernel_rfl

theorem pu_impl_onRow (a0 : Int) : pureV (call Ev) Fn.impl_onRow [iv .i64 a0] =
  vcase (bv (a0 == 2))
  (some (bv true))
  (vcase (bv (a0 == 3))
  (some (bv true))
  (some (bv (a0 == 4)))) := by
  rw [pure_eq]; kernel_rfl

theorem pu_impl_isTx (a0 : Int) : pureV (call Ev) Fn.impl_isTx [iv .i64 a0] =
  pcallS (call Ev) Fn.impl_in [iv .i64 a0, iv .i64 1, iv .i64 99] fun v101 =>
  gV1 v101 fun x102 =>
  gB x102 fun q103 =>
  some (bv q103) := by
  rw [pure_eq]; kernel_rfl

noncomputable def Jn.impl_OpFault_0 (q597 : Bool) (q555 : Bool) (a0_1 : Int) (a0_6 : Int) (a0_0 : Int) (a0_2 : Int) (a0_3 : Int) (a0_4 : Int) (a0_5 : ByteArray) : Option (V) :=
  vcase (bv q597)
  (some (iv .i64 1))
  (vcase (bv (!q555))
  (pcallS (call Ev) Fn.impl_isTx [iv .i64 a0_1] fun v600 =>
  gV1 v600 fun x601 =>
  gB x601 fun q602 =>
  vcase (bv (!q602))
  (some (iv .i64 3))
  (pcallS (call Ev) Fn.impl_in [iv .i64 a0_6, iv .i64 0, iv .i64 7] fun v607 =>
  gV1 v607 fun x608 =>
  gB x608 fun q609 =>
  vcase (bv (!q609))
  (some (iv .i64 3))
  (pcallS (call Ev) Fn.impl_onRow [iv .i64 a0_0] fun v613 =>
  gV1 v613 fun x614 =>
  gB x614 fun q615 =>
  vcase (bv q615)
  (pcallS (call Ev) Fn.impl_RowFault [.agg [.int .i64 a0_2, .int .i64 a0_3, .int .i64 a0_4, .str a0_5]] fun v617 =>
  gV1 v617 fun x618 =>
  gI .i64 x618 fun i619 =>
  some (iv .i64 i619))
  (some (iv .i64 0)))))
  (pcallS (call Ev) Fn.impl_in [iv .i64 a0_6, iv .i64 0, iv .i64 7] fun v620 =>
  gV1 v620 fun x621 =>
  gB x621 fun q622 =>
  vcase (bv (!q622))
  (some (iv .i64 3))
  (pcallS (call Ev) Fn.impl_onRow [iv .i64 a0_0] fun v625 =>
  gV1 v625 fun x626 =>
  gB x626 fun q627 =>
  vcase (bv q627)
  (pcallS (call Ev) Fn.impl_RowFault [.agg [.int .i64 a0_2, .int .i64 a0_3, .int .i64 a0_4, .str a0_5]] fun v629 =>
  gV1 v629 fun x630 =>
  gI .i64 x630 fun i631 =>
  some (iv .i64 i631))
  (some (iv .i64 0)))))

noncomputable def Jn.impl_OpFault_1 (q588 : Bool) (a0_0 : Int) (a0_4 : Int) (a0_5 : ByteArray) (q555 : Bool) (a0_1 : Int) (a0_6 : Int) (a0_2 : Int) (a0_3 : Int) : Option (V) :=
  vcase (bv q588)
  (some (iv .i64 1))
  (vcase (bv (a0_0 == 4))
  (vcase (bv (a0_4 != 0))
  (Jn.impl_OpFault_0 true q555 a0_1 a0_6 a0_0 a0_2 a0_3 a0_4 a0_5)
  (Jn.impl_OpFault_0 (!((a0_5 : ByteArray).toList == ((⟨#[]⟩) : ByteArray).toList)) q555 a0_1 a0_6 a0_0 a0_2 a0_3 a0_4 a0_5))
  (Jn.impl_OpFault_0 false q555 a0_1 a0_6 a0_0 a0_2 a0_3 a0_4 a0_5))

noncomputable def Jn.impl_OpFault_2 (q586 : Bool) (a0_0 : Int) (a0_4 : Int) (a0_5 : ByteArray) (q555 : Bool) (a0_1 : Int) (a0_6 : Int) (a0_2 : Int) (a0_3 : Int) : Option (V) :=
  Jn.impl_OpFault_1 q586 a0_0 a0_4 a0_5 q555 a0_1 a0_6 a0_2 a0_3

noncomputable def Jn.impl_OpFault_3 (q555 : Bool) (a0_0 : Int) (a0_1 : Int) (a0_2 : Int) (a0_3 : Int) (a0_4 : Int) (a0_5 : ByteArray) (a0_6 : Int) : Option (V) :=
  pcallS (call Ev) Fn.impl_in [iv .i64 a0_0, iv .i64 1, iv .i64 9] fun v556 =>
  gV1 v556 fun x557 =>
  gB x557 fun q558 =>
  vcase (bv (!q558))
  (some (iv .i64 1))
  (vcase (bv q555)
  (vcase (bv (a0_1 != 0))
  (some (iv .i64 1))
  (pcallS (call Ev) Fn.impl_onRow [iv .i64 a0_0] fun v571 =>
  gV1 v571 fun x572 =>
  gB x572 fun q573 =>
  vcase (bv (!q573))
  (vcase (bv (!(((a0_2 : Int) == 0) && (((a0_3 : Int) == 0) && (((a0_4 : Int) == 0) && (((a0_5 : ByteArray).toList == ((⟨#[]⟩) : ByteArray).toList) && true))))))
  (Jn.impl_OpFault_1 true a0_0 a0_4 a0_5 q555 a0_1 a0_6 a0_2 a0_3)
  (vcase (bv (a0_0 != 6))
  (Jn.impl_OpFault_2 (a0_6 != 0) a0_0 a0_4 a0_5 q555 a0_1 a0_6 a0_2 a0_3)
  (Jn.impl_OpFault_2 false a0_0 a0_4 a0_5 q555 a0_1 a0_6 a0_2 a0_3)))
  (vcase (bv (a0_0 != 6))
  (Jn.impl_OpFault_1 (a0_6 != 0) a0_0 a0_4 a0_5 q555 a0_1 a0_6 a0_2 a0_3)
  (Jn.impl_OpFault_1 false a0_0 a0_4 a0_5 q555 a0_1 a0_6 a0_2 a0_3))))
  (pcallS (call Ev) Fn.impl_onRow [iv .i64 a0_0] fun v680 =>
  gV1 v680 fun x681 =>
  gB x681 fun q682 =>
  vcase (bv (!q682))
  (vcase (bv (!(((a0_2 : Int) == 0) && (((a0_3 : Int) == 0) && (((a0_4 : Int) == 0) && (((a0_5 : ByteArray).toList == ((⟨#[]⟩) : ByteArray).toList) && true))))))
  (Jn.impl_OpFault_1 true a0_0 a0_4 a0_5 q555 a0_1 a0_6 a0_2 a0_3)
  (vcase (bv (a0_0 != 6))
  (Jn.impl_OpFault_2 (a0_6 != 0) a0_0 a0_4 a0_5 q555 a0_1 a0_6 a0_2 a0_3)
  (Jn.impl_OpFault_2 false a0_0 a0_4 a0_5 q555 a0_1 a0_6 a0_2 a0_3)))
  (vcase (bv (a0_0 != 6))
  (Jn.impl_OpFault_1 (a0_6 != 0) a0_0 a0_4 a0_5 q555 a0_1 a0_6 a0_2 a0_3)
  (Jn.impl_OpFault_1 false a0_0 a0_4 a0_5 q555 a0_1 a0_6 a0_2 a0_3))))

theorem pu_impl_OpFault (a0_0 : Int) (a0_1 : Int) (a0_2 : Int) (a0_3 : Int) (a0_4 : Int) (a0_5 : ByteArray) (a0_6 : Int) : pureV (call Ev) Fn.impl_OpFault [.agg [.int .i64 a0_0, .int .i64 a0_1, .int .i64 a0_2, .int .i64 a0_3, .int .i64 a0_4, .str a0_5, .int .i64 a0_6]] =
  vcase (bv (a0_0 == 1))
  (Jn.impl_OpFault_3 true a0_0 a0_1 a0_2 a0_3 a0_4 a0_5 a0_6)
  (Jn.impl_OpFault_3 (a0_0 == 9) a0_0 a0_1 a0_2 a0_3 a0_4 a0_5 a0_6) := by
  rw [pure_eq]; kernel_rfl

end Vm
