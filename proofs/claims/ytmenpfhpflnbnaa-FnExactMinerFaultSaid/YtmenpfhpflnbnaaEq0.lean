/-
  What each function, and each round of each loop, comes to in the small machine. Written by a program (gen3.py).
-/
import Derived.Test.YtmenpfhpflnbnaaEnv
set_option linter.unusedVariables false
set_option maxRecDepth 100000
namespace Vm
open Go

theorem pu_laws_szByteS (a0 : List (List S)) (a1 : Int) : pureV (call Ev) Fn.laws_szByteS [lv a0, iv .i64 a1] =
  vcase (bv (decide ((IntKind.i64.wrap (a1 - (a0.length : Int))) < 0)))
  (some (iv .i64 (-1)))
  (some (iv .i64 (IntKind.i64.wrap (a1 - (a0.length : Int))))) := by
  rw [pure_eq]; kernel_rfl

theorem pu_laws_szByteSS (a0 : List (List S)) (a1 : Int) : pureV (call Ev) Fn.laws_szByteSS [lv a0, iv .i64 a1] =
  vcase (bv (decide ((IntKind.i64.wrap (a1 - (a0.length : Int))) < 0)))
  (some (iv .i64 (-1)))
  ((Lp.laws_szByteSS 0 [lv a0, iv .i64 (IntKind.i64.wrap (a1 - (a0.length : Int))), iv .i64 0] (D 0)).bind fun o102 => lcase o102 (fun l103 h104 =>
  (l103[0]?).bind fun w107 =>
  gV1 w107 fun x108 =>
  gI .i64 x108 fun i109 =>
  some (iv .i64 i109)) (fun v105 h106 =>
  frzV h106 v105)) := by
  rw [pure_eq]; kernel_rfl

theorem eq_laws_szByteSS_l0 (s0 : List (List S)) (s1 : Int) (s5 : Int) (h : H) : Lp.laws_szByteSS 0 [lv s0, iv .i64 s1, iv .i64 s5] h =
  vcase (bv (decide (s5 < (s0.length : Int))))
  (idxF 1 s0 s5 fun r203 =>
  (r203[0]?).bind fun x204 =>
  gF x204 fun z205 =>
  pcallS (call Ev) Fn.laws_szByteS [lv z205, iv .i64 s1] fun v206 =>
  gV1 v206 fun x207 =>
  gI .i64 x207 fun i208 =>
  vcase (bv (decide (i208 < 0)))
  (some (.ret (iv .i64 (-1)) h))
  (Lp.laws_szByteSS 0 [lv s0, iv .i64 i208, iv .i64 (IntKind.i64.wrap (s5 + 1))] (tidy h [lv s0, iv .i64 i208, iv .i64 (IntKind.i64.wrap (s5 + 1))] h)))
  (some (.done [iv .i64 s1] (tidy h [iv .i64 s1] h))) := by
  unfold Lp.laws_szByteSS; rw [loop_eq]; kernel_rfl

theorem pu_spec_l2Count (a0 : List (List S)) : pureV (call Ev) Fn.spec_l2Count [lv a0] =
  idxF 1 a0 0 fun r101 =>
  (r101[0]?).bind fun x102 =>
  gI .u8 x102 fun i103 =>
  some (iv .i64 (IntKind.i64.wrap i103)) := by
  rw [pure_eq]; kernel_rfl

theorem pu_spec_l2Size (a0 : List (List S)) (a1 : Int) : pureV (call Ev) Fn.spec_l2Size [lv a0, iv .i64 a1] =
  idxF 1 a0 (IntKind.i64.wrap (3 + (IntKind.i64.wrap (2 * a1)))) fun r101 =>
  (r101[0]?).bind fun x102 =>
  gI .u8 x102 fun i103 =>
  some (iv .i64 (IntKind.i64.wrap i103)) := by
  rw [pure_eq]; kernel_rfl

theorem pu_spec_l2Low (a0 : List (List S)) : pureV (call Ev) Fn.spec_l2Low [lv a0] =
  idxF 1 a0 1 fun r101 =>
  (r101[0]?).bind fun x102 =>
  gI .u8 x102 fun i103 =>
  some (iv .i64 (IntKind.i64.wrap i103)) := by
  rw [pure_eq]; kernel_rfl

theorem pu_spec_l2Place (a0 : List (List S)) (a1 : Int) : pureV (call Ev) Fn.spec_l2Place [lv a0, iv .i64 a1] =
  idxF 1 a0 (IntKind.i64.wrap (2 + (IntKind.i64.wrap (2 * a1)))) fun r101 =>
  (r101[0]?).bind fun x102 =>
  gI .u8 x102 fun i103 =>
  some (iv .i64 (IntKind.i64.wrap i103)) := by
  rw [pure_eq]; kernel_rfl

theorem pu_spec_l2Slot (a0 : List (List S)) (a1 : Int) : pureV (call Ev) Fn.spec_l2Slot [lv a0, iv .i64 a1] =
  pcallS (call Ev) Fn.spec_l2Place [lv a0, iv .i64 a1] fun v101 =>
  gV1 v101 fun x102 =>
  gI .i64 x102 fun i103 =>
  pcallS (call Ev) Fn.spec_l2Size [lv a0, iv .i64 a1] fun v104 =>
  gV1 v104 fun x105 =>
  gI .i64 x105 fun i106 =>
  vcase (bv (i103 == 0))
  (some (bv (i103 == i106)))
  (vcase (bv (i106 == 0))
  (some (bv (i103 == i106)))
  (pcallS (call Ev) Fn.spec_l2Low [lv a0] fun v112 =>
  gV1 v112 fun x113 =>
  gI .i64 x113 fun i114 =>
  vcase (bv (decide (i103 ≥ i114)))
  (some (bv (decide ((IntKind.i64.wrap (i103 + i106)) ≤ 64))))
  (some (bv false)))) := by
  rw [pure_eq]; kernel_rfl

noncomputable def Jn.spec_l2Apart_0 (q133 : Bool) (a0 : List (List S)) (a1 : Int) (a2 : Int) : Option (V) :=
  vcase (bv q133)
  (some (bv true))
  (pcallS (call Ev) Fn.spec_l2Place [lv a0, iv .i64 a1] fun v135 =>
  gV1 v135 fun x136 =>
  gI .i64 x136 fun i137 =>
  pcallS (call Ev) Fn.spec_l2Size [lv a0, iv .i64 a1] fun v138 =>
  gV1 v138 fun x139 =>
  gI .i64 x139 fun i140 =>
  pcallS (call Ev) Fn.spec_l2Place [lv a0, iv .i64 a2] fun v141 =>
  gV1 v141 fun x142 =>
  gI .i64 x142 fun i143 =>
  vcase (bv (decide ((IntKind.i64.wrap (i137 + i140)) ≤ i143)))
  (some (bv true))
  (pcallS (call Ev) Fn.spec_l2Place [lv a0, iv .i64 a2] fun v146 =>
  gV1 v146 fun x147 =>
  gI .i64 x147 fun i148 =>
  pcallS (call Ev) Fn.spec_l2Size [lv a0, iv .i64 a2] fun v149 =>
  gV1 v149 fun x150 =>
  gI .i64 x150 fun i151 =>
  pcallS (call Ev) Fn.spec_l2Place [lv a0, iv .i64 a1] fun v152 =>
  gV1 v152 fun x153 =>
  gI .i64 x153 fun i154 =>
  some (bv (decide ((IntKind.i64.wrap (i148 + i151)) ≤ i154)))))

theorem pu_spec_l2Apart (a0 : List (List S)) (a1 : Int) (a2 : Int) : pureV (call Ev) Fn.spec_l2Apart [lv a0, iv .i64 a1, iv .i64 a2] =
  pcallS (call Ev) Fn.spec_l2Size [lv a0, iv .i64 a1] fun v101 =>
  gV1 v101 fun x102 =>
  gI .i64 x102 fun i103 =>
  vcase (bv (i103 == 0))
  (Jn.spec_l2Apart_0 true a0 a1 a2)
  (pcallS (call Ev) Fn.spec_l2Size [lv a0, iv .i64 a2] fun v106 =>
  gV1 v106 fun x107 =>
  gI .i64 x107 fun i108 =>
  Jn.spec_l2Apart_0 (i108 == 0) a0 a1 a2) := by
  rw [pure_eq]; kernel_rfl

noncomputable def Jn.spec_l2Fault_0 (q151 : Bool) (a0 : List (List S)) (i104 : Int) : Option (V) :=
  vcase (bv q151)
  (some (iv .i64 3))
  ((Lp.spec_l2Fault 0 [lv a0, iv .i64 i104, iv .i64 0] (D 0)).bind fun o153 => lcase o153 (fun l154 h155 =>
  (l154[0]?).bind fun w158 =>
  gV1 w158 fun x159 =>
  gF x159 fun z160 =>
  (l154[1]?).bind fun w161 =>
  gV1 w161 fun x162 =>
  gI .i64 x162 fun i163 =>
  (Lp.spec_l2Fault 2 [lv z160, iv .i64 i163, iv .i64 0] h155).bind fun o164 => lcase o164 (fun l165 h166 =>
  (l165[0]?).bind fun w169 =>
  gV1 w169 fun x170 =>
  gF x170 fun z171 =>
  (l165[1]?).bind fun w172 =>
  gV1 w172 fun x173 =>
  gI .i64 x173 fun i174 =>
  vcase (bv (decide (i174 > 0)))
  (pcallS (call Ev) Fn.spec_l2Size [lv z171, iv .i64 (IntKind.i64.wrap (i174 - 1))] fun v176 =>
  gV1 v176 fun x177 =>
  gI .i64 x177 fun i178 =>
  vcase (bv (i178 == 0))
  (some (iv .i64 8))
  (some (iv .i64 0)))
  (some (iv .i64 0))) (fun v167 h168 =>
  frzV h168 v167)) (fun v156 h157 =>
  frzV h157 v156))

theorem pu_spec_l2Fault (a0 : List (List S)) : pureV (call Ev) Fn.spec_l2Fault [lv a0] =
  vcase (bv ((a0.length : Int) != 64))
  (some (iv .i64 1))
  (pcallS (call Ev) Fn.spec_l2Count [lv a0] fun v102 =>
  gV1 v102 fun x103 =>
  gI .i64 x103 fun i104 =>
  vcase (bv (decide (i104 > 16)))
  (some (iv .i64 3))
  (pcallS (call Ev) Fn.spec_l2Low [lv a0] fun v107 =>
  gV1 v107 fun x108 =>
  gI .i64 x108 fun i109 =>
  vcase (bv (decide (i109 < (IntKind.i64.wrap (2 + (IntKind.i64.wrap (2 * i104)))))))
  (Jn.spec_l2Fault_0 true a0 i104)
  (pcallS (call Ev) Fn.spec_l2Low [lv a0] fun v115 =>
  gV1 v115 fun x116 =>
  gI .i64 x116 fun i117 =>
  Jn.spec_l2Fault_0 (decide (i117 > 64)) a0 i104))) := by
  rw [pure_eq]; kernel_rfl

theorem eq_spec_l2Fault_l0 (s0 : List (List S)) (s3 : Int) (s4 : Int) (h : H) : Lp.spec_l2Fault 0 [lv s0, iv .i64 s3, iv .i64 s4] h =
  vcase (bv (decide (s4 < s3)))
  (pcallS (call Ev) Fn.spec_l2Slot [lv s0, iv .i64 s4] fun v203 =>
  gV1 v203 fun x204 =>
  gB x204 fun q205 =>
  vcase (bv (!q205))
  (some (.ret (iv .i64 3) h))
  (Lp.spec_l2Fault 0 [lv s0, iv .i64 s3, iv .i64 (IntKind.i64.wrap (s4 + 1))] (tidy h [lv s0, iv .i64 s3, iv .i64 (IntKind.i64.wrap (s4 + 1))] h)))
  (some (.done [lv s0, iv .i64 s3] (tidy h [lv s0, iv .i64 s3] h))) := by
  unfold Lp.spec_l2Fault; rw [loop_eq]; kernel_rfl

theorem eq_spec_l2Fault_l2 (s0 : List (List S)) (s3 : Int) (s5 : Int) (h : H) : Lp.spec_l2Fault 2 [lv s0, iv .i64 s3, iv .i64 s5] h =
  vcase (bv (decide (s5 < s3)))
  ((Lp.spec_l2Fault 4 [lv s0, iv .i64 s3, iv .i64 s5, iv .i64 0] h).bind fun o403 => lcase o403 (fun l404 h405 =>
  (l404[0]?).bind fun w408 =>
  gV1 w408 fun x409 =>
  gF x409 fun z410 =>
  (l404[1]?).bind fun w411 =>
  gV1 w411 fun x412 =>
  gI .i64 x412 fun i413 =>
  (l404[2]?).bind fun w414 =>
  gV1 w414 fun x415 =>
  gI .i64 x415 fun i416 =>
  Lp.spec_l2Fault 2 [lv z410, iv .i64 i413, iv .i64 (IntKind.i64.wrap (i416 + 1))] (tidy h [lv z410, iv .i64 i413, iv .i64 (IntKind.i64.wrap (i416 + 1))] h405)) (fun v406 h407 =>
  some (.ret v406 h407)))
  (some (.done [lv s0, iv .i64 s3] (tidy h [lv s0, iv .i64 s3] h))) := by
  unfold Lp.spec_l2Fault; rw [loop_eq]; kernel_rfl

theorem eq_spec_l2Fault_l4 (s0 : List (List S)) (s3 : Int) (s5 : Int) (s6 : Int) (h : H) : Lp.spec_l2Fault 4 [lv s0, iv .i64 s3, iv .i64 s5, iv .i64 s6] h =
  vcase (bv (decide (s6 < s5)))
  (pcallS (call Ev) Fn.spec_l2Apart [lv s0, iv .i64 s5, iv .i64 s6] fun v603 =>
  gV1 v603 fun x604 =>
  gB x604 fun q605 =>
  vcase (bv (!q605))
  (some (.ret (iv .i64 8) h))
  (Lp.spec_l2Fault 4 [lv s0, iv .i64 s3, iv .i64 s5, iv .i64 (IntKind.i64.wrap (s6 + 1))] (tidy h [lv s0, iv .i64 s3, iv .i64 s5, iv .i64 (IntKind.i64.wrap (s6 + 1))] h)))
  (some (.done [lv s0, iv .i64 s3, iv .i64 s5] (tidy h [lv s0, iv .i64 s3, iv .i64 s5] h))) := by
  unfold Lp.spec_l2Fault; rw [loop_eq]; kernel_rfl

theorem pu_spec_l1In (a0 : Int) (a1 : Int) (a2 : Int) : pureV (call Ev) Fn.spec_l1In [iv .i64 a0, iv .i64 a1, iv .i64 a2] =
  vcase (bv (decide (a0 ≥ a1)))
  (some (bv (decide (a0 ≤ a2))))
  (some (bv false)) := by
  rw [pure_eq]; kernel_rfl

theorem pu_spec_l1Place (a0 : Int) (a1 : Int) : pureV (call Ev) Fn.spec_l1Place [iv .i64 a0, iv .i64 a1] =
  pcallS (call Ev) Fn.spec_l1In [iv .i64 a0, iv .i64 0, iv .i64 11] fun v101 =>
  gV1 v101 fun x102 =>
  gB x102 fun q103 =>
  vcase (bv q103)
  (pcallS (call Ev) Fn.spec_l1In [iv .i64 a1, iv .i64 0, iv .i64 15] fun v105 =>
  gV1 v105 fun x106 =>
  gB x106 fun q107 =>
  some (bv q107))
  (some (bv false)) := by
  rw [pure_eq]; kernel_rfl

theorem pu_spec_l1Text (a0 : ByteArray) : pureV (call Ev) Fn.spec_l1Text [.s (.str a0)] =
  (Lp.spec_l1Text 0 [.s (.str a0), iv .i64 0] (D 0)).bind fun o101 => lcase o101 (fun l102 h103 =>
  (l102[0]?).bind fun w106 =>
  gV1 w106 fun x107 =>
  gS x107 fun y108 =>
  some (bv (decide (((y108 : ByteArray).size : Int) ≤ 8)))) (fun v104 h105 =>
  frzV h105 v104) := by
  rw [pure_eq]; kernel_rfl

theorem eq_spec_l1Text_l0 (s0 : ByteArray) (s3 : Int) (h : H) : Lp.spec_l1Text 0 [.s (.str s0), iv .i64 s3] h =
  vcase (bv (decide (s3 < ((s0 : ByteArray).size : Int))))
  ((idxStr (.s (.str s0)) (iv .i64 s3)).bind fun v203 =>
  gV1 v203 fun x204 =>
  gI .u8 x204 fun i205 =>
  vcase (bv (decide (i205 < 97)))
  (some (.ret (bv false) h))
  ((idxStr (.s (.str s0)) (iv .i64 s3)).bind fun v208 =>
  gV1 v208 fun x209 =>
  gI .u8 x209 fun i210 =>
  vcase (bv (decide (i210 > 122)))
  (some (.ret (bv false) h))
  (Lp.spec_l1Text 0 [.s (.str s0), iv .i64 (IntKind.i64.wrap (s3 + 1))] (tidy h [.s (.str s0), iv .i64 (IntKind.i64.wrap (s3 + 1))] h))))
  (some (.done [.s (.str s0)] (tidy h [.s (.str s0)] h))) := by
  unfold Lp.spec_l1Text; rw [loop_eq]; kernel_rfl

theorem pu_spec_l1Fault (a0_0 : Int) (a0_1 : Int) (a0_2 : Int) (a0_3 : ByteArray) : pureV (call Ev) Fn.spec_l1Fault [fv [.int .i64 a0_0, .int .i64 a0_1, .int .i64 a0_2, .str a0_3] 0] =
  pcallS (call Ev) Fn.spec_l1In [iv .i64 a0_0, iv .i64 0, iv .i64 3] fun v101 =>
  gV1 v101 fun x102 =>
  gB x102 fun q103 =>
  vcase (bv (!q103))
  (some (iv .i64 3))
  (pcallS (call Ev) Fn.spec_l1In [iv .i64 a0_1, iv .i64 1, iv .i64 99] fun v106 =>
  gV1 v106 fun x107 =>
  gB x107 fun q108 =>
  vcase (bv (!q108))
  (some (iv .i64 3))
  (pcallS (call Ev) Fn.spec_l1In [iv .i64 a0_2, iv .i64 0, iv .i64 999] fun v114 =>
  gV1 v114 fun x115 =>
  gB x115 fun q116 =>
  vcase (bv (!q116))
  (some (iv .i64 3))
  (pcallS (call Ev) Fn.spec_l1Text [.s (.str a0_3)] fun v120 =>
  gV1 v120 fun x121 =>
  gB x121 fun q122 =>
  vcase (bv (!q122))
  (some (iv .i64 5))
  (some (iv .i64 0))))) := by
  rw [pure_eq]; kernel_rfl

noncomputable def Jn.spec_l1Read_0 (q222 : Bool) (a0 : List (List S)) : Option (V) :=
  vcase (bv q222)
  (some (.tup [.agg [.int .i64 0, .int .i64 0, .int .i64 0, .int .i64 0, .int .i64 0, .int .i64 0, .int .i64 0, .str (⟨#[]⟩)], .s (.bool false)]))
  (idxF 1 a0 1 fun r224 =>
  (r224[0]?).bind fun x225 =>
  gI .u8 x225 fun i226 =>
  idxF 1 a0 2 fun r227 =>
  (r227[0]?).bind fun x228 =>
  gI .u8 x228 fun i229 =>
  idxF 1 a0 3 fun r230 =>
  (r230[0]?).bind fun x231 =>
  gI .u8 x231 fun i232 =>
  idxF 1 a0 4 fun r233 =>
  (r233[0]?).bind fun x234 =>
  gI .u8 x234 fun i235 =>
  slF 1 a0 (some (iv .i64 6)) none fun z236 =>
  (fsStr z236).bind fun v237 =>
  gV1 v237 fun x238 =>
  gS x238 fun y239 =>
  hchk ((D 0).new 0 [.int .i64 0, .int .i64 0, .int .i64 0, .int .i64 0, .int .i64 0, .int .i64 0, .int .i64 0, .str (⟨#[]⟩)]) (((D 0).new 0 [.int .i64 0, .int .i64 0, .int .i64 0, .int .i64 0, .int .i64 0, .int .i64 0, .int .i64 0, .str (⟨#[]⟩)]).new 0 [.int .i64 0, .int .i64 0, .int .i64 0, .str (⟨#[]⟩)]) (
  idxF 1 a0 0 fun r240 =>
  (r240[0]?).bind fun x241 =>
  gI .u8 x241 fun i242 =>
  pcallS (call Ev) Fn.spec_l1Fault [fv [.int .i64 (IntKind.i64.wrap i226), .int .i64 (IntKind.i64.wrap i229), .int .i64 (IntKind.i64.wrap ((IntKind.i64.wrap ((IntKind.i64.wrap i232) * 256)) + (IntKind.i64.wrap i235))), .str y239] 0] fun v243 =>
  gV1 v243 fun x244 =>
  gI .i64 x244 fun i245 =>
  hchk ((((D 0).new 0 [.int .i64 0, .int .i64 0, .int .i64 0, .int .i64 0, .int .i64 0, .int .i64 0, .int .i64 0, .str (⟨#[]⟩)]).new 0 [.int .i64 0, .int .i64 0, .int .i64 0, .str (⟨#[]⟩)]).put 1 (.rw 0 [.int .i64 (IntKind.i64.wrap i226), .int .i64 (IntKind.i64.wrap i229), .int .i64 (IntKind.i64.wrap ((IntKind.i64.wrap ((IntKind.i64.wrap i232) * 256)) + (IntKind.i64.wrap i235))), .str y239])) ((((D 0).new 0 [.int .i64 0, .int .i64 0, .int .i64 0, .int .i64 0, .int .i64 0, .int .i64 0, .int .i64 0, .str (⟨#[]⟩)]).new 0 [.int .i64 0, .int .i64 0, .int .i64 0, .str (⟨#[]⟩)]).put 1 (.rw 0 [.int .i64 (IntKind.i64.wrap i226), .int .i64 (IntKind.i64.wrap i229), .int .i64 (IntKind.i64.wrap ((IntKind.i64.wrap ((IntKind.i64.wrap i232) * 256)) + (IntKind.i64.wrap i235))), .str y239])) (
  some (.tup [.agg [.int .i64 0, .int .i64 (IntKind.i64.wrap i242), .int .i64 0, .int .i64 0, .int .i64 (IntKind.i64.wrap i226), .int .i64 (IntKind.i64.wrap i229), .int .i64 (IntKind.i64.wrap ((IntKind.i64.wrap ((IntKind.i64.wrap i232) * 256)) + (IntKind.i64.wrap i235))), .str y239], .s (.bool (i245 == 0))]))))

noncomputable def Jn.spec_l1Read_1 (q188 : Bool) (a0 : List (List S)) : Option (V) :=
  vcase (bv q188)
  (idxF 1 a0 1 fun r190 =>
  (r190[0]?).bind fun x191 =>
  gI .u8 x191 fun i192 =>
  idxF 1 a0 2 fun r193 =>
  (r193[0]?).bind fun x194 =>
  gI .u8 x194 fun i195 =>
  hchk ((D 0).new 0 [.int .i64 0, .int .i64 0, .int .i64 0, .int .i64 0, .int .i64 0, .int .i64 0, .int .i64 0, .str (⟨#[]⟩)]) (((D 0).new 0 [.int .i64 0, .int .i64 0, .int .i64 0, .int .i64 0, .int .i64 0, .int .i64 0, .int .i64 0, .str (⟨#[]⟩)]).new 0 [.int .i64 0, .int .i64 0, .int .i64 0, .int .i64 0, .int .i64 0, .int .i64 0, .int .i64 0, .str (⟨#[]⟩)]) (
  pcallS (call Ev) Fn.spec_l1Place [iv .i64 (IntKind.i64.wrap i192), iv .i64 (IntKind.i64.wrap i195)] fun v196 =>
  gV1 v196 fun x197 =>
  gB x197 fun q198 =>
  hchk ((((D 0).new 0 [.int .i64 0, .int .i64 0, .int .i64 0, .int .i64 0, .int .i64 0, .int .i64 0, .int .i64 0, .str (⟨#[]⟩)]).new 0 [.int .i64 0, .int .i64 0, .int .i64 0, .int .i64 0, .int .i64 0, .int .i64 0, .int .i64 0, .str (⟨#[]⟩)]).put 1 (.rw 0 [.int .i64 0, .int .i64 1, .int .i64 (IntKind.i64.wrap i192), .int .i64 (IntKind.i64.wrap i195), .int .i64 0, .int .i64 0, .int .i64 0, .str (⟨#[]⟩)])) ((((D 0).new 0 [.int .i64 0, .int .i64 0, .int .i64 0, .int .i64 0, .int .i64 0, .int .i64 0, .int .i64 0, .str (⟨#[]⟩)]).new 0 [.int .i64 0, .int .i64 0, .int .i64 0, .int .i64 0, .int .i64 0, .int .i64 0, .int .i64 0, .str (⟨#[]⟩)]).put 1 (.rw 0 [.int .i64 0, .int .i64 1, .int .i64 (IntKind.i64.wrap i192), .int .i64 (IntKind.i64.wrap i195), .int .i64 0, .int .i64 0, .int .i64 0, .str (⟨#[]⟩)])) (
  some (.tup [.agg [.int .i64 0, .int .i64 1, .int .i64 (IntKind.i64.wrap i192), .int .i64 (IntKind.i64.wrap i195), .int .i64 0, .int .i64 0, .int .i64 0, .str (⟨#[]⟩)], .s (.bool q198)]))))
  (vcase (bv (decide ((a0.length : Int) < 6)))
  (some (.tup [.agg [.int .i64 0, .int .i64 0, .int .i64 0, .int .i64 0, .int .i64 0, .int .i64 0, .int .i64 0, .str (⟨#[]⟩)], .s (.bool false)]))
  (idxF 1 a0 0 fun r201 =>
  (r201[0]?).bind fun x202 =>
  gI .u8 x202 fun i203 =>
  vcase (bv (i203 == 1))
  (some (.tup [.agg [.int .i64 0, .int .i64 0, .int .i64 0, .int .i64 0, .int .i64 0, .int .i64 0, .int .i64 0, .str (⟨#[]⟩)], .s (.bool false)]))
  (idxF 1 a0 0 fun r210 =>
  (r210[0]?).bind fun x211 =>
  gI .u8 x211 fun i212 =>
  vcase (bv (decide (i212 > 2)))
  (Jn.spec_l1Read_0 true a0)
  (idxF 1 a0 5 fun r218 =>
  (r218[0]?).bind fun x219 =>
  gI .u8 x219 fun i220 =>
  Jn.spec_l1Read_0 ((a0.length : Int) != (IntKind.i64.wrap (6 + (IntKind.i64.wrap i220)))) a0))))

theorem pu_spec_l1Read (a0 : List (List S)) : pureV (call Ev) Fn.spec_l1Read [lv a0] =
  vcase (bv ((a0.length : Int) == 3))
  (idxF 1 a0 0 fun r102 =>
  (r102[0]?).bind fun x103 =>
  gI .u8 x103 fun i104 =>
  Jn.spec_l1Read_1 (i104 == 1) a0)
  (Jn.spec_l1Read_1 false a0) := by
  rw [pure_eq]; kernel_rfl

theorem pu_spec_l2Cell (a0 : List (List S)) (a1 : Int) : pureV (call Ev) Fn.spec_l2Cell [lv a0, iv .i64 a1] =
  pcallS (call Ev) Fn.spec_l2Place [lv a0, iv .i64 a1] fun v101 =>
  gV1 v101 fun x102 =>
  gI .i64 x102 fun i103 =>
  pcallS (call Ev) Fn.spec_l2Size [lv a0, iv .i64 a1] fun v104 =>
  gV1 v104 fun x105 =>
  gI .i64 x105 fun i106 =>
  slF 1 a0 (some (iv .i64 i103)) (some (iv .i64 (IntKind.i64.wrap (i103 + i106)))) fun z107 =>
  (appS 1 ((D 0).new 1 []) (sv 0 0 0) (lv z107)).bind fun p108 =>
  frzV p108.2 p108.1 := by
  rw [pure_eq]; kernel_rfl

theorem pu_spec_l6Cells (a0 : List (List S)) : pureV (call Ev) Fn.spec_l6Cells [lv a0] =
  (Lp.spec_l6Cells 0 [lv a0, iv .i64 0] (D 0)).bind fun o101 => lcase o101 (fun l102 h103 =>
  some (iv .i64 0)) (fun v104 h105 =>
  frzV h105 v104) := by
  rw [pure_eq]; kernel_rfl

theorem eq_spec_l6Cells_l0 (s0 : List (List S)) (s3 : Int) (h : H) : Lp.spec_l6Cells 0 [lv s0, iv .i64 s3] h =
  vcase (bv (decide (s3 < (s0.length : Int))))
  (idxF 1 s0 s3 fun r203 =>
  (r203[0]?).bind fun x204 =>
  gF x204 fun z205 =>
  pcallS (call Ev) Fn.spec_l2Fault [lv z205] fun v206 =>
  gV1 v206 fun x207 =>
  gI .i64 x207 fun i208 =>
  vcase (bv (i208 != 0))
  (some (.ret (iv .i64 i208) h))
  ((Lp.spec_l6Cells 2 [lv s0, iv .i64 s3, iv .i64 0] h).bind fun o210 => lcase o210 (fun l211 h212 =>
  (l211[0]?).bind fun w215 =>
  gV1 w215 fun x216 =>
  gF x216 fun z217 =>
  (l211[1]?).bind fun w218 =>
  gV1 w218 fun x219 =>
  gI .i64 x219 fun i220 =>
  Lp.spec_l6Cells 0 [lv z217, iv .i64 (IntKind.i64.wrap (i220 + 1))] (tidy h [lv z217, iv .i64 (IntKind.i64.wrap (i220 + 1))] h212)) (fun v213 h214 =>
  some (.ret v213 h214))))
  (some (.done [] (tidy h [] h))) := by
  unfold Lp.spec_l6Cells; rw [loop_eq]; kernel_rfl

theorem eq_spec_l6Cells_l2 (s0 : List (List S)) (s3 : Int) (s5 : Int) (h : H) : Lp.spec_l6Cells 2 [lv s0, iv .i64 s3, iv .i64 s5] h =
  idxF 1 s0 s3 fun r401 =>
  (r401[0]?).bind fun x402 =>
  gF x402 fun z403 =>
  pcallS (call Ev) Fn.spec_l2Count [lv z403] fun v404 =>
  gV1 v404 fun x405 =>
  gI .i64 x405 fun i406 =>
  vcase (bv (decide (s5 < i406)))
  (idxF 1 s0 s3 fun r409 =>
  (r409[0]?).bind fun x410 =>
  gF x410 fun z411 =>
  pcallS (call Ev) Fn.spec_l2Size [lv z411, iv .i64 s5] fun v412 =>
  gV1 v412 fun x413 =>
  gI .i64 x413 fun i414 =>
  vcase (bv (decide (i414 > 0)))
  (idxF 1 s0 s3 fun r416 =>
  (r416[0]?).bind fun x417 =>
  gF x417 fun z418 =>
  (pureV (call Ev) Fn.spec_l2Cell [lv z418, iv .i64 s5]).bind fun v419 =>
  gV1 v419 fun x420 =>
  gF x420 fun z421 =>
  pcallS (call Ev) Fn.spec_l1Read [lv z421] fun v422 =>
  gVT v422 fun u423 =>
  (u423[0]?).bind fun t424 =>
  gAA t424 fun c425 =>
  (c425[0]?).bind fun x426 =>
  gI .i64 x426 fun i427 =>
  (c425[1]?).bind fun x428 =>
  gI .i64 x428 fun i429 =>
  (c425[2]?).bind fun x430 =>
  gI .i64 x430 fun i431 =>
  (c425[3]?).bind fun x432 =>
  gI .i64 x432 fun i433 =>
  (c425[4]?).bind fun x434 =>
  gI .i64 x434 fun i435 =>
  (c425[5]?).bind fun x436 =>
  gI .i64 x436 fun i437 =>
  (c425[6]?).bind fun x438 =>
  gI .i64 x438 fun i439 =>
  (c425[7]?).bind fun x440 =>
  gS x440 fun y441 =>
  if c425.length = 8 then
  (u423[1]?).bind fun t442 =>
  gA1 t442 fun x443 =>
  gB x443 fun q444 =>
  if u423.length = 2 then
  stK 8 (h.new 0 [.int .i64 0, .int .i64 0, .int .i64 0, .int .i64 0, .int .i64 0, .int .i64 0, .int .i64 0, .str (⟨#[]⟩)]) (pv h.n 0) (.agg [.int .i64 i427, .int .i64 i429, .int .i64 i431, .int .i64 i433, .int .i64 i435, .int .i64 i437, .int .i64 i439, .str y441]) fun h445 =>
  vcase (bv (!q444))
  (some (.ret (iv .i64 5) h445))
  (Lp.spec_l6Cells 2 [lv s0, iv .i64 s3, iv .i64 (IntKind.i64.wrap (s5 + 1))] (tidy h [lv s0, iv .i64 s3, iv .i64 (IntKind.i64.wrap (s5 + 1))] h445))
  else none
  else none)
  (Lp.spec_l6Cells 2 [lv s0, iv .i64 s3, iv .i64 (IntKind.i64.wrap (s5 + 1))] (tidy h [lv s0, iv .i64 s3, iv .i64 (IntKind.i64.wrap (s5 + 1))] h)))
  (some (.done [lv s0, iv .i64 s3] (tidy h [lv s0, iv .i64 s3] h))) := by
  unfold Lp.spec_l6Cells; rw [loop_eq]; kernel_rfl

theorem pu_spec_l2Has (a0 : List (List S)) (a1 : Int) : pureV (call Ev) Fn.spec_l2Has [lv a0, iv .i64 a1] =
  pcallS (call Ev) Fn.spec_l2Count [lv a0] fun v101 =>
  gV1 v101 fun x102 =>
  gI .i64 x102 fun i103 =>
  pcallS (call Ev) Fn.spec_l1In [iv .i64 a1, iv .i64 0, iv .i64 (IntKind.i64.wrap (i103 - 1))] fun v104 =>
  gV1 v104 fun x105 =>
  gB x105 fun q106 =>
  vcase (bv q106)
  (pcallS (call Ev) Fn.spec_l2Size [lv a0, iv .i64 a1] fun v108 =>
  gV1 v108 fun x109 =>
  gI .i64 x109 fun i110 =>
  some (bv (decide (i110 > 0))))
  (some (bv false)) := by
  rw [pure_eq]; kernel_rfl

noncomputable def Jn.spec_l6Cell_0 (q144 : Bool) (a0 : List (List S)) (a1 : Int) (a2 : Int) : Option (V) :=
  vcase (bv q144)
  (some (.tup [.agg [.int .i64 0, .int .i64 0, .int .i64 0, .int .i64 0, .int .i64 0, .int .i64 0, .int .i64 0, .str (⟨#[]⟩)], .s (.bool false)]))
  (idxF 1 a0 a1 fun r146 =>
  (r146[0]?).bind fun x147 =>
  gF x147 fun z148 =>
  (pureV (call Ev) Fn.spec_l2Cell [lv z148, iv .i64 a2]).bind fun v149 =>
  gV1 v149 fun x150 =>
  gF x150 fun z151 =>
  pcallS (call Ev) Fn.spec_l1Read [lv z151] fun v152 =>
  gVT v152 fun u153 =>
  (u153[0]?).bind fun t154 =>
  gAA t154 fun c155 =>
  (c155[0]?).bind fun x156 =>
  gI .i64 x156 fun i157 =>
  (c155[1]?).bind fun x158 =>
  gI .i64 x158 fun i159 =>
  (c155[2]?).bind fun x160 =>
  gI .i64 x160 fun i161 =>
  (c155[3]?).bind fun x162 =>
  gI .i64 x162 fun i163 =>
  (c155[4]?).bind fun x164 =>
  gI .i64 x164 fun i165 =>
  (c155[5]?).bind fun x166 =>
  gI .i64 x166 fun i167 =>
  (c155[6]?).bind fun x168 =>
  gI .i64 x168 fun i169 =>
  (c155[7]?).bind fun x170 =>
  gS x170 fun y171 =>
  if c155.length = 8 then
  (u153[1]?).bind fun t172 =>
  gA1 t172 fun x173 =>
  gB x173 fun q174 =>
  if u153.length = 2 then
  some (.tup [.agg [.int .i64 i157, .int .i64 i159, .int .i64 i161, .int .i64 i163, .int .i64 i165, .int .i64 i167, .int .i64 i169, .str y171], .s (.bool q174)])
  else none
  else none)

theorem pu_spec_l6Cell (a0 : List (List S)) (a1 : Int) (a2 : Int) : pureV (call Ev) Fn.spec_l6Cell [lv a0, iv .i64 a1, iv .i64 a2] =
  pcallS (call Ev) Fn.spec_l1In [iv .i64 a1, iv .i64 0, iv .i64 (IntKind.i64.wrap ((a0.length : Int) - 1))] fun v101 =>
  gV1 v101 fun x102 =>
  gB x102 fun q103 =>
  vcase (bv (!q103))
  (Jn.spec_l6Cell_0 true a0 a1 a2)
  (idxF 1 a0 a1 fun r106 =>
  (r106[0]?).bind fun x107 =>
  gF x107 fun z108 =>
  pcallS (call Ev) Fn.spec_l2Has [lv z108, iv .i64 a2] fun v109 =>
  gV1 v109 fun x110 =>
  gB x110 fun q111 =>
  Jn.spec_l6Cell_0 (!q111) a0 a1 a2) := by
  rw [pure_eq]; kernel_rfl

theorem pu_spec_l6Stubs (a0 : List (List S)) (a1 : List (List S)) : pureV (call Ev) Fn.spec_l6Stubs [lv a0, lv a1] =
  (Lp.spec_l6Stubs 0 [lv a0, lv a1, iv .i64 0] (D 0)).bind fun o101 => lcase o101 (fun l102 h103 =>
  (l102[0]?).bind fun w106 =>
  gV1 w106 fun x107 =>
  gF x107 fun z108 =>
  (Lp.spec_l6Stubs 2 [lv z108, iv .i64 0] h103).bind fun o109 => lcase o109 (fun l110 h111 =>
  some (iv .i64 0)) (fun v112 h113 =>
  frzV h113 v112)) (fun v104 h105 =>
  frzV h105 v104) := by
  rw [pure_eq]; kernel_rfl

theorem eq_spec_l6Stubs_l0 (s0 : List (List S)) (s1 : List (List S)) (s5 : Int) (h : H) : Lp.spec_l6Stubs 0 [lv s0, lv s1, iv .i64 s5] h =
  vcase (bv (decide (s5 < (s0.length : Int))))
  (idxF 10 s0 s5 fun r203 =>
  (r203[3]?).bind fun x204 =>
  gI .i64 x204 fun i205 =>
  vcase (bv (i205 != 1))
  (Lp.spec_l6Stubs 0 [lv s0, lv s1, iv .i64 (IntKind.i64.wrap (s5 + 1))] (tidy h [lv s0, lv s1, iv .i64 (IntKind.i64.wrap (s5 + 1))] h))
  (idxF 10 s0 s5 fun r207 =>
  (r207[4]?).bind fun x208 =>
  gI .i64 x208 fun i209 =>
  idxF 10 s0 s5 fun r210 =>
  (r210[5]?).bind fun x211 =>
  gI .i64 x211 fun i212 =>
  pcallS (call Ev) Fn.spec_l6Cell [lv s1, iv .i64 i209, iv .i64 i212] fun v213 =>
  gVT v213 fun u214 =>
  (u214[0]?).bind fun t215 =>
  gAA t215 fun c216 =>
  (c216[0]?).bind fun x217 =>
  gI .i64 x217 fun i218 =>
  (c216[1]?).bind fun x219 =>
  gI .i64 x219 fun i220 =>
  (c216[2]?).bind fun x221 =>
  gI .i64 x221 fun i222 =>
  (c216[3]?).bind fun x223 =>
  gI .i64 x223 fun i224 =>
  (c216[4]?).bind fun x225 =>
  gI .i64 x225 fun i226 =>
  (c216[5]?).bind fun x227 =>
  gI .i64 x227 fun i228 =>
  (c216[6]?).bind fun x229 =>
  gI .i64 x229 fun i230 =>
  (c216[7]?).bind fun x231 =>
  gS x231 fun y232 =>
  if c216.length = 8 then
  (u214[1]?).bind fun t233 =>
  gA1 t233 fun x234 =>
  gB x234 fun q235 =>
  if u214.length = 2 then
  stK 8 (h.new 0 [.int .i64 0, .int .i64 0, .int .i64 0, .int .i64 0, .int .i64 0, .int .i64 0, .int .i64 0, .str (⟨#[]⟩)]) (pv h.n 0) (.agg [.int .i64 i218, .int .i64 i220, .int .i64 i222, .int .i64 i224, .int .i64 i226, .int .i64 i228, .int .i64 i230, .str y232]) fun h236 =>
  hchk h h236 (
  vcase (bv (!q235))
  (some (.ret (iv .i64 4) h236))
  ((load1 h236 (pv h.n 1)).bind fun x239 =>
  gI .i64 x239 fun i240 =>
  vcase (bv (i240 != 2))
  (some (.ret (iv .i64 4) h236))
  (Lp.spec_l6Stubs 0 [lv s0, lv s1, iv .i64 (IntKind.i64.wrap (s5 + 1))] (tidy h [lv s0, lv s1, iv .i64 (IntKind.i64.wrap (s5 + 1))] h236))))
  else none
  else none))
  (some (.done [lv s0] (tidy h [lv s0] h))) := by
  unfold Lp.spec_l6Stubs; rw [loop_eq]; kernel_rfl

theorem eq_spec_l6Stubs_l2 (s0 : List (List S)) (s8 : Int) (h : H) : Lp.spec_l6Stubs 2 [lv s0, iv .i64 s8] h =
  vcase (bv (decide (s8 < (s0.length : Int))))
  ((Lp.spec_l6Stubs 4 [lv s0, iv .i64 s8, iv .i64 0] h).bind fun o403 => lcase o403 (fun l404 h405 =>
  (l404[0]?).bind fun w408 =>
  gV1 w408 fun x409 =>
  gF x409 fun z410 =>
  (l404[1]?).bind fun w411 =>
  gV1 w411 fun x412 =>
  gI .i64 x412 fun i413 =>
  Lp.spec_l6Stubs 2 [lv z410, iv .i64 (IntKind.i64.wrap (i413 + 1))] (tidy h [lv z410, iv .i64 (IntKind.i64.wrap (i413 + 1))] h405)) (fun v406 h407 =>
  some (.ret v406 h407)))
  (some (.done [] (tidy h [] h))) := by
  unfold Lp.spec_l6Stubs; rw [loop_eq]; kernel_rfl

theorem eq_spec_l6Stubs_l4 (s0 : List (List S)) (s8 : Int) (s9 : Int) (h : H) : Lp.spec_l6Stubs 4 [lv s0, iv .i64 s8, iv .i64 s9] h =
  vcase (bv (decide (s9 < s8)))
  (idxF 10 s0 s8 fun r603 =>
  idxF 10 s0 s9 fun r604 =>
  (r603[3]?).bind fun x605 =>
  gI .i64 x605 fun i606 =>
  vcase (bv (i606 == 1))
  ((r604[3]?).bind fun x608 =>
  gI .i64 x608 fun i609 =>
  vcase (bv (i609 == 1))
  ((r603[4]?).bind fun x613 =>
  gI .i64 x613 fun i614 =>
  (r604[4]?).bind fun x615 =>
  gI .i64 x615 fun i616 =>
  vcase (bv (i614 == i616))
  ((r603[5]?).bind fun x620 =>
  gI .i64 x620 fun i621 =>
  (r604[5]?).bind fun x622 =>
  gI .i64 x622 fun i623 =>
  vcase (bv (i621 == i623))
  (some (.ret (iv .i64 6) h))
  (Lp.spec_l6Stubs 4 [lv s0, iv .i64 s8, iv .i64 (IntKind.i64.wrap (s9 + 1))] (tidy h [lv s0, iv .i64 s8, iv .i64 (IntKind.i64.wrap (s9 + 1))] h)))
  (Lp.spec_l6Stubs 4 [lv s0, iv .i64 s8, iv .i64 (IntKind.i64.wrap (s9 + 1))] (tidy h [lv s0, iv .i64 s8, iv .i64 (IntKind.i64.wrap (s9 + 1))] h)))
  (Lp.spec_l6Stubs 4 [lv s0, iv .i64 s8, iv .i64 (IntKind.i64.wrap (s9 + 1))] (tidy h [lv s0, iv .i64 s8, iv .i64 (IntKind.i64.wrap (s9 + 1))] h)))
  (Lp.spec_l6Stubs 4 [lv s0, iv .i64 s8, iv .i64 (IntKind.i64.wrap (s9 + 1))] (tidy h [lv s0, iv .i64 s8, iv .i64 (IntKind.i64.wrap (s9 + 1))] h)))
  (some (.done [lv s0, iv .i64 s8] (tidy h [lv s0, iv .i64 s8] h))) := by
  unfold Lp.spec_l6Stubs; rw [loop_eq]; kernel_rfl

theorem pu_spec_l6Spots (a0 : List (List S)) : pureV (call Ev) Fn.spec_l6Spots [lv a0] =
  (Lp.spec_l6Spots 0 [lv a0, sv 0 0 0, iv .i64 0] ((D 0).new 10 [])).bind fun o101 => lcase o101 (fun l102 h103 =>
  (l102[0]?).bind fun w106 =>
  frzV h103 w106) (fun v104 h105 =>
  frzV h105 v104) := by
  rw [pure_eq]; kernel_rfl

theorem eq_spec_l6Spots_l0 (s0 : List (List S)) (s3 : V) (s4 : Int) (h : H) : Lp.spec_l6Spots 0 [lv s0, s3, iv .i64 s4] h =
  vcase (bv (decide (s4 < (s0.length : Int))))
  ((Lp.spec_l6Spots 2 [lv s0, s3, iv .i64 s4, iv .i64 0] h).bind fun o203 => lcase o203 (fun l204 h205 =>
  (l204[0]?).bind fun w208 =>
  gV1 w208 fun x209 =>
  gF x209 fun z210 =>
  (l204[1]?).bind fun w211 =>
  (l204[2]?).bind fun w212 =>
  gV1 w212 fun x213 =>
  gI .i64 x213 fun i214 =>
  Lp.spec_l6Spots 0 [lv z210, w211, iv .i64 (IntKind.i64.wrap (i214 + 1))] (tidy h [lv z210, w211, iv .i64 (IntKind.i64.wrap (i214 + 1))] h205)) (fun v206 h207 =>
  some (.ret v206 h207)))
  (some (.done [s3] (tidy h [s3] h))) := by
  unfold Lp.spec_l6Spots; rw [loop_eq]; kernel_rfl

theorem eq_spec_l6Spots_l2 (s0 : List (List S)) (s3 : V) (s4 : Int) (s5 : Int) (h : H) : Lp.spec_l6Spots 2 [lv s0, s3, iv .i64 s4, iv .i64 s5] h =
  idxF 1 s0 s4 fun r401 =>
  (r401[0]?).bind fun x402 =>
  gF x402 fun z403 =>
  pcallS (call Ev) Fn.spec_l2Count [lv z403] fun v404 =>
  gV1 v404 fun x405 =>
  gI .i64 x405 fun i406 =>
  vcase (bv (decide (s5 < i406)))
  (idxF 1 s0 s4 fun r409 =>
  (r409[0]?).bind fun x410 =>
  gF x410 fun z411 =>
  pcallS (call Ev) Fn.spec_l2Size [lv z411, iv .i64 s5] fun v412 =>
  gV1 v412 fun x413 =>
  gI .i64 x413 fun i414 =>
  vcase (bv (decide (i414 > 0)))
  (idxF 1 s0 s4 fun r416 =>
  (r416[0]?).bind fun x417 =>
  gF x417 fun z418 =>
  (pureV (call Ev) Fn.spec_l2Cell [lv z418, iv .i64 s5]).bind fun v419 =>
  gV1 v419 fun x420 =>
  gF x420 fun z421 =>
  pcallS (call Ev) Fn.spec_l1Read [lv z421] fun v422 =>
  gVT v422 fun u423 =>
  (u423[0]?).bind fun t424 =>
  gAA t424 fun c425 =>
  (c425[0]?).bind fun x426 =>
  gI .i64 x426 fun i427 =>
  (c425[1]?).bind fun x428 =>
  gI .i64 x428 fun i429 =>
  (c425[2]?).bind fun x430 =>
  gI .i64 x430 fun i431 =>
  (c425[3]?).bind fun x432 =>
  gI .i64 x432 fun i433 =>
  (c425[4]?).bind fun x434 =>
  gI .i64 x434 fun i435 =>
  (c425[5]?).bind fun x436 =>
  gI .i64 x436 fun i437 =>
  (c425[6]?).bind fun x438 =>
  gI .i64 x438 fun i439 =>
  (c425[7]?).bind fun x440 =>
  gS x440 fun y441 =>
  if c425.length = 8 then
  (u423[1]?).bind fun t442 =>
  gA1 t442 fun x443 =>
  gB x443 fun q444 =>
  if u423.length = 2 then
  stK 8 (h.new 0 [.int .i64 0, .int .i64 0, .int .i64 0, .int .i64 0, .int .i64 0, .int .i64 0, .int .i64 0, .str (⟨#[]⟩)]) (pv h.n 0) (.agg [.int .i64 i427, .int .i64 i429, .int .i64 i431, .int .i64 i433, .int .i64 i435, .int .i64 i437, .int .i64 i439, .str y441]) fun h445 =>
  (loadN 8 h445 (pv h.n 0)).bind fun c446 =>
  (c446[0]?).bind fun x447 =>
  gI .i64 x447 fun i448 =>
  (c446[1]?).bind fun x449 =>
  gI .i64 x449 fun i450 =>
  (c446[2]?).bind fun x451 =>
  gI .i64 x451 fun i452 =>
  (c446[3]?).bind fun x453 =>
  gI .i64 x453 fun i454 =>
  (c446[4]?).bind fun x455 =>
  gI .i64 x455 fun i456 =>
  (c446[5]?).bind fun x457 =>
  gI .i64 x457 fun i458 =>
  (c446[6]?).bind fun x459 =>
  gI .i64 x459 fun i460 =>
  (c446[7]?).bind fun x461 =>
  gS x461 fun y462 =>
  if c446.length = 8 then
  (appS 10 (h445.new 10 [.int .i64 s4, .int .i64 s5, .int .i64 i448, .int .i64 i450, .int .i64 i452, .int .i64 i454, .int .i64 i456, .int .i64 i458, .int .i64 i460, .str y462]) s3 (sv h445.n 0 1)).bind fun p463 =>
  Lp.spec_l6Spots 2 [lv s0, p463.1, iv .i64 s4, iv .i64 (IntKind.i64.wrap (s5 + 1))] (tidy h [lv s0, p463.1, iv .i64 s4, iv .i64 (IntKind.i64.wrap (s5 + 1))] p463.2)
  else none
  else none
  else none)
  (Lp.spec_l6Spots 2 [lv s0, s3, iv .i64 s4, iv .i64 (IntKind.i64.wrap (s5 + 1))] (tidy h [lv s0, s3, iv .i64 s4, iv .i64 (IntKind.i64.wrap (s5 + 1))] h)))
  (some (.done [lv s0, s3, iv .i64 s4] (tidy h [lv s0, s3, iv .i64 s4] h))) := by
  unfold Lp.spec_l6Spots; rw [loop_eq]; kernel_rfl

theorem pu_spec_l6Seen (a0 : List (List S)) : pureV (call Ev) Fn.spec_l6Seen [lv a0] =
  (pureV (call Ev) Fn.spec_l6Spots [lv a0]).bind fun v101 =>
  gV1 v101 fun x102 =>
  gF x102 fun z103 =>
  (Lp.spec_l6Seen 0 [lv a0, sv 0 0 0, lv z103, iv .i64 0] ((D 0).new 10 [])).bind fun o104 => lcase o104 (fun l105 h106 =>
  (l105[0]?).bind fun w109 =>
  frzV h106 w109) (fun v107 h108 =>
  frzV h108 v107) := by
  rw [pure_eq]; kernel_rfl

noncomputable def Jn.spec_l6Seen_l0_0 (h292 : H) (h : H) (s3 : V) (s0 : List (List S)) (s4 : List (List S)) (s5 : Int) : Option (LOut) :=
  (loadN 10 h292 (pv h.n 0)).bind fun c293 =>
  (c293[0]?).bind fun x294 =>
  gI .i64 x294 fun i295 =>
  (c293[1]?).bind fun x296 =>
  gI .i64 x296 fun i297 =>
  (c293[2]?).bind fun x298 =>
  gI .i64 x298 fun i299 =>
  (c293[3]?).bind fun x300 =>
  gI .i64 x300 fun i301 =>
  (c293[4]?).bind fun x302 =>
  gI .i64 x302 fun i303 =>
  (c293[5]?).bind fun x304 =>
  gI .i64 x304 fun i305 =>
  (c293[6]?).bind fun x306 =>
  gI .i64 x306 fun i307 =>
  (c293[7]?).bind fun x308 =>
  gI .i64 x308 fun i309 =>
  (c293[8]?).bind fun x310 =>
  gI .i64 x310 fun i311 =>
  (c293[9]?).bind fun x312 =>
  gS x312 fun y313 =>
  if c293.length = 10 then
  (appS 10 (h292.new 10 [.int .i64 i295, .int .i64 i297, .int .i64 i299, .int .i64 i301, .int .i64 i303, .int .i64 i305, .int .i64 i307, .int .i64 i309, .int .i64 i311, .str y313]) s3 (sv h292.n 0 1)).bind fun p314 =>
  Lp.spec_l6Seen 0 [lv s0, p314.1, lv s4, iv .i64 (IntKind.i64.wrap (s5 + 1))] (tidy h [lv s0, p314.1, lv s4, iv .i64 (IntKind.i64.wrap (s5 + 1))] p314.2)
  else none

theorem eq_spec_l6Seen_l0 (s0 : List (List S)) (s3 : V) (s4 : List (List S)) (s5 : Int) (h : H) : Lp.spec_l6Seen 0 [lv s0, s3, lv s4, iv .i64 s5] h =
  vcase (bv (decide (s5 < (s4.length : Int))))
  (idxF 10 s4 s5 fun r203 =>
  (rowN 10 r203 0).bind fun c204 =>
  (c204[0]?).bind fun x205 =>
  gI .i64 x205 fun i206 =>
  (c204[1]?).bind fun x207 =>
  gI .i64 x207 fun i208 =>
  (c204[2]?).bind fun x209 =>
  gI .i64 x209 fun i210 =>
  (c204[3]?).bind fun x211 =>
  gI .i64 x211 fun i212 =>
  (c204[4]?).bind fun x213 =>
  gI .i64 x213 fun i214 =>
  (c204[5]?).bind fun x215 =>
  gI .i64 x215 fun i216 =>
  (c204[6]?).bind fun x217 =>
  gI .i64 x217 fun i218 =>
  (c204[7]?).bind fun x219 =>
  gI .i64 x219 fun i220 =>
  (c204[8]?).bind fun x221 =>
  gI .i64 x221 fun i222 =>
  (c204[9]?).bind fun x223 =>
  gS x223 fun y224 =>
  if c204.length = 10 then
  stK 10 (h.new 0 [.int .i64 0, .int .i64 0, .int .i64 0, .int .i64 0, .int .i64 0, .int .i64 0, .int .i64 0, .int .i64 0, .int .i64 0, .str (⟨#[]⟩)]) (pv h.n 0) (.agg [.int .i64 i206, .int .i64 i208, .int .i64 i210, .int .i64 i212, .int .i64 i214, .int .i64 i216, .int .i64 i218, .int .i64 i220, .int .i64 i222, .str y224]) fun h225 =>
  (load1 h225 (pv h.n 3)).bind fun x226 =>
  gI .i64 x226 fun i227 =>
  vcase (bv (i227 == 2))
  (Lp.spec_l6Seen 0 [lv s0, s3, lv s4, iv .i64 (IntKind.i64.wrap (s5 + 1))] (tidy h [lv s0, s3, lv s4, iv .i64 (IntKind.i64.wrap (s5 + 1))] h225))
  ((load1 h225 (pv h.n 3)).bind fun x229 =>
  gI .i64 x229 fun i230 =>
  vcase (bv (i230 == 1))
  ((load1 h225 (pv h.n 4)).bind fun x232 =>
  gI .i64 x232 fun i233 =>
  (load1 h225 (pv h.n 5)).bind fun x234 =>
  gI .i64 x234 fun i235 =>
  pcallS (call Ev) Fn.spec_l6Cell [lv s0, iv .i64 i233, iv .i64 i235] fun v236 =>
  gVT v236 fun u237 =>
  (u237[0]?).bind fun t238 =>
  gAA t238 fun c239 =>
  (c239[0]?).bind fun x240 =>
  gI .i64 x240 fun i241 =>
  (c239[1]?).bind fun x242 =>
  gI .i64 x242 fun i243 =>
  (c239[2]?).bind fun x244 =>
  gI .i64 x244 fun i245 =>
  (c239[3]?).bind fun x246 =>
  gI .i64 x246 fun i247 =>
  (c239[4]?).bind fun x248 =>
  gI .i64 x248 fun i249 =>
  (c239[5]?).bind fun x250 =>
  gI .i64 x250 fun i251 =>
  (c239[6]?).bind fun x252 =>
  gI .i64 x252 fun i253 =>
  (c239[7]?).bind fun x254 =>
  gS x254 fun y255 =>
  if c239.length = 8 then
  (u237[1]?).bind fun t256 =>
  gA1 t256 fun x257 =>
  gB x257 fun q258 =>
  if u237.length = 2 then
  stK 8 (h225.new 0 [.int .i64 0, .int .i64 0, .int .i64 0, .int .i64 0, .int .i64 0, .int .i64 0, .int .i64 0, .str (⟨#[]⟩)]) (pv h225.n 0) (.agg [.int .i64 i241, .int .i64 i243, .int .i64 i245, .int .i64 i247, .int .i64 i249, .int .i64 i251, .int .i64 i253, .str y255]) fun h259 =>
  (loadN 4 h259 (pv h225.n 4)).bind fun c260 =>
  (c260[0]?).bind fun x261 =>
  gI .i64 x261 fun i262 =>
  (c260[1]?).bind fun x263 =>
  gI .i64 x263 fun i264 =>
  (c260[2]?).bind fun x265 =>
  gI .i64 x265 fun i266 =>
  (c260[3]?).bind fun x267 =>
  gS x267 fun y268 =>
  if c260.length = 4 then
  stK 4 h259 (pv h.n 6) (.agg [.int .i64 i262, .int .i64 i264, .int .i64 i266, .str y268]) fun h269 =>
  Jn.spec_l6Seen_l0_0 h269 h s3 s0 s4 s5
  else none
  else none
  else none)
  (Jn.spec_l6Seen_l0_0 h225 h s3 s0 s4 s5))
  else none)
  (some (.done [s3] (tidy h [s3] h))) := by
  unfold Lp.spec_l6Seen; rw [loop_eq]; kernel_rfl

end Vm
