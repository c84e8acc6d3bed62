/-
  What each function, and each round of each loop, comes to in the small machine. Written by a program (gen3.py).
-/
import Derived.Test.YtpdoloemacmbaaaEnv
set_option linter.unusedVariables false
set_option maxRecDepth 100000
namespace Vm
open Go

theorem pu_laws_toChange (a0_0 : Bool) (a0_1 : Int) (a0_2 : Int) (a0_3 : Int) (a0_4 : ByteArray) (a0_5 : Bool) (a0_6 : Int) (a0_7 : Int) (a0_8 : Int) (a0_9 : ByteArray) : pureV (call Ev) Fn.laws_toChange [.agg [.bool a0_0, .int .i64 a0_1, .int .i64 a0_2, .int .i64 a0_3, .str a0_4, .bool a0_5, .int .i64 a0_6, .int .i64 a0_7, .int .i64 a0_8, .str a0_9]] =
  pcallS (call Ev) Fn.laws_toRow [.agg [.int .i64 a0_1, .int .i64 a0_2, .int .i64 a0_3, .str a0_4]] fun v101 =>
  gVA v101 fun c102 =>
  (c102[0]?).bind fun x103 =>
  gI .i64 x103 fun i104 =>
  (c102[1]?).bind fun x105 =>
  gI .i64 x105 fun i106 =>
  (c102[2]?).bind fun x107 =>
  gI .i64 x107 fun i108 =>
  (c102[3]?).bind fun x109 =>
  gS x109 fun y110 =>
  if c102.length = 4 then
  pcallS (call Ev) Fn.laws_toRow [.agg [.int .i64 a0_6, .int .i64 a0_7, .int .i64 a0_8, .str a0_9]] fun v111 =>
  gVA v111 fun c112 =>
  (c112[0]?).bind fun x113 =>
  gI .i64 x113 fun i114 =>
  (c112[1]?).bind fun x115 =>
  gI .i64 x115 fun i116 =>
  (c112[2]?).bind fun x117 =>
  gI .i64 x117 fun i118 =>
  (c112[3]?).bind fun x119 =>
  gS x119 fun y120 =>
  if c112.length = 4 then
  some (.agg [.bool a0_0, .int .i64 i104, .int .i64 i106, .int .i64 i108, .str y110, .bool a0_5, .int .i64 i114, .int .i64 i116, .int .i64 i118, .str y120])
  else none
  else none := by
  rw [pure_eq]; kernel_rfl

theorem pu_laws_toChangeS (a0 : List (List S)) : pureV (call Ev) Fn.laws_toChangeS [lv a0] =
  (mkSl 10 [.bool false, .int .i64 0, .int .i64 0, .int .i64 0, .str ⟨#[]⟩, .bool false, .int .i64 0, .int .i64 0, .int .i64 0, .str ⟨#[]⟩] (D 0) (iv .i64 (a0.length : Int)) (iv .i64 (a0.length : Int))).bind fun p101 =>
  (Lp.laws_toChangeS 0 [lv a0, p101.1, iv .i64 0] p101.2).bind fun o102 => lcase o102 (fun l103 h104 =>
  (l103[0]?).bind fun w107 =>
  frzV h104 w107) (fun v105 h106 =>
  frzV h106 v105) := by
  rw [pure_eq]; kernel_rfl

theorem eq_laws_toChangeS_l0 (s0 : List (List S)) (s3 : V) (s4 : Int) (h : H) : Lp.laws_toChangeS 0 [lv s0, s3, iv .i64 s4] h =
  vcase (bv (decide (s4 < (s0.length : Int))))
  (idxF 10 s0 s4 fun r203 =>
  (rowN 10 r203 0).bind fun c204 =>
  (c204[0]?).bind fun x205 =>
  gB x205 fun q206 =>
  (c204[1]?).bind fun x207 =>
  gI .i64 x207 fun i208 =>
  (c204[2]?).bind fun x209 =>
  gI .i64 x209 fun i210 =>
  (c204[3]?).bind fun x211 =>
  gI .i64 x211 fun i212 =>
  (c204[4]?).bind fun x213 =>
  gS x213 fun y214 =>
  (c204[5]?).bind fun x215 =>
  gB x215 fun q216 =>
  (c204[6]?).bind fun x217 =>
  gI .i64 x217 fun i218 =>
  (c204[7]?).bind fun x219 =>
  gI .i64 x219 fun i220 =>
  (c204[8]?).bind fun x221 =>
  gI .i64 x221 fun i222 =>
  (c204[9]?).bind fun x223 =>
  gS x223 fun y224 =>
  if c204.length = 10 then
  pcallS (call Ev) Fn.laws_toChange [.agg [.bool q206, .int .i64 i208, .int .i64 i210, .int .i64 i212, .str y214, .bool q216, .int .i64 i218, .int .i64 i220, .int .i64 i222, .str y224]] fun v225 =>
  gVA v225 fun c226 =>
  (c226[0]?).bind fun x227 =>
  gB x227 fun q228 =>
  (c226[1]?).bind fun x229 =>
  gI .i64 x229 fun i230 =>
  (c226[2]?).bind fun x231 =>
  gI .i64 x231 fun i232 =>
  (c226[3]?).bind fun x233 =>
  gI .i64 x233 fun i234 =>
  (c226[4]?).bind fun x235 =>
  gS x235 fun y236 =>
  (c226[5]?).bind fun x237 =>
  gB x237 fun q238 =>
  (c226[6]?).bind fun x239 =>
  gI .i64 x239 fun i240 =>
  (c226[7]?).bind fun x241 =>
  gI .i64 x241 fun i242 =>
  (c226[8]?).bind fun x243 =>
  gI .i64 x243 fun i244 =>
  (c226[9]?).bind fun x245 =>
  gS x245 fun y246 =>
  if c226.length = 10 then
  idxK 10 s3 (iv .i64 s4) fun v247 =>
  stK 10 h v247 (.agg [.bool q228, .int .i64 i230, .int .i64 i232, .int .i64 i234, .str y236, .bool q238, .int .i64 i240, .int .i64 i242, .int .i64 i244, .str y246]) fun h248 =>
  Lp.laws_toChangeS 0 [lv s0, s3, iv .i64 (IntKind.i64.wrap (s4 + 1))] (tidy h [lv s0, s3, iv .i64 (IntKind.i64.wrap (s4 + 1))] h248)
  else none
  else none)
  (some (.done [s3] (tidy h [s3] h))) := by
  unfold Lp.laws_toChangeS; rw [loop_eq]; kernel_rfl

theorem pu_laws_toInt64S (a0 : List (List S)) : pureV (call Ev) Fn.laws_toInt64S [lv a0] =
  (mkSl 1 [.int .i64 0] (D 0) (iv .i64 (a0.length : Int)) (iv .i64 (a0.length : Int))).bind fun p101 =>
  (Lp.laws_toInt64S 0 [lv a0, p101.1, iv .i64 0] p101.2).bind fun o102 => lcase o102 (fun l103 h104 =>
  (l103[0]?).bind fun w107 =>
  frzV h104 w107) (fun v105 h106 =>
  frzV h106 v105) := by
  rw [pure_eq]; kernel_rfl

theorem eq_laws_toInt64S_l0 (s0 : List (List S)) (s3 : V) (s4 : Int) (h : H) : Lp.laws_toInt64S 0 [lv s0, s3, iv .i64 s4] h =
  vcase (bv (decide (s4 < (s0.length : Int))))
  (idxF 1 s0 s4 fun r203 =>
  (r203[0]?).bind fun x204 =>
  gI .i64 x204 fun i205 =>
  idxK 1 s3 (iv .i64 s4) fun v206 =>
  stK 1 h v206 (iv .i64 i205) fun h207 =>
  Lp.laws_toInt64S 0 [lv s0, s3, iv .i64 (IntKind.i64.wrap (s4 + 1))] (tidy h [lv s0, s3, iv .i64 (IntKind.i64.wrap (s4 + 1))] h207))
  (some (.done [s3] (tidy h [s3] h))) := by
  unfold Lp.laws_toInt64S; rw [loop_eq]; kernel_rfl

theorem pu_laws_toKey (a0_0 : Int) (a0_1 : Int) : pureV (call Ev) Fn.laws_toKey [.agg [.int .i64 a0_0, .int .i64 a0_1]] =
  some (.agg [.int .i64 a0_0, .int .i64 a0_1]) := by
  rw [pure_eq]; kernel_rfl

theorem pu_laws_toKeyS (a0 : List (List S)) : pureV (call Ev) Fn.laws_toKeyS [lv a0] =
  (mkSl 2 [.int .i64 0, .int .i64 0] (D 0) (iv .i64 (a0.length : Int)) (iv .i64 (a0.length : Int))).bind fun p101 =>
  (Lp.laws_toKeyS 0 [lv a0, p101.1, iv .i64 0] p101.2).bind fun o102 => lcase o102 (fun l103 h104 =>
  (l103[0]?).bind fun w107 =>
  frzV h104 w107) (fun v105 h106 =>
  frzV h106 v105) := by
  rw [pure_eq]; kernel_rfl

theorem eq_laws_toKeyS_l0 (s0 : List (List S)) (s3 : V) (s4 : Int) (h : H) : Lp.laws_toKeyS 0 [lv s0, s3, iv .i64 s4] h =
  vcase (bv (decide (s4 < (s0.length : Int))))
  (idxF 2 s0 s4 fun r203 =>
  (rowN 2 r203 0).bind fun c204 =>
  (c204[0]?).bind fun x205 =>
  gI .i64 x205 fun i206 =>
  (c204[1]?).bind fun x207 =>
  gI .i64 x207 fun i208 =>
  if c204.length = 2 then
  pcallS (call Ev) Fn.laws_toKey [.agg [.int .i64 i206, .int .i64 i208]] fun v209 =>
  gVA v209 fun c210 =>
  (c210[0]?).bind fun x211 =>
  gI .i64 x211 fun i212 =>
  (c210[1]?).bind fun x213 =>
  gI .i64 x213 fun i214 =>
  if c210.length = 2 then
  idxK 2 s3 (iv .i64 s4) fun v215 =>
  stK 2 h v215 (.agg [.int .i64 i212, .int .i64 i214]) fun h216 =>
  Lp.laws_toKeyS 0 [lv s0, s3, iv .i64 (IntKind.i64.wrap (s4 + 1))] (tidy h [lv s0, s3, iv .i64 (IntKind.i64.wrap (s4 + 1))] h216)
  else none
  else none)
  (some (.done [s3] (tidy h [s3] h))) := by
  unfold Lp.laws_toKeyS; rw [loop_eq]; kernel_rfl

theorem pu_laws_toTx (a0_0 : Int) (a0_1 : List (List S)) (a0_2 : List (List S)) (a0_3 : List (List S)) : pureV (call Ev) Fn.laws_toTx [.agg [.int .i64 a0_0, .fs a0_1, .fs a0_2, .fs a0_3]] =
  (pureV (call Ev) Fn.laws_toChangeS [lv a0_1]).bind fun v101 =>
  gV1 v101 fun x102 =>
  gF x102 fun z103 =>
  (pureV (call Ev) Fn.laws_toInt64S [lv a0_2]).bind fun v104 =>
  gV1 v104 fun x105 =>
  gF x105 fun z106 =>
  (pureV (call Ev) Fn.laws_toKeyS [lv a0_3]).bind fun v107 =>
  gV1 v107 fun x108 =>
  gF x108 fun z109 =>
  some (.agg [.int .i64 a0_0, .fs z103, .fs z106, .fs z109]) := by
  rw [pure_eq]; kernel_rfl

theorem pu_laws_toTxS (a0 : List (List S)) : pureV (call Ev) Fn.laws_toTxS [lv a0] =
  (mkSl 4 [.int .i64 0, .sl none 0, .sl none 0, .sl none 0] (D 0) (iv .i64 (a0.length : Int)) (iv .i64 (a0.length : Int))).bind fun p101 =>
  (Lp.laws_toTxS 0 [lv a0, p101.1, iv .i64 0] p101.2).bind fun o102 => lcase o102 (fun l103 h104 =>
  (l103[0]?).bind fun w107 =>
  frzV h104 w107) (fun v105 h106 =>
  frzV h106 v105) := by
  rw [pure_eq]; kernel_rfl

theorem eq_laws_toTxS_l0 (s0 : List (List S)) (s3 : V) (s4 : Int) (h : H) : Lp.laws_toTxS 0 [lv s0, s3, iv .i64 s4] h =
  vcase (bv (decide (s4 < (s0.length : Int))))
  (idxF 4 s0 s4 fun r203 =>
  (rowN 4 r203 0).bind fun c204 =>
  (c204[0]?).bind fun x205 =>
  gI .i64 x205 fun i206 =>
  (c204[1]?).bind fun x207 =>
  gF x207 fun z208 =>
  (c204[2]?).bind fun x209 =>
  gF x209 fun z210 =>
  (c204[3]?).bind fun x211 =>
  gF x211 fun z212 =>
  if c204.length = 4 then
  (pureV (call Ev) Fn.laws_toTx [.agg [.int .i64 i206, .fs z208, .fs z210, .fs z212]]).bind fun v213 =>
  gVA v213 fun c214 =>
  (c214[0]?).bind fun x215 =>
  gI .i64 x215 fun i216 =>
  (c214[1]?).bind fun x217 =>
  gF x217 fun z218 =>
  (c214[2]?).bind fun x219 =>
  gF x219 fun z220 =>
  (c214[3]?).bind fun x221 =>
  gF x221 fun z222 =>
  if c214.length = 4 then
  idxK 4 s3 (iv .i64 s4) fun v223 =>
  stK 4 h v223 (.agg [.int .i64 i216, .fs z218, .fs z220, .fs z222]) fun h224 =>
  Lp.laws_toTxS 0 [lv s0, s3, iv .i64 (IntKind.i64.wrap (s4 + 1))] (tidy h [lv s0, s3, iv .i64 (IntKind.i64.wrap (s4 + 1))] h224)
  else none
  else none)
  (some (.done [s3] (tidy h [s3] h))) := by
  unfold Lp.laws_toTxS; rw [loop_eq]; kernel_rfl

theorem pu_impl_isKey (a0 : Int) (a1 : Int) : pureV (call Ev) Fn.impl_isKey [iv .i64 a0, iv .i64 a1] =
  pcallS (call Ev) Fn.impl_in [iv .i64 a0, iv .i64 0, iv .i64 3] fun v101 =>
  gV1 v101 fun x102 =>
  gB x102 fun q103 =>
  vcase (bv q103)
  (pcallS (call Ev) Fn.impl_in [iv .i64 a1, iv .i64 1, iv .i64 99] fun v105 =>
  gV1 v105 fun x106 =>
  gB x106 fun q107 =>
  some (bv q107))
  (some (bv false)) := by
  rw [pure_eq]; kernel_rfl

theorem pu_slices_Index_impl_Key_impl_Key (a0 : List (List S)) (a1_0 : Int) (a1_1 : Int) : pureV (call Ev) Fn.slices_Index_impl_Key_impl_Key [lv a0, .agg [.int .i64 a1_0, .int .i64 a1_1]] =
  (Lp.slices_Index_impl_Key_impl_Key 0 [lv a0, pv 0 0, iv .i64 (a0.length : Int), iv .i64 0] ((D 0).new 0 [.int .i64 a1_0, .int .i64 a1_1])).bind fun o101 => lcase o101 (fun l102 h103 =>
  some (iv .i64 (-1))) (fun v104 h105 =>
  frzV h105 v104) := by
  rw [pure_eq]; kernel_rfl

theorem eq_slices_Index_impl_Key_impl_Key_l0 (s0 : List (List S)) (s3 : V) (s7 : Int) (s8 : Int) (h : H) : Lp.slices_Index_impl_Key_impl_Key 0 [lv s0, s3, iv .i64 s7, iv .i64 s8] h =
  vcase (bv (decide (s8 < s7)))
  (ldK (.agg [.i .i64, .i .i64]) ⟨2, 16, [.int .i64 0, .int .i64 0], true, .st [(0, 2), (1, 2)], true⟩ h s3 fun v203 =>
  gVA v203 fun c204 =>
  (c204[0]?).bind fun x205 =>
  gI .i64 x205 fun i206 =>
  (c204[1]?).bind fun x207 =>
  gI .i64 x207 fun i208 =>
  if c204.length = 2 then
  idxF 2 s0 s8 fun r209 =>
  (rowN 2 r209 0).bind fun c210 =>
  (c210[0]?).bind fun x211 =>
  gI .i64 x211 fun i212 =>
  (c210[1]?).bind fun x213 =>
  gI .i64 x213 fun i214 =>
  if c210.length = 2 then
  vcase (bv (((i206 : Int) == i212) && (((i208 : Int) == i214) && true)))
  (some (.ret (iv .i64 s8) h))
  (Lp.slices_Index_impl_Key_impl_Key 0 [lv s0, s3, iv .i64 s7, iv .i64 (IntKind.i64.wrap (s8 + 1))] (tidy h [lv s0, s3, iv .i64 s7, iv .i64 (IntKind.i64.wrap (s8 + 1))] h))
  else none
  else none)
  (some (.done [] (tidy h [] h))) := by
  unfold Lp.slices_Index_impl_Key_impl_Key; rw [loop_eq]; kernel_rfl

theorem pu_slices_Contains_impl_Key_impl_Key (a0 : List (List S)) (a1_0 : Int) (a1_1 : Int) : pureV (call Ev) Fn.slices_Contains_impl_Key_impl_Key [lv a0, .agg [.int .i64 a1_0, .int .i64 a1_1]] =
  pcallS (call Ev) Fn.slices_Index_impl_Key_impl_Key [lv a0, .agg [.int .i64 a1_0, .int .i64 a1_1]] fun v101 =>
  gV1 v101 fun x102 =>
  gI .i64 x102 fun i103 =>
  some (bv (decide (i103 ≥ 0))) := by
  rw [pure_eq]; kernel_rfl

theorem pu_impl_Change_lock (a0_0 : Bool) (a0_1 : Int) (a0_2 : Int) (a0_3 : Int) (a0_4 : ByteArray) (a0_5 : Bool) (a0_6 : Int) (a0_7 : Int) (a0_8 : Int) (a0_9 : ByteArray) : pureV (call Ev) Fn.impl_Change_lock [.agg [.bool a0_0, .int .i64 a0_1, .int .i64 a0_2, .int .i64 a0_3, .str a0_4, .bool a0_5, .int .i64 a0_6, .int .i64 a0_7, .int .i64 a0_8, .str a0_9]] =
  pcallS (call Ev) Fn.impl_Change_key [.agg [.bool a0_0, .int .i64 a0_1, .int .i64 a0_2, .int .i64 a0_3, .str a0_4, .bool a0_5, .int .i64 a0_6, .int .i64 a0_7, .int .i64 a0_8, .str a0_9]] fun v101 =>
  gVA v101 fun c102 =>
  (c102[0]?).bind fun x103 =>
  gI .i64 x103 fun i104 =>
  (c102[1]?).bind fun x105 =>
  gI .i64 x105 fun i106 =>
  (c102[2]?).bind fun x107 =>
  gI .i64 x107 fun i108 =>
  (c102[3]?).bind fun x109 =>
  gS x109 fun y110 =>
  if c102.length = 4 then
  hchk (((D 0).new 0 [.bool a0_0, .int .i64 a0_1, .int .i64 a0_2, .int .i64 a0_3, .str a0_4, .bool a0_5, .int .i64 a0_6, .int .i64 a0_7, .int .i64 a0_8, .str a0_9]).new 0 [.int .i64 0, .int .i64 0]) (((D 0).new 0 [.bool a0_0, .int .i64 a0_1, .int .i64 a0_2, .int .i64 a0_3, .str a0_4, .bool a0_5, .int .i64 a0_6, .int .i64 a0_7, .int .i64 a0_8, .str a0_9]).new 0 [.int .i64 0, .int .i64 0]) (
  pcallS (call Ev) Fn.impl_Change_key [.agg [.bool a0_0, .int .i64 a0_1, .int .i64 a0_2, .int .i64 a0_3, .str a0_4, .bool a0_5, .int .i64 a0_6, .int .i64 a0_7, .int .i64 a0_8, .str a0_9]] fun v111 =>
  gVA v111 fun c112 =>
  (c112[0]?).bind fun x113 =>
  gI .i64 x113 fun i114 =>
  (c112[1]?).bind fun x115 =>
  gI .i64 x115 fun i116 =>
  (c112[2]?).bind fun x117 =>
  gI .i64 x117 fun i118 =>
  (c112[3]?).bind fun x119 =>
  gS x119 fun y120 =>
  if c112.length = 4 then
  hchk (((D 0).new 0 [.bool a0_0, .int .i64 a0_1, .int .i64 a0_2, .int .i64 a0_3, .str a0_4, .bool a0_5, .int .i64 a0_6, .int .i64 a0_7, .int .i64 a0_8, .str a0_9]).new 0 [.int .i64 0, .int .i64 0]) (((D 0).new 0 [.bool a0_0, .int .i64 a0_1, .int .i64 a0_2, .int .i64 a0_3, .str a0_4, .bool a0_5, .int .i64 a0_6, .int .i64 a0_7, .int .i64 a0_8, .str a0_9]).new 0 [.int .i64 0, .int .i64 0]) (
  some (.agg [.int .i64 i104, .int .i64 i116]))
  else none)
  else none := by
  rw [pure_eq]; kernel_rfl

noncomputable def Jn.impl_txFault_0 (q143 : Bool) (w106 : V) (h103 : H) : Option (V) :=
  vcase (bv q143)
  (some (iv .i64 2))
  ((padd 2 w106).bind fun v145 =>
  ldK (.one (.f)) ⟨1, 24, [.sl none 0], false, .sl 2, false⟩ h103 v145 fun v146 =>
  (lenV (.sl 2) v146).bind fun v147 =>
  gV1 v147 fun x148 =>
  gI .i64 x148 fun i149 =>
  (Lp.impl_txFault 2 [w106, iv .i64 0, v146, iv .i64 i149, iv .i64 0] h103).bind fun o150 => lcase o150 (fun l151 h152 =>
  (l151[0]?).bind fun w155 =>
  (padd 3 w155).bind fun v156 =>
  ldK (.one (.f)) ⟨1, 24, [.sl none 0], false, .sl 79, false⟩ h152 v156 fun v157 =>
  (lenV (.sl 79) v157).bind fun v158 =>
  gV1 v158 fun x159 =>
  gI .i64 x159 fun i160 =>
  (Lp.impl_txFault 4 [w155, v157, iv .i64 i160, iv .i64 0] h152).bind fun o161 => lcase o161 (fun l162 h163 =>
  some (iv .i64 0)) (fun v164 h165 =>
  frzV h165 v164)) (fun v153 h154 =>
  frzV h154 v153))

theorem pu_impl_txFault (a0_0 : Int) (a0_1 : List (List S)) (a0_2 : List (List S)) (a0_3 : List (List S)) : pureV (call Ev) Fn.impl_txFault [.agg [.int .i64 a0_0, .fs a0_1, .fs a0_2, .fs a0_3]] =
  (Lp.impl_txFault 0 [pv 0 0, lv a0_1, iv .i64 (a0_1.length : Int), iv .i64 0] ((D 0).new 0 [.int .i64 a0_0, .fs a0_1, .fs a0_2, .fs a0_3])).bind fun o101 => lcase o101 (fun l102 h103 =>
  (l102[0]?).bind fun w106 =>
  (padd 2 w106).bind fun v107 =>
  ldK (.one (.f)) ⟨1, 24, [.sl none 0], false, .sl 2, false⟩ h103 v107 fun v108 =>
  (lenV (.sl 2) v108).bind fun v109 =>
  gV1 v109 fun x110 =>
  gI .i64 x110 fun i111 =>
  vcase (bv (decide (i111 > 8)))
  (Jn.impl_txFault_0 true w106 h103)
  ((padd 3 w106).bind fun v114 =>
  ldK (.one (.f)) ⟨1, 24, [.sl none 0], false, .sl 79, false⟩ h103 v114 fun v115 =>
  (lenV (.sl 79) v115).bind fun v116 =>
  gV1 v116 fun x117 =>
  gI .i64 x117 fun i118 =>
  Jn.impl_txFault_0 (decide (i118 > 12)) w106 h103)) (fun v104 h105 =>
  frzV h105 v104) := by
  rw [pure_eq]; kernel_rfl

theorem eq_impl_txFault_l0 (s1 : V) (s12 : V) (s13 : Int) (s14 : Int) (h : H) : Lp.impl_txFault 0 [s1, s12, iv .i64 s13, iv .i64 s14] h =
  vcase (bv (decide (s14 < s13)))
  (idxK 10 s12 (iv .i64 s14) fun v203 =>
  ldK (.agg [.b, .i .i64, .i .i64, .i .i64, .s, .b, .i .i64, .i .i64, .i .i64, .s]) ⟨10, 96, [.bool false, .int .i64 0, .int .i64 0, .int .i64 0, .str ⟨#[]⟩, .bool false, .int .i64 0, .int .i64 0, .int .i64 0, .str ⟨#[]⟩], true, .st [(0, 4), (1, 39), (5, 4), (6, 39)], true⟩ h v203 fun v204 =>
  gVA v204 fun c205 =>
  (c205[0]?).bind fun x206 =>
  gB x206 fun q207 =>
  (c205[1]?).bind fun x208 =>
  gI .i64 x208 fun i209 =>
  (c205[2]?).bind fun x210 =>
  gI .i64 x210 fun i211 =>
  (c205[3]?).bind fun x212 =>
  gI .i64 x212 fun i213 =>
  (c205[4]?).bind fun x214 =>
  gS x214 fun y215 =>
  (c205[5]?).bind fun x216 =>
  gB x216 fun q217 =>
  (c205[6]?).bind fun x218 =>
  gI .i64 x218 fun i219 =>
  (c205[7]?).bind fun x220 =>
  gI .i64 x220 fun i221 =>
  (c205[8]?).bind fun x222 =>
  gI .i64 x222 fun i223 =>
  (c205[9]?).bind fun x224 =>
  gS x224 fun y225 =>
  if c205.length = 10 then
  stK 10 (h.new 0 [.bool false, .int .i64 0, .int .i64 0, .int .i64 0, .str (⟨#[]⟩), .bool false, .int .i64 0, .int .i64 0, .int .i64 0, .str (⟨#[]⟩)]) (pv h.n 0) (.agg [.bool q207, .int .i64 i209, .int .i64 i211, .int .i64 i213, .str y215, .bool q217, .int .i64 i219, .int .i64 i221, .int .i64 i223, .str y225]) fun h226 =>
  (loadN 10 h226 (pv h.n 0)).bind fun c227 =>
  (c227[0]?).bind fun x228 =>
  gB x228 fun q229 =>
  (c227[1]?).bind fun x230 =>
  gI .i64 x230 fun i231 =>
  (c227[2]?).bind fun x232 =>
  gI .i64 x232 fun i233 =>
  (c227[3]?).bind fun x234 =>
  gI .i64 x234 fun i235 =>
  (c227[4]?).bind fun x236 =>
  gS x236 fun y237 =>
  (c227[5]?).bind fun x238 =>
  gB x238 fun q239 =>
  (c227[6]?).bind fun x240 =>
  gI .i64 x240 fun i241 =>
  (c227[7]?).bind fun x242 =>
  gI .i64 x242 fun i243 =>
  (c227[8]?).bind fun x244 =>
  gI .i64 x244 fun i245 =>
  (c227[9]?).bind fun x246 =>
  gS x246 fun y247 =>
  if c227.length = 10 then
  pcallS (call Ev) Fn.impl_singleFault [.agg [.bool q229, .int .i64 i231, .int .i64 i233, .int .i64 i235, .str y237, .bool q239, .int .i64 i241, .int .i64 i243, .int .i64 i245, .str y247]] fun v248 =>
  gV1 v248 fun x249 =>
  gI .i64 x249 fun i250 =>
  vcase (bv (i250 != 0))
  (some (.ret (iv .i64 i250) h226))
  ((padd 3 s1).bind fun v252 =>
  ldK (.one (.f)) ⟨1, 24, [.sl none 0], false, .sl 79, false⟩ h226 v252 fun v253 =>
  (loadN 10 h226 (pv h.n 0)).bind fun c254 =>
  (c254[0]?).bind fun x255 =>
  gB x255 fun q256 =>
  (c254[1]?).bind fun x257 =>
  gI .i64 x257 fun i258 =>
  (c254[2]?).bind fun x259 =>
  gI .i64 x259 fun i260 =>
  (c254[3]?).bind fun x261 =>
  gI .i64 x261 fun i262 =>
  (c254[4]?).bind fun x263 =>
  gS x263 fun y264 =>
  (c254[5]?).bind fun x265 =>
  gB x265 fun q266 =>
  (c254[6]?).bind fun x267 =>
  gI .i64 x267 fun i268 =>
  (c254[7]?).bind fun x269 =>
  gI .i64 x269 fun i270 =>
  (c254[8]?).bind fun x271 =>
  gI .i64 x271 fun i272 =>
  (c254[9]?).bind fun x273 =>
  gS x273 fun y274 =>
  if c254.length = 10 then
  pcallS (call Ev) Fn.impl_Change_lock [.agg [.bool q256, .int .i64 i258, .int .i64 i260, .int .i64 i262, .str y264, .bool q266, .int .i64 i268, .int .i64 i270, .int .i64 i272, .str y274]] fun v275 =>
  gVA v275 fun c276 =>
  (c276[0]?).bind fun x277 =>
  gI .i64 x277 fun i278 =>
  (c276[1]?).bind fun x279 =>
  gI .i64 x279 fun i280 =>
  if c276.length = 2 then
  hchk h226 h226 (
  (frzVs h226 [v253, .agg [.int .i64 i278, .int .i64 i280]]).bind fun l281 =>
  pcallS (call Ev) Fn.slices_Contains_impl_Key_impl_Key (normVs [] l281) fun v282 =>
  gV1 v282 fun x283 =>
  gB x283 fun q284 =>
  hchk h226 h226 (
  vcase (bv (!q284))
  (some (.ret (iv .i64 8) h226))
  (Lp.impl_txFault 0 [s1, s12, iv .i64 s13, iv .i64 (IntKind.i64.wrap (s14 + 1))] (tidy h [s1, s12, iv .i64 s13, iv .i64 (IntKind.i64.wrap (s14 + 1))] h226))))
  else none
  else none)
  else none
  else none)
  (some (.done [s1] (tidy h [s1] h))) := by
  unfold Lp.impl_txFault; rw [loop_eq]; kernel_rfl

theorem eq_impl_txFault_l2 (s1 : V) (s6 : Int) (s41 : V) (s42 : Int) (s43 : Int) (h : H) : Lp.impl_txFault 2 [s1, iv .i64 s6, s41, iv .i64 s42, iv .i64 s43] h =
  vcase (bv (decide (s43 < s42)))
  (idxK 1 s41 (iv .i64 s43) fun v403 =>
  ldK (.one (.i .i64)) ⟨1, 8, [.int .i64 0], false, .int .i64, false⟩ h v403 fun v404 =>
  gV1 v404 fun x405 =>
  gI .i64 x405 fun i406 =>
  (padd 1 s1).bind fun v407 =>
  ldK (.one (.f)) ⟨1, 24, [.sl none 0], false, .sl 41, false⟩ h v407 fun v408 =>
  (lenV (.sl 41) v408).bind fun v409 =>
  gV1 v409 fun x410 =>
  gI .i64 x410 fun i411 =>
  pcallS (call Ev) Fn.impl_in [iv .i64 i406, iv .i64 s6, iv .i64 i411] fun v412 =>
  gV1 v412 fun x413 =>
  gB x413 fun q414 =>
  vcase (bv (!q414))
  (some (.ret (iv .i64 3) h))
  (Lp.impl_txFault 2 [s1, iv .i64 i406, s41, iv .i64 s42, iv .i64 (IntKind.i64.wrap (s43 + 1))] (tidy h [s1, iv .i64 i406, s41, iv .i64 s42, iv .i64 (IntKind.i64.wrap (s43 + 1))] h)))
  (some (.done [s1] (tidy h [s1] h))) := by
  unfold Lp.impl_txFault; rw [loop_eq]; kernel_rfl

theorem eq_impl_txFault_l4 (s1 : V) (s57 : V) (s58 : Int) (s59 : Int) (h : H) : Lp.impl_txFault 4 [s1, s57, iv .i64 s58, iv .i64 s59] h =
  vcase (bv (decide (s59 < s58)))
  (idxK 2 s57 (iv .i64 s59) fun v603 =>
  ldK (.agg [.i .i64, .i .i64]) ⟨2, 16, [.int .i64 0, .int .i64 0], true, .st [(0, 2), (1, 2)], true⟩ h v603 fun v604 =>
  gVA v604 fun c605 =>
  (c605[0]?).bind fun x606 =>
  gI .i64 x606 fun i607 =>
  (c605[1]?).bind fun x608 =>
  gI .i64 x608 fun i609 =>
  if c605.length = 2 then
  stK 2 (h.new 0 [.int .i64 0, .int .i64 0]) (pv h.n 0) (.agg [.int .i64 i607, .int .i64 i609]) fun h610 =>
  (load1 h610 (pv h.n 0)).bind fun x611 =>
  gI .i64 x611 fun i612 =>
  (load1 h610 (pv h.n 1)).bind fun x613 =>
  gI .i64 x613 fun i614 =>
  pcallS (call Ev) Fn.impl_isKey [iv .i64 i612, iv .i64 i614] fun v615 =>
  gV1 v615 fun x616 =>
  gB x616 fun q617 =>
  vcase (bv (!q617))
  (some (.ret (iv .i64 3) h610))
  ((padd 3 s1).bind fun v619 =>
  ldK (.one (.f)) ⟨1, 24, [.sl none 0], false, .sl 79, false⟩ h610 v619 fun v620 =>
  slK 2 h610 v620 none (some (iv .i64 s59)) fun v621 =>
  (loadN 2 h610 (pv h.n 0)).bind fun c622 =>
  (c622[0]?).bind fun x623 =>
  gI .i64 x623 fun i624 =>
  (c622[1]?).bind fun x625 =>
  gI .i64 x625 fun i626 =>
  if c622.length = 2 then
  (frzVs h610 [v621, .agg [.int .i64 i624, .int .i64 i626]]).bind fun l627 =>
  pcallS (call Ev) Fn.slices_Contains_impl_Key_impl_Key (normVs [] l627) fun v628 =>
  gV1 v628 fun x629 =>
  gB x629 fun q630 =>
  hchk h610 h610 (
  vcase (bv q630)
  (some (.ret (iv .i64 6) h610))
  (Lp.impl_txFault 4 [s1, s57, iv .i64 s58, iv .i64 (IntKind.i64.wrap (s59 + 1))] (tidy h [s1, s57, iv .i64 s58, iv .i64 (IntKind.i64.wrap (s59 + 1))] h610)))
  else none)
  else none)
  (some (.done [] (tidy h [] h))) := by
  unfold Lp.impl_txFault; rw [loop_eq]; kernel_rfl

theorem pu_impl_undone (a0 : List (List S)) : pureV (call Ev) Fn.impl_undone [lv a0] =
  (Lp.impl_undone 0 [iv .i64 0, lv a0, iv .i64 (a0.length : Int), iv .i64 0] (D 0)).bind fun o101 => lcase o101 (fun l102 h103 =>
  (l102[0]?).bind fun w106 =>
  gV1 w106 fun x107 =>
  gI .i64 x107 fun i108 =>
  some (iv .i64 i108)) (fun v104 h105 =>
  frzV h105 v104) := by
  rw [pure_eq]; kernel_rfl

theorem eq_impl_undone_l0 (s3 : Int) (s6 : List (List S)) (s7 : Int) (s8 : Int) (h : H) : Lp.impl_undone 0 [iv .i64 s3, lv s6, iv .i64 s7, iv .i64 s8] h =
  vcase (bv (decide (s8 < s7)))
  (idxF 4 s6 s8 fun r203 =>
  (rowN 4 r203 0).bind fun c204 =>
  (c204[0]?).bind fun x205 =>
  gI .i64 x205 fun i206 =>
  (c204[1]?).bind fun x207 =>
  gF x207 fun z208 =>
  (c204[2]?).bind fun x209 =>
  gF x209 fun z210 =>
  (c204[3]?).bind fun x211 =>
  gF x211 fun z212 =>
  if c204.length = 4 then
  stK 4 (h.new 0 [.int .i64 0, .sl none 0, .sl none 0, .sl none 0]) (pv h.n 0) (.agg [.int .i64 i206, .fs z208, .fs z210, .fs z212]) fun h213 =>
  (load1 h213 (pv h.n 1)).bind fun x214 =>
  (lenV (.sl 41) (.s x214)).bind fun v215 =>
  gV1 v215 fun x216 =>
  gI .i64 x216 fun i217 =>
  Lp.impl_undone 0 [iv .i64 (IntKind.i64.wrap (s3 + i217)), lv s6, iv .i64 s7, iv .i64 (IntKind.i64.wrap (s8 + 1))] (tidy h [iv .i64 (IntKind.i64.wrap (s3 + i217)), lv s6, iv .i64 s7, iv .i64 (IntKind.i64.wrap (s8 + 1))] h213)
  else none)
  (some (.done [iv .i64 s3] (tidy h [iv .i64 s3] h))) := by
  unfold Lp.impl_undone; rw [loop_eq]; kernel_rfl

theorem pu_impl_TxsFault (a0 : List (List S)) : pureV (call Ev) Fn.impl_TxsFault [lv a0] =
  vcase (bv (decide ((a0.length : Int) > 4)))
  (some (iv .i64 2))
  ((Lp.impl_TxsFault 0 [lv a0, lv a0, iv .i64 (a0.length : Int), iv .i64 0] (D 0)).bind fun o102 => lcase o102 (fun l103 h104 =>
  (l103[0]?).bind fun w107 =>
  gV1 w107 fun x108 =>
  gF x108 fun z109 =>
  (Lp.impl_TxsFault 2 [lv z109, .s (.mp (some h104.n)), lv z109, iv .i64 (z109.length : Int), iv .i64 0] h104.newM).bind fun o110 => lcase o110 (fun l111 h112 =>
  (l111[0]?).bind fun w115 =>
  gV1 w115 fun x116 =>
  gF x116 fun z117 =>
  pcallS (call Ev) Fn.impl_undone [lv z117] fun v118 =>
  gV1 v118 fun x119 =>
  gI .i64 x119 fun i120 =>
  vcase (bv (decide (i120 > 12)))
  (some (iv .i64 2))
  (some (iv .i64 0))) (fun v113 h114 =>
  frzV h114 v113)) (fun v105 h106 =>
  frzV h106 v105)) := by
  rw [pure_eq]; kernel_rfl

theorem eq_impl_TxsFault_l0 (s0 : List (List S)) (s14 : List (List S)) (s15 : Int) (s16 : Int) (h : H) : Lp.impl_TxsFault 0 [lv s0, lv s14, iv .i64 s15, iv .i64 s16] h =
  vcase (bv (decide (s16 < s15)))
  (idxF 4 s14 s16 fun r203 =>
  (rowN 4 r203 0).bind fun c204 =>
  (c204[0]?).bind fun x205 =>
  gI .i64 x205 fun i206 =>
  (c204[1]?).bind fun x207 =>
  gF x207 fun z208 =>
  (c204[2]?).bind fun x209 =>
  gF x209 fun z210 =>
  (c204[3]?).bind fun x211 =>
  gF x211 fun z212 =>
  if c204.length = 4 then
  stK 4 (h.new 0 [.int .i64 0, .sl none 0, .sl none 0, .sl none 0]) (pv h.n 0) (.agg [.int .i64 i206, .fs z208, .fs z210, .fs z212]) fun h213 =>
  (load1 h213 (pv h.n 0)).bind fun x214 =>
  gI .i64 x214 fun i215 =>
  pcallS (call Ev) Fn.impl_isTx [iv .i64 i215] fun v216 =>
  gV1 v216 fun x217 =>
  gB x217 fun q218 =>
  vcase (bv (!q218))
  (some (.ret (iv .i64 3) h213))
  (vcase (bv (decide (s16 > 0)))
  (idxF 4 s0 (IntKind.i64.wrap (s16 - 1)) fun r221 =>
  (r221[0]?).bind fun x222 =>
  gI .i64 x222 fun i223 =>
  (load1 h213 (pv h.n 0)).bind fun x224 =>
  gI .i64 x224 fun i225 =>
  vcase (bv (decide (i223 ≥ i225)))
  (some (.ret (iv .i64 1) h213))
  ((loadN 4 h213 (pv h.n 0)).bind fun c229 =>
  (c229[0]?).bind fun x230 =>
  gI .i64 x230 fun i231 =>
  (c229[1]?).bind fun x232 =>
  (c229[2]?).bind fun x233 =>
  (c229[3]?).bind fun x234 =>
  if c229.length = 4 then
  (frzVs h213 [.agg [.int .i64 i231, x232, x233, x234]]).bind fun l235 =>
  pcallS (call Ev) Fn.impl_txFault (normVs [] l235) fun v236 =>
  gV1 v236 fun x237 =>
  gI .i64 x237 fun i238 =>
  vcase (bv (i238 != 0))
  (some (.ret (iv .i64 i238) h213))
  (Lp.impl_TxsFault 0 [lv s0, lv s14, iv .i64 s15, iv .i64 (IntKind.i64.wrap (s16 + 1))] (tidy h [lv s0, lv s14, iv .i64 s15, iv .i64 (IntKind.i64.wrap (s16 + 1))] h213))
  else none))
  ((loadN 4 h213 (pv h.n 0)).bind fun c241 =>
  (c241[0]?).bind fun x242 =>
  gI .i64 x242 fun i243 =>
  (c241[1]?).bind fun x244 =>
  (c241[2]?).bind fun x245 =>
  (c241[3]?).bind fun x246 =>
  if c241.length = 4 then
  (frzVs h213 [.agg [.int .i64 i243, x244, x245, x246]]).bind fun l247 =>
  pcallS (call Ev) Fn.impl_txFault (normVs [] l247) fun v248 =>
  gV1 v248 fun x249 =>
  gI .i64 x249 fun i250 =>
  vcase (bv (i250 != 0))
  (some (.ret (iv .i64 i250) h213))
  (Lp.impl_TxsFault 0 [lv s0, lv s14, iv .i64 s15, iv .i64 (IntKind.i64.wrap (s16 + 1))] (tidy h [lv s0, lv s14, iv .i64 s15, iv .i64 (IntKind.i64.wrap (s16 + 1))] h213))
  else none))
  else none)
  (some (.done [lv s0] (tidy h [lv s0] h))) := by
  unfold Lp.impl_TxsFault; rw [loop_eq]; kernel_rfl

theorem eq_impl_TxsFault_l2 (s0 : List (List S)) (s6 : V) (s45 : List (List S)) (s46 : Int) (s47 : Int) (h : H) : Lp.impl_TxsFault 2 [lv s0, s6, lv s45, iv .i64 s46, iv .i64 s47] h =
  vcase (bv (decide (s47 < s46)))
  (idxF 4 s45 s47 fun r403 =>
  (rowN 4 r403 0).bind fun c404 =>
  (c404[0]?).bind fun x405 =>
  gI .i64 x405 fun i406 =>
  (c404[1]?).bind fun x407 =>
  gF x407 fun z408 =>
  (c404[2]?).bind fun x409 =>
  gF x409 fun z410 =>
  (c404[3]?).bind fun x411 =>
  gF x411 fun z412 =>
  if c404.length = 4 then
  stK 4 (h.new 0 [.int .i64 0, .sl none 0, .sl none 0, .sl none 0]) (pv h.n 0) (.agg [.int .i64 i406, .fs z408, .fs z410, .fs z412]) fun h413 =>
  (load1 h413 (pv h.n 3)).bind fun x414 =>
  (lenV (.sl 79) (.s x414)).bind fun v415 =>
  gV1 v415 fun x416 =>
  gI .i64 x416 fun i417 =>
  (Lp.impl_TxsFault 4 [lv s0, s6, lv s45, iv .i64 s46, iv .i64 s47, .s x414, iv .i64 i417, iv .i64 0] h413).bind fun o418 => lcase o418 (fun l419 h420 =>
  (l419[0]?).bind fun w423 =>
  gV1 w423 fun x424 =>
  gF x424 fun z425 =>
  (l419[1]?).bind fun w426 =>
  (l419[2]?).bind fun w427 =>
  gV1 w427 fun x428 =>
  gF x428 fun z429 =>
  (l419[3]?).bind fun w430 =>
  gV1 w430 fun x431 =>
  gI .i64 x431 fun i432 =>
  (l419[4]?).bind fun w433 =>
  gV1 w433 fun x434 =>
  gI .i64 x434 fun i435 =>
  Lp.impl_TxsFault 2 [lv z425, w426, lv z429, iv .i64 i432, iv .i64 (IntKind.i64.wrap (i435 + 1))] (tidy h [lv z425, w426, lv z429, iv .i64 i432, iv .i64 (IntKind.i64.wrap (i435 + 1))] h420)) (fun v421 h422 =>
  some (.ret v421 h422))
  else none)
  (some (.done [lv s0] (tidy h [lv s0] h))) := by
  unfold Lp.impl_TxsFault; rw [loop_eq]; kernel_rfl

theorem eq_impl_TxsFault_l4 (s0 : List (List S)) (s6 : V) (s45 : List (List S)) (s46 : Int) (s47 : Int) (s52 : V) (s53 : Int) (s54 : Int) (h : H) : Lp.impl_TxsFault 4 [lv s0, s6, lv s45, iv .i64 s46, iv .i64 s47, s52, iv .i64 s53, iv .i64 s54] h =
  vcase (bv (decide (s54 < s53)))
  (idxK 2 s52 (iv .i64 s54) fun v603 =>
  ldK (.agg [.i .i64, .i .i64]) ⟨2, 16, [.int .i64 0, .int .i64 0], true, .st [(0, 2), (1, 2)], true⟩ h v603 fun v604 =>
  gVA v604 fun c605 =>
  (c605[0]?).bind fun x606 =>
  gI .i64 x606 fun i607 =>
  (c605[1]?).bind fun x608 =>
  gI .i64 x608 fun i609 =>
  if c605.length = 2 then
  stK 2 (h.new 0 [.int .i64 0, .int .i64 0]) (pv h.n 0) (.agg [.int .i64 i607, .int .i64 i609]) fun h610 =>
  (loadN 2 h610 (pv h.n 0)).bind fun c611 =>
  (c611[0]?).bind fun x612 =>
  gI .i64 x612 fun i613 =>
  (c611[1]?).bind fun x614 =>
  gI .i64 x614 fun i615 =>
  if c611.length = 2 then
  (lookM Ev 143 false h610 s6 (.agg [.int .i64 i613, .int .i64 i615])).bind fun v616 =>
  gV1 v616 fun x617 =>
  gB x617 fun q618 =>
  vcase (bv q618)
  (some (.ret (iv .i64 7) h610))
  ((loadN 2 h610 (pv h.n 0)).bind fun c620 =>
  (c620[0]?).bind fun x621 =>
  gI .i64 x621 fun i622 =>
  (c620[1]?).bind fun x623 =>
  gI .i64 x623 fun i624 =>
  if c620.length = 2 then
  (updM Ev 143 h610 s6 (.agg [.int .i64 i622, .int .i64 i624]) (bv true)).bind fun h625 =>
  Lp.impl_TxsFault 4 [lv s0, s6, lv s45, iv .i64 s46, iv .i64 s47, s52, iv .i64 s53, iv .i64 (IntKind.i64.wrap (s54 + 1))] (tidy h [lv s0, s6, lv s45, iv .i64 s46, iv .i64 s47, s52, iv .i64 s53, iv .i64 (IntKind.i64.wrap (s54 + 1))] h625)
  else none)
  else none
  else none)
  (some (.done [lv s0, s6, lv s45, iv .i64 s46, iv .i64 s47] (tidy h [lv s0, s6, lv s45, iv .i64 s46, iv .i64 s47] h))) := by
  unfold Lp.impl_TxsFault; rw [loop_eq]; kernel_rfl

theorem pu_laws_eqRow (a0_0 : Int) (a0_1 : Int) (a0_2 : Int) (a0_3 : ByteArray) (a1_0 : Int) (a1_1 : Int) (a1_2 : Int) (a1_3 : ByteArray) : pureV (call Ev) Fn.laws_eqRow [.agg [.int .i64 a0_0, .int .i64 a0_1, .int .i64 a0_2, .str a0_3], .agg [.int .i64 a1_0, .int .i64 a1_1, .int .i64 a1_2, .str a1_3]] =
  vcase (bv (a0_0 != a1_0))
  (some (bv false))
  (vcase (bv (a0_1 != a1_1))
  (some (bv false))
  (vcase (bv (a0_2 != a1_2))
  (some (bv false))
  (vcase (bv (!((a0_3 : ByteArray).toList == (a1_3 : ByteArray).toList)))
  (some (bv false))
  (some (bv true))))) := by
  rw [pure_eq]; kernel_rfl

theorem pu_laws_eqChange (a0_0 : Bool) (a0_1 : Int) (a0_2 : Int) (a0_3 : Int) (a0_4 : ByteArray) (a0_5 : Bool) (a0_6 : Int) (a0_7 : Int) (a0_8 : Int) (a0_9 : ByteArray) (a1_0 : Bool) (a1_1 : Int) (a1_2 : Int) (a1_3 : Int) (a1_4 : ByteArray) (a1_5 : Bool) (a1_6 : Int) (a1_7 : Int) (a1_8 : Int) (a1_9 : ByteArray) : pureV (call Ev) Fn.laws_eqChange [.agg [.bool a0_0, .int .i64 a0_1, .int .i64 a0_2, .int .i64 a0_3, .str a0_4, .bool a0_5, .int .i64 a0_6, .int .i64 a0_7, .int .i64 a0_8, .str a0_9], .agg [.bool a1_0, .int .i64 a1_1, .int .i64 a1_2, .int .i64 a1_3, .str a1_4, .bool a1_5, .int .i64 a1_6, .int .i64 a1_7, .int .i64 a1_8, .str a1_9]] =
  vcase (bv (!(a0_0 == a1_0)))
  (some (bv false))
  (pcallS (call Ev) Fn.laws_eqRow [.agg [.int .i64 a0_1, .int .i64 a0_2, .int .i64 a0_3, .str a0_4], .agg [.int .i64 a1_1, .int .i64 a1_2, .int .i64 a1_3, .str a1_4]] fun v102 =>
  gV1 v102 fun x103 =>
  gB x103 fun q104 =>
  vcase (bv (!q104))
  (some (bv false))
  (vcase (bv (!(a0_5 == a1_5)))
  (some (bv false))
  (pcallS (call Ev) Fn.laws_eqRow [.agg [.int .i64 a0_6, .int .i64 a0_7, .int .i64 a0_8, .str a0_9], .agg [.int .i64 a1_6, .int .i64 a1_7, .int .i64 a1_8, .str a1_9]] fun v107 =>
  gV1 v107 fun x108 =>
  gB x108 fun q109 =>
  vcase (bv (!q109))
  (some (bv false))
  (some (bv true))))) := by
  rw [pure_eq]; kernel_rfl

theorem pu_laws_eqChangeS (a0 : List (List S)) (a1 : List (List S)) : pureV (call Ev) Fn.laws_eqChangeS [lv a0, lv a1] =
  vcase (bv ((a0.length : Int) != (a1.length : Int)))
  (some (bv false))
  ((Lp.laws_eqChangeS 0 [lv a0, lv a1, iv .i64 0] (D 0)).bind fun o102 => lcase o102 (fun l103 h104 =>
  some (bv true)) (fun v105 h106 =>
  frzV h106 v105)) := by
  rw [pure_eq]; kernel_rfl

theorem eq_laws_eqChangeS_l0 (s0 : List (List S)) (s1 : List (List S)) (s5 : Int) (h : H) : Lp.laws_eqChangeS 0 [lv s0, lv s1, iv .i64 s5] h =
  vcase (bv (decide (s5 < (s0.length : Int))))
  (idxF 10 s0 s5 fun r203 =>
  (rowN 10 r203 0).bind fun c204 =>
  (c204[0]?).bind fun x205 =>
  gB x205 fun q206 =>
  (c204[1]?).bind fun x207 =>
  gI .i64 x207 fun i208 =>
  (c204[2]?).bind fun x209 =>
  gI .i64 x209 fun i210 =>
  (c204[3]?).bind fun x211 =>
  gI .i64 x211 fun i212 =>
  (c204[4]?).bind fun x213 =>
  gS x213 fun y214 =>
  (c204[5]?).bind fun x215 =>
  gB x215 fun q216 =>
  (c204[6]?).bind fun x217 =>
  gI .i64 x217 fun i218 =>
  (c204[7]?).bind fun x219 =>
  gI .i64 x219 fun i220 =>
  (c204[8]?).bind fun x221 =>
  gI .i64 x221 fun i222 =>
  (c204[9]?).bind fun x223 =>
  gS x223 fun y224 =>
  if c204.length = 10 then
  idxF 10 s1 s5 fun r225 =>
  (rowN 10 r225 0).bind fun c226 =>
  (c226[0]?).bind fun x227 =>
  gB x227 fun q228 =>
  (c226[1]?).bind fun x229 =>
  gI .i64 x229 fun i230 =>
  (c226[2]?).bind fun x231 =>
  gI .i64 x231 fun i232 =>
  (c226[3]?).bind fun x233 =>
  gI .i64 x233 fun i234 =>
  (c226[4]?).bind fun x235 =>
  gS x235 fun y236 =>
  (c226[5]?).bind fun x237 =>
  gB x237 fun q238 =>
  (c226[6]?).bind fun x239 =>
  gI .i64 x239 fun i240 =>
  (c226[7]?).bind fun x241 =>
  gI .i64 x241 fun i242 =>
  (c226[8]?).bind fun x243 =>
  gI .i64 x243 fun i244 =>
  (c226[9]?).bind fun x245 =>
  gS x245 fun y246 =>
  if c226.length = 10 then
  pcallS (call Ev) Fn.laws_eqChange [.agg [.bool q206, .int .i64 i208, .int .i64 i210, .int .i64 i212, .str y214, .bool q216, .int .i64 i218, .int .i64 i220, .int .i64 i222, .str y224], .agg [.bool q228, .int .i64 i230, .int .i64 i232, .int .i64 i234, .str y236, .bool q238, .int .i64 i240, .int .i64 i242, .int .i64 i244, .str y246]] fun v247 =>
  gV1 v247 fun x248 =>
  gB x248 fun q249 =>
  hchk h h (
  vcase (bv (!q249))
  (some (.ret (bv false) h))
  (Lp.laws_eqChangeS 0 [lv s0, lv s1, iv .i64 (IntKind.i64.wrap (s5 + 1))] (tidy h [lv s0, lv s1, iv .i64 (IntKind.i64.wrap (s5 + 1))] h)))
  else none
  else none)
  (some (.done [] (tidy h [] h))) := by
  unfold Lp.laws_eqChangeS; rw [loop_eq]; kernel_rfl

theorem pu_laws_eqInt64S (a0 : List (List S)) (a1 : List (List S)) : pureV (call Ev) Fn.laws_eqInt64S [lv a0, lv a1] =
  vcase (bv ((a0.length : Int) != (a1.length : Int)))
  (some (bv false))
  ((Lp.laws_eqInt64S 0 [lv a0, lv a1, iv .i64 0] (D 0)).bind fun o102 => lcase o102 (fun l103 h104 =>
  some (bv true)) (fun v105 h106 =>
  frzV h106 v105)) := by
  rw [pure_eq]; kernel_rfl

theorem eq_laws_eqInt64S_l0 (s0 : List (List S)) (s1 : List (List S)) (s5 : Int) (h : H) : Lp.laws_eqInt64S 0 [lv s0, lv s1, iv .i64 s5] h =
  vcase (bv (decide (s5 < (s0.length : Int))))
  (idxF 1 s0 s5 fun r203 =>
  (r203[0]?).bind fun x204 =>
  gI .i64 x204 fun i205 =>
  idxF 1 s1 s5 fun r206 =>
  (r206[0]?).bind fun x207 =>
  gI .i64 x207 fun i208 =>
  vcase (bv (i205 != i208))
  (some (.ret (bv false) h))
  (Lp.laws_eqInt64S 0 [lv s0, lv s1, iv .i64 (IntKind.i64.wrap (s5 + 1))] (tidy h [lv s0, lv s1, iv .i64 (IntKind.i64.wrap (s5 + 1))] h)))
  (some (.done [] (tidy h [] h))) := by
  unfold Lp.laws_eqInt64S; rw [loop_eq]; kernel_rfl

theorem pu_laws_eqKey (a0_0 : Int) (a0_1 : Int) (a1_0 : Int) (a1_1 : Int) : pureV (call Ev) Fn.laws_eqKey [.agg [.int .i64 a0_0, .int .i64 a0_1], .agg [.int .i64 a1_0, .int .i64 a1_1]] =
  vcase (bv (a0_0 != a1_0))
  (some (bv false))
  (vcase (bv (a0_1 != a1_1))
  (some (bv false))
  (some (bv true))) := by
  rw [pure_eq]; kernel_rfl

theorem pu_laws_eqKeyS (a0 : List (List S)) (a1 : List (List S)) : pureV (call Ev) Fn.laws_eqKeyS [lv a0, lv a1] =
  vcase (bv ((a0.length : Int) != (a1.length : Int)))
  (some (bv false))
  ((Lp.laws_eqKeyS 0 [lv a0, lv a1, iv .i64 0] (D 0)).bind fun o102 => lcase o102 (fun l103 h104 =>
  some (bv true)) (fun v105 h106 =>
  frzV h106 v105)) := by
  rw [pure_eq]; kernel_rfl

theorem eq_laws_eqKeyS_l0 (s0 : List (List S)) (s1 : List (List S)) (s5 : Int) (h : H) : Lp.laws_eqKeyS 0 [lv s0, lv s1, iv .i64 s5] h =
  vcase (bv (decide (s5 < (s0.length : Int))))
  (idxF 2 s0 s5 fun r203 =>
  (rowN 2 r203 0).bind fun c204 =>
  (c204[0]?).bind fun x205 =>
  gI .i64 x205 fun i206 =>
  (c204[1]?).bind fun x207 =>
  gI .i64 x207 fun i208 =>
  if c204.length = 2 then
  idxF 2 s1 s5 fun r209 =>
  (rowN 2 r209 0).bind fun c210 =>
  (c210[0]?).bind fun x211 =>
  gI .i64 x211 fun i212 =>
  (c210[1]?).bind fun x213 =>
  gI .i64 x213 fun i214 =>
  if c210.length = 2 then
  pcallS (call Ev) Fn.laws_eqKey [.agg [.int .i64 i206, .int .i64 i208], .agg [.int .i64 i212, .int .i64 i214]] fun v215 =>
  gV1 v215 fun x216 =>
  gB x216 fun q217 =>
  hchk h h (
  vcase (bv (!q217))
  (some (.ret (bv false) h))
  (Lp.laws_eqKeyS 0 [lv s0, lv s1, iv .i64 (IntKind.i64.wrap (s5 + 1))] (tidy h [lv s0, lv s1, iv .i64 (IntKind.i64.wrap (s5 + 1))] h)))
  else none
  else none)
  (some (.done [] (tidy h [] h))) := by
  unfold Lp.laws_eqKeyS; rw [loop_eq]; kernel_rfl

theorem pu_laws_eqTx (a0_0 : Int) (a0_1 : List (List S)) (a0_2 : List (List S)) (a0_3 : List (List S)) (a1_0 : Int) (a1_1 : List (List S)) (a1_2 : List (List S)) (a1_3 : List (List S)) : pureV (call Ev) Fn.laws_eqTx [.agg [.int .i64 a0_0, .fs a0_1, .fs a0_2, .fs a0_3], .agg [.int .i64 a1_0, .fs a1_1, .fs a1_2, .fs a1_3]] =
  vcase (bv (a0_0 != a1_0))
  (some (bv false))
  (pcallS (call Ev) Fn.laws_eqChangeS [lv a0_1, lv a1_1] fun v102 =>
  gV1 v102 fun x103 =>
  gB x103 fun q104 =>
  vcase (bv (!q104))
  (some (bv false))
  (pcallS (call Ev) Fn.laws_eqInt64S [lv a0_2, lv a1_2] fun v106 =>
  gV1 v106 fun x107 =>
  gB x107 fun q108 =>
  vcase (bv (!q108))
  (some (bv false))
  (pcallS (call Ev) Fn.laws_eqKeyS [lv a0_3, lv a1_3] fun v110 =>
  gV1 v110 fun x111 =>
  gB x111 fun q112 =>
  vcase (bv (!q112))
  (some (bv false))
  (some (bv true))))) := by
  rw [pure_eq]; kernel_rfl

theorem pu_laws_eqTxS (a0 : List (List S)) (a1 : List (List S)) : pureV (call Ev) Fn.laws_eqTxS [lv a0, lv a1] =
  vcase (bv ((a0.length : Int) != (a1.length : Int)))
  (some (bv false))
  ((Lp.laws_eqTxS 0 [lv a0, lv a1, iv .i64 0] (D 0)).bind fun o102 => lcase o102 (fun l103 h104 =>
  some (bv true)) (fun v105 h106 =>
  frzV h106 v105)) := by
  rw [pure_eq]; kernel_rfl

theorem eq_laws_eqTxS_l0 (s0 : List (List S)) (s1 : List (List S)) (s5 : Int) (h : H) : Lp.laws_eqTxS 0 [lv s0, lv s1, iv .i64 s5] h =
  vcase (bv (decide (s5 < (s0.length : Int))))
  (idxF 4 s0 s5 fun r203 =>
  (rowN 4 r203 0).bind fun c204 =>
  (c204[0]?).bind fun x205 =>
  gI .i64 x205 fun i206 =>
  (c204[1]?).bind fun x207 =>
  gF x207 fun z208 =>
  (c204[2]?).bind fun x209 =>
  gF x209 fun z210 =>
  (c204[3]?).bind fun x211 =>
  gF x211 fun z212 =>
  if c204.length = 4 then
  idxF 4 s1 s5 fun r213 =>
  (rowN 4 r213 0).bind fun c214 =>
  (c214[0]?).bind fun x215 =>
  gI .i64 x215 fun i216 =>
  (c214[1]?).bind fun x217 =>
  gF x217 fun z218 =>
  (c214[2]?).bind fun x219 =>
  gF x219 fun z220 =>
  (c214[3]?).bind fun x221 =>
  gF x221 fun z222 =>
  if c214.length = 4 then
  pcallS (call Ev) Fn.laws_eqTx [.agg [.int .i64 i206, .fs z208, .fs z210, .fs z212], .agg [.int .i64 i216, .fs z218, .fs z220, .fs z222]] fun v223 =>
  gV1 v223 fun x224 =>
  gB x224 fun q225 =>
  hchk h h (
  vcase (bv (!q225))
  (some (.ret (bv false) h))
  (Lp.laws_eqTxS 0 [lv s0, lv s1, iv .i64 (IntKind.i64.wrap (s5 + 1))] (tidy h [lv s0, lv s1, iv .i64 (IntKind.i64.wrap (s5 + 1))] h)))
  else none
  else none)
  (some (.done [] (tidy h [] h))) := by
  unfold Lp.laws_eqTxS; rw [loop_eq]; kernel_rfl

theorem pu_laws_FnExactTxsFault (a0 : List (List S)) : pureV (call Ev) Fn.laws_FnExactTxsFault [lv a0] =
  pcallS (call Ev) Fn.laws_szTxS [lv a0, iv .i64 1048576] fun v101 =>
  gV1 v101 fun x102 =>
  gI .i64 x102 fun i103 =>
  vcase (bv (decide (i103 < 0)))
  (some (bv true))
  ((pureV (call Ev) Fn.laws_toTxS [lv a0]).bind fun v105 =>
  gV1 v105 fun x106 =>
  gF x106 fun z107 =>
  pcallS (call Ev) Fn.spec_TxsFault [lv z107] fun v108 =>
  gV1 v108 fun x109 =>
  gI .i64 x109 fun i110 =>
  (pureV (call Ev) Fn.laws_toTxS [lv a0]).bind fun v111 =>
  gV1 v111 fun x112 =>
  gF x112 fun z113 =>
  pcallS (call Ev) Fn.impl_TxsFault [lv z113] fun v114 =>
  gV1 v114 fun x115 =>
  gI .i64 x115 fun i116 =>
  vcase (bv (i116 != i110))
  (some (bv false))
  ((pureV (call Ev) Fn.laws_toTxS [lv a0]).bind fun v118 =>
  gV1 v118 fun x119 =>
  gF x119 fun z120 =>
  pcallS (call Ev) Fn.laws_eqTxS [lv z113, lv z120] fun v121 =>
  gV1 v121 fun x122 =>
  gB x122 fun q123 =>
  vcase (bv (!q123))
  (some (bv false))
  (some (bv true)))) := by
  rw [pure_eq]; kernel_rfl

end Vm
