/-
  What each function, and each round of each loop, comes to in the small machine. Written by a program (gen3.py).
-/
import Derived.Test.YtfpcfiaoilcbgaaEnv
set_option linter.unusedVariables false
set_option maxRecDepth 100000
namespace Vm
open Go

theorem pu_impl_foldedFault (a0 : List (List S)) : pureV (call Ev) Fn.impl_foldedFault [lv a0] =
  vcase (bv (decide ((a0.length : Int) > 60)))
  (some (iv .i64 2))
  ((Lp.impl_foldedFault 0 [lv a0, lv a0, iv .i64 (a0.length : Int), iv .i64 0] (D 0)).bind fun o102 => lcase o102 (fun l103 h104 =>
  some (iv .i64 0)) (fun v105 h106 =>
  frzV h106 v105)) := by
  rw [pure_eq]; kernel_rfl

theorem eq_impl_foldedFault_l0 (s0 : List (List S)) (s9 : List (List S)) (s10 : Int) (s11 : Int) (h : H) : Lp.impl_foldedFault 0 [lv s0, lv s9, iv .i64 s10, iv .i64 s11] h =
  vcase (bv (decide (s11 < s10)))
  (idxF 10 s9 s11 fun r203 =>
  (rowN 10 r203 0).bind fun c204 =>
  (c204[0]?).bind fun x205 =>
  gB x205 fun q206 =>
  (c204[1]?).bind fun x207 =>
  gI .i64 x207 fun i208 =>
  (c204[2]?).bind fun x209 =>
  gI .i64 x209 fun i210 =>
  (c204[3]?).bind fun x211 =>
  gI .i64 x211 fun i212 =>
  (c204[4]?).bind fun x213 =>
  gS x213 fun y214 =>
  (c204[5]?).bind fun x215 =>
  gB x215 fun q216 =>
  (c204[6]?).bind fun x217 =>
  gI .i64 x217 fun i218 =>
  (c204[7]?).bind fun x219 =>
  gI .i64 x219 fun i220 =>
  (c204[8]?).bind fun x221 =>
  gI .i64 x221 fun i222 =>
  (c204[9]?).bind fun x223 =>
  gS x223 fun y224 =>
  if c204.length = 10 then
  stK 10 (h.new 0 [.bool false, .int .i64 0, .int .i64 0, .int .i64 0, .str (⟨#[]⟩), .bool false, .int .i64 0, .int .i64 0, .int .i64 0, .str (⟨#[]⟩)]) (pv h.n 0) (.agg [.bool q206, .int .i64 i208, .int .i64 i210, .int .i64 i212, .str y214, .bool q216, .int .i64 i218, .int .i64 i220, .int .i64 i222, .str y224]) fun h225 =>
  (loadN 10 h225 (pv h.n 0)).bind fun c226 =>
  (c226[0]?).bind fun x227 =>
  gB x227 fun q228 =>
  (c226[1]?).bind fun x229 =>
  gI .i64 x229 fun i230 =>
  (c226[2]?).bind fun x231 =>
  gI .i64 x231 fun i232 =>
  (c226[3]?).bind fun x233 =>
  gI .i64 x233 fun i234 =>
  (c226[4]?).bind fun x235 =>
  gS x235 fun y236 =>
  (c226[5]?).bind fun x237 =>
  gB x237 fun q238 =>
  (c226[6]?).bind fun x239 =>
  gI .i64 x239 fun i240 =>
  (c226[7]?).bind fun x241 =>
  gI .i64 x241 fun i242 =>
  (c226[8]?).bind fun x243 =>
  gI .i64 x243 fun i244 =>
  (c226[9]?).bind fun x245 =>
  gS x245 fun y246 =>
  if c226.length = 10 then
  pcallS (call Ev) Fn.impl_singleFault [.agg [.bool q228, .int .i64 i230, .int .i64 i232, .int .i64 i234, .str y236, .bool q238, .int .i64 i240, .int .i64 i242, .int .i64 i244, .str y246]] fun v247 =>
  gV1 v247 fun x248 =>
  gI .i64 x248 fun i249 =>
  vcase (bv (i249 != 0))
  (some (.ret (iv .i64 i249) h225))
  (vcase (bv (decide (s11 > 0)))
  (idxF 10 s0 (IntKind.i64.wrap (s11 - 1)) fun r252 =>
  (rowN 10 r252 0).bind fun c253 =>
  (c253[0]?).bind fun x254 =>
  gB x254 fun q255 =>
  (c253[1]?).bind fun x256 =>
  gI .i64 x256 fun i257 =>
  (c253[2]?).bind fun x258 =>
  gI .i64 x258 fun i259 =>
  (c253[3]?).bind fun x260 =>
  gI .i64 x260 fun i261 =>
  (c253[4]?).bind fun x262 =>
  gS x262 fun y263 =>
  (c253[5]?).bind fun x264 =>
  gB x264 fun q265 =>
  (c253[6]?).bind fun x266 =>
  gI .i64 x266 fun i267 =>
  (c253[7]?).bind fun x268 =>
  gI .i64 x268 fun i269 =>
  (c253[8]?).bind fun x270 =>
  gI .i64 x270 fun i271 =>
  (c253[9]?).bind fun x272 =>
  gS x272 fun y273 =>
  if c253.length = 10 then
  (loadN 10 h225 (pv h.n 0)).bind fun c274 =>
  (c274[0]?).bind fun x275 =>
  gB x275 fun q276 =>
  (c274[1]?).bind fun x277 =>
  gI .i64 x277 fun i278 =>
  (c274[2]?).bind fun x279 =>
  gI .i64 x279 fun i280 =>
  (c274[3]?).bind fun x281 =>
  gI .i64 x281 fun i282 =>
  (c274[4]?).bind fun x283 =>
  gS x283 fun y284 =>
  (c274[5]?).bind fun x285 =>
  gB x285 fun q286 =>
  (c274[6]?).bind fun x287 =>
  gI .i64 x287 fun i288 =>
  (c274[7]?).bind fun x289 =>
  gI .i64 x289 fun i290 =>
  (c274[8]?).bind fun x291 =>
  gI .i64 x291 fun i292 =>
  (c274[9]?).bind fun x293 =>
  gS x293 fun y294 =>
  if c274.length = 10 then
  pcallS (call Ev) Fn.impl_Change_key [.agg [.bool q255, .int .i64 i257, .int .i64 i259, .int .i64 i261, .str y263, .bool q265, .int .i64 i267, .int .i64 i269, .int .i64 i271, .str y273]] fun v295 =>
  gVA v295 fun c296 =>
  (c296[0]?).bind fun x297 =>
  gI .i64 x297 fun i298 =>
  (c296[1]?).bind fun x299 =>
  gI .i64 x299 fun i300 =>
  (c296[2]?).bind fun x301 =>
  gI .i64 x301 fun i302 =>
  (c296[3]?).bind fun x303 =>
  gS x303 fun y304 =>
  if c296.length = 4 then
  hchk h225 h225 (
  pcallS (call Ev) Fn.impl_Change_key [.agg [.bool q276, .int .i64 i278, .int .i64 i280, .int .i64 i282, .str y284, .bool q286, .int .i64 i288, .int .i64 i290, .int .i64 i292, .str y294]] fun v305 =>
  gVA v305 fun c306 =>
  (c306[0]?).bind fun x307 =>
  gI .i64 x307 fun i308 =>
  (c306[1]?).bind fun x309 =>
  gI .i64 x309 fun i310 =>
  (c306[2]?).bind fun x311 =>
  gI .i64 x311 fun i312 =>
  (c306[3]?).bind fun x313 =>
  gS x313 fun y314 =>
  if c306.length = 4 then
  hchk h225 h225 (
  pcallS (call Ev) Fn.impl_IsBefore [.agg [.int .i64 i298, .int .i64 i300, .int .i64 i302, .str y304], .agg [.int .i64 i308, .int .i64 i310, .int .i64 i312, .str y314]] fun v315 =>
  gV1 v315 fun x316 =>
  gB x316 fun q317 =>
  hchk h225 h225 (
  vcase (bv (!q317))
  (some (.ret (iv .i64 1) h225))
  (Lp.impl_foldedFault 0 [lv s0, lv s9, iv .i64 s10, iv .i64 (IntKind.i64.wrap (s11 + 1))] (tidy h [lv s0, lv s9, iv .i64 s10, iv .i64 (IntKind.i64.wrap (s11 + 1))] h225))))
  else none)
  else none
  else none
  else none)
  (hchk h225 h225 (
  hchk h225 h225 (
  hchk h225 h225 (
  Lp.impl_foldedFault 0 [lv s0, lv s9, iv .i64 s10, iv .i64 (IntKind.i64.wrap (s11 + 1))] (tidy h [lv s0, lv s9, iv .i64 s10, iv .i64 (IntKind.i64.wrap (s11 + 1))] h225))))))
  else none
  else none)
  (some (.done [] (tidy h [] h))) := by
  unfold Lp.impl_foldedFault; rw [loop_eq]; kernel_rfl

theorem pu_slices_BinarySearchFunc_impl_Change_impl_Change_impl_Row (a0 : List (List S)) (a1_0 : Int) (a1_1 : Int) (a1_2 : Int) (a1_3 : ByteArray) : pureV (call Ev) Fn.slices_BinarySearchFunc_impl_Change_impl_Change_impl_Row [lv a0, .agg [.int .i64 a1_0, .int .i64 a1_1, .int .i64 a1_2, .str a1_3], .s (.fn Fn.impl_keyOrder [])] =
  (Lp.slices_BinarySearchFunc_impl_Change_impl_Change_impl_Row 0 [lv a0, .s (.fn Fn.impl_keyOrder []), pv 0 0, iv .i64 (a0.length : Int), iv .i64 0, iv .i64 (a0.length : Int)] ((D 0).new 0 [.int .i64 a1_0, .int .i64 a1_1, .int .i64 a1_2, .str a1_3])).bind fun o101 => lcase o101 (fun l102 h103 =>
  (l102[0]?).bind fun w106 =>
  gV1 w106 fun x107 =>
  gF x107 fun z108 =>
  (l102[1]?).bind fun w109 =>
  (l102[2]?).bind fun w110 =>
  (l102[3]?).bind fun w111 =>
  gV1 w111 fun x112 =>
  gI .i64 x112 fun i113 =>
  (l102[4]?).bind fun w114 =>
  gV1 w114 fun x115 =>
  gI .i64 x115 fun i116 =>
  vcase (bv (decide (i116 < i113)))
  (idxF 10 z108 i116 fun r118 =>
  (rowN 10 r118 0).bind fun c119 =>
  (c119[0]?).bind fun x120 =>
  gB x120 fun q121 =>
  (c119[1]?).bind fun x122 =>
  gI .i64 x122 fun i123 =>
  (c119[2]?).bind fun x124 =>
  gI .i64 x124 fun i125 =>
  (c119[3]?).bind fun x126 =>
  gI .i64 x126 fun i127 =>
  (c119[4]?).bind fun x128 =>
  gS x128 fun y129 =>
  (c119[5]?).bind fun x130 =>
  gB x130 fun q131 =>
  (c119[6]?).bind fun x132 =>
  gI .i64 x132 fun i133 =>
  (c119[7]?).bind fun x134 =>
  gI .i64 x134 fun i135 =>
  (c119[8]?).bind fun x136 =>
  gI .i64 x136 fun i137 =>
  (c119[9]?).bind fun x138 =>
  gS x138 fun y139 =>
  if c119.length = 10 then
  ldK (.agg [.i .i64, .i .i64, .i .i64, .s]) ⟨4, 40, [.int .i64 0, .int .i64 0, .int .i64 0, .str ⟨#[]⟩], true, .st [(0, 2), (1, 2), (2, 2), (3, 9)], true⟩ h103 w110 fun v140 =>
  gVA v140 fun c141 =>
  (c141[0]?).bind fun x142 =>
  gI .i64 x142 fun i143 =>
  (c141[1]?).bind fun x144 =>
  gI .i64 x144 fun i145 =>
  (c141[2]?).bind fun x146 =>
  gI .i64 x146 fun i147 =>
  (c141[3]?).bind fun x148 =>
  gS x148 fun y149 =>
  if c141.length = 4 then
  fnK w109 fun j150 m151 =>
  (frzVs h103 ([.agg [.bool q121, .int .i64 i123, .int .i64 i125, .int .i64 i127, .str y129, .bool q131, .int .i64 i133, .int .i64 i135, .int .i64 i137, .str y139], .agg [.int .i64 i143, .int .i64 i145, .int .i64 i147, .str y149]] ++ m151.map fun p => .s (.ptr (some p)))).bind fun l152 =>
  pcallS (call Ev) j150 (normVs (Ev.psz j150) l152) fun v153 =>
  Vm.tyV (Ev.rt j150) v153 fun v154 =>
  gV1 v154 fun x155 =>
  gI .i64 x155 fun i156 =>
  hchk h103 h103 (
  some (.tup [.s (.int .i64 i116), .s (.bool (i156 == 0))]))
  else none
  else none)
  (hchk h103 h103 (
  some (.tup [.s (.int .i64 i116), .s (.bool false)])))) (fun v104 h105 =>
  frzV h105 v104) := by
  rw [pure_eq]; kernel_rfl

theorem eq_slices_BinarySearchFunc_impl_Change_impl_Change_impl_Row_l0 (s0 : List (List S)) (s4 : V) (s8 : Int) (s9 : Int) (s10 : Int) (h : H) : Lp.slices_BinarySearchFunc_impl_Change_impl_Change_impl_Row 0 [lv s0, .s (.fn Fn.impl_keyOrder []), s4, iv .i64 s8, iv .i64 s9, iv .i64 s10] h =
  vcase (bv (decide (s9 < s10)))
  ((bin Ev .shr 163 (iv .u64 (IntKind.u64.wrap (IntKind.i64.wrap (s9 + s10)))) (iv .u64 1)).bind fun b203 =>
  gV1 b203 fun x204 =>
  gI .u64 x204 fun i205 =>
  idxF 10 s0 (IntKind.i64.wrap i205) fun r206 =>
  (rowN 10 r206 0).bind fun c207 =>
  (c207[0]?).bind fun x208 =>
  gB x208 fun q209 =>
  (c207[1]?).bind fun x210 =>
  gI .i64 x210 fun i211 =>
  (c207[2]?).bind fun x212 =>
  gI .i64 x212 fun i213 =>
  (c207[3]?).bind fun x214 =>
  gI .i64 x214 fun i215 =>
  (c207[4]?).bind fun x216 =>
  gS x216 fun y217 =>
  (c207[5]?).bind fun x218 =>
  gB x218 fun q219 =>
  (c207[6]?).bind fun x220 =>
  gI .i64 x220 fun i221 =>
  (c207[7]?).bind fun x222 =>
  gI .i64 x222 fun i223 =>
  (c207[8]?).bind fun x224 =>
  gI .i64 x224 fun i225 =>
  (c207[9]?).bind fun x226 =>
  gS x226 fun y227 =>
  if c207.length = 10 then
  ldK (.agg [.i .i64, .i .i64, .i .i64, .s]) ⟨4, 40, [.int .i64 0, .int .i64 0, .int .i64 0, .str ⟨#[]⟩], true, .st [(0, 2), (1, 2), (2, 2), (3, 9)], true⟩ h s4 fun v228 =>
  gVA v228 fun c229 =>
  (c229[0]?).bind fun x230 =>
  gI .i64 x230 fun i231 =>
  (c229[1]?).bind fun x232 =>
  gI .i64 x232 fun i233 =>
  (c229[2]?).bind fun x234 =>
  gI .i64 x234 fun i235 =>
  (c229[3]?).bind fun x236 =>
  gS x236 fun y237 =>
  if c229.length = 4 then
  pcallS (call Ev) Fn.impl_keyOrder [.agg [.bool q209, .int .i64 i211, .int .i64 i213, .int .i64 i215, .str y217, .bool q219, .int .i64 i221, .int .i64 i223, .int .i64 i225, .str y227], .agg [.int .i64 i231, .int .i64 i233, .int .i64 i235, .str y237]] fun v238 =>
  gV1 v238 fun x239 =>
  gI .i64 x239 fun i240 =>
  hchk h h (
  vcase (bv (decide (i240 < 0)))
  (Lp.slices_BinarySearchFunc_impl_Change_impl_Change_impl_Row 0 [lv s0, .s (.fn Fn.impl_keyOrder []), s4, iv .i64 s8, iv .i64 (IntKind.i64.wrap ((IntKind.i64.wrap i205) + 1)), iv .i64 s10] (tidy h [lv s0, .s (.fn Fn.impl_keyOrder []), s4, iv .i64 s8, iv .i64 (IntKind.i64.wrap ((IntKind.i64.wrap i205) + 1)), iv .i64 s10] h))
  (Lp.slices_BinarySearchFunc_impl_Change_impl_Change_impl_Row 0 [lv s0, .s (.fn Fn.impl_keyOrder []), s4, iv .i64 s8, iv .i64 s9, iv .i64 (IntKind.i64.wrap i205)] (tidy h [lv s0, .s (.fn Fn.impl_keyOrder []), s4, iv .i64 s8, iv .i64 s9, iv .i64 (IntKind.i64.wrap i205)] h)))
  else none
  else none)
  (some (.done [lv s0, .s (.fn Fn.impl_keyOrder []), s4, iv .i64 s8, iv .i64 s9] (tidy h [lv s0, .s (.fn Fn.impl_keyOrder []), s4, iv .i64 s8, iv .i64 s9] h))) := by
  unfold Lp.slices_BinarySearchFunc_impl_Change_impl_Change_impl_Row; rw [loop_eq]; kernel_rfl

theorem pu_impl_keyOrder (a0_0 : Bool) (a0_1 : Int) (a0_2 : Int) (a0_3 : Int) (a0_4 : ByteArray) (a0_5 : Bool) (a0_6 : Int) (a0_7 : Int) (a0_8 : Int) (a0_9 : ByteArray) (a1_0 : Int) (a1_1 : Int) (a1_2 : Int) (a1_3 : ByteArray) : pureV (call Ev) Fn.impl_keyOrder [.agg [.bool a0_0, .int .i64 a0_1, .int .i64 a0_2, .int .i64 a0_3, .str a0_4, .bool a0_5, .int .i64 a0_6, .int .i64 a0_7, .int .i64 a0_8, .str a0_9], .agg [.int .i64 a1_0, .int .i64 a1_1, .int .i64 a1_2, .str a1_3]] =
  pcallS (call Ev) Fn.impl_Change_key [.agg [.bool a0_0, .int .i64 a0_1, .int .i64 a0_2, .int .i64 a0_3, .str a0_4, .bool a0_5, .int .i64 a0_6, .int .i64 a0_7, .int .i64 a0_8, .str a0_9]] fun v101 =>
  gVA v101 fun c102 =>
  (c102[0]?).bind fun x103 =>
  gI .i64 x103 fun i104 =>
  (c102[1]?).bind fun x105 =>
  gI .i64 x105 fun i106 =>
  (c102[2]?).bind fun x107 =>
  gI .i64 x107 fun i108 =>
  (c102[3]?).bind fun x109 =>
  gS x109 fun y110 =>
  if c102.length = 4 then
  hchk (((D 0).new 0 [.bool a0_0, .int .i64 a0_1, .int .i64 a0_2, .int .i64 a0_3, .str a0_4, .bool a0_5, .int .i64 a0_6, .int .i64 a0_7, .int .i64 a0_8, .str a0_9]).new 0 [.int .i64 a1_0, .int .i64 a1_1, .int .i64 a1_2, .str a1_3]) (((D 0).new 0 [.bool a0_0, .int .i64 a0_1, .int .i64 a0_2, .int .i64 a0_3, .str a0_4, .bool a0_5, .int .i64 a0_6, .int .i64 a0_7, .int .i64 a0_8, .str a0_9]).new 0 [.int .i64 a1_0, .int .i64 a1_1, .int .i64 a1_2, .str a1_3]) (
  pcallS (call Ev) Fn.impl_order [.agg [.int .i64 i104, .int .i64 i106, .int .i64 i108, .str y110], .agg [.int .i64 a1_0, .int .i64 a1_1, .int .i64 a1_2, .str a1_3]] fun v111 =>
  gV1 v111 fun x112 =>
  gI .i64 x112 fun i113 =>
  hchk (((D 0).new 0 [.bool a0_0, .int .i64 a0_1, .int .i64 a0_2, .int .i64 a0_3, .str a0_4, .bool a0_5, .int .i64 a0_6, .int .i64 a0_7, .int .i64 a0_8, .str a0_9]).new 0 [.int .i64 a1_0, .int .i64 a1_1, .int .i64 a1_2, .str a1_3]) (((D 0).new 0 [.bool a0_0, .int .i64 a0_1, .int .i64 a0_2, .int .i64 a0_3, .str a0_4, .bool a0_5, .int .i64 a0_6, .int .i64 a0_7, .int .i64 a0_8, .str a0_9]).new 0 [.int .i64 a1_0, .int .i64 a1_1, .int .i64 a1_2, .str a1_3]) (
  some (iv .i64 i113)))
  else none := by
  rw [pure_eq]; kernel_rfl

theorem eq_slices_Clone_impl_Change_impl_Change (a0 : List (List S)) (n : Nat) : call Ev Fn.slices_Clone_impl_Change_impl_Change [lv a0] (D n) =
  (bin Ev .eql 52 (lv a0) (.s (.sl none 0))).bind fun b101 =>
  gV1 b101 fun x102 =>
  gB x102 fun q103 =>
  vcase (bv q103)
  (some (.s (.sl none 0), (D n)))
  ((appS 10 ((D n).new 10 []) (sv ((D n).n) 0 0) (lv a0)).bind fun p105 =>
  some (p105.1, p105.2)) := by
  rw [call_eq]; kernel_rfl

theorem eq_slices_Reverse_impl_Change_impl_Change (a0 : V) (h : H) : call Ev Fn.slices_Reverse_impl_Change_impl_Change [a0] h =
  (lenV (.sl 47) a0).bind fun v101 =>
  gV1 v101 fun x102 =>
  gI .i64 x102 fun i103 =>
  (Lp.slices_Reverse_impl_Change_impl_Change 0 [a0, iv .i64 0, iv .i64 (IntKind.i64.wrap (i103 - 1))] h).bind fun o104 => lcase o104 (fun l105 h106 =>
  some (.tup [], h106)) (fun v107 h108 =>
  some (v107, h108)) := by
  rw [call_eq]; kernel_rfl

theorem eq_slices_Reverse_impl_Change_impl_Change_l0 (s0 : V) (s2 : Int) (s3 : Int) (h : H) : Lp.slices_Reverse_impl_Change_impl_Change 0 [s0, iv .i64 s2, iv .i64 s3] h =
  vcase (bv (decide (s2 < s3)))
  (idxK 10 s0 (iv .i64 s3) fun v203 =>
  ldK (.agg [.b, .i .i64, .i .i64, .i .i64, .s, .b, .i .i64, .i .i64, .i .i64, .s]) ⟨10, 96, [.bool false, .int .i64 0, .int .i64 0, .int .i64 0, .str ⟨#[]⟩, .bool false, .int .i64 0, .int .i64 0, .int .i64 0, .str ⟨#[]⟩], true, .st [(0, 4), (1, 45), (5, 4), (6, 45)], true⟩ h v203 fun v204 =>
  gVA v204 fun c205 =>
  (c205[0]?).bind fun x206 =>
  gB x206 fun q207 =>
  (c205[1]?).bind fun x208 =>
  gI .i64 x208 fun i209 =>
  (c205[2]?).bind fun x210 =>
  gI .i64 x210 fun i211 =>
  (c205[3]?).bind fun x212 =>
  gI .i64 x212 fun i213 =>
  (c205[4]?).bind fun x214 =>
  gS x214 fun y215 =>
  (c205[5]?).bind fun x216 =>
  gB x216 fun q217 =>
  (c205[6]?).bind fun x218 =>
  gI .i64 x218 fun i219 =>
  (c205[7]?).bind fun x220 =>
  gI .i64 x220 fun i221 =>
  (c205[8]?).bind fun x222 =>
  gI .i64 x222 fun i223 =>
  (c205[9]?).bind fun x224 =>
  gS x224 fun y225 =>
  if c205.length = 10 then
  idxK 10 s0 (iv .i64 s2) fun v226 =>
  ldK (.agg [.b, .i .i64, .i .i64, .i .i64, .s, .b, .i .i64, .i .i64, .i .i64, .s]) ⟨10, 96, [.bool false, .int .i64 0, .int .i64 0, .int .i64 0, .str ⟨#[]⟩, .bool false, .int .i64 0, .int .i64 0, .int .i64 0, .str ⟨#[]⟩], true, .st [(0, 4), (1, 45), (5, 4), (6, 45)], true⟩ h v226 fun v227 =>
  gVA v227 fun c228 =>
  (c228[0]?).bind fun x229 =>
  gB x229 fun q230 =>
  (c228[1]?).bind fun x231 =>
  gI .i64 x231 fun i232 =>
  (c228[2]?).bind fun x233 =>
  gI .i64 x233 fun i234 =>
  (c228[3]?).bind fun x235 =>
  gI .i64 x235 fun i236 =>
  (c228[4]?).bind fun x237 =>
  gS x237 fun y238 =>
  (c228[5]?).bind fun x239 =>
  gB x239 fun q240 =>
  (c228[6]?).bind fun x241 =>
  gI .i64 x241 fun i242 =>
  (c228[7]?).bind fun x243 =>
  gI .i64 x243 fun i244 =>
  (c228[8]?).bind fun x245 =>
  gI .i64 x245 fun i246 =>
  (c228[9]?).bind fun x247 =>
  gS x247 fun y248 =>
  if c228.length = 10 then
  idxK 10 s0 (iv .i64 s2) fun v249 =>
  stK 10 h v249 (.agg [.bool q207, .int .i64 i209, .int .i64 i211, .int .i64 i213, .str y215, .bool q217, .int .i64 i219, .int .i64 i221, .int .i64 i223, .str y225]) fun h250 =>
  idxK 10 s0 (iv .i64 s3) fun v251 =>
  stK 10 h250 v251 (.agg [.bool q230, .int .i64 i232, .int .i64 i234, .int .i64 i236, .str y238, .bool q240, .int .i64 i242, .int .i64 i244, .int .i64 i246, .str y248]) fun h252 =>
  Lp.slices_Reverse_impl_Change_impl_Change 0 [s0, iv .i64 (IntKind.i64.wrap (s2 + 1)), iv .i64 (IntKind.i64.wrap (s3 - 1))] (tidy h [s0, iv .i64 (IntKind.i64.wrap (s2 + 1)), iv .i64 (IntKind.i64.wrap (s3 - 1))] h252)
  else none
  else none)
  (some (.done [] (tidy h [] h))) := by
  unfold Lp.slices_Reverse_impl_Change_impl_Change; rw [loop_eq]; kernel_rfl

theorem eq_slices_rotateLeft_impl_Change (a0 : V) (a1 : Int) (h : H) : call Ev Fn.slices_rotateLeft_impl_Change [a0, iv .i64 a1] h =
  slK 10 h a0 none (some (iv .i64 a1)) fun v101 =>
  (call Ev Fn.slices_Reverse_impl_Change_impl_Change [v101] h).bind fun p102 =>
  slK 10 (tidy h [p102.1] p102.2) a0 (some (iv .i64 a1)) none fun v103 =>
  (call Ev Fn.slices_Reverse_impl_Change_impl_Change [v103] (tidy h [p102.1] p102.2)).bind fun p104 =>
  (call Ev Fn.slices_Reverse_impl_Change_impl_Change [a0] (tidy (tidy h [p102.1] p102.2) [p104.1] p104.2)).bind fun p105 =>
  some (.tup [], tidy (tidy (tidy h [p102.1] p102.2) [p104.1] p104.2) [p105.1] p105.2) := by
  rw [call_eq]; kernel_rfl

theorem eq_slices_rotateRight_impl_Change (a0 : V) (a1 : Int) (h : H) : call Ev Fn.slices_rotateRight_impl_Change [a0, iv .i64 a1] h =
  (lenV (.sl 47) a0).bind fun v101 =>
  gV1 v101 fun x102 =>
  gI .i64 x102 fun i103 =>
  (call Ev Fn.slices_rotateLeft_impl_Change [a0, iv .i64 (IntKind.i64.wrap (i103 - a1))] h).bind fun p104 =>
  some (.tup [], tidy h [p104.1] p104.2) := by
  rw [call_eq]; kernel_rfl

noncomputable def Jn.impl_FoldChange_0 (q497 : Bool) (v173 : V) (i169 : Int) (h454 : H) (n : Nat) (a1_0 : Bool) (a1_1 : Int) (a1_2 : Int) (a1_3 : Int) (a1_4 : ByteArray) (a1_5 : Bool) (a1_6 : Int) (a1_7 : Int) (a1_8 : Int) (a1_9 : ByteArray) (h174 : H) : Option (V × H) :=
  vcase (bv q497)
  ((call Ev Fn.slices_Delete_impl_Change_impl_Change [v173, iv .i64 i169, iv .i64 (IntKind.i64.wrap (i169 + 1))] h454).bind fun p499 =>
  cellsK p499.1 fun c500 =>
  if c500.length = 1 ∧ 1 + 1 ≤ ([.int .i64 0, .sl none 0] : List S).length then
  ((setAt ([.int .i64 0, .sl none 0] : List S) 1 c500)[0]?).bind fun x501 =>
  gI .i64 x501 fun i502 =>
  ((setAt ([.int .i64 0, .sl none 0] : List S) 1 c500)[1]?).bind fun x503 =>
  if (setAt ([.int .i64 0, .sl none 0] : List S) 1 c500).length = 2 then
  stK 2 (tidy h454 [p499.1] p499.2) (pv (((D n).new 0 [.bool a1_0, .int .i64 a1_1, .int .i64 a1_2, .int .i64 a1_3, .str a1_4, .bool a1_5, .int .i64 a1_6, .int .i64 a1_7, .int .i64 a1_8, .str a1_9]).n) 0) (.agg [.int .i64 i502, x503]) fun h504 =>
  (loadN 2 h504 (pv (((D n).new 0 [.bool a1_0, .int .i64 a1_1, .int .i64 a1_2, .int .i64 a1_3, .str a1_4, .bool a1_5, .int .i64 a1_6, .int .i64 a1_7, .int .i64 a1_8, .str a1_9]).n) 0)).bind fun c505 =>
  some (.agg c505, h504)
  else none
  else none)
  ((loadN 10 h454 (pv h174.n 0)).bind fun c506 =>
  (c506[0]?).bind fun x507 =>
  gB x507 fun q508 =>
  (c506[1]?).bind fun x509 =>
  gI .i64 x509 fun i510 =>
  (c506[2]?).bind fun x511 =>
  gI .i64 x511 fun i512 =>
  (c506[3]?).bind fun x513 =>
  gI .i64 x513 fun i514 =>
  (c506[4]?).bind fun x515 =>
  gS x515 fun y516 =>
  (c506[5]?).bind fun x517 =>
  gB x517 fun q518 =>
  (c506[6]?).bind fun x519 =>
  gI .i64 x519 fun i520 =>
  (c506[7]?).bind fun x521 =>
  gI .i64 x521 fun i522 =>
  (c506[8]?).bind fun x523 =>
  gI .i64 x523 fun i524 =>
  (c506[9]?).bind fun x525 =>
  gS x525 fun y526 =>
  if c506.length = 10 then
  idxK 10 v173 (iv .i64 i169) fun v527 =>
  stK 10 h454 v527 (.agg [.bool q508, .int .i64 i510, .int .i64 i512, .int .i64 i514, .str y516, .bool q518, .int .i64 i520, .int .i64 i522, .int .i64 i524, .str y526]) fun h528 =>
  cellsK v173 fun c529 =>
  if c529.length = 1 ∧ 1 + 1 ≤ ([.int .i64 0, .sl none 0] : List S).length then
  ((setAt ([.int .i64 0, .sl none 0] : List S) 1 c529)[0]?).bind fun x530 =>
  gI .i64 x530 fun i531 =>
  ((setAt ([.int .i64 0, .sl none 0] : List S) 1 c529)[1]?).bind fun x532 =>
  if (setAt ([.int .i64 0, .sl none 0] : List S) 1 c529).length = 2 then
  stK 2 h528 (pv (((D n).new 0 [.bool a1_0, .int .i64 a1_1, .int .i64 a1_2, .int .i64 a1_3, .str a1_4, .bool a1_5, .int .i64 a1_6, .int .i64 a1_7, .int .i64 a1_8, .str a1_9]).n) 0) (.agg [.int .i64 i531, x532]) fun h533 =>
  (loadN 2 h533 (pv (((D n).new 0 [.bool a1_0, .int .i64 a1_1, .int .i64 a1_2, .int .i64 a1_3, .str a1_4, .bool a1_5, .int .i64 a1_6, .int .i64 a1_7, .int .i64 a1_8, .str a1_9]).n) 0)).bind fun c534 =>
  some (.agg c534, h533)
  else none
  else none
  else none)

noncomputable def Jn.impl_FoldChange_1 (q462 : Bool) (h454 : H) (h174 : H) (v173 : V) (i169 : Int) (n : Nat) (a1_0 : Bool) (a1_1 : Int) (a1_2 : Int) (a1_3 : Int) (a1_4 : ByteArray) (a1_5 : Bool) (a1_6 : Int) (a1_7 : Int) (a1_8 : Int) (a1_9 : ByteArray) : Option (V × H) :=
  vcase (bv q462)
  (Jn.impl_FoldChange_0 true v173 i169 h454 n a1_0 a1_1 a1_2 a1_3 a1_4 a1_5 a1_6 a1_7 a1_8 a1_9 h174)
  ((load1 h454 (pv h174.n 0)).bind fun x465 =>
  gB x465 fun q466 =>
  vcase (bv q466)
  ((load1 h454 (pv h174.n 5)).bind fun x468 =>
  gB x468 fun q469 =>
  vcase (bv q469)
  ((loadN 4 h454 (pv h174.n 1)).bind fun c473 =>
  (c473[0]?).bind fun x474 =>
  gI .i64 x474 fun i475 =>
  (c473[1]?).bind fun x476 =>
  gI .i64 x476 fun i477 =>
  (c473[2]?).bind fun x478 =>
  gI .i64 x478 fun i479 =>
  (c473[3]?).bind fun x480 =>
  gS x480 fun y481 =>
  if c473.length = 4 then
  (loadN 4 h454 (pv h174.n 6)).bind fun c482 =>
  (c482[0]?).bind fun x483 =>
  gI .i64 x483 fun i484 =>
  (c482[1]?).bind fun x485 =>
  gI .i64 x485 fun i486 =>
  (c482[2]?).bind fun x487 =>
  gI .i64 x487 fun i488 =>
  (c482[3]?).bind fun x489 =>
  gS x489 fun y490 =>
  if c482.length = 4 then
  Jn.impl_FoldChange_0 (((i475 : Int) == i484) && (((i477 : Int) == i486) && (((i479 : Int) == i488) && (((y481 : ByteArray).toList == (y490 : ByteArray).toList) && true)))) v173 i169 h454 n a1_0 a1_1 a1_2 a1_3 a1_4 a1_5 a1_6 a1_7 a1_8 a1_9 h174
  else none
  else none)
  (Jn.impl_FoldChange_0 false v173 i169 h454 n a1_0 a1_1 a1_2 a1_3 a1_4 a1_5 a1_6 a1_7 a1_8 a1_9 h174))
  (Jn.impl_FoldChange_0 false v173 i169 h454 n a1_0 a1_1 a1_2 a1_3 a1_4 a1_5 a1_6 a1_7 a1_8 a1_9 h174))

noncomputable def Jn.impl_FoldChange_2 (q438 : Bool) (h227 : H) (n : Nat) (a1_0 : Bool) (a1_1 : Int) (a1_2 : Int) (a1_3 : Int) (a1_4 : ByteArray) (a1_5 : Bool) (a1_6 : Int) (a1_7 : Int) (a1_8 : Int) (a1_9 : ByteArray) (h174 : H) (v173 : V) (i169 : Int) : Option (V × H) :=
  vcase (bv q438)
  (stK 2 h227 (pv (((D n).new 0 [.bool a1_0, .int .i64 a1_1, .int .i64 a1_2, .int .i64 a1_3, .str a1_4, .bool a1_5, .int .i64 a1_6, .int .i64 a1_7, .int .i64 a1_8, .str a1_9]).n) 0) (.agg [.int .i64 8, .sl none 0]) fun h440 =>
  (loadN 2 h440 (pv (((D n).new 0 [.bool a1_0, .int .i64 a1_1, .int .i64 a1_2, .int .i64 a1_3, .str a1_4, .bool a1_5, .int .i64 a1_6, .int .i64 a1_7, .int .i64 a1_8, .str a1_9]).n) 0)).bind fun c441 =>
  some (.agg c441, h440))
  ((load1 (h227.put h174.n .dead) (pv ((D n).n) 5)).bind fun x442 =>
  gB x442 fun q443 =>
  (loadN 4 (h227.put h174.n .dead) (pv ((D n).n) 6)).bind fun c444 =>
  (c444[0]?).bind fun x445 =>
  gI .i64 x445 fun i446 =>
  (c444[1]?).bind fun x447 =>
  gI .i64 x447 fun i448 =>
  (c444[2]?).bind fun x449 =>
  gI .i64 x449 fun i450 =>
  (c444[3]?).bind fun x451 =>
  gS x451 fun y452 =>
  if c444.length = 4 then
  stK 1 h227 (pv h174.n 5) (bv q443) fun h453 =>
  hchk (h227.put h174.n .dead) h453 (
  stK 4 h453 (pv h174.n 6) (.agg [.int .i64 i446, .int .i64 i448, .int .i64 i450, .str y452]) fun h454 =>
  hchk (h227.put h174.n .dead) h454 (
  (load1 h454 (pv h174.n 0)).bind fun x455 =>
  gB x455 fun q456 =>
  vcase (bv (!q456))
  ((load1 h454 (pv h174.n 5)).bind fun x458 =>
  gB x458 fun q459 =>
  Jn.impl_FoldChange_1 (!q459) h454 h174 v173 i169 n a1_0 a1_1 a1_2 a1_3 a1_4 a1_5 a1_6 a1_7 a1_8 a1_9)
  (Jn.impl_FoldChange_1 false h454 h174 v173 i169 n a1_0 a1_1 a1_2 a1_3 a1_4 a1_5 a1_6 a1_7 a1_8 a1_9)))
  else none)

noncomputable def Jn.laws_FnExactFoldChange_0 (q327 : Bool) (h192 : H) (p214 : V × H) (h187 : H) (a0 : List (List S)) : Option (V) :=
  vcase (bv q327)
  (some (bv false))
  ((loadN 2 (tidy h192 [p214.1] p214.2) (pv h187.n 0)).bind fun c329 =>
  (c329[0]?).bind fun x330 =>
  gI .i64 x330 fun i331 =>
  (c329[1]?).bind fun x332 =>
  if c329.length = 2 then
  (call Ev Fn.laws_markChangesResult [.agg [.int .i64 i331, x332], iv .i64 1] (tidy h192 [p214.1] p214.2)).bind fun p333 =>
  gV1 p333.1 fun x334 =>
  gI .i64 x334 fun i335 =>
  (loadN 2 (tidy (tidy h192 [p214.1] p214.2) [p333.1] p333.2) (pv h187.n 0)).bind fun c336 =>
  (c336[0]?).bind fun x337 =>
  gI .i64 x337 fun i338 =>
  (c336[1]?).bind fun x339 =>
  if c336.length = 2 then
  (frzVs (tidy (tidy h192 [p214.1] p214.2) [p333.1] p333.2) [.agg [.int .i64 i338, x339], iv .i64 1]).bind fun l340 =>
  pcallS (call Ev) Fn.laws_heldChangesResult (normVs [] l340) fun v341 =>
  gV1 v341 fun x342 =>
  gI .i64 x342 fun i343 =>
  vcase (bv (decide (i343 < 0)))
  (some (bv false))
  (vcase (bv (i343 != i335))
  (some (bv false))
  ((loadN 10 (tidy (tidy h192 [p214.1] p214.2) [p333.1] p333.2) (pv 0 0)).bind fun c346 =>
  (c346[0]?).bind fun x347 =>
  gB x347 fun q348 =>
  (c346[1]?).bind fun x349 =>
  gI .i64 x349 fun i350 =>
  (c346[2]?).bind fun x351 =>
  gI .i64 x351 fun i352 =>
  (c346[3]?).bind fun x353 =>
  gI .i64 x353 fun i354 =>
  (c346[4]?).bind fun x355 =>
  gS x355 fun y356 =>
  (c346[5]?).bind fun x357 =>
  gB x357 fun q358 =>
  (c346[6]?).bind fun x359 =>
  gI .i64 x359 fun i360 =>
  (c346[7]?).bind fun x361 =>
  gI .i64 x361 fun i362 =>
  (c346[8]?).bind fun x363 =>
  gI .i64 x363 fun i364 =>
  (c346[9]?).bind fun x365 =>
  gS x365 fun y366 =>
  if c346.length = 10 then
  (pureV (call Ev) Fn.laws_toChangeS [lv a0]).bind fun v367 =>
  gV1 v367 fun x368 =>
  gF x368 fun z369 =>
  pcallS (call Ev) Fn.laws_toChange [.agg [.bool q348, .int .i64 i350, .int .i64 i352, .int .i64 i354, .str y356, .bool q358, .int .i64 i360, .int .i64 i362, .int .i64 i364, .str y366]] fun v370 =>
  gVA v370 fun c371 =>
  (c371[0]?).bind fun x372 =>
  gB x372 fun q373 =>
  (c371[1]?).bind fun x374 =>
  gI .i64 x374 fun i375 =>
  (c371[2]?).bind fun x376 =>
  gI .i64 x376 fun i377 =>
  (c371[3]?).bind fun x378 =>
  gI .i64 x378 fun i379 =>
  (c371[4]?).bind fun x380 =>
  gS x380 fun y381 =>
  (c371[5]?).bind fun x382 =>
  gB x382 fun q383 =>
  (c371[6]?).bind fun x384 =>
  gI .i64 x384 fun i385 =>
  (c371[7]?).bind fun x386 =>
  gI .i64 x386 fun i387 =>
  (c371[8]?).bind fun x388 =>
  gI .i64 x388 fun i389 =>
  (c371[9]?).bind fun x390 =>
  gS x390 fun y391 =>
  if c371.length = 10 then
  (pureV (call Ev) Fn.impl_FoldChange [lv z369, .agg [.bool q373, .int .i64 i375, .int .i64 i377, .int .i64 i379, .str y381, .bool q383, .int .i64 i385, .int .i64 i387, .int .i64 i389, .str y391]]).bind fun v392 =>
  gVA v392 fun c393 =>
  (c393[0]?).bind fun x394 =>
  gI .i64 x394 fun i395 =>
  (c393[1]?).bind fun x396 =>
  gF x396 fun z397 =>
  if c393.length = 2 then
  stK 2 ((tidy (tidy h192 [p214.1] p214.2) [p333.1] p333.2).new 0 [.int .i64 0, .sl none 0]) (pv ((tidy (tidy h192 [p214.1] p214.2) [p333.1] p333.2).n) 0) (.agg [.int .i64 i395, .fs z397]) fun h398 =>
  (loadN 2 h398 (pv ((tidy (tidy h192 [p214.1] p214.2) [p333.1] p333.2).n) 0)).bind fun c399 =>
  (c399[0]?).bind fun x400 =>
  gI .i64 x400 fun i401 =>
  (c399[1]?).bind fun x402 =>
  if c399.length = 2 then
  (loadN 2 h398 (pv 1 0)).bind fun c403 =>
  (c403[0]?).bind fun x404 =>
  gI .i64 x404 fun i405 =>
  (c403[1]?).bind fun x406 =>
  if c403.length = 2 then
  (frzVs h398 [.agg [.int .i64 i401, x402], .agg [.int .i64 i405, x406]]).bind fun l407 =>
  pcallS (call Ev) Fn.laws_eqChangesResult (normVs [] l407) fun v408 =>
  gV1 v408 fun x409 =>
  gB x409 fun q410 =>
  vcase (bv (!q410))
  (some (bv false))
  ((loadN 2 h398 (pv h187.n 0)).bind fun c412 =>
  (c412[0]?).bind fun x413 =>
  gI .i64 x413 fun i414 =>
  (c412[1]?).bind fun x415 =>
  if c412.length = 2 then
  (frzVs h398 [.agg [.int .i64 i414, x415], iv .i64 1]).bind fun l416 =>
  pcallS (call Ev) Fn.laws_heldChangesResult (normVs [] l416) fun v417 =>
  gV1 v417 fun x418 =>
  gI .i64 x418 fun i419 =>
  vcase (bv (decide (i419 < 0)))
  (some (bv false))
  (vcase (bv (i419 != i335))
  (some (bv false))
  (some (bv true)))
  else none)
  else none
  else none
  else none
  else none
  else none))
  else none
  else none)

theorem pu_laws_szByteS (a0 : List (List S)) (a1 : Int) : pureV (call Ev) Fn.laws_szByteS [lv a0, iv .i64 a1] =
  vcase (bv (decide ((IntKind.i64.wrap (a1 - (a0.length : Int))) < 0)))
  (some (iv .i64 (-1)))
  (some (iv .i64 (IntKind.i64.wrap (a1 - (a0.length : Int))))) := by
  rw [pure_eq]; kernel_rfl

theorem pu_laws_szByteSS (a0 : List (List S)) (a1 : Int) : pureV (call Ev) Fn.laws_szByteSS [lv a0, iv .i64 a1] =
  vcase (bv (decide ((IntKind.i64.wrap (a1 - (a0.length : Int))) < 0)))
  (some (iv .i64 (-1)))
  ((Lp.laws_szByteSS 0 [lv a0, iv .i64 (IntKind.i64.wrap (a1 - (a0.length : Int))), iv .i64 0] (D 0)).bind fun o102 => lcase o102 (fun l103 h104 =>
  (l103[0]?).bind fun w107 =>
  gV1 w107 fun x108 =>
  gI .i64 x108 fun i109 =>
  some (iv .i64 i109)) (fun v105 h106 =>
  frzV h106 v105)) := by
  rw [pure_eq]; kernel_rfl

theorem eq_laws_szByteSS_l0 (s0 : List (List S)) (s1 : Int) (s5 : Int) (h : H) : Lp.laws_szByteSS 0 [lv s0, iv .i64 s1, iv .i64 s5] h =
  vcase (bv (decide (s5 < (s0.length : Int))))
  (idxF 1 s0 s5 fun r203 =>
  (r203[0]?).bind fun x204 =>
  gF x204 fun z205 =>
  pcallS (call Ev) Fn.laws_szByteS [lv z205, iv .i64 s1] fun v206 =>
  gV1 v206 fun x207 =>
  gI .i64 x207 fun i208 =>
  vcase (bv (decide (i208 < 0)))
  (some (.ret (iv .i64 (-1)) h))
  (Lp.laws_szByteSS 0 [lv s0, iv .i64 i208, iv .i64 (IntKind.i64.wrap (s5 + 1))] (tidy h [lv s0, iv .i64 i208, iv .i64 (IntKind.i64.wrap (s5 + 1))] h)))
  (some (.done [iv .i64 s1] (tidy h [iv .i64 s1] h))) := by
  unfold Lp.laws_szByteSS; rw [loop_eq]; kernel_rfl

theorem pu_laws_szEdit (a0_0 : Int) (a0_1 : List (List S)) (a1 : Int) : pureV (call Ev) Fn.laws_szEdit [.agg [.int .i64 a0_0, .fs a0_1], iv .i64 a1] =
  pcallS (call Ev) Fn.laws_szByteS [lv a0_1, iv .i64 a1] fun v101 =>
  gV1 v101 fun x102 =>
  gI .i64 x102 fun i103 =>
  vcase (bv (decide (i103 < 0)))
  (some (iv .i64 (-1)))
  (some (iv .i64 i103)) := by
  rw [pure_eq]; kernel_rfl

theorem pu_laws_szEditS (a0 : List (List S)) (a1 : Int) : pureV (call Ev) Fn.laws_szEditS [lv a0, iv .i64 a1] =
  vcase (bv (decide ((IntKind.i64.wrap (a1 - (a0.length : Int))) < 0)))
  (some (iv .i64 (-1)))
  ((Lp.laws_szEditS 0 [lv a0, iv .i64 (IntKind.i64.wrap (a1 - (a0.length : Int))), iv .i64 0] (D 0)).bind fun o102 => lcase o102 (fun l103 h104 =>
  (l103[0]?).bind fun w107 =>
  gV1 w107 fun x108 =>
  gI .i64 x108 fun i109 =>
  some (iv .i64 i109)) (fun v105 h106 =>
  frzV h106 v105)) := by
  rw [pure_eq]; kernel_rfl

theorem eq_laws_szEditS_l0 (s0 : List (List S)) (s1 : Int) (s5 : Int) (h : H) : Lp.laws_szEditS 0 [lv s0, iv .i64 s1, iv .i64 s5] h =
  vcase (bv (decide (s5 < (s0.length : Int))))
  (idxF 2 s0 s5 fun r203 =>
  (rowN 2 r203 0).bind fun c204 =>
  (c204[0]?).bind fun x205 =>
  gI .i64 x205 fun i206 =>
  (c204[1]?).bind fun x207 =>
  gF x207 fun z208 =>
  if c204.length = 2 then
  pcallS (call Ev) Fn.laws_szEdit [.agg [.int .i64 i206, .fs z208], iv .i64 s1] fun v209 =>
  gV1 v209 fun x210 =>
  gI .i64 x210 fun i211 =>
  vcase (bv (decide (i211 < 0)))
  (some (.ret (iv .i64 (-1)) h))
  (Lp.laws_szEditS 0 [lv s0, iv .i64 i211, iv .i64 (IntKind.i64.wrap (s5 + 1))] (tidy h [lv s0, iv .i64 i211, iv .i64 (IntKind.i64.wrap (s5 + 1))] h))
  else none)
  (some (.done [iv .i64 s1] (tidy h [iv .i64 s1] h))) := by
  unfold Lp.laws_szEditS; rw [loop_eq]; kernel_rfl

theorem pu_spec_l7Bad (a0 : Int) : pureV (call Ev) Fn.spec_l7Bad [iv .i64 a0] =
  some (.agg [.int .i64 a0, .fs [], .fs []]) := by
  rw [pure_eq]; kernel_rfl

theorem eq_spec_l2Copy (a0 : List (List S)) (n : Nat) : call Ev Fn.spec_l2Copy [lv a0] (D n) =
  (appS 1 ((D n).new 1 []) (sv ((D n).n) 0 0) (lv a0)).bind fun p101 =>
  some (p101.1, p101.2) := by
  rw [call_eq]; kernel_rfl

theorem eq_spec_l7Copy (a0 : List (List S)) (n : Nat) : call Ev Fn.spec_l7Copy [lv a0] (D n) =
  (Lp.spec_l7Copy 0 [lv a0, sv ((D n).n) 0 0, iv .i64 0] ((D n).new 1 [])).bind fun o101 => lcase o101 (fun l102 h103 =>
  (l102[0]?).bind fun w106 =>
  some (w106, h103)) (fun v104 h105 =>
  some (v104, h105)) := by
  rw [call_eq]; kernel_rfl

theorem eq_spec_l7Copy_l0 (s0 : List (List S)) (s3 : V) (s4 : Int) (h : H) : Lp.spec_l7Copy 0 [lv s0, s3, iv .i64 s4] h =
  vcase (bv (decide (s4 < (s0.length : Int))))
  (idxF 1 s0 s4 fun r203 =>
  (r203[0]?).bind fun x204 =>
  gF x204 fun z205 =>
  pcallF (call Ev) Fn.spec_l2Copy true [lv z205] h fun v206 h207 =>
  cellsK v206 fun c208 =>
  if c208.length = 1 ∧ 0 + 1 ≤ ([.sl none 0] : List S).length then
  (appS 1 (h207.new 1 (setAt ([.sl none 0] : List S) 0 c208)) s3 (sv h207.n 0 1)).bind fun p209 =>
  Lp.spec_l7Copy 0 [lv s0, p209.1, iv .i64 (IntKind.i64.wrap (s4 + 1))] (tidy h [lv s0, p209.1, iv .i64 (IntKind.i64.wrap (s4 + 1))] p209.2)
  else none)
  (some (.done [s3] (tidy h [s3] h))) := by
  unfold Lp.spec_l7Copy; rw [loop_eq]; kernel_rfl

end Vm
