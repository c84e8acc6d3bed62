/-
  What each function, and each round of each loop, comes to in the small machine. Written by a program (gen3.py).
-/
import Derived.Test.YtfpcfiaoilcbgaaEnv
set_option linter.unusedVariables false
set_option maxRecDepth 100000
namespace Vm
open Go

theorem pu_impl_foldedFault (a0 : List (List S)) : pureV (call Ev) Fn.impl_foldedFault [lv a0] =
  vcase (bv (decide ((a0.length : Int) > 60)))
  (some (iv .i64 2))
  ((Lp.impl_foldedFault 0 [lv a0, lv a0, iv .i64 (a0.length : Int), iv .i64 0] (D 0)).bind fun o102 => lcase o102 (fun l103 h104 =>
  some (iv .i64 0)) (fun v105 h106 =>
  frzV h106 v105)) := by
  rw [pure_eq]; kernel_rfl

theorem eq_impl_foldedFault_l0 (s0 : List (List S)) (s9 : List (List S)) (s10 : Int) (s11 : Int) (h : H) : Lp.impl_foldedFault 0 [lv s0, lv s9, iv .i64 s10, iv .i64 s11] h =
  vcase (bv (decide (s11 < s10)))
  (idxF 10 s9 s11 fun r203 =>
  (rowN 10 r203 0).bind fun c204 =>
  (c204[0]?).bind fun x205 =>
  gB x205 fun q206 =>
  (c204[1]?).bind fun x207 =>
  gI .i64 x207 fun i208 =>
  (c204[2]?).bind fun x209 =>
  gI .i64 x209 fun i210 =>
  (c204[3]?).bind fun x211 =>
  gI .i64 x211 fun i212 =>
  (c204[4]?).bind fun x213 =>
  gS x213 fun y214 =>
  (c204[5]?).bind fun x215 =>
  gB x215 fun q216 =>
  (c204[6]?).bind fun x217 =>
  gI .i64 x217 fun i218 =>
  (c204[7]?).bind fun x219 =>
  gI .i64 x219 fun i220 =>
  (c204[8]?).bind fun x221 =>
  gI .i64 x221 fun i222 =>
  (c204[9]?).bind fun x223 =>
  gS x223 fun y224 =>
  if c204.length = 10 then
  stK 10 (h.new 0 [.bool false, .int .i64 0, .int .i64 0, .int .i64 0, .str (⟨#[]⟩), .bool false, .int .i64 0, .int .i64 0, .int .i64 0, .str (⟨#[]⟩)]) (pv h.n 0) (.agg [.bool q206, .int .i64 i208, .int .i64 i210, .int .i64 i212, .str y214, .bool q216, .int .i64 i218, .int .i64 i220, .int .i64 i222, .str y224]) fun h225 =>
  (loadN 10 h225 (pv h.n 0)).bind fun c226 =>
  (c226[0]?).bind fun x227 =>
  gB x227 fun q228 =>
  (c226[1]?).bind fun x229 =>
  gI .i64 x229 fun i230 =>
  (c226[2]?).bind fun x231 =>
  gI .i64 x231 fun i232 =>
  (c226[3]?).bind fun x233 =>
  gI .i64 x233 fun i234 =>
  (c226[4]?).bind fun x235 =>
  gS x235 fun y236 =>
  (c226[5]?).bind fun x237 =>
  gB x237 fun q238 =>
  (c226[6]?).bind fun x239 =>
  gI .i64 x239 fun i240 =>
  (c226[7]?).bind fun x241 =>
  gI .i64 x241 fun i242 =>
  (c226[8]?).bind fun x243 =>
  gI .i64 x243 fun i244 =>
  (c226[9]?).bind fun x245 =>
  gS x245 fun y246 =>
  if c226.length = 10 then
  pcallS (call Ev) Fn.impl_singleFault [.agg [.bool q228, .int .i64 i230, .int .i64 i232, .int .i64 i234, .str y236, .bool q238, .int .i64 i240, .int .i64 i242, .int .i64 i244, .str y246]] fun v247 =>
  gV1 v247 fun x248 =>
  gI .i64 x248 fun i249 =>
  vcase (bv (i249 != 0))
  (some (.ret (iv .i64 i249) h225))
  (vcase (bv (decide (s11 > 0)))
  (idxF 10 s0 (IntKind.i64.wrap (s11 - 1)) fun r252 =>
  (rowN 10 r252 0).bind fun c253 =>
  (c253[0]?).bind fun x254 =>
  gB x254 fun q255 =>
  (c253[1]?).bind fun x256 =>
  gI .i64 x256 fun i257 =>
  (c253[2]?).bind fun x258 =>
  gI .i64 x258 fun i259 =>
  (c253[3]?).bind fun x260 =>
  gI .i64 x260 fun i261 =>
  (c253[4]?).bind fun x262 =>
  gS x262 fun y263 =>
  (c253[5]?).bind fun x264 =>
  gB x264 fun q265 =>
  (c253[6]?).bind fun x266 =>
  gI .i64 x266 fun i267 =>
  (c253[7]?).bind fun x268 =>
  gI .i64 x268 fun i269 =>
  (c253[8]?).bind fun x270 =>
  gI .i64 x270 fun i271 =>
  (c253[9]?).bind fun x272 =>
  gS x272 fun y273 =>
  if c253.length = 10 then
  (loadN 10 h225 (pv h.n 0)).bind fun c274 =>
  (c274[0]?).bind fun x275 =>
  gB x275 fun q276 =>
  (c274[1]?).bind fun x277 =>
  gI .i64 x277 fun i278 =>
  (c274[2]?).bind fun x279 =>
  gI .i64 x279 fun i280 =>
  (c274[3]?).bind fun x281 =>
  gI .i64 x281 fun i282 =>
  (c274[4]?).bind fun x283 =>
  gS x283 fun y284 =>
  (c274[5]?).bind fun x285 =>
  gB x285 fun q286 =>
  (c274[6]?).bind fun x287 =>
  gI .i64 x287 fun i288 =>
  (c274[7]?).bind fun x289 =>
  gI .i64 x289 fun i290 =>
  (c274[8]?).bind fun x291 =>
  gI .i64 x291 fun i292 =>
  (c274[9]?).bind fun x293 =>
  gS x293 fun y294 =>
  if c274.length = 10 then
  pcallS (call Ev) Fn.impl_Change_key [.agg [.bool q255, .int .i64 i257, .int .i64 i259, .int .i64 i261, .str y263, .bool q265, .int .i64 i267, .int .i64 i269, .int .i64 i271, .str y273]] fun v295 =>
  gVA v295 fun c296 =>
  (c296[0]?).bind fun x297 =>
  gI .i64 x297 fun i298 =>
  (c296[1]?).bind fun x299 =>
  gI .i64 x299 fun i300 =>
  (c296[2]?).bind fun x301 =>
  gI .i64 x301 fun i302 =>
  (c296[3]?).bind fun x303 =>
  gS x303 fun y304 =>
  if c296.length = 4 then
  hchk h225 h225 (
  pcallS (call Ev) Fn.impl_Change_key [.agg [.bool q276, .int .i64 i278, .int .i64 i280, .int .i64 i282, .str y284, .bool q286, .int .i64 i288, .int .i64 i290, .int .i64 i292, .str y294]] fun v305 =>
  gVA v305 fun c306 =>
  (c306[0]?).bind fun x307 =>
  gI .i64 x307 fun i308 =>
  (c306[1]?).bind fun x309 =>
  gI .i64 x309 fun i310 =>
  (c306[2]?).bind fun x311 =>
  gI .i64 x311 fun i312 =>
  (c306[3]?).bind fun x313 =>
  gS x313 fun y314 =>
  if c306.length = 4 then
  hchk h225 h225 (
  pcallS (call Ev) Fn.impl_IsBefore [.agg [.int .i64 i298, .int .i64 i300, .int .i64 i302, .str y304], .agg [.int .i64 i308, .int .i64 i310, .int .i64 i312, .str y314]] fun v315 =>
  gV1 v315 fun x316 =>
  gB x316 fun q317 =>
  hchk h225 h225 (
  vcase (bv (!q317))
  (some (.ret (iv .i64 1) h225))
  (Lp.impl_foldedFault 0 [lv s0, lv s9, iv .i64 s10, iv .i64 (IntKind.i64.wrap (s11 + 1))] (tidy h [lv s0, lv s9, iv .i64 s10, iv .i64 (IntKind.i64.wrap (s11 + 1))] h225))))
  else none)
  else none
  else none
  else none)
  (hchk h225 h225 (
  hchk h225 h225 (
  hchk h225 h225 (
  Lp.impl_foldedFault 0 [lv s0, lv s9, iv .i64 s10, iv .i64 (IntKind.i64.wrap (s11 + 1))] (tidy h [lv s0, lv s9, iv .i64 s10, iv .i64 (IntKind.i64.wrap (s11 + 1))] h225))))))
  else none
  else none)
  (some (.done [] (tidy h [] h))) := by
  unfold Lp.impl_foldedFault; rw [loop_eq]; kernel_rfl

theorem pu_slices_BinarySearchFunc_impl_Change_impl_Change_impl_Row (a0 : List (List S)) (a1_0 : Int) (a1_1 : Int) (a1_2 : Int) (a1_3 : ByteArray) : pureV (call Ev) Fn.slices_BinarySearchFunc_impl_Change_impl_Change_impl_Row [lv a0, .agg [.int .i64 a1_0, .int .i64 a1_1, .int .i64 a1_2, .str a1_3], .s (.fn Fn.impl_keyOrder [])] =
  (Lp.slices_BinarySearchFunc_impl_Change_impl_Change_impl_Row 0 [lv a0, .s (.fn Fn.impl_keyOrder []), pv 0 0, iv .i64 (a0.length : Int), iv .i64 0, iv .i64 (a0.length : Int)] ((D 0).new 0 [.int .i64 a1_0, .int .i64 a1_1, .int .i64 a1_2, .str a1_3])).bind fun o101 => lcase o101 (fun l102 h103 =>
  (l102[0]?).bind fun w106 =>
  gV1 w106 fun x107 =>
  gF x107 fun z108 =>
  (l102[1]?).bind fun w109 =>
  (l102[2]?).bind fun w110 =>
  (l102[3]?).bind fun w111 =>
  gV1 w111 fun x112 =>
  gI .i64 x112 fun i113 =>
  (l102[4]?).bind fun w114 =>
  gV1 w114 fun x115 =>
  gI .i64 x115 fun i116 =>
  vcase (bv (decide (i116 < i113)))
  (idxF 10 z108 i116 fun r118 =>
  (rowN 10 r118 0).bind fun c119 =>
  (c119[0]?).bind fun x120 =>
  gB x120 fun q121 =>
  (c119[1]?).bind fun x122 =>
  gI .i64 x122 fun i123 =>
  (c119[2]?).bind fun x124 =>
  gI .i64 x124 fun i125 =>
  (c119[3]?).bind fun x126 =>
  gI .i64 x126 fun i127 =>
  (c119[4]?).bind fun x128 =>
  gS x128 fun y129 =>
  (c119[5]?).bind fun x130 =>
  gB x130 fun q131 =>
  (c119[6]?).bind fun x132 =>
  gI .i64 x132 fun i133 =>
  (c119[7]?).bind fun x134 =>
  gI .i64 x134 fun i135 =>
  (c119[8]?).bind fun x136 =>
  gI .i64 x136 fun i137 =>
  (c119[9]?).bind fun x138 =>
  gS x138 fun y139 =>
  if c119.length = 10 then
  ldK (.agg [.i .i64, .i .i64, .i .i64, .s]) ⟨4, 40, [.int .i64 0, .int .i64 0, .int .i64 0, .str ⟨#[]⟩], true, .st [(0, 2), (1, 2), (2, 2), (3, 9)], true⟩ h103 w110 fun v140 =>
  gVA v140 fun c141 =>
  (c141[0]?).bind fun x142 =>
  gI .i64 x142 fun i143 =>
  (c141[1]?).bind fun x144 =>
  gI .i64 x144 fun i145 =>
  (c141[2]?).bind fun x146 =>
  gI .i64 x146 fun i147 =>
  (c141[3]?).bind fun x148 =>
  gS x148 fun y149 =>
  if c141.length = 4 then
  fnK w109 fun j150 m151 =>
  (frzVs h103 ([.agg [.bool q121, .int .i64 i123, .int .i64 i125, .int .i64 i127, .str y129, .bool q131, .int .i64 i133, .int .i64 i135, .int .i64 i137, .str y139], .agg [.int .i64 i143, .int .i64 i145, .int .i64 i147, .str y149]] ++ m151.map fun p => .s (.ptr (some p)))).bind fun l152 =>
  pcallS (call Ev) j150 (normVs (Ev.psz j150) l152) fun v153 =>
  Vm.tyV (Ev.rt j150) v153 fun v154 =>
  gV1 v154 fun x155 =>
  gI .i64 x155 fun i156 =>
  hchk h103 h103 (
  some (.tup [.s (.int .i64 i116), .s (.bool (i156 == 0))]))
  else none
  else none)
  (hchk h103 h103 (
  some (.tup [.s (.int .i64 i116), .s (.bool false)])))) (fun v104 h105 =>
  frzV h105 v104) := by
  rw [pure_eq]; kernel_rfl

theorem eq_slices_BinarySearchFunc_impl_Change_impl_Change_impl_Row_l0 (s0 : List (List S)) (s4 : V) (s8 : Int) (s9 : Int) (s10 : Int) (h : H) : Lp.slices_BinarySearchFunc_impl_Change_impl_Change_impl_Row 0 [lv s0, .s (.fn Fn.impl_keyOrder []), s4, iv .i64 s8, iv .i64 s9, iv .i64 s10] h =
  vcase (bv (decide (s9 < s10)))
  ((bin Ev .shr 163 (iv .u64 (IntKind.u64.wrap (IntKind.i64.wrap (s9 + s10)))) (iv .u64 1)).bind fun b203 =>
  gV1 b203 fun x204 =>
  gI .u64 x204 fun i205 =>
  idxF 10 s0 (IntKind.i64.wrap i205) fun r206 =>
  (rowN 10 r206 0).bind fun c207 =>
  (c207[0]?).bind fun x208 =>
  gB x208 fun q209 =>
  (c207[1]?).bind fun x210 =>
  gI .i64 x210 fun i211 =>
  (c207[2]?).bind fun x212 =>
  gI .i64 x212 fun i213 =>
  (c207[3]?).bind fun x214 =>
  gI .i64 x214 fun i215 =>
  (c207[4]?).bind fun x216 =>
  gS x216 fun y217 =>
  (c207[5]?).bind fun x218 =>
  gB x218 fun q219 =>
  (c207[6]?).bind fun x220 =>
  gI .i64 x220 fun i221 =>
  (c207[7]?).bind fun x222 =>
  gI .i64 x222 fun i223 =>
  (c207[8]?).bind fun x224 =>
  gI .i64 x224 fun i225 =>
  (c207[9]?).bind fun x226 =>
  gS x226 fun y227 =>
  if c207.length = 10 then
  ldK (.agg [.i .i64, .i .i64, .i .i64, .s]) ⟨4, 40, [.int .i64 0, .int .i64 0, .int .i64 0, .str ⟨#[]⟩], true, .st [(0, 2), (1, 2), (2, 2), (3, 9)], true⟩ h s4 fun v228 =>
  gVA v228 fun c229 =>
  (c229[0]?).bind fun x230 =>
  gI .i64 x230 fun i231 =>
  (c229[1]?).bind fun x232 =>
  gI .i64 x232 fun i233 =>
  (c229[2]?).bind fun x234 =>
  gI .i64 x234 fun i235 =>
  (c229[3]?).bind fun x236 =>
  gS x236 fun y237 =>
  if c229.length = 4 then
  pcallS (call Ev) Fn.impl_keyOrder [.agg [.bool q209, .int .i64 i211, .int .i64 i213, .int .i64 i215, .str y217, .bool q219, .int .i64 i221, .int .i64 i223, .int .i64 i225, .str y227], .agg [.int .i64 i231, .int .i64 i233, .int .i64 i235, .str y237]] fun v238 =>
  gV1 v238 fun x239 =>
  gI .i64 x239 fun i240 =>
  hchk h h (
  vcase (bv (decide (i240 < 0)))
  (Lp.slices_BinarySearchFunc_impl_Change_impl_Change_impl_Row 0 [lv s0, .s (.fn Fn.impl_keyOrder []), s4, iv .i64 s8, iv .i64 (IntKind.i64.wrap ((IntKind.i64.wrap i205) + 1)), iv .i64 s10] (tidy h [lv s0, .s (.fn Fn.impl_keyOrder []), s4, iv .i64 s8, iv .i64 (IntKind.i64.wrap ((IntKind.i64.wrap i205) + 1)), iv .i64 s10] h))
  (Lp.slices_BinarySearchFunc_impl_Change_impl_Change_impl_Row 0 [lv s0, .s (.fn Fn.impl_keyOrder []), s4, iv .i64 s8, iv .i64 s9, iv .i64 (IntKind.i64.wrap i205)] (tidy h [lv s0, .s (.fn Fn.impl_keyOrder []), s4, iv .i64 s8, iv .i64 s9, iv .i64 (IntKind.i64.wrap i205)] h)))
  else none
  else none)
  (some (.done [lv s0, .s (.fn Fn.impl_keyOrder []), s4, iv .i64 s8, iv .i64 s9] (tidy h [lv s0, .s (.fn Fn.impl_keyOrder []), s4, iv .i64 s8, iv .i64 s9] h))) := by
  unfold Lp.slices_BinarySearchFunc_impl_Change_impl_Change_impl_Row; rw [loop_eq]; kernel_rfl

theorem pu_impl_keyOrder (a0_0 : Bool) (a0_1 : Int) (a0_2 : Int) (a0_3 : Int) (a0_4 : ByteArray) (a0_5 : Bool) (a0_6 : Int) (a0_7 : Int) (a0_8 : Int) (a0_9 : ByteArray) (a1_0 : Int) (a1_1 : Int) (a1_2 : Int) (a1_3 : ByteArray) : pureV (call Ev) Fn.impl_keyOrder [.agg [.bool a0_0, .int .i64 a0_1, .int .i64 a0_2, .int .i64 a0_3, .str a0_4, .bool a0_5, .int .i64 a0_6, .int .i64 a0_7, .int .i64 a0_8, .str a0_9], .agg [.int .i64 a1_0, .int .i64 a1_1, .int .i64 a1_2, .str a1_3]] =
  pcallS (call Ev) Fn.impl_Change_key [.agg [.bool a0_0, .int .i64 a0_1, .int .i64 a0_2, .int .i64 a0_3, .str a0_4, .bool a0_5, .int .i64 a0_6, .int .i64 a0_7, .int .i64 a0_8, .str a0_9]] fun v101 =>
  gVA v101 fun c102 =>
  (c102[0]?).bind fun x103 =>
  gI .i64 x103 fun i104 =>
  (c102[1]?).bind fun x105 =>
  gI .i64 x105 fun i106 =>
  (c102[2]?).bind fun x107 =>
  gI .i64 x107 fun i108 =>
  (c102[3]?).bind fun x109 =>
  gS x109 fun y110 =>
  if c102.length = 4 then
  hchk (((D 0).new 0 [.bool a0_0, .int .i64 a0_1, .int .i64 a0_2, .int .i64 a0_3, .str a0_4, .bool a0_5, .int .i64 a0_6, .int .i64 a0_7, .int .i64 a0_8, .str a0_9]).new 0 [.int .i64 a1_0, .int .i64 a1_1, .int .i64 a1_2, .str a1_3]) (((D 0).new 0 [.bool a0_0, .int .i64 a0_1, .int .i64 a0_2, .int .i64 a0_3, .str a0_4, .bool a0_5, .int .i64 a0_6, .int .i64 a0_7, .int .i64 a0_8, .str a0_9]).new 0 [.int .i64 a1_0, .int .i64 a1_1, .int .i64 a1_2, .str a1_3]) (
  pcallS (call Ev) Fn.impl_order [.agg [.int .i64 i104, .int .i64 i106, .int .i64 i108, .str y110], .agg [.int .i64 a1_0, .int .i64 a1_1, .int .i64 a1_2, .str a1_3]] fun v111 =>
  gV1 v111 fun x112 =>
  gI .i64 x112 fun i113 =>
  hchk (((D 0).new 0 [.bool a0_0, .int .i64 a0_1, .int .i64 a0_2, .int .i64 a0_3, .str a0_4, .bool a0_5, .int .i64 a0_6, .int .i64 a0_7, .int .i64 a0_8, .str a0_9]).new 0 [.int .i64 a1_0, .int .i64 a1_1, .int .i64 a1_2, .str a1_3]) (((D 0).new 0 [.bool a0_0, .int .i64 a0_1, .int .i64 a0_2, .int .i64 a0_3, .str a0_4, .bool a0_5, .int .i64 a0_6, .int .i64 a0_7, .int .i64 a0_8, .str a0_9]).new 0 [.int .i64 a1_0, .int .i64 a1_1, .int .i64 a1_2, .str a1_3]) (
  some (iv .i64 i113)))
  else none := by
  rw [pure_eq]; kernel_rfl

theorem eq_slices_Clone_impl_Change_impl_Change (a0 : List (List S)) (n : Nat) : call Ev Fn.slices_Clone_impl_Change_impl_Change [lv a0] (D n) =
  (bin Ev .eql 52 (lv a0) (.s (.sl none 0))).bind fun b101 =>
  gV1 b101 fun x102 =>
  gB x102 fun q103 =>
  vcase (bv q103)
  (some (.s (.sl none 0), (D n)))
  ((appS 10 ((D n).new 10 []) (sv ((D n).n) 0 0) (lv a0)).bind fun p105 =>
  some (p105.1, p105.2)) := by
  rw [call_eq]; kernel_rfl

theorem eq_slices_Reverse_impl_Change_impl_Change (a0 : V) (h : H) : call Ev Fn.slices_Reverse_impl_Change_impl_Change [a0] h =
  (lenV (.sl 47) a0).bind fun v101 =>
  gV1 v101 fun x102 =>
  gI .i64 x102 fun i103 =>
  (Lp.slices_Reverse_impl_Change_impl_Change 0 [a0, iv .i64 0, iv .i64 (IntKind.i64.wrap (i103 - 1))] h).bind fun o104 => lcase o104 (fun l105 h106 =>
  some (.tup [], h106)) (fun v107 h108 =>
  some (v107, h108)) := by
  rw [call_eq]; kernel_rfl

theorem eq_slices_Reverse_impl_Change_impl_Change_l0 (s0 : V) (s2 : Int) (s3 : Int) (h : H) : Lp.slices_Reverse_impl_Change_impl_Change 0 [s0, iv .i64 s2, iv .i64 s3] h =
  vcase (bv (decide (s2 < s3)))
  (idxK 10 s0 (iv .i64 s3) fun v203 =>
  ldK (.agg [.b, .i .i64, .i .i64, .i .i64, .s, .b, .i .i64, .i .i64, .i .i64, .s]) ⟨10, 96, [.bool false, .int .i64 0, .int .i64 0, .int .i64 0, .str ⟨#[]⟩, .bool false, .int .i64 0, .int .i64 0, .int .i64 0, .str ⟨#[]⟩], true, .st [(0, 4), (1, 45), (5, 4), (6, 45)], true⟩ h v203 fun v204 =>
  gVA v204 fun c205 =>
  (c205[0]?).bind fun x206 =>
  gB x206 fun q207 =>
  (c205[1]?).bind fun x208 =>
  gI .i64 x208 fun i209 =>
  (c205[2]?).bind fun x210 =>
  gI .i64 x210 fun i211 =>
  (c205[3]?).bind fun x212 =>
  gI .i64 x212 fun i213 =>
  (c205[4]?).bind fun x214 =>
  gS x214 fun y215 =>
  (c205[5]?).bind fun x216 =>
  gB x216 fun q217 =>
  (c205[6]?).bind fun x218 =>
  gI .i64 x218 fun i219 =>
  (c205[7]?).bind fun x220 =>
  gI .i64 x220 fun i221 =>
  (c205[8]?).bind fun x222 =>
  gI .i64 x222 fun i223 =>
  (c205[9]?).bind fun x224 =>
  gS x224 fun y225 =>
  if c205.length = 10 then
  idxK 10 s0 (iv .i64 s2) fun v226 =>
  ldK (.agg [.b, .i .i64, .i .i64, .i .i64, .s, .b, .i .i64, .i .i64, .i .i64, .s]) ⟨10, 96, [.bool false, .int .i64 0, .int .i64 0, .int .i64 0, .str ⟨#[]⟩, .bool false, .int .i64 0, .int .i64 0, .int .i64 0, .str ⟨#[]⟩], true, .st [(0, 4), (1, 45), (5, 4), (6, 45)], true⟩ h v226 fun v227 =>
  gVA v227 fun c228 =>
  (c228[0]?).bind fun x229 =>
  gB x229 fun q230 =>
  (c228[1]?).bind fun x231 =>
  gI .i64 x231 fun i232 =>
  (c228[2]?).bind fun x233 =>
  gI .i64 x233 fun i234 =>
  (c228[3]?).bind fun x235 =>
  gI .i64 x235 fun i236 =>
  (c228[4]?).bind fun x237 =>
  gS x237 fun y238 =>
  (c228[5]?).bind fun x239 =>
  gB x239 fun q240 =>
  (c228[6]?).bind fun x241 =>
  gI .i64 x241 fun i242 =>
  (c228[7]?).bind fun x243 =>
  gI .i64 x243 fun i244 =>
  (c228[8]?).bind fun x245 =>
  gI .i64 x245 fun i246 =>
  (c228[9]?).bind fun x247 =>
  gS x247 fun y248 =>
  if c228.length = 10 then
  idxK 10 s0 (iv .i64 s2) fun v249 =>
  stK 10 h v249 (.agg [.bool q207, .int .i64 i209, .int .i64 i211, .int .i64 i213, .str y215, .bool q217, .int .i64 i219, .int .i64 i221, .int .i64 i223, .str y225]) fun h250 =>
  idxK 10 s0 (iv .i64 s3) fun v251 =>
  stK 10 h250 v251 (.agg [.bool q230, .int .i64 i232, .int .i64 i234, .int .i64 i236, .str y238, .bool q240, .int .i64 i242, .int .i64 i244, .int .i64 i246, .str y248]) fun h252 =>
  Lp.slices_Reverse_impl_Change_impl_Change 0 [s0, iv .i64 (IntKind.i64.wrap (s2 + 1)), iv .i64 (IntKind.i64.wrap (s3 - 1))] (tidy h [s0, iv .i64 (IntKind.i64.wrap (s2 + 1)), iv .i64 (IntKind.i64.wrap (s3 - 1))] h252)
  else none
  else none)
  (some (.done [] (tidy h [] h))) := by
  unfold Lp.slices_Reverse_impl_Change_impl_Change; rw [loop_eq]; kernel_rfl

theorem eq_slices_rotateLeft_impl_Change (a0 : V) (a1 : Int) (h : H) : call Ev Fn.slices_rotateLeft_impl_Change [a0, iv .i64 a1] h =
  slK 10 h a0 none (some (iv .i64 a1)) fun v101 =>
  (call Ev Fn.slices_Reverse_impl_Change_impl_Change [v101] h).bind fun p102 =>
  slK 10 (tidy h [p102.1] p102.2) a0 (some (iv .i64 a1)) none fun v103 =>
  (call Ev Fn.slices_Reverse_impl_Change_impl_Change [v103] (tidy h [p102.1] p102.2)).bind fun p104 =>
  (call Ev Fn.slices_Reverse_impl_Change_impl_Change [a0] (tidy (tidy h [p102.1] p102.2) [p104.1] p104.2)).bind fun p105 =>
  some (.tup [], tidy (tidy (tidy h [p102.1] p102.2) [p104.1] p104.2) [p105.1] p105.2) := by
  rw [call_eq]; kernel_rfl

theorem eq_slices_rotateRight_impl_Change (a0 : V) (a1 : Int) (h : H) : call Ev Fn.slices_rotateRight_impl_Change [a0, iv .i64 a1] h =
  (lenV (.sl 47) a0).bind fun v101 =>
  gV1 v101 fun x102 =>
  gI .i64 x102 fun i103 =>
  (call Ev Fn.slices_rotateLeft_impl_Change [a0, iv .i64 (IntKind.i64.wrap (i103 - a1))] h).bind fun p104 =>
  some (.tup [], tidy h [p104.1] p104.2) := by
  rw [call_eq]; kernel_rfl

noncomputable def Jn.impl_FoldChange_0 (q497 : Bool) (v173 : V) (i169 : Int) (h454 : H) (n : Nat) (a1_0 : Bool) (a1_1 : Int) (a1_2 : Int) (a1_3 : Int) (a1_4 : ByteArray) (a1_5 : Bool) (a1_6 : Int) (a1_7 : Int) (a1_8 : Int) (a1_9 : ByteArray) (h174 : H) : Option (V × H) :=
  vcase (bv q497)
  ((call Ev Fn.slices_Delete_impl_Change_impl_Change [v173, iv .i64 i169, iv .i64 (IntKind.i64.wrap (i169 + 1))] h454).bind fun p499 =>
  cellsK p499.1 fun c500 =>
  if c500.length = 1 ∧ 1 + 1 ≤ ([.int .i64 0, .sl none 0] : List S).length then
  ((setAt ([.int .i64 0, .sl none 0] : List S) 1 c500)[0]?).bind fun x501 =>
  gI .i64 x501 fun i502 =>
  ((setAt ([.int .i64 0, .sl none 0] : List S) 1 c500)[1]?).bind fun x503 =>
  if (setAt ([.int .i64 0, .sl none 0] : List S) 1 c500).length = 2 then
  stK 2 (tidy h454 [p499.1] p499.2) (pv (((D n).new 0 [.bool a1_0, .int .i64 a1_1, .int .i64 a1_2, .int .i64 a1_3, .str a1_4, .bool a1_5, .int .i64 a1_6, .int .i64 a1_7, .int .i64 a1_8, .str a1_9]).n) 0) (.agg [.int .i64 i502, x503]) fun h504 =>
  (loadN 2 h504 (pv (((D n).new 0 [.bool a1_0, .int .i64 a1_1, .int .i64 a1_2, .int .i64 a1_3, .str a1_4, .bool a1_5, .int .i64 a1_6, .int .i64 a1_7, .int .i64 a1_8, .str a1_9]).n) 0)).bind fun c505 =>
  some (.agg c505, h504)
  else none
  else none)
  ((loadN 10 h454 (pv h174.n 0)).bind fun c506 =>
  (c506[0]?).bind fun x507 =>
  gB x507 fun q508 =>
  (c506[1]?).bind fun x509 =>
  gI .i64 x509 fun i510 =>
  (c506[2]?).bind fun x511 =>
  gI .i64 x511 fun i512 =>
  (c506[3]?).bind fun x513 =>
  gI .i64 x513 fun i514 =>
  (c506[4]?).bind fun x515 =>
  gS x515 fun y516 =>
  (c506[5]?).bind fun x517 =>
  gB x517 fun q518 =>
  (c506[6]?).bind fun x519 =>
  gI .i64 x519 fun i520 =>
  (c506[7]?).bind fun x521 =>
  gI .i64 x521 fun i522 =>
  (c506[8]?).bind fun x523 =>
  gI .i64 x523 fun i524 =>
  (c506[9]?).bind fun x525 =>
  gS x525 fun y526 =>
  if c506.length = 10 then
  idxK 10 v173 (iv .i64 i169) fun v527 =>
  stK 10 h454 v527 (.agg [.bool q508, .int .i64 i510, .int .i64 i512, .int .i64 i514, .str y516, .bool q518, .int .i64 i520, .int .i64 i522, .int .i64 i524, .str y526]) fun h528 =>
  cellsK v173 fun c529 =>
  if c529.length = 1 ∧ 1 + 1 ≤ ([.int .i64 0, .sl none 0] : List S).length then
  ((setAt ([.int .i64 0, .sl none 0] : List S) 1 c529)[0]?).bind fun x530 =>
  gI .i64 x530 fun i531 =>
  ((setAt ([.int .i64 0, .sl none 0] : List S) 1 c529)[1]?).bind fun x532 =>
  if (setAt ([.int .i64 0, .sl none 0] : List S) 1 c529).length = 2 then
  stK 2 h528 (pv (((D n).new 0 [.bool a1_0, .int .i64 a1_1, .int .i64 a1_2, .int .i64 a1_3, .str a1_4, .bool a1_5, .int .i64 a1_6, .int .i64 a1_7, .int .i64 a1_8, .str a1_9]).n) 0) (.agg [.int .i64 i531, x532]) fun h533 =>
  (loadN 2 h533 (pv (((D n).new 0 [.bool a1_0, .int .i64 a1_1, .int .i64 a1_2, .int .i64 a1_3, .str a1_4, .bool a1_5, .int .i64 a1_6, .int .i64 a1_7, .int .i64 a1_8, .str a1_9]).n) 0)).bind fun c534 =>
  some (.agg c534, h533)
  else none
  else none
  else none)

noncomputable def Jn.impl_FoldChange_1 (q462 : Bool) (h454 : H) (h174 : H) (v173 : V) (i169 : Int) (n : Nat) (a1_0 : Bool) (a1_1 : Int) (a1_2 : Int) (a1_3 : Int) (a1_4 : ByteArray) (a1_5 : Bool) (a1_6 : Int) (a1_7 : Int) (a1_8 : Int) (a1_9 : ByteArray) : Option (V × H) :=
  vcase (bv q462)
  (Jn.impl_FoldChange_0 true v173 i169 h454 n a1_0 a1_1 a1_2 a1_3 a1_4 a1_5 a1_6 a1_7 a1_8 a1_9 h174)
  ((load1 h454 (pv h174.n 0)).bind fun x465 =>
  gB x465 fun q466 =>
  vcase (bv q466)
  ((load1 h454 (pv h174.n 5)).bind fun x468 =>
  gB x468 fun q469 =>
  vcase (bv q469)
  ((loadN 4 h454 (pv h174.n 1)).bind fun c473 =>
  (c473[0]?).bind fun x474 =>
  gI .i64 x474 fun i475 =>
  (c473[1]?).bind fun x476 =>
  gI .i64 x476 fun i477 =>
  (c473[2]?).bind fun x478 =>
  gI .i64 x478 fun i479 =>
  (c473[3]?).bind fun x480 =>
  gS x480 fun y481 =>
  if c473.length = 4 then
  (loadN 4 h454 (pv h174.n 6)).bind fun c482 =>
  (c482[0]?).bind fun x483 =>
  gI .i64 x483 fun i484 =>
  (c482[1]?).bind fun x485 =>
  gI .i64 x485 fun i486 =>
  (c482[2]?).bind fun x487 =>
  gI .i64 x487 fun i488 =>
  (c482[3]?).bind fun x489 =>
  gS x489 fun y490 =>
  if c482.length = 4 then
  Jn.impl_FoldChange_0 (((i475 : Int) == i484) && (((i477 : Int) == i486) && (((i479 : Int) == i488) && (((y481 : ByteArray).toList == (y490 : ByteArray).toList) && true)))) v173 i169 h454 n a1_0 a1_1 a1_2 a1_3 a1_4 a1_5 a1_6 a1_7 a1_8 a1_9 h174
  else none
  else none)
  (Jn.impl_FoldChange_0 false v173 i169 h454 n a1_0 a1_1 a1_2 a1_3 a1_4 a1_5 a1_6 a1_7 a1_8 a1_9 h174))
  (Jn.impl_FoldChange_0 false v173 i169 h454 n a1_0 a1_1 a1_2 a1_3 a1_4 a1_5 a1_6 a1_7 a1_8 a1_9 h174))

noncomputable def Jn.impl_FoldChange_2 (q438 : Bool) (h227 : H) (n : Nat) (a1_0 : Bool) (a1_1 : Int) (a1_2 : Int) (a1_3 : Int) (a1_4 : ByteArray) (a1_5 : Bool) (a1_6 : Int) (a1_7 : Int) (a1_8 : Int) (a1_9 : ByteArray) (h174 : H) (v173 : V) (i169 : Int) : Option (V × H) :=
  vcase (bv q438)
  (stK 2 h227 (pv (((D n).new 0 [.bool a1_0, .int .i64 a1_1, .int .i64 a1_2, .int .i64 a1_3, .str a1_4, .bool a1_5, .int .i64 a1_6, .int .i64 a1_7, .int .i64 a1_8, .str a1_9]).n) 0) (.agg [.int .i64 8, .sl none 0]) fun h440 =>
  (loadN 2 h440 (pv (((D n).new 0 [.bool a1_0, .int .i64 a1_1, .int .i64 a1_2, .int .i64 a1_3, .str a1_4, .bool a1_5, .int .i64 a1_6, .int .i64 a1_7, .int .i64 a1_8, .str a1_9]).n) 0)).bind fun c441 =>
  some (.agg c441, h440))
  ((load1 (h227.put h174.n .dead) (pv ((D n).n) 5)).bind fun x442 =>
  gB x442 fun q443 =>
  (loadN 4 (h227.put h174.n .dead) (pv ((D n).n) 6)).bind fun c444 =>
  (c444[0]?).bind fun x445 =>
  gI .i64 x445 fun i446 =>
  (c444[1]?).bind fun x447 =>
  gI .i64 x447 fun i448 =>
  (c444[2]?).bind fun x449 =>
  gI .i64 x449 fun i450 =>
  (c444[3]?).bind fun x451 =>
  gS x451 fun y452 =>
  if c444.length = 4 then
  stK 1 h227 (pv h174.n 5) (bv q443) fun h453 =>
  hchk (h227.put h174.n .dead) h453 (
  stK 4 h453 (pv h174.n 6) (.agg [.int .i64 i446, .int .i64 i448, .int .i64 i450, .str y452]) fun h454 =>
  hchk (h227.put h174.n .dead) h454 (
  (load1 h454 (pv h174.n 0)).bind fun x455 =>
  gB x455 fun q456 =>
  vcase (bv (!q456))
  ((load1 h454 (pv h174.n 5)).bind fun x458 =>
  gB x458 fun q459 =>
  Jn.impl_FoldChange_1 (!q459) h454 h174 v173 i169 n a1_0 a1_1 a1_2 a1_3 a1_4 a1_5 a1_6 a1_7 a1_8 a1_9)
  (Jn.impl_FoldChange_1 false h454 h174 v173 i169 n a1_0 a1_1 a1_2 a1_3 a1_4 a1_5 a1_6 a1_7 a1_8 a1_9)))
  else none)

theorem pu_laws_szByteS (a0 : List (List S)) (a1 : Int) : pureV (call Ev) Fn.laws_szByteS [lv a0, iv .i64 a1] =
  vcase (bv (decide ((IntKind.i64.wrap (a1 - (a0.length : Int))) < 0)))
  (some (iv .i64 (-1)))
  (some (iv .i64 (IntKind.i64.wrap (a1 - (a0.length : Int))))) := by
  rw [pure_eq]; kernel_rfl

theorem pu_laws_szByteSS (a0 : List (List S)) (a1 : Int) : pureV (call Ev) Fn.laws_szByteSS [lv a0, iv .i64 a1] =
  vcase (bv (decide ((IntKind.i64.wrap (a1 - (a0.length : Int))) < 0)))
  (some (iv .i64 (-1)))
  ((Lp.laws_szByteSS 0 [lv a0, iv .i64 (IntKind.i64.wrap (a1 - (a0.length : Int))), iv .i64 0] (D 0)).bind fun o102 => lcase o102 (fun l103 h104 =>
  (l103[0]?).bind fun w107 =>
  gV1 w107 fun x108 =>
  gI .i64 x108 fun i109 =>
  some (iv .i64 i109)) (fun v105 h106 =>
  frzV h106 v105)) := by
  rw [pure_eq]; kernel_rfl

theorem eq_laws_szByteSS_l0 (s0 : List (List S)) (s1 : Int) (s5 : Int) (h : H) : Lp.laws_szByteSS 0 [lv s0, iv .i64 s1, iv .i64 s5] h =
  vcase (bv (decide (s5 < (s0.length : Int))))
  (idxF 1 s0 s5 fun r203 =>
  (r203[0]?).bind fun x204 =>
  gF x204 fun z205 =>
  pcallS (call Ev) Fn.laws_szByteS [lv z205, iv .i64 s1] fun v206 =>
  gV1 v206 fun x207 =>
  gI .i64 x207 fun i208 =>
  vcase (bv (decide (i208 < 0)))
  (some (.ret (iv .i64 (-1)) h))
  (Lp.laws_szByteSS 0 [lv s0, iv .i64 i208, iv .i64 (IntKind.i64.wrap (s5 + 1))] (tidy h [lv s0, iv .i64 i208, iv .i64 (IntKind.i64.wrap (s5 + 1))] h)))
  (some (.done [iv .i64 s1] (tidy h [iv .i64 s1] h))) := by
  unfold Lp.laws_szByteSS; rw [loop_eq]; kernel_rfl

theorem pu_laws_szEdit (a0_0 : Int) (a0_1 : List (List S)) (a1 : Int) : pureV (call Ev) Fn.laws_szEdit [.agg [.int .i64 a0_0, .fs a0_1], iv .i64 a1] =
  pcallS (call Ev) Fn.laws_szByteS [lv a0_1, iv .i64 a1] fun v101 =>
  gV1 v101 fun x102 =>
  gI .i64 x102 fun i103 =>
  vcase (bv (decide (i103 < 0)))
  (some (iv .i64 (-1)))
  (some (iv .i64 i103)) := by
  rw [pure_eq]; kernel_rfl

theorem pu_laws_szEditS (a0 : List (List S)) (a1 : Int) : pureV (call Ev) Fn.laws_szEditS [lv a0, iv .i64 a1] =
  vcase (bv (decide ((IntKind.i64.wrap (a1 - (a0.length : Int))) < 0)))
  (some (iv .i64 (-1)))
  ((Lp.laws_szEditS 0 [lv a0, iv .i64 (IntKind.i64.wrap (a1 - (a0.length : Int))), iv .i64 0] (D 0)).bind fun o102 => lcase o102 (fun l103 h104 =>
  (l103[0]?).bind fun w107 =>
  gV1 w107 fun x108 =>
  gI .i64 x108 fun i109 =>
  some (iv .i64 i109)) (fun v105 h106 =>
  frzV h106 v105)) := by
  rw [pure_eq]; kernel_rfl

theorem eq_laws_szEditS_l0 (s0 : List (List S)) (s1 : Int) (s5 : Int) (h : H) : Lp.laws_szEditS 0 [lv s0, iv .i64 s1, iv .i64 s5] h =
  vcase (bv (decide (s5 < (s0.length : Int))))
  (idxF 2 s0 s5 fun r203 =>
  (rowN 2 r203 0).bind fun c204 =>
  (c204[0]?).bind fun x205 =>
  gI .i64 x205 fun i206 =>
  (c204[1]?).bind fun x207 =>
  gF x207 fun z208 =>
  if c204.length = 2 then
  pcallS (call Ev) Fn.laws_szEdit [.agg [.int .i64 i206, .fs z208], iv .i64 s1] fun v209 =>
  gV1 v209 fun x210 =>
  gI .i64 x210 fun i211 =>
  vcase (bv (decide (i211 < 0)))
  (some (.ret (iv .i64 (-1)) h))
  (Lp.laws_szEditS 0 [lv s0, iv .i64 i211, iv .i64 (IntKind.i64.wrap (s5 + 1))] (tidy h [lv s0, iv .i64 i211, iv .i64 (IntKind.i64.wrap (s5 + 1))] h))
  else none)
  (some (.done [iv .i64 s1] (tidy h [iv .i64 s1] h))) := by
  unfold Lp.laws_szEditS; rw [loop_eq]; kernel_rfl

theorem pu_spec_l7Bad (a0 : Int) : pureV (call Ev) Fn.spec_l7Bad [iv .i64 a0] =
  some (.agg [.int .i64 a0, .fs [], .fs []]) := by
  rw [pure_eq]; kernel_rfl

theorem eq_spec_l2Copy (a0 : List (List S)) (n : Nat) : call Ev Fn.spec_l2Copy [lv a0] (D n) =
  (appS 1 ((D n).new 1 []) (sv ((D n).n) 0 0) (lv a0)).bind fun p101 =>
  some (p101.1, p101.2) := by
  rw [call_eq]; kernel_rfl

theorem eq_spec_l7Copy (a0 : List (List S)) (n : Nat) : call Ev Fn.spec_l7Copy [lv a0] (D n) =
  (Lp.spec_l7Copy 0 [lv a0, sv ((D n).n) 0 0, iv .i64 0] ((D n).new 1 [])).bind fun o101 => lcase o101 (fun l102 h103 =>
  (l102[0]?).bind fun w106 =>
  some (w106, h103)) (fun v104 h105 =>
  some (v104, h105)) := by
  rw [call_eq]; kernel_rfl

theorem eq_spec_l7Copy_l0 (s0 : List (List S)) (s3 : V) (s4 : Int) (h : H) : Lp.spec_l7Copy 0 [lv s0, s3, iv .i64 s4] h =
  vcase (bv (decide (s4 < (s0.length : Int))))
  (idxF 1 s0 s4 fun r203 =>
  (r203[0]?).bind fun x204 =>
  gF x204 fun z205 =>
  pcallF (call Ev) Fn.spec_l2Copy true [lv z205] h fun v206 h207 =>
  cellsK v206 fun c208 =>
  if c208.length = 1 ∧ 0 + 1 ≤ ([.sl none 0] : List S).length then
  (appS 1 (h207.new 1 (setAt ([.sl none 0] : List S) 0 c208)) s3 (sv h207.n 0 1)).bind fun p209 =>
  Lp.spec_l7Copy 0 [lv s0, p209.1, iv .i64 (IntKind.i64.wrap (s4 + 1))] (tidy h [lv s0, p209.1, iv .i64 (IntKind.i64.wrap (s4 + 1))] p209.2)
  else none)
  (some (.done [s3] (tidy h [s3] h))) := by
  unfold Lp.spec_l7Copy; rw [loop_eq]; kernel_rfl

theorem pu_spec_ApplyEdits (a0 : List (List S)) (a1 : List (List S)) : pureV (call Ev) Fn.spec_ApplyEdits [lv a0, lv a1] =
  vcase (bv (decide ((a0.length : Int) > 12)))
  ((pureV (call Ev) Fn.spec_l7Bad [iv .i64 2]).bind fun v102 =>
  gVA v102 fun c103 =>
  (c103[0]?).bind fun x104 =>
  gI .i64 x104 fun i105 =>
  (c103[1]?).bind fun x106 =>
  gF x106 fun z107 =>
  (c103[2]?).bind fun x108 =>
  gF x108 fun z109 =>
  if c103.length = 3 then
  some (.agg [.int .i64 i105, .fs z107, .fs z109])
  else none)
  (pcallF (call Ev) Fn.spec_l7Copy true [lv a0] ((D 0).new 0 [.int .i64 0, .sl none 0, .sl none 0]) fun v110 h111 =>
  cellsK v110 fun c112 =>
  if c112.length = 1 ∧ 2 + 1 ≤ ([.int .i64 0, .sl none 0, .sl none 0] : List S).length then
  ((setAt ([.int .i64 0, .sl none 0, .sl none 0] : List S) 2 c112)[0]?).bind fun x113 =>
  gI .i64 x113 fun i114 =>
  ((setAt ([.int .i64 0, .sl none 0, .sl none 0] : List S) 2 c112)[1]?).bind fun x115 =>
  ((setAt ([.int .i64 0, .sl none 0, .sl none 0] : List S) 2 c112)[2]?).bind fun x116 =>
  if (setAt ([.int .i64 0, .sl none 0, .sl none 0] : List S) 2 c112).length = 3 then
  stK 3 (h111.new 0 [.int .i64 0, .sl none 0, .sl none 0]) (pv h111.n 0) (.agg [.int .i64 i114, x115, x116]) fun h117 =>
  (Lp.spec_ApplyEdits 0 [lv a1, pv 0 0, pv h111.n 0, iv .i64 0] h117).bind fun o118 => lcase o118 (fun l119 h120 =>
  (l119[0]?).bind fun w123 =>
  (l119[1]?).bind fun w124 =>
  ldK (.agg [.i .i64, .f, .f]) ⟨3, 56, [.int .i64 0, .sl none 0, .sl none 0], true, .st [(0, 2), (1, 72), (2, 68)], false⟩ h120 w124 fun v125 =>
  gVA v125 fun c126 =>
  (c126[0]?).bind fun x127 =>
  gI .i64 x127 fun i128 =>
  (c126[1]?).bind fun x129 =>
  (c126[2]?).bind fun x130 =>
  if c126.length = 3 then
  stK 3 h120 w123 (.agg [.int .i64 i128, x129, x130]) fun h131 =>
  ldT ⟨3, 56, [.int .i64 0, .sl none 0, .sl none 0], true, .st [(0, 2), (1, 72), (2, 68)], false⟩ h131 w123 fun v132 =>
  frzV h131 v132
  else none) (fun v121 h122 =>
  frzV h122 v121)
  else none
  else none) := by
  rw [pure_eq]; kernel_rfl

noncomputable def Jn.spec_ApplyEdits_l0_0 (h376 : H) (s5 : V) (r203 : List S) (s1 : List (List S)) (s4 : V) (s6 : Int) (h : H) : Option (LOut) :=
  (padd 1 s5).bind fun v377 =>
  ldK (.one (.f)) ⟨1, 24, [.sl none 0], false, .sl 138, false⟩ h376 v377 fun v378 =>
  (r203[0]?).bind fun x379 =>
  gI .i64 x379 fun i380 =>
  (r203[1]?).bind fun x381 =>
  gF x381 fun z382 =>
  pcallF (call Ev) Fn.spec_l2Copy true [lv z382] h376 fun v383 h384 =>
  hchk h376 h384 (
  bif scaV v383 then
  cellsK v383 fun c385 =>
  if c385.length = 1 ∧ 1 + 1 ≤ ([.int .i64 i380, .sl none 0] : List S).length then
  ((setAt ([.int .i64 i380, .sl none 0] : List S) 1 c385)[0]?).bind fun x386 =>
  gI .i64 x386 fun i387 =>
  ((setAt ([.int .i64 i380, .sl none 0] : List S) 1 c385)[1]?).bind fun x388 =>
  if (setAt ([.int .i64 i380, .sl none 0] : List S) 1 c385).length = 2 then
  hchk h376 (h384.new 2 [.int .i64 i387, x388]) (
  (appS 2 (h384.new 2 [.int .i64 i387, x388]) v378 (sv h384.n 0 1)).bind fun p389 =>
  (padd 1 s5).bind fun v390 =>
  stK 1 p389.2 v390 p389.1 fun h391 =>
  Lp.spec_ApplyEdits 0 [lv s1, s4, s5, iv .i64 (IntKind.i64.wrap (s6 + 1))] (tidy h [lv s1, s4, s5, iv .i64 (IntKind.i64.wrap (s6 + 1))] h391))
  else none
  else none
  else none)

noncomputable def Jn.spec_ApplyEdits_l0_1 (q313 : Bool) (w314 : V) (w315 : V) (w316 : V) (w317 : V) (w318 : V) (w319 : V) (w320 : V) (w321 : V) (w322 : V) (q323 : Bool) (h : H) (s4 : V) (r203 : List S) (s5 : V) (s1 : List (List S)) (s6 : Int) : Option (LOut) :=
  vcase (bv q323)
  ((pureV (call Ev) Fn.spec_l7Bad [iv .i64 1]).bind fun v325 =>
  gVA v325 fun c326 =>
  (c326[0]?).bind fun x327 =>
  gI .i64 x327 fun i328 =>
  (c326[1]?).bind fun x329 =>
  gF x329 fun z330 =>
  (c326[2]?).bind fun x331 =>
  gF x331 fun z332 =>
  if c326.length = 3 then
  stK 3 h s4 (.agg [.int .i64 i328, .fs z330, .fs z332]) fun h333 =>
  ldT ⟨3, 56, [.int .i64 0, .sl none 0, .sl none 0], true, .st [(0, 2), (1, 72), (2, 68)], false⟩ h333 s4 fun v334 =>
  some (.ret v334 h333)
  else none)
  ((r203[0]?).bind fun x335 =>
  gI .i64 x335 fun i336 =>
  vcase (bv (i336 == 12))
  ((pureV (call Ev) Fn.spec_l7Bad [iv .i64 2]).bind fun v338 =>
  gVA v338 fun c339 =>
  (c339[0]?).bind fun x340 =>
  gI .i64 x340 fun i341 =>
  (c339[1]?).bind fun x342 =>
  gF x342 fun z343 =>
  (c339[2]?).bind fun x344 =>
  gF x344 fun z345 =>
  if c339.length = 3 then
  stK 3 h s4 (.agg [.int .i64 i341, .fs z343, .fs z345]) fun h346 =>
  ldT ⟨3, 56, [.int .i64 0, .sl none 0, .sl none 0], true, .st [(0, 2), (1, 72), (2, 68)], false⟩ h346 s4 fun v347 =>
  some (.ret v347 h346)
  else none)
  ((r203[0]?).bind fun x348 =>
  gI .i64 x348 fun i349 =>
  (padd 2 s5).bind fun v350 =>
  ldK (.one (.f)) ⟨1, 24, [.sl none 0], false, .sl 84, false⟩ h v350 fun v351 =>
  (lenV (.sl 84) v351).bind fun v352 =>
  gV1 v352 fun x353 =>
  gI .i64 x353 fun i354 =>
  vcase (bv (i349 == i354))
  ((padd 2 s5).bind fun v356 =>
  ldK (.one (.f)) ⟨1, 24, [.sl none 0], false, .sl 84, false⟩ h v356 fun v357 =>
  (r203[1]?).bind fun x358 =>
  gF x358 fun z359 =>
  pcallF (call Ev) Fn.spec_l2Copy true [lv z359] h fun v360 h361 =>
  hchk h h361 (
  cellsK v360 fun c362 =>
  if c362.length = 1 ∧ 0 + 1 ≤ ([.sl none 0] : List S).length then
  hchk h (h361.new 1 (setAt ([.sl none 0] : List S) 0 c362)) (
  (appS 1 (h361.new 1 (setAt ([.sl none 0] : List S) 0 c362)) v357 (sv h361.n 0 1)).bind fun p363 =>
  (padd 2 s5).bind fun v364 =>
  stK 1 p363.2 v364 p363.1 fun h365 =>
  Jn.spec_ApplyEdits_l0_0 h365 s5 r203 s1 s4 s6 h)
  else none))
  ((padd 2 s5).bind fun v366 =>
  ldK (.one (.f)) ⟨1, 24, [.sl none 0], false, .sl 84, false⟩ h v366 fun v367 =>
  (r203[0]?).bind fun x368 =>
  gI .i64 x368 fun i369 =>
  (r203[1]?).bind fun x370 =>
  gF x370 fun z371 =>
  pcallF (call Ev) Fn.spec_l2Copy true [lv z371] h fun v372 h373 =>
  hchk h h373 (
  bif scaV v372 then
  idxK 1 v367 (iv .i64 i369) fun v374 =>
  stK 1 h373 v374 v372 fun h375 =>
  Jn.spec_ApplyEdits_l0_0 h375 s5 r203 s1 s4 s6 h
  else none))))

theorem eq_spec_ApplyEdits_l0 (s1 : List (List S)) (s4 : V) (s5 : V) (s6 : Int) (h : H) : Lp.spec_ApplyEdits 0 [lv s1, s4, s5, iv .i64 s6] h =
  vcase (bv (decide (s6 < (s1.length : Int))))
  (idxF 2 s1 s6 fun r203 =>
  (r203[1]?).bind fun x204 =>
  gF x204 fun z205 =>
  vcase (bv ((z205.length : Int) != 64))
  (hchk h h (
  Jn.spec_ApplyEdits_l0_1 true (.tup []) (.tup []) (.tup []) (.tup []) (.tup []) (.tup []) (.tup []) (.tup []) (.tup []) true h s4 r203 s5 s1 s6))
  ((r203[0]?).bind fun x208 =>
  gI .i64 x208 fun i209 =>
  (padd 2 s5).bind fun v210 =>
  ldK (.one (.f)) ⟨1, 24, [.sl none 0], false, .sl 84, false⟩ h v210 fun v211 =>
  (lenV (.sl 84) v211).bind fun v212 =>
  gV1 v212 fun x213 =>
  gI .i64 x213 fun i214 =>
  pcallS (call Ev) Fn.spec_l1In [iv .i64 i209, iv .i64 0, iv .i64 i214] fun v215 =>
  gV1 v215 fun x216 =>
  gB x216 fun q217 =>
  hchk h h (
  Jn.spec_ApplyEdits_l0_1 false (fv r203 0) (fv r203 0) (fv r203 0) (iv .i64 i209) v210 v211 (iv .i64 i214) (bv q217) (bv (!q217)) (!q217) h s4 r203 s5 s1 s6)))
  (some (.done [s4, s5] (tidy h [s4, s5] h))) := by
  unfold Lp.spec_ApplyEdits; rw [loop_eq]; kernel_rfl

theorem eq_laws_toByteS (a0 : List (List S)) (n : Nat) : call Ev Fn.laws_toByteS [lv a0] (D n) =
  (mkSl 1 [.int .u8 0] (D n) (iv .i64 (a0.length : Int)) (iv .i64 (a0.length : Int))).bind fun p101 =>
  (Lp.laws_toByteS 0 [lv a0, p101.1, iv .i64 0] p101.2).bind fun o102 => lcase o102 (fun l103 h104 =>
  (l103[0]?).bind fun w107 =>
  some (w107, h104)) (fun v105 h106 =>
  some (v105, h106)) := by
  rw [call_eq]; kernel_rfl

theorem eq_laws_toByteS_l0 (s0 : List (List S)) (s3 : V) (s4 : Int) (h : H) : Lp.laws_toByteS 0 [lv s0, s3, iv .i64 s4] h =
  vcase (bv (decide (s4 < (s0.length : Int))))
  (idxF 1 s0 s4 fun r203 =>
  (r203[0]?).bind fun x204 =>
  gI .u8 x204 fun i205 =>
  idxK 1 s3 (iv .i64 s4) fun v206 =>
  stK 1 h v206 (iv .u8 i205) fun h207 =>
  Lp.laws_toByteS 0 [lv s0, s3, iv .i64 (IntKind.i64.wrap (s4 + 1))] (tidy h [lv s0, s3, iv .i64 (IntKind.i64.wrap (s4 + 1))] h207))
  (some (.done [s3] (tidy h [s3] h))) := by
  unfold Lp.laws_toByteS; rw [loop_eq]; kernel_rfl

theorem eq_laws_toByteSS (a0 : List (List S)) (n : Nat) : call Ev Fn.laws_toByteSS [lv a0] (D n) =
  (mkSl 1 [.sl none 0] (D n) (iv .i64 (a0.length : Int)) (iv .i64 (a0.length : Int))).bind fun p101 =>
  (Lp.laws_toByteSS 0 [lv a0, p101.1, iv .i64 0] p101.2).bind fun o102 => lcase o102 (fun l103 h104 =>
  (l103[0]?).bind fun w107 =>
  some (w107, h104)) (fun v105 h106 =>
  some (v105, h106)) := by
  rw [call_eq]; kernel_rfl

theorem eq_laws_toByteSS_l0 (s0 : List (List S)) (s3 : V) (s4 : Int) (h : H) : Lp.laws_toByteSS 0 [lv s0, s3, iv .i64 s4] h =
  vcase (bv (decide (s4 < (s0.length : Int))))
  (idxF 1 s0 s4 fun r203 =>
  (r203[0]?).bind fun x204 =>
  gF x204 fun z205 =>
  pcallF (call Ev) Fn.laws_toByteS true [lv z205] h fun v206 h207 =>
  idxK 1 s3 (iv .i64 s4) fun v208 =>
  stK 1 h207 v208 v206 fun h209 =>
  Lp.laws_toByteSS 0 [lv s0, s3, iv .i64 (IntKind.i64.wrap (s4 + 1))] (tidy h [lv s0, s3, iv .i64 (IntKind.i64.wrap (s4 + 1))] h209))
  (some (.done [s3] (tidy h [s3] h))) := by
  unfold Lp.laws_toByteSS; rw [loop_eq]; kernel_rfl

theorem eq_laws_toEdit (a0_0 : Int) (a0_1 : List (List S)) (n : Nat) : call Ev Fn.laws_toEdit [.agg [.int .i64 a0_0, .fs a0_1]] (D n) =
  (load1 ((((D n).new 0 [.int .i64 a0_0, .fs a0_1]).new 0 [.int .i64 0, .sl none 0]).new 0 [.int .i64 0, .sl none 0]) (pv ((D n).n) 0)).bind fun x101 =>
  gI .i64 x101 fun i102 =>
  stK 1 ((((D n).new 0 [.int .i64 a0_0, .fs a0_1]).new 0 [.int .i64 0, .sl none 0]).new 0 [.int .i64 0, .sl none 0]) (pv ((((D n).new 0 [.int .i64 a0_0, .fs a0_1]).new 0 [.int .i64 0, .sl none 0]).n) 0) (iv .i64 i102) fun h103 =>
  (load1 h103 (pv ((D n).n) 1)).bind fun x104 =>
  (frzVs h103 [.s x104]).bind fun l105 =>
  pcallF (call Ev) Fn.laws_toByteS ([.s x104].all offV) (normVs [] l105) h103 fun v106 h107 =>
  stK 1 h107 (pv ((((D n).new 0 [.int .i64 a0_0, .fs a0_1]).new 0 [.int .i64 0, .sl none 0]).n) 1) v106 fun h108 =>
  (loadN 2 h108 (pv ((((D n).new 0 [.int .i64 a0_0, .fs a0_1]).new 0 [.int .i64 0, .sl none 0]).n) 0)).bind fun c109 =>
  (c109[0]?).bind fun x110 =>
  gI .i64 x110 fun i111 =>
  (c109[1]?).bind fun x112 =>
  if c109.length = 2 then
  stK 2 h108 (pv (((D n).new 0 [.int .i64 a0_0, .fs a0_1]).n) 0) (.agg [.int .i64 i111, x112]) fun h113 =>
  (loadN 2 h113 (pv (((D n).new 0 [.int .i64 a0_0, .fs a0_1]).n) 0)).bind fun c114 =>
  some (.agg c114, h113)
  else none := by
  rw [call_eq]; kernel_rfl

theorem eq_laws_toEditS (a0 : List (List S)) (n : Nat) : call Ev Fn.laws_toEditS [lv a0] (D n) =
  (mkSl 2 [.int .i64 0, .sl none 0] (D n) (iv .i64 (a0.length : Int)) (iv .i64 (a0.length : Int))).bind fun p101 =>
  (Lp.laws_toEditS 0 [lv a0, p101.1, iv .i64 0] p101.2).bind fun o102 => lcase o102 (fun l103 h104 =>
  (l103[0]?).bind fun w107 =>
  some (w107, h104)) (fun v105 h106 =>
  some (v105, h106)) := by
  rw [call_eq]; kernel_rfl

theorem eq_laws_toEditS_l0 (s0 : List (List S)) (s3 : V) (s4 : Int) (h : H) : Lp.laws_toEditS 0 [lv s0, s3, iv .i64 s4] h =
  vcase (bv (decide (s4 < (s0.length : Int))))
  (idxF 2 s0 s4 fun r203 =>
  (rowN 2 r203 0).bind fun c204 =>
  (c204[0]?).bind fun x205 =>
  gI .i64 x205 fun i206 =>
  (c204[1]?).bind fun x207 =>
  gF x207 fun z208 =>
  if c204.length = 2 then
  pcallF (call Ev) Fn.laws_toEdit true [.agg [.int .i64 i206, .fs z208]] h fun v209 h210 =>
  gVA v209 fun c211 =>
  (c211[0]?).bind fun x212 =>
  gI .i64 x212 fun i213 =>
  (c211[1]?).bind fun x214 =>
  if c211.length = 2 then
  idxK 2 s3 (iv .i64 s4) fun v215 =>
  stK 2 h210 v215 (.agg [.int .i64 i213, x214]) fun h216 =>
  Lp.laws_toEditS 0 [lv s0, s3, iv .i64 (IntKind.i64.wrap (s4 + 1))] (tidy h [lv s0, s3, iv .i64 (IntKind.i64.wrap (s4 + 1))] h216)
  else none
  else none)
  (some (.done [s3] (tidy h [s3] h))) := by
  unfold Lp.laws_toEditS; rw [loop_eq]; kernel_rfl

theorem eq_impl_copied (a0 : List (List S)) (n : Nat) : call Ev Fn.impl_copied [lv a0] (D n) =
  (appS 1 ((D n).new 1 []) (sv ((D n).n) 0 0) (lv a0)).bind fun p101 =>
  some (p101.1, p101.2) := by
  rw [call_eq]; kernel_rfl

theorem eq_impl_copies (a0 : List (List S)) (n : Nat) : call Ev Fn.impl_copies [lv a0] (D n) =
  (Lp.impl_copies 0 [.s (.sl none 0), lv a0, iv .i64 (a0.length : Int), iv .i64 0] (D n)).bind fun o101 => lcase o101 (fun l102 h103 =>
  (l102[0]?).bind fun w106 =>
  some (w106, h103)) (fun v104 h105 =>
  some (v104, h105)) := by
  rw [call_eq]; kernel_rfl

theorem eq_impl_copies_l0 (s3 : V) (s6 : List (List S)) (s7 : Int) (s8 : Int) (h : H) : Lp.impl_copies 0 [s3, lv s6, iv .i64 s7, iv .i64 s8] h =
  vcase (bv (decide (s8 < s7)))
  (idxF 1 s6 s8 fun r203 =>
  (r203[0]?).bind fun x204 =>
  gF x204 fun z205 =>
  pcallF (call Ev) Fn.impl_copied true [lv z205] h fun v206 h207 =>
  cellsK v206 fun c208 =>
  if c208.length = 1 ∧ 0 + 1 ≤ ([.sl none 0] : List S).length then
  (appS 1 (h207.new 1 (setAt ([.sl none 0] : List S) 0 c208)) s3 (sv h207.n 0 1)).bind fun p209 =>
  Lp.impl_copies 0 [p209.1, lv s6, iv .i64 s7, iv .i64 (IntKind.i64.wrap (s8 + 1))] (tidy h [p209.1, lv s6, iv .i64 s7, iv .i64 (IntKind.i64.wrap (s8 + 1))] p209.2)
  else none)
  (some (.done [s3] (tidy h [s3] h))) := by
  unfold Lp.impl_copies; rw [loop_eq]; kernel_rfl

theorem eq_impl_ownEdits (a0 : List (List S)) (n : Nat) : call Ev Fn.impl_ownEdits [lv a0] (D n) =
  (Lp.impl_ownEdits 0 [.s (.sl none 0), lv a0, iv .i64 (a0.length : Int), iv .i64 0] (D n)).bind fun o101 => lcase o101 (fun l102 h103 =>
  (l102[0]?).bind fun w106 =>
  some (w106, h103)) (fun v104 h105 =>
  some (v104, h105)) := by
  rw [call_eq]; kernel_rfl

theorem eq_impl_ownEdits_l0 (s3 : V) (s6 : List (List S)) (s7 : Int) (s8 : Int) (h : H) : Lp.impl_ownEdits 0 [s3, lv s6, iv .i64 s7, iv .i64 s8] h =
  vcase (bv (decide (s8 < s7)))
  (idxF 2 s6 s8 fun r203 =>
  (rowN 2 r203 0).bind fun c204 =>
  (c204[0]?).bind fun x205 =>
  gI .i64 x205 fun i206 =>
  (c204[1]?).bind fun x207 =>
  gF x207 fun z208 =>
  if c204.length = 2 then
  stK 2 (h.new 0 [.int .i64 0, .sl none 0]) (pv h.n 0) (.agg [.int .i64 i206, .fs z208]) fun h209 =>
  (load1 h209 (pv h.n 0)).bind fun x210 =>
  gI .i64 x210 fun i211 =>
  (load1 h209 (pv h.n 1)).bind fun x212 =>
  (frzVs h209 [.s x212]).bind fun l213 =>
  pcallF (call Ev) Fn.impl_copied ([.s x212].all offV) (normVs [] l213) h209 fun v214 h215 =>
  hchk h209 h215 (
  bif scaV v214 then
  cellsK v214 fun c216 =>
  if c216.length = 1 ∧ 1 + 1 ≤ ([.int .i64 i211, .sl none 0] : List S).length then
  ((setAt ([.int .i64 i211, .sl none 0] : List S) 1 c216)[0]?).bind fun x217 =>
  gI .i64 x217 fun i218 =>
  ((setAt ([.int .i64 i211, .sl none 0] : List S) 1 c216)[1]?).bind fun x219 =>
  if (setAt ([.int .i64 i211, .sl none 0] : List S) 1 c216).length = 2 then
  hchk h209 (h215.new 2 [.int .i64 i218, x219]) (
  (appS 2 (h215.new 2 [.int .i64 i218, x219]) s3 (sv h215.n 0 1)).bind fun p220 =>
  Lp.impl_ownEdits 0 [p220.1, lv s6, iv .i64 s7, iv .i64 (IntKind.i64.wrap (s8 + 1))] (tidy h [p220.1, lv s6, iv .i64 s7, iv .i64 (IntKind.i64.wrap (s8 + 1))] p220.2))
  else none
  else none
  else none)
  else none)
  (some (.done [s3] (tidy h [s3] h))) := by
  unfold Lp.impl_ownEdits; rw [loop_eq]; kernel_rfl

end Vm
