/-
  What each function, and each round of each loop, comes to in the small machine. Written by a program (gen3.py).
-/
import Derived.Test.YtmenpfhpflnbnaaEnv
set_option linter.unusedVariables false
set_option maxRecDepth 100000
namespace Vm
open Go

noncomputable def Jn.bits_Len64_0 (i116 : Int) (i117 : Int) : Option (V) :=
  (idxStr (.s (.str (⟨#[0, 1, 2, 2, 3, 3, 3, 3, 4, 4, 4, 4, 4, 4, 4, 4, 5, 5, 5, 5, 5, 5, 5, 5, 5, 5, 5, 5, 5, 5, 5, 5, 6, 6, 6, 6, 6, 6, 6, 6, 6, 6, 6, 6, 6, 6, 6, 6, 6, 6, 6, 6, 6, 6, 6, 6, 6, 6, 6, 6, 6, 6, 6, 6, 7, 7, 7, 7, 7, 7, 7, 7, 7, 7, 7, 7, 7, 7, 7, 7, 7, 7, 7, 7, 7, 7, 7, 7, 7, 7, 7, 7, 7, 7, 7, 7, 7, 7, 7, 7, 7, 7, 7, 7, 7, 7, 7, 7, 7, 7, 7, 7, 7, 7, 7, 7, 7, 7, 7, 7, 7, 7, 7, 7, 7, 7, 7, 7, 8, 8, 8, 8, 8, 8, 8, 8, 8, 8, 8, 8, 8, 8, 8, 8, 8, 8, 8, 8, 8, 8, 8, 8, 8, 8, 8, 8, 8, 8, 8, 8, 8, 8, 8, 8, 8, 8, 8, 8, 8, 8, 8, 8, 8, 8, 8, 8, 8, 8, 8, 8, 8, 8, 8, 8, 8, 8, 8, 8, 8, 8, 8, 8, 8, 8, 8, 8, 8, 8, 8, 8, 8, 8, 8, 8, 8, 8, 8, 8, 8, 8, 8, 8, 8, 8, 8, 8, 8, 8, 8, 8, 8, 8, 8, 8, 8, 8, 8, 8, 8, 8, 8, 8, 8, 8, 8, 8, 8, 8, 8, 8, 8, 8, 8, 8, 8, 8, 8, 8, 8, 8, 8, 8, 8, 8, 8, 8]⟩))) (iv .u8 (IntKind.u8.wrap i116))).bind fun v118 =>
  gV1 v118 fun x119 =>
  gI .u8 x119 fun i120 =>
  some (iv .i64 (IntKind.i64.wrap (i117 + (IntKind.i64.wrap i120))))

theorem pu_bits_Len64 (a0 : Int) : pureV (call Ev) Fn.bits_Len64 [iv .u64 a0] =
  vcase (bv (decide (a0 ≥ 4294967296)))
  ((bin Ev .shr 231 (iv .u64 a0) (iv .u64 32)).bind fun b102 =>
  gV1 b102 fun x103 =>
  gI .u64 x103 fun i104 =>
  vcase (bv (decide (i104 ≥ 65536)))
  ((bin Ev .shr 231 (iv .u64 i104) (iv .u64 16)).bind fun b106 =>
  gV1 b106 fun x107 =>
  gI .u64 x107 fun i108 =>
  vcase (bv (decide (i108 ≥ 256)))
  ((bin Ev .shr 231 (iv .u64 i108) (iv .u64 8)).bind fun b110 =>
  gV1 b110 fun x111 =>
  gI .u64 x111 fun i112 =>
  Jn.bits_Len64_0 i112 (IntKind.i64.wrap ((IntKind.i64.wrap (32 + 16)) + 8)))
  (Jn.bits_Len64_0 i108 (IntKind.i64.wrap (32 + 16))))
  (vcase (bv (decide (i104 ≥ 256)))
  ((bin Ev .shr 231 (iv .u64 i104) (iv .u64 8)).bind fun b122 =>
  gV1 b122 fun x123 =>
  gI .u64 x123 fun i124 =>
  Jn.bits_Len64_0 i124 (IntKind.i64.wrap (32 + 8)))
  (Jn.bits_Len64_0 i104 32)))
  (vcase (bv (decide (a0 ≥ 65536)))
  ((bin Ev .shr 231 (iv .u64 a0) (iv .u64 16)).bind fun b131 =>
  gV1 b131 fun x132 =>
  gI .u64 x132 fun i133 =>
  vcase (bv (decide (i133 ≥ 256)))
  ((bin Ev .shr 231 (iv .u64 i133) (iv .u64 8)).bind fun b135 =>
  gV1 b135 fun x136 =>
  gI .u64 x136 fun i137 =>
  Jn.bits_Len64_0 i137 (IntKind.i64.wrap ((IntKind.i64.wrap (0 + 16)) + 8)))
  (Jn.bits_Len64_0 i133 (IntKind.i64.wrap (0 + 16))))
  (vcase (bv (decide (a0 ≥ 256)))
  ((bin Ev .shr 231 (iv .u64 a0) (iv .u64 8)).bind fun b144 =>
  gV1 b144 fun x145 =>
  gI .u64 x145 fun i146 =>
  Jn.bits_Len64_0 i146 (IntKind.i64.wrap (0 + 8)))
  (Jn.bits_Len64_0 a0 0))) := by
  rw [pure_eq]; kernel_rfl

theorem pu_bits_Len (a0 : Int) : pureV (call Ev) Fn.bits_Len [iv .u64 a0] =
  pcallS (call Ev) Fn.bits_Len64 [iv .u64 a0] fun v102 =>
  gV1 v102 fun x103 =>
  gI .i64 x103 fun i104 =>
  some (iv .i64 i104) := by
  rw [pure_eq]; kernel_rfl

theorem pu_slices_nextPowerOfTwo (a0 : Int) : pureV (call Ev) Fn.slices_nextPowerOfTwo [iv .i64 a0] =
  pcallS (call Ev) Fn.bits_Len [iv .u64 (IntKind.u64.wrap a0)] fun v101 =>
  gV1 v101 fun x102 =>
  gI .i64 x102 fun i103 =>
  (bin Ev .shl 177 (iv .u64 1) (iv .i64 i103)).bind fun b104 =>
  gV1 b104 fun x105 =>
  gI .u64 x105 fun i106 =>
  some (iv .u64 i106) := by
  rw [pure_eq]; kernel_rfl

theorem eq_slices_xorshift_Next (a0_b a0_o : Nat) (h : H) : call Ev Fn.slices_xorshift_Next [pv a0_b a0_o] h =
  (load1 h (pv a0_b a0_o)).bind fun x101 =>
  gI .u64 x101 fun i102 =>
  (load1 h (pv a0_b a0_o)).bind fun x103 =>
  gI .u64 x103 fun i104 =>
  (bin Ev .shl 234 (iv .u64 i104) (iv .u64 13)).bind fun b105 =>
  gV1 b105 fun x106 =>
  gI .u64 x106 fun i107 =>
  (bin Ev .xor 234 (iv .u64 i102) (iv .u64 i107)).bind fun b108 =>
  gV1 b108 fun x109 =>
  gI .u64 x109 fun i110 =>
  stK 1 h (pv a0_b a0_o) (iv .u64 i110) fun h111 =>
  (load1 h111 (pv a0_b a0_o)).bind fun x112 =>
  gI .u64 x112 fun i113 =>
  (load1 h111 (pv a0_b a0_o)).bind fun x114 =>
  gI .u64 x114 fun i115 =>
  (bin Ev .shr 234 (iv .u64 i115) (iv .u64 7)).bind fun b116 =>
  gV1 b116 fun x117 =>
  gI .u64 x117 fun i118 =>
  (bin Ev .xor 234 (iv .u64 i113) (iv .u64 i118)).bind fun b119 =>
  gV1 b119 fun x120 =>
  gI .u64 x120 fun i121 =>
  stK 1 h111 (pv a0_b a0_o) (iv .u64 i121) fun h122 =>
  (load1 h122 (pv a0_b a0_o)).bind fun x123 =>
  gI .u64 x123 fun i124 =>
  (load1 h122 (pv a0_b a0_o)).bind fun x125 =>
  gI .u64 x125 fun i126 =>
  (bin Ev .shl 234 (iv .u64 i126) (iv .u64 17)).bind fun b127 =>
  gV1 b127 fun x128 =>
  gI .u64 x128 fun i129 =>
  (bin Ev .xor 234 (iv .u64 i124) (iv .u64 i129)).bind fun b130 =>
  gV1 b130 fun x131 =>
  gI .u64 x131 fun i132 =>
  stK 1 h122 (pv a0_b a0_o) (iv .u64 i132) fun h133 =>
  (load1 h133 (pv a0_b a0_o)).bind fun x134 =>
  gI .u64 x134 fun i135 =>
  some (iv .u64 i135, h133) := by
  rw [call_eq]; kernel_rfl

theorem eq_slices_breakPatternsCmpFunc_impl_seen (a0 : V) (a1 : Int) (a2 : Int) (h : H) : call Ev Fn.slices_breakPatternsCmpFunc_impl_seen [a0, iv .i64 a1, iv .i64 a2, .s (.fn Fn.impl_look_1 [])] h =
  vcase (bv (decide ((IntKind.i64.wrap (a2 - a1)) ≥ 8)))
  (stK 1 (h.new 0 [.int .u64 0]) (pv h.n 0) (iv .u64 (IntKind.u64.wrap (IntKind.i64.wrap (a2 - a1)))) fun h102 =>
  pcallS (call Ev) Fn.slices_nextPowerOfTwo [iv .i64 (IntKind.i64.wrap (a2 - a1))] fun v103 =>
  gV1 v103 fun x104 =>
  gI .u64 x104 fun i105 =>
  (bin Ev .quo 3 (iv .i64 (IntKind.i64.wrap (a2 - a1))) (iv .i64 4)).bind fun b106 =>
  gV1 b106 fun x107 =>
  gI .i64 x107 fun i108 =>
  (Lp.slices_breakPatternsCmpFunc_impl_seen 0 [a0, iv .i64 a1, iv .i64 (IntKind.i64.wrap (a2 - a1)), pv h.n 0, iv .u64 i105, iv .i64 (IntKind.i64.wrap ((IntKind.i64.wrap (a1 + (IntKind.i64.wrap (i108 * 2)))) - 1))] h102).bind fun o109 => lcase o109 (fun l110 h111 =>
  some (.tup [], h111)) (fun v112 h113 =>
  some (v112, h113)))
  (some (.tup [], h)) := by
  rw [call_eq]; kernel_rfl

noncomputable def Jn.slices_breakPatternsCmpFunc_impl_seen_l0_0 (i259 : Int) (s0 : V) (s1 : Int) (h : H) (p206 : V × H) (s11 : Int) (s8 : Int) (s9 : V) (s10 : Int) : Option (LOut) :=
  idxK 9 s0 (iv .i64 (IntKind.i64.wrap (s1 + i259))) fun v260 =>
  ldK (.agg [.i .i64, .i .i64, .i .i64, .s, .i .i64, .i .i64, .b, .i .i64, .i .i64]) ⟨9, 80, [.int .i64 0, .int .i64 0, .int .i64 0, .str ⟨#[]⟩, .int .i64 0, .int .i64 0, .bool false, .int .i64 0, .int .i64 0], true, .st [(0, 29), (4, 3), (5, 3), (6, 4), (7, 3), (8, 3)], true⟩ (tidy h [p206.1] p206.2) v260 fun v261 =>
  gVA v261 fun c262 =>
  (c262[0]?).bind fun x263 =>
  gI .i64 x263 fun i264 =>
  (c262[1]?).bind fun x265 =>
  gI .i64 x265 fun i266 =>
  (c262[2]?).bind fun x267 =>
  gI .i64 x267 fun i268 =>
  (c262[3]?).bind fun x269 =>
  gS x269 fun y270 =>
  (c262[4]?).bind fun x271 =>
  gI .i64 x271 fun i272 =>
  (c262[5]?).bind fun x273 =>
  gI .i64 x273 fun i274 =>
  (c262[6]?).bind fun x275 =>
  gB x275 fun q276 =>
  (c262[7]?).bind fun x277 =>
  gI .i64 x277 fun i278 =>
  (c262[8]?).bind fun x279 =>
  gI .i64 x279 fun i280 =>
  if c262.length = 9 then
  idxK 9 s0 (iv .i64 s11) fun v281 =>
  ldK (.agg [.i .i64, .i .i64, .i .i64, .s, .i .i64, .i .i64, .b, .i .i64, .i .i64]) ⟨9, 80, [.int .i64 0, .int .i64 0, .int .i64 0, .str ⟨#[]⟩, .int .i64 0, .int .i64 0, .bool false, .int .i64 0, .int .i64 0], true, .st [(0, 29), (4, 3), (5, 3), (6, 4), (7, 3), (8, 3)], true⟩ (tidy h [p206.1] p206.2) v281 fun v282 =>
  gVA v282 fun c283 =>
  (c283[0]?).bind fun x284 =>
  gI .i64 x284 fun i285 =>
  (c283[1]?).bind fun x286 =>
  gI .i64 x286 fun i287 =>
  (c283[2]?).bind fun x288 =>
  gI .i64 x288 fun i289 =>
  (c283[3]?).bind fun x290 =>
  gS x290 fun y291 =>
  (c283[4]?).bind fun x292 =>
  gI .i64 x292 fun i293 =>
  (c283[5]?).bind fun x294 =>
  gI .i64 x294 fun i295 =>
  (c283[6]?).bind fun x296 =>
  gB x296 fun q297 =>
  (c283[7]?).bind fun x298 =>
  gI .i64 x298 fun i299 =>
  (c283[8]?).bind fun x300 =>
  gI .i64 x300 fun i301 =>
  if c283.length = 9 then
  idxK 9 s0 (iv .i64 s11) fun v302 =>
  stK 9 (tidy h [p206.1] p206.2) v302 (.agg [.int .i64 i264, .int .i64 i266, .int .i64 i268, .str y270, .int .i64 i272, .int .i64 i274, .bool q276, .int .i64 i278, .int .i64 i280]) fun h303 =>
  idxK 9 s0 (iv .i64 (IntKind.i64.wrap (s1 + i259))) fun v304 =>
  stK 9 h303 v304 (.agg [.int .i64 i285, .int .i64 i287, .int .i64 i289, .str y291, .int .i64 i293, .int .i64 i295, .bool q297, .int .i64 i299, .int .i64 i301]) fun h305 =>
  Lp.slices_breakPatternsCmpFunc_impl_seen 0 [s0, iv .i64 s1, iv .i64 s8, s9, iv .u64 s10, iv .i64 (IntKind.i64.wrap (s11 + 1))] (tidy h [s0, iv .i64 s1, iv .i64 s8, s9, iv .u64 s10, iv .i64 (IntKind.i64.wrap (s11 + 1))] h305)
  else none
  else none

theorem eq_slices_breakPatternsCmpFunc_impl_seen_l0 (s0 : V) (s1 : Int) (s8 : Int) (s9 : V) (s10 : Int) (s11 : Int) (h : H) : Lp.slices_breakPatternsCmpFunc_impl_seen 0 [s0, iv .i64 s1, iv .i64 s8, s9, iv .u64 s10, iv .i64 s11] h =
  (bin Ev .quo 3 (iv .i64 s8) (iv .i64 4)).bind fun b201 =>
  gV1 b201 fun x202 =>
  gI .i64 x202 fun i203 =>
  vcase (bv (decide (s11 ≤ (IntKind.i64.wrap ((IntKind.i64.wrap (s1 + (IntKind.i64.wrap (i203 * 2)))) + 1)))))
  ((call Ev Fn.slices_xorshift_Next [s9] h).bind fun p206 =>
  gV1 p206.1 fun x207 =>
  gI .u64 x207 fun i208 =>
  (bin Ev .and 177 (iv .u64 i208) (iv .u64 (IntKind.u64.wrap (s10 - 1)))).bind fun b209 =>
  gV1 b209 fun x210 =>
  gI .u64 x210 fun i211 =>
  vcase (bv (decide ((IntKind.i64.wrap i211) ≥ s8)))
  (Jn.slices_breakPatternsCmpFunc_impl_seen_l0_0 (IntKind.i64.wrap ((IntKind.i64.wrap i211) - s8)) s0 s1 h p206 s11 s8 s9 s10)
  (Jn.slices_breakPatternsCmpFunc_impl_seen_l0_0 (IntKind.i64.wrap i211) s0 s1 h p206 s11 s8 s9 s10))
  (some (.done [] (tidy h [] h))) := by
  unfold Lp.slices_breakPatternsCmpFunc_impl_seen; rw [loop_eq]; kernel_rfl

theorem eq_slices_order2CmpFunc_impl_seen (a0 : V) (a1 : Int) (a2 : Int) (a3_b a3_o : Nat) (h : H) : call Ev Fn.slices_order2CmpFunc_impl_seen [a0, iv .i64 a1, iv .i64 a2, pv a3_b a3_o, .s (.fn Fn.impl_look_1 [])] h =
  idxK 9 a0 (iv .i64 a2) fun v101 =>
  ldK (.agg [.i .i64, .i .i64, .i .i64, .s, .i .i64, .i .i64, .b, .i .i64, .i .i64]) ⟨9, 80, [.int .i64 0, .int .i64 0, .int .i64 0, .str ⟨#[]⟩, .int .i64 0, .int .i64 0, .bool false, .int .i64 0, .int .i64 0], true, .st [(0, 29), (4, 3), (5, 3), (6, 4), (7, 3), (8, 3)], true⟩ h v101 fun v102 =>
  gVA v102 fun c103 =>
  (c103[0]?).bind fun x104 =>
  gI .i64 x104 fun i105 =>
  (c103[1]?).bind fun x106 =>
  gI .i64 x106 fun i107 =>
  (c103[2]?).bind fun x108 =>
  gI .i64 x108 fun i109 =>
  (c103[3]?).bind fun x110 =>
  gS x110 fun y111 =>
  (c103[4]?).bind fun x112 =>
  gI .i64 x112 fun i113 =>
  (c103[5]?).bind fun x114 =>
  gI .i64 x114 fun i115 =>
  (c103[6]?).bind fun x116 =>
  gB x116 fun q117 =>
  (c103[7]?).bind fun x118 =>
  gI .i64 x118 fun i119 =>
  (c103[8]?).bind fun x120 =>
  gI .i64 x120 fun i121 =>
  if c103.length = 9 then
  idxK 9 a0 (iv .i64 a1) fun v122 =>
  ldK (.agg [.i .i64, .i .i64, .i .i64, .s, .i .i64, .i .i64, .b, .i .i64, .i .i64]) ⟨9, 80, [.int .i64 0, .int .i64 0, .int .i64 0, .str ⟨#[]⟩, .int .i64 0, .int .i64 0, .bool false, .int .i64 0, .int .i64 0], true, .st [(0, 29), (4, 3), (5, 3), (6, 4), (7, 3), (8, 3)], true⟩ h v122 fun v123 =>
  gVA v123 fun c124 =>
  (c124[0]?).bind fun x125 =>
  gI .i64 x125 fun i126 =>
  (c124[1]?).bind fun x127 =>
  gI .i64 x127 fun i128 =>
  (c124[2]?).bind fun x129 =>
  gI .i64 x129 fun i130 =>
  (c124[3]?).bind fun x131 =>
  gS x131 fun y132 =>
  (c124[4]?).bind fun x133 =>
  gI .i64 x133 fun i134 =>
  (c124[5]?).bind fun x135 =>
  gI .i64 x135 fun i136 =>
  (c124[6]?).bind fun x137 =>
  gB x137 fun q138 =>
  (c124[7]?).bind fun x139 =>
  gI .i64 x139 fun i140 =>
  (c124[8]?).bind fun x141 =>
  gI .i64 x141 fun i142 =>
  if c124.length = 9 then
  pcallS (call Ev) Fn.impl_look_1 [.agg [.int .i64 i105, .int .i64 i107, .int .i64 i109, .str y111, .int .i64 i113, .int .i64 i115, .bool q117, .int .i64 i119, .int .i64 i121], .agg [.int .i64 i126, .int .i64 i128, .int .i64 i130, .str y132, .int .i64 i134, .int .i64 i136, .bool q138, .int .i64 i140, .int .i64 i142]] fun v143 =>
  gV1 v143 fun x144 =>
  gI .i64 x144 fun i145 =>
  hchk h h (
  vcase (bv (decide (i145 < 0)))
  ((load1 h (pv a3_b a3_o)).bind fun x147 =>
  gI .i64 x147 fun i148 =>
  stK 1 h (pv a3_b a3_o) (iv .i64 (IntKind.i64.wrap (i148 + 1))) fun h149 =>
  some (.tup [.s (.int .i64 a2), .s (.int .i64 a1)], h149))
  (some (.tup [.s (.int .i64 a1), .s (.int .i64 a2)], h)))
  else none
  else none := by
  rw [call_eq]; kernel_rfl

theorem eq_slices_medianCmpFunc_impl_seen (a0 : V) (a1 : Int) (a2 : Int) (a3 : Int) (a4_b a4_o : Nat) (h : H) : call Ev Fn.slices_medianCmpFunc_impl_seen [a0, iv .i64 a1, iv .i64 a2, iv .i64 a3, pv a4_b a4_o, .s (.fn Fn.impl_look_1 [])] h =
  (call Ev Fn.slices_order2CmpFunc_impl_seen [a0, iv .i64 a1, iv .i64 a2, pv a4_b a4_o, .s (.fn Fn.impl_look_1 [])] h).bind fun p101 =>
  gVT p101.1 fun u102 =>
  (u102[0]?).bind fun t103 =>
  gA1 t103 fun x104 =>
  gI .i64 x104 fun i105 =>
  (u102[1]?).bind fun t106 =>
  gA1 t106 fun x107 =>
  gI .i64 x107 fun i108 =>
  if u102.length = 2 then
  (call Ev Fn.slices_order2CmpFunc_impl_seen [a0, iv .i64 i108, iv .i64 a3, pv a4_b a4_o, .s (.fn Fn.impl_look_1 [])] (tidy h [p101.1] p101.2)).bind fun p109 =>
  gVT p109.1 fun u110 =>
  (u110[0]?).bind fun t111 =>
  gA1 t111 fun x112 =>
  gI .i64 x112 fun i113 =>
  (u110[1]?).bind fun t114 =>
  gA1 t114 fun x115 =>
  gI .i64 x115 fun i116 =>
  if u110.length = 2 then
  (call Ev Fn.slices_order2CmpFunc_impl_seen [a0, iv .i64 i105, iv .i64 i113, pv a4_b a4_o, .s (.fn Fn.impl_look_1 [])] (tidy (tidy h [p101.1] p101.2) [p109.1] p109.2)).bind fun p117 =>
  gVT p117.1 fun u118 =>
  (u118[0]?).bind fun t119 =>
  gA1 t119 fun x120 =>
  gI .i64 x120 fun i121 =>
  (u118[1]?).bind fun t122 =>
  gA1 t122 fun x123 =>
  gI .i64 x123 fun i124 =>
  if u118.length = 2 then
  some (iv .i64 i124, tidy (tidy (tidy h [p101.1] p101.2) [p109.1] p109.2) [p117.1] p117.2)
  else none
  else none
  else none := by
  rw [call_eq]; kernel_rfl

theorem eq_slices_medianAdjacentCmpFunc_impl_seen (a0 : V) (a1 : Int) (a2_b a2_o : Nat) (h : H) : call Ev Fn.slices_medianAdjacentCmpFunc_impl_seen [a0, iv .i64 a1, pv a2_b a2_o, .s (.fn Fn.impl_look_1 [])] h =
  (call Ev Fn.slices_medianCmpFunc_impl_seen [a0, iv .i64 (IntKind.i64.wrap (a1 - 1)), iv .i64 a1, iv .i64 (IntKind.i64.wrap (a1 + 1)), pv a2_b a2_o, .s (.fn Fn.impl_look_1 [])] h).bind fun p101 =>
  gV1 p101.1 fun x102 =>
  gI .i64 x102 fun i103 =>
  some (iv .i64 i103, tidy h [p101.1] p101.2) := by
  rw [call_eq]; kernel_rfl

theorem pu_slices_choosePivotCmpFunc_impl_seen (a0 : List (List S)) (a1 : Int) (a2 : Int) : pureV (call Ev) Fn.slices_choosePivotCmpFunc_impl_seen [lv a0, iv .i64 a1, iv .i64 a2, .s (.fn Fn.impl_look_1 [])] =
  (bin Ev .quo 3 (iv .i64 (IntKind.i64.wrap (a2 - a1))) (iv .i64 4)).bind fun b101 =>
  gV1 b101 fun x102 =>
  gI .i64 x102 fun i103 =>
  (bin Ev .quo 3 (iv .i64 (IntKind.i64.wrap (a2 - a1))) (iv .i64 4)).bind fun b104 =>
  gV1 b104 fun x105 =>
  gI .i64 x105 fun i106 =>
  (bin Ev .quo 3 (iv .i64 (IntKind.i64.wrap (a2 - a1))) (iv .i64 4)).bind fun b107 =>
  gV1 b107 fun x108 =>
  gI .i64 x108 fun i109 =>
  vcase (bv (decide ((IntKind.i64.wrap (a2 - a1)) ≥ 8)))
  (vcase (bv (decide ((IntKind.i64.wrap (a2 - a1)) ≥ 50)))
  ((call Ev Fn.slices_medianAdjacentCmpFunc_impl_seen [lv a0, iv .i64 (IntKind.i64.wrap (a1 + (IntKind.i64.wrap (i103 * 1)))), pv 0 0, .s (.fn Fn.impl_look_1 [])] ((D 0).new 0 [.int .i64 0])).bind fun p112 =>
  gV1 p112.1 fun x113 =>
  gI .i64 x113 fun i114 =>
  (call Ev Fn.slices_medianAdjacentCmpFunc_impl_seen [lv a0, iv .i64 (IntKind.i64.wrap (a1 + (IntKind.i64.wrap (i106 * 2)))), pv 0 0, .s (.fn Fn.impl_look_1 [])] (tidy ((D 0).new 0 [.int .i64 0]) [p112.1] p112.2)).bind fun p115 =>
  gV1 p115.1 fun x116 =>
  gI .i64 x116 fun i117 =>
  (call Ev Fn.slices_medianAdjacentCmpFunc_impl_seen [lv a0, iv .i64 (IntKind.i64.wrap (a1 + (IntKind.i64.wrap (i109 * 3)))), pv 0 0, .s (.fn Fn.impl_look_1 [])] (tidy (tidy ((D 0).new 0 [.int .i64 0]) [p112.1] p112.2) [p115.1] p115.2)).bind fun p118 =>
  gV1 p118.1 fun x119 =>
  gI .i64 x119 fun i120 =>
  (call Ev Fn.slices_medianCmpFunc_impl_seen [lv a0, iv .i64 i114, iv .i64 i117, iv .i64 i120, pv 0 0, .s (.fn Fn.impl_look_1 [])] (tidy (tidy (tidy ((D 0).new 0 [.int .i64 0]) [p112.1] p112.2) [p115.1] p115.2) [p118.1] p118.2)).bind fun p121 =>
  gV1 p121.1 fun x122 =>
  gI .i64 x122 fun i123 =>
  (load1 (tidy (tidy (tidy (tidy ((D 0).new 0 [.int .i64 0]) [p112.1] p112.2) [p115.1] p115.2) [p118.1] p118.2) [p121.1] p121.2) (pv 0 0)).bind fun x127 =>
  gI .i64 x127 fun i128 =>
  vcase (bv (i128 == 0))
  (some (.tup [.s (.int .i64 i123), .s (.int .i64 1)]))
  (vcase (bv (i128 == 12))
  (some (.tup [.s (.int .i64 i123), .s (.int .i64 2)]))
  (some (.tup [.s (.int .i64 i123), .s (.int .i64 0)]))))
  ((call Ev Fn.slices_medianCmpFunc_impl_seen [lv a0, iv .i64 (IntKind.i64.wrap (a1 + (IntKind.i64.wrap (i103 * 1)))), iv .i64 (IntKind.i64.wrap (a1 + (IntKind.i64.wrap (i106 * 2)))), iv .i64 (IntKind.i64.wrap (a1 + (IntKind.i64.wrap (i109 * 3)))), pv 0 0, .s (.fn Fn.impl_look_1 [])] ((D 0).new 0 [.int .i64 0])).bind fun p124 =>
  gV1 p124.1 fun x125 =>
  gI .i64 x125 fun i126 =>
  (load1 (tidy ((D 0).new 0 [.int .i64 0]) [p124.1] p124.2) (pv 0 0)).bind fun x132 =>
  gI .i64 x132 fun i133 =>
  vcase (bv (i133 == 0))
  (some (.tup [.s (.int .i64 i126), .s (.int .i64 1)]))
  (vcase (bv (i133 == 12))
  (some (.tup [.s (.int .i64 i126), .s (.int .i64 2)]))
  (some (.tup [.s (.int .i64 i126), .s (.int .i64 0)])))))
  (vcase (bv (0 == 0))
  (some (.tup [.s (.int .i64 (IntKind.i64.wrap (a1 + (IntKind.i64.wrap (i106 * 2))))), .s (.int .i64 1)]))
  (vcase (bv (0 == 12))
  (some (.tup [.s (.int .i64 (IntKind.i64.wrap (a1 + (IntKind.i64.wrap (i106 * 2))))), .s (.int .i64 2)]))
  (some (.tup [.s (.int .i64 (IntKind.i64.wrap (a1 + (IntKind.i64.wrap (i106 * 2))))), .s (.int .i64 0)])))) := by
  rw [pure_eq]; kernel_rfl

theorem eq_slices_reverseRangeCmpFunc_impl_seen (a0 : V) (a1 : Int) (a2 : Int) (h : H) : call Ev Fn.slices_reverseRangeCmpFunc_impl_seen [a0, iv .i64 a1, iv .i64 a2, .s (.fn Fn.impl_look_1 [])] h =
  (Lp.slices_reverseRangeCmpFunc_impl_seen 0 [a0, iv .i64 a1, iv .i64 (IntKind.i64.wrap (a2 - 1))] h).bind fun o101 => lcase o101 (fun l102 h103 =>
  some (.tup [], h103)) (fun v104 h105 =>
  some (v104, h105)) := by
  rw [call_eq]; kernel_rfl

theorem eq_slices_reverseRangeCmpFunc_impl_seen_l0 (s0 : V) (s8 : Int) (s9 : Int) (h : H) : Lp.slices_reverseRangeCmpFunc_impl_seen 0 [s0, iv .i64 s8, iv .i64 s9] h =
  vcase (bv (decide (s8 < s9)))
  (idxK 9 s0 (iv .i64 s9) fun v203 =>
  ldK (.agg [.i .i64, .i .i64, .i .i64, .s, .i .i64, .i .i64, .b, .i .i64, .i .i64]) ⟨9, 80, [.int .i64 0, .int .i64 0, .int .i64 0, .str ⟨#[]⟩, .int .i64 0, .int .i64 0, .bool false, .int .i64 0, .int .i64 0], true, .st [(0, 29), (4, 3), (5, 3), (6, 4), (7, 3), (8, 3)], true⟩ h v203 fun v204 =>
  gVA v204 fun c205 =>
  (c205[0]?).bind fun x206 =>
  gI .i64 x206 fun i207 =>
  (c205[1]?).bind fun x208 =>
  gI .i64 x208 fun i209 =>
  (c205[2]?).bind fun x210 =>
  gI .i64 x210 fun i211 =>
  (c205[3]?).bind fun x212 =>
  gS x212 fun y213 =>
  (c205[4]?).bind fun x214 =>
  gI .i64 x214 fun i215 =>
  (c205[5]?).bind fun x216 =>
  gI .i64 x216 fun i217 =>
  (c205[6]?).bind fun x218 =>
  gB x218 fun q219 =>
  (c205[7]?).bind fun x220 =>
  gI .i64 x220 fun i221 =>
  (c205[8]?).bind fun x222 =>
  gI .i64 x222 fun i223 =>
  if c205.length = 9 then
  idxK 9 s0 (iv .i64 s8) fun v224 =>
  ldK (.agg [.i .i64, .i .i64, .i .i64, .s, .i .i64, .i .i64, .b, .i .i64, .i .i64]) ⟨9, 80, [.int .i64 0, .int .i64 0, .int .i64 0, .str ⟨#[]⟩, .int .i64 0, .int .i64 0, .bool false, .int .i64 0, .int .i64 0], true, .st [(0, 29), (4, 3), (5, 3), (6, 4), (7, 3), (8, 3)], true⟩ h v224 fun v225 =>
  gVA v225 fun c226 =>
  (c226[0]?).bind fun x227 =>
  gI .i64 x227 fun i228 =>
  (c226[1]?).bind fun x229 =>
  gI .i64 x229 fun i230 =>
  (c226[2]?).bind fun x231 =>
  gI .i64 x231 fun i232 =>
  (c226[3]?).bind fun x233 =>
  gS x233 fun y234 =>
  (c226[4]?).bind fun x235 =>
  gI .i64 x235 fun i236 =>
  (c226[5]?).bind fun x237 =>
  gI .i64 x237 fun i238 =>
  (c226[6]?).bind fun x239 =>
  gB x239 fun q240 =>
  (c226[7]?).bind fun x241 =>
  gI .i64 x241 fun i242 =>
  (c226[8]?).bind fun x243 =>
  gI .i64 x243 fun i244 =>
  if c226.length = 9 then
  idxK 9 s0 (iv .i64 s8) fun v245 =>
  stK 9 h v245 (.agg [.int .i64 i207, .int .i64 i209, .int .i64 i211, .str y213, .int .i64 i215, .int .i64 i217, .bool q219, .int .i64 i221, .int .i64 i223]) fun h246 =>
  idxK 9 s0 (iv .i64 s9) fun v247 =>
  stK 9 h246 v247 (.agg [.int .i64 i228, .int .i64 i230, .int .i64 i232, .str y234, .int .i64 i236, .int .i64 i238, .bool q240, .int .i64 i242, .int .i64 i244]) fun h248 =>
  Lp.slices_reverseRangeCmpFunc_impl_seen 0 [s0, iv .i64 (IntKind.i64.wrap (s8 + 1)), iv .i64 (IntKind.i64.wrap (s9 - 1))] (tidy h [s0, iv .i64 (IntKind.i64.wrap (s8 + 1)), iv .i64 (IntKind.i64.wrap (s9 - 1))] h248)
  else none
  else none)
  (some (.done [] (tidy h [] h))) := by
  unfold Lp.slices_reverseRangeCmpFunc_impl_seen; rw [loop_eq]; kernel_rfl

theorem eq_slices_partialInsertionSortCmpFunc_impl_seen (a0 : V) (a1 : Int) (a2 : Int) (h : H) : call Ev Fn.slices_partialInsertionSortCmpFunc_impl_seen [a0, iv .i64 a1, iv .i64 a2, .s (.fn Fn.impl_look_1 [])] h =
  (Lp.slices_partialInsertionSortCmpFunc_impl_seen 0 [a0, iv .i64 a1, iv .i64 a2, .s (.fn Fn.impl_look_1 []), iv .i64 (IntKind.i64.wrap (a1 + 1)), iv .i64 0] h).bind fun o101 => lcase o101 (fun l102 h103 =>
  some (bv false, h103)) (fun v104 h105 =>
  some (v104, h105)) := by
  rw [call_eq]; kernel_rfl

theorem eq_slices_partialInsertionSortCmpFunc_impl_seen_l0 (s0 : V) (s1 : Int) (s2 : Int) (s9 : Int) (s10 : Int) (h : H) : Lp.slices_partialInsertionSortCmpFunc_impl_seen 0 [s0, iv .i64 s1, iv .i64 s2, .s (.fn Fn.impl_look_1 []), iv .i64 s9, iv .i64 s10] h =
  vcase (bv (decide (s10 < 5)))
  ((Lp.slices_partialInsertionSortCmpFunc_impl_seen 2 [s0, iv .i64 s1, iv .i64 s2, .s (.fn Fn.impl_look_1 []), iv .i64 s9, iv .i64 s10] h).bind fun o203 => lcase o203 (fun l204 h205 =>
  (l204[0]?).bind fun w208 =>
  (l204[1]?).bind fun w209 =>
  gV1 w209 fun x210 =>
  gI .i64 x210 fun i211 =>
  (l204[2]?).bind fun w212 =>
  gV1 w212 fun x213 =>
  gI .i64 x213 fun i214 =>
  (l204[3]?).bind fun w215 =>
  (l204[4]?).bind fun w216 =>
  gV1 w216 fun x217 =>
  gI .i64 x217 fun i218 =>
  (l204[5]?).bind fun w219 =>
  gV1 w219 fun x220 =>
  gI .i64 x220 fun i221 =>
  vcase (bv (i218 == i214))
  (some (.ret (bv true) h205))
  (vcase (bv (decide ((IntKind.i64.wrap (i214 - i211)) < 50)))
  (some (.ret (bv false) h205))
  (idxK 9 w208 (iv .i64 (IntKind.i64.wrap (i218 - 1))) fun v224 =>
  ldK (.agg [.i .i64, .i .i64, .i .i64, .s, .i .i64, .i .i64, .b, .i .i64, .i .i64]) ⟨9, 80, [.int .i64 0, .int .i64 0, .int .i64 0, .str ⟨#[]⟩, .int .i64 0, .int .i64 0, .bool false, .int .i64 0, .int .i64 0], true, .st [(0, 29), (4, 3), (5, 3), (6, 4), (7, 3), (8, 3)], true⟩ h205 v224 fun v225 =>
  gVA v225 fun c226 =>
  (c226[0]?).bind fun x227 =>
  gI .i64 x227 fun i228 =>
  (c226[1]?).bind fun x229 =>
  gI .i64 x229 fun i230 =>
  (c226[2]?).bind fun x231 =>
  gI .i64 x231 fun i232 =>
  (c226[3]?).bind fun x233 =>
  gS x233 fun y234 =>
  (c226[4]?).bind fun x235 =>
  gI .i64 x235 fun i236 =>
  (c226[5]?).bind fun x237 =>
  gI .i64 x237 fun i238 =>
  (c226[6]?).bind fun x239 =>
  gB x239 fun q240 =>
  (c226[7]?).bind fun x241 =>
  gI .i64 x241 fun i242 =>
  (c226[8]?).bind fun x243 =>
  gI .i64 x243 fun i244 =>
  if c226.length = 9 then
  idxK 9 w208 (iv .i64 i218) fun v245 =>
  ldK (.agg [.i .i64, .i .i64, .i .i64, .s, .i .i64, .i .i64, .b, .i .i64, .i .i64]) ⟨9, 80, [.int .i64 0, .int .i64 0, .int .i64 0, .str ⟨#[]⟩, .int .i64 0, .int .i64 0, .bool false, .int .i64 0, .int .i64 0], true, .st [(0, 29), (4, 3), (5, 3), (6, 4), (7, 3), (8, 3)], true⟩ h205 v245 fun v246 =>
  gVA v246 fun c247 =>
  (c247[0]?).bind fun x248 =>
  gI .i64 x248 fun i249 =>
  (c247[1]?).bind fun x250 =>
  gI .i64 x250 fun i251 =>
  (c247[2]?).bind fun x252 =>
  gI .i64 x252 fun i253 =>
  (c247[3]?).bind fun x254 =>
  gS x254 fun y255 =>
  (c247[4]?).bind fun x256 =>
  gI .i64 x256 fun i257 =>
  (c247[5]?).bind fun x258 =>
  gI .i64 x258 fun i259 =>
  (c247[6]?).bind fun x260 =>
  gB x260 fun q261 =>
  (c247[7]?).bind fun x262 =>
  gI .i64 x262 fun i263 =>
  (c247[8]?).bind fun x264 =>
  gI .i64 x264 fun i265 =>
  if c247.length = 9 then
  idxK 9 w208 (iv .i64 i218) fun v266 =>
  stK 9 h205 v266 (.agg [.int .i64 i228, .int .i64 i230, .int .i64 i232, .str y234, .int .i64 i236, .int .i64 i238, .bool q240, .int .i64 i242, .int .i64 i244]) fun h267 =>
  idxK 9 w208 (iv .i64 (IntKind.i64.wrap (i218 - 1))) fun v268 =>
  stK 9 h267 v268 (.agg [.int .i64 i249, .int .i64 i251, .int .i64 i253, .str y255, .int .i64 i257, .int .i64 i259, .bool q261, .int .i64 i263, .int .i64 i265]) fun h269 =>
  vcase (bv (decide ((IntKind.i64.wrap (i218 - i211)) ≥ 2)))
  ((Lp.slices_partialInsertionSortCmpFunc_impl_seen 4 [w208, iv .i64 i211, iv .i64 i214, w215, iv .i64 i218, iv .i64 i221, iv .i64 (IntKind.i64.wrap (i218 - 1))] h269).bind fun o271 => lcase o271 (fun l272 h273 =>
  (l272[0]?).bind fun w276 =>
  (l272[1]?).bind fun w277 =>
  gV1 w277 fun x278 =>
  gI .i64 x278 fun i279 =>
  (l272[2]?).bind fun w280 =>
  gV1 w280 fun x281 =>
  gI .i64 x281 fun i282 =>
  (l272[3]?).bind fun w283 =>
  (l272[4]?).bind fun w284 =>
  gV1 w284 fun x285 =>
  gI .i64 x285 fun i286 =>
  (l272[5]?).bind fun w287 =>
  gV1 w287 fun x288 =>
  gI .i64 x288 fun i289 =>
  vcase (bv (decide ((IntKind.i64.wrap (i282 - i286)) ≥ 2)))
  ((Lp.slices_partialInsertionSortCmpFunc_impl_seen 6 [w276, iv .i64 i279, iv .i64 i282, w283, iv .i64 i286, iv .i64 i289, iv .i64 (IntKind.i64.wrap (i286 + 1))] h273).bind fun o291 => lcase o291 (fun l292 h293 =>
  (l292[0]?).bind fun w296 =>
  (l292[1]?).bind fun w297 =>
  gV1 w297 fun x298 =>
  gI .i64 x298 fun i299 =>
  (l292[2]?).bind fun w300 =>
  gV1 w300 fun x301 =>
  gI .i64 x301 fun i302 =>
  (l292[3]?).bind fun w303 =>
  (l292[4]?).bind fun w304 =>
  gV1 w304 fun x305 =>
  gI .i64 x305 fun i306 =>
  (l292[5]?).bind fun w307 =>
  gV1 w307 fun x308 =>
  gI .i64 x308 fun i309 =>
  Lp.slices_partialInsertionSortCmpFunc_impl_seen 0 [w296, iv .i64 i299, iv .i64 i302, w303, iv .i64 i306, iv .i64 (IntKind.i64.wrap (i309 + 1))] (tidy h [w296, iv .i64 i299, iv .i64 i302, w303, iv .i64 i306, iv .i64 (IntKind.i64.wrap (i309 + 1))] h293)) (fun v294 h295 =>
  some (.ret v294 h295)))
  (Lp.slices_partialInsertionSortCmpFunc_impl_seen 0 [w276, iv .i64 i279, iv .i64 i282, w283, iv .i64 i286, iv .i64 (IntKind.i64.wrap (i289 + 1))] (tidy h [w276, iv .i64 i279, iv .i64 i282, w283, iv .i64 i286, iv .i64 (IntKind.i64.wrap (i289 + 1))] h273))) (fun v274 h275 =>
  some (.ret v274 h275)))
  (vcase (bv (decide ((IntKind.i64.wrap (i214 - i218)) ≥ 2)))
  ((Lp.slices_partialInsertionSortCmpFunc_impl_seen 6 [w208, iv .i64 i211, iv .i64 i214, w215, iv .i64 i218, iv .i64 i221, iv .i64 (IntKind.i64.wrap (i218 + 1))] h269).bind fun o311 => lcase o311 (fun l312 h313 =>
  (l312[0]?).bind fun w316 =>
  (l312[1]?).bind fun w317 =>
  gV1 w317 fun x318 =>
  gI .i64 x318 fun i319 =>
  (l312[2]?).bind fun w320 =>
  gV1 w320 fun x321 =>
  gI .i64 x321 fun i322 =>
  (l312[3]?).bind fun w323 =>
  (l312[4]?).bind fun w324 =>
  gV1 w324 fun x325 =>
  gI .i64 x325 fun i326 =>
  (l312[5]?).bind fun w327 =>
  gV1 w327 fun x328 =>
  gI .i64 x328 fun i329 =>
  Lp.slices_partialInsertionSortCmpFunc_impl_seen 0 [w316, iv .i64 i319, iv .i64 i322, w323, iv .i64 i326, iv .i64 (IntKind.i64.wrap (i329 + 1))] (tidy h [w316, iv .i64 i319, iv .i64 i322, w323, iv .i64 i326, iv .i64 (IntKind.i64.wrap (i329 + 1))] h313)) (fun v314 h315 =>
  some (.ret v314 h315)))
  (Lp.slices_partialInsertionSortCmpFunc_impl_seen 0 [w208, iv .i64 i211, iv .i64 i214, w215, iv .i64 i218, iv .i64 (IntKind.i64.wrap (i221 + 1))] (tidy h [w208, iv .i64 i211, iv .i64 i214, w215, iv .i64 i218, iv .i64 (IntKind.i64.wrap (i221 + 1))] h269)))
  else none
  else none))) (fun v206 h207 =>
  some (.ret v206 h207)))
  (some (.done [] (tidy h [] h))) := by
  unfold Lp.slices_partialInsertionSortCmpFunc_impl_seen; rw [loop_eq]; kernel_rfl

theorem eq_slices_partialInsertionSortCmpFunc_impl_seen_l2 (s0 : V) (s1 : Int) (s2 : Int) (s9 : Int) (s10 : Int) (h : H) : Lp.slices_partialInsertionSortCmpFunc_impl_seen 2 [s0, iv .i64 s1, iv .i64 s2, .s (.fn Fn.impl_look_1 []), iv .i64 s9, iv .i64 s10] h =
  vcase (bv (decide (s9 < s2)))
  (idxK 9 s0 (iv .i64 s9) fun v402 =>
  ldK (.agg [.i .i64, .i .i64, .i .i64, .s, .i .i64, .i .i64, .b, .i .i64, .i .i64]) ⟨9, 80, [.int .i64 0, .int .i64 0, .int .i64 0, .str ⟨#[]⟩, .int .i64 0, .int .i64 0, .bool false, .int .i64 0, .int .i64 0], true, .st [(0, 29), (4, 3), (5, 3), (6, 4), (7, 3), (8, 3)], true⟩ h v402 fun v403 =>
  gVA v403 fun c404 =>
  (c404[0]?).bind fun x405 =>
  gI .i64 x405 fun i406 =>
  (c404[1]?).bind fun x407 =>
  gI .i64 x407 fun i408 =>
  (c404[2]?).bind fun x409 =>
  gI .i64 x409 fun i410 =>
  (c404[3]?).bind fun x411 =>
  gS x411 fun y412 =>
  (c404[4]?).bind fun x413 =>
  gI .i64 x413 fun i414 =>
  (c404[5]?).bind fun x415 =>
  gI .i64 x415 fun i416 =>
  (c404[6]?).bind fun x417 =>
  gB x417 fun q418 =>
  (c404[7]?).bind fun x419 =>
  gI .i64 x419 fun i420 =>
  (c404[8]?).bind fun x421 =>
  gI .i64 x421 fun i422 =>
  if c404.length = 9 then
  idxK 9 s0 (iv .i64 (IntKind.i64.wrap (s9 - 1))) fun v423 =>
  ldK (.agg [.i .i64, .i .i64, .i .i64, .s, .i .i64, .i .i64, .b, .i .i64, .i .i64]) ⟨9, 80, [.int .i64 0, .int .i64 0, .int .i64 0, .str ⟨#[]⟩, .int .i64 0, .int .i64 0, .bool false, .int .i64 0, .int .i64 0], true, .st [(0, 29), (4, 3), (5, 3), (6, 4), (7, 3), (8, 3)], true⟩ h v423 fun v424 =>
  gVA v424 fun c425 =>
  (c425[0]?).bind fun x426 =>
  gI .i64 x426 fun i427 =>
  (c425[1]?).bind fun x428 =>
  gI .i64 x428 fun i429 =>
  (c425[2]?).bind fun x430 =>
  gI .i64 x430 fun i431 =>
  (c425[3]?).bind fun x432 =>
  gS x432 fun y433 =>
  (c425[4]?).bind fun x434 =>
  gI .i64 x434 fun i435 =>
  (c425[5]?).bind fun x436 =>
  gI .i64 x436 fun i437 =>
  (c425[6]?).bind fun x438 =>
  gB x438 fun q439 =>
  (c425[7]?).bind fun x440 =>
  gI .i64 x440 fun i441 =>
  (c425[8]?).bind fun x442 =>
  gI .i64 x442 fun i443 =>
  if c425.length = 9 then
  pcallS (call Ev) Fn.impl_look_1 [.agg [.int .i64 i406, .int .i64 i408, .int .i64 i410, .str y412, .int .i64 i414, .int .i64 i416, .bool q418, .int .i64 i420, .int .i64 i422], .agg [.int .i64 i427, .int .i64 i429, .int .i64 i431, .str y433, .int .i64 i435, .int .i64 i437, .bool q439, .int .i64 i441, .int .i64 i443]] fun v444 =>
  gV1 v444 fun x445 =>
  gI .i64 x445 fun i446 =>
  hchk h h (
  vcase (bv (!(decide (i446 < 0))))
  (Lp.slices_partialInsertionSortCmpFunc_impl_seen 2 [s0, iv .i64 s1, iv .i64 s2, .s (.fn Fn.impl_look_1 []), iv .i64 (IntKind.i64.wrap (s9 + 1)), iv .i64 s10] (tidy h [s0, iv .i64 s1, iv .i64 s2, .s (.fn Fn.impl_look_1 []), iv .i64 (IntKind.i64.wrap (s9 + 1)), iv .i64 s10] h))
  (some (.done [s0, iv .i64 s1, iv .i64 s2, .s (.fn Fn.impl_look_1 []), iv .i64 s9, iv .i64 s10] (tidy h [s0, iv .i64 s1, iv .i64 s2, .s (.fn Fn.impl_look_1 []), iv .i64 s9, iv .i64 s10] h))))
  else none
  else none)
  (hchk h h (
  some (.done [s0, iv .i64 s1, iv .i64 s2, .s (.fn Fn.impl_look_1 []), iv .i64 s9, iv .i64 s10] (tidy h [s0, iv .i64 s1, iv .i64 s2, .s (.fn Fn.impl_look_1 []), iv .i64 s9, iv .i64 s10] h)))) := by
  unfold Lp.slices_partialInsertionSortCmpFunc_impl_seen; rw [loop_eq]; kernel_rfl

theorem eq_slices_partialInsertionSortCmpFunc_impl_seen_l4 (s0 : V) (s1 : Int) (s2 : Int) (s9 : Int) (s10 : Int) (s11 : Int) (h : H) : Lp.slices_partialInsertionSortCmpFunc_impl_seen 4 [s0, iv .i64 s1, iv .i64 s2, .s (.fn Fn.impl_look_1 []), iv .i64 s9, iv .i64 s10, iv .i64 s11] h =
  vcase (bv (decide (s11 ≥ 1)))
  (idxK 9 s0 (iv .i64 s11) fun v603 =>
  ldK (.agg [.i .i64, .i .i64, .i .i64, .s, .i .i64, .i .i64, .b, .i .i64, .i .i64]) ⟨9, 80, [.int .i64 0, .int .i64 0, .int .i64 0, .str ⟨#[]⟩, .int .i64 0, .int .i64 0, .bool false, .int .i64 0, .int .i64 0], true, .st [(0, 29), (4, 3), (5, 3), (6, 4), (7, 3), (8, 3)], true⟩ h v603 fun v604 =>
  gVA v604 fun c605 =>
  (c605[0]?).bind fun x606 =>
  gI .i64 x606 fun i607 =>
  (c605[1]?).bind fun x608 =>
  gI .i64 x608 fun i609 =>
  (c605[2]?).bind fun x610 =>
  gI .i64 x610 fun i611 =>
  (c605[3]?).bind fun x612 =>
  gS x612 fun y613 =>
  (c605[4]?).bind fun x614 =>
  gI .i64 x614 fun i615 =>
  (c605[5]?).bind fun x616 =>
  gI .i64 x616 fun i617 =>
  (c605[6]?).bind fun x618 =>
  gB x618 fun q619 =>
  (c605[7]?).bind fun x620 =>
  gI .i64 x620 fun i621 =>
  (c605[8]?).bind fun x622 =>
  gI .i64 x622 fun i623 =>
  if c605.length = 9 then
  idxK 9 s0 (iv .i64 (IntKind.i64.wrap (s11 - 1))) fun v624 =>
  ldK (.agg [.i .i64, .i .i64, .i .i64, .s, .i .i64, .i .i64, .b, .i .i64, .i .i64]) ⟨9, 80, [.int .i64 0, .int .i64 0, .int .i64 0, .str ⟨#[]⟩, .int .i64 0, .int .i64 0, .bool false, .int .i64 0, .int .i64 0], true, .st [(0, 29), (4, 3), (5, 3), (6, 4), (7, 3), (8, 3)], true⟩ h v624 fun v625 =>
  gVA v625 fun c626 =>
  (c626[0]?).bind fun x627 =>
  gI .i64 x627 fun i628 =>
  (c626[1]?).bind fun x629 =>
  gI .i64 x629 fun i630 =>
  (c626[2]?).bind fun x631 =>
  gI .i64 x631 fun i632 =>
  (c626[3]?).bind fun x633 =>
  gS x633 fun y634 =>
  (c626[4]?).bind fun x635 =>
  gI .i64 x635 fun i636 =>
  (c626[5]?).bind fun x637 =>
  gI .i64 x637 fun i638 =>
  (c626[6]?).bind fun x639 =>
  gB x639 fun q640 =>
  (c626[7]?).bind fun x641 =>
  gI .i64 x641 fun i642 =>
  (c626[8]?).bind fun x643 =>
  gI .i64 x643 fun i644 =>
  if c626.length = 9 then
  pcallS (call Ev) Fn.impl_look_1 [.agg [.int .i64 i607, .int .i64 i609, .int .i64 i611, .str y613, .int .i64 i615, .int .i64 i617, .bool q619, .int .i64 i621, .int .i64 i623], .agg [.int .i64 i628, .int .i64 i630, .int .i64 i632, .str y634, .int .i64 i636, .int .i64 i638, .bool q640, .int .i64 i642, .int .i64 i644]] fun v645 =>
  gV1 v645 fun x646 =>
  gI .i64 x646 fun i647 =>
  hchk h h (
  vcase (bv (!(decide (i647 < 0))))
  (some (.done [s0, iv .i64 s1, iv .i64 s2, .s (.fn Fn.impl_look_1 []), iv .i64 s9, iv .i64 s10] (tidy h [s0, iv .i64 s1, iv .i64 s2, .s (.fn Fn.impl_look_1 []), iv .i64 s9, iv .i64 s10] h)))
  (idxK 9 s0 (iv .i64 (IntKind.i64.wrap (s11 - 1))) fun v649 =>
  ldK (.agg [.i .i64, .i .i64, .i .i64, .s, .i .i64, .i .i64, .b, .i .i64, .i .i64]) ⟨9, 80, [.int .i64 0, .int .i64 0, .int .i64 0, .str ⟨#[]⟩, .int .i64 0, .int .i64 0, .bool false, .int .i64 0, .int .i64 0], true, .st [(0, 29), (4, 3), (5, 3), (6, 4), (7, 3), (8, 3)], true⟩ h v649 fun v650 =>
  gVA v650 fun c651 =>
  (c651[0]?).bind fun x652 =>
  gI .i64 x652 fun i653 =>
  (c651[1]?).bind fun x654 =>
  gI .i64 x654 fun i655 =>
  (c651[2]?).bind fun x656 =>
  gI .i64 x656 fun i657 =>
  (c651[3]?).bind fun x658 =>
  gS x658 fun y659 =>
  (c651[4]?).bind fun x660 =>
  gI .i64 x660 fun i661 =>
  (c651[5]?).bind fun x662 =>
  gI .i64 x662 fun i663 =>
  (c651[6]?).bind fun x664 =>
  gB x664 fun q665 =>
  (c651[7]?).bind fun x666 =>
  gI .i64 x666 fun i667 =>
  (c651[8]?).bind fun x668 =>
  gI .i64 x668 fun i669 =>
  if c651.length = 9 then
  idxK 9 s0 (iv .i64 s11) fun v670 =>
  ldK (.agg [.i .i64, .i .i64, .i .i64, .s, .i .i64, .i .i64, .b, .i .i64, .i .i64]) ⟨9, 80, [.int .i64 0, .int .i64 0, .int .i64 0, .str ⟨#[]⟩, .int .i64 0, .int .i64 0, .bool false, .int .i64 0, .int .i64 0], true, .st [(0, 29), (4, 3), (5, 3), (6, 4), (7, 3), (8, 3)], true⟩ h v670 fun v671 =>
  gVA v671 fun c672 =>
  (c672[0]?).bind fun x673 =>
  gI .i64 x673 fun i674 =>
  (c672[1]?).bind fun x675 =>
  gI .i64 x675 fun i676 =>
  (c672[2]?).bind fun x677 =>
  gI .i64 x677 fun i678 =>
  (c672[3]?).bind fun x679 =>
  gS x679 fun y680 =>
  (c672[4]?).bind fun x681 =>
  gI .i64 x681 fun i682 =>
  (c672[5]?).bind fun x683 =>
  gI .i64 x683 fun i684 =>
  (c672[6]?).bind fun x685 =>
  gB x685 fun q686 =>
  (c672[7]?).bind fun x687 =>
  gI .i64 x687 fun i688 =>
  (c672[8]?).bind fun x689 =>
  gI .i64 x689 fun i690 =>
  if c672.length = 9 then
  idxK 9 s0 (iv .i64 s11) fun v691 =>
  stK 9 h v691 (.agg [.int .i64 i653, .int .i64 i655, .int .i64 i657, .str y659, .int .i64 i661, .int .i64 i663, .bool q665, .int .i64 i667, .int .i64 i669]) fun h692 =>
  idxK 9 s0 (iv .i64 (IntKind.i64.wrap (s11 - 1))) fun v693 =>
  stK 9 h692 v693 (.agg [.int .i64 i674, .int .i64 i676, .int .i64 i678, .str y680, .int .i64 i682, .int .i64 i684, .bool q686, .int .i64 i688, .int .i64 i690]) fun h694 =>
  Lp.slices_partialInsertionSortCmpFunc_impl_seen 4 [s0, iv .i64 s1, iv .i64 s2, .s (.fn Fn.impl_look_1 []), iv .i64 s9, iv .i64 s10, iv .i64 (IntKind.i64.wrap (s11 - 1))] (tidy h [s0, iv .i64 s1, iv .i64 s2, .s (.fn Fn.impl_look_1 []), iv .i64 s9, iv .i64 s10, iv .i64 (IntKind.i64.wrap (s11 - 1))] h694)
  else none
  else none))
  else none
  else none)
  (some (.done [s0, iv .i64 s1, iv .i64 s2, .s (.fn Fn.impl_look_1 []), iv .i64 s9, iv .i64 s10] (tidy h [s0, iv .i64 s1, iv .i64 s2, .s (.fn Fn.impl_look_1 []), iv .i64 s9, iv .i64 s10] h))) := by
  unfold Lp.slices_partialInsertionSortCmpFunc_impl_seen; rw [loop_eq]; kernel_rfl

theorem eq_slices_partialInsertionSortCmpFunc_impl_seen_l6 (s0 : V) (s1 : Int) (s2 : Int) (s9 : Int) (s10 : Int) (s12 : Int) (h : H) : Lp.slices_partialInsertionSortCmpFunc_impl_seen 6 [s0, iv .i64 s1, iv .i64 s2, .s (.fn Fn.impl_look_1 []), iv .i64 s9, iv .i64 s10, iv .i64 s12] h =
  vcase (bv (decide (s12 < s2)))
  (idxK 9 s0 (iv .i64 s12) fun v803 =>
  ldK (.agg [.i .i64, .i .i64, .i .i64, .s, .i .i64, .i .i64, .b, .i .i64, .i .i64]) ⟨9, 80, [.int .i64 0, .int .i64 0, .int .i64 0, .str ⟨#[]⟩, .int .i64 0, .int .i64 0, .bool false, .int .i64 0, .int .i64 0], true, .st [(0, 29), (4, 3), (5, 3), (6, 4), (7, 3), (8, 3)], true⟩ h v803 fun v804 =>
  gVA v804 fun c805 =>
  (c805[0]?).bind fun x806 =>
  gI .i64 x806 fun i807 =>
  (c805[1]?).bind fun x808 =>
  gI .i64 x808 fun i809 =>
  (c805[2]?).bind fun x810 =>
  gI .i64 x810 fun i811 =>
  (c805[3]?).bind fun x812 =>
  gS x812 fun y813 =>
  (c805[4]?).bind fun x814 =>
  gI .i64 x814 fun i815 =>
  (c805[5]?).bind fun x816 =>
  gI .i64 x816 fun i817 =>
  (c805[6]?).bind fun x818 =>
  gB x818 fun q819 =>
  (c805[7]?).bind fun x820 =>
  gI .i64 x820 fun i821 =>
  (c805[8]?).bind fun x822 =>
  gI .i64 x822 fun i823 =>
  if c805.length = 9 then
  idxK 9 s0 (iv .i64 (IntKind.i64.wrap (s12 - 1))) fun v824 =>
  ldK (.agg [.i .i64, .i .i64, .i .i64, .s, .i .i64, .i .i64, .b, .i .i64, .i .i64]) ⟨9, 80, [.int .i64 0, .int .i64 0, .int .i64 0, .str ⟨#[]⟩, .int .i64 0, .int .i64 0, .bool false, .int .i64 0, .int .i64 0], true, .st [(0, 29), (4, 3), (5, 3), (6, 4), (7, 3), (8, 3)], true⟩ h v824 fun v825 =>
  gVA v825 fun c826 =>
  (c826[0]?).bind fun x827 =>
  gI .i64 x827 fun i828 =>
  (c826[1]?).bind fun x829 =>
  gI .i64 x829 fun i830 =>
  (c826[2]?).bind fun x831 =>
  gI .i64 x831 fun i832 =>
  (c826[3]?).bind fun x833 =>
  gS x833 fun y834 =>
  (c826[4]?).bind fun x835 =>
  gI .i64 x835 fun i836 =>
  (c826[5]?).bind fun x837 =>
  gI .i64 x837 fun i838 =>
  (c826[6]?).bind fun x839 =>
  gB x839 fun q840 =>
  (c826[7]?).bind fun x841 =>
  gI .i64 x841 fun i842 =>
  (c826[8]?).bind fun x843 =>
  gI .i64 x843 fun i844 =>
  if c826.length = 9 then
  pcallS (call Ev) Fn.impl_look_1 [.agg [.int .i64 i807, .int .i64 i809, .int .i64 i811, .str y813, .int .i64 i815, .int .i64 i817, .bool q819, .int .i64 i821, .int .i64 i823], .agg [.int .i64 i828, .int .i64 i830, .int .i64 i832, .str y834, .int .i64 i836, .int .i64 i838, .bool q840, .int .i64 i842, .int .i64 i844]] fun v845 =>
  gV1 v845 fun x846 =>
  gI .i64 x846 fun i847 =>
  hchk h h (
  vcase (bv (!(decide (i847 < 0))))
  (some (.done [s0, iv .i64 s1, iv .i64 s2, .s (.fn Fn.impl_look_1 []), iv .i64 s9, iv .i64 s10] (tidy h [s0, iv .i64 s1, iv .i64 s2, .s (.fn Fn.impl_look_1 []), iv .i64 s9, iv .i64 s10] h)))
  (idxK 9 s0 (iv .i64 (IntKind.i64.wrap (s12 - 1))) fun v849 =>
  ldK (.agg [.i .i64, .i .i64, .i .i64, .s, .i .i64, .i .i64, .b, .i .i64, .i .i64]) ⟨9, 80, [.int .i64 0, .int .i64 0, .int .i64 0, .str ⟨#[]⟩, .int .i64 0, .int .i64 0, .bool false, .int .i64 0, .int .i64 0], true, .st [(0, 29), (4, 3), (5, 3), (6, 4), (7, 3), (8, 3)], true⟩ h v849 fun v850 =>
  gVA v850 fun c851 =>
  (c851[0]?).bind fun x852 =>
  gI .i64 x852 fun i853 =>
  (c851[1]?).bind fun x854 =>
  gI .i64 x854 fun i855 =>
  (c851[2]?).bind fun x856 =>
  gI .i64 x856 fun i857 =>
  (c851[3]?).bind fun x858 =>
  gS x858 fun y859 =>
  (c851[4]?).bind fun x860 =>
  gI .i64 x860 fun i861 =>
  (c851[5]?).bind fun x862 =>
  gI .i64 x862 fun i863 =>
  (c851[6]?).bind fun x864 =>
  gB x864 fun q865 =>
  (c851[7]?).bind fun x866 =>
  gI .i64 x866 fun i867 =>
  (c851[8]?).bind fun x868 =>
  gI .i64 x868 fun i869 =>
  if c851.length = 9 then
  idxK 9 s0 (iv .i64 s12) fun v870 =>
  ldK (.agg [.i .i64, .i .i64, .i .i64, .s, .i .i64, .i .i64, .b, .i .i64, .i .i64]) ⟨9, 80, [.int .i64 0, .int .i64 0, .int .i64 0, .str ⟨#[]⟩, .int .i64 0, .int .i64 0, .bool false, .int .i64 0, .int .i64 0], true, .st [(0, 29), (4, 3), (5, 3), (6, 4), (7, 3), (8, 3)], true⟩ h v870 fun v871 =>
  gVA v871 fun c872 =>
  (c872[0]?).bind fun x873 =>
  gI .i64 x873 fun i874 =>
  (c872[1]?).bind fun x875 =>
  gI .i64 x875 fun i876 =>
  (c872[2]?).bind fun x877 =>
  gI .i64 x877 fun i878 =>
  (c872[3]?).bind fun x879 =>
  gS x879 fun y880 =>
  (c872[4]?).bind fun x881 =>
  gI .i64 x881 fun i882 =>
  (c872[5]?).bind fun x883 =>
  gI .i64 x883 fun i884 =>
  (c872[6]?).bind fun x885 =>
  gB x885 fun q886 =>
  (c872[7]?).bind fun x887 =>
  gI .i64 x887 fun i888 =>
  (c872[8]?).bind fun x889 =>
  gI .i64 x889 fun i890 =>
  if c872.length = 9 then
  idxK 9 s0 (iv .i64 s12) fun v891 =>
  stK 9 h v891 (.agg [.int .i64 i853, .int .i64 i855, .int .i64 i857, .str y859, .int .i64 i861, .int .i64 i863, .bool q865, .int .i64 i867, .int .i64 i869]) fun h892 =>
  idxK 9 s0 (iv .i64 (IntKind.i64.wrap (s12 - 1))) fun v893 =>
  stK 9 h892 v893 (.agg [.int .i64 i874, .int .i64 i876, .int .i64 i878, .str y880, .int .i64 i882, .int .i64 i884, .bool q886, .int .i64 i888, .int .i64 i890]) fun h894 =>
  Lp.slices_partialInsertionSortCmpFunc_impl_seen 6 [s0, iv .i64 s1, iv .i64 s2, .s (.fn Fn.impl_look_1 []), iv .i64 s9, iv .i64 s10, iv .i64 (IntKind.i64.wrap (s12 + 1))] (tidy h [s0, iv .i64 s1, iv .i64 s2, .s (.fn Fn.impl_look_1 []), iv .i64 s9, iv .i64 s10, iv .i64 (IntKind.i64.wrap (s12 + 1))] h894)
  else none
  else none))
  else none
  else none)
  (some (.done [s0, iv .i64 s1, iv .i64 s2, .s (.fn Fn.impl_look_1 []), iv .i64 s9, iv .i64 s10] (tidy h [s0, iv .i64 s1, iv .i64 s2, .s (.fn Fn.impl_look_1 []), iv .i64 s9, iv .i64 s10] h))) := by
  unfold Lp.slices_partialInsertionSortCmpFunc_impl_seen; rw [loop_eq]; kernel_rfl

end Vm
