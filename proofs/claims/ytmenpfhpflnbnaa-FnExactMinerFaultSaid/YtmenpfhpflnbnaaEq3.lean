/-
  What each function, and each round of each loop, comes to in the small machine. Written by a program (gen3.py).
-/
import Derived.Test.YtmenpfhpflnbnaaEnv
set_option linter.unusedVariables false
set_option maxRecDepth 100000
namespace Vm
open Go

theorem eq_slices_partitionEqualCmpFunc_impl_seen (a0 : V) (a1 : Int) (a2 : Int) (a3 : Int) (h : H) : call Ev Fn.slices_partitionEqualCmpFunc_impl_seen [a0, iv .i64 a1, iv .i64 a2, iv .i64 a3, .s (.fn Fn.impl_look_1 [])] h =
  idxK 9 a0 (iv .i64 a3) fun v101 =>
  ldK (.agg [.i .i64, .i .i64, .i .i64, .s, .i .i64, .i .i64, .b, .i .i64, .i .i64]) ⟨9, 80, [.int .i64 0, .int .i64 0, .int .i64 0, .str ⟨#[]⟩, .int .i64 0, .int .i64 0, .bool false, .int .i64 0, .int .i64 0], true, .st [(0, 29), (4, 3), (5, 3), (6, 4), (7, 3), (8, 3)], true⟩ h v101 fun v102 =>
  gVA v102 fun c103 =>
  (c103[0]?).bind fun x104 =>
  gI .i64 x104 fun i105 =>
  (c103[1]?).bind fun x106 =>
  gI .i64 x106 fun i107 =>
  (c103[2]?).bind fun x108 =>
  gI .i64 x108 fun i109 =>
  (c103[3]?).bind fun x110 =>
  gS x110 fun y111 =>
  (c103[4]?).bind fun x112 =>
  gI .i64 x112 fun i113 =>
  (c103[5]?).bind fun x114 =>
  gI .i64 x114 fun i115 =>
  (c103[6]?).bind fun x116 =>
  gB x116 fun q117 =>
  (c103[7]?).bind fun x118 =>
  gI .i64 x118 fun i119 =>
  (c103[8]?).bind fun x120 =>
  gI .i64 x120 fun i121 =>
  if c103.length = 9 then
  idxK 9 a0 (iv .i64 a1) fun v122 =>
  ldK (.agg [.i .i64, .i .i64, .i .i64, .s, .i .i64, .i .i64, .b, .i .i64, .i .i64]) ⟨9, 80, [.int .i64 0, .int .i64 0, .int .i64 0, .str ⟨#[]⟩, .int .i64 0, .int .i64 0, .bool false, .int .i64 0, .int .i64 0], true, .st [(0, 29), (4, 3), (5, 3), (6, 4), (7, 3), (8, 3)], true⟩ h v122 fun v123 =>
  gVA v123 fun c124 =>
  (c124[0]?).bind fun x125 =>
  gI .i64 x125 fun i126 =>
  (c124[1]?).bind fun x127 =>
  gI .i64 x127 fun i128 =>
  (c124[2]?).bind fun x129 =>
  gI .i64 x129 fun i130 =>
  (c124[3]?).bind fun x131 =>
  gS x131 fun y132 =>
  (c124[4]?).bind fun x133 =>
  gI .i64 x133 fun i134 =>
  (c124[5]?).bind fun x135 =>
  gI .i64 x135 fun i136 =>
  (c124[6]?).bind fun x137 =>
  gB x137 fun q138 =>
  (c124[7]?).bind fun x139 =>
  gI .i64 x139 fun i140 =>
  (c124[8]?).bind fun x141 =>
  gI .i64 x141 fun i142 =>
  if c124.length = 9 then
  idxK 9 a0 (iv .i64 a1) fun v143 =>
  stK 9 h v143 (.agg [.int .i64 i105, .int .i64 i107, .int .i64 i109, .str y111, .int .i64 i113, .int .i64 i115, .bool q117, .int .i64 i119, .int .i64 i121]) fun h144 =>
  idxK 9 a0 (iv .i64 a3) fun v145 =>
  stK 9 h144 v145 (.agg [.int .i64 i126, .int .i64 i128, .int .i64 i130, .str y132, .int .i64 i134, .int .i64 i136, .bool q138, .int .i64 i140, .int .i64 i142]) fun h146 =>
  (Lp.slices_partitionEqualCmpFunc_impl_seen 0 [a0, iv .i64 a1, .s (.fn Fn.impl_look_1 []), iv .i64 (IntKind.i64.wrap (a1 + 1)), iv .i64 (IntKind.i64.wrap (a2 - 1))] h146).bind fun o147 => lcase o147 (fun l148 h149 =>
  (l148[0]?).bind fun w152 =>
  gV1 w152 fun x153 =>
  gI .i64 x153 fun i154 =>
  some (iv .i64 i154, h149)) (fun v150 h151 =>
  some (v150, h151))
  else none
  else none := by
  rw [call_eq]; kernel_rfl

theorem eq_slices_partitionEqualCmpFunc_impl_seen_l0 (s0 : V) (s1 : Int) (s11 : Int) (s12 : Int) (h : H) : Lp.slices_partitionEqualCmpFunc_impl_seen 0 [s0, iv .i64 s1, .s (.fn Fn.impl_look_1 []), iv .i64 s11, iv .i64 s12] h =
  (Lp.slices_partitionEqualCmpFunc_impl_seen 2 [s0, iv .i64 s1, .s (.fn Fn.impl_look_1 []), iv .i64 s11, iv .i64 s12] h).bind fun o202 => lcase o202 (fun l203 h204 =>
  (l203[0]?).bind fun w207 =>
  (l203[1]?).bind fun w208 =>
  gV1 w208 fun x209 =>
  gI .i64 x209 fun i210 =>
  (l203[2]?).bind fun w211 =>
  (l203[3]?).bind fun w212 =>
  gV1 w212 fun x213 =>
  gI .i64 x213 fun i214 =>
  (l203[4]?).bind fun w215 =>
  gV1 w215 fun x216 =>
  gI .i64 x216 fun i217 =>
  (Lp.slices_partitionEqualCmpFunc_impl_seen 4 [w207, iv .i64 i210, w211, iv .i64 i214, iv .i64 i217] h204).bind fun o218 => lcase o218 (fun l219 h220 =>
  (l219[0]?).bind fun w223 =>
  (l219[1]?).bind fun w224 =>
  gV1 w224 fun x225 =>
  gI .i64 x225 fun i226 =>
  (l219[2]?).bind fun w227 =>
  (l219[3]?).bind fun w228 =>
  gV1 w228 fun x229 =>
  gI .i64 x229 fun i230 =>
  (l219[4]?).bind fun w231 =>
  gV1 w231 fun x232 =>
  gI .i64 x232 fun i233 =>
  vcase (bv (decide (i230 > i233)))
  (some (.done [iv .i64 i230] (tidy h [iv .i64 i230] h220)))
  (idxK 9 w223 (iv .i64 i233) fun v235 =>
  ldK (.agg [.i .i64, .i .i64, .i .i64, .s, .i .i64, .i .i64, .b, .i .i64, .i .i64]) ⟨9, 80, [.int .i64 0, .int .i64 0, .int .i64 0, .str ⟨#[]⟩, .int .i64 0, .int .i64 0, .bool false, .int .i64 0, .int .i64 0], true, .st [(0, 29), (4, 3), (5, 3), (6, 4), (7, 3), (8, 3)], true⟩ h220 v235 fun v236 =>
  gVA v236 fun c237 =>
  (c237[0]?).bind fun x238 =>
  gI .i64 x238 fun i239 =>
  (c237[1]?).bind fun x240 =>
  gI .i64 x240 fun i241 =>
  (c237[2]?).bind fun x242 =>
  gI .i64 x242 fun i243 =>
  (c237[3]?).bind fun x244 =>
  gS x244 fun y245 =>
  (c237[4]?).bind fun x246 =>
  gI .i64 x246 fun i247 =>
  (c237[5]?).bind fun x248 =>
  gI .i64 x248 fun i249 =>
  (c237[6]?).bind fun x250 =>
  gB x250 fun q251 =>
  (c237[7]?).bind fun x252 =>
  gI .i64 x252 fun i253 =>
  (c237[8]?).bind fun x254 =>
  gI .i64 x254 fun i255 =>
  if c237.length = 9 then
  idxK 9 w223 (iv .i64 i230) fun v256 =>
  ldK (.agg [.i .i64, .i .i64, .i .i64, .s, .i .i64, .i .i64, .b, .i .i64, .i .i64]) ⟨9, 80, [.int .i64 0, .int .i64 0, .int .i64 0, .str ⟨#[]⟩, .int .i64 0, .int .i64 0, .bool false, .int .i64 0, .int .i64 0], true, .st [(0, 29), (4, 3), (5, 3), (6, 4), (7, 3), (8, 3)], true⟩ h220 v256 fun v257 =>
  gVA v257 fun c258 =>
  (c258[0]?).bind fun x259 =>
  gI .i64 x259 fun i260 =>
  (c258[1]?).bind fun x261 =>
  gI .i64 x261 fun i262 =>
  (c258[2]?).bind fun x263 =>
  gI .i64 x263 fun i264 =>
  (c258[3]?).bind fun x265 =>
  gS x265 fun y266 =>
  (c258[4]?).bind fun x267 =>
  gI .i64 x267 fun i268 =>
  (c258[5]?).bind fun x269 =>
  gI .i64 x269 fun i270 =>
  (c258[6]?).bind fun x271 =>
  gB x271 fun q272 =>
  (c258[7]?).bind fun x273 =>
  gI .i64 x273 fun i274 =>
  (c258[8]?).bind fun x275 =>
  gI .i64 x275 fun i276 =>
  if c258.length = 9 then
  idxK 9 w223 (iv .i64 i230) fun v277 =>
  stK 9 h220 v277 (.agg [.int .i64 i239, .int .i64 i241, .int .i64 i243, .str y245, .int .i64 i247, .int .i64 i249, .bool q251, .int .i64 i253, .int .i64 i255]) fun h278 =>
  idxK 9 w223 (iv .i64 i233) fun v279 =>
  stK 9 h278 v279 (.agg [.int .i64 i260, .int .i64 i262, .int .i64 i264, .str y266, .int .i64 i268, .int .i64 i270, .bool q272, .int .i64 i274, .int .i64 i276]) fun h280 =>
  Lp.slices_partitionEqualCmpFunc_impl_seen 0 [w223, iv .i64 i226, w227, iv .i64 (IntKind.i64.wrap (i230 + 1)), iv .i64 (IntKind.i64.wrap (i233 - 1))] (tidy h [w223, iv .i64 i226, w227, iv .i64 (IntKind.i64.wrap (i230 + 1)), iv .i64 (IntKind.i64.wrap (i233 - 1))] h280)
  else none
  else none)) (fun v221 h222 =>
  some (.ret v221 h222))) (fun v205 h206 =>
  some (.ret v205 h206)) := by
  unfold Lp.slices_partitionEqualCmpFunc_impl_seen; rw [loop_eq]; kernel_rfl

theorem eq_slices_partitionEqualCmpFunc_impl_seen_l2 (s0 : V) (s1 : Int) (s11 : Int) (s12 : Int) (h : H) : Lp.slices_partitionEqualCmpFunc_impl_seen 2 [s0, iv .i64 s1, .s (.fn Fn.impl_look_1 []), iv .i64 s11, iv .i64 s12] h =
  vcase (bv (decide (s11 ≤ s12)))
  (idxK 9 s0 (iv .i64 s1) fun v402 =>
  ldK (.agg [.i .i64, .i .i64, .i .i64, .s, .i .i64, .i .i64, .b, .i .i64, .i .i64]) ⟨9, 80, [.int .i64 0, .int .i64 0, .int .i64 0, .str ⟨#[]⟩, .int .i64 0, .int .i64 0, .bool false, .int .i64 0, .int .i64 0], true, .st [(0, 29), (4, 3), (5, 3), (6, 4), (7, 3), (8, 3)], true⟩ h v402 fun v403 =>
  gVA v403 fun c404 =>
  (c404[0]?).bind fun x405 =>
  gI .i64 x405 fun i406 =>
  (c404[1]?).bind fun x407 =>
  gI .i64 x407 fun i408 =>
  (c404[2]?).bind fun x409 =>
  gI .i64 x409 fun i410 =>
  (c404[3]?).bind fun x411 =>
  gS x411 fun y412 =>
  (c404[4]?).bind fun x413 =>
  gI .i64 x413 fun i414 =>
  (c404[5]?).bind fun x415 =>
  gI .i64 x415 fun i416 =>
  (c404[6]?).bind fun x417 =>
  gB x417 fun q418 =>
  (c404[7]?).bind fun x419 =>
  gI .i64 x419 fun i420 =>
  (c404[8]?).bind fun x421 =>
  gI .i64 x421 fun i422 =>
  if c404.length = 9 then
  idxK 9 s0 (iv .i64 s11) fun v423 =>
  ldK (.agg [.i .i64, .i .i64, .i .i64, .s, .i .i64, .i .i64, .b, .i .i64, .i .i64]) ⟨9, 80, [.int .i64 0, .int .i64 0, .int .i64 0, .str ⟨#[]⟩, .int .i64 0, .int .i64 0, .bool false, .int .i64 0, .int .i64 0], true, .st [(0, 29), (4, 3), (5, 3), (6, 4), (7, 3), (8, 3)], true⟩ h v423 fun v424 =>
  gVA v424 fun c425 =>
  (c425[0]?).bind fun x426 =>
  gI .i64 x426 fun i427 =>
  (c425[1]?).bind fun x428 =>
  gI .i64 x428 fun i429 =>
  (c425[2]?).bind fun x430 =>
  gI .i64 x430 fun i431 =>
  (c425[3]?).bind fun x432 =>
  gS x432 fun y433 =>
  (c425[4]?).bind fun x434 =>
  gI .i64 x434 fun i435 =>
  (c425[5]?).bind fun x436 =>
  gI .i64 x436 fun i437 =>
  (c425[6]?).bind fun x438 =>
  gB x438 fun q439 =>
  (c425[7]?).bind fun x440 =>
  gI .i64 x440 fun i441 =>
  (c425[8]?).bind fun x442 =>
  gI .i64 x442 fun i443 =>
  if c425.length = 9 then
  pcallS (call Ev) Fn.impl_look_1 [.agg [.int .i64 i406, .int .i64 i408, .int .i64 i410, .str y412, .int .i64 i414, .int .i64 i416, .bool q418, .int .i64 i420, .int .i64 i422], .agg [.int .i64 i427, .int .i64 i429, .int .i64 i431, .str y433, .int .i64 i435, .int .i64 i437, .bool q439, .int .i64 i441, .int .i64 i443]] fun v444 =>
  gV1 v444 fun x445 =>
  gI .i64 x445 fun i446 =>
  hchk h h (
  vcase (bv (!(decide (i446 < 0))))
  (Lp.slices_partitionEqualCmpFunc_impl_seen 2 [s0, iv .i64 s1, .s (.fn Fn.impl_look_1 []), iv .i64 (IntKind.i64.wrap (s11 + 1)), iv .i64 s12] (tidy h [s0, iv .i64 s1, .s (.fn Fn.impl_look_1 []), iv .i64 (IntKind.i64.wrap (s11 + 1)), iv .i64 s12] h))
  (some (.done [s0, iv .i64 s1, .s (.fn Fn.impl_look_1 []), iv .i64 s11, iv .i64 s12] (tidy h [s0, iv .i64 s1, .s (.fn Fn.impl_look_1 []), iv .i64 s11, iv .i64 s12] h))))
  else none
  else none)
  (hchk h h (
  some (.done [s0, iv .i64 s1, .s (.fn Fn.impl_look_1 []), iv .i64 s11, iv .i64 s12] (tidy h [s0, iv .i64 s1, .s (.fn Fn.impl_look_1 []), iv .i64 s11, iv .i64 s12] h)))) := by
  unfold Lp.slices_partitionEqualCmpFunc_impl_seen; rw [loop_eq]; kernel_rfl

theorem eq_slices_partitionEqualCmpFunc_impl_seen_l4 (s0 : V) (s1 : Int) (s11 : Int) (s12 : Int) (h : H) : Lp.slices_partitionEqualCmpFunc_impl_seen 4 [s0, iv .i64 s1, .s (.fn Fn.impl_look_1 []), iv .i64 s11, iv .i64 s12] h =
  vcase (bv (decide (s11 ≤ s12)))
  (idxK 9 s0 (iv .i64 s1) fun v602 =>
  ldK (.agg [.i .i64, .i .i64, .i .i64, .s, .i .i64, .i .i64, .b, .i .i64, .i .i64]) ⟨9, 80, [.int .i64 0, .int .i64 0, .int .i64 0, .str ⟨#[]⟩, .int .i64 0, .int .i64 0, .bool false, .int .i64 0, .int .i64 0], true, .st [(0, 29), (4, 3), (5, 3), (6, 4), (7, 3), (8, 3)], true⟩ h v602 fun v603 =>
  gVA v603 fun c604 =>
  (c604[0]?).bind fun x605 =>
  gI .i64 x605 fun i606 =>
  (c604[1]?).bind fun x607 =>
  gI .i64 x607 fun i608 =>
  (c604[2]?).bind fun x609 =>
  gI .i64 x609 fun i610 =>
  (c604[3]?).bind fun x611 =>
  gS x611 fun y612 =>
  (c604[4]?).bind fun x613 =>
  gI .i64 x613 fun i614 =>
  (c604[5]?).bind fun x615 =>
  gI .i64 x615 fun i616 =>
  (c604[6]?).bind fun x617 =>
  gB x617 fun q618 =>
  (c604[7]?).bind fun x619 =>
  gI .i64 x619 fun i620 =>
  (c604[8]?).bind fun x621 =>
  gI .i64 x621 fun i622 =>
  if c604.length = 9 then
  idxK 9 s0 (iv .i64 s12) fun v623 =>
  ldK (.agg [.i .i64, .i .i64, .i .i64, .s, .i .i64, .i .i64, .b, .i .i64, .i .i64]) ⟨9, 80, [.int .i64 0, .int .i64 0, .int .i64 0, .str ⟨#[]⟩, .int .i64 0, .int .i64 0, .bool false, .int .i64 0, .int .i64 0], true, .st [(0, 29), (4, 3), (5, 3), (6, 4), (7, 3), (8, 3)], true⟩ h v623 fun v624 =>
  gVA v624 fun c625 =>
  (c625[0]?).bind fun x626 =>
  gI .i64 x626 fun i627 =>
  (c625[1]?).bind fun x628 =>
  gI .i64 x628 fun i629 =>
  (c625[2]?).bind fun x630 =>
  gI .i64 x630 fun i631 =>
  (c625[3]?).bind fun x632 =>
  gS x632 fun y633 =>
  (c625[4]?).bind fun x634 =>
  gI .i64 x634 fun i635 =>
  (c625[5]?).bind fun x636 =>
  gI .i64 x636 fun i637 =>
  (c625[6]?).bind fun x638 =>
  gB x638 fun q639 =>
  (c625[7]?).bind fun x640 =>
  gI .i64 x640 fun i641 =>
  (c625[8]?).bind fun x642 =>
  gI .i64 x642 fun i643 =>
  if c625.length = 9 then
  pcallS (call Ev) Fn.impl_look_1 [.agg [.int .i64 i606, .int .i64 i608, .int .i64 i610, .str y612, .int .i64 i614, .int .i64 i616, .bool q618, .int .i64 i620, .int .i64 i622], .agg [.int .i64 i627, .int .i64 i629, .int .i64 i631, .str y633, .int .i64 i635, .int .i64 i637, .bool q639, .int .i64 i641, .int .i64 i643]] fun v644 =>
  gV1 v644 fun x645 =>
  gI .i64 x645 fun i646 =>
  hchk h h (
  vcase (bv (decide (i646 < 0)))
  (Lp.slices_partitionEqualCmpFunc_impl_seen 4 [s0, iv .i64 s1, .s (.fn Fn.impl_look_1 []), iv .i64 s11, iv .i64 (IntKind.i64.wrap (s12 - 1))] (tidy h [s0, iv .i64 s1, .s (.fn Fn.impl_look_1 []), iv .i64 s11, iv .i64 (IntKind.i64.wrap (s12 - 1))] h))
  (some (.done [s0, iv .i64 s1, .s (.fn Fn.impl_look_1 []), iv .i64 s11, iv .i64 s12] (tidy h [s0, iv .i64 s1, .s (.fn Fn.impl_look_1 []), iv .i64 s11, iv .i64 s12] h))))
  else none
  else none)
  (hchk h h (
  some (.done [s0, iv .i64 s1, .s (.fn Fn.impl_look_1 []), iv .i64 s11, iv .i64 s12] (tidy h [s0, iv .i64 s1, .s (.fn Fn.impl_look_1 []), iv .i64 s11, iv .i64 s12] h)))) := by
  unfold Lp.slices_partitionEqualCmpFunc_impl_seen; rw [loop_eq]; kernel_rfl

theorem eq_slices_partitionCmpFunc_impl_seen (a0 : V) (a1 : Int) (a2 : Int) (a3 : Int) (h : H) : call Ev Fn.slices_partitionCmpFunc_impl_seen [a0, iv .i64 a1, iv .i64 a2, iv .i64 a3, .s (.fn Fn.impl_look_1 [])] h =
  idxK 9 a0 (iv .i64 a3) fun v101 =>
  ldK (.agg [.i .i64, .i .i64, .i .i64, .s, .i .i64, .i .i64, .b, .i .i64, .i .i64]) ⟨9, 80, [.int .i64 0, .int .i64 0, .int .i64 0, .str ⟨#[]⟩, .int .i64 0, .int .i64 0, .bool false, .int .i64 0, .int .i64 0], true, .st [(0, 29), (4, 3), (5, 3), (6, 4), (7, 3), (8, 3)], true⟩ h v101 fun v102 =>
  gVA v102 fun c103 =>
  (c103[0]?).bind fun x104 =>
  gI .i64 x104 fun i105 =>
  (c103[1]?).bind fun x106 =>
  gI .i64 x106 fun i107 =>
  (c103[2]?).bind fun x108 =>
  gI .i64 x108 fun i109 =>
  (c103[3]?).bind fun x110 =>
  gS x110 fun y111 =>
  (c103[4]?).bind fun x112 =>
  gI .i64 x112 fun i113 =>
  (c103[5]?).bind fun x114 =>
  gI .i64 x114 fun i115 =>
  (c103[6]?).bind fun x116 =>
  gB x116 fun q117 =>
  (c103[7]?).bind fun x118 =>
  gI .i64 x118 fun i119 =>
  (c103[8]?).bind fun x120 =>
  gI .i64 x120 fun i121 =>
  if c103.length = 9 then
  idxK 9 a0 (iv .i64 a1) fun v122 =>
  ldK (.agg [.i .i64, .i .i64, .i .i64, .s, .i .i64, .i .i64, .b, .i .i64, .i .i64]) ⟨9, 80, [.int .i64 0, .int .i64 0, .int .i64 0, .str ⟨#[]⟩, .int .i64 0, .int .i64 0, .bool false, .int .i64 0, .int .i64 0], true, .st [(0, 29), (4, 3), (5, 3), (6, 4), (7, 3), (8, 3)], true⟩ h v122 fun v123 =>
  gVA v123 fun c124 =>
  (c124[0]?).bind fun x125 =>
  gI .i64 x125 fun i126 =>
  (c124[1]?).bind fun x127 =>
  gI .i64 x127 fun i128 =>
  (c124[2]?).bind fun x129 =>
  gI .i64 x129 fun i130 =>
  (c124[3]?).bind fun x131 =>
  gS x131 fun y132 =>
  (c124[4]?).bind fun x133 =>
  gI .i64 x133 fun i134 =>
  (c124[5]?).bind fun x135 =>
  gI .i64 x135 fun i136 =>
  (c124[6]?).bind fun x137 =>
  gB x137 fun q138 =>
  (c124[7]?).bind fun x139 =>
  gI .i64 x139 fun i140 =>
  (c124[8]?).bind fun x141 =>
  gI .i64 x141 fun i142 =>
  if c124.length = 9 then
  idxK 9 a0 (iv .i64 a1) fun v143 =>
  stK 9 h v143 (.agg [.int .i64 i105, .int .i64 i107, .int .i64 i109, .str y111, .int .i64 i113, .int .i64 i115, .bool q117, .int .i64 i119, .int .i64 i121]) fun h144 =>
  idxK 9 a0 (iv .i64 a3) fun v145 =>
  stK 9 h144 v145 (.agg [.int .i64 i126, .int .i64 i128, .int .i64 i130, .str y132, .int .i64 i134, .int .i64 i136, .bool q138, .int .i64 i140, .int .i64 i142]) fun h146 =>
  (Lp.slices_partitionCmpFunc_impl_seen 0 [a0, iv .i64 a1, .s (.fn Fn.impl_look_1 []), iv .i64 (IntKind.i64.wrap (a1 + 1)), iv .i64 (IntKind.i64.wrap (a2 - 1))] h146).bind fun o147 => lcase o147 (fun l148 h149 =>
  (l148[0]?).bind fun w152 =>
  (l148[1]?).bind fun w153 =>
  gV1 w153 fun x154 =>
  gI .i64 x154 fun i155 =>
  (l148[2]?).bind fun w156 =>
  (l148[3]?).bind fun w157 =>
  gV1 w157 fun x158 =>
  gI .i64 x158 fun i159 =>
  (l148[4]?).bind fun w160 =>
  gV1 w160 fun x161 =>
  gI .i64 x161 fun i162 =>
  (Lp.slices_partitionCmpFunc_impl_seen 2 [w152, iv .i64 i155, w156, iv .i64 i159, iv .i64 i162] h149).bind fun o163 => lcase o163 (fun l164 h165 =>
  (l164[0]?).bind fun w168 =>
  (l164[1]?).bind fun w169 =>
  gV1 w169 fun x170 =>
  gI .i64 x170 fun i171 =>
  (l164[2]?).bind fun w172 =>
  (l164[3]?).bind fun w173 =>
  gV1 w173 fun x174 =>
  gI .i64 x174 fun i175 =>
  (l164[4]?).bind fun w176 =>
  gV1 w176 fun x177 =>
  gI .i64 x177 fun i178 =>
  vcase (bv (decide (i175 > i178)))
  (idxK 9 w168 (iv .i64 i171) fun v180 =>
  ldK (.agg [.i .i64, .i .i64, .i .i64, .s, .i .i64, .i .i64, .b, .i .i64, .i .i64]) ⟨9, 80, [.int .i64 0, .int .i64 0, .int .i64 0, .str ⟨#[]⟩, .int .i64 0, .int .i64 0, .bool false, .int .i64 0, .int .i64 0], true, .st [(0, 29), (4, 3), (5, 3), (6, 4), (7, 3), (8, 3)], true⟩ h165 v180 fun v181 =>
  gVA v181 fun c182 =>
  (c182[0]?).bind fun x183 =>
  gI .i64 x183 fun i184 =>
  (c182[1]?).bind fun x185 =>
  gI .i64 x185 fun i186 =>
  (c182[2]?).bind fun x187 =>
  gI .i64 x187 fun i188 =>
  (c182[3]?).bind fun x189 =>
  gS x189 fun y190 =>
  (c182[4]?).bind fun x191 =>
  gI .i64 x191 fun i192 =>
  (c182[5]?).bind fun x193 =>
  gI .i64 x193 fun i194 =>
  (c182[6]?).bind fun x195 =>
  gB x195 fun q196 =>
  (c182[7]?).bind fun x197 =>
  gI .i64 x197 fun i198 =>
  (c182[8]?).bind fun x199 =>
  gI .i64 x199 fun i200 =>
  if c182.length = 9 then
  idxK 9 w168 (iv .i64 i178) fun v201 =>
  ldK (.agg [.i .i64, .i .i64, .i .i64, .s, .i .i64, .i .i64, .b, .i .i64, .i .i64]) ⟨9, 80, [.int .i64 0, .int .i64 0, .int .i64 0, .str ⟨#[]⟩, .int .i64 0, .int .i64 0, .bool false, .int .i64 0, .int .i64 0], true, .st [(0, 29), (4, 3), (5, 3), (6, 4), (7, 3), (8, 3)], true⟩ h165 v201 fun v202 =>
  gVA v202 fun c203 =>
  (c203[0]?).bind fun x204 =>
  gI .i64 x204 fun i205 =>
  (c203[1]?).bind fun x206 =>
  gI .i64 x206 fun i207 =>
  (c203[2]?).bind fun x208 =>
  gI .i64 x208 fun i209 =>
  (c203[3]?).bind fun x210 =>
  gS x210 fun y211 =>
  (c203[4]?).bind fun x212 =>
  gI .i64 x212 fun i213 =>
  (c203[5]?).bind fun x214 =>
  gI .i64 x214 fun i215 =>
  (c203[6]?).bind fun x216 =>
  gB x216 fun q217 =>
  (c203[7]?).bind fun x218 =>
  gI .i64 x218 fun i219 =>
  (c203[8]?).bind fun x220 =>
  gI .i64 x220 fun i221 =>
  if c203.length = 9 then
  idxK 9 w168 (iv .i64 i178) fun v222 =>
  stK 9 h165 v222 (.agg [.int .i64 i184, .int .i64 i186, .int .i64 i188, .str y190, .int .i64 i192, .int .i64 i194, .bool q196, .int .i64 i198, .int .i64 i200]) fun h223 =>
  idxK 9 w168 (iv .i64 i171) fun v224 =>
  stK 9 h223 v224 (.agg [.int .i64 i205, .int .i64 i207, .int .i64 i209, .str y211, .int .i64 i213, .int .i64 i215, .bool q217, .int .i64 i219, .int .i64 i221]) fun h225 =>
  some (.tup [.s (.int .i64 i178), .s (.bool true)], h225)
  else none
  else none)
  (idxK 9 w168 (iv .i64 i178) fun v226 =>
  ldK (.agg [.i .i64, .i .i64, .i .i64, .s, .i .i64, .i .i64, .b, .i .i64, .i .i64]) ⟨9, 80, [.int .i64 0, .int .i64 0, .int .i64 0, .str ⟨#[]⟩, .int .i64 0, .int .i64 0, .bool false, .int .i64 0, .int .i64 0], true, .st [(0, 29), (4, 3), (5, 3), (6, 4), (7, 3), (8, 3)], true⟩ h165 v226 fun v227 =>
  gVA v227 fun c228 =>
  (c228[0]?).bind fun x229 =>
  gI .i64 x229 fun i230 =>
  (c228[1]?).bind fun x231 =>
  gI .i64 x231 fun i232 =>
  (c228[2]?).bind fun x233 =>
  gI .i64 x233 fun i234 =>
  (c228[3]?).bind fun x235 =>
  gS x235 fun y236 =>
  (c228[4]?).bind fun x237 =>
  gI .i64 x237 fun i238 =>
  (c228[5]?).bind fun x239 =>
  gI .i64 x239 fun i240 =>
  (c228[6]?).bind fun x241 =>
  gB x241 fun q242 =>
  (c228[7]?).bind fun x243 =>
  gI .i64 x243 fun i244 =>
  (c228[8]?).bind fun x245 =>
  gI .i64 x245 fun i246 =>
  if c228.length = 9 then
  idxK 9 w168 (iv .i64 i175) fun v247 =>
  ldK (.agg [.i .i64, .i .i64, .i .i64, .s, .i .i64, .i .i64, .b, .i .i64, .i .i64]) ⟨9, 80, [.int .i64 0, .int .i64 0, .int .i64 0, .str ⟨#[]⟩, .int .i64 0, .int .i64 0, .bool false, .int .i64 0, .int .i64 0], true, .st [(0, 29), (4, 3), (5, 3), (6, 4), (7, 3), (8, 3)], true⟩ h165 v247 fun v248 =>
  gVA v248 fun c249 =>
  (c249[0]?).bind fun x250 =>
  gI .i64 x250 fun i251 =>
  (c249[1]?).bind fun x252 =>
  gI .i64 x252 fun i253 =>
  (c249[2]?).bind fun x254 =>
  gI .i64 x254 fun i255 =>
  (c249[3]?).bind fun x256 =>
  gS x256 fun y257 =>
  (c249[4]?).bind fun x258 =>
  gI .i64 x258 fun i259 =>
  (c249[5]?).bind fun x260 =>
  gI .i64 x260 fun i261 =>
  (c249[6]?).bind fun x262 =>
  gB x262 fun q263 =>
  (c249[7]?).bind fun x264 =>
  gI .i64 x264 fun i265 =>
  (c249[8]?).bind fun x266 =>
  gI .i64 x266 fun i267 =>
  if c249.length = 9 then
  idxK 9 w168 (iv .i64 i175) fun v268 =>
  stK 9 h165 v268 (.agg [.int .i64 i230, .int .i64 i232, .int .i64 i234, .str y236, .int .i64 i238, .int .i64 i240, .bool q242, .int .i64 i244, .int .i64 i246]) fun h269 =>
  idxK 9 w168 (iv .i64 i178) fun v270 =>
  stK 9 h269 v270 (.agg [.int .i64 i251, .int .i64 i253, .int .i64 i255, .str y257, .int .i64 i259, .int .i64 i261, .bool q263, .int .i64 i265, .int .i64 i267]) fun h271 =>
  (Lp.slices_partitionCmpFunc_impl_seen 4 [w168, iv .i64 i171, w172, iv .i64 (IntKind.i64.wrap (i175 + 1)), iv .i64 (IntKind.i64.wrap (i178 - 1))] h271).bind fun o272 => lcase o272 (fun l273 h274 =>
  (l273[0]?).bind fun w277 =>
  (l273[1]?).bind fun w278 =>
  gV1 w278 fun x279 =>
  gI .i64 x279 fun i280 =>
  (l273[2]?).bind fun w281 =>
  gV1 w281 fun x282 =>
  gI .i64 x282 fun i283 =>
  idxK 9 w277 (iv .i64 i280) fun v284 =>
  ldK (.agg [.i .i64, .i .i64, .i .i64, .s, .i .i64, .i .i64, .b, .i .i64, .i .i64]) ⟨9, 80, [.int .i64 0, .int .i64 0, .int .i64 0, .str ⟨#[]⟩, .int .i64 0, .int .i64 0, .bool false, .int .i64 0, .int .i64 0], true, .st [(0, 29), (4, 3), (5, 3), (6, 4), (7, 3), (8, 3)], true⟩ h274 v284 fun v285 =>
  gVA v285 fun c286 =>
  (c286[0]?).bind fun x287 =>
  gI .i64 x287 fun i288 =>
  (c286[1]?).bind fun x289 =>
  gI .i64 x289 fun i290 =>
  (c286[2]?).bind fun x291 =>
  gI .i64 x291 fun i292 =>
  (c286[3]?).bind fun x293 =>
  gS x293 fun y294 =>
  (c286[4]?).bind fun x295 =>
  gI .i64 x295 fun i296 =>
  (c286[5]?).bind fun x297 =>
  gI .i64 x297 fun i298 =>
  (c286[6]?).bind fun x299 =>
  gB x299 fun q300 =>
  (c286[7]?).bind fun x301 =>
  gI .i64 x301 fun i302 =>
  (c286[8]?).bind fun x303 =>
  gI .i64 x303 fun i304 =>
  if c286.length = 9 then
  idxK 9 w277 (iv .i64 i283) fun v305 =>
  ldK (.agg [.i .i64, .i .i64, .i .i64, .s, .i .i64, .i .i64, .b, .i .i64, .i .i64]) ⟨9, 80, [.int .i64 0, .int .i64 0, .int .i64 0, .str ⟨#[]⟩, .int .i64 0, .int .i64 0, .bool false, .int .i64 0, .int .i64 0], true, .st [(0, 29), (4, 3), (5, 3), (6, 4), (7, 3), (8, 3)], true⟩ h274 v305 fun v306 =>
  gVA v306 fun c307 =>
  (c307[0]?).bind fun x308 =>
  gI .i64 x308 fun i309 =>
  (c307[1]?).bind fun x310 =>
  gI .i64 x310 fun i311 =>
  (c307[2]?).bind fun x312 =>
  gI .i64 x312 fun i313 =>
  (c307[3]?).bind fun x314 =>
  gS x314 fun y315 =>
  (c307[4]?).bind fun x316 =>
  gI .i64 x316 fun i317 =>
  (c307[5]?).bind fun x318 =>
  gI .i64 x318 fun i319 =>
  (c307[6]?).bind fun x320 =>
  gB x320 fun q321 =>
  (c307[7]?).bind fun x322 =>
  gI .i64 x322 fun i323 =>
  (c307[8]?).bind fun x324 =>
  gI .i64 x324 fun i325 =>
  if c307.length = 9 then
  idxK 9 w277 (iv .i64 i283) fun v326 =>
  stK 9 h274 v326 (.agg [.int .i64 i288, .int .i64 i290, .int .i64 i292, .str y294, .int .i64 i296, .int .i64 i298, .bool q300, .int .i64 i302, .int .i64 i304]) fun h327 =>
  idxK 9 w277 (iv .i64 i280) fun v328 =>
  stK 9 h327 v328 (.agg [.int .i64 i309, .int .i64 i311, .int .i64 i313, .str y315, .int .i64 i317, .int .i64 i319, .bool q321, .int .i64 i323, .int .i64 i325]) fun h329 =>
  some (.tup [.s (.int .i64 i283), .s (.bool false)], h329)
  else none
  else none) (fun v275 h276 =>
  some (v275, h276))
  else none
  else none)) (fun v166 h167 =>
  some (v166, h167))) (fun v150 h151 =>
  some (v150, h151))
  else none
  else none := by
  rw [call_eq]; kernel_rfl

theorem eq_slices_partitionCmpFunc_impl_seen_l0 (s0 : V) (s1 : Int) (s12 : Int) (s13 : Int) (h : H) : Lp.slices_partitionCmpFunc_impl_seen 0 [s0, iv .i64 s1, .s (.fn Fn.impl_look_1 []), iv .i64 s12, iv .i64 s13] h =
  vcase (bv (decide (s12 ≤ s13)))
  (idxK 9 s0 (iv .i64 s12) fun v202 =>
  ldK (.agg [.i .i64, .i .i64, .i .i64, .s, .i .i64, .i .i64, .b, .i .i64, .i .i64]) ⟨9, 80, [.int .i64 0, .int .i64 0, .int .i64 0, .str ⟨#[]⟩, .int .i64 0, .int .i64 0, .bool false, .int .i64 0, .int .i64 0], true, .st [(0, 29), (4, 3), (5, 3), (6, 4), (7, 3), (8, 3)], true⟩ h v202 fun v203 =>
  gVA v203 fun c204 =>
  (c204[0]?).bind fun x205 =>
  gI .i64 x205 fun i206 =>
  (c204[1]?).bind fun x207 =>
  gI .i64 x207 fun i208 =>
  (c204[2]?).bind fun x209 =>
  gI .i64 x209 fun i210 =>
  (c204[3]?).bind fun x211 =>
  gS x211 fun y212 =>
  (c204[4]?).bind fun x213 =>
  gI .i64 x213 fun i214 =>
  (c204[5]?).bind fun x215 =>
  gI .i64 x215 fun i216 =>
  (c204[6]?).bind fun x217 =>
  gB x217 fun q218 =>
  (c204[7]?).bind fun x219 =>
  gI .i64 x219 fun i220 =>
  (c204[8]?).bind fun x221 =>
  gI .i64 x221 fun i222 =>
  if c204.length = 9 then
  idxK 9 s0 (iv .i64 s1) fun v223 =>
  ldK (.agg [.i .i64, .i .i64, .i .i64, .s, .i .i64, .i .i64, .b, .i .i64, .i .i64]) ⟨9, 80, [.int .i64 0, .int .i64 0, .int .i64 0, .str ⟨#[]⟩, .int .i64 0, .int .i64 0, .bool false, .int .i64 0, .int .i64 0], true, .st [(0, 29), (4, 3), (5, 3), (6, 4), (7, 3), (8, 3)], true⟩ h v223 fun v224 =>
  gVA v224 fun c225 =>
  (c225[0]?).bind fun x226 =>
  gI .i64 x226 fun i227 =>
  (c225[1]?).bind fun x228 =>
  gI .i64 x228 fun i229 =>
  (c225[2]?).bind fun x230 =>
  gI .i64 x230 fun i231 =>
  (c225[3]?).bind fun x232 =>
  gS x232 fun y233 =>
  (c225[4]?).bind fun x234 =>
  gI .i64 x234 fun i235 =>
  (c225[5]?).bind fun x236 =>
  gI .i64 x236 fun i237 =>
  (c225[6]?).bind fun x238 =>
  gB x238 fun q239 =>
  (c225[7]?).bind fun x240 =>
  gI .i64 x240 fun i241 =>
  (c225[8]?).bind fun x242 =>
  gI .i64 x242 fun i243 =>
  if c225.length = 9 then
  pcallS (call Ev) Fn.impl_look_1 [.agg [.int .i64 i206, .int .i64 i208, .int .i64 i210, .str y212, .int .i64 i214, .int .i64 i216, .bool q218, .int .i64 i220, .int .i64 i222], .agg [.int .i64 i227, .int .i64 i229, .int .i64 i231, .str y233, .int .i64 i235, .int .i64 i237, .bool q239, .int .i64 i241, .int .i64 i243]] fun v244 =>
  gV1 v244 fun x245 =>
  gI .i64 x245 fun i246 =>
  hchk h h (
  vcase (bv (decide (i246 < 0)))
  (Lp.slices_partitionCmpFunc_impl_seen 0 [s0, iv .i64 s1, .s (.fn Fn.impl_look_1 []), iv .i64 (IntKind.i64.wrap (s12 + 1)), iv .i64 s13] (tidy h [s0, iv .i64 s1, .s (.fn Fn.impl_look_1 []), iv .i64 (IntKind.i64.wrap (s12 + 1)), iv .i64 s13] h))
  (some (.done [s0, iv .i64 s1, .s (.fn Fn.impl_look_1 []), iv .i64 s12, iv .i64 s13] (tidy h [s0, iv .i64 s1, .s (.fn Fn.impl_look_1 []), iv .i64 s12, iv .i64 s13] h))))
  else none
  else none)
  (hchk h h (
  some (.done [s0, iv .i64 s1, .s (.fn Fn.impl_look_1 []), iv .i64 s12, iv .i64 s13] (tidy h [s0, iv .i64 s1, .s (.fn Fn.impl_look_1 []), iv .i64 s12, iv .i64 s13] h)))) := by
  unfold Lp.slices_partitionCmpFunc_impl_seen; rw [loop_eq]; kernel_rfl

theorem eq_slices_partitionCmpFunc_impl_seen_l2 (s0 : V) (s1 : Int) (s12 : Int) (s13 : Int) (h : H) : Lp.slices_partitionCmpFunc_impl_seen 2 [s0, iv .i64 s1, .s (.fn Fn.impl_look_1 []), iv .i64 s12, iv .i64 s13] h =
  vcase (bv (decide (s12 ≤ s13)))
  (idxK 9 s0 (iv .i64 s13) fun v402 =>
  ldK (.agg [.i .i64, .i .i64, .i .i64, .s, .i .i64, .i .i64, .b, .i .i64, .i .i64]) ⟨9, 80, [.int .i64 0, .int .i64 0, .int .i64 0, .str ⟨#[]⟩, .int .i64 0, .int .i64 0, .bool false, .int .i64 0, .int .i64 0], true, .st [(0, 29), (4, 3), (5, 3), (6, 4), (7, 3), (8, 3)], true⟩ h v402 fun v403 =>
  gVA v403 fun c404 =>
  (c404[0]?).bind fun x405 =>
  gI .i64 x405 fun i406 =>
  (c404[1]?).bind fun x407 =>
  gI .i64 x407 fun i408 =>
  (c404[2]?).bind fun x409 =>
  gI .i64 x409 fun i410 =>
  (c404[3]?).bind fun x411 =>
  gS x411 fun y412 =>
  (c404[4]?).bind fun x413 =>
  gI .i64 x413 fun i414 =>
  (c404[5]?).bind fun x415 =>
  gI .i64 x415 fun i416 =>
  (c404[6]?).bind fun x417 =>
  gB x417 fun q418 =>
  (c404[7]?).bind fun x419 =>
  gI .i64 x419 fun i420 =>
  (c404[8]?).bind fun x421 =>
  gI .i64 x421 fun i422 =>
  if c404.length = 9 then
  idxK 9 s0 (iv .i64 s1) fun v423 =>
  ldK (.agg [.i .i64, .i .i64, .i .i64, .s, .i .i64, .i .i64, .b, .i .i64, .i .i64]) ⟨9, 80, [.int .i64 0, .int .i64 0, .int .i64 0, .str ⟨#[]⟩, .int .i64 0, .int .i64 0, .bool false, .int .i64 0, .int .i64 0], true, .st [(0, 29), (4, 3), (5, 3), (6, 4), (7, 3), (8, 3)], true⟩ h v423 fun v424 =>
  gVA v424 fun c425 =>
  (c425[0]?).bind fun x426 =>
  gI .i64 x426 fun i427 =>
  (c425[1]?).bind fun x428 =>
  gI .i64 x428 fun i429 =>
  (c425[2]?).bind fun x430 =>
  gI .i64 x430 fun i431 =>
  (c425[3]?).bind fun x432 =>
  gS x432 fun y433 =>
  (c425[4]?).bind fun x434 =>
  gI .i64 x434 fun i435 =>
  (c425[5]?).bind fun x436 =>
  gI .i64 x436 fun i437 =>
  (c425[6]?).bind fun x438 =>
  gB x438 fun q439 =>
  (c425[7]?).bind fun x440 =>
  gI .i64 x440 fun i441 =>
  (c425[8]?).bind fun x442 =>
  gI .i64 x442 fun i443 =>
  if c425.length = 9 then
  pcallS (call Ev) Fn.impl_look_1 [.agg [.int .i64 i406, .int .i64 i408, .int .i64 i410, .str y412, .int .i64 i414, .int .i64 i416, .bool q418, .int .i64 i420, .int .i64 i422], .agg [.int .i64 i427, .int .i64 i429, .int .i64 i431, .str y433, .int .i64 i435, .int .i64 i437, .bool q439, .int .i64 i441, .int .i64 i443]] fun v444 =>
  gV1 v444 fun x445 =>
  gI .i64 x445 fun i446 =>
  hchk h h (
  vcase (bv (!(decide (i446 < 0))))
  (Lp.slices_partitionCmpFunc_impl_seen 2 [s0, iv .i64 s1, .s (.fn Fn.impl_look_1 []), iv .i64 s12, iv .i64 (IntKind.i64.wrap (s13 - 1))] (tidy h [s0, iv .i64 s1, .s (.fn Fn.impl_look_1 []), iv .i64 s12, iv .i64 (IntKind.i64.wrap (s13 - 1))] h))
  (some (.done [s0, iv .i64 s1, .s (.fn Fn.impl_look_1 []), iv .i64 s12, iv .i64 s13] (tidy h [s0, iv .i64 s1, .s (.fn Fn.impl_look_1 []), iv .i64 s12, iv .i64 s13] h))))
  else none
  else none)
  (hchk h h (
  some (.done [s0, iv .i64 s1, .s (.fn Fn.impl_look_1 []), iv .i64 s12, iv .i64 s13] (tidy h [s0, iv .i64 s1, .s (.fn Fn.impl_look_1 []), iv .i64 s12, iv .i64 s13] h)))) := by
  unfold Lp.slices_partitionCmpFunc_impl_seen; rw [loop_eq]; kernel_rfl

theorem eq_slices_partitionCmpFunc_impl_seen_l4 (s0 : V) (s1 : Int) (s12 : Int) (s13 : Int) (h : H) : Lp.slices_partitionCmpFunc_impl_seen 4 [s0, iv .i64 s1, .s (.fn Fn.impl_look_1 []), iv .i64 s12, iv .i64 s13] h =
  (Lp.slices_partitionCmpFunc_impl_seen 6 [s0, iv .i64 s1, .s (.fn Fn.impl_look_1 []), iv .i64 s12, iv .i64 s13] h).bind fun o602 => lcase o602 (fun l603 h604 =>
  (l603[0]?).bind fun w607 =>
  (l603[1]?).bind fun w608 =>
  gV1 w608 fun x609 =>
  gI .i64 x609 fun i610 =>
  (l603[2]?).bind fun w611 =>
  (l603[3]?).bind fun w612 =>
  gV1 w612 fun x613 =>
  gI .i64 x613 fun i614 =>
  (l603[4]?).bind fun w615 =>
  gV1 w615 fun x616 =>
  gI .i64 x616 fun i617 =>
  (Lp.slices_partitionCmpFunc_impl_seen 8 [w607, iv .i64 i610, w611, iv .i64 i614, iv .i64 i617] h604).bind fun o618 => lcase o618 (fun l619 h620 =>
  (l619[0]?).bind fun w623 =>
  (l619[1]?).bind fun w624 =>
  gV1 w624 fun x625 =>
  gI .i64 x625 fun i626 =>
  (l619[2]?).bind fun w627 =>
  (l619[3]?).bind fun w628 =>
  gV1 w628 fun x629 =>
  gI .i64 x629 fun i630 =>
  (l619[4]?).bind fun w631 =>
  gV1 w631 fun x632 =>
  gI .i64 x632 fun i633 =>
  vcase (bv (decide (i630 > i633)))
  (some (.done [w623, iv .i64 i626, iv .i64 i633] (tidy h [w623, iv .i64 i626, iv .i64 i633] h620)))
  (idxK 9 w623 (iv .i64 i633) fun v635 =>
  ldK (.agg [.i .i64, .i .i64, .i .i64, .s, .i .i64, .i .i64, .b, .i .i64, .i .i64]) ⟨9, 80, [.int .i64 0, .int .i64 0, .int .i64 0, .str ⟨#[]⟩, .int .i64 0, .int .i64 0, .bool false, .int .i64 0, .int .i64 0], true, .st [(0, 29), (4, 3), (5, 3), (6, 4), (7, 3), (8, 3)], true⟩ h620 v635 fun v636 =>
  gVA v636 fun c637 =>
  (c637[0]?).bind fun x638 =>
  gI .i64 x638 fun i639 =>
  (c637[1]?).bind fun x640 =>
  gI .i64 x640 fun i641 =>
  (c637[2]?).bind fun x642 =>
  gI .i64 x642 fun i643 =>
  (c637[3]?).bind fun x644 =>
  gS x644 fun y645 =>
  (c637[4]?).bind fun x646 =>
  gI .i64 x646 fun i647 =>
  (c637[5]?).bind fun x648 =>
  gI .i64 x648 fun i649 =>
  (c637[6]?).bind fun x650 =>
  gB x650 fun q651 =>
  (c637[7]?).bind fun x652 =>
  gI .i64 x652 fun i653 =>
  (c637[8]?).bind fun x654 =>
  gI .i64 x654 fun i655 =>
  if c637.length = 9 then
  idxK 9 w623 (iv .i64 i630) fun v656 =>
  ldK (.agg [.i .i64, .i .i64, .i .i64, .s, .i .i64, .i .i64, .b, .i .i64, .i .i64]) ⟨9, 80, [.int .i64 0, .int .i64 0, .int .i64 0, .str ⟨#[]⟩, .int .i64 0, .int .i64 0, .bool false, .int .i64 0, .int .i64 0], true, .st [(0, 29), (4, 3), (5, 3), (6, 4), (7, 3), (8, 3)], true⟩ h620 v656 fun v657 =>
  gVA v657 fun c658 =>
  (c658[0]?).bind fun x659 =>
  gI .i64 x659 fun i660 =>
  (c658[1]?).bind fun x661 =>
  gI .i64 x661 fun i662 =>
  (c658[2]?).bind fun x663 =>
  gI .i64 x663 fun i664 =>
  (c658[3]?).bind fun x665 =>
  gS x665 fun y666 =>
  (c658[4]?).bind fun x667 =>
  gI .i64 x667 fun i668 =>
  (c658[5]?).bind fun x669 =>
  gI .i64 x669 fun i670 =>
  (c658[6]?).bind fun x671 =>
  gB x671 fun q672 =>
  (c658[7]?).bind fun x673 =>
  gI .i64 x673 fun i674 =>
  (c658[8]?).bind fun x675 =>
  gI .i64 x675 fun i676 =>
  if c658.length = 9 then
  idxK 9 w623 (iv .i64 i630) fun v677 =>
  stK 9 h620 v677 (.agg [.int .i64 i639, .int .i64 i641, .int .i64 i643, .str y645, .int .i64 i647, .int .i64 i649, .bool q651, .int .i64 i653, .int .i64 i655]) fun h678 =>
  idxK 9 w623 (iv .i64 i633) fun v679 =>
  stK 9 h678 v679 (.agg [.int .i64 i660, .int .i64 i662, .int .i64 i664, .str y666, .int .i64 i668, .int .i64 i670, .bool q672, .int .i64 i674, .int .i64 i676]) fun h680 =>
  Lp.slices_partitionCmpFunc_impl_seen 4 [w623, iv .i64 i626, w627, iv .i64 (IntKind.i64.wrap (i630 + 1)), iv .i64 (IntKind.i64.wrap (i633 - 1))] (tidy h [w623, iv .i64 i626, w627, iv .i64 (IntKind.i64.wrap (i630 + 1)), iv .i64 (IntKind.i64.wrap (i633 - 1))] h680)
  else none
  else none)) (fun v621 h622 =>
  some (.ret v621 h622))) (fun v605 h606 =>
  some (.ret v605 h606)) := by
  unfold Lp.slices_partitionCmpFunc_impl_seen; rw [loop_eq]; kernel_rfl

theorem eq_slices_partitionCmpFunc_impl_seen_l6 (s0 : V) (s1 : Int) (s12 : Int) (s13 : Int) (h : H) : Lp.slices_partitionCmpFunc_impl_seen 6 [s0, iv .i64 s1, .s (.fn Fn.impl_look_1 []), iv .i64 s12, iv .i64 s13] h =
  vcase (bv (decide (s12 ≤ s13)))
  (idxK 9 s0 (iv .i64 s12) fun v802 =>
  ldK (.agg [.i .i64, .i .i64, .i .i64, .s, .i .i64, .i .i64, .b, .i .i64, .i .i64]) ⟨9, 80, [.int .i64 0, .int .i64 0, .int .i64 0, .str ⟨#[]⟩, .int .i64 0, .int .i64 0, .bool false, .int .i64 0, .int .i64 0], true, .st [(0, 29), (4, 3), (5, 3), (6, 4), (7, 3), (8, 3)], true⟩ h v802 fun v803 =>
  gVA v803 fun c804 =>
  (c804[0]?).bind fun x805 =>
  gI .i64 x805 fun i806 =>
  (c804[1]?).bind fun x807 =>
  gI .i64 x807 fun i808 =>
  (c804[2]?).bind fun x809 =>
  gI .i64 x809 fun i810 =>
  (c804[3]?).bind fun x811 =>
  gS x811 fun y812 =>
  (c804[4]?).bind fun x813 =>
  gI .i64 x813 fun i814 =>
  (c804[5]?).bind fun x815 =>
  gI .i64 x815 fun i816 =>
  (c804[6]?).bind fun x817 =>
  gB x817 fun q818 =>
  (c804[7]?).bind fun x819 =>
  gI .i64 x819 fun i820 =>
  (c804[8]?).bind fun x821 =>
  gI .i64 x821 fun i822 =>
  if c804.length = 9 then
  idxK 9 s0 (iv .i64 s1) fun v823 =>
  ldK (.agg [.i .i64, .i .i64, .i .i64, .s, .i .i64, .i .i64, .b, .i .i64, .i .i64]) ⟨9, 80, [.int .i64 0, .int .i64 0, .int .i64 0, .str ⟨#[]⟩, .int .i64 0, .int .i64 0, .bool false, .int .i64 0, .int .i64 0], true, .st [(0, 29), (4, 3), (5, 3), (6, 4), (7, 3), (8, 3)], true⟩ h v823 fun v824 =>
  gVA v824 fun c825 =>
  (c825[0]?).bind fun x826 =>
  gI .i64 x826 fun i827 =>
  (c825[1]?).bind fun x828 =>
  gI .i64 x828 fun i829 =>
  (c825[2]?).bind fun x830 =>
  gI .i64 x830 fun i831 =>
  (c825[3]?).bind fun x832 =>
  gS x832 fun y833 =>
  (c825[4]?).bind fun x834 =>
  gI .i64 x834 fun i835 =>
  (c825[5]?).bind fun x836 =>
  gI .i64 x836 fun i837 =>
  (c825[6]?).bind fun x838 =>
  gB x838 fun q839 =>
  (c825[7]?).bind fun x840 =>
  gI .i64 x840 fun i841 =>
  (c825[8]?).bind fun x842 =>
  gI .i64 x842 fun i843 =>
  if c825.length = 9 then
  pcallS (call Ev) Fn.impl_look_1 [.agg [.int .i64 i806, .int .i64 i808, .int .i64 i810, .str y812, .int .i64 i814, .int .i64 i816, .bool q818, .int .i64 i820, .int .i64 i822], .agg [.int .i64 i827, .int .i64 i829, .int .i64 i831, .str y833, .int .i64 i835, .int .i64 i837, .bool q839, .int .i64 i841, .int .i64 i843]] fun v844 =>
  gV1 v844 fun x845 =>
  gI .i64 x845 fun i846 =>
  hchk h h (
  vcase (bv (decide (i846 < 0)))
  (Lp.slices_partitionCmpFunc_impl_seen 6 [s0, iv .i64 s1, .s (.fn Fn.impl_look_1 []), iv .i64 (IntKind.i64.wrap (s12 + 1)), iv .i64 s13] (tidy h [s0, iv .i64 s1, .s (.fn Fn.impl_look_1 []), iv .i64 (IntKind.i64.wrap (s12 + 1)), iv .i64 s13] h))
  (some (.done [s0, iv .i64 s1, .s (.fn Fn.impl_look_1 []), iv .i64 s12, iv .i64 s13] (tidy h [s0, iv .i64 s1, .s (.fn Fn.impl_look_1 []), iv .i64 s12, iv .i64 s13] h))))
  else none
  else none)
  (hchk h h (
  some (.done [s0, iv .i64 s1, .s (.fn Fn.impl_look_1 []), iv .i64 s12, iv .i64 s13] (tidy h [s0, iv .i64 s1, .s (.fn Fn.impl_look_1 []), iv .i64 s12, iv .i64 s13] h)))) := by
  unfold Lp.slices_partitionCmpFunc_impl_seen; rw [loop_eq]; kernel_rfl

theorem eq_slices_partitionCmpFunc_impl_seen_l8 (s0 : V) (s1 : Int) (s12 : Int) (s13 : Int) (h : H) : Lp.slices_partitionCmpFunc_impl_seen 8 [s0, iv .i64 s1, .s (.fn Fn.impl_look_1 []), iv .i64 s12, iv .i64 s13] h =
  vcase (bv (decide (s12 ≤ s13)))
  (idxK 9 s0 (iv .i64 s13) fun v1002 =>
  ldK (.agg [.i .i64, .i .i64, .i .i64, .s, .i .i64, .i .i64, .b, .i .i64, .i .i64]) ⟨9, 80, [.int .i64 0, .int .i64 0, .int .i64 0, .str ⟨#[]⟩, .int .i64 0, .int .i64 0, .bool false, .int .i64 0, .int .i64 0], true, .st [(0, 29), (4, 3), (5, 3), (6, 4), (7, 3), (8, 3)], true⟩ h v1002 fun v1003 =>
  gVA v1003 fun c1004 =>
  (c1004[0]?).bind fun x1005 =>
  gI .i64 x1005 fun i1006 =>
  (c1004[1]?).bind fun x1007 =>
  gI .i64 x1007 fun i1008 =>
  (c1004[2]?).bind fun x1009 =>
  gI .i64 x1009 fun i1010 =>
  (c1004[3]?).bind fun x1011 =>
  gS x1011 fun y1012 =>
  (c1004[4]?).bind fun x1013 =>
  gI .i64 x1013 fun i1014 =>
  (c1004[5]?).bind fun x1015 =>
  gI .i64 x1015 fun i1016 =>
  (c1004[6]?).bind fun x1017 =>
  gB x1017 fun q1018 =>
  (c1004[7]?).bind fun x1019 =>
  gI .i64 x1019 fun i1020 =>
  (c1004[8]?).bind fun x1021 =>
  gI .i64 x1021 fun i1022 =>
  if c1004.length = 9 then
  idxK 9 s0 (iv .i64 s1) fun v1023 =>
  ldK (.agg [.i .i64, .i .i64, .i .i64, .s, .i .i64, .i .i64, .b, .i .i64, .i .i64]) ⟨9, 80, [.int .i64 0, .int .i64 0, .int .i64 0, .str ⟨#[]⟩, .int .i64 0, .int .i64 0, .bool false, .int .i64 0, .int .i64 0], true, .st [(0, 29), (4, 3), (5, 3), (6, 4), (7, 3), (8, 3)], true⟩ h v1023 fun v1024 =>
  gVA v1024 fun c1025 =>
  (c1025[0]?).bind fun x1026 =>
  gI .i64 x1026 fun i1027 =>
  (c1025[1]?).bind fun x1028 =>
  gI .i64 x1028 fun i1029 =>
  (c1025[2]?).bind fun x1030 =>
  gI .i64 x1030 fun i1031 =>
  (c1025[3]?).bind fun x1032 =>
  gS x1032 fun y1033 =>
  (c1025[4]?).bind fun x1034 =>
  gI .i64 x1034 fun i1035 =>
  (c1025[5]?).bind fun x1036 =>
  gI .i64 x1036 fun i1037 =>
  (c1025[6]?).bind fun x1038 =>
  gB x1038 fun q1039 =>
  (c1025[7]?).bind fun x1040 =>
  gI .i64 x1040 fun i1041 =>
  (c1025[8]?).bind fun x1042 =>
  gI .i64 x1042 fun i1043 =>
  if c1025.length = 9 then
  pcallS (call Ev) Fn.impl_look_1 [.agg [.int .i64 i1006, .int .i64 i1008, .int .i64 i1010, .str y1012, .int .i64 i1014, .int .i64 i1016, .bool q1018, .int .i64 i1020, .int .i64 i1022], .agg [.int .i64 i1027, .int .i64 i1029, .int .i64 i1031, .str y1033, .int .i64 i1035, .int .i64 i1037, .bool q1039, .int .i64 i1041, .int .i64 i1043]] fun v1044 =>
  gV1 v1044 fun x1045 =>
  gI .i64 x1045 fun i1046 =>
  hchk h h (
  vcase (bv (!(decide (i1046 < 0))))
  (Lp.slices_partitionCmpFunc_impl_seen 8 [s0, iv .i64 s1, .s (.fn Fn.impl_look_1 []), iv .i64 s12, iv .i64 (IntKind.i64.wrap (s13 - 1))] (tidy h [s0, iv .i64 s1, .s (.fn Fn.impl_look_1 []), iv .i64 s12, iv .i64 (IntKind.i64.wrap (s13 - 1))] h))
  (some (.done [s0, iv .i64 s1, .s (.fn Fn.impl_look_1 []), iv .i64 s12, iv .i64 s13] (tidy h [s0, iv .i64 s1, .s (.fn Fn.impl_look_1 []), iv .i64 s12, iv .i64 s13] h))))
  else none
  else none)
  (hchk h h (
  some (.done [s0, iv .i64 s1, .s (.fn Fn.impl_look_1 []), iv .i64 s12, iv .i64 s13] (tidy h [s0, iv .i64 s1, .s (.fn Fn.impl_look_1 []), iv .i64 s12, iv .i64 s13] h)))) := by
  unfold Lp.slices_partitionCmpFunc_impl_seen; rw [loop_eq]; kernel_rfl

end Vm
