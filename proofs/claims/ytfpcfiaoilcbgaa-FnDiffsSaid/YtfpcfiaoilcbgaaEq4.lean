/-
  What each function, and each round of each loop, comes to in the small machine. Written by a program (gen3.py).
-/
import Derived.Test.YtfpcfiaoilcbgaaEnv
set_option linter.unusedVariables false
set_option maxRecDepth 100000
namespace Vm
open Go

theorem eq_impl_changed (a0 : List (List S)) (a1_0 : Bool) (a1_1 : Int) (a1_2 : Int) (a1_3 : Int) (a1_4 : ByteArray) (a1_5 : Bool) (a1_6 : Int) (a1_7 : Int) (a1_8 : Int) (a1_9 : ByteArray) (n : Nat) : call Ev Fn.impl_changed [lv a0, .agg [.bool a1_0, .int .i64 a1_1, .int .i64 a1_2, .int .i64 a1_3, .str a1_4, .bool a1_5, .int .i64 a1_6, .int .i64 a1_7, .int .i64 a1_8, .str a1_9]] (D n) =
  (loadN 10 ((D n).new 0 [.bool a1_0, .int .i64 a1_1, .int .i64 a1_2, .int .i64 a1_3, .str a1_4, .bool a1_5, .int .i64 a1_6, .int .i64 a1_7, .int .i64 a1_8, .str a1_9]) (pv ((D n).n) 0)).bind fun c101 =>
  (c101[0]?).bind fun x102 =>
  gB x102 fun q103 =>
  (c101[1]?).bind fun x104 =>
  gI .i64 x104 fun i105 =>
  (c101[2]?).bind fun x106 =>
  gI .i64 x106 fun i107 =>
  (c101[3]?).bind fun x108 =>
  gI .i64 x108 fun i109 =>
  (c101[4]?).bind fun x110 =>
  gS x110 fun y111 =>
  (c101[5]?).bind fun x112 =>
  gB x112 fun q113 =>
  (c101[6]?).bind fun x114 =>
  gI .i64 x114 fun i115 =>
  (c101[7]?).bind fun x116 =>
  gI .i64 x116 fun i117 =>
  (c101[8]?).bind fun x118 =>
  gI .i64 x118 fun i119 =>
  (c101[9]?).bind fun x120 =>
  gS x120 fun y121 =>
  if c101.length = 10 then
  pcallS (call Ev) Fn.impl_Change_key [.agg [.bool q103, .int .i64 i105, .int .i64 i107, .int .i64 i109, .str y111, .bool q113, .int .i64 i115, .int .i64 i117, .int .i64 i119, .str y121]] fun v122 =>
  gVA v122 fun c123 =>
  (c123[0]?).bind fun x124 =>
  gI .i64 x124 fun i125 =>
  (c123[1]?).bind fun x126 =>
  gI .i64 x126 fun i127 =>
  (c123[2]?).bind fun x128 =>
  gI .i64 x128 fun i129 =>
  (c123[3]?).bind fun x130 =>
  gS x130 fun y131 =>
  if c123.length = 4 then
  pcallS (call Ev) Fn.slices_BinarySearchFunc_impl_Row_impl_Row_impl_Row [lv a0, .agg [.int .i64 i125, .int .i64 i127, .int .i64 i129, .str y131], .s (.fn Fn.impl_order [])] fun v132 =>
  gVT v132 fun u133 =>
  (u133[0]?).bind fun t134 =>
  gA1 t134 fun x135 =>
  gI .i64 x135 fun i136 =>
  (u133[1]?).bind fun t137 =>
  gA1 t137 fun x138 =>
  gB x138 fun q139 =>
  if u133.length = 2 then
  slF 4 a0 none (some (iv .i64 i136)) fun z140 =>
  (appS 4 (((D n).new 0 [.bool a1_0, .int .i64 a1_1, .int .i64 a1_2, .int .i64 a1_3, .str a1_4, .bool a1_5, .int .i64 a1_6, .int .i64 a1_7, .int .i64 a1_8, .str a1_9]).new 4 []) (sv (((D n).new 0 [.bool a1_0, .int .i64 a1_1, .int .i64 a1_2, .int .i64 a1_3, .str a1_4, .bool a1_5, .int .i64 a1_6, .int .i64 a1_7, .int .i64 a1_8, .str a1_9]).n) 0 0) (lv z140)).bind fun p141 =>
  (load1 p141.2 (pv ((D n).n) 5)).bind fun x142 =>
  gB x142 fun q143 =>
  vcase (bv q143)
  ((loadN 4 p141.2 (pv ((D n).n) 6)).bind fun c145 =>
  (c145[0]?).bind fun x146 =>
  gI .i64 x146 fun i147 =>
  (c145[1]?).bind fun x148 =>
  gI .i64 x148 fun i149 =>
  (c145[2]?).bind fun x150 =>
  gI .i64 x150 fun i151 =>
  (c145[3]?).bind fun x152 =>
  gS x152 fun y153 =>
  if c145.length = 4 then
  (appS 4 (p141.2.new 4 [.int .i64 i147, .int .i64 i149, .int .i64 i151, .str y153]) p141.1 (sv p141.2.n 0 1)).bind fun p154 =>
  vcase (bv q139)
  (slF 4 a0 (some (iv .i64 (IntKind.i64.wrap (i136 + 1)))) none fun z156 =>
  (appS 4 p154.2 p154.1 (lv z156)).bind fun p157 =>
  some (p157.1, p157.2))
  (slF 4 a0 (some (iv .i64 i136)) none fun z158 =>
  (appS 4 p154.2 p154.1 (lv z158)).bind fun p159 =>
  some (p159.1, p159.2))
  else none)
  (vcase (bv q139)
  (slF 4 a0 (some (iv .i64 (IntKind.i64.wrap (i136 + 1)))) none fun z161 =>
  (appS 4 p141.2 p141.1 (lv z161)).bind fun p162 =>
  some (p162.1, p162.2))
  (slF 4 a0 (some (iv .i64 i136)) none fun z163 =>
  (appS 4 p141.2 p141.1 (lv z163)).bind fun p164 =>
  some (p164.1, p164.2)))
  else none
  else none
  else none := by
  rw [call_eq]; kernel_rfl

theorem eq_impl_ApplyChanges (a0 : V) (a1 : V) (h : H) : call Ev Fn.impl_ApplyChanges [a0, a1] h =
  (frzVs (h.new 0 [.int .i64 0, .sl none 0]) [a0]).bind fun l101 =>
  pcallS (call Ev) Fn.impl_RowsFault (normVs [] l101) fun v102 =>
  gV1 v102 fun x103 =>
  gI .i64 x103 fun i104 =>
  vcase (bv (i104 != 0))
  (stK 2 (h.new 0 [.int .i64 0, .sl none 0]) (pv h.n 0) (.agg [.int .i64 i104, .sl none 0]) fun h106 =>
  (loadN 2 h106 (pv h.n 0)).bind fun c107 =>
  some (.agg c107, h106))
  ((call Ev Fn.slices_Clone_impl_Row_impl_Row [a0] (h.new 0 [.int .i64 0, .sl none 0])).bind fun p108 =>
  (lenV (.sl 47) a1).bind fun v109 =>
  gV1 v109 fun x110 =>
  gI .i64 x110 fun i111 =>
  (Lp.impl_ApplyChanges 0 [pv h.n 0, p108.1, a1, iv .i64 i111, iv .i64 0] (tidy (h.new 0 [.int .i64 0, .sl none 0]) [p108.1] p108.2)).bind fun o112 => lcase o112 (fun l113 h114 =>
  (l113[0]?).bind fun w117 =>
  (l113[1]?).bind fun w118 =>
  (lenV (.sl 45) w118).bind fun v119 =>
  gV1 v119 fun x120 =>
  gI .i64 x120 fun i121 =>
  vcase (bv (decide (i121 > 60)))
  (stK 2 h114 w117 (.agg [.int .i64 2, .sl none 0]) fun h123 =>
  ldT ⟨2, 32, [.int .i64 0, .sl none 0], true, .st [(0, 2), (1, 27)], false⟩ h123 w117 fun v124 =>
  some (v124, h123))
  (cellsK w118 fun c125 =>
  if c125.length = 1 ∧ 1 + 1 ≤ ([.int .i64 0, .sl none 0] : List S).length then
  ((setAt ([.int .i64 0, .sl none 0] : List S) 1 c125)[0]?).bind fun x126 =>
  gI .i64 x126 fun i127 =>
  ((setAt ([.int .i64 0, .sl none 0] : List S) 1 c125)[1]?).bind fun x128 =>
  if (setAt ([.int .i64 0, .sl none 0] : List S) 1 c125).length = 2 then
  stK 2 h114 w117 (.agg [.int .i64 i127, x128]) fun h129 =>
  ldT ⟨2, 32, [.int .i64 0, .sl none 0], true, .st [(0, 2), (1, 27)], false⟩ h129 w117 fun v130 =>
  some (v130, h129)
  else none
  else none)) (fun v115 h116 =>
  some (v115, h116))) := by
  rw [call_eq]; kernel_rfl

theorem eq_impl_ApplyChanges_l0 (s4 : V) (s6 : V) (s18 : V) (s19 : Int) (s20 : Int) (h : H) : Lp.impl_ApplyChanges 0 [s4, s6, s18, iv .i64 s19, iv .i64 s20] h =
  vcase (bv (decide (s20 < s19)))
  (idxK 10 s18 (iv .i64 s20) fun v203 =>
  ldK (.agg [.b, .i .i64, .i .i64, .i .i64, .s, .b, .i .i64, .i .i64, .i .i64, .s]) ⟨10, 96, [.bool false, .int .i64 0, .int .i64 0, .int .i64 0, .str ⟨#[]⟩, .bool false, .int .i64 0, .int .i64 0, .int .i64 0, .str ⟨#[]⟩], true, .st [(0, 4), (1, 45), (5, 4), (6, 45)], true⟩ h v203 fun v204 =>
  gVA v204 fun c205 =>
  (c205[0]?).bind fun x206 =>
  gB x206 fun q207 =>
  (c205[1]?).bind fun x208 =>
  gI .i64 x208 fun i209 =>
  (c205[2]?).bind fun x210 =>
  gI .i64 x210 fun i211 =>
  (c205[3]?).bind fun x212 =>
  gI .i64 x212 fun i213 =>
  (c205[4]?).bind fun x214 =>
  gS x214 fun y215 =>
  (c205[5]?).bind fun x216 =>
  gB x216 fun q217 =>
  (c205[6]?).bind fun x218 =>
  gI .i64 x218 fun i219 =>
  (c205[7]?).bind fun x220 =>
  gI .i64 x220 fun i221 =>
  (c205[8]?).bind fun x222 =>
  gI .i64 x222 fun i223 =>
  (c205[9]?).bind fun x224 =>
  gS x224 fun y225 =>
  if c205.length = 10 then
  stK 10 (h.new 0 [.bool false, .int .i64 0, .int .i64 0, .int .i64 0, .str (⟨#[]⟩), .bool false, .int .i64 0, .int .i64 0, .int .i64 0, .str (⟨#[]⟩)]) (pv h.n 0) (.agg [.bool q207, .int .i64 i209, .int .i64 i211, .int .i64 i213, .str y215, .bool q217, .int .i64 i219, .int .i64 i221, .int .i64 i223, .str y225]) fun h226 =>
  (loadN 10 h226 (pv h.n 0)).bind fun c227 =>
  (c227[0]?).bind fun x228 =>
  gB x228 fun q229 =>
  (c227[1]?).bind fun x230 =>
  gI .i64 x230 fun i231 =>
  (c227[2]?).bind fun x232 =>
  gI .i64 x232 fun i233 =>
  (c227[3]?).bind fun x234 =>
  gI .i64 x234 fun i235 =>
  (c227[4]?).bind fun x236 =>
  gS x236 fun y237 =>
  (c227[5]?).bind fun x238 =>
  gB x238 fun q239 =>
  (c227[6]?).bind fun x240 =>
  gI .i64 x240 fun i241 =>
  (c227[7]?).bind fun x242 =>
  gI .i64 x242 fun i243 =>
  (c227[8]?).bind fun x244 =>
  gI .i64 x244 fun i245 =>
  (c227[9]?).bind fun x246 =>
  gS x246 fun y247 =>
  if c227.length = 10 then
  pcallS (call Ev) Fn.impl_changeFault [.agg [.bool q229, .int .i64 i231, .int .i64 i233, .int .i64 i235, .str y237, .bool q239, .int .i64 i241, .int .i64 i243, .int .i64 i245, .str y247]] fun v248 =>
  gV1 v248 fun x249 =>
  gI .i64 x249 fun i250 =>
  vcase (bv (i250 != 0))
  (stK 2 h226 s4 (.agg [.int .i64 i250, .sl none 0]) fun h252 =>
  ldT ⟨2, 32, [.int .i64 0, .sl none 0], true, .st [(0, 2), (1, 27)], false⟩ h252 s4 fun v253 =>
  some (.ret v253 h252))
  ((loadN 10 h226 (pv h.n 0)).bind fun c254 =>
  (c254[0]?).bind fun x255 =>
  gB x255 fun q256 =>
  (c254[1]?).bind fun x257 =>
  gI .i64 x257 fun i258 =>
  (c254[2]?).bind fun x259 =>
  gI .i64 x259 fun i260 =>
  (c254[3]?).bind fun x261 =>
  gI .i64 x261 fun i262 =>
  (c254[4]?).bind fun x263 =>
  gS x263 fun y264 =>
  (c254[5]?).bind fun x265 =>
  gB x265 fun q266 =>
  (c254[6]?).bind fun x267 =>
  gI .i64 x267 fun i268 =>
  (c254[7]?).bind fun x269 =>
  gI .i64 x269 fun i270 =>
  (c254[8]?).bind fun x271 =>
  gI .i64 x271 fun i272 =>
  (c254[9]?).bind fun x273 =>
  gS x273 fun y274 =>
  if c254.length = 10 then
  (frzVs h226 [.agg [.bool q256, .int .i64 i258, .int .i64 i260, .int .i64 i262, .str y264, .bool q266, .int .i64 i268, .int .i64 i270, .int .i64 i272, .str y274], s6]).bind fun l275 =>
  pcallS (call Ev) Fn.impl_Change_fitsTo (normVs [] l275) fun v276 =>
  gV1 v276 fun x277 =>
  gB x277 fun q278 =>
  vcase (bv (!q278))
  (stK 2 h226 s4 (.agg [.int .i64 8, .sl none 0]) fun h280 =>
  ldT ⟨2, 32, [.int .i64 0, .sl none 0], true, .st [(0, 2), (1, 27)], false⟩ h280 s4 fun v281 =>
  some (.ret v281 h280))
  ((loadN 10 h226 (pv h.n 0)).bind fun c282 =>
  (c282[0]?).bind fun x283 =>
  gB x283 fun q284 =>
  (c282[1]?).bind fun x285 =>
  gI .i64 x285 fun i286 =>
  (c282[2]?).bind fun x287 =>
  gI .i64 x287 fun i288 =>
  (c282[3]?).bind fun x289 =>
  gI .i64 x289 fun i290 =>
  (c282[4]?).bind fun x291 =>
  gS x291 fun y292 =>
  (c282[5]?).bind fun x293 =>
  gB x293 fun q294 =>
  (c282[6]?).bind fun x295 =>
  gI .i64 x295 fun i296 =>
  (c282[7]?).bind fun x297 =>
  gI .i64 x297 fun i298 =>
  (c282[8]?).bind fun x299 =>
  gI .i64 x299 fun i300 =>
  (c282[9]?).bind fun x301 =>
  gS x301 fun y302 =>
  if c282.length = 10 then
  (frzVs h226 [s6, .agg [.bool q284, .int .i64 i286, .int .i64 i288, .int .i64 i290, .str y292, .bool q294, .int .i64 i296, .int .i64 i298, .int .i64 i300, .str y302]]).bind fun l303 =>
  pcallF (call Ev) Fn.impl_changed ([s6, .agg [.bool q284, .int .i64 i286, .int .i64 i288, .int .i64 i290, .str y292, .bool q294, .int .i64 i296, .int .i64 i298, .int .i64 i300, .str y302]].all offV) (normVs [] l303) h226 fun v304 h305 =>
  Lp.impl_ApplyChanges 0 [s4, v304, s18, iv .i64 s19, iv .i64 (IntKind.i64.wrap (s20 + 1))] (tidy h [s4, v304, s18, iv .i64 s19, iv .i64 (IntKind.i64.wrap (s20 + 1))] h305)
  else none)
  else none)
  else none
  else none)
  (some (.done [s4, s6] (tidy h [s4, s6] h))) := by
  unfold Lp.impl_ApplyChanges; rw [loop_eq]; kernel_rfl

noncomputable def Jn.laws_FnExactApplyChanges_0 (q233 : Bool) (h130 : H) (p160 : V × H) (p163 : V × H) (h124 : H) (p125 : V × H) (a0 : List (List S)) (a1 : List (List S)) : Option (V) :=
  vcase (bv q233)
  (some (bv false))
  ((loadN 2 (tidy (tidy h130 [p160.1] p160.2) [p163.1] p163.2) (pv ((tidy h124 [p125.1] p125.2).n) 0)).bind fun c235 =>
  (c235[0]?).bind fun x236 =>
  gI .i64 x236 fun i237 =>
  (c235[1]?).bind fun x238 =>
  if c235.length = 2 then
  (call Ev Fn.laws_markRowsResult [.agg [.int .i64 i237, x238], iv .i64 1] (tidy (tidy h130 [p160.1] p160.2) [p163.1] p163.2)).bind fun p239 =>
  gV1 p239.1 fun x240 =>
  gI .i64 x240 fun i241 =>
  (loadN 2 (tidy (tidy (tidy h130 [p160.1] p160.2) [p163.1] p163.2) [p239.1] p239.2) (pv ((tidy h124 [p125.1] p125.2).n) 0)).bind fun c242 =>
  (c242[0]?).bind fun x243 =>
  gI .i64 x243 fun i244 =>
  (c242[1]?).bind fun x245 =>
  if c242.length = 2 then
  (frzVs (tidy (tidy (tidy h130 [p160.1] p160.2) [p163.1] p163.2) [p239.1] p239.2) [.agg [.int .i64 i244, x245], iv .i64 1]).bind fun l246 =>
  pcallS (call Ev) Fn.laws_heldRowsResult (normVs [] l246) fun v247 =>
  gV1 v247 fun x248 =>
  gI .i64 x248 fun i249 =>
  vcase (bv (decide (i249 < 0)))
  (some (bv false))
  (vcase (bv (i249 != i241))
  (some (bv false))
  (pcallF (call Ev) Fn.laws_toRowS true [lv a0] (tidy (tidy (tidy h130 [p160.1] p160.2) [p163.1] p163.2) [p239.1] p239.2) fun v252 h253 =>
  pcallF (call Ev) Fn.laws_toChangeS true [lv a1] h253 fun v254 h255 =>
  (call Ev Fn.impl_ApplyChanges [v252, v254] h255).bind fun p256 =>
  gVA p256.1 fun c257 =>
  (c257[0]?).bind fun x258 =>
  gI .i64 x258 fun i259 =>
  (c257[1]?).bind fun x260 =>
  if c257.length = 2 then
  stK 2 ((tidy h255 [p256.1] p256.2).new 0 [.int .i64 0, .sl none 0]) (pv ((tidy h255 [p256.1] p256.2).n) 0) (.agg [.int .i64 i259, x260]) fun h261 =>
  (loadN 2 h261 (pv ((tidy h255 [p256.1] p256.2).n) 0)).bind fun c262 =>
  (c262[0]?).bind fun x263 =>
  gI .i64 x263 fun i264 =>
  (c262[1]?).bind fun x265 =>
  if c262.length = 2 then
  (loadN 2 h261 (pv 0 0)).bind fun c266 =>
  (c266[0]?).bind fun x267 =>
  gI .i64 x267 fun i268 =>
  (c266[1]?).bind fun x269 =>
  if c266.length = 2 then
  (frzVs h261 [.agg [.int .i64 i264, x265], .agg [.int .i64 i268, x269]]).bind fun l270 =>
  pcallS (call Ev) Fn.laws_eqRowsResult (normVs [] l270) fun v271 =>
  gV1 v271 fun x272 =>
  gB x272 fun q273 =>
  vcase (bv (!q273))
  (some (bv false))
  ((loadN 2 h261 (pv ((tidy h124 [p125.1] p125.2).n) 0)).bind fun c275 =>
  (c275[0]?).bind fun x276 =>
  gI .i64 x276 fun i277 =>
  (c275[1]?).bind fun x278 =>
  if c275.length = 2 then
  (frzVs h261 [.agg [.int .i64 i277, x278], iv .i64 1]).bind fun l279 =>
  pcallS (call Ev) Fn.laws_heldRowsResult (normVs [] l279) fun v280 =>
  gV1 v280 fun x281 =>
  gI .i64 x281 fun i282 =>
  vcase (bv (decide (i282 < 0)))
  (some (bv false))
  (vcase (bv (i282 != i241))
  (some (bv false))
  (some (bv true)))
  else none)
  else none
  else none
  else none))
  else none
  else none)

theorem pu_laws_FnExactApplyChanges (a0 : List (List S)) (a1 : List (List S)) : pureV (call Ev) Fn.laws_FnExactApplyChanges [lv a0, lv a1] =
  pcallS (call Ev) Fn.laws_szRowS [lv a0, iv .i64 1048576] fun v101 =>
  gV1 v101 fun x102 =>
  gI .i64 x102 fun i103 =>
  vcase (bv (decide (i103 < 0)))
  (some (bv true))
  (pcallS (call Ev) Fn.laws_szChangeS [lv a1, iv .i64 i103] fun v105 =>
  gV1 v105 fun x106 =>
  gI .i64 x106 fun i107 =>
  vcase (bv (decide (i107 < 0)))
  (some (bv true))
  ((pureV (call Ev) Fn.laws_toRowS [lv a0]).bind fun v109 =>
  gV1 v109 fun x110 =>
  gF x110 fun z111 =>
  (pureV (call Ev) Fn.laws_toChangeS [lv a1]).bind fun v112 =>
  gV1 v112 fun x113 =>
  gF x113 fun z114 =>
  (pureV (call Ev) Fn.spec_ApplyChanges [lv z111, lv z114]).bind fun v115 =>
  gVA v115 fun c116 =>
  (c116[0]?).bind fun x117 =>
  gI .i64 x117 fun i118 =>
  (c116[1]?).bind fun x119 =>
  gF x119 fun z120 =>
  if c116.length = 2 then
  pcallF (call Ev) Fn.laws_toRowS true [lv a0] (((D 0).new 0 [.int .i64 0, .sl none 0]).put 0 (.rw 0 [.int .i64 i118, .fs z120])) fun v121 h122 =>
  pcallF (call Ev) Fn.laws_toChangeS true [lv a1] h122 fun v123 h124 =>
  (call Ev Fn.impl_ApplyChanges [v121, v123] h124).bind fun p125 =>
  gVA p125.1 fun c126 =>
  (c126[0]?).bind fun x127 =>
  gI .i64 x127 fun i128 =>
  (c126[1]?).bind fun x129 =>
  if c126.length = 2 then
  stK 2 ((tidy h124 [p125.1] p125.2).new 0 [.int .i64 0, .sl none 0]) (pv ((tidy h124 [p125.1] p125.2).n) 0) (.agg [.int .i64 i128, x129]) fun h130 =>
  (loadN 2 h130 (pv ((tidy h124 [p125.1] p125.2).n) 0)).bind fun c131 =>
  (c131[0]?).bind fun x132 =>
  gI .i64 x132 fun i133 =>
  (c131[1]?).bind fun x134 =>
  if c131.length = 2 then
  (loadN 2 h130 (pv 0 0)).bind fun c135 =>
  (c135[0]?).bind fun x136 =>
  gI .i64 x136 fun i137 =>
  (c135[1]?).bind fun x138 =>
  if c135.length = 2 then
  (frzVs h130 [.agg [.int .i64 i133, x134], .agg [.int .i64 i137, x138]]).bind fun l139 =>
  pcallS (call Ev) Fn.laws_eqRowsResult (normVs [] l139) fun v140 =>
  gV1 v140 fun x141 =>
  gB x141 fun q142 =>
  vcase (bv (!q142))
  (some (bv false))
  ((pureV (call Ev) Fn.laws_toRowS [lv a0]).bind fun v144 =>
  gV1 v144 fun x145 =>
  gF x145 fun z146 =>
  (frzVs h130 [v121, lv z146]).bind fun l147 =>
  pcallS (call Ev) Fn.laws_eqRowS (normVs [] l147) fun v148 =>
  gV1 v148 fun x149 =>
  gB x149 fun q150 =>
  vcase (bv (!q150))
  (some (bv false))
  ((pureV (call Ev) Fn.laws_toChangeS [lv a1]).bind fun v152 =>
  gV1 v152 fun x153 =>
  gF x153 fun z154 =>
  (frzVs h130 [v123, lv z154]).bind fun l155 =>
  pcallS (call Ev) Fn.laws_eqChangeS (normVs [] l155) fun v156 =>
  gV1 v156 fun x157 =>
  gB x157 fun q158 =>
  vcase (bv (!q158))
  (some (bv false))
  ((call Ev Fn.laws_markRowS [v121, iv .i64 1] h130).bind fun p160 =>
  gV1 p160.1 fun x161 =>
  gI .i64 x161 fun i162 =>
  (call Ev Fn.laws_markChangeS [v123, iv .i64 i162] (tidy h130 [p160.1] p160.2)).bind fun p163 =>
  gV1 p163.1 fun x164 =>
  gI .i64 x164 fun i165 =>
  vcase (bv (decide (i165 < 0)))
  (Jn.laws_FnExactApplyChanges_0 true h130 p160 p163 h124 p125 a0 a1)
  ((loadN 2 (tidy (tidy h130 [p160.1] p160.2) [p163.1] p163.2) (pv ((tidy h124 [p125.1] p125.2).n) 0)).bind fun c168 =>
  (c168[0]?).bind fun x169 =>
  gI .i64 x169 fun i170 =>
  (c168[1]?).bind fun x171 =>
  if c168.length = 2 then
  (loadN 2 (tidy (tidy h130 [p160.1] p160.2) [p163.1] p163.2) (pv 0 0)).bind fun c172 =>
  (c172[0]?).bind fun x173 =>
  gI .i64 x173 fun i174 =>
  (c172[1]?).bind fun x175 =>
  if c172.length = 2 then
  (frzVs (tidy (tidy h130 [p160.1] p160.2) [p163.1] p163.2) [.agg [.int .i64 i170, x171], .agg [.int .i64 i174, x175]]).bind fun l176 =>
  pcallS (call Ev) Fn.laws_eqRowsResult (normVs [] l176) fun v177 =>
  gV1 v177 fun x178 =>
  gB x178 fun q179 =>
  Jn.laws_FnExactApplyChanges_0 (!q179) h130 p160 p163 h124 p125 a0 a1
  else none
  else none))))
  else none
  else none
  else none
  else none)) := by
  rw [pure_eq]; kernel_rfl

theorem pu_spec_l9Ahead (a0_0 : Bool) (a0_1 : Int) (a0_2 : Int) (a0_3 : Int) (a0_4 : ByteArray) (a0_5 : Bool) (a0_6 : Int) (a0_7 : Int) (a0_8 : Int) (a0_9 : ByteArray) (a1_0 : Bool) (a1_1 : Int) (a1_2 : Int) (a1_3 : Int) (a1_4 : ByteArray) (a1_5 : Bool) (a1_6 : Int) (a1_7 : Int) (a1_8 : Int) (a1_9 : ByteArray) : pureV (call Ev) Fn.spec_l9Ahead [fv [.bool a0_0, .int .i64 a0_1, .int .i64 a0_2, .int .i64 a0_3, .str a0_4, .bool a0_5, .int .i64 a0_6, .int .i64 a0_7, .int .i64 a0_8, .str a0_9] 0, fv [.bool a1_0, .int .i64 a1_1, .int .i64 a1_2, .int .i64 a1_3, .str a1_4, .bool a1_5, .int .i64 a1_6, .int .i64 a1_7, .int .i64 a1_8, .str a1_9] 0] =
  pcallS (call Ev) Fn.spec_l6Key [fv [.bool a0_0, .int .i64 a0_1, .int .i64 a0_2, .int .i64 a0_3, .str a0_4, .bool a0_5, .int .i64 a0_6, .int .i64 a0_7, .int .i64 a0_8, .str a0_9] 0] fun v101 =>
  gVT v101 fun u102 =>
  (u102[0]?).bind fun t103 =>
  gA1 t103 fun x104 =>
  gI .i64 x104 fun i105 =>
  (u102[1]?).bind fun t106 =>
  gA1 t106 fun x107 =>
  gI .i64 x107 fun i108 =>
  if u102.length = 2 then
  pcallS (call Ev) Fn.spec_l6Key [fv [.bool a1_0, .int .i64 a1_1, .int .i64 a1_2, .int .i64 a1_3, .str a1_4, .bool a1_5, .int .i64 a1_6, .int .i64 a1_7, .int .i64 a1_8, .str a1_9] 0] fun v109 =>
  gVT v109 fun u110 =>
  (u110[0]?).bind fun t111 =>
  gA1 t111 fun x112 =>
  gI .i64 x112 fun i113 =>
  (u110[1]?).bind fun t114 =>
  gA1 t114 fun x115 =>
  gI .i64 x115 fun i116 =>
  if u110.length = 2 then
  vcase (bv (decide (i105 < i113)))
  (some (bv true))
  (vcase (bv (i105 == i113))
  (some (bv (decide (i108 < i116))))
  (some (bv false)))
  else none
  else none := by
  rw [pure_eq]; kernel_rfl

theorem pu_spec_l9List (a0 : List (List S)) : pureV (call Ev) Fn.spec_l9List [lv a0] =
  vcase (bv (decide ((a0.length : Int) > 60)))
  (some (iv .i64 2))
  ((Lp.spec_l9List 0 [lv a0, iv .i64 0] (D 0)).bind fun o102 => lcase o102 (fun l103 h104 =>
  some (iv .i64 0)) (fun v105 h106 =>
  frzV h106 v105)) := by
  rw [pure_eq]; kernel_rfl

theorem eq_spec_l9List_l0 (s0 : List (List S)) (s3 : Int) (h : H) : Lp.spec_l9List 0 [lv s0, iv .i64 s3] h =
  vcase (bv (decide (s3 < (s0.length : Int))))
  (idxF 10 s0 s3 fun r203 =>
  pcallS (call Ev) Fn.spec_l9Change [normV 10 (fv r203 0)] fun v204 =>
  gV1 v204 fun x205 =>
  gI .i64 x205 fun i206 =>
  vcase (bv (i206 != 0))
  (some (.ret (iv .i64 i206) h))
  (vcase (bv (decide (s3 > 0)))
  (idxF 10 s0 (IntKind.i64.wrap (s3 - 1)) fun r209 =>
  idxF 10 s0 s3 fun r210 =>
  pcallS (call Ev) Fn.spec_l9Ahead [normV 10 (fv r209 0), normV 10 (fv r210 0)] fun v211 =>
  gV1 v211 fun x212 =>
  gB x212 fun q213 =>
  hchk h h (
  vcase (bv (!q213))
  (some (.ret (iv .i64 1) h))
  (Lp.spec_l9List 0 [lv s0, iv .i64 (IntKind.i64.wrap (s3 + 1))] (tidy h [lv s0, iv .i64 (IntKind.i64.wrap (s3 + 1))] h))))
  (hchk h h (
  Lp.spec_l9List 0 [lv s0, iv .i64 (IntKind.i64.wrap (s3 + 1))] (tidy h [lv s0, iv .i64 (IntKind.i64.wrap (s3 + 1))] h)))))
  (some (.done [] (tidy h [] h))) := by
  unfold Lp.spec_l9List; rw [loop_eq]; kernel_rfl

theorem pu_spec_l9Fold (a0 : List (List S)) (a1_0 : Bool) (a1_1 : Int) (a1_2 : Int) (a1_3 : Int) (a1_4 : ByteArray) (a1_5 : Bool) (a1_6 : Int) (a1_7 : Int) (a1_8 : Int) (a1_9 : ByteArray) : pureV (call Ev) Fn.spec_l9Fold [lv a0, .agg [.bool a1_0, .int .i64 a1_1, .int .i64 a1_2, .int .i64 a1_3, .str a1_4, .bool a1_5, .int .i64 a1_6, .int .i64 a1_7, .int .i64 a1_8, .str a1_9]] =
  (Lp.spec_l9Fold 0 [lv a0, pv 0 0, sv 1 0 0, bv false, iv .i64 0] (((D 0).new 0 [.bool a1_0, .int .i64 a1_1, .int .i64 a1_2, .int .i64 a1_3, .str a1_4, .bool a1_5, .int .i64 a1_6, .int .i64 a1_7, .int .i64 a1_8, .str a1_9]).new 10 [])).bind fun o101 => lcase o101 (fun l102 h103 =>
  (l102[0]?).bind fun w106 =>
  (l102[1]?).bind fun w107 =>
  (l102[2]?).bind fun w108 =>
  gV1 w108 fun x109 =>
  gB x109 fun q110 =>
  vcase (bv (!q110))
  (ldK (.agg [.b, .i .i64, .i .i64, .i .i64, .s, .b, .i .i64, .i .i64, .i .i64, .s]) ⟨10, 96, [.bool false, .int .i64 0, .int .i64 0, .int .i64 0, .str ⟨#[]⟩, .bool false, .int .i64 0, .int .i64 0, .int .i64 0, .str ⟨#[]⟩], true, .st [(0, 4), (1, 45), (5, 4), (6, 45)], true⟩ h103 w106 fun v112 =>
  gVA v112 fun c113 =>
  (c113[0]?).bind fun x114 =>
  gB x114 fun q115 =>
  (c113[1]?).bind fun x116 =>
  gI .i64 x116 fun i117 =>
  (c113[2]?).bind fun x118 =>
  gI .i64 x118 fun i119 =>
  (c113[3]?).bind fun x120 =>
  gI .i64 x120 fun i121 =>
  (c113[4]?).bind fun x122 =>
  gS x122 fun y123 =>
  (c113[5]?).bind fun x124 =>
  gB x124 fun q125 =>
  (c113[6]?).bind fun x126 =>
  gI .i64 x126 fun i127 =>
  (c113[7]?).bind fun x128 =>
  gI .i64 x128 fun i129 =>
  (c113[8]?).bind fun x130 =>
  gI .i64 x130 fun i131 =>
  (c113[9]?).bind fun x132 =>
  gS x132 fun y133 =>
  if c113.length = 10 then
  (appS 10 (h103.new 10 [.bool q115, .int .i64 i117, .int .i64 i119, .int .i64 i121, .str y123, .bool q125, .int .i64 i127, .int .i64 i129, .int .i64 i131, .str y133]) w107 (sv h103.n 0 1)).bind fun p134 =>
  (V.toA p134.1).bind fun t135 =>
  frzV p134.2 (.tup [t135, .s (.bool true)])
  else none)
  ((V.toA w107).bind fun t136 =>
  frzV h103 (.tup [t136, .s (.bool true)]))) (fun v104 h105 =>
  frzV h105 v104) := by
  rw [pure_eq]; kernel_rfl

noncomputable def Jn.spec_l9Fold_l0_0 (q811 : Bool) (s0 : List (List S)) (s3 : V) (p690 : V × H) (s8 : Int) (h : H) (h779 : H) : Option (LOut) :=
  vcase (bv q811)
  (Lp.spec_l9Fold 0 [lv s0, s3, p690.1, bv true, iv .i64 (IntKind.i64.wrap (s8 + 1))] (tidy h [lv s0, s3, p690.1, bv true, iv .i64 (IntKind.i64.wrap (s8 + 1))] h779))
  ((loadN 10 h779 (pv h.n 0)).bind fun c813 =>
  (c813[0]?).bind fun x814 =>
  gB x814 fun q815 =>
  (c813[1]?).bind fun x816 =>
  gI .i64 x816 fun i817 =>
  (c813[2]?).bind fun x818 =>
  gI .i64 x818 fun i819 =>
  (c813[3]?).bind fun x820 =>
  gI .i64 x820 fun i821 =>
  (c813[4]?).bind fun x822 =>
  gS x822 fun y823 =>
  (c813[5]?).bind fun x824 =>
  gB x824 fun q825 =>
  (c813[6]?).bind fun x826 =>
  gI .i64 x826 fun i827 =>
  (c813[7]?).bind fun x828 =>
  gI .i64 x828 fun i829 =>
  (c813[8]?).bind fun x830 =>
  gI .i64 x830 fun i831 =>
  (c813[9]?).bind fun x832 =>
  gS x832 fun y833 =>
  if c813.length = 10 then
  (appS 10 (h779.new 10 [.bool q815, .int .i64 i817, .int .i64 i819, .int .i64 i821, .str y823, .bool q825, .int .i64 i827, .int .i64 i829, .int .i64 i831, .str y833]) p690.1 (sv h779.n 0 1)).bind fun p834 =>
  Lp.spec_l9Fold 0 [lv s0, s3, p834.1, bv true, iv .i64 (IntKind.i64.wrap (s8 + 1))] (tidy h [lv s0, s3, p834.1, bv true, iv .i64 (IntKind.i64.wrap (s8 + 1))] p834.2)
  else none)

noncomputable def Jn.spec_l9Fold_l0_1 (q761 : Bool) (p690 : V × H) (s3 : V) (h : H) (s0 : List (List S)) (s8 : Int) : Option (LOut) :=
  vcase (bv q761)
  (some (.ret (.tup [.s (.sl none 0), .s (.bool false)]) p690.2))
  ((padd 5 s3).bind fun v763 =>
  ldK (.one (.b)) ⟨1, 1, [.bool false], false, .bool, false⟩ p690.2 v763 fun v764 =>
  gV1 v764 fun x765 =>
  gB x765 fun q766 =>
  stK 1 p690.2 (pv h.n 5) (bv q766) fun h767 =>
  (padd 6 s3).bind fun v768 =>
  ldK (.agg [.i .i64, .i .i64, .i .i64, .s]) ⟨4, 40, [.int .i64 0, .int .i64 0, .int .i64 0, .str ⟨#[]⟩], true, .st [(0, 2), (1, 2), (2, 2), (3, 9)], true⟩ h767 v768 fun v769 =>
  gVA v769 fun c770 =>
  (c770[0]?).bind fun x771 =>
  gI .i64 x771 fun i772 =>
  (c770[1]?).bind fun x773 =>
  gI .i64 x773 fun i774 =>
  (c770[2]?).bind fun x775 =>
  gI .i64 x775 fun i776 =>
  (c770[3]?).bind fun x777 =>
  gS x777 fun y778 =>
  if c770.length = 4 then
  stK 4 h767 (pv h.n 6) (.agg [.int .i64 i772, .int .i64 i774, .int .i64 i776, .str y778]) fun h779 =>
  (load1 h779 (pv h.n 0)).bind fun x780 =>
  gB x780 fun q781 =>
  (load1 h779 (pv h.n 5)).bind fun x782 =>
  gB x782 fun q783 =>
  vcase (bv (q781 == q783))
  ((load1 h779 (pv h.n 0)).bind fun x785 =>
  gB x785 fun q786 =>
  vcase (bv (!q786))
  (Jn.spec_l9Fold_l0_0 true s0 s3 p690 s8 h h779)
  ((loadN 4 h779 (pv h.n 1)).bind fun c789 =>
  (c789[0]?).bind fun x790 =>
  gI .i64 x790 fun i791 =>
  (c789[1]?).bind fun x792 =>
  gI .i64 x792 fun i793 =>
  (c789[2]?).bind fun x794 =>
  gI .i64 x794 fun i795 =>
  (c789[3]?).bind fun x796 =>
  gS x796 fun y797 =>
  if c789.length = 4 then
  (loadN 4 h779 (pv h.n 6)).bind fun c798 =>
  (c798[0]?).bind fun x799 =>
  gI .i64 x799 fun i800 =>
  (c798[1]?).bind fun x801 =>
  gI .i64 x801 fun i802 =>
  (c798[2]?).bind fun x803 =>
  gI .i64 x803 fun i804 =>
  (c798[3]?).bind fun x805 =>
  gS x805 fun y806 =>
  if c798.length = 4 then
  Jn.spec_l9Fold_l0_0 (((i791 : Int) == i800) && (((i793 : Int) == i802) && (((i795 : Int) == i804) && (((y797 : ByteArray).toList == (y806 : ByteArray).toList) && true)))) s0 s3 p690 s8 h h779
  else none
  else none))
  (Jn.spec_l9Fold_l0_0 false s0 s3 p690 s8 h h779)
  else none)

noncomputable def Jn.spec_l9Fold_l0_2 (q702 : Bool) (p690 : V × H) (h : H) (s0 : List (List S)) (s3 : V) (s8 : Int) : Option (LOut) :=
  vcase (bv q702)
  ((loadN 10 p690.2 (pv h.n 0)).bind fun c704 =>
  (c704[0]?).bind fun x705 =>
  gB x705 fun q706 =>
  (c704[1]?).bind fun x707 =>
  gI .i64 x707 fun i708 =>
  (c704[2]?).bind fun x709 =>
  gI .i64 x709 fun i710 =>
  (c704[3]?).bind fun x711 =>
  gI .i64 x711 fun i712 =>
  (c704[4]?).bind fun x713 =>
  gS x713 fun y714 =>
  (c704[5]?).bind fun x715 =>
  gB x715 fun q716 =>
  (c704[6]?).bind fun x717 =>
  gI .i64 x717 fun i718 =>
  (c704[7]?).bind fun x719 =>
  gI .i64 x719 fun i720 =>
  (c704[8]?).bind fun x721 =>
  gI .i64 x721 fun i722 =>
  (c704[9]?).bind fun x723 =>
  gS x723 fun y724 =>
  if c704.length = 10 then
  (appS 10 (p690.2.new 10 [.bool q706, .int .i64 i708, .int .i64 i710, .int .i64 i712, .str y714, .bool q716, .int .i64 i718, .int .i64 i720, .int .i64 i722, .str y724]) p690.1 (sv p690.2.n 0 1)).bind fun p725 =>
  Lp.spec_l9Fold 0 [lv s0, s3, p725.1, bv true, iv .i64 (IntKind.i64.wrap (s8 + 1))] (tidy h [lv s0, s3, p725.1, bv true, iv .i64 (IntKind.i64.wrap (s8 + 1))] p725.2)
  else none)
  ((load1 p690.2 (pv h.n 5)).bind fun x726 =>
  gB x726 fun q727 =>
  (padd 0 s3).bind fun v728 =>
  ldK (.one (.b)) ⟨1, 1, [.bool false], false, .bool, false⟩ p690.2 v728 fun v729 =>
  gV1 v729 fun x730 =>
  gB x730 fun q731 =>
  vcase (bv (!(q727 == q731)))
  (Jn.spec_l9Fold_l0_1 true p690 s3 h s0 s8)
  ((load1 p690.2 (pv h.n 5)).bind fun x734 =>
  gB x734 fun q735 =>
  vcase (bv q735)
  ((loadN 4 p690.2 (pv h.n 6)).bind fun c737 =>
  (c737[0]?).bind fun x738 =>
  gI .i64 x738 fun i739 =>
  (c737[1]?).bind fun x740 =>
  gI .i64 x740 fun i741 =>
  (c737[2]?).bind fun x742 =>
  gI .i64 x742 fun i743 =>
  (c737[3]?).bind fun x744 =>
  gS x744 fun y745 =>
  if c737.length = 4 then
  (padd 1 s3).bind fun v746 =>
  ldK (.agg [.i .i64, .i .i64, .i .i64, .s]) ⟨4, 40, [.int .i64 0, .int .i64 0, .int .i64 0, .str ⟨#[]⟩], true, .st [(0, 2), (1, 2), (2, 2), (3, 9)], true⟩ p690.2 v746 fun v747 =>
  gVA v747 fun c748 =>
  (c748[0]?).bind fun x749 =>
  gI .i64 x749 fun i750 =>
  (c748[1]?).bind fun x751 =>
  gI .i64 x751 fun i752 =>
  (c748[2]?).bind fun x753 =>
  gI .i64 x753 fun i754 =>
  (c748[3]?).bind fun x755 =>
  gS x755 fun y756 =>
  if c748.length = 4 then
  Jn.spec_l9Fold_l0_1 (!(((i739 : Int) == i750) && (((i741 : Int) == i752) && (((i743 : Int) == i754) && (((y745 : ByteArray).toList == (y756 : ByteArray).toList) && true))))) p690 s3 h s0 s8
  else none
  else none)
  (Jn.spec_l9Fold_l0_1 false p690 s3 h s0 s8)))

noncomputable def Jn.spec_l9Fold_l0_3 (q955 : Bool) (s0 : List (List S)) (s3 : V) (s6 : V) (s8 : Int) (h : H) (h923 : H) : Option (LOut) :=
  vcase (bv q955)
  (Lp.spec_l9Fold 0 [lv s0, s3, s6, bv true, iv .i64 (IntKind.i64.wrap (s8 + 1))] (tidy h [lv s0, s3, s6, bv true, iv .i64 (IntKind.i64.wrap (s8 + 1))] h923))
  ((loadN 10 h923 (pv h.n 0)).bind fun c957 =>
  (c957[0]?).bind fun x958 =>
  gB x958 fun q959 =>
  (c957[1]?).bind fun x960 =>
  gI .i64 x960 fun i961 =>
  (c957[2]?).bind fun x962 =>
  gI .i64 x962 fun i963 =>
  (c957[3]?).bind fun x964 =>
  gI .i64 x964 fun i965 =>
  (c957[4]?).bind fun x966 =>
  gS x966 fun y967 =>
  (c957[5]?).bind fun x968 =>
  gB x968 fun q969 =>
  (c957[6]?).bind fun x970 =>
  gI .i64 x970 fun i971 =>
  (c957[7]?).bind fun x972 =>
  gI .i64 x972 fun i973 =>
  (c957[8]?).bind fun x974 =>
  gI .i64 x974 fun i975 =>
  (c957[9]?).bind fun x976 =>
  gS x976 fun y977 =>
  if c957.length = 10 then
  (appS 10 (h923.new 10 [.bool q959, .int .i64 i961, .int .i64 i963, .int .i64 i965, .str y967, .bool q969, .int .i64 i971, .int .i64 i973, .int .i64 i975, .str y977]) s6 (sv h923.n 0 1)).bind fun p978 =>
  Lp.spec_l9Fold 0 [lv s0, s3, p978.1, bv true, iv .i64 (IntKind.i64.wrap (s8 + 1))] (tidy h [lv s0, s3, p978.1, bv true, iv .i64 (IntKind.i64.wrap (s8 + 1))] p978.2)
  else none)

noncomputable def Jn.spec_l9Fold_l0_4 (q905 : Bool) (h225 : H) (s3 : V) (h : H) (s0 : List (List S)) (s6 : V) (s8 : Int) : Option (LOut) :=
  vcase (bv q905)
  (some (.ret (.tup [.s (.sl none 0), .s (.bool false)]) h225))
  ((padd 5 s3).bind fun v907 =>
  ldK (.one (.b)) ⟨1, 1, [.bool false], false, .bool, false⟩ h225 v907 fun v908 =>
  gV1 v908 fun x909 =>
  gB x909 fun q910 =>
  stK 1 h225 (pv h.n 5) (bv q910) fun h911 =>
  (padd 6 s3).bind fun v912 =>
  ldK (.agg [.i .i64, .i .i64, .i .i64, .s]) ⟨4, 40, [.int .i64 0, .int .i64 0, .int .i64 0, .str ⟨#[]⟩], true, .st [(0, 2), (1, 2), (2, 2), (3, 9)], true⟩ h911 v912 fun v913 =>
  gVA v913 fun c914 =>
  (c914[0]?).bind fun x915 =>
  gI .i64 x915 fun i916 =>
  (c914[1]?).bind fun x917 =>
  gI .i64 x917 fun i918 =>
  (c914[2]?).bind fun x919 =>
  gI .i64 x919 fun i920 =>
  (c914[3]?).bind fun x921 =>
  gS x921 fun y922 =>
  if c914.length = 4 then
  stK 4 h911 (pv h.n 6) (.agg [.int .i64 i916, .int .i64 i918, .int .i64 i920, .str y922]) fun h923 =>
  (load1 h923 (pv h.n 0)).bind fun x924 =>
  gB x924 fun q925 =>
  (load1 h923 (pv h.n 5)).bind fun x926 =>
  gB x926 fun q927 =>
  vcase (bv (q925 == q927))
  ((load1 h923 (pv h.n 0)).bind fun x929 =>
  gB x929 fun q930 =>
  vcase (bv (!q930))
  (Jn.spec_l9Fold_l0_3 true s0 s3 s6 s8 h h923)
  ((loadN 4 h923 (pv h.n 1)).bind fun c933 =>
  (c933[0]?).bind fun x934 =>
  gI .i64 x934 fun i935 =>
  (c933[1]?).bind fun x936 =>
  gI .i64 x936 fun i937 =>
  (c933[2]?).bind fun x938 =>
  gI .i64 x938 fun i939 =>
  (c933[3]?).bind fun x940 =>
  gS x940 fun y941 =>
  if c933.length = 4 then
  (loadN 4 h923 (pv h.n 6)).bind fun c942 =>
  (c942[0]?).bind fun x943 =>
  gI .i64 x943 fun i944 =>
  (c942[1]?).bind fun x945 =>
  gI .i64 x945 fun i946 =>
  (c942[2]?).bind fun x947 =>
  gI .i64 x947 fun i948 =>
  (c942[3]?).bind fun x949 =>
  gS x949 fun y950 =>
  if c942.length = 4 then
  Jn.spec_l9Fold_l0_3 (((i935 : Int) == i944) && (((i937 : Int) == i946) && (((i939 : Int) == i948) && (((y941 : ByteArray).toList == (y950 : ByteArray).toList) && true)))) s0 s3 s6 s8 h h923
  else none
  else none))
  (Jn.spec_l9Fold_l0_3 false s0 s3 s6 s8 h h923)
  else none)

noncomputable def Jn.spec_l9Fold_l0_5 (q846 : Bool) (h225 : H) (h : H) (s6 : V) (s0 : List (List S)) (s3 : V) (s7 : Bool) (s8 : Int) : Option (LOut) :=
  vcase (bv q846)
  ((loadN 10 h225 (pv h.n 0)).bind fun c848 =>
  (c848[0]?).bind fun x849 =>
  gB x849 fun q850 =>
  (c848[1]?).bind fun x851 =>
  gI .i64 x851 fun i852 =>
  (c848[2]?).bind fun x853 =>
  gI .i64 x853 fun i854 =>
  (c848[3]?).bind fun x855 =>
  gI .i64 x855 fun i856 =>
  (c848[4]?).bind fun x857 =>
  gS x857 fun y858 =>
  (c848[5]?).bind fun x859 =>
  gB x859 fun q860 =>
  (c848[6]?).bind fun x861 =>
  gI .i64 x861 fun i862 =>
  (c848[7]?).bind fun x863 =>
  gI .i64 x863 fun i864 =>
  (c848[8]?).bind fun x865 =>
  gI .i64 x865 fun i866 =>
  (c848[9]?).bind fun x867 =>
  gS x867 fun y868 =>
  if c848.length = 10 then
  (appS 10 (h225.new 10 [.bool q850, .int .i64 i852, .int .i64 i854, .int .i64 i856, .str y858, .bool q860, .int .i64 i862, .int .i64 i864, .int .i64 i866, .str y868]) s6 (sv h225.n 0 1)).bind fun p869 =>
  Lp.spec_l9Fold 0 [lv s0, s3, p869.1, bv s7, iv .i64 (IntKind.i64.wrap (s8 + 1))] (tidy h [lv s0, s3, p869.1, bv s7, iv .i64 (IntKind.i64.wrap (s8 + 1))] p869.2)
  else none)
  ((load1 h225 (pv h.n 5)).bind fun x870 =>
  gB x870 fun q871 =>
  (padd 0 s3).bind fun v872 =>
  ldK (.one (.b)) ⟨1, 1, [.bool false], false, .bool, false⟩ h225 v872 fun v873 =>
  gV1 v873 fun x874 =>
  gB x874 fun q875 =>
  vcase (bv (!(q871 == q875)))
  (Jn.spec_l9Fold_l0_4 true h225 s3 h s0 s6 s8)
  ((load1 h225 (pv h.n 5)).bind fun x878 =>
  gB x878 fun q879 =>
  vcase (bv q879)
  ((loadN 4 h225 (pv h.n 6)).bind fun c881 =>
  (c881[0]?).bind fun x882 =>
  gI .i64 x882 fun i883 =>
  (c881[1]?).bind fun x884 =>
  gI .i64 x884 fun i885 =>
  (c881[2]?).bind fun x886 =>
  gI .i64 x886 fun i887 =>
  (c881[3]?).bind fun x888 =>
  gS x888 fun y889 =>
  if c881.length = 4 then
  (padd 1 s3).bind fun v890 =>
  ldK (.agg [.i .i64, .i .i64, .i .i64, .s]) ⟨4, 40, [.int .i64 0, .int .i64 0, .int .i64 0, .str ⟨#[]⟩], true, .st [(0, 2), (1, 2), (2, 2), (3, 9)], true⟩ h225 v890 fun v891 =>
  gVA v891 fun c892 =>
  (c892[0]?).bind fun x893 =>
  gI .i64 x893 fun i894 =>
  (c892[1]?).bind fun x895 =>
  gI .i64 x895 fun i896 =>
  (c892[2]?).bind fun x897 =>
  gI .i64 x897 fun i898 =>
  (c892[3]?).bind fun x899 =>
  gS x899 fun y900 =>
  if c892.length = 4 then
  Jn.spec_l9Fold_l0_4 (!(((i883 : Int) == i894) && (((i885 : Int) == i896) && (((i887 : Int) == i898) && (((y889 : ByteArray).toList == (y900 : ByteArray).toList) && true))))) h225 s3 h s0 s6 s8
  else none
  else none)
  (Jn.spec_l9Fold_l0_4 false h225 s3 h s0 s6 s8)))

noncomputable def Jn.spec_l9Fold_l0_6 (q666 : Bool) (h225 : H) (s3 : V) (s6 : V) (h : H) (s0 : List (List S)) (s8 : Int) (s7 : Bool) : Option (LOut) :=
  vcase (bv q666)
  (ldK (.agg [.b, .i .i64, .i .i64, .i .i64, .s, .b, .i .i64, .i .i64, .i .i64, .s]) ⟨10, 96, [.bool false, .int .i64 0, .int .i64 0, .int .i64 0, .str ⟨#[]⟩, .bool false, .int .i64 0, .int .i64 0, .int .i64 0, .str ⟨#[]⟩], true, .st [(0, 4), (1, 45), (5, 4), (6, 45)], true⟩ h225 s3 fun v668 =>
  gVA v668 fun c669 =>
  (c669[0]?).bind fun x670 =>
  gB x670 fun q671 =>
  (c669[1]?).bind fun x672 =>
  gI .i64 x672 fun i673 =>
  (c669[2]?).bind fun x674 =>
  gI .i64 x674 fun i675 =>
  (c669[3]?).bind fun x676 =>
  gI .i64 x676 fun i677 =>
  (c669[4]?).bind fun x678 =>
  gS x678 fun y679 =>
  (c669[5]?).bind fun x680 =>
  gB x680 fun q681 =>
  (c669[6]?).bind fun x682 =>
  gI .i64 x682 fun i683 =>
  (c669[7]?).bind fun x684 =>
  gI .i64 x684 fun i685 =>
  (c669[8]?).bind fun x686 =>
  gI .i64 x686 fun i687 =>
  (c669[9]?).bind fun x688 =>
  gS x688 fun y689 =>
  if c669.length = 10 then
  (appS 10 (h225.new 10 [.bool q671, .int .i64 i673, .int .i64 i675, .int .i64 i677, .str y679, .bool q681, .int .i64 i683, .int .i64 i685, .int .i64 i687, .str y689]) s6 (sv h225.n 0 1)).bind fun p690 =>
  (frzVs p690.2 [pv h.n 0, s3]).bind fun l691 =>
  pcallS (call Ev) Fn.spec_l9Ahead (normVs [10, 10] l691) fun v692 =>
  gV1 v692 fun x693 =>
  gB x693 fun q694 =>
  vcase (bv q694)
  (Jn.spec_l9Fold_l0_2 true p690 h s0 s3 s8)
  ((frzVs p690.2 [s3, pv h.n 0]).bind fun l697 =>
  pcallS (call Ev) Fn.spec_l9Ahead (normVs [10, 10] l697) fun v698 =>
  gV1 v698 fun x699 =>
  gB x699 fun q700 =>
  Jn.spec_l9Fold_l0_2 q700 p690 h s0 s3 s8)
  else none)
  ((frzVs h225 [pv h.n 0, s3]).bind fun l835 =>
  pcallS (call Ev) Fn.spec_l9Ahead (normVs [10, 10] l835) fun v836 =>
  gV1 v836 fun x837 =>
  gB x837 fun q838 =>
  vcase (bv q838)
  (Jn.spec_l9Fold_l0_5 true h225 h s6 s0 s3 s7 s8)
  ((frzVs h225 [s3, pv h.n 0]).bind fun l841 =>
  pcallS (call Ev) Fn.spec_l9Ahead (normVs [10, 10] l841) fun v842 =>
  gV1 v842 fun x843 =>
  gB x843 fun q844 =>
  Jn.spec_l9Fold_l0_5 q844 h225 h s6 s0 s3 s7 s8))

theorem eq_spec_l9Fold_l0 (s0 : List (List S)) (s3 : V) (s6 : V) (s7 : Bool) (s8 : Int) (h : H) : Lp.spec_l9Fold 0 [lv s0, s3, s6, bv s7, iv .i64 s8] h =
  vcase (bv (decide (s8 < (s0.length : Int))))
  (idxF 10 s0 s8 fun r203 =>
  (rowN 10 r203 0).bind fun c204 =>
  (c204[0]?).bind fun x205 =>
  gB x205 fun q206 =>
  (c204[1]?).bind fun x207 =>
  gI .i64 x207 fun i208 =>
  (c204[2]?).bind fun x209 =>
  gI .i64 x209 fun i210 =>
  (c204[3]?).bind fun x211 =>
  gI .i64 x211 fun i212 =>
  (c204[4]?).bind fun x213 =>
  gS x213 fun y214 =>
  (c204[5]?).bind fun x215 =>
  gB x215 fun q216 =>
  (c204[6]?).bind fun x217 =>
  gI .i64 x217 fun i218 =>
  (c204[7]?).bind fun x219 =>
  gI .i64 x219 fun i220 =>
  (c204[8]?).bind fun x221 =>
  gI .i64 x221 fun i222 =>
  (c204[9]?).bind fun x223 =>
  gS x223 fun y224 =>
  if c204.length = 10 then
  stK 10 (h.new 0 [.bool false, .int .i64 0, .int .i64 0, .int .i64 0, .str (⟨#[]⟩), .bool false, .int .i64 0, .int .i64 0, .int .i64 0, .str (⟨#[]⟩)]) (pv h.n 0) (.agg [.bool q206, .int .i64 i208, .int .i64 i210, .int .i64 i212, .str y214, .bool q216, .int .i64 i218, .int .i64 i220, .int .i64 i222, .str y224]) fun h225 =>
  vcase (bv (!s7))
  ((frzVs h225 [s3, pv h.n 0]).bind fun l227 =>
  pcallS (call Ev) Fn.spec_l9Ahead (normVs [10, 10] l227) fun v228 =>
  gV1 v228 fun x229 =>
  gB x229 fun q230 =>
  Jn.spec_l9Fold_l0_6 q230 h225 s3 s6 h s0 s8 s7)
  (Jn.spec_l9Fold_l0_6 false h225 s3 s6 h s0 s8 s7)
  else none)
  (some (.done [s3, s6, bv s7] (tidy h [s3, s6, bv s7] h))) := by
  unfold Lp.spec_l9Fold; rw [loop_eq]; kernel_rfl

theorem pu_spec_FoldChange (a0 : List (List S)) (a1_0 : Bool) (a1_1 : Int) (a1_2 : Int) (a1_3 : Int) (a1_4 : ByteArray) (a1_5 : Bool) (a1_6 : Int) (a1_7 : Int) (a1_8 : Int) (a1_9 : ByteArray) : pureV (call Ev) Fn.spec_FoldChange [lv a0, .agg [.bool a1_0, .int .i64 a1_1, .int .i64 a1_2, .int .i64 a1_3, .str a1_4, .bool a1_5, .int .i64 a1_6, .int .i64 a1_7, .int .i64 a1_8, .str a1_9]] =
  pcallS (call Ev) Fn.spec_l9List [lv a0] fun v101 =>
  gV1 v101 fun x102 =>
  gI .i64 x102 fun i103 =>
  vcase (bv (i103 != 0))
  (some (.agg [.int .i64 i103, .fs []]))
  (pcallS (call Ev) Fn.spec_l9Change [fv [.bool a1_0, .int .i64 a1_1, .int .i64 a1_2, .int .i64 a1_3, .str a1_4, .bool a1_5, .int .i64 a1_6, .int .i64 a1_7, .int .i64 a1_8, .str a1_9] 0] fun v105 =>
  gV1 v105 fun x106 =>
  gI .i64 x106 fun i107 =>
  vcase (bv (i107 != 0))
  (some (.agg [.int .i64 i107, .fs []]))
  ((pureV (call Ev) Fn.spec_l9Fold [lv a0, .agg [.bool a1_0, .int .i64 a1_1, .int .i64 a1_2, .int .i64 a1_3, .str a1_4, .bool a1_5, .int .i64 a1_6, .int .i64 a1_7, .int .i64 a1_8, .str a1_9]]).bind fun v109 =>
  gVT v109 fun u110 =>
  (u110[0]?).bind fun t111 =>
  gA1 t111 fun x112 =>
  gF x112 fun z113 =>
  (u110[1]?).bind fun t114 =>
  gA1 t114 fun x115 =>
  gB x115 fun q116 =>
  if u110.length = 2 then
  vcase (bv (!q116))
  (some (.agg [.int .i64 8, .fs []]))
  (some (.agg [.int .i64 0, .fs z113]))
  else none)) := by
  rw [pure_eq]; kernel_rfl

end Vm
