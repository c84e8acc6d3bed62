/-
  What each function, and each round of each loop, comes to in the small machine. Written by a program (gen3.py).
-/
import Derived.Test.YtfpcfiaoilcbgaaEnv
set_option linter.unusedVariables false
set_option maxRecDepth 100000
namespace Vm
open Go

theorem pu_laws_FnExactMayBe (a0 : List (List S)) (a1_0 : Bool) (a1_1 : Int) (a1_2 : Int) (a1_3 : Int) (a1_4 : ByteArray) (a1_5 : Bool) (a1_6 : Int) (a1_7 : Int) (a1_8 : Int) (a1_9 : ByteArray) : pureV (call Ev) Fn.laws_FnExactMayBe [lv a0, .agg [.bool a1_0, .int .i64 a1_1, .int .i64 a1_2, .int .i64 a1_3, .str a1_4, .bool a1_5, .int .i64 a1_6, .int .i64 a1_7, .int .i64 a1_8, .str a1_9]] =
  pcallS (call Ev) Fn.laws_szRowS [lv a0, iv .i64 1048576] fun v101 =>
  gV1 v101 fun x102 =>
  gI .i64 x102 fun i103 =>
  vcase (bv (decide (i103 < 0)))
  (some (bv true))
  (pcallS (call Ev) Fn.laws_szChange [.agg [.bool a1_0, .int .i64 a1_1, .int .i64 a1_2, .int .i64 a1_3, .str a1_4, .bool a1_5, .int .i64 a1_6, .int .i64 a1_7, .int .i64 a1_8, .str a1_9], iv .i64 i103] fun v105 =>
  gV1 v105 fun x106 =>
  gI .i64 x106 fun i107 =>
  vcase (bv (decide (i107 < 0)))
  (some (bv true))
  ((pureV (call Ev) Fn.laws_toRowS [lv a0]).bind fun v109 =>
  gV1 v109 fun x110 =>
  gF x110 fun z111 =>
  hchk ((D 0).new 0 [.bool a1_0, .int .i64 a1_1, .int .i64 a1_2, .int .i64 a1_3, .str a1_4, .bool a1_5, .int .i64 a1_6, .int .i64 a1_7, .int .i64 a1_8, .str a1_9]) ((D 0).new 0 [.bool a1_0, .int .i64 a1_1, .int .i64 a1_2, .int .i64 a1_3, .str a1_4, .bool a1_5, .int .i64 a1_6, .int .i64 a1_7, .int .i64 a1_8, .str a1_9]) (
  pcallS (call Ev) Fn.laws_toChange [.agg [.bool a1_0, .int .i64 a1_1, .int .i64 a1_2, .int .i64 a1_3, .str a1_4, .bool a1_5, .int .i64 a1_6, .int .i64 a1_7, .int .i64 a1_8, .str a1_9]] fun v112 =>
  gVA v112 fun c113 =>
  (c113[0]?).bind fun x114 =>
  gB x114 fun q115 =>
  (c113[1]?).bind fun x116 =>
  gI .i64 x116 fun i117 =>
  (c113[2]?).bind fun x118 =>
  gI .i64 x118 fun i119 =>
  (c113[3]?).bind fun x120 =>
  gI .i64 x120 fun i121 =>
  (c113[4]?).bind fun x122 =>
  gS x122 fun y123 =>
  (c113[5]?).bind fun x124 =>
  gB x124 fun q125 =>
  (c113[6]?).bind fun x126 =>
  gI .i64 x126 fun i127 =>
  (c113[7]?).bind fun x128 =>
  gI .i64 x128 fun i129 =>
  (c113[8]?).bind fun x130 =>
  gI .i64 x130 fun i131 =>
  (c113[9]?).bind fun x132 =>
  gS x132 fun y133 =>
  if c113.length = 10 then
  hchk ((D 0).new 0 [.bool a1_0, .int .i64 a1_1, .int .i64 a1_2, .int .i64 a1_3, .str a1_4, .bool a1_5, .int .i64 a1_6, .int .i64 a1_7, .int .i64 a1_8, .str a1_9]) ((D 0).new 0 [.bool a1_0, .int .i64 a1_1, .int .i64 a1_2, .int .i64 a1_3, .str a1_4, .bool a1_5, .int .i64 a1_6, .int .i64 a1_7, .int .i64 a1_8, .str a1_9]) (
  pcallS (call Ev) Fn.spec_MayBe [lv z111, .agg [.bool q115, .int .i64 i117, .int .i64 i119, .int .i64 i121, .str y123, .bool q125, .int .i64 i127, .int .i64 i129, .int .i64 i131, .str y133]] fun v134 =>
  gV1 v134 fun x135 =>
  gI .i64 x135 fun i136 =>
  hchk ((D 0).new 0 [.bool a1_0, .int .i64 a1_1, .int .i64 a1_2, .int .i64 a1_3, .str a1_4, .bool a1_5, .int .i64 a1_6, .int .i64 a1_7, .int .i64 a1_8, .str a1_9]) ((D 0).new 0 [.bool a1_0, .int .i64 a1_1, .int .i64 a1_2, .int .i64 a1_3, .str a1_4, .bool a1_5, .int .i64 a1_6, .int .i64 a1_7, .int .i64 a1_8, .str a1_9]) (
  hchk ((D 0).new 0 [.bool a1_0, .int .i64 a1_1, .int .i64 a1_2, .int .i64 a1_3, .str a1_4, .bool a1_5, .int .i64 a1_6, .int .i64 a1_7, .int .i64 a1_8, .str a1_9]) ((D 0).new 0 [.bool a1_0, .int .i64 a1_1, .int .i64 a1_2, .int .i64 a1_3, .str a1_4, .bool a1_5, .int .i64 a1_6, .int .i64 a1_7, .int .i64 a1_8, .str a1_9]) (
  (pureV (call Ev) Fn.laws_toRowS [lv a0]).bind fun v137 =>
  gV1 v137 fun x138 =>
  gF x138 fun z139 =>
  pcallS (call Ev) Fn.laws_toChange [.agg [.bool a1_0, .int .i64 a1_1, .int .i64 a1_2, .int .i64 a1_3, .str a1_4, .bool a1_5, .int .i64 a1_6, .int .i64 a1_7, .int .i64 a1_8, .str a1_9]] fun v140 =>
  gVA v140 fun c141 =>
  (c141[0]?).bind fun x142 =>
  gB x142 fun q143 =>
  (c141[1]?).bind fun x144 =>
  gI .i64 x144 fun i145 =>
  (c141[2]?).bind fun x146 =>
  gI .i64 x146 fun i147 =>
  (c141[3]?).bind fun x148 =>
  gI .i64 x148 fun i149 =>
  (c141[4]?).bind fun x150 =>
  gS x150 fun y151 =>
  (c141[5]?).bind fun x152 =>
  gB x152 fun q153 =>
  (c141[6]?).bind fun x154 =>
  gI .i64 x154 fun i155 =>
  (c141[7]?).bind fun x156 =>
  gI .i64 x156 fun i157 =>
  (c141[8]?).bind fun x158 =>
  gI .i64 x158 fun i159 =>
  (c141[9]?).bind fun x160 =>
  gS x160 fun y161 =>
  if c141.length = 10 then
  pcallS (call Ev) Fn.impl_MayBe [lv z139, .agg [.bool q143, .int .i64 i145, .int .i64 i147, .int .i64 i149, .str y151, .bool q153, .int .i64 i155, .int .i64 i157, .int .i64 i159, .str y161]] fun v162 =>
  gV1 v162 fun x163 =>
  gI .i64 x163 fun i164 =>
  vcase (bv (i164 != i136))
  (some (bv false))
  ((pureV (call Ev) Fn.laws_toRowS [lv a0]).bind fun v166 =>
  gV1 v166 fun x167 =>
  gF x167 fun z168 =>
  pcallS (call Ev) Fn.laws_eqRowS [lv z139, lv z168] fun v169 =>
  gV1 v169 fun x170 =>
  gB x170 fun q171 =>
  vcase (bv (!q171))
  (some (bv false))
  (some (bv true)))
  else none)))
  else none))) := by
  rw [pure_eq]; kernel_rfl

theorem pu_laws_szChangeS (a0 : List (List S)) (a1 : Int) : pureV (call Ev) Fn.laws_szChangeS [lv a0, iv .i64 a1] =
  vcase (bv (decide ((IntKind.i64.wrap (a1 - (a0.length : Int))) < 0)))
  (some (iv .i64 (-1)))
  ((Lp.laws_szChangeS 0 [lv a0, iv .i64 (IntKind.i64.wrap (a1 - (a0.length : Int))), iv .i64 0] (D 0)).bind fun o102 => lcase o102 (fun l103 h104 =>
  (l103[0]?).bind fun w107 =>
  gV1 w107 fun x108 =>
  gI .i64 x108 fun i109 =>
  some (iv .i64 i109)) (fun v105 h106 =>
  frzV h106 v105)) := by
  rw [pure_eq]; kernel_rfl

theorem eq_laws_szChangeS_l0 (s0 : List (List S)) (s1 : Int) (s5 : Int) (h : H) : Lp.laws_szChangeS 0 [lv s0, iv .i64 s1, iv .i64 s5] h =
  vcase (bv (decide (s5 < (s0.length : Int))))
  (idxF 10 s0 s5 fun r203 =>
  (rowN 10 r203 0).bind fun c204 =>
  (c204[0]?).bind fun x205 =>
  gB x205 fun q206 =>
  (c204[1]?).bind fun x207 =>
  gI .i64 x207 fun i208 =>
  (c204[2]?).bind fun x209 =>
  gI .i64 x209 fun i210 =>
  (c204[3]?).bind fun x211 =>
  gI .i64 x211 fun i212 =>
  (c204[4]?).bind fun x213 =>
  gS x213 fun y214 =>
  (c204[5]?).bind fun x215 =>
  gB x215 fun q216 =>
  (c204[6]?).bind fun x217 =>
  gI .i64 x217 fun i218 =>
  (c204[7]?).bind fun x219 =>
  gI .i64 x219 fun i220 =>
  (c204[8]?).bind fun x221 =>
  gI .i64 x221 fun i222 =>
  (c204[9]?).bind fun x223 =>
  gS x223 fun y224 =>
  if c204.length = 10 then
  pcallS (call Ev) Fn.laws_szChange [.agg [.bool q206, .int .i64 i208, .int .i64 i210, .int .i64 i212, .str y214, .bool q216, .int .i64 i218, .int .i64 i220, .int .i64 i222, .str y224], iv .i64 s1] fun v225 =>
  gV1 v225 fun x226 =>
  gI .i64 x226 fun i227 =>
  vcase (bv (decide (i227 < 0)))
  (some (.ret (iv .i64 (-1)) h))
  (Lp.laws_szChangeS 0 [lv s0, iv .i64 i227, iv .i64 (IntKind.i64.wrap (s5 + 1))] (tidy h [lv s0, iv .i64 i227, iv .i64 (IntKind.i64.wrap (s5 + 1))] h))
  else none)
  (some (.done [iv .i64 s1] (tidy h [iv .i64 s1] h))) := by
  unfold Lp.laws_szChangeS; rw [loop_eq]; kernel_rfl

theorem pu_spec_l9Change (a0_0 : Bool) (a0_1 : Int) (a0_2 : Int) (a0_3 : Int) (a0_4 : ByteArray) (a0_5 : Bool) (a0_6 : Int) (a0_7 : Int) (a0_8 : Int) (a0_9 : ByteArray) : pureV (call Ev) Fn.spec_l9Change [fv [.bool a0_0, .int .i64 a0_1, .int .i64 a0_2, .int .i64 a0_3, .str a0_4, .bool a0_5, .int .i64 a0_6, .int .i64 a0_7, .int .i64 a0_8, .str a0_9] 0] =
  pcallS (call Ev) Fn.spec_l6Change [fv [.bool a0_0, .int .i64 a0_1, .int .i64 a0_2, .int .i64 a0_3, .str a0_4, .bool a0_5, .int .i64 a0_6, .int .i64 a0_7, .int .i64 a0_8, .str a0_9] 0] fun v101 =>
  gV1 v101 fun x102 =>
  gI .i64 x102 fun i103 =>
  vcase (bv (i103 != 0))
  (some (iv .i64 i103))
  (vcase (bv a0_0)
  (vcase (bv a0_5)
  (vcase (bv (((a0_1 : Int) == a0_6) && (((a0_2 : Int) == a0_7) && (((a0_3 : Int) == a0_8) && (((a0_4 : ByteArray).toList == (a0_9 : ByteArray).toList) && true)))))
  (some (iv .i64 1))
  (some (iv .i64 0)))
  (some (iv .i64 0)))
  (some (iv .i64 0))) := by
  rw [pure_eq]; kernel_rfl

theorem pu_spec_l10Inverse (a0 : List (List S)) : pureV (call Ev) Fn.spec_l10Inverse [lv a0] =
  (Lp.spec_l10Inverse 0 [lv a0, sv 0 0 0, iv .i64 (IntKind.i64.wrap ((a0.length : Int) - 1))] ((D 0).new 10 [])).bind fun o101 => lcase o101 (fun l102 h103 =>
  (l102[0]?).bind fun w106 =>
  frzV h103 w106) (fun v104 h105 =>
  frzV h105 v104) := by
  rw [pure_eq]; kernel_rfl

theorem eq_spec_l10Inverse_l0 (s0 : List (List S)) (s3 : V) (s4 : Int) (h : H) : Lp.spec_l10Inverse 0 [lv s0, s3, iv .i64 s4] h =
  vcase (bv (decide (s4 ≥ 0)))
  (idxF 10 s0 s4 fun r203 =>
  (rowN 10 r203 0).bind fun c204 =>
  (c204[0]?).bind fun x205 =>
  gB x205 fun q206 =>
  (c204[1]?).bind fun x207 =>
  gI .i64 x207 fun i208 =>
  (c204[2]?).bind fun x209 =>
  gI .i64 x209 fun i210 =>
  (c204[3]?).bind fun x211 =>
  gI .i64 x211 fun i212 =>
  (c204[4]?).bind fun x213 =>
  gS x213 fun y214 =>
  (c204[5]?).bind fun x215 =>
  gB x215 fun q216 =>
  (c204[6]?).bind fun x217 =>
  gI .i64 x217 fun i218 =>
  (c204[7]?).bind fun x219 =>
  gI .i64 x219 fun i220 =>
  (c204[8]?).bind fun x221 =>
  gI .i64 x221 fun i222 =>
  (c204[9]?).bind fun x223 =>
  gS x223 fun y224 =>
  if c204.length = 10 then
  stK 10 (h.new 0 [.bool false, .int .i64 0, .int .i64 0, .int .i64 0, .str (⟨#[]⟩), .bool false, .int .i64 0, .int .i64 0, .int .i64 0, .str (⟨#[]⟩)]) (pv h.n 0) (.agg [.bool q206, .int .i64 i208, .int .i64 i210, .int .i64 i212, .str y214, .bool q216, .int .i64 i218, .int .i64 i220, .int .i64 i222, .str y224]) fun h225 =>
  (load1 h225 (pv h.n 5)).bind fun x226 =>
  gB x226 fun q227 =>
  (loadN 4 h225 (pv h.n 6)).bind fun c228 =>
  (c228[0]?).bind fun x229 =>
  gI .i64 x229 fun i230 =>
  (c228[1]?).bind fun x231 =>
  gI .i64 x231 fun i232 =>
  (c228[2]?).bind fun x233 =>
  gI .i64 x233 fun i234 =>
  (c228[3]?).bind fun x235 =>
  gS x235 fun y236 =>
  if c228.length = 4 then
  (load1 h225 (pv h.n 0)).bind fun x237 =>
  gB x237 fun q238 =>
  (loadN 4 h225 (pv h.n 1)).bind fun c239 =>
  (c239[0]?).bind fun x240 =>
  gI .i64 x240 fun i241 =>
  (c239[1]?).bind fun x242 =>
  gI .i64 x242 fun i243 =>
  (c239[2]?).bind fun x244 =>
  gI .i64 x244 fun i245 =>
  (c239[3]?).bind fun x246 =>
  gS x246 fun y247 =>
  if c239.length = 4 then
  (appS 10 (h225.new 10 [.bool q227, .int .i64 i230, .int .i64 i232, .int .i64 i234, .str y236, .bool q238, .int .i64 i241, .int .i64 i243, .int .i64 i245, .str y247]) s3 (sv h225.n 0 1)).bind fun p248 =>
  Lp.spec_l10Inverse 0 [lv s0, p248.1, iv .i64 (IntKind.i64.wrap (s4 - 1))] (tidy h [lv s0, p248.1, iv .i64 (IntKind.i64.wrap (s4 - 1))] p248.2)
  else none
  else none
  else none)
  (some (.done [s3] (tidy h [s3] h))) := by
  unfold Lp.spec_l10Inverse; rw [loop_eq]; kernel_rfl

theorem pu_spec_InverseOf (a0 : List (List S)) : pureV (call Ev) Fn.spec_InverseOf [lv a0] =
  vcase (bv (decide ((a0.length : Int) > 60)))
  (some (.agg [.int .i64 2, .fs []]))
  ((Lp.spec_InverseOf 0 [lv a0, pv 0 0, iv .i64 0] ((D 0).new 0 [.int .i64 0, .sl none 0])).bind fun o102 => lcase o102 (fun l103 h104 =>
  (l103[0]?).bind fun w107 =>
  gV1 w107 fun x108 =>
  gF x108 fun z109 =>
  (l103[1]?).bind fun w110 =>
  (pureV (call Ev) Fn.spec_l10Inverse [lv z109]).bind fun v111 =>
  gV1 v111 fun x112 =>
  gF x112 fun z113 =>
  stK 2 h104 w110 (.agg [.int .i64 0, .fs z113]) fun h114 =>
  ldT ⟨2, 32, [.int .i64 0, .sl none 0], true, .st [(0, 2), (1, 52)], false⟩ h114 w110 fun v115 =>
  frzV h114 v115) (fun v105 h106 =>
  frzV h106 v105)) := by
  rw [pure_eq]; kernel_rfl

theorem eq_spec_InverseOf_l0 (s0 : List (List S)) (s2 : V) (s3 : Int) (h : H) : Lp.spec_InverseOf 0 [lv s0, s2, iv .i64 s3] h =
  vcase (bv (decide (s3 < (s0.length : Int))))
  (idxF 10 s0 s3 fun r203 =>
  pcallS (call Ev) Fn.spec_l9Change [normV 10 (fv r203 0)] fun v204 =>
  gV1 v204 fun x205 =>
  gI .i64 x205 fun i206 =>
  vcase (bv (i206 != 0))
  (stK 2 h s2 (.agg [.int .i64 i206, .sl none 0]) fun h208 =>
  ldT ⟨2, 32, [.int .i64 0, .sl none 0], true, .st [(0, 2), (1, 52)], false⟩ h208 s2 fun v209 =>
  some (.ret v209 h208))
  (Lp.spec_InverseOf 0 [lv s0, s2, iv .i64 (IntKind.i64.wrap (s3 + 1))] (tidy h [lv s0, s2, iv .i64 (IntKind.i64.wrap (s3 + 1))] h)))
  (some (.done [lv s0, s2] (tidy h [lv s0, s2] h))) := by
  unfold Lp.spec_InverseOf; rw [loop_eq]; kernel_rfl

theorem eq_laws_toChangeS (a0 : List (List S)) (n : Nat) : call Ev Fn.laws_toChangeS [lv a0] (D n) =
  (mkSl 10 [.bool false, .int .i64 0, .int .i64 0, .int .i64 0, .str ⟨#[]⟩, .bool false, .int .i64 0, .int .i64 0, .int .i64 0, .str ⟨#[]⟩] (D n) (iv .i64 (a0.length : Int)) (iv .i64 (a0.length : Int))).bind fun p101 =>
  (Lp.laws_toChangeS 0 [lv a0, p101.1, iv .i64 0] p101.2).bind fun o102 => lcase o102 (fun l103 h104 =>
  (l103[0]?).bind fun w107 =>
  some (w107, h104)) (fun v105 h106 =>
  some (v105, h106)) := by
  rw [call_eq]; kernel_rfl

theorem eq_laws_toChangeS_l0 (s0 : List (List S)) (s3 : V) (s4 : Int) (h : H) : Lp.laws_toChangeS 0 [lv s0, s3, iv .i64 s4] h =
  vcase (bv (decide (s4 < (s0.length : Int))))
  (idxF 10 s0 s4 fun r203 =>
  (rowN 10 r203 0).bind fun c204 =>
  (c204[0]?).bind fun x205 =>
  gB x205 fun q206 =>
  (c204[1]?).bind fun x207 =>
  gI .i64 x207 fun i208 =>
  (c204[2]?).bind fun x209 =>
  gI .i64 x209 fun i210 =>
  (c204[3]?).bind fun x211 =>
  gI .i64 x211 fun i212 =>
  (c204[4]?).bind fun x213 =>
  gS x213 fun y214 =>
  (c204[5]?).bind fun x215 =>
  gB x215 fun q216 =>
  (c204[6]?).bind fun x217 =>
  gI .i64 x217 fun i218 =>
  (c204[7]?).bind fun x219 =>
  gI .i64 x219 fun i220 =>
  (c204[8]?).bind fun x221 =>
  gI .i64 x221 fun i222 =>
  (c204[9]?).bind fun x223 =>
  gS x223 fun y224 =>
  if c204.length = 10 then
  pcallS (call Ev) Fn.laws_toChange [.agg [.bool q206, .int .i64 i208, .int .i64 i210, .int .i64 i212, .str y214, .bool q216, .int .i64 i218, .int .i64 i220, .int .i64 i222, .str y224]] fun v225 =>
  gVA v225 fun c226 =>
  (c226[0]?).bind fun x227 =>
  gB x227 fun q228 =>
  (c226[1]?).bind fun x229 =>
  gI .i64 x229 fun i230 =>
  (c226[2]?).bind fun x231 =>
  gI .i64 x231 fun i232 =>
  (c226[3]?).bind fun x233 =>
  gI .i64 x233 fun i234 =>
  (c226[4]?).bind fun x235 =>
  gS x235 fun y236 =>
  (c226[5]?).bind fun x237 =>
  gB x237 fun q238 =>
  (c226[6]?).bind fun x239 =>
  gI .i64 x239 fun i240 =>
  (c226[7]?).bind fun x241 =>
  gI .i64 x241 fun i242 =>
  (c226[8]?).bind fun x243 =>
  gI .i64 x243 fun i244 =>
  (c226[9]?).bind fun x245 =>
  gS x245 fun y246 =>
  if c226.length = 10 then
  idxK 10 s3 (iv .i64 s4) fun v247 =>
  stK 10 h v247 (.agg [.bool q228, .int .i64 i230, .int .i64 i232, .int .i64 i234, .str y236, .bool q238, .int .i64 i240, .int .i64 i242, .int .i64 i244, .str y246]) fun h248 =>
  Lp.laws_toChangeS 0 [lv s0, s3, iv .i64 (IntKind.i64.wrap (s4 + 1))] (tidy h [lv s0, s3, iv .i64 (IntKind.i64.wrap (s4 + 1))] h248)
  else none
  else none)
  (some (.done [s3] (tidy h [s3] h))) := by
  unfold Lp.laws_toChangeS; rw [loop_eq]; kernel_rfl

theorem pu_impl_singleFault (a0_0 : Bool) (a0_1 : Int) (a0_2 : Int) (a0_3 : Int) (a0_4 : ByteArray) (a0_5 : Bool) (a0_6 : Int) (a0_7 : Int) (a0_8 : Int) (a0_9 : ByteArray) : pureV (call Ev) Fn.impl_singleFault [.agg [.bool a0_0, .int .i64 a0_1, .int .i64 a0_2, .int .i64 a0_3, .str a0_4, .bool a0_5, .int .i64 a0_6, .int .i64 a0_7, .int .i64 a0_8, .str a0_9]] =
  pcallS (call Ev) Fn.impl_changeFault [.agg [.bool a0_0, .int .i64 a0_1, .int .i64 a0_2, .int .i64 a0_3, .str a0_4, .bool a0_5, .int .i64 a0_6, .int .i64 a0_7, .int .i64 a0_8, .str a0_9]] fun v101 =>
  gV1 v101 fun x102 =>
  gI .i64 x102 fun i103 =>
  vcase (bv (i103 != 0))
  (some (iv .i64 i103))
  (vcase (bv a0_0)
  (vcase (bv a0_5)
  (vcase (bv (((a0_1 : Int) == a0_6) && (((a0_2 : Int) == a0_7) && (((a0_3 : Int) == a0_8) && (((a0_4 : ByteArray).toList == (a0_9 : ByteArray).toList) && true)))))
  (some (iv .i64 1))
  (some (iv .i64 0)))
  (some (iv .i64 0)))
  (some (iv .i64 0))) := by
  rw [pure_eq]; kernel_rfl

theorem eq_impl_inverse (a0 : List (List S)) (n : Nat) : call Ev Fn.impl_inverse [lv a0] (D n) =
  (Lp.impl_inverse 0 [lv a0, .s (.sl none 0), iv .i64 (IntKind.i64.wrap ((a0.length : Int) - 1))] (D n)).bind fun o101 => lcase o101 (fun l102 h103 =>
  (l102[0]?).bind fun w106 =>
  some (w106, h103)) (fun v104 h105 =>
  some (v104, h105)) := by
  rw [call_eq]; kernel_rfl

theorem eq_impl_inverse_l0 (s0 : List (List S)) (s3 : V) (s4 : Int) (h : H) : Lp.impl_inverse 0 [lv s0, s3, iv .i64 s4] h =
  vcase (bv (decide (s4 ≥ 0)))
  (idxF 10 s0 s4 fun r203 =>
  (rowN 10 r203 0).bind fun c204 =>
  (c204[0]?).bind fun x205 =>
  gB x205 fun q206 =>
  (c204[1]?).bind fun x207 =>
  gI .i64 x207 fun i208 =>
  (c204[2]?).bind fun x209 =>
  gI .i64 x209 fun i210 =>
  (c204[3]?).bind fun x211 =>
  gI .i64 x211 fun i212 =>
  (c204[4]?).bind fun x213 =>
  gS x213 fun y214 =>
  (c204[5]?).bind fun x215 =>
  gB x215 fun q216 =>
  (c204[6]?).bind fun x217 =>
  gI .i64 x217 fun i218 =>
  (c204[7]?).bind fun x219 =>
  gI .i64 x219 fun i220 =>
  (c204[8]?).bind fun x221 =>
  gI .i64 x221 fun i222 =>
  (c204[9]?).bind fun x223 =>
  gS x223 fun y224 =>
  if c204.length = 10 then
  stK 10 (h.new 0 [.bool false, .int .i64 0, .int .i64 0, .int .i64 0, .str (⟨#[]⟩), .bool false, .int .i64 0, .int .i64 0, .int .i64 0, .str (⟨#[]⟩)]) (pv h.n 0) (.agg [.bool q206, .int .i64 i208, .int .i64 i210, .int .i64 i212, .str y214, .bool q216, .int .i64 i218, .int .i64 i220, .int .i64 i222, .str y224]) fun h225 =>
  (load1 h225 (pv h.n 5)).bind fun x226 =>
  gB x226 fun q227 =>
  (loadN 4 h225 (pv h.n 6)).bind fun c228 =>
  (c228[0]?).bind fun x229 =>
  gI .i64 x229 fun i230 =>
  (c228[1]?).bind fun x231 =>
  gI .i64 x231 fun i232 =>
  (c228[2]?).bind fun x233 =>
  gI .i64 x233 fun i234 =>
  (c228[3]?).bind fun x235 =>
  gS x235 fun y236 =>
  if c228.length = 4 then
  (load1 h225 (pv h.n 0)).bind fun x237 =>
  gB x237 fun q238 =>
  (loadN 4 h225 (pv h.n 1)).bind fun c239 =>
  (c239[0]?).bind fun x240 =>
  gI .i64 x240 fun i241 =>
  (c239[1]?).bind fun x242 =>
  gI .i64 x242 fun i243 =>
  (c239[2]?).bind fun x244 =>
  gI .i64 x244 fun i245 =>
  (c239[3]?).bind fun x246 =>
  gS x246 fun y247 =>
  if c239.length = 4 then
  (appS 10 (h225.new 10 [.bool q227, .int .i64 i230, .int .i64 i232, .int .i64 i234, .str y236, .bool q238, .int .i64 i241, .int .i64 i243, .int .i64 i245, .str y247]) s3 (sv h225.n 0 1)).bind fun p248 =>
  Lp.impl_inverse 0 [lv s0, p248.1, iv .i64 (IntKind.i64.wrap (s4 - 1))] (tidy h [lv s0, p248.1, iv .i64 (IntKind.i64.wrap (s4 - 1))] p248.2)
  else none
  else none
  else none)
  (some (.done [s3] (tidy h [s3] h))) := by
  unfold Lp.impl_inverse; rw [loop_eq]; kernel_rfl

theorem eq_impl_InverseOf (a0 : List (List S)) (n : Nat) : call Ev Fn.impl_InverseOf [lv a0] (D n) =
  vcase (bv (decide ((a0.length : Int) > 60)))
  (stK 2 ((D n).new 0 [.int .i64 0, .sl none 0]) (pv ((D n).n) 0) (.agg [.int .i64 2, .sl none 0]) fun h102 =>
  (loadN 2 h102 (pv ((D n).n) 0)).bind fun c103 =>
  some (.agg c103, h102))
  ((Lp.impl_InverseOf 0 [lv a0, pv ((D n).n) 0, lv a0, iv .i64 (a0.length : Int), iv .i64 0] ((D n).new 0 [.int .i64 0, .sl none 0])).bind fun o104 => lcase o104 (fun l105 h106 =>
  (l105[0]?).bind fun w109 =>
  gV1 w109 fun x110 =>
  gF x110 fun z111 =>
  (l105[1]?).bind fun w112 =>
  pcallF (call Ev) Fn.impl_inverse true [lv z111] h106 fun v113 h114 =>
  cellsK v113 fun c115 =>
  if c115.length = 1 ∧ 1 + 1 ≤ ([.int .i64 0, .sl none 0] : List S).length then
  ((setAt ([.int .i64 0, .sl none 0] : List S) 1 c115)[0]?).bind fun x116 =>
  gI .i64 x116 fun i117 =>
  ((setAt ([.int .i64 0, .sl none 0] : List S) 1 c115)[1]?).bind fun x118 =>
  if (setAt ([.int .i64 0, .sl none 0] : List S) 1 c115).length = 2 then
  stK 2 h114 w112 (.agg [.int .i64 i117, x118]) fun h119 =>
  ldT ⟨2, 32, [.int .i64 0, .sl none 0], true, .st [(0, 2), (1, 52)], false⟩ h119 w112 fun v120 =>
  some (v120, h119)
  else none
  else none) (fun v107 h108 =>
  some (v107, h108))) := by
  rw [call_eq]; kernel_rfl

theorem eq_impl_InverseOf_l0 (s0 : List (List S)) (s2 : V) (s10 : List (List S)) (s11 : Int) (s12 : Int) (h : H) : Lp.impl_InverseOf 0 [lv s0, s2, lv s10, iv .i64 s11, iv .i64 s12] h =
  vcase (bv (decide (s12 < s11)))
  (idxF 10 s10 s12 fun r203 =>
  (rowN 10 r203 0).bind fun c204 =>
  (c204[0]?).bind fun x205 =>
  gB x205 fun q206 =>
  (c204[1]?).bind fun x207 =>
  gI .i64 x207 fun i208 =>
  (c204[2]?).bind fun x209 =>
  gI .i64 x209 fun i210 =>
  (c204[3]?).bind fun x211 =>
  gI .i64 x211 fun i212 =>
  (c204[4]?).bind fun x213 =>
  gS x213 fun y214 =>
  (c204[5]?).bind fun x215 =>
  gB x215 fun q216 =>
  (c204[6]?).bind fun x217 =>
  gI .i64 x217 fun i218 =>
  (c204[7]?).bind fun x219 =>
  gI .i64 x219 fun i220 =>
  (c204[8]?).bind fun x221 =>
  gI .i64 x221 fun i222 =>
  (c204[9]?).bind fun x223 =>
  gS x223 fun y224 =>
  if c204.length = 10 then
  stK 10 (h.new 0 [.bool false, .int .i64 0, .int .i64 0, .int .i64 0, .str (⟨#[]⟩), .bool false, .int .i64 0, .int .i64 0, .int .i64 0, .str (⟨#[]⟩)]) (pv h.n 0) (.agg [.bool q206, .int .i64 i208, .int .i64 i210, .int .i64 i212, .str y214, .bool q216, .int .i64 i218, .int .i64 i220, .int .i64 i222, .str y224]) fun h225 =>
  (loadN 10 h225 (pv h.n 0)).bind fun c226 =>
  (c226[0]?).bind fun x227 =>
  gB x227 fun q228 =>
  (c226[1]?).bind fun x229 =>
  gI .i64 x229 fun i230 =>
  (c226[2]?).bind fun x231 =>
  gI .i64 x231 fun i232 =>
  (c226[3]?).bind fun x233 =>
  gI .i64 x233 fun i234 =>
  (c226[4]?).bind fun x235 =>
  gS x235 fun y236 =>
  (c226[5]?).bind fun x237 =>
  gB x237 fun q238 =>
  (c226[6]?).bind fun x239 =>
  gI .i64 x239 fun i240 =>
  (c226[7]?).bind fun x241 =>
  gI .i64 x241 fun i242 =>
  (c226[8]?).bind fun x243 =>
  gI .i64 x243 fun i244 =>
  (c226[9]?).bind fun x245 =>
  gS x245 fun y246 =>
  if c226.length = 10 then
  pcallS (call Ev) Fn.impl_singleFault [.agg [.bool q228, .int .i64 i230, .int .i64 i232, .int .i64 i234, .str y236, .bool q238, .int .i64 i240, .int .i64 i242, .int .i64 i244, .str y246]] fun v247 =>
  gV1 v247 fun x248 =>
  gI .i64 x248 fun i249 =>
  vcase (bv (i249 != 0))
  (stK 2 h225 s2 (.agg [.int .i64 i249, .sl none 0]) fun h251 =>
  ldT ⟨2, 32, [.int .i64 0, .sl none 0], true, .st [(0, 2), (1, 52)], false⟩ h251 s2 fun v252 =>
  some (.ret v252 h251))
  (Lp.impl_InverseOf 0 [lv s0, s2, lv s10, iv .i64 s11, iv .i64 (IntKind.i64.wrap (s12 + 1))] (tidy h [lv s0, s2, lv s10, iv .i64 s11, iv .i64 (IntKind.i64.wrap (s12 + 1))] h225))
  else none
  else none)
  (some (.done [lv s0, s2] (tidy h [lv s0, s2] h))) := by
  unfold Lp.impl_InverseOf; rw [loop_eq]; kernel_rfl

theorem pu_laws_eqChange (a0_0 : Bool) (a0_1 : Int) (a0_2 : Int) (a0_3 : Int) (a0_4 : ByteArray) (a0_5 : Bool) (a0_6 : Int) (a0_7 : Int) (a0_8 : Int) (a0_9 : ByteArray) (a1_0 : Bool) (a1_1 : Int) (a1_2 : Int) (a1_3 : Int) (a1_4 : ByteArray) (a1_5 : Bool) (a1_6 : Int) (a1_7 : Int) (a1_8 : Int) (a1_9 : ByteArray) : pureV (call Ev) Fn.laws_eqChange [.agg [.bool a0_0, .int .i64 a0_1, .int .i64 a0_2, .int .i64 a0_3, .str a0_4, .bool a0_5, .int .i64 a0_6, .int .i64 a0_7, .int .i64 a0_8, .str a0_9], .agg [.bool a1_0, .int .i64 a1_1, .int .i64 a1_2, .int .i64 a1_3, .str a1_4, .bool a1_5, .int .i64 a1_6, .int .i64 a1_7, .int .i64 a1_8, .str a1_9]] =
  vcase (bv (!(a0_0 == a1_0)))
  (some (bv false))
  (pcallS (call Ev) Fn.laws_eqRow [.agg [.int .i64 a0_1, .int .i64 a0_2, .int .i64 a0_3, .str a0_4], .agg [.int .i64 a1_1, .int .i64 a1_2, .int .i64 a1_3, .str a1_4]] fun v102 =>
  gV1 v102 fun x103 =>
  gB x103 fun q104 =>
  vcase (bv (!q104))
  (some (bv false))
  (vcase (bv (!(a0_5 == a1_5)))
  (some (bv false))
  (pcallS (call Ev) Fn.laws_eqRow [.agg [.int .i64 a0_6, .int .i64 a0_7, .int .i64 a0_8, .str a0_9], .agg [.int .i64 a1_6, .int .i64 a1_7, .int .i64 a1_8, .str a1_9]] fun v107 =>
  gV1 v107 fun x108 =>
  gB x108 fun q109 =>
  vcase (bv (!q109))
  (some (bv false))
  (some (bv true))))) := by
  rw [pure_eq]; kernel_rfl

theorem pu_laws_eqChangeS (a0 : List (List S)) (a1 : List (List S)) : pureV (call Ev) Fn.laws_eqChangeS [lv a0, lv a1] =
  vcase (bv ((a0.length : Int) != (a1.length : Int)))
  (some (bv false))
  ((Lp.laws_eqChangeS 0 [lv a0, lv a1, iv .i64 0] (D 0)).bind fun o102 => lcase o102 (fun l103 h104 =>
  some (bv true)) (fun v105 h106 =>
  frzV h106 v105)) := by
  rw [pure_eq]; kernel_rfl

theorem eq_laws_eqChangeS_l0 (s0 : List (List S)) (s1 : List (List S)) (s5 : Int) (h : H) : Lp.laws_eqChangeS 0 [lv s0, lv s1, iv .i64 s5] h =
  vcase (bv (decide (s5 < (s0.length : Int))))
  (idxF 10 s0 s5 fun r203 =>
  (rowN 10 r203 0).bind fun c204 =>
  (c204[0]?).bind fun x205 =>
  gB x205 fun q206 =>
  (c204[1]?).bind fun x207 =>
  gI .i64 x207 fun i208 =>
  (c204[2]?).bind fun x209 =>
  gI .i64 x209 fun i210 =>
  (c204[3]?).bind fun x211 =>
  gI .i64 x211 fun i212 =>
  (c204[4]?).bind fun x213 =>
  gS x213 fun y214 =>
  (c204[5]?).bind fun x215 =>
  gB x215 fun q216 =>
  (c204[6]?).bind fun x217 =>
  gI .i64 x217 fun i218 =>
  (c204[7]?).bind fun x219 =>
  gI .i64 x219 fun i220 =>
  (c204[8]?).bind fun x221 =>
  gI .i64 x221 fun i222 =>
  (c204[9]?).bind fun x223 =>
  gS x223 fun y224 =>
  if c204.length = 10 then
  idxF 10 s1 s5 fun r225 =>
  (rowN 10 r225 0).bind fun c226 =>
  (c226[0]?).bind fun x227 =>
  gB x227 fun q228 =>
  (c226[1]?).bind fun x229 =>
  gI .i64 x229 fun i230 =>
  (c226[2]?).bind fun x231 =>
  gI .i64 x231 fun i232 =>
  (c226[3]?).bind fun x233 =>
  gI .i64 x233 fun i234 =>
  (c226[4]?).bind fun x235 =>
  gS x235 fun y236 =>
  (c226[5]?).bind fun x237 =>
  gB x237 fun q238 =>
  (c226[6]?).bind fun x239 =>
  gI .i64 x239 fun i240 =>
  (c226[7]?).bind fun x241 =>
  gI .i64 x241 fun i242 =>
  (c226[8]?).bind fun x243 =>
  gI .i64 x243 fun i244 =>
  (c226[9]?).bind fun x245 =>
  gS x245 fun y246 =>
  if c226.length = 10 then
  pcallS (call Ev) Fn.laws_eqChange [.agg [.bool q206, .int .i64 i208, .int .i64 i210, .int .i64 i212, .str y214, .bool q216, .int .i64 i218, .int .i64 i220, .int .i64 i222, .str y224], .agg [.bool q228, .int .i64 i230, .int .i64 i232, .int .i64 i234, .str y236, .bool q238, .int .i64 i240, .int .i64 i242, .int .i64 i244, .str y246]] fun v247 =>
  gV1 v247 fun x248 =>
  gB x248 fun q249 =>
  hchk h h (
  vcase (bv (!q249))
  (some (.ret (bv false) h))
  (Lp.laws_eqChangeS 0 [lv s0, lv s1, iv .i64 (IntKind.i64.wrap (s5 + 1))] (tidy h [lv s0, lv s1, iv .i64 (IntKind.i64.wrap (s5 + 1))] h)))
  else none
  else none)
  (some (.done [] (tidy h [] h))) := by
  unfold Lp.laws_eqChangeS; rw [loop_eq]; kernel_rfl

theorem pu_laws_eqChangesResult (a0_0 : Int) (a0_1 : List (List S)) (a1_0 : Int) (a1_1 : List (List S)) : pureV (call Ev) Fn.laws_eqChangesResult [.agg [.int .i64 a0_0, .fs a0_1], .agg [.int .i64 a1_0, .fs a1_1]] =
  vcase (bv (a0_0 != a1_0))
  (some (bv false))
  (pcallS (call Ev) Fn.laws_eqChangeS [lv a0_1, lv a1_1] fun v102 =>
  gV1 v102 fun x103 =>
  gB x103 fun q104 =>
  vcase (bv (!q104))
  (some (bv false))
  (some (bv true))) := by
  rw [pure_eq]; kernel_rfl

theorem eq_laws_markChangeS (a0 : V) (a1 : Int) (h : H) : call Ev Fn.laws_markChangeS [a0, iv .i64 a1] h =
  (Lp.laws_markChangeS 0 [a0, iv .i64 a1, iv .i64 0] h).bind fun o101 => lcase o101 (fun l102 h103 =>
  (l102[0]?).bind fun w106 =>
  gV1 w106 fun x107 =>
  gI .i64 x107 fun i108 =>
  some (iv .i64 i108, h103)) (fun v104 h105 =>
  some (v104, h105)) := by
  rw [call_eq]; kernel_rfl

theorem eq_laws_markChangeS_l0 (s0 : V) (s1 : Int) (s5 : Int) (h : H) : Lp.laws_markChangeS 0 [s0, iv .i64 s1, iv .i64 s5] h =
  (lenV (.sl 47) s0).bind fun v201 =>
  gV1 v201 fun x202 =>
  gI .i64 x202 fun i203 =>
  vcase (bv (decide (s5 < i203)))
  ((bin Ev .rem 3 (iv .i64 s1) (iv .i64 3)).bind fun b206 =>
  gV1 b206 fun x207 =>
  gI .i64 x207 fun i208 =>
  idxK 10 s0 (iv .i64 s5) fun v209 =>
  (padd 0 v209).bind fun v210 =>
  stK 1 h v210 (bv (i208 == 0)) fun h211 =>
  idxK 10 s0 (iv .i64 s5) fun v212 =>
  (padd 1 v212).bind fun v213 =>
  (padd 0 v213).bind fun v214 =>
  stK 1 h211 v214 (iv .i64 (IntKind.i64.wrap (s1 + 1))) fun h215 =>
  idxK 10 s0 (iv .i64 s5) fun v216 =>
  (padd 1 v216).bind fun v217 =>
  (padd 1 v217).bind fun v218 =>
  stK 1 h215 v218 (iv .i64 (IntKind.i64.wrap ((IntKind.i64.wrap (s1 + 1)) + 1))) fun h219 =>
  idxK 10 s0 (iv .i64 s5) fun v220 =>
  (padd 1 v220).bind fun v221 =>
  (padd 2 v221).bind fun v222 =>
  stK 1 h219 v222 (iv .i64 (IntKind.i64.wrap ((IntKind.i64.wrap ((IntKind.i64.wrap (s1 + 1)) + 1)) + 1))) fun h223 =>
  pcallS (call Ev) Fn.laws_markText [iv .i64 (IntKind.i64.wrap ((IntKind.i64.wrap ((IntKind.i64.wrap ((IntKind.i64.wrap (s1 + 1)) + 1)) + 1)) + 1))] fun v224 =>
  gV1 v224 fun x225 =>
  gS x225 fun y226 =>
  idxK 10 s0 (iv .i64 s5) fun v227 =>
  (padd 1 v227).bind fun v228 =>
  (padd 3 v228).bind fun v229 =>
  stK 1 h223 v229 (.s (.str y226)) fun h230 =>
  (bin Ev .rem 3 (iv .i64 (IntKind.i64.wrap ((IntKind.i64.wrap ((IntKind.i64.wrap ((IntKind.i64.wrap ((IntKind.i64.wrap (s1 + 1)) + 1)) + 1)) + 1)) + 1))) (iv .i64 3)).bind fun b231 =>
  gV1 b231 fun x232 =>
  gI .i64 x232 fun i233 =>
  idxK 10 s0 (iv .i64 s5) fun v234 =>
  (padd 5 v234).bind fun v235 =>
  stK 1 h230 v235 (bv (i233 == 0)) fun h236 =>
  idxK 10 s0 (iv .i64 s5) fun v237 =>
  (padd 6 v237).bind fun v238 =>
  (padd 0 v238).bind fun v239 =>
  stK 1 h236 v239 (iv .i64 (IntKind.i64.wrap ((IntKind.i64.wrap ((IntKind.i64.wrap ((IntKind.i64.wrap ((IntKind.i64.wrap ((IntKind.i64.wrap (s1 + 1)) + 1)) + 1)) + 1)) + 1)) + 1))) fun h240 =>
  idxK 10 s0 (iv .i64 s5) fun v241 =>
  (padd 6 v241).bind fun v242 =>
  (padd 1 v242).bind fun v243 =>
  stK 1 h240 v243 (iv .i64 (IntKind.i64.wrap ((IntKind.i64.wrap ((IntKind.i64.wrap ((IntKind.i64.wrap ((IntKind.i64.wrap ((IntKind.i64.wrap ((IntKind.i64.wrap (s1 + 1)) + 1)) + 1)) + 1)) + 1)) + 1)) + 1))) fun h244 =>
  idxK 10 s0 (iv .i64 s5) fun v245 =>
  (padd 6 v245).bind fun v246 =>
  (padd 2 v246).bind fun v247 =>
  stK 1 h244 v247 (iv .i64 (IntKind.i64.wrap ((IntKind.i64.wrap ((IntKind.i64.wrap ((IntKind.i64.wrap ((IntKind.i64.wrap ((IntKind.i64.wrap ((IntKind.i64.wrap ((IntKind.i64.wrap (s1 + 1)) + 1)) + 1)) + 1)) + 1)) + 1)) + 1)) + 1))) fun h248 =>
  pcallS (call Ev) Fn.laws_markText [iv .i64 (IntKind.i64.wrap ((IntKind.i64.wrap ((IntKind.i64.wrap ((IntKind.i64.wrap ((IntKind.i64.wrap ((IntKind.i64.wrap ((IntKind.i64.wrap ((IntKind.i64.wrap ((IntKind.i64.wrap (s1 + 1)) + 1)) + 1)) + 1)) + 1)) + 1)) + 1)) + 1)) + 1))] fun v249 =>
  gV1 v249 fun x250 =>
  gS x250 fun y251 =>
  idxK 10 s0 (iv .i64 s5) fun v252 =>
  (padd 6 v252).bind fun v253 =>
  (padd 3 v253).bind fun v254 =>
  stK 1 h248 v254 (.s (.str y251)) fun h255 =>
  Lp.laws_markChangeS 0 [s0, iv .i64 (IntKind.i64.wrap ((IntKind.i64.wrap ((IntKind.i64.wrap ((IntKind.i64.wrap ((IntKind.i64.wrap ((IntKind.i64.wrap ((IntKind.i64.wrap ((IntKind.i64.wrap ((IntKind.i64.wrap ((IntKind.i64.wrap (s1 + 1)) + 1)) + 1)) + 1)) + 1)) + 1)) + 1)) + 1)) + 1)) + 1)), iv .i64 (IntKind.i64.wrap (s5 + 1))] (tidy h [s0, iv .i64 (IntKind.i64.wrap ((IntKind.i64.wrap ((IntKind.i64.wrap ((IntKind.i64.wrap ((IntKind.i64.wrap ((IntKind.i64.wrap ((IntKind.i64.wrap ((IntKind.i64.wrap ((IntKind.i64.wrap ((IntKind.i64.wrap (s1 + 1)) + 1)) + 1)) + 1)) + 1)) + 1)) + 1)) + 1)) + 1)) + 1)), iv .i64 (IntKind.i64.wrap (s5 + 1))] h255))
  (some (.done [iv .i64 s1] (tidy h [iv .i64 s1] h))) := by
  unfold Lp.laws_markChangeS; rw [loop_eq]; kernel_rfl

theorem eq_laws_markChangesResult (a0_0 : Int) (a0_1 : S) (a1 : Int) (h : H) : call Ev Fn.laws_markChangesResult [.agg [.int .i64 a0_0, a0_1], iv .i64 a1] h =
  (load1 (h.new 0 [.int .i64 a0_0, a0_1]) (pv h.n 1)).bind fun x101 =>
  (call Ev Fn.laws_markChangeS [.s x101, iv .i64 a1] (h.new 0 [.int .i64 a0_0, a0_1])).bind fun p102 =>
  gV1 p102.1 fun x103 =>
  gI .i64 x103 fun i104 =>
  some (iv .i64 i104, tidy (h.new 0 [.int .i64 a0_0, a0_1]) [p102.1] p102.2) := by
  rw [call_eq]; kernel_rfl

theorem pu_laws_heldChangeS (a0 : List (List S)) (a1 : Int) : pureV (call Ev) Fn.laws_heldChangeS [lv a0, iv .i64 a1] =
  (Lp.laws_heldChangeS 0 [lv a0, iv .i64 a1, iv .i64 0] (D 0)).bind fun o101 => lcase o101 (fun l102 h103 =>
  (l102[0]?).bind fun w106 =>
  gV1 w106 fun x107 =>
  gI .i64 x107 fun i108 =>
  some (iv .i64 i108)) (fun v104 h105 =>
  frzV h105 v104) := by
  rw [pure_eq]; kernel_rfl

theorem eq_laws_heldChangeS_l0 (s0 : List (List S)) (s1 : Int) (s5 : Int) (h : H) : Lp.laws_heldChangeS 0 [lv s0, iv .i64 s1, iv .i64 s5] h =
  vcase (bv (decide (s5 < (s0.length : Int))))
  (idxF 10 s0 s5 fun r203 =>
  (r203[0]?).bind fun x204 =>
  gB x204 fun q205 =>
  (bin Ev .rem 3 (iv .i64 s1) (iv .i64 3)).bind fun b206 =>
  gV1 b206 fun x207 =>
  gI .i64 x207 fun i208 =>
  vcase (bv (!(q205 == (i208 == 0))))
  (some (.ret (iv .i64 (-1)) h))
  (idxF 10 s0 s5 fun r210 =>
  (r210[1]?).bind fun x211 =>
  gI .i64 x211 fun i212 =>
  vcase (bv (i212 != (IntKind.i64.wrap (s1 + 1))))
  (some (.ret (iv .i64 (-1)) h))
  (idxF 10 s0 s5 fun r214 =>
  (r214[2]?).bind fun x215 =>
  gI .i64 x215 fun i216 =>
  vcase (bv (i216 != (IntKind.i64.wrap ((IntKind.i64.wrap (s1 + 1)) + 1))))
  (some (.ret (iv .i64 (-1)) h))
  (idxF 10 s0 s5 fun r218 =>
  (r218[3]?).bind fun x219 =>
  gI .i64 x219 fun i220 =>
  vcase (bv (i220 != (IntKind.i64.wrap ((IntKind.i64.wrap ((IntKind.i64.wrap (s1 + 1)) + 1)) + 1))))
  (some (.ret (iv .i64 (-1)) h))
  (idxF 10 s0 s5 fun r222 =>
  (r222[4]?).bind fun x223 =>
  gS x223 fun y224 =>
  pcallS (call Ev) Fn.laws_markText [iv .i64 (IntKind.i64.wrap ((IntKind.i64.wrap ((IntKind.i64.wrap ((IntKind.i64.wrap (s1 + 1)) + 1)) + 1)) + 1))] fun v225 =>
  gV1 v225 fun x226 =>
  gS x226 fun y227 =>
  hchk h h (
  vcase (bv (!((y224 : ByteArray).toList == (y227 : ByteArray).toList)))
  (some (.ret (iv .i64 (-1)) h))
  (idxF 10 s0 s5 fun r229 =>
  (r229[5]?).bind fun x230 =>
  gB x230 fun q231 =>
  (bin Ev .rem 3 (iv .i64 (IntKind.i64.wrap ((IntKind.i64.wrap ((IntKind.i64.wrap ((IntKind.i64.wrap ((IntKind.i64.wrap (s1 + 1)) + 1)) + 1)) + 1)) + 1))) (iv .i64 3)).bind fun b232 =>
  gV1 b232 fun x233 =>
  gI .i64 x233 fun i234 =>
  vcase (bv (!(q231 == (i234 == 0))))
  (some (.ret (iv .i64 (-1)) h))
  (idxF 10 s0 s5 fun r236 =>
  (r236[6]?).bind fun x237 =>
  gI .i64 x237 fun i238 =>
  vcase (bv (i238 != (IntKind.i64.wrap ((IntKind.i64.wrap ((IntKind.i64.wrap ((IntKind.i64.wrap ((IntKind.i64.wrap ((IntKind.i64.wrap (s1 + 1)) + 1)) + 1)) + 1)) + 1)) + 1))))
  (some (.ret (iv .i64 (-1)) h))
  (idxF 10 s0 s5 fun r240 =>
  (r240[7]?).bind fun x241 =>
  gI .i64 x241 fun i242 =>
  vcase (bv (i242 != (IntKind.i64.wrap ((IntKind.i64.wrap ((IntKind.i64.wrap ((IntKind.i64.wrap ((IntKind.i64.wrap ((IntKind.i64.wrap ((IntKind.i64.wrap (s1 + 1)) + 1)) + 1)) + 1)) + 1)) + 1)) + 1))))
  (some (.ret (iv .i64 (-1)) h))
  (idxF 10 s0 s5 fun r244 =>
  (r244[8]?).bind fun x245 =>
  gI .i64 x245 fun i246 =>
  vcase (bv (i246 != (IntKind.i64.wrap ((IntKind.i64.wrap ((IntKind.i64.wrap ((IntKind.i64.wrap ((IntKind.i64.wrap ((IntKind.i64.wrap ((IntKind.i64.wrap ((IntKind.i64.wrap (s1 + 1)) + 1)) + 1)) + 1)) + 1)) + 1)) + 1)) + 1))))
  (some (.ret (iv .i64 (-1)) h))
  (idxF 10 s0 s5 fun r248 =>
  (r248[9]?).bind fun x249 =>
  gS x249 fun y250 =>
  pcallS (call Ev) Fn.laws_markText [iv .i64 (IntKind.i64.wrap ((IntKind.i64.wrap ((IntKind.i64.wrap ((IntKind.i64.wrap ((IntKind.i64.wrap ((IntKind.i64.wrap ((IntKind.i64.wrap ((IntKind.i64.wrap ((IntKind.i64.wrap (s1 + 1)) + 1)) + 1)) + 1)) + 1)) + 1)) + 1)) + 1)) + 1))] fun v251 =>
  gV1 v251 fun x252 =>
  gS x252 fun y253 =>
  hchk h h (
  vcase (bv (!((y250 : ByteArray).toList == (y253 : ByteArray).toList)))
  (some (.ret (iv .i64 (-1)) h))
  (Lp.laws_heldChangeS 0 [lv s0, iv .i64 (IntKind.i64.wrap ((IntKind.i64.wrap ((IntKind.i64.wrap ((IntKind.i64.wrap ((IntKind.i64.wrap ((IntKind.i64.wrap ((IntKind.i64.wrap ((IntKind.i64.wrap ((IntKind.i64.wrap ((IntKind.i64.wrap (s1 + 1)) + 1)) + 1)) + 1)) + 1)) + 1)) + 1)) + 1)) + 1)) + 1)), iv .i64 (IntKind.i64.wrap (s5 + 1))] (tidy h [lv s0, iv .i64 (IntKind.i64.wrap ((IntKind.i64.wrap ((IntKind.i64.wrap ((IntKind.i64.wrap ((IntKind.i64.wrap ((IntKind.i64.wrap ((IntKind.i64.wrap ((IntKind.i64.wrap ((IntKind.i64.wrap ((IntKind.i64.wrap (s1 + 1)) + 1)) + 1)) + 1)) + 1)) + 1)) + 1)) + 1)) + 1)) + 1)), iv .i64 (IntKind.i64.wrap (s5 + 1))] h))))))))))))))
  (some (.done [iv .i64 s1] (tidy h [iv .i64 s1] h))) := by
  unfold Lp.laws_heldChangeS; rw [loop_eq]; kernel_rfl

theorem pu_laws_heldChangesResult (a0_0 : Int) (a0_1 : List (List S)) (a1 : Int) : pureV (call Ev) Fn.laws_heldChangesResult [.agg [.int .i64 a0_0, .fs a0_1], iv .i64 a1] =
  pcallS (call Ev) Fn.laws_heldChangeS [lv a0_1, iv .i64 a1] fun v101 =>
  gV1 v101 fun x102 =>
  gI .i64 x102 fun i103 =>
  vcase (bv (decide (i103 < 0)))
  (some (iv .i64 (-1)))
  (some (iv .i64 i103)) := by
  rw [pure_eq]; kernel_rfl

noncomputable def Jn.laws_FnExactInverseOf_0 (q215 : Bool) (h123 : H) (p145 : V × H) (h118 : H) (a0 : List (List S)) : Option (V) :=
  vcase (bv q215)
  (some (bv false))
  ((loadN 2 (tidy h123 [p145.1] p145.2) (pv h118.n 0)).bind fun c217 =>
  (c217[0]?).bind fun x218 =>
  gI .i64 x218 fun i219 =>
  (c217[1]?).bind fun x220 =>
  if c217.length = 2 then
  (call Ev Fn.laws_markChangesResult [.agg [.int .i64 i219, x220], iv .i64 1] (tidy h123 [p145.1] p145.2)).bind fun p221 =>
  gV1 p221.1 fun x222 =>
  gI .i64 x222 fun i223 =>
  (loadN 2 (tidy (tidy h123 [p145.1] p145.2) [p221.1] p221.2) (pv h118.n 0)).bind fun c224 =>
  (c224[0]?).bind fun x225 =>
  gI .i64 x225 fun i226 =>
  (c224[1]?).bind fun x227 =>
  if c224.length = 2 then
  (frzVs (tidy (tidy h123 [p145.1] p145.2) [p221.1] p221.2) [.agg [.int .i64 i226, x227], iv .i64 1]).bind fun l228 =>
  pcallS (call Ev) Fn.laws_heldChangesResult (normVs [] l228) fun v229 =>
  gV1 v229 fun x230 =>
  gI .i64 x230 fun i231 =>
  vcase (bv (decide (i231 < 0)))
  (some (bv false))
  (vcase (bv (i231 != i223))
  (some (bv false))
  ((pureV (call Ev) Fn.laws_toChangeS [lv a0]).bind fun v234 =>
  gV1 v234 fun x235 =>
  gF x235 fun z236 =>
  (pureV (call Ev) Fn.impl_InverseOf [lv z236]).bind fun v237 =>
  gVA v237 fun c238 =>
  (c238[0]?).bind fun x239 =>
  gI .i64 x239 fun i240 =>
  (c238[1]?).bind fun x241 =>
  gF x241 fun z242 =>
  if c238.length = 2 then
  stK 2 ((tidy (tidy h123 [p145.1] p145.2) [p221.1] p221.2).new 0 [.int .i64 0, .sl none 0]) (pv ((tidy (tidy h123 [p145.1] p145.2) [p221.1] p221.2).n) 0) (.agg [.int .i64 i240, .fs z242]) fun h243 =>
  (loadN 2 h243 (pv ((tidy (tidy h123 [p145.1] p145.2) [p221.1] p221.2).n) 0)).bind fun c244 =>
  (c244[0]?).bind fun x245 =>
  gI .i64 x245 fun i246 =>
  (c244[1]?).bind fun x247 =>
  if c244.length = 2 then
  (loadN 2 h243 (pv 0 0)).bind fun c248 =>
  (c248[0]?).bind fun x249 =>
  gI .i64 x249 fun i250 =>
  (c248[1]?).bind fun x251 =>
  if c248.length = 2 then
  (frzVs h243 [.agg [.int .i64 i246, x247], .agg [.int .i64 i250, x251]]).bind fun l252 =>
  pcallS (call Ev) Fn.laws_eqChangesResult (normVs [] l252) fun v253 =>
  gV1 v253 fun x254 =>
  gB x254 fun q255 =>
  vcase (bv (!q255))
  (some (bv false))
  ((loadN 2 h243 (pv h118.n 0)).bind fun c257 =>
  (c257[0]?).bind fun x258 =>
  gI .i64 x258 fun i259 =>
  (c257[1]?).bind fun x260 =>
  if c257.length = 2 then
  (frzVs h243 [.agg [.int .i64 i259, x260], iv .i64 1]).bind fun l261 =>
  pcallS (call Ev) Fn.laws_heldChangesResult (normVs [] l261) fun v262 =>
  gV1 v262 fun x263 =>
  gI .i64 x263 fun i264 =>
  vcase (bv (decide (i264 < 0)))
  (some (bv false))
  (vcase (bv (i264 != i223))
  (some (bv false))
  (some (bv true)))
  else none)
  else none
  else none
  else none))
  else none
  else none)

theorem pu_laws_FnExactInverseOf (a0 : List (List S)) : pureV (call Ev) Fn.laws_FnExactInverseOf [lv a0] =
  pcallS (call Ev) Fn.laws_szChangeS [lv a0, iv .i64 1048576] fun v101 =>
  gV1 v101 fun x102 =>
  gI .i64 x102 fun i103 =>
  vcase (bv (decide (i103 < 0)))
  (some (bv true))
  ((pureV (call Ev) Fn.laws_toChangeS [lv a0]).bind fun v105 =>
  gV1 v105 fun x106 =>
  gF x106 fun z107 =>
  (pureV (call Ev) Fn.spec_InverseOf [lv z107]).bind fun v108 =>
  gVA v108 fun c109 =>
  (c109[0]?).bind fun x110 =>
  gI .i64 x110 fun i111 =>
  (c109[1]?).bind fun x112 =>
  gF x112 fun z113 =>
  if c109.length = 2 then
  pcallF (call Ev) Fn.laws_toChangeS true [lv a0] (((D 0).new 0 [.int .i64 0, .sl none 0]).put 0 (.rw 0 [.int .i64 i111, .fs z113])) fun v114 h115 =>
  (frzVs h115 [v114]).bind fun l116 =>
  pcallF (call Ev) Fn.impl_InverseOf ([v114].all offV) (normVs [] l116) h115 fun v117 h118 =>
  gVA v117 fun c119 =>
  (c119[0]?).bind fun x120 =>
  gI .i64 x120 fun i121 =>
  (c119[1]?).bind fun x122 =>
  if c119.length = 2 then
  stK 2 (h118.new 0 [.int .i64 0, .sl none 0]) (pv h118.n 0) (.agg [.int .i64 i121, x122]) fun h123 =>
  (loadN 2 h123 (pv h118.n 0)).bind fun c124 =>
  (c124[0]?).bind fun x125 =>
  gI .i64 x125 fun i126 =>
  (c124[1]?).bind fun x127 =>
  if c124.length = 2 then
  (loadN 2 h123 (pv 0 0)).bind fun c128 =>
  (c128[0]?).bind fun x129 =>
  gI .i64 x129 fun i130 =>
  (c128[1]?).bind fun x131 =>
  if c128.length = 2 then
  (frzVs h123 [.agg [.int .i64 i126, x127], .agg [.int .i64 i130, x131]]).bind fun l132 =>
  pcallS (call Ev) Fn.laws_eqChangesResult (normVs [] l132) fun v133 =>
  gV1 v133 fun x134 =>
  gB x134 fun q135 =>
  vcase (bv (!q135))
  (some (bv false))
  ((pureV (call Ev) Fn.laws_toChangeS [lv a0]).bind fun v137 =>
  gV1 v137 fun x138 =>
  gF x138 fun z139 =>
  (frzVs h123 [v114, lv z139]).bind fun l140 =>
  pcallS (call Ev) Fn.laws_eqChangeS (normVs [] l140) fun v141 =>
  gV1 v141 fun x142 =>
  gB x142 fun q143 =>
  vcase (bv (!q143))
  (some (bv false))
  ((call Ev Fn.laws_markChangeS [v114, iv .i64 1] h123).bind fun p145 =>
  gV1 p145.1 fun x146 =>
  gI .i64 x146 fun i147 =>
  vcase (bv (decide (i147 < 0)))
  (Jn.laws_FnExactInverseOf_0 true h123 p145 h118 a0)
  ((loadN 2 (tidy h123 [p145.1] p145.2) (pv h118.n 0)).bind fun c150 =>
  (c150[0]?).bind fun x151 =>
  gI .i64 x151 fun i152 =>
  (c150[1]?).bind fun x153 =>
  if c150.length = 2 then
  (loadN 2 (tidy h123 [p145.1] p145.2) (pv 0 0)).bind fun c154 =>
  (c154[0]?).bind fun x155 =>
  gI .i64 x155 fun i156 =>
  (c154[1]?).bind fun x157 =>
  if c154.length = 2 then
  (frzVs (tidy h123 [p145.1] p145.2) [.agg [.int .i64 i152, x153], .agg [.int .i64 i156, x157]]).bind fun l158 =>
  pcallS (call Ev) Fn.laws_eqChangesResult (normVs [] l158) fun v159 =>
  gV1 v159 fun x160 =>
  gB x160 fun q161 =>
  Jn.laws_FnExactInverseOf_0 (!q161) h123 p145 h118 a0
  else none
  else none)))
  else none
  else none
  else none
  else none) := by
  rw [pure_eq]; kernel_rfl

theorem eq_spec_l6Put (a0 : List (List S)) (a1_0 : Int) (a1_1 : Int) (a1_2 : Int) (a1_3 : ByteArray) (n : Nat) : call Ev Fn.spec_l6Put [lv a0, .agg [.int .i64 a1_0, .int .i64 a1_1, .int .i64 a1_2, .str a1_3]] (D n) =
  (Lp.spec_l6Put 0 [lv a0, pv ((D n).n) 0, iv .i64 0] ((D n).new 0 [.int .i64 a1_0, .int .i64 a1_1, .int .i64 a1_2, .str a1_3])).bind fun o101 => lcase o101 (fun l102 h103 =>
  (l102[0]?).bind fun w106 =>
  gV1 w106 fun x107 =>
  gF x107 fun z108 =>
  (l102[1]?).bind fun w109 =>
  (l102[2]?).bind fun w110 =>
  gV1 w110 fun x111 =>
  gI .i64 x111 fun i112 =>
  slF 4 z108 none (some (iv .i64 i112)) fun z113 =>
  (appS 4 (h103.new 4 []) (sv h103.n 0 0) (lv z113)).bind fun p114 =>
  ldK (.agg [.i .i64, .i .i64, .i .i64, .s]) ⟨4, 40, [.int .i64 0, .int .i64 0, .int .i64 0, .str ⟨#[]⟩], true, .st [(0, 2), (1, 2), (2, 2), (3, 9)], true⟩ p114.2 w109 fun v115 =>
  gVA v115 fun c116 =>
  (c116[0]?).bind fun x117 =>
  gI .i64 x117 fun i118 =>
  (c116[1]?).bind fun x119 =>
  gI .i64 x119 fun i120 =>
  (c116[2]?).bind fun x121 =>
  gI .i64 x121 fun i122 =>
  (c116[3]?).bind fun x123 =>
  gS x123 fun y124 =>
  if c116.length = 4 then
  slF 4 z108 (some (iv .i64 i112)) none fun z125 =>
  hchk p114.2 (p114.2.new 4 [.int .i64 i118, .int .i64 i120, .int .i64 i122, .str y124]) (
  (appS 4 (p114.2.new 4 [.int .i64 i118, .int .i64 i120, .int .i64 i122, .str y124]) p114.1 (sv p114.2.n 0 1)).bind fun p126 =>
  (appS 4 p126.2 p126.1 (lv z125)).bind fun p127 =>
  some (p127.1, p127.2))
  else none) (fun v104 h105 =>
  some (v104, h105)) := by
  rw [call_eq]; kernel_rfl

theorem eq_spec_l6Put_l0 (s0 : List (List S)) (s3 : V) (s5 : Int) (h : H) : Lp.spec_l6Put 0 [lv s0, s3, iv .i64 s5] h =
  vcase (bv (decide (s5 < (s0.length : Int))))
  (idxF 4 s0 s5 fun r202 =>
  (frzVs h [fv r202 0, s3]).bind fun l203 =>
  pcallS (call Ev) Fn.spec_l1Before (normVs [4, 4] l203) fun v204 =>
  gV1 v204 fun x205 =>
  gB x205 fun q206 =>
  vcase (bv q206)
  (Lp.spec_l6Put 0 [lv s0, s3, iv .i64 (IntKind.i64.wrap (s5 + 1))] (tidy h [lv s0, s3, iv .i64 (IntKind.i64.wrap (s5 + 1))] h))
  (some (.done [lv s0, s3, iv .i64 s5] (tidy h [lv s0, s3, iv .i64 s5] h))))
  (some (.done [lv s0, s3, iv .i64 s5] (tidy h [lv s0, s3, iv .i64 s5] h))) := by
  unfold Lp.spec_l6Put; rw [loop_eq]; kernel_rfl

end Vm
