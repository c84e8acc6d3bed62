/-
  What each function, and each round of each loop, comes to in the small machine. Written by a program (gen3.py).
-/
import Derived.Test.YtainemlfiibooaaEnv
set_option linter.unusedVariables false
set_option maxRecDepth 100000
namespace Vm
open Go

noncomputable def Jn.laws_FnExactPackAll_0 (q215 : Bool) (h123 : H) (p145 : V × H) (h118 : H) (a0 : List (List S)) : Option (V) :=
  vcase (bv q215)
  (some (bv false))
  ((loadN 2 (tidy h123 [p145.1] p145.2) (pv h118.n 0)).bind fun c217 =>
  (c217[0]?).bind fun x218 =>
  gI .i64 x218 fun i219 =>
  (c217[1]?).bind fun x220 =>
  if c217.length = 2 then
  (call Ev Fn.laws_markBytesResult [.agg [.int .i64 i219, x220], iv .i64 1] (tidy h123 [p145.1] p145.2)).bind fun p221 =>
  gV1 p221.1 fun x222 =>
  gI .i64 x222 fun i223 =>
  (loadN 2 (tidy (tidy h123 [p145.1] p145.2) [p221.1] p221.2) (pv h118.n 0)).bind fun c224 =>
  (c224[0]?).bind fun x225 =>
  gI .i64 x225 fun i226 =>
  (c224[1]?).bind fun x227 =>
  if c224.length = 2 then
  (frzVs (tidy (tidy h123 [p145.1] p145.2) [p221.1] p221.2) [.agg [.int .i64 i226, x227], iv .i64 1]).bind fun l228 =>
  pcallS (call Ev) Fn.laws_heldBytesResult (normVs [] l228) fun v229 =>
  gV1 v229 fun x230 =>
  gI .i64 x230 fun i231 =>
  vcase (bv (decide (i231 < 0)))
  (some (bv false))
  (vcase (bv (i231 != i223))
  (some (bv false))
  ((pureV (call Ev) Fn.laws_toRecordS [lv a0]).bind fun v234 =>
  gV1 v234 fun x235 =>
  gF x235 fun z236 =>
  (pureV (call Ev) Fn.impl_PackAll [lv z236]).bind fun v237 =>
  gVA v237 fun c238 =>
  (c238[0]?).bind fun x239 =>
  gI .i64 x239 fun i240 =>
  (c238[1]?).bind fun x241 =>
  gF x241 fun z242 =>
  if c238.length = 2 then
  stK 2 ((tidy (tidy h123 [p145.1] p145.2) [p221.1] p221.2).new 0 [.int .i64 0, .sl none 0]) (pv ((tidy (tidy h123 [p145.1] p145.2) [p221.1] p221.2).n) 0) (.agg [.int .i64 i240, .fs z242]) fun h243 =>
  (loadN 2 h243 (pv ((tidy (tidy h123 [p145.1] p145.2) [p221.1] p221.2).n) 0)).bind fun c244 =>
  (c244[0]?).bind fun x245 =>
  gI .i64 x245 fun i246 =>
  (c244[1]?).bind fun x247 =>
  if c244.length = 2 then
  (loadN 2 h243 (pv 0 0)).bind fun c248 =>
  (c248[0]?).bind fun x249 =>
  gI .i64 x249 fun i250 =>
  (c248[1]?).bind fun x251 =>
  if c248.length = 2 then
  (frzVs h243 [.agg [.int .i64 i246, x247], .agg [.int .i64 i250, x251]]).bind fun l252 =>
  pcallS (call Ev) Fn.laws_eqBytesResult (normVs [] l252) fun v253 =>
  gV1 v253 fun x254 =>
  gB x254 fun q255 =>
  vcase (bv (!q255))
  (some (bv false))
  ((loadN 2 h243 (pv h118.n 0)).bind fun c257 =>
  (c257[0]?).bind fun x258 =>
  gI .i64 x258 fun i259 =>
  (c257[1]?).bind fun x260 =>
  if c257.length = 2 then
  (frzVs h243 [.agg [.int .i64 i259, x260], iv .i64 1]).bind fun l261 =>
  pcallS (call Ev) Fn.laws_heldBytesResult (normVs [] l261) fun v262 =>
  gV1 v262 fun x263 =>
  gI .i64 x263 fun i264 =>
  vcase (bv (decide (i264 < 0)))
  (some (bv false))
  (vcase (bv (i264 != i223))
  (some (bv false))
  (some (bv true)))
  else none)
  else none
  else none
  else none))
  else none
  else none)

theorem pu_laws_FnExactPackAll (a0 : List (List S)) : pureV (call Ev) Fn.laws_FnExactPackAll [lv a0] =
  pcallS (call Ev) Fn.laws_szRecordS [lv a0, iv .i64 1048576] fun v101 =>
  gV1 v101 fun x102 =>
  gI .i64 x102 fun i103 =>
  vcase (bv (decide (i103 < 0)))
  (some (bv true))
  ((pureV (call Ev) Fn.laws_toRecordS [lv a0]).bind fun v105 =>
  gV1 v105 fun x106 =>
  gF x106 fun z107 =>
  (pureV (call Ev) Fn.spec_PackAll [lv z107]).bind fun v108 =>
  gVA v108 fun c109 =>
  (c109[0]?).bind fun x110 =>
  gI .i64 x110 fun i111 =>
  (c109[1]?).bind fun x112 =>
  gF x112 fun z113 =>
  if c109.length = 2 then
  pcallF (call Ev) Fn.laws_toRecordS true [lv a0] (((D 0).new 0 [.int .i64 0, .sl none 0]).put 0 (.rw 0 [.int .i64 i111, .fs z113])) fun v114 h115 =>
  (frzVs h115 [v114]).bind fun l116 =>
  pcallF (call Ev) Fn.impl_PackAll ([v114].all offV) (normVs [] l116) h115 fun v117 h118 =>
  gVA v117 fun c119 =>
  (c119[0]?).bind fun x120 =>
  gI .i64 x120 fun i121 =>
  (c119[1]?).bind fun x122 =>
  if c119.length = 2 then
  stK 2 (h118.new 0 [.int .i64 0, .sl none 0]) (pv h118.n 0) (.agg [.int .i64 i121, x122]) fun h123 =>
  (loadN 2 h123 (pv h118.n 0)).bind fun c124 =>
  (c124[0]?).bind fun x125 =>
  gI .i64 x125 fun i126 =>
  (c124[1]?).bind fun x127 =>
  if c124.length = 2 then
  (loadN 2 h123 (pv 0 0)).bind fun c128 =>
  (c128[0]?).bind fun x129 =>
  gI .i64 x129 fun i130 =>
  (c128[1]?).bind fun x131 =>
  if c128.length = 2 then
  (frzVs h123 [.agg [.int .i64 i126, x127], .agg [.int .i64 i130, x131]]).bind fun l132 =>
  pcallS (call Ev) Fn.laws_eqBytesResult (normVs [] l132) fun v133 =>
  gV1 v133 fun x134 =>
  gB x134 fun q135 =>
  vcase (bv (!q135))
  (some (bv false))
  ((pureV (call Ev) Fn.laws_toRecordS [lv a0]).bind fun v137 =>
  gV1 v137 fun x138 =>
  gF x138 fun z139 =>
  (frzVs h123 [v114, lv z139]).bind fun l140 =>
  pcallS (call Ev) Fn.laws_eqRecordS (normVs [] l140) fun v141 =>
  gV1 v141 fun x142 =>
  gB x142 fun q143 =>
  vcase (bv (!q143))
  (some (bv false))
  ((call Ev Fn.laws_markRecordS [v114, iv .i64 1] h123).bind fun p145 =>
  gV1 p145.1 fun x146 =>
  gI .i64 x146 fun i147 =>
  vcase (bv (decide (i147 < 0)))
  (Jn.laws_FnExactPackAll_0 true h123 p145 h118 a0)
  ((loadN 2 (tidy h123 [p145.1] p145.2) (pv h118.n 0)).bind fun c150 =>
  (c150[0]?).bind fun x151 =>
  gI .i64 x151 fun i152 =>
  (c150[1]?).bind fun x153 =>
  if c150.length = 2 then
  (loadN 2 (tidy h123 [p145.1] p145.2) (pv 0 0)).bind fun c154 =>
  (c154[0]?).bind fun x155 =>
  gI .i64 x155 fun i156 =>
  (c154[1]?).bind fun x157 =>
  if c154.length = 2 then
  (frzVs (tidy h123 [p145.1] p145.2) [.agg [.int .i64 i152, x153], .agg [.int .i64 i156, x157]]).bind fun l158 =>
  pcallS (call Ev) Fn.laws_eqBytesResult (normVs [] l158) fun v159 =>
  gV1 v159 fun x160 =>
  gB x160 fun q161 =>
  Jn.laws_FnExactPackAll_0 (!q161) h123 p145 h118 a0
  else none
  else none)))
  else none
  else none
  else none
  else none) := by
  rw [pure_eq]; kernel_rfl

theorem pu_laws_lwBig (a0 : List (List S)) : pureV (call Ev) Fn.laws_lwBig [lv a0] =
  some (bv (decide ((a0.length : Int) > 1048576))) := by
  rw [pure_eq]; kernel_rfl

theorem eq_spec_l1Source (a0 : List (List S)) (n : Nat) : call Ev Fn.spec_l1Source [lv a0] (D n) =
  some (pv ((D n).n) 0, (D n).new 0 [.fs a0, .int .i64 0]) := by
  rw [call_eq]; kernel_rfl

theorem eq_spec_l1Next (a0_b a0_o : Nat) (a1 : Int) (h : H) : call Ev Fn.spec_l1Next [pv a0_b a0_o, iv .i64 a1] h =
  (load1 h (pv a0_b (a0_o + 1))).bind fun x101 =>
  gI .i64 x101 fun i102 =>
  stK 1 h (pv a0_b (a0_o + 1)) (iv .i64 (IntKind.i64.wrap (i102 + 1))) fun h103 =>
  vcase (bv (decide (a1 < 1)))
  (some (iv .i64 0, h103))
  ((load1 h103 (pv a0_b (a0_o + 1))).bind fun x105 =>
  gI .i64 x105 fun i106 =>
  (load1 h103 (pv a0_b (a0_o + 0))).bind fun x107 =>
  (lenV (.sl 5) (.s x107)).bind fun v108 =>
  gV1 v108 fun x109 =>
  gI .i64 x109 fun i110 =>
  vcase (bv (i110 == 0))
  ((bin Ev .rem 2 (iv .i64 (IntKind.i64.wrap ((IntKind.i64.wrap (i106 - 1)) * 7))) (iv .i64 a1)).bind fun b112 =>
  gV1 b112 fun x113 =>
  gI .i64 x113 fun i114 =>
  some (iv .i64 i114, h103))
  ((load1 h103 (pv a0_b (a0_o + 0))).bind fun x115 =>
  (bin Ev .rem 2 (iv .i64 (IntKind.i64.wrap (i106 - 1))) (iv .i64 i110)).bind fun b116 =>
  gV1 b116 fun x117 =>
  gI .i64 x117 fun i118 =>
  idxK 1 (.s x115) (iv .i64 i118) fun v119 =>
  ldK (.one (.i .u8)) ⟨1, 1, [.int .u8 0], false, .int .u8, false⟩ h103 v119 fun v120 =>
  gV1 v120 fun x121 =>
  gI .u8 x121 fun i122 =>
  (bin Ev .quo 2 (iv .i64 (IntKind.i64.wrap (i106 - 1))) (iv .i64 i110)).bind fun b123 =>
  gV1 b123 fun x124 =>
  gI .i64 x124 fun i125 =>
  vcase (bv (decide (a1 > 200)))
  ((load1 h103 (pv a0_b (a0_o + 0))).bind fun x127 =>
  (bin Ev .rem 2 (iv .i64 (IntKind.i64.wrap ((IntKind.i64.wrap (i106 - 1)) + 1))) (iv .i64 i110)).bind fun b128 =>
  gV1 b128 fun x129 =>
  gI .i64 x129 fun i130 =>
  idxK 1 (.s x127) (iv .i64 i130) fun v131 =>
  ldK (.one (.i .u8)) ⟨1, 1, [.int .u8 0], false, .int .u8, false⟩ h103 v131 fun v132 =>
  gV1 v132 fun x133 =>
  gI .u8 x133 fun i134 =>
  (bin Ev .rem 2 (iv .i64 (IntKind.i64.wrap ((IntKind.i64.wrap ((IntKind.i64.wrap ((IntKind.i64.wrap ((IntKind.i64.wrap i122) + (IntKind.i64.wrap (i125 * 37)))) * 251)) + (IntKind.i64.wrap ((IntKind.i64.wrap i134) * 13)))) + (IntKind.i64.wrap (i106 - 1))))) (iv .i64 a1)).bind fun b135 =>
  gV1 b135 fun x136 =>
  gI .i64 x136 fun i137 =>
  some (iv .i64 i137, h103))
  ((bin Ev .rem 2 (iv .i64 (IntKind.i64.wrap ((IntKind.i64.wrap i122) + (IntKind.i64.wrap (i125 * 37))))) (iv .i64 a1)).bind fun b138 =>
  gV1 b138 fun x139 =>
  gI .i64 x139 fun i140 =>
  some (iv .i64 i140, h103)))) := by
  rw [call_eq]; kernel_rfl

theorem eq_spec_l1Pick (a0_b a0_o : Nat) (a1 : V) (h : H) : call Ev Fn.spec_l1Pick [pv a0_b a0_o, a1] h =
  (lenV (.sl 2) a1).bind fun v101 =>
  gV1 v101 fun x102 =>
  gI .i64 x102 fun i103 =>
  (call Ev Fn.spec_l1Next [pv a0_b a0_o, iv .i64 i103] h).bind fun p104 =>
  gV1 p104.1 fun x105 =>
  gI .i64 x105 fun i106 =>
  idxK 1 a1 (iv .i64 i106) fun v107 =>
  ldK (.one (.i .i64)) ⟨1, 8, [.int .i64 0], false, .int .i64, false⟩ (tidy h [p104.1] p104.2) v107 fun v108 =>
  gV1 v108 fun x109 =>
  gI .i64 x109 fun i110 =>
  some (iv .i64 i110, tidy h [p104.1] p104.2) := by
  rw [call_eq]; kernel_rfl

theorem eq_spec_l1Chance (a0_b a0_o : Nat) (a1 : Int) (h : H) : call Ev Fn.spec_l1Chance [pv a0_b a0_o, iv .i64 a1] h =
  (call Ev Fn.spec_l1Next [pv a0_b a0_o, iv .i64 a1] h).bind fun p101 =>
  gV1 p101.1 fun x102 =>
  gI .i64 x102 fun i103 =>
  some (bv (i103 == 0), tidy h [p101.1] p101.2) := by
  rw [call_eq]; kernel_rfl

theorem pu_spec_l2New (a0 : Int) : pureV (call Ev) Fn.spec_l2New [iv .u8 a0] =
  (mkSl 1 [.int .u8 0] (D 0) (iv .i64 64) (iv .i64 64)).bind fun p101 =>
  (Lp.spec_l2New 0 [iv .u8 a0, p101.1, iv .i64 0] p101.2).bind fun o102 => lcase o102 (fun l103 h104 =>
  (l103[0]?).bind fun w107 =>
  idxK 1 w107 (iv .i64 0) fun v108 =>
  stK 1 h104 v108 (iv .u8 0) fun h109 =>
  idxK 1 w107 (iv .i64 1) fun v110 =>
  stK 1 h109 v110 (iv .u8 64) fun h111 =>
  frzV h111 w107) (fun v105 h106 =>
  frzV h106 v105) := by
  rw [pure_eq]; kernel_rfl

theorem eq_spec_l2New_l0 (s0 : Int) (s3 : V) (s4 : Int) (h : H) : Lp.spec_l2New 0 [iv .u8 s0, s3, iv .i64 s4] h =
  vcase (bv (decide (s4 < 64)))
  (idxK 1 s3 (iv .i64 s4) fun v203 =>
  stK 1 h v203 (iv .u8 s0) fun h204 =>
  Lp.spec_l2New 0 [iv .u8 s0, s3, iv .i64 (IntKind.i64.wrap (s4 + 1))] (tidy h [iv .u8 s0, s3, iv .i64 (IntKind.i64.wrap (s4 + 1))] h204))
  (some (.done [s3] (tidy h [s3] h))) := by
  unfold Lp.spec_l2New; rw [loop_eq]; kernel_rfl

theorem eq_spec_l1Some (a0_b a0_o : Nat) (a1 : Int) (h : H) : call Ev Fn.spec_l1Some [pv a0_b a0_o, iv .i64 a1] h =
  (Lp.spec_l1Some 0 [pv a0_b a0_o, iv .i64 a1, sv h.n 0 0] (h.new 1 [])).bind fun o101 => lcase o101 (fun l102 h103 =>
  (l102[0]?).bind fun w106 =>
  some (w106, h103)) (fun v104 h105 =>
  some (v104, h105)) := by
  rw [call_eq]; kernel_rfl

theorem eq_spec_l1Some_l0 (s0 : V) (s1 : Int) (s5 : V) (h : H) : Lp.spec_l1Some 0 [s0, iv .i64 s1, s5] h =
  vcase (bv (decide (s1 > 0)))
  ((call Ev Fn.spec_l1Next [s0, iv .i64 256] h).bind fun p203 =>
  gV1 p203.1 fun x204 =>
  gI .i64 x204 fun i205 =>
  (appS 1 ((tidy h [p203.1] p203.2).new 1 [.int .u8 (IntKind.u8.wrap i205)]) s5 (sv ((tidy h [p203.1] p203.2).n) 0 1)).bind fun p206 =>
  Lp.spec_l1Some 0 [s0, iv .i64 (IntKind.i64.wrap (s1 - 1)), p206.1] (tidy h [s0, iv .i64 (IntKind.i64.wrap (s1 - 1)), p206.1] p206.2))
  (some (.done [s5] (tidy h [s5] h))) := by
  unfold Lp.spec_l1Some; rw [loop_eq]; kernel_rfl

theorem pu_spec_l2Count (a0 : List (List S)) : pureV (call Ev) Fn.spec_l2Count [lv a0] =
  idxF 1 a0 0 fun r101 =>
  (r101[0]?).bind fun x102 =>
  gI .u8 x102 fun i103 =>
  some (iv .i64 (IntKind.i64.wrap i103)) := by
  rw [pure_eq]; kernel_rfl

theorem pu_spec_l2Size (a0 : List (List S)) (a1 : Int) : pureV (call Ev) Fn.spec_l2Size [lv a0, iv .i64 a1] =
  idxF 1 a0 (IntKind.i64.wrap (3 + (IntKind.i64.wrap (2 * a1)))) fun r101 =>
  (r101[0]?).bind fun x102 =>
  gI .u8 x102 fun i103 =>
  some (iv .i64 (IntKind.i64.wrap i103)) := by
  rw [pure_eq]; kernel_rfl

theorem pu_spec_l2Has (a0 : List (List S)) (a1 : Int) : pureV (call Ev) Fn.spec_l2Has [lv a0, iv .i64 a1] =
  pcallS (call Ev) Fn.spec_l2Count [lv a0] fun v101 =>
  gV1 v101 fun x102 =>
  gI .i64 x102 fun i103 =>
  pcallS (call Ev) Fn.spec_l1In [iv .i64 a1, iv .i64 0, iv .i64 (IntKind.i64.wrap (i103 - 1))] fun v104 =>
  gV1 v104 fun x105 =>
  gB x105 fun q106 =>
  vcase (bv q106)
  (pcallS (call Ev) Fn.spec_l2Size [lv a0, iv .i64 a1] fun v108 =>
  gV1 v108 fun x109 =>
  gI .i64 x109 fun i110 =>
  some (bv (decide (i110 > 0))))
  (some (bv false)) := by
  rw [pure_eq]; kernel_rfl

theorem pu_spec_l2Drop (a0 : List (List S)) (a1 : Int) : pureV (call Ev) Fn.spec_l2Drop [lv a0, iv .i64 a1] =
  pcallF (call Ev) Fn.spec_l2Copy true [lv a0] (D 0) fun v101 h102 =>
  idxK 1 v101 (iv .i64 (IntKind.i64.wrap (2 + (IntKind.i64.wrap (2 * a1))))) fun v103 =>
  stK 1 h102 v103 (iv .u8 0) fun h104 =>
  idxK 1 v101 (iv .i64 (IntKind.i64.wrap (3 + (IntKind.i64.wrap (2 * a1))))) fun v105 =>
  stK 1 h104 v105 (iv .u8 0) fun h106 =>
  (Lp.spec_l2Drop 0 [v101] h106).bind fun o107 => lcase o107 (fun l108 h109 =>
  (l108[0]?).bind fun w112 =>
  frzV h109 w112) (fun v110 h111 =>
  frzV h111 v110) := by
  rw [pure_eq]; kernel_rfl

theorem eq_spec_l2Drop_l0 (s5 : V) (h : H) : Lp.spec_l2Drop 0 [s5] h =
  idxK 1 s5 (iv .i64 0) fun v201 =>
  ldK (.one (.i .u8)) ⟨1, 1, [.int .u8 0], false, .int .u8, false⟩ h v201 fun v202 =>
  gV1 v202 fun x203 =>
  gI .u8 x203 fun i204 =>
  vcase (bv (decide (i204 > 0)))
  (idxK 1 s5 (iv .i64 0) fun v206 =>
  ldK (.one (.i .u8)) ⟨1, 1, [.int .u8 0], false, .int .u8, false⟩ h v206 fun v207 =>
  gV1 v207 fun x208 =>
  gI .u8 x208 fun i209 =>
  (frzVs h [s5, iv .i64 (IntKind.i64.wrap ((IntKind.i64.wrap i209) - 1))]).bind fun l210 =>
  pcallS (call Ev) Fn.spec_l2Size (normVs [] l210) fun v211 =>
  gV1 v211 fun x212 =>
  gI .i64 x212 fun i213 =>
  vcase (bv (i213 == 0))
  (idxK 1 s5 (iv .i64 0) fun v218 =>
  ldK (.one (.i .u8)) ⟨1, 1, [.int .u8 0], false, .int .u8, false⟩ h v218 fun v219 =>
  gV1 v219 fun x220 =>
  gI .u8 x220 fun i221 =>
  idxK 1 s5 (iv .i64 0) fun v222 =>
  stK 1 h v222 (iv .u8 (IntKind.u8.wrap (i221 - 1))) fun h223 =>
  Lp.spec_l2Drop 0 [s5] (tidy h [s5] h223))
  (some (.done [s5] (tidy h [s5] h))))
  (some (.done [s5] (tidy h [s5] h))) := by
  unfold Lp.spec_l2Drop; rw [loop_eq]; kernel_rfl

theorem eq_spec_l2Stand (a0 : V) (a1 : Int) (a2 : Int) (a3 : V) (h : H) : call Ev Fn.spec_l2Stand [a0, iv .i64 a1, iv .i64 a2, a3] h =
  slK 1 h a0 (some (iv .i64 a2)) none fun v101 =>
  (copS 1 h v101 a3).bind fun p102 =>
  gV1 p102.1 fun x103 =>
  gI .i64 x103 fun i104 =>
  idxK 1 a0 (iv .i64 (IntKind.i64.wrap (2 + (IntKind.i64.wrap (2 * a1))))) fun v105 =>
  stK 1 p102.2 v105 (iv .u8 (IntKind.u8.wrap a2)) fun h106 =>
  (lenV (.sl 5) a3).bind fun v107 =>
  gV1 v107 fun x108 =>
  gI .i64 x108 fun i109 =>
  idxK 1 a0 (iv .i64 (IntKind.i64.wrap (3 + (IntKind.i64.wrap (2 * a1))))) fun v110 =>
  stK 1 h106 v110 (iv .u8 (IntKind.u8.wrap i109)) fun h111 =>
  some (.tup [], h111) := by
  rw [call_eq]; kernel_rfl

theorem pu_spec_l2Place (a0 : List (List S)) (a1 : Int) : pureV (call Ev) Fn.spec_l2Place [lv a0, iv .i64 a1] =
  idxF 1 a0 (IntKind.i64.wrap (2 + (IntKind.i64.wrap (2 * a1)))) fun r101 =>
  (r101[0]?).bind fun x102 =>
  gI .u8 x102 fun i103 =>
  some (iv .i64 (IntKind.i64.wrap i103)) := by
  rw [pure_eq]; kernel_rfl

theorem pu_spec_l2Free (a0 : List (List S)) : pureV (call Ev) Fn.spec_l2Free [lv a0] =
  pcallS (call Ev) Fn.spec_l2Count [lv a0] fun v101 =>
  gV1 v101 fun x102 =>
  gI .i64 x102 fun i103 =>
  (Lp.spec_l2Free 0 [lv a0, iv .i64 (IntKind.i64.wrap (62 - (IntKind.i64.wrap (2 * i103)))), iv .i64 0] (D 0)).bind fun o104 => lcase o104 (fun l105 h106 =>
  (l105[0]?).bind fun w109 =>
  gV1 w109 fun x110 =>
  gI .i64 x110 fun i111 =>
  some (iv .i64 i111)) (fun v107 h108 =>
  frzV h108 v107) := by
  rw [pure_eq]; kernel_rfl

theorem eq_spec_l2Free_l0 (s0 : List (List S)) (s3 : Int) (s4 : Int) (h : H) : Lp.spec_l2Free 0 [lv s0, iv .i64 s3, iv .i64 s4] h =
  pcallS (call Ev) Fn.spec_l2Count [lv s0] fun v201 =>
  gV1 v201 fun x202 =>
  gI .i64 x202 fun i203 =>
  vcase (bv (decide (s4 < i203)))
  (pcallS (call Ev) Fn.spec_l2Size [lv s0, iv .i64 s4] fun v206 =>
  gV1 v206 fun x207 =>
  gI .i64 x207 fun i208 =>
  Lp.spec_l2Free 0 [lv s0, iv .i64 (IntKind.i64.wrap (s3 - i208)), iv .i64 (IntKind.i64.wrap (s4 + 1))] (tidy h [lv s0, iv .i64 (IntKind.i64.wrap (s3 - i208)), iv .i64 (IntKind.i64.wrap (s4 + 1))] h))
  (some (.done [iv .i64 s3] (tidy h [iv .i64 s3] h))) := by
  unfold Lp.spec_l2Free; rw [loop_eq]; kernel_rfl

theorem pu_spec_l2Low (a0 : List (List S)) : pureV (call Ev) Fn.spec_l2Low [lv a0] =
  idxF 1 a0 1 fun r101 =>
  (r101[0]?).bind fun x102 =>
  gI .u8 x102 fun i103 =>
  some (iv .i64 (IntKind.i64.wrap i103)) := by
  rw [pure_eq]; kernel_rfl

theorem pu_spec_l2Set (a0 : List (List S)) (a1 : Int) (a2 : List (List S)) : pureV (call Ev) Fn.spec_l2Set [lv a0, iv .i64 a1, lv a2] =
  pcallS (call Ev) Fn.spec_l2Size [lv a0, iv .i64 a1] fun v101 =>
  gV1 v101 fun x102 =>
  gI .i64 x102 fun i103 =>
  pcallF (call Ev) Fn.spec_l2Copy true [lv a0] (D 0) fun v104 h105 =>
  vcase (bv (decide ((a2.length : Int) ≤ i103)))
  (pcallS (call Ev) Fn.spec_l2Place [lv a0, iv .i64 a1] fun v107 =>
  gV1 v107 fun x108 =>
  gI .i64 x108 fun i109 =>
  (call Ev Fn.spec_l2Stand [v104, iv .i64 a1, iv .i64 (IntKind.i64.wrap ((IntKind.i64.wrap (i109 + i103)) - (a2.length : Int))), lv a2] h105).bind fun p110 =>
  (V.toA v104).bind fun t111 =>
  frzV (tidy h105 [p110.1] p110.2) (.tup [t111, .s (.int .i64 0)]))
  (pcallS (call Ev) Fn.spec_l2Free [lv a0] fun v112 =>
  gV1 v112 fun x113 =>
  gI .i64 x113 fun i114 =>
  vcase (bv (decide ((IntKind.i64.wrap (i114 + i103)) < (a2.length : Int))))
  (some (.tup [.s (.fs []), .s (.int .i64 9)]))
  (pcallS (call Ev) Fn.spec_l2Low [lv a0] fun v116 =>
  gV1 v116 fun x117 =>
  gI .i64 x117 fun i118 =>
  pcallS (call Ev) Fn.spec_l2Count [lv a0] fun v119 =>
  gV1 v119 fun x120 =>
  gI .i64 x120 fun i121 =>
  vcase (bv (decide ((IntKind.i64.wrap (i118 - (a2.length : Int))) < (IntKind.i64.wrap (2 + (IntKind.i64.wrap (2 * i121)))))))
  (some (.tup [.s (.fs []), .s (.int .i64 8)]))
  (idxK 1 v104 (iv .i64 1) fun v123 =>
  stK 1 h105 v123 (iv .u8 (IntKind.u8.wrap (IntKind.i64.wrap (i118 - (a2.length : Int))))) fun h124 =>
  (call Ev Fn.spec_l2Stand [v104, iv .i64 a1, iv .i64 (IntKind.i64.wrap (i118 - (a2.length : Int))), lv a2] h124).bind fun p125 =>
  (V.toA v104).bind fun t126 =>
  frzV (tidy h124 [p125.1] p125.2) (.tup [t126, .s (.int .i64 0)])))) := by
  rw [pure_eq]; kernel_rfl

theorem pu_spec_l2Cell (a0 : List (List S)) (a1 : Int) : pureV (call Ev) Fn.spec_l2Cell [lv a0, iv .i64 a1] =
  pcallS (call Ev) Fn.spec_l2Place [lv a0, iv .i64 a1] fun v101 =>
  gV1 v101 fun x102 =>
  gI .i64 x102 fun i103 =>
  pcallS (call Ev) Fn.spec_l2Size [lv a0, iv .i64 a1] fun v104 =>
  gV1 v104 fun x105 =>
  gI .i64 x105 fun i106 =>
  slF 1 a0 (some (iv .i64 i103)) (some (iv .i64 (IntKind.i64.wrap (i103 + i106)))) fun z107 =>
  (appS 1 ((D 0).new 1 []) (sv 0 0 0) (lv z107)).bind fun p108 =>
  frzV p108.2 p108.1 := by
  rw [pure_eq]; kernel_rfl

theorem pu_spec_l2Compact (a0 : List (List S)) : pureV (call Ev) Fn.spec_l2Compact [lv a0] =
  pcallS (call Ev) Fn.spec_l2Count [lv a0] fun v101 =>
  gV1 v101 fun x102 =>
  gI .i64 x102 fun i103 =>
  (mkSl 1 [.int .u8 0] (D 0) (iv .i64 64) (iv .i64 64)).bind fun p104 =>
  slF 1 a0 none (some (iv .i64 (IntKind.i64.wrap (2 + (IntKind.i64.wrap (2 * i103)))))) fun z105 =>
  (copS 1 p104.2 p104.1 (lv z105)).bind fun p106 =>
  gV1 p106.1 fun x107 =>
  gI .i64 x107 fun i108 =>
  (Lp.spec_l2Compact 0 [lv a0, iv .i64 i103, p104.1, iv .i64 64, iv .i64 0] p106.2).bind fun o109 => lcase o109 (fun l110 h111 =>
  (l110[0]?).bind fun w114 =>
  (l110[1]?).bind fun w115 =>
  gV1 w115 fun x116 =>
  gI .i64 x116 fun i117 =>
  idxK 1 w114 (iv .i64 1) fun v118 =>
  stK 1 h111 v118 (iv .u8 (IntKind.u8.wrap i117)) fun h119 =>
  frzV h119 w114) (fun v112 h113 =>
  frzV h113 v112) := by
  rw [pure_eq]; kernel_rfl

theorem eq_spec_l2Compact_l0 (s0 : List (List S)) (s3 : Int) (s4 : V) (s5 : Int) (s6 : Int) (h : H) : Lp.spec_l2Compact 0 [lv s0, iv .i64 s3, s4, iv .i64 s5, iv .i64 s6] h =
  vcase (bv (decide (s6 < s3)))
  (pcallS (call Ev) Fn.spec_l2Size [lv s0, iv .i64 s6] fun v203 =>
  gV1 v203 fun x204 =>
  gI .i64 x204 fun i205 =>
  vcase (bv (i205 == 0))
  (Lp.spec_l2Compact 0 [lv s0, iv .i64 s3, s4, iv .i64 s5, iv .i64 (IntKind.i64.wrap (s6 + 1))] (tidy h [lv s0, iv .i64 s3, s4, iv .i64 s5, iv .i64 (IntKind.i64.wrap (s6 + 1))] h))
  ((pureV (call Ev) Fn.spec_l2Cell [lv s0, iv .i64 s6]).bind fun v207 =>
  gV1 v207 fun x208 =>
  gF x208 fun z209 =>
  (call Ev Fn.spec_l2Stand [s4, iv .i64 s6, iv .i64 (IntKind.i64.wrap (s5 - (z209.length : Int))), lv z209] h).bind fun p210 =>
  Lp.spec_l2Compact 0 [lv s0, iv .i64 s3, s4, iv .i64 (IntKind.i64.wrap (s5 - (z209.length : Int))), iv .i64 (IntKind.i64.wrap (s6 + 1))] (tidy h [lv s0, iv .i64 s3, s4, iv .i64 (IntKind.i64.wrap (s5 - (z209.length : Int))), iv .i64 (IntKind.i64.wrap (s6 + 1))] (tidy h [p210.1] p210.2))))
  (some (.done [s4, iv .i64 s5] (tidy h [s4, iv .i64 s5] h))) := by
  unfold Lp.spec_l2Compact; rw [loop_eq]; kernel_rfl

theorem pu_spec_l2Empty (a0 : List (List S)) : pureV (call Ev) Fn.spec_l2Empty [lv a0] =
  (Lp.spec_l2Empty 0 [lv a0, iv .i64 0] (D 0)).bind fun o101 => lcase o101 (fun l102 h103 =>
  (l102[0]?).bind fun w106 =>
  gV1 w106 fun x107 =>
  gF x107 fun z108 =>
  pcallS (call Ev) Fn.spec_l2Count [lv z108] fun v109 =>
  gV1 v109 fun x110 =>
  gI .i64 x110 fun i111 =>
  some (iv .i64 i111)) (fun v104 h105 =>
  frzV h105 v104) := by
  rw [pure_eq]; kernel_rfl

theorem eq_spec_l2Empty_l0 (s0 : List (List S)) (s3 : Int) (h : H) : Lp.spec_l2Empty 0 [lv s0, iv .i64 s3] h =
  pcallS (call Ev) Fn.spec_l2Count [lv s0] fun v201 =>
  gV1 v201 fun x202 =>
  gI .i64 x202 fun i203 =>
  vcase (bv (decide (s3 < i203)))
  (pcallS (call Ev) Fn.spec_l2Size [lv s0, iv .i64 s3] fun v206 =>
  gV1 v206 fun x207 =>
  gI .i64 x207 fun i208 =>
  vcase (bv (i208 == 0))
  (some (.ret (iv .i64 s3) h))
  (Lp.spec_l2Empty 0 [lv s0, iv .i64 (IntKind.i64.wrap (s3 + 1))] (tidy h [lv s0, iv .i64 (IntKind.i64.wrap (s3 + 1))] h)))
  (some (.done [lv s0] (tidy h [lv s0] h))) := by
  unfold Lp.spec_l2Empty; rw [loop_eq]; kernel_rfl

noncomputable def Jn.spec_l2Put_0 (i125 : Int) (i126 : Int) (a0 : List (List S)) (a1 : List (List S)) (i103 : Int) : Option (V) :=
  pcallS (call Ev) Fn.spec_l2Free [lv a0] fun v127 =>
  gV1 v127 fun x128 =>
  gI .i64 x128 fun i129 =>
  vcase (bv (decide (i129 < (IntKind.i64.wrap ((a1.length : Int) + i126)))))
  (some (.tup [.s (.fs []), .s (.int .i64 0), .s (.int .i64 9)]))
  (pcallS (call Ev) Fn.spec_l2Low [lv a0] fun v131 =>
  gV1 v131 fun x132 =>
  gI .i64 x132 fun i133 =>
  vcase (bv (decide ((IntKind.i64.wrap (i133 - (a1.length : Int))) < (IntKind.i64.wrap (2 + (IntKind.i64.wrap (2 * i125)))))))
  (some (.tup [.s (.fs []), .s (.int .i64 0), .s (.int .i64 8)]))
  (pcallF (call Ev) Fn.spec_l2Copy true [lv a0] (D 0) fun v135 h136 =>
  idxK 1 v135 (iv .i64 0) fun v137 =>
  stK 1 h136 v137 (iv .u8 (IntKind.u8.wrap i125)) fun h138 =>
  idxK 1 v135 (iv .i64 1) fun v139 =>
  stK 1 h138 v139 (iv .u8 (IntKind.u8.wrap (IntKind.i64.wrap (i133 - (a1.length : Int))))) fun h140 =>
  (call Ev Fn.spec_l2Stand [v135, iv .i64 i103, iv .i64 (IntKind.i64.wrap (i133 - (a1.length : Int))), lv a1] h140).bind fun p141 =>
  (V.toA v135).bind fun t142 =>
  frzV (tidy h140 [p141.1] p141.2) (.tup [t142, .s (.int .i64 i103), .s (.int .i64 0)])))

theorem pu_spec_l2Put (a0 : List (List S)) (a1 : List (List S)) : pureV (call Ev) Fn.spec_l2Put [lv a0, lv a1] =
  pcallS (call Ev) Fn.spec_l2Empty [lv a0] fun v101 =>
  gV1 v101 fun x102 =>
  gI .i64 x102 fun i103 =>
  pcallS (call Ev) Fn.spec_l2Count [lv a0] fun v104 =>
  gV1 v104 fun x105 =>
  gI .i64 x105 fun i106 =>
  vcase (bv (i103 == i106))
  (vcase (bv (decide (i106 ≥ 16)))
  (some (.tup [.s (.fs []), .s (.int .i64 0), .s (.int .i64 2)]))
  (Jn.spec_l2Put_0 (IntKind.i64.wrap (i106 + 1)) 2 a0 a1 i103))
  (Jn.spec_l2Put_0 i106 0 a0 a1 i103) := by
  rw [pure_eq]; kernel_rfl

theorem eq_spec_l2Right (a0_b a0_o : Nat) (h : H) : call Ev Fn.spec_l2Right [pv a0_b a0_o] h =
  (call Ev Fn.spec_l1Pick [pv a0_b a0_o, sv h.n 0 3] (h.new 1 [.int .i64 0, .int .i64 0, .int .i64 7])).bind fun p101 =>
  gV1 p101.1 fun x102 =>
  gI .i64 x102 fun i103 =>
  (pureV (call Ev) Fn.spec_l2New [iv .u8 (IntKind.u8.wrap i103)]).bind fun v104 =>
  gV1 v104 fun x105 =>
  gF x105 fun z106 =>
  (call Ev Fn.spec_l1Next [pv a0_b a0_o, iv .i64 14] (tidy (h.new 1 [.int .i64 0, .int .i64 0, .int .i64 7]) [p101.1] p101.2)).bind fun p107 =>
  gV1 p107.1 fun x108 =>
  gI .i64 x108 fun i109 =>
  (Lp.spec_l2Right 0 [pv a0_b a0_o, lv z106, iv .i64 i109] (tidy (tidy (h.new 1 [.int .i64 0, .int .i64 0, .int .i64 7]) [p101.1] p101.2) [p107.1] p107.2)).bind fun o110 => lcase o110 (fun l111 h112 =>
  (l111[0]?).bind fun w115 =>
  some (w115, h112)) (fun v113 h114 =>
  some (v113, h114)) := by
  rw [call_eq]; kernel_rfl

theorem eq_spec_l2Right_l0 (s0 : V) (s3 : V) (s4 : Int) (h : H) : Lp.spec_l2Right 0 [s0, s3, iv .i64 s4] h =
  vcase (bv (decide (s4 > 0)))
  ((call Ev Fn.spec_l1Next [s0, iv .i64 14] h).bind fun p203 =>
  gV1 p203.1 fun x204 =>
  gI .i64 x204 fun i205 =>
  (call Ev Fn.spec_l1Some [s0, iv .i64 (IntKind.i64.wrap (1 + i205))] (tidy h [p203.1] p203.2)).bind fun p206 =>
  (call Ev Fn.spec_l1Next [s0, iv .i64 5] (tidy (tidy h [p203.1] p203.2) [p206.1] p206.2)).bind fun p207 =>
  gV1 p207.1 fun x208 =>
  gI .i64 x208 fun i209 =>
  vcase (bv (i209 == 0))
  ((call Ev Fn.spec_l1Next [s0, iv .i64 6] (tidy (tidy (tidy h [p203.1] p203.2) [p206.1] p206.2) [p207.1] p207.2)).bind fun p212 =>
  gV1 p212.1 fun x213 =>
  gI .i64 x213 fun i214 =>
  (frzVs (tidy (tidy (tidy (tidy h [p203.1] p203.2) [p206.1] p206.2) [p207.1] p207.2) [p212.1] p212.2) [s3, iv .i64 i214]).bind fun l215 =>
  pcallS (call Ev) Fn.spec_l2Has (normVs [] l215) fun v216 =>
  gV1 v216 fun x217 =>
  gB x217 fun q218 =>
  vcase (bv q218)
  (bif ([s3, iv .i64 i214].all offV) then
  (frzVs (tidy (tidy (tidy (tidy h [p203.1] p203.2) [p206.1] p206.2) [p207.1] p207.2) [p212.1] p212.2) [s3, iv .i64 i214]).bind fun l220 =>
  (pureV (call Ev) Fn.spec_l2Drop (normVs [] l220)).bind fun v221 =>
  gV1 v221 fun x222 =>
  gF x222 fun z223 =>
  Lp.spec_l2Right 0 [s0, lv z223, iv .i64 (IntKind.i64.wrap (s4 - 1))] (tidy h [s0, lv z223, iv .i64 (IntKind.i64.wrap (s4 - 1))] (tidy (tidy (tidy (tidy h [p203.1] p203.2) [p206.1] p206.2) [p207.1] p207.2) [p212.1] p212.2))
  else none)
  (Lp.spec_l2Right 0 [s0, s3, iv .i64 (IntKind.i64.wrap (s4 - 1))] (tidy h [s0, s3, iv .i64 (IntKind.i64.wrap (s4 - 1))] (tidy (tidy (tidy (tidy h [p203.1] p203.2) [p206.1] p206.2) [p207.1] p207.2) [p212.1] p212.2))))
  (vcase (bv (i209 == 1))
  ((call Ev Fn.spec_l1Next [s0, iv .i64 6] (tidy (tidy (tidy h [p203.1] p203.2) [p206.1] p206.2) [p207.1] p207.2)).bind fun p225 =>
  gV1 p225.1 fun x226 =>
  gI .i64 x226 fun i227 =>
  (frzVs (tidy (tidy (tidy (tidy h [p203.1] p203.2) [p206.1] p206.2) [p207.1] p207.2) [p225.1] p225.2) [s3, iv .i64 i227]).bind fun l228 =>
  pcallS (call Ev) Fn.spec_l2Has (normVs [] l228) fun v229 =>
  gV1 v229 fun x230 =>
  gB x230 fun q231 =>
  vcase (bv q231)
  (bif ([s3, iv .i64 i227, p206.1].all offV) then
  (frzVs (tidy (tidy (tidy (tidy h [p203.1] p203.2) [p206.1] p206.2) [p207.1] p207.2) [p225.1] p225.2) [s3, iv .i64 i227, p206.1]).bind fun l233 =>
  (pureV (call Ev) Fn.spec_l2Set (normVs [] l233)).bind fun v234 =>
  gVT v234 fun u235 =>
  (u235[0]?).bind fun t236 =>
  gA1 t236 fun x237 =>
  gF x237 fun z238 =>
  (u235[1]?).bind fun t239 =>
  gA1 t239 fun x240 =>
  gI .i64 x240 fun i241 =>
  if u235.length = 2 then
  vcase (bv (i241 == 0))
  (Lp.spec_l2Right 0 [s0, lv z238, iv .i64 (IntKind.i64.wrap (s4 - 1))] (tidy h [s0, lv z238, iv .i64 (IntKind.i64.wrap (s4 - 1))] (tidy (tidy (tidy (tidy h [p203.1] p203.2) [p206.1] p206.2) [p207.1] p207.2) [p225.1] p225.2)))
  (Lp.spec_l2Right 0 [s0, s3, iv .i64 (IntKind.i64.wrap (s4 - 1))] (tidy h [s0, s3, iv .i64 (IntKind.i64.wrap (s4 - 1))] (tidy (tidy (tidy (tidy h [p203.1] p203.2) [p206.1] p206.2) [p207.1] p207.2) [p225.1] p225.2)))
  else none
  else none)
  (Lp.spec_l2Right 0 [s0, s3, iv .i64 (IntKind.i64.wrap (s4 - 1))] (tidy h [s0, s3, iv .i64 (IntKind.i64.wrap (s4 - 1))] (tidy (tidy (tidy (tidy h [p203.1] p203.2) [p206.1] p206.2) [p207.1] p207.2) [p225.1] p225.2))))
  (vcase (bv (i209 == 2))
  ((call Ev Fn.spec_l1Chance [s0, iv .i64 3] (tidy (tidy (tidy h [p203.1] p203.2) [p206.1] p206.2) [p207.1] p207.2)).bind fun p244 =>
  gV1 p244.1 fun x245 =>
  gB x245 fun q246 =>
  vcase (bv q246)
  (bif ([s3].all offV) then
  (frzVs (tidy (tidy (tidy (tidy h [p203.1] p203.2) [p206.1] p206.2) [p207.1] p207.2) [p244.1] p244.2) [s3]).bind fun l248 =>
  (pureV (call Ev) Fn.spec_l2Compact (normVs [] l248)).bind fun v249 =>
  gV1 v249 fun x250 =>
  gF x250 fun z251 =>
  Lp.spec_l2Right 0 [s0, lv z251, iv .i64 (IntKind.i64.wrap (s4 - 1))] (tidy h [s0, lv z251, iv .i64 (IntKind.i64.wrap (s4 - 1))] (tidy (tidy (tidy (tidy h [p203.1] p203.2) [p206.1] p206.2) [p207.1] p207.2) [p244.1] p244.2))
  else none)
  (Lp.spec_l2Right 0 [s0, s3, iv .i64 (IntKind.i64.wrap (s4 - 1))] (tidy h [s0, s3, iv .i64 (IntKind.i64.wrap (s4 - 1))] (tidy (tidy (tidy (tidy h [p203.1] p203.2) [p206.1] p206.2) [p207.1] p207.2) [p244.1] p244.2))))
  (bif ([s3, p206.1].all offV) then
  (frzVs (tidy (tidy (tidy h [p203.1] p203.2) [p206.1] p206.2) [p207.1] p207.2) [s3, p206.1]).bind fun l252 =>
  (pureV (call Ev) Fn.spec_l2Put (normVs [] l252)).bind fun v253 =>
  gVT v253 fun u254 =>
  (u254[0]?).bind fun t255 =>
  gA1 t255 fun x256 =>
  gF x256 fun z257 =>
  (u254[1]?).bind fun t258 =>
  gA1 t258 fun x259 =>
  gI .i64 x259 fun i260 =>
  (u254[2]?).bind fun t261 =>
  gA1 t261 fun x262 =>
  gI .i64 x262 fun i263 =>
  if u254.length = 3 then
  vcase (bv (i263 == 0))
  (Lp.spec_l2Right 0 [s0, lv z257, iv .i64 (IntKind.i64.wrap (s4 - 1))] (tidy h [s0, lv z257, iv .i64 (IntKind.i64.wrap (s4 - 1))] (tidy (tidy (tidy h [p203.1] p203.2) [p206.1] p206.2) [p207.1] p207.2)))
  (Lp.spec_l2Right 0 [s0, s3, iv .i64 (IntKind.i64.wrap (s4 - 1))] (tidy h [s0, s3, iv .i64 (IntKind.i64.wrap (s4 - 1))] (tidy (tidy (tidy h [p203.1] p203.2) [p206.1] p206.2) [p207.1] p207.2)))
  else none
  else none))))
  (some (.done [s3] (tidy h [s3] h))) := by
  unfold Lp.spec_l2Right; rw [loop_eq]; kernel_rfl

theorem eq_spec_l3Two (a0_b a0_o : Nat) (h : H) : call Ev Fn.spec_l3Two [pv a0_b a0_o] h =
  (call Ev Fn.spec_l2Right [pv a0_b a0_o] h).bind fun p101 =>
  (frzVs (tidy h [p101.1] p101.2) [p101.1]).bind fun l102 =>
  pcallF (call Ev) Fn.spec_l2Copy ([p101.1].all offV) (normVs [] l102) (tidy h [p101.1] p101.2) fun v103 h104 =>
  (call Ev Fn.spec_l1Next [pv a0_b a0_o, iv .i64 9] h104).bind fun p105 =>
  gV1 p105.1 fun x106 =>
  gI .i64 x106 fun i107 =>
  (Lp.spec_l3Two 0 [pv a0_b a0_o, p101.1, v103, iv .i64 i107] (tidy h104 [p105.1] p105.2)).bind fun o108 => lcase o108 (fun l109 h110 =>
  (l109[0]?).bind fun w113 =>
  (l109[1]?).bind fun w114 =>
  (V.toA w113).bind fun t115 =>
  (V.toA w114).bind fun t116 =>
  some (.tup [t115, t116], h110)) (fun v111 h112 =>
  some (v111, h112)) := by
  rw [call_eq]; kernel_rfl

theorem eq_spec_l3Two_l0 (s0 : V) (s4 : V) (s5 : V) (s6 : Int) (h : H) : Lp.spec_l3Two 0 [s0, s4, s5, iv .i64 s6] h =
  vcase (bv (decide (s6 > 0)))
  ((call Ev Fn.spec_l1Next [s0, iv .i64 64] h).bind fun p203 =>
  gV1 p203.1 fun x204 =>
  gI .i64 x204 fun i205 =>
  (call Ev Fn.spec_l1Next [s0, iv .i64 256] (tidy h [p203.1] p203.2)).bind fun p206 =>
  gV1 p206.1 fun x207 =>
  gI .i64 x207 fun i208 =>
  idxK 1 s5 (iv .i64 i205) fun v209 =>
  stK 1 (tidy (tidy h [p203.1] p203.2) [p206.1] p206.2) v209 (iv .u8 (IntKind.u8.wrap i208)) fun h210 =>
  Lp.spec_l3Two 0 [s0, s4, s5, iv .i64 (IntKind.i64.wrap (s6 - 1))] (tidy h [s0, s4, s5, iv .i64 (IntKind.i64.wrap (s6 - 1))] h210))
  (some (.done [s4, s5] (tidy h [s4, s5] h))) := by
  unfold Lp.spec_l3Two; rw [loop_eq]; kernel_rfl

theorem pu_spec_l3Diff (a0 : List (List S)) (a1 : List (List S)) : pureV (call Ev) Fn.spec_l3Diff [lv a0, lv a1] =
  (Lp.spec_l3Diff 0 [lv a0, lv a1, sv 0 0 0, bv false, iv .i64 0] ((D 0).new 2 [])).bind fun o101 => lcase o101 (fun l102 h103 =>
  (l102[0]?).bind fun w106 =>
  frzV h103 w106) (fun v104 h105 =>
  frzV h105 v104) := by
  rw [pure_eq]; kernel_rfl

theorem eq_spec_l3Diff_l0 (s0 : List (List S)) (s1 : List (List S)) (s5 : V) (s6 : Bool) (s7 : Int) (h : H) : Lp.spec_l3Diff 0 [lv s0, lv s1, s5, bv s6, iv .i64 s7] h =
  vcase (bv (decide (s7 < (s0.length : Int))))
  (idxF 1 s0 s7 fun r203 =>
  (r203[0]?).bind fun x204 =>
  gI .u8 x204 fun i205 =>
  idxF 1 s1 s7 fun r206 =>
  (r206[0]?).bind fun x207 =>
  gI .u8 x207 fun i208 =>
  vcase (bv (i205 == i208))
  (Lp.spec_l3Diff 0 [lv s0, lv s1, s5, bv false, iv .i64 (IntKind.i64.wrap (s7 + 1))] (tidy h [lv s0, lv s1, s5, bv false, iv .i64 (IntKind.i64.wrap (s7 + 1))] h))
  (vcase (bv (!s6))
  ((appS 2 (h.new 2 [.int .i64 s7, .sl none 0]) s5 (sv h.n 0 1)).bind fun p211 =>
  (lenV (.sl 89) p211.1).bind fun v212 =>
  gV1 v212 fun x213 =>
  gI .i64 x213 fun i214 =>
  idxK 2 p211.1 (iv .i64 (IntKind.i64.wrap (i214 - 1))) fun v215 =>
  (notNil v215).bind fun v216 =>
  (padd 1 v216).bind fun v217 =>
  ldK (.one (.f)) ⟨1, 24, [.sl none 0], false, .sl 5, false⟩ p211.2 v217 fun v218 =>
  idxF 1 s1 s7 fun r219 =>
  (r219[0]?).bind fun x220 =>
  gI .u8 x220 fun i221 =>
  hchk p211.2 (p211.2.new 1 [.int .u8 i221]) (
  (appS 1 (p211.2.new 1 [.int .u8 i221]) v218 (sv p211.2.n 0 1)).bind fun p222 =>
  (notNil v215).bind fun v223 =>
  (padd 1 v223).bind fun v224 =>
  stK 1 p222.2 v224 p222.1 fun h225 =>
  Lp.spec_l3Diff 0 [lv s0, lv s1, p211.1, bv true, iv .i64 (IntKind.i64.wrap (s7 + 1))] (tidy h [lv s0, lv s1, p211.1, bv true, iv .i64 (IntKind.i64.wrap (s7 + 1))] h225)))
  ((lenV (.sl 89) s5).bind fun v226 =>
  gV1 v226 fun x227 =>
  gI .i64 x227 fun i228 =>
  idxK 2 s5 (iv .i64 (IntKind.i64.wrap (i228 - 1))) fun v229 =>
  (notNil v229).bind fun v230 =>
  (padd 1 v230).bind fun v231 =>
  ldK (.one (.f)) ⟨1, 24, [.sl none 0], false, .sl 5, false⟩ h v231 fun v232 =>
  idxF 1 s1 s7 fun r233 =>
  (r233[0]?).bind fun x234 =>
  gI .u8 x234 fun i235 =>
  hchk h (h.new 1 [.int .u8 i235]) (
  (appS 1 (h.new 1 [.int .u8 i235]) v232 (sv h.n 0 1)).bind fun p236 =>
  (notNil v229).bind fun v237 =>
  (padd 1 v237).bind fun v238 =>
  stK 1 p236.2 v238 p236.1 fun h239 =>
  Lp.spec_l3Diff 0 [lv s0, lv s1, s5, bv true, iv .i64 (IntKind.i64.wrap (s7 + 1))] (tidy h [lv s0, lv s1, s5, bv true, iv .i64 (IntKind.i64.wrap (s7 + 1))] h239)))))
  (some (.done [s5] (tidy h [s5] h))) := by
  unfold Lp.spec_l3Diff; rw [loop_eq]; kernel_rfl

noncomputable def Jn.spec_l4Draw_0 (h176 : H) (h : H) (p101 : V × H) (p104 : V × H) : Option (V × H) :=
  (load1 h176 (pv ((tidy (tidy ((h.new 0 [.int .i64 0, .int .i64 0, .int .i64 0, .sl none 0]).new 1 [.int .i64 1, .int .i64 2, .int .i64 2, .int .i64 3, .int .i64 4, .int .i64 5, .int .i64 6]) [p101.1] p101.2) [p104.1] p104.2).n) 3)).bind fun x177 =>
  (lenV (.sl 89) (.s x177)).bind fun v178 =>
  gV1 v178 fun x179 =>
  gI .i64 x179 fun i180 =>
  vcase (bv (i180 == 0))
  (stK 1 ((h176.new 1 [.int .u8 1]).new 2 [.int .i64 3, .sl (some (h176.n, 0)) 1]) (pv ((tidy (tidy ((h.new 0 [.int .i64 0, .int .i64 0, .int .i64 0, .sl none 0]).new 1 [.int .i64 1, .int .i64 2, .int .i64 2, .int .i64 3, .int .i64 4, .int .i64 5, .int .i64 6]) [p101.1] p101.2) [p104.1] p104.2).n) 3) (sv ((h176.new 1 [.int .u8 1]).n) 0 1) fun h182 =>
  (loadN 4 h182 (pv ((tidy (tidy ((h.new 0 [.int .i64 0, .int .i64 0, .int .i64 0, .sl none 0]).new 1 [.int .i64 1, .int .i64 2, .int .i64 2, .int .i64 3, .int .i64 4, .int .i64 5, .int .i64 6]) [p101.1] p101.2) [p104.1] p104.2).n) 0)).bind fun c183 =>
  (c183[0]?).bind fun x184 =>
  gI .i64 x184 fun i185 =>
  (c183[1]?).bind fun x186 =>
  gI .i64 x186 fun i187 =>
  (c183[2]?).bind fun x188 =>
  gI .i64 x188 fun i189 =>
  (c183[3]?).bind fun x190 =>
  if c183.length = 4 then
  stK 4 h182 (pv h.n 0) (.agg [.int .i64 i185, .int .i64 i187, .int .i64 i189, x190]) fun h191 =>
  (loadN 4 h191 (pv h.n 0)).bind fun c192 =>
  some (.agg c192, h191)
  else none)
  ((loadN 4 h176 (pv ((tidy (tidy ((h.new 0 [.int .i64 0, .int .i64 0, .int .i64 0, .sl none 0]).new 1 [.int .i64 1, .int .i64 2, .int .i64 2, .int .i64 3, .int .i64 4, .int .i64 5, .int .i64 6]) [p101.1] p101.2) [p104.1] p104.2).n) 0)).bind fun c193 =>
  (c193[0]?).bind fun x194 =>
  gI .i64 x194 fun i195 =>
  (c193[1]?).bind fun x196 =>
  gI .i64 x196 fun i197 =>
  (c193[2]?).bind fun x198 =>
  gI .i64 x198 fun i199 =>
  (c193[3]?).bind fun x200 =>
  if c193.length = 4 then
  stK 4 h176 (pv h.n 0) (.agg [.int .i64 i195, .int .i64 i197, .int .i64 i199, x200]) fun h201 =>
  (loadN 4 h201 (pv h.n 0)).bind fun c202 =>
  some (.agg c202, h201)
  else none)

theorem eq_spec_l4Draw (a0_b a0_o : Nat) (h : H) : call Ev Fn.spec_l4Draw [pv a0_b a0_o] h =
  (call Ev Fn.spec_l1Pick [pv a0_b a0_o, sv ((h.new 0 [.int .i64 0, .int .i64 0, .int .i64 0, .sl none 0]).n) 0 7] ((h.new 0 [.int .i64 0, .int .i64 0, .int .i64 0, .sl none 0]).new 1 [.int .i64 1, .int .i64 2, .int .i64 2, .int .i64 3, .int .i64 4, .int .i64 5, .int .i64 6])).bind fun p101 =>
  gV1 p101.1 fun x102 =>
  gI .i64 x102 fun i103 =>
  (call Ev Fn.spec_l1Next [pv a0_b a0_o, iv .i64 5] (tidy ((h.new 0 [.int .i64 0, .int .i64 0, .int .i64 0, .sl none 0]).new 1 [.int .i64 1, .int .i64 2, .int .i64 2, .int .i64 3, .int .i64 4, .int .i64 5, .int .i64 6]) [p101.1] p101.2)).bind fun p104 =>
  gV1 p104.1 fun x105 =>
  gI .i64 x105 fun i106 =>
  stK 4 ((tidy (tidy ((h.new 0 [.int .i64 0, .int .i64 0, .int .i64 0, .sl none 0]).new 1 [.int .i64 1, .int .i64 2, .int .i64 2, .int .i64 3, .int .i64 4, .int .i64 5, .int .i64 6]) [p101.1] p101.2) [p104.1] p104.2).new 0 [.int .i64 0, .int .i64 0, .int .i64 0, .sl none 0]) (pv ((tidy (tidy ((h.new 0 [.int .i64 0, .int .i64 0, .int .i64 0, .sl none 0]).new 1 [.int .i64 1, .int .i64 2, .int .i64 2, .int .i64 3, .int .i64 4, .int .i64 5, .int .i64 6]) [p101.1] p101.2) [p104.1] p104.2).n) 0) (.agg [.int .i64 i103, .int .i64 (IntKind.i64.wrap (1 + i106)), .int .i64 0, .sl none 0]) fun h107 =>
  (load1 h107 (pv ((tidy (tidy ((h.new 0 [.int .i64 0, .int .i64 0, .int .i64 0, .sl none 0]).new 1 [.int .i64 1, .int .i64 2, .int .i64 2, .int .i64 3, .int .i64 4, .int .i64 5, .int .i64 6]) [p101.1] p101.2) [p104.1] p104.2).n) 0)).bind fun x108 =>
  gI .i64 x108 fun i109 =>
  pcallS (call Ev) Fn.spec_l4Runs [iv .i64 i109] fun v110 =>
  gV1 v110 fun x111 =>
  gB x111 fun q112 =>
  vcase (bv (!q112))
  ((loadN 4 h107 (pv ((tidy (tidy ((h.new 0 [.int .i64 0, .int .i64 0, .int .i64 0, .sl none 0]).new 1 [.int .i64 1, .int .i64 2, .int .i64 2, .int .i64 3, .int .i64 4, .int .i64 5, .int .i64 6]) [p101.1] p101.2) [p104.1] p104.2).n) 0)).bind fun c114 =>
  (c114[0]?).bind fun x115 =>
  gI .i64 x115 fun i116 =>
  (c114[1]?).bind fun x117 =>
  gI .i64 x117 fun i118 =>
  (c114[2]?).bind fun x119 =>
  gI .i64 x119 fun i120 =>
  (c114[3]?).bind fun x121 =>
  if c114.length = 4 then
  stK 4 h107 (pv h.n 0) (.agg [.int .i64 i116, .int .i64 i118, .int .i64 i120, x121]) fun h122 =>
  (loadN 4 h122 (pv h.n 0)).bind fun c123 =>
  some (.agg c123, h122)
  else none)
  ((call Ev Fn.spec_l1Next [pv a0_b a0_o, iv .i64 3] h107).bind fun p124 =>
  gV1 p124.1 fun x125 =>
  gI .i64 x125 fun i126 =>
  stK 1 (tidy h107 [p124.1] p124.2) (pv ((tidy (tidy ((h.new 0 [.int .i64 0, .int .i64 0, .int .i64 0, .sl none 0]).new 1 [.int .i64 1, .int .i64 2, .int .i64 2, .int .i64 3, .int .i64 4, .int .i64 5, .int .i64 6]) [p101.1] p101.2) [p104.1] p104.2).n) 2) (iv .i64 i126) fun h127 =>
  (call Ev Fn.spec_l3Two [pv a0_b a0_o] h127).bind fun p128 =>
  gVT p128.1 fun u129 =>
  (u129[0]?).bind fun t130 =>
  gA1 t130 fun x131 =>
  (u129[1]?).bind fun t132 =>
  gA1 t132 fun x133 =>
  if u129.length = 2 then
  idxK 1 (.s x133) (iv .i64 5) fun v134 =>
  ldK (.one (.i .u8)) ⟨1, 1, [.int .u8 0], false, .int .u8, false⟩ (tidy h127 [p128.1] p128.2) v134 fun v135 =>
  gV1 v135 fun x136 =>
  gI .u8 x136 fun i137 =>
  idxK 1 (.s x133) (iv .i64 5) fun v138 =>
  stK 1 (tidy h127 [p128.1] p128.2) v138 (iv .u8 (IntKind.u8.wrap (i137 + 1))) fun h139 =>
  bif ([.s x131, .s x133].all offV) then
  (frzVs h139 [.s x131, .s x133]).bind fun l140 =>
  (pureV (call Ev) Fn.spec_l3Diff (normVs [] l140)).bind fun v141 =>
  gV1 v141 fun x142 =>
  gF x142 fun z143 =>
  stK 1 h139 (pv ((tidy (tidy ((h.new 0 [.int .i64 0, .int .i64 0, .int .i64 0, .sl none 0]).new 1 [.int .i64 1, .int .i64 2, .int .i64 2, .int .i64 3, .int .i64 4, .int .i64 5, .int .i64 6]) [p101.1] p101.2) [p104.1] p104.2).n) 3) (lv z143) fun h144 =>
  (load1 h144 (pv ((tidy (tidy ((h.new 0 [.int .i64 0, .int .i64 0, .int .i64 0, .sl none 0]).new 1 [.int .i64 1, .int .i64 2, .int .i64 2, .int .i64 3, .int .i64 4, .int .i64 5, .int .i64 6]) [p101.1] p101.2) [p104.1] p104.2).n) 0)).bind fun x145 =>
  gI .i64 x145 fun i146 =>
  vcase (bv (i146 == 4))
  (stK 1 h144 (pv ((tidy (tidy ((h.new 0 [.int .i64 0, .int .i64 0, .int .i64 0, .sl none 0]).new 1 [.int .i64 1, .int .i64 2, .int .i64 2, .int .i64 3, .int .i64 4, .int .i64 5, .int .i64 6]) [p101.1] p101.2) [p104.1] p104.2).n) 1) (iv .i64 0) fun h148 =>
  bif isNo x133 then none else
  stK 1 (h148.new 2 [.int .i64 0, x133]) (pv ((tidy (tidy ((h.new 0 [.int .i64 0, .int .i64 0, .int .i64 0, .sl none 0]).new 1 [.int .i64 1, .int .i64 2, .int .i64 2, .int .i64 3, .int .i64 4, .int .i64 5, .int .i64 6]) [p101.1] p101.2) [p104.1] p104.2).n) 3) (sv h148.n 0 1) fun h149 =>
  Jn.spec_l4Draw_0 h149 h p101 p104)
  (Jn.spec_l4Draw_0 h144 h p101 p104)
  else none
  else none) := by
  rw [call_eq]; kernel_rfl

theorem eq_spec_l5Copy (a0_0 : List (List S)) (a0_1 : List (List S)) (n : Nat) : call Ev Fn.spec_l5Copy [.agg [.fs a0_0, .fs a0_1]] (D n) =
  (load1 (((D n).new 0 [.fs a0_0, .fs a0_1]).new 0 [.sl none 0, .sl none 0]) (pv ((D n).n) 0)).bind fun x101 =>
  (load1 (((D n).new 0 [.fs a0_0, .fs a0_1]).new 0 [.sl none 0, .sl none 0]) (pv ((D n).n) 1)).bind fun x102 =>
  (frzVs (((D n).new 0 [.fs a0_0, .fs a0_1]).new 0 [.sl none 0, .sl none 0]) [.s x101]).bind fun l103 =>
  pcallF (call Ev) Fn.spec_l2Copy ([.s x101].all offV) (normVs [] l103) (((D n).new 0 [.fs a0_0, .fs a0_1]).new 0 [.sl none 0, .sl none 0]) fun v104 h105 =>
  hchk (((D n).new 0 [.fs a0_0, .fs a0_1]).new 0 [.sl none 0, .sl none 0]) h105 (
  bif scaV v104 then
  (frzVs h105 [.s x102]).bind fun l106 =>
  pcallF (call Ev) Fn.spec_l2Copy ([.s x102].all offV) (normVs [] l106) h105 fun v107 h108 =>
  hchk (((D n).new 0 [.fs a0_0, .fs a0_1]).new 0 [.sl none 0, .sl none 0]) h108 (
  bif scaV v107 then
  cellsK v104 fun c109 =>
  if c109.length = 1 ∧ 0 + 1 ≤ ([.sl none 0, .sl none 0] : List S).length then
  cellsK v107 fun c110 =>
  if c110.length = 1 ∧ 1 + 1 ≤ (setAt ([.sl none 0, .sl none 0] : List S) 0 c109).length then
  ((setAt (setAt ([.sl none 0, .sl none 0] : List S) 0 c109) 1 c110)[0]?).bind fun x111 =>
  ((setAt (setAt ([.sl none 0, .sl none 0] : List S) 0 c109) 1 c110)[1]?).bind fun x112 =>
  if (setAt (setAt ([.sl none 0, .sl none 0] : List S) 0 c109) 1 c110).length = 2 then
  stK 2 h108 (pv (((D n).new 0 [.fs a0_0, .fs a0_1]).n) 0) (.agg [x111, x112]) fun h113 =>
  (loadN 2 h113 (pv (((D n).new 0 [.fs a0_0, .fs a0_1]).n) 0)).bind fun c114 =>
  some (.agg c114, h113)
  else none
  else none
  else none
  else none)
  else none) := by
  rw [call_eq]; kernel_rfl

end Vm
