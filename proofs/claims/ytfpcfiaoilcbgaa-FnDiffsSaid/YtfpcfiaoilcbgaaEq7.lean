/-
  What each function, and each round of each loop, comes to in the small machine. Written by a program (gen3.py).
-/
import Derived.Test.YtfpcfiaoilcbgaaEnv
set_option linter.unusedVariables false
set_option maxRecDepth 100000
namespace Vm
open Go

theorem pu_laws_heldEditsResult (a0_0 : Int) (a0_1 : List (List S)) (a0_2 : List (List S)) (a1 : Int) : pureV (call Ev) Fn.laws_heldEditsResult [.agg [.int .i64 a0_0, .fs a0_1, .fs a0_2], iv .i64 a1] =
  pcallS (call Ev) Fn.laws_heldEditS [lv a0_1, iv .i64 a1] fun v101 =>
  gV1 v101 fun x102 =>
  gI .i64 x102 fun i103 =>
  vcase (bv (decide (i103 < 0)))
  (some (iv .i64 (-1)))
  (pcallS (call Ev) Fn.laws_heldByteSS [lv a0_2, iv .i64 i103] fun v105 =>
  gV1 v105 fun x106 =>
  gI .i64 x106 fun i107 =>
  vcase (bv (decide (i107 < 0)))
  (some (iv .i64 (-1)))
  (some (iv .i64 i107))) := by
  rw [pure_eq]; kernel_rfl

noncomputable def Jn.laws_FnExactApplyEdits_0 (q252 : Bool) (h135 : H) (p167 : V × H) (p170 : V × H) (h129 : H) (a0 : List (List S)) (a1 : List (List S)) : Option (V) :=
  vcase (bv q252)
  (some (bv false))
  ((loadN 3 (tidy (tidy h135 [p167.1] p167.2) [p170.1] p170.2) (pv h129.n 0)).bind fun c254 =>
  (c254[0]?).bind fun x255 =>
  gI .i64 x255 fun i256 =>
  (c254[1]?).bind fun x257 =>
  (c254[2]?).bind fun x258 =>
  if c254.length = 3 then
  (call Ev Fn.laws_markEditsResult [.agg [.int .i64 i256, x257, x258], iv .i64 1] (tidy (tidy h135 [p167.1] p167.2) [p170.1] p170.2)).bind fun p259 =>
  gV1 p259.1 fun x260 =>
  gI .i64 x260 fun i261 =>
  (loadN 3 (tidy (tidy (tidy h135 [p167.1] p167.2) [p170.1] p170.2) [p259.1] p259.2) (pv h129.n 0)).bind fun c262 =>
  (c262[0]?).bind fun x263 =>
  gI .i64 x263 fun i264 =>
  (c262[1]?).bind fun x265 =>
  (c262[2]?).bind fun x266 =>
  if c262.length = 3 then
  (frzVs (tidy (tidy (tidy h135 [p167.1] p167.2) [p170.1] p170.2) [p259.1] p259.2) [.agg [.int .i64 i264, x265, x266], iv .i64 1]).bind fun l267 =>
  pcallS (call Ev) Fn.laws_heldEditsResult (normVs [] l267) fun v268 =>
  gV1 v268 fun x269 =>
  gI .i64 x269 fun i270 =>
  vcase (bv (decide (i270 < 0)))
  (some (bv false))
  (vcase (bv (i270 != i261))
  (some (bv false))
  ((pureV (call Ev) Fn.laws_toByteSS [lv a0]).bind fun v273 =>
  gV1 v273 fun x274 =>
  gF x274 fun z275 =>
  (pureV (call Ev) Fn.laws_toEditS [lv a1]).bind fun v276 =>
  gV1 v276 fun x277 =>
  gF x277 fun z278 =>
  (pureV (call Ev) Fn.impl_ApplyEdits [lv z275, lv z278]).bind fun v279 =>
  gVA v279 fun c280 =>
  (c280[0]?).bind fun x281 =>
  gI .i64 x281 fun i282 =>
  (c280[1]?).bind fun x283 =>
  gF x283 fun z284 =>
  (c280[2]?).bind fun x285 =>
  gF x285 fun z286 =>
  if c280.length = 3 then
  stK 3 ((tidy (tidy (tidy h135 [p167.1] p167.2) [p170.1] p170.2) [p259.1] p259.2).new 0 [.int .i64 0, .sl none 0, .sl none 0]) (pv ((tidy (tidy (tidy h135 [p167.1] p167.2) [p170.1] p170.2) [p259.1] p259.2).n) 0) (.agg [.int .i64 i282, .fs z284, .fs z286]) fun h287 =>
  (loadN 3 h287 (pv ((tidy (tidy (tidy h135 [p167.1] p167.2) [p170.1] p170.2) [p259.1] p259.2).n) 0)).bind fun c288 =>
  (c288[0]?).bind fun x289 =>
  gI .i64 x289 fun i290 =>
  (c288[1]?).bind fun x291 =>
  (c288[2]?).bind fun x292 =>
  if c288.length = 3 then
  (loadN 3 h287 (pv 0 0)).bind fun c293 =>
  (c293[0]?).bind fun x294 =>
  gI .i64 x294 fun i295 =>
  (c293[1]?).bind fun x296 =>
  (c293[2]?).bind fun x297 =>
  if c293.length = 3 then
  (frzVs h287 [.agg [.int .i64 i290, x291, x292], .agg [.int .i64 i295, x296, x297]]).bind fun l298 =>
  pcallS (call Ev) Fn.laws_eqEditsResult (normVs [] l298) fun v299 =>
  gV1 v299 fun x300 =>
  gB x300 fun q301 =>
  vcase (bv (!q301))
  (some (bv false))
  ((loadN 3 h287 (pv h129.n 0)).bind fun c303 =>
  (c303[0]?).bind fun x304 =>
  gI .i64 x304 fun i305 =>
  (c303[1]?).bind fun x306 =>
  (c303[2]?).bind fun x307 =>
  if c303.length = 3 then
  (frzVs h287 [.agg [.int .i64 i305, x306, x307], iv .i64 1]).bind fun l308 =>
  pcallS (call Ev) Fn.laws_heldEditsResult (normVs [] l308) fun v309 =>
  gV1 v309 fun x310 =>
  gI .i64 x310 fun i311 =>
  vcase (bv (decide (i311 < 0)))
  (some (bv false))
  (vcase (bv (i311 != i261))
  (some (bv false))
  (some (bv true)))
  else none)
  else none
  else none
  else none))
  else none
  else none)

theorem pu_laws_FnExactApplyEdits (a0 : List (List S)) (a1 : List (List S)) : pureV (call Ev) Fn.laws_FnExactApplyEdits [lv a0, lv a1] =
  pcallS (call Ev) Fn.laws_szByteSS [lv a0, iv .i64 1048576] fun v101 =>
  gV1 v101 fun x102 =>
  gI .i64 x102 fun i103 =>
  vcase (bv (decide (i103 < 0)))
  (some (bv true))
  (pcallS (call Ev) Fn.laws_szEditS [lv a1, iv .i64 i103] fun v105 =>
  gV1 v105 fun x106 =>
  gI .i64 x106 fun i107 =>
  vcase (bv (decide (i107 < 0)))
  (some (bv true))
  ((pureV (call Ev) Fn.laws_toByteSS [lv a0]).bind fun v109 =>
  gV1 v109 fun x110 =>
  gF x110 fun z111 =>
  (pureV (call Ev) Fn.laws_toEditS [lv a1]).bind fun v112 =>
  gV1 v112 fun x113 =>
  gF x113 fun z114 =>
  (pureV (call Ev) Fn.spec_ApplyEdits [lv z111, lv z114]).bind fun v115 =>
  gVA v115 fun c116 =>
  (c116[0]?).bind fun x117 =>
  gI .i64 x117 fun i118 =>
  (c116[1]?).bind fun x119 =>
  gF x119 fun z120 =>
  (c116[2]?).bind fun x121 =>
  gF x121 fun z122 =>
  if c116.length = 3 then
  pcallF (call Ev) Fn.laws_toByteSS true [lv a0] (((D 0).new 0 [.int .i64 0, .sl none 0, .sl none 0]).put 0 (.rw 0 [.int .i64 i118, .fs z120, .fs z122])) fun v123 h124 =>
  pcallF (call Ev) Fn.laws_toEditS true [lv a1] h124 fun v125 h126 =>
  (frzVs h126 [v123, v125]).bind fun l127 =>
  pcallF (call Ev) Fn.impl_ApplyEdits ([v123, v125].all offV) (normVs [] l127) h126 fun v128 h129 =>
  gVA v128 fun c130 =>
  (c130[0]?).bind fun x131 =>
  gI .i64 x131 fun i132 =>
  (c130[1]?).bind fun x133 =>
  (c130[2]?).bind fun x134 =>
  if c130.length = 3 then
  stK 3 (h129.new 0 [.int .i64 0, .sl none 0, .sl none 0]) (pv h129.n 0) (.agg [.int .i64 i132, x133, x134]) fun h135 =>
  (loadN 3 h135 (pv h129.n 0)).bind fun c136 =>
  (c136[0]?).bind fun x137 =>
  gI .i64 x137 fun i138 =>
  (c136[1]?).bind fun x139 =>
  (c136[2]?).bind fun x140 =>
  if c136.length = 3 then
  (loadN 3 h135 (pv 0 0)).bind fun c141 =>
  (c141[0]?).bind fun x142 =>
  gI .i64 x142 fun i143 =>
  (c141[1]?).bind fun x144 =>
  (c141[2]?).bind fun x145 =>
  if c141.length = 3 then
  (frzVs h135 [.agg [.int .i64 i138, x139, x140], .agg [.int .i64 i143, x144, x145]]).bind fun l146 =>
  pcallS (call Ev) Fn.laws_eqEditsResult (normVs [] l146) fun v147 =>
  gV1 v147 fun x148 =>
  gB x148 fun q149 =>
  vcase (bv (!q149))
  (some (bv false))
  ((pureV (call Ev) Fn.laws_toByteSS [lv a0]).bind fun v151 =>
  gV1 v151 fun x152 =>
  gF x152 fun z153 =>
  (frzVs h135 [v123, lv z153]).bind fun l154 =>
  pcallS (call Ev) Fn.laws_eqByteSS (normVs [] l154) fun v155 =>
  gV1 v155 fun x156 =>
  gB x156 fun q157 =>
  vcase (bv (!q157))
  (some (bv false))
  ((pureV (call Ev) Fn.laws_toEditS [lv a1]).bind fun v159 =>
  gV1 v159 fun x160 =>
  gF x160 fun z161 =>
  (frzVs h135 [v125, lv z161]).bind fun l162 =>
  pcallS (call Ev) Fn.laws_eqEditS (normVs [] l162) fun v163 =>
  gV1 v163 fun x164 =>
  gB x164 fun q165 =>
  vcase (bv (!q165))
  (some (bv false))
  ((call Ev Fn.laws_markByteSS [v123, iv .i64 1] h135).bind fun p167 =>
  gV1 p167.1 fun x168 =>
  gI .i64 x168 fun i169 =>
  (call Ev Fn.laws_markEditS [v125, iv .i64 i169] (tidy h135 [p167.1] p167.2)).bind fun p170 =>
  gV1 p170.1 fun x171 =>
  gI .i64 x171 fun i172 =>
  vcase (bv (decide (i172 < 0)))
  (Jn.laws_FnExactApplyEdits_0 true h135 p167 p170 h129 a0 a1)
  ((loadN 3 (tidy (tidy h135 [p167.1] p167.2) [p170.1] p170.2) (pv h129.n 0)).bind fun c175 =>
  (c175[0]?).bind fun x176 =>
  gI .i64 x176 fun i177 =>
  (c175[1]?).bind fun x178 =>
  (c175[2]?).bind fun x179 =>
  if c175.length = 3 then
  (loadN 3 (tidy (tidy h135 [p167.1] p167.2) [p170.1] p170.2) (pv 0 0)).bind fun c180 =>
  (c180[0]?).bind fun x181 =>
  gI .i64 x181 fun i182 =>
  (c180[1]?).bind fun x183 =>
  (c180[2]?).bind fun x184 =>
  if c180.length = 3 then
  (frzVs (tidy (tidy h135 [p167.1] p167.2) [p170.1] p170.2) [.agg [.int .i64 i177, x178, x179], .agg [.int .i64 i182, x183, x184]]).bind fun l185 =>
  pcallS (call Ev) Fn.laws_eqEditsResult (normVs [] l185) fun v186 =>
  gV1 v186 fun x187 =>
  gB x187 fun q188 =>
  Jn.laws_FnExactApplyEdits_0 (!q188) h135 p167 p170 h129 a0 a1
  else none
  else none))))
  else none
  else none
  else none
  else none)) := by
  rw [pure_eq]; kernel_rfl

theorem pu_laws_lwBig (a0 : List (List S)) : pureV (call Ev) Fn.laws_lwBig [lv a0] =
  some (bv (decide ((a0.length : Int) > 1048576))) := by
  rw [pure_eq]; kernel_rfl

theorem eq_spec_l1Source (a0 : List (List S)) (n : Nat) : call Ev Fn.spec_l1Source [lv a0] (D n) =
  some (pv ((D n).n) 0, (D n).new 0 [.fs a0, .int .i64 0]) := by
  rw [call_eq]; kernel_rfl

theorem eq_spec_l1Next (a0_b a0_o : Nat) (a1 : Int) (h : H) : call Ev Fn.spec_l1Next [pv a0_b a0_o, iv .i64 a1] h =
  (load1 h (pv a0_b (a0_o + 1))).bind fun x101 =>
  gI .i64 x101 fun i102 =>
  stK 1 h (pv a0_b (a0_o + 1)) (iv .i64 (IntKind.i64.wrap (i102 + 1))) fun h103 =>
  vcase (bv (decide (a1 < 1)))
  (some (iv .i64 0, h103))
  ((load1 h103 (pv a0_b (a0_o + 1))).bind fun x105 =>
  gI .i64 x105 fun i106 =>
  (load1 h103 (pv a0_b (a0_o + 0))).bind fun x107 =>
  (lenV (.sl 5) (.s x107)).bind fun v108 =>
  gV1 v108 fun x109 =>
  gI .i64 x109 fun i110 =>
  vcase (bv (i110 == 0))
  ((bin Ev .rem 2 (iv .i64 (IntKind.i64.wrap ((IntKind.i64.wrap (i106 - 1)) * 7))) (iv .i64 a1)).bind fun b112 =>
  gV1 b112 fun x113 =>
  gI .i64 x113 fun i114 =>
  some (iv .i64 i114, h103))
  ((load1 h103 (pv a0_b (a0_o + 0))).bind fun x115 =>
  (bin Ev .rem 2 (iv .i64 (IntKind.i64.wrap (i106 - 1))) (iv .i64 i110)).bind fun b116 =>
  gV1 b116 fun x117 =>
  gI .i64 x117 fun i118 =>
  idxK 1 (.s x115) (iv .i64 i118) fun v119 =>
  ldK (.one (.i .u8)) ⟨1, 1, [.int .u8 0], false, .int .u8, false⟩ h103 v119 fun v120 =>
  gV1 v120 fun x121 =>
  gI .u8 x121 fun i122 =>
  (bin Ev .quo 2 (iv .i64 (IntKind.i64.wrap (i106 - 1))) (iv .i64 i110)).bind fun b123 =>
  gV1 b123 fun x124 =>
  gI .i64 x124 fun i125 =>
  vcase (bv (decide (a1 > 200)))
  ((load1 h103 (pv a0_b (a0_o + 0))).bind fun x127 =>
  (bin Ev .rem 2 (iv .i64 (IntKind.i64.wrap ((IntKind.i64.wrap (i106 - 1)) + 1))) (iv .i64 i110)).bind fun b128 =>
  gV1 b128 fun x129 =>
  gI .i64 x129 fun i130 =>
  idxK 1 (.s x127) (iv .i64 i130) fun v131 =>
  ldK (.one (.i .u8)) ⟨1, 1, [.int .u8 0], false, .int .u8, false⟩ h103 v131 fun v132 =>
  gV1 v132 fun x133 =>
  gI .u8 x133 fun i134 =>
  (bin Ev .rem 2 (iv .i64 (IntKind.i64.wrap ((IntKind.i64.wrap ((IntKind.i64.wrap ((IntKind.i64.wrap ((IntKind.i64.wrap i122) + (IntKind.i64.wrap (i125 * 37)))) * 251)) + (IntKind.i64.wrap ((IntKind.i64.wrap i134) * 13)))) + (IntKind.i64.wrap (i106 - 1))))) (iv .i64 a1)).bind fun b135 =>
  gV1 b135 fun x136 =>
  gI .i64 x136 fun i137 =>
  some (iv .i64 i137, h103))
  ((bin Ev .rem 2 (iv .i64 (IntKind.i64.wrap ((IntKind.i64.wrap i122) + (IntKind.i64.wrap (i125 * 37))))) (iv .i64 a1)).bind fun b138 =>
  gV1 b138 fun x139 =>
  gI .i64 x139 fun i140 =>
  some (iv .i64 i140, h103)))) := by
  rw [call_eq]; kernel_rfl

theorem eq_spec_l1Chance (a0_b a0_o : Nat) (a1 : Int) (h : H) : call Ev Fn.spec_l1Chance [pv a0_b a0_o, iv .i64 a1] h =
  (call Ev Fn.spec_l1Next [pv a0_b a0_o, iv .i64 a1] h).bind fun p101 =>
  gV1 p101.1 fun x102 =>
  gI .i64 x102 fun i103 =>
  some (bv (i103 == 0), tidy h [p101.1] p101.2) := by
  rw [call_eq]; kernel_rfl

theorem eq_spec_l1Pick (a0_b a0_o : Nat) (a1 : V) (h : H) : call Ev Fn.spec_l1Pick [pv a0_b a0_o, a1] h =
  (lenV (.sl 2) a1).bind fun v101 =>
  gV1 v101 fun x102 =>
  gI .i64 x102 fun i103 =>
  (call Ev Fn.spec_l1Next [pv a0_b a0_o, iv .i64 i103] h).bind fun p104 =>
  gV1 p104.1 fun x105 =>
  gI .i64 x105 fun i106 =>
  idxK 1 a1 (iv .i64 i106) fun v107 =>
  ldK (.one (.i .i64)) ⟨1, 8, [.int .i64 0], false, .int .i64, false⟩ (tidy h [p104.1] p104.2) v107 fun v108 =>
  gV1 v108 fun x109 =>
  gI .i64 x109 fun i110 =>
  some (iv .i64 i110, tidy h [p104.1] p104.2) := by
  rw [call_eq]; kernel_rfl

theorem eq_spec_l1Some (a0_b a0_o : Nat) (a1 : Int) (h : H) : call Ev Fn.spec_l1Some [pv a0_b a0_o, iv .i64 a1] h =
  (Lp.spec_l1Some 0 [pv a0_b a0_o, iv .i64 a1, sv h.n 0 0] (h.new 1 [])).bind fun o101 => lcase o101 (fun l102 h103 =>
  (l102[0]?).bind fun w106 =>
  some (w106, h103)) (fun v104 h105 =>
  some (v104, h105)) := by
  rw [call_eq]; kernel_rfl

theorem eq_spec_l1Some_l0 (s0 : V) (s1 : Int) (s5 : V) (h : H) : Lp.spec_l1Some 0 [s0, iv .i64 s1, s5] h =
  vcase (bv (decide (s1 > 0)))
  ((call Ev Fn.spec_l1Next [s0, iv .i64 256] h).bind fun p203 =>
  gV1 p203.1 fun x204 =>
  gI .i64 x204 fun i205 =>
  (appS 1 ((tidy h [p203.1] p203.2).new 1 [.int .u8 (IntKind.u8.wrap i205)]) s5 (sv ((tidy h [p203.1] p203.2).n) 0 1)).bind fun p206 =>
  Lp.spec_l1Some 0 [s0, iv .i64 (IntKind.i64.wrap (s1 - 1)), p206.1] (tidy h [s0, iv .i64 (IntKind.i64.wrap (s1 - 1)), p206.1] p206.2))
  (some (.done [s5] (tidy h [s5] h))) := by
  unfold Lp.spec_l1Some; rw [loop_eq]; kernel_rfl

theorem eq_spec_l2New (a0 : Int) (n : Nat) : call Ev Fn.spec_l2New [iv .u8 a0] (D n) =
  (mkSl 1 [.int .u8 0] (D n) (iv .i64 64) (iv .i64 64)).bind fun p101 =>
  (Lp.spec_l2New 0 [iv .u8 a0, p101.1, iv .i64 0] p101.2).bind fun o102 => lcase o102 (fun l103 h104 =>
  (l103[0]?).bind fun w107 =>
  idxK 1 w107 (iv .i64 0) fun v108 =>
  stK 1 h104 v108 (iv .u8 0) fun h109 =>
  idxK 1 w107 (iv .i64 1) fun v110 =>
  stK 1 h109 v110 (iv .u8 64) fun h111 =>
  some (w107, h111)) (fun v105 h106 =>
  some (v105, h106)) := by
  rw [call_eq]; kernel_rfl

theorem eq_spec_l2New_l0 (s0 : Int) (s3 : V) (s4 : Int) (h : H) : Lp.spec_l2New 0 [iv .u8 s0, s3, iv .i64 s4] h =
  vcase (bv (decide (s4 < 64)))
  (idxK 1 s3 (iv .i64 s4) fun v203 =>
  stK 1 h v203 (iv .u8 s0) fun h204 =>
  Lp.spec_l2New 0 [iv .u8 s0, s3, iv .i64 (IntKind.i64.wrap (s4 + 1))] (tidy h [iv .u8 s0, s3, iv .i64 (IntKind.i64.wrap (s4 + 1))] h204))
  (some (.done [s3] (tidy h [s3] h))) := by
  unfold Lp.spec_l2New; rw [loop_eq]; kernel_rfl

theorem pu_spec_l2Count (a0 : List (List S)) : pureV (call Ev) Fn.spec_l2Count [lv a0] =
  idxF 1 a0 0 fun r101 =>
  (r101[0]?).bind fun x102 =>
  gI .u8 x102 fun i103 =>
  some (iv .i64 (IntKind.i64.wrap i103)) := by
  rw [pure_eq]; kernel_rfl

theorem pu_spec_l2Size (a0 : List (List S)) (a1 : Int) : pureV (call Ev) Fn.spec_l2Size [lv a0, iv .i64 a1] =
  idxF 1 a0 (IntKind.i64.wrap (3 + (IntKind.i64.wrap (2 * a1)))) fun r101 =>
  (r101[0]?).bind fun x102 =>
  gI .u8 x102 fun i103 =>
  some (iv .i64 (IntKind.i64.wrap i103)) := by
  rw [pure_eq]; kernel_rfl

theorem pu_spec_l2Has (a0 : List (List S)) (a1 : Int) : pureV (call Ev) Fn.spec_l2Has [lv a0, iv .i64 a1] =
  pcallS (call Ev) Fn.spec_l2Count [lv a0] fun v101 =>
  gV1 v101 fun x102 =>
  gI .i64 x102 fun i103 =>
  pcallS (call Ev) Fn.spec_l1In [iv .i64 a1, iv .i64 0, iv .i64 (IntKind.i64.wrap (i103 - 1))] fun v104 =>
  gV1 v104 fun x105 =>
  gB x105 fun q106 =>
  vcase (bv q106)
  (pcallS (call Ev) Fn.spec_l2Size [lv a0, iv .i64 a1] fun v108 =>
  gV1 v108 fun x109 =>
  gI .i64 x109 fun i110 =>
  some (bv (decide (i110 > 0))))
  (some (bv false)) := by
  rw [pure_eq]; kernel_rfl

theorem eq_spec_l2Drop (a0 : List (List S)) (a1 : Int) (n : Nat) : call Ev Fn.spec_l2Drop [lv a0, iv .i64 a1] (D n) =
  pcallF (call Ev) Fn.spec_l2Copy true [lv a0] (D n) fun v101 h102 =>
  idxK 1 v101 (iv .i64 (IntKind.i64.wrap (2 + (IntKind.i64.wrap (2 * a1))))) fun v103 =>
  stK 1 h102 v103 (iv .u8 0) fun h104 =>
  idxK 1 v101 (iv .i64 (IntKind.i64.wrap (3 + (IntKind.i64.wrap (2 * a1))))) fun v105 =>
  stK 1 h104 v105 (iv .u8 0) fun h106 =>
  (Lp.spec_l2Drop 0 [v101] h106).bind fun o107 => lcase o107 (fun l108 h109 =>
  (l108[0]?).bind fun w112 =>
  some (w112, h109)) (fun v110 h111 =>
  some (v110, h111)) := by
  rw [call_eq]; kernel_rfl

theorem eq_spec_l2Drop_l0 (s5 : V) (h : H) : Lp.spec_l2Drop 0 [s5] h =
  idxK 1 s5 (iv .i64 0) fun v201 =>
  ldK (.one (.i .u8)) ⟨1, 1, [.int .u8 0], false, .int .u8, false⟩ h v201 fun v202 =>
  gV1 v202 fun x203 =>
  gI .u8 x203 fun i204 =>
  vcase (bv (decide (i204 > 0)))
  (idxK 1 s5 (iv .i64 0) fun v206 =>
  ldK (.one (.i .u8)) ⟨1, 1, [.int .u8 0], false, .int .u8, false⟩ h v206 fun v207 =>
  gV1 v207 fun x208 =>
  gI .u8 x208 fun i209 =>
  (frzVs h [s5, iv .i64 (IntKind.i64.wrap ((IntKind.i64.wrap i209) - 1))]).bind fun l210 =>
  pcallS (call Ev) Fn.spec_l2Size (normVs [] l210) fun v211 =>
  gV1 v211 fun x212 =>
  gI .i64 x212 fun i213 =>
  vcase (bv (i213 == 0))
  (idxK 1 s5 (iv .i64 0) fun v218 =>
  ldK (.one (.i .u8)) ⟨1, 1, [.int .u8 0], false, .int .u8, false⟩ h v218 fun v219 =>
  gV1 v219 fun x220 =>
  gI .u8 x220 fun i221 =>
  idxK 1 s5 (iv .i64 0) fun v222 =>
  stK 1 h v222 (iv .u8 (IntKind.u8.wrap (i221 - 1))) fun h223 =>
  Lp.spec_l2Drop 0 [s5] (tidy h [s5] h223))
  (some (.done [s5] (tidy h [s5] h))))
  (some (.done [s5] (tidy h [s5] h))) := by
  unfold Lp.spec_l2Drop; rw [loop_eq]; kernel_rfl

theorem eq_spec_l2Stand (a0 : V) (a1 : Int) (a2 : Int) (a3 : V) (h : H) : call Ev Fn.spec_l2Stand [a0, iv .i64 a1, iv .i64 a2, a3] h =
  slK 1 h a0 (some (iv .i64 a2)) none fun v101 =>
  (copS 1 h v101 a3).bind fun p102 =>
  gV1 p102.1 fun x103 =>
  gI .i64 x103 fun i104 =>
  idxK 1 a0 (iv .i64 (IntKind.i64.wrap (2 + (IntKind.i64.wrap (2 * a1))))) fun v105 =>
  stK 1 p102.2 v105 (iv .u8 (IntKind.u8.wrap a2)) fun h106 =>
  (lenV (.sl 5) a3).bind fun v107 =>
  gV1 v107 fun x108 =>
  gI .i64 x108 fun i109 =>
  idxK 1 a0 (iv .i64 (IntKind.i64.wrap (3 + (IntKind.i64.wrap (2 * a1))))) fun v110 =>
  stK 1 h106 v110 (iv .u8 (IntKind.u8.wrap i109)) fun h111 =>
  some (.tup [], h111) := by
  rw [call_eq]; kernel_rfl

theorem pu_spec_l2Place (a0 : List (List S)) (a1 : Int) : pureV (call Ev) Fn.spec_l2Place [lv a0, iv .i64 a1] =
  idxF 1 a0 (IntKind.i64.wrap (2 + (IntKind.i64.wrap (2 * a1)))) fun r101 =>
  (r101[0]?).bind fun x102 =>
  gI .u8 x102 fun i103 =>
  some (iv .i64 (IntKind.i64.wrap i103)) := by
  rw [pure_eq]; kernel_rfl

theorem pu_spec_l2Free (a0 : List (List S)) : pureV (call Ev) Fn.spec_l2Free [lv a0] =
  pcallS (call Ev) Fn.spec_l2Count [lv a0] fun v101 =>
  gV1 v101 fun x102 =>
  gI .i64 x102 fun i103 =>
  (Lp.spec_l2Free 0 [lv a0, iv .i64 (IntKind.i64.wrap (62 - (IntKind.i64.wrap (2 * i103)))), iv .i64 0] (D 0)).bind fun o104 => lcase o104 (fun l105 h106 =>
  (l105[0]?).bind fun w109 =>
  gV1 w109 fun x110 =>
  gI .i64 x110 fun i111 =>
  some (iv .i64 i111)) (fun v107 h108 =>
  frzV h108 v107) := by
  rw [pure_eq]; kernel_rfl

theorem eq_spec_l2Free_l0 (s0 : List (List S)) (s3 : Int) (s4 : Int) (h : H) : Lp.spec_l2Free 0 [lv s0, iv .i64 s3, iv .i64 s4] h =
  pcallS (call Ev) Fn.spec_l2Count [lv s0] fun v201 =>
  gV1 v201 fun x202 =>
  gI .i64 x202 fun i203 =>
  vcase (bv (decide (s4 < i203)))
  (pcallS (call Ev) Fn.spec_l2Size [lv s0, iv .i64 s4] fun v206 =>
  gV1 v206 fun x207 =>
  gI .i64 x207 fun i208 =>
  Lp.spec_l2Free 0 [lv s0, iv .i64 (IntKind.i64.wrap (s3 - i208)), iv .i64 (IntKind.i64.wrap (s4 + 1))] (tidy h [lv s0, iv .i64 (IntKind.i64.wrap (s3 - i208)), iv .i64 (IntKind.i64.wrap (s4 + 1))] h))
  (some (.done [iv .i64 s3] (tidy h [iv .i64 s3] h))) := by
  unfold Lp.spec_l2Free; rw [loop_eq]; kernel_rfl

theorem pu_spec_l2Low (a0 : List (List S)) : pureV (call Ev) Fn.spec_l2Low [lv a0] =
  idxF 1 a0 1 fun r101 =>
  (r101[0]?).bind fun x102 =>
  gI .u8 x102 fun i103 =>
  some (iv .i64 (IntKind.i64.wrap i103)) := by
  rw [pure_eq]; kernel_rfl

theorem eq_spec_l2Set (a0 : List (List S)) (a1 : Int) (a2 : List (List S)) (n : Nat) : call Ev Fn.spec_l2Set [lv a0, iv .i64 a1, lv a2] (D n) =
  pcallS (call Ev) Fn.spec_l2Size [lv a0, iv .i64 a1] fun v101 =>
  gV1 v101 fun x102 =>
  gI .i64 x102 fun i103 =>
  pcallF (call Ev) Fn.spec_l2Copy true [lv a0] (D n) fun v104 h105 =>
  vcase (bv (decide ((a2.length : Int) ≤ i103)))
  (pcallS (call Ev) Fn.spec_l2Place [lv a0, iv .i64 a1] fun v107 =>
  gV1 v107 fun x108 =>
  gI .i64 x108 fun i109 =>
  (call Ev Fn.spec_l2Stand [v104, iv .i64 a1, iv .i64 (IntKind.i64.wrap ((IntKind.i64.wrap (i109 + i103)) - (a2.length : Int))), lv a2] h105).bind fun p110 =>
  (V.toA v104).bind fun t111 =>
  some (.tup [t111, .s (.int .i64 0)], tidy h105 [p110.1] p110.2))
  (pcallS (call Ev) Fn.spec_l2Free [lv a0] fun v112 =>
  gV1 v112 fun x113 =>
  gI .i64 x113 fun i114 =>
  vcase (bv (decide ((IntKind.i64.wrap (i114 + i103)) < (a2.length : Int))))
  (some (.tup [.s (.sl none 0), .s (.int .i64 9)], h105))
  (pcallS (call Ev) Fn.spec_l2Low [lv a0] fun v116 =>
  gV1 v116 fun x117 =>
  gI .i64 x117 fun i118 =>
  pcallS (call Ev) Fn.spec_l2Count [lv a0] fun v119 =>
  gV1 v119 fun x120 =>
  gI .i64 x120 fun i121 =>
  vcase (bv (decide ((IntKind.i64.wrap (i118 - (a2.length : Int))) < (IntKind.i64.wrap (2 + (IntKind.i64.wrap (2 * i121)))))))
  (some (.tup [.s (.sl none 0), .s (.int .i64 8)], h105))
  (idxK 1 v104 (iv .i64 1) fun v123 =>
  stK 1 h105 v123 (iv .u8 (IntKind.u8.wrap (IntKind.i64.wrap (i118 - (a2.length : Int))))) fun h124 =>
  (call Ev Fn.spec_l2Stand [v104, iv .i64 a1, iv .i64 (IntKind.i64.wrap (i118 - (a2.length : Int))), lv a2] h124).bind fun p125 =>
  (V.toA v104).bind fun t126 =>
  some (.tup [t126, .s (.int .i64 0)], tidy h124 [p125.1] p125.2)))) := by
  rw [call_eq]; kernel_rfl

theorem pu_spec_l2Cell (a0 : List (List S)) (a1 : Int) : pureV (call Ev) Fn.spec_l2Cell [lv a0, iv .i64 a1] =
  pcallS (call Ev) Fn.spec_l2Place [lv a0, iv .i64 a1] fun v101 =>
  gV1 v101 fun x102 =>
  gI .i64 x102 fun i103 =>
  pcallS (call Ev) Fn.spec_l2Size [lv a0, iv .i64 a1] fun v104 =>
  gV1 v104 fun x105 =>
  gI .i64 x105 fun i106 =>
  slF 1 a0 (some (iv .i64 i103)) (some (iv .i64 (IntKind.i64.wrap (i103 + i106)))) fun z107 =>
  (appS 1 ((D 0).new 1 []) (sv 0 0 0) (lv z107)).bind fun p108 =>
  frzV p108.2 p108.1 := by
  rw [pure_eq]; kernel_rfl

theorem eq_spec_l2Compact (a0 : List (List S)) (n : Nat) : call Ev Fn.spec_l2Compact [lv a0] (D n) =
  pcallS (call Ev) Fn.spec_l2Count [lv a0] fun v101 =>
  gV1 v101 fun x102 =>
  gI .i64 x102 fun i103 =>
  (mkSl 1 [.int .u8 0] (D n) (iv .i64 64) (iv .i64 64)).bind fun p104 =>
  slF 1 a0 none (some (iv .i64 (IntKind.i64.wrap (2 + (IntKind.i64.wrap (2 * i103)))))) fun z105 =>
  (copS 1 p104.2 p104.1 (lv z105)).bind fun p106 =>
  gV1 p106.1 fun x107 =>
  gI .i64 x107 fun i108 =>
  (Lp.spec_l2Compact 0 [lv a0, iv .i64 i103, p104.1, iv .i64 64, iv .i64 0] p106.2).bind fun o109 => lcase o109 (fun l110 h111 =>
  (l110[0]?).bind fun w114 =>
  (l110[1]?).bind fun w115 =>
  gV1 w115 fun x116 =>
  gI .i64 x116 fun i117 =>
  idxK 1 w114 (iv .i64 1) fun v118 =>
  stK 1 h111 v118 (iv .u8 (IntKind.u8.wrap i117)) fun h119 =>
  some (w114, h119)) (fun v112 h113 =>
  some (v112, h113)) := by
  rw [call_eq]; kernel_rfl

theorem eq_spec_l2Compact_l0 (s0 : List (List S)) (s3 : Int) (s4 : V) (s5 : Int) (s6 : Int) (h : H) : Lp.spec_l2Compact 0 [lv s0, iv .i64 s3, s4, iv .i64 s5, iv .i64 s6] h =
  vcase (bv (decide (s6 < s3)))
  (pcallS (call Ev) Fn.spec_l2Size [lv s0, iv .i64 s6] fun v203 =>
  gV1 v203 fun x204 =>
  gI .i64 x204 fun i205 =>
  vcase (bv (i205 == 0))
  (Lp.spec_l2Compact 0 [lv s0, iv .i64 s3, s4, iv .i64 s5, iv .i64 (IntKind.i64.wrap (s6 + 1))] (tidy h [lv s0, iv .i64 s3, s4, iv .i64 s5, iv .i64 (IntKind.i64.wrap (s6 + 1))] h))
  ((pureV (call Ev) Fn.spec_l2Cell [lv s0, iv .i64 s6]).bind fun v207 =>
  gV1 v207 fun x208 =>
  gF x208 fun z209 =>
  (call Ev Fn.spec_l2Stand [s4, iv .i64 s6, iv .i64 (IntKind.i64.wrap (s5 - (z209.length : Int))), lv z209] h).bind fun p210 =>
  Lp.spec_l2Compact 0 [lv s0, iv .i64 s3, s4, iv .i64 (IntKind.i64.wrap (s5 - (z209.length : Int))), iv .i64 (IntKind.i64.wrap (s6 + 1))] (tidy h [lv s0, iv .i64 s3, s4, iv .i64 (IntKind.i64.wrap (s5 - (z209.length : Int))), iv .i64 (IntKind.i64.wrap (s6 + 1))] (tidy h [p210.1] p210.2))))
  (some (.done [s4, iv .i64 s5] (tidy h [s4, iv .i64 s5] h))) := by
  unfold Lp.spec_l2Compact; rw [loop_eq]; kernel_rfl

theorem pu_spec_l2Empty (a0 : List (List S)) : pureV (call Ev) Fn.spec_l2Empty [lv a0] =
  (Lp.spec_l2Empty 0 [lv a0, iv .i64 0] (D 0)).bind fun o101 => lcase o101 (fun l102 h103 =>
  (l102[0]?).bind fun w106 =>
  gV1 w106 fun x107 =>
  gF x107 fun z108 =>
  pcallS (call Ev) Fn.spec_l2Count [lv z108] fun v109 =>
  gV1 v109 fun x110 =>
  gI .i64 x110 fun i111 =>
  some (iv .i64 i111)) (fun v104 h105 =>
  frzV h105 v104) := by
  rw [pure_eq]; kernel_rfl

theorem eq_spec_l2Empty_l0 (s0 : List (List S)) (s3 : Int) (h : H) : Lp.spec_l2Empty 0 [lv s0, iv .i64 s3] h =
  pcallS (call Ev) Fn.spec_l2Count [lv s0] fun v201 =>
  gV1 v201 fun x202 =>
  gI .i64 x202 fun i203 =>
  vcase (bv (decide (s3 < i203)))
  (pcallS (call Ev) Fn.spec_l2Size [lv s0, iv .i64 s3] fun v206 =>
  gV1 v206 fun x207 =>
  gI .i64 x207 fun i208 =>
  vcase (bv (i208 == 0))
  (some (.ret (iv .i64 s3) h))
  (Lp.spec_l2Empty 0 [lv s0, iv .i64 (IntKind.i64.wrap (s3 + 1))] (tidy h [lv s0, iv .i64 (IntKind.i64.wrap (s3 + 1))] h)))
  (some (.done [lv s0] (tidy h [lv s0] h))) := by
  unfold Lp.spec_l2Empty; rw [loop_eq]; kernel_rfl

noncomputable def Jn.spec_l2Put_0 (i125 : Int) (i126 : Int) (a0 : List (List S)) (a1 : List (List S)) (n : Nat) (i103 : Int) : Option (V × H) :=
  pcallS (call Ev) Fn.spec_l2Free [lv a0] fun v127 =>
  gV1 v127 fun x128 =>
  gI .i64 x128 fun i129 =>
  vcase (bv (decide (i129 < (IntKind.i64.wrap ((a1.length : Int) + i126)))))
  (some (.tup [.s (.sl none 0), .s (.int .i64 0), .s (.int .i64 9)], (D n)))
  (pcallS (call Ev) Fn.spec_l2Low [lv a0] fun v131 =>
  gV1 v131 fun x132 =>
  gI .i64 x132 fun i133 =>
  vcase (bv (decide ((IntKind.i64.wrap (i133 - (a1.length : Int))) < (IntKind.i64.wrap (2 + (IntKind.i64.wrap (2 * i125)))))))
  (some (.tup [.s (.sl none 0), .s (.int .i64 0), .s (.int .i64 8)], (D n)))
  (pcallF (call Ev) Fn.spec_l2Copy true [lv a0] (D n) fun v135 h136 =>
  idxK 1 v135 (iv .i64 0) fun v137 =>
  stK 1 h136 v137 (iv .u8 (IntKind.u8.wrap i125)) fun h138 =>
  idxK 1 v135 (iv .i64 1) fun v139 =>
  stK 1 h138 v139 (iv .u8 (IntKind.u8.wrap (IntKind.i64.wrap (i133 - (a1.length : Int))))) fun h140 =>
  (call Ev Fn.spec_l2Stand [v135, iv .i64 i103, iv .i64 (IntKind.i64.wrap (i133 - (a1.length : Int))), lv a1] h140).bind fun p141 =>
  (V.toA v135).bind fun t142 =>
  some (.tup [t142, .s (.int .i64 i103), .s (.int .i64 0)], tidy h140 [p141.1] p141.2)))

theorem eq_spec_l2Put (a0 : List (List S)) (a1 : List (List S)) (n : Nat) : call Ev Fn.spec_l2Put [lv a0, lv a1] (D n) =
  pcallS (call Ev) Fn.spec_l2Empty [lv a0] fun v101 =>
  gV1 v101 fun x102 =>
  gI .i64 x102 fun i103 =>
  pcallS (call Ev) Fn.spec_l2Count [lv a0] fun v104 =>
  gV1 v104 fun x105 =>
  gI .i64 x105 fun i106 =>
  vcase (bv (i103 == i106))
  (vcase (bv (decide (i106 ≥ 16)))
  (some (.tup [.s (.sl none 0), .s (.int .i64 0), .s (.int .i64 2)], (D n)))
  (Jn.spec_l2Put_0 (IntKind.i64.wrap (i106 + 1)) 2 a0 a1 n i103))
  (Jn.spec_l2Put_0 i106 0 a0 a1 n i103) := by
  rw [call_eq]; kernel_rfl

theorem eq_spec_l2Right (a0_b a0_o : Nat) (h : H) : call Ev Fn.spec_l2Right [pv a0_b a0_o] h =
  (call Ev Fn.spec_l1Pick [pv a0_b a0_o, sv h.n 0 3] (h.new 1 [.int .i64 0, .int .i64 0, .int .i64 7])).bind fun p101 =>
  gV1 p101.1 fun x102 =>
  gI .i64 x102 fun i103 =>
  pcallF (call Ev) Fn.spec_l2New true [iv .u8 (IntKind.u8.wrap i103)] (tidy (h.new 1 [.int .i64 0, .int .i64 0, .int .i64 7]) [p101.1] p101.2) fun v104 h105 =>
  (call Ev Fn.spec_l1Next [pv a0_b a0_o, iv .i64 14] h105).bind fun p106 =>
  gV1 p106.1 fun x107 =>
  gI .i64 x107 fun i108 =>
  (Lp.spec_l2Right 0 [pv a0_b a0_o, v104, iv .i64 i108] (tidy h105 [p106.1] p106.2)).bind fun o109 => lcase o109 (fun l110 h111 =>
  (l110[0]?).bind fun w114 =>
  some (w114, h111)) (fun v112 h113 =>
  some (v112, h113)) := by
  rw [call_eq]; kernel_rfl

theorem eq_spec_l2Right_l0 (s0 : V) (s3 : V) (s4 : Int) (h : H) : Lp.spec_l2Right 0 [s0, s3, iv .i64 s4] h =
  vcase (bv (decide (s4 > 0)))
  ((call Ev Fn.spec_l1Next [s0, iv .i64 14] h).bind fun p203 =>
  gV1 p203.1 fun x204 =>
  gI .i64 x204 fun i205 =>
  (call Ev Fn.spec_l1Some [s0, iv .i64 (IntKind.i64.wrap (1 + i205))] (tidy h [p203.1] p203.2)).bind fun p206 =>
  (call Ev Fn.spec_l1Next [s0, iv .i64 5] (tidy (tidy h [p203.1] p203.2) [p206.1] p206.2)).bind fun p207 =>
  gV1 p207.1 fun x208 =>
  gI .i64 x208 fun i209 =>
  vcase (bv (i209 == 0))
  ((call Ev Fn.spec_l1Next [s0, iv .i64 6] (tidy (tidy (tidy h [p203.1] p203.2) [p206.1] p206.2) [p207.1] p207.2)).bind fun p212 =>
  gV1 p212.1 fun x213 =>
  gI .i64 x213 fun i214 =>
  (frzVs (tidy (tidy (tidy (tidy h [p203.1] p203.2) [p206.1] p206.2) [p207.1] p207.2) [p212.1] p212.2) [s3, iv .i64 i214]).bind fun l215 =>
  pcallS (call Ev) Fn.spec_l2Has (normVs [] l215) fun v216 =>
  gV1 v216 fun x217 =>
  gB x217 fun q218 =>
  vcase (bv q218)
  ((frzVs (tidy (tidy (tidy (tidy h [p203.1] p203.2) [p206.1] p206.2) [p207.1] p207.2) [p212.1] p212.2) [s3, iv .i64 i214]).bind fun l220 =>
  pcallF (call Ev) Fn.spec_l2Drop ([s3, iv .i64 i214].all offV) (normVs [] l220) (tidy (tidy (tidy (tidy h [p203.1] p203.2) [p206.1] p206.2) [p207.1] p207.2) [p212.1] p212.2) fun v221 h222 =>
  Lp.spec_l2Right 0 [s0, v221, iv .i64 (IntKind.i64.wrap (s4 - 1))] (tidy h [s0, v221, iv .i64 (IntKind.i64.wrap (s4 - 1))] h222))
  (Lp.spec_l2Right 0 [s0, s3, iv .i64 (IntKind.i64.wrap (s4 - 1))] (tidy h [s0, s3, iv .i64 (IntKind.i64.wrap (s4 - 1))] (tidy (tidy (tidy (tidy h [p203.1] p203.2) [p206.1] p206.2) [p207.1] p207.2) [p212.1] p212.2))))
  (vcase (bv (i209 == 1))
  ((call Ev Fn.spec_l1Next [s0, iv .i64 6] (tidy (tidy (tidy h [p203.1] p203.2) [p206.1] p206.2) [p207.1] p207.2)).bind fun p224 =>
  gV1 p224.1 fun x225 =>
  gI .i64 x225 fun i226 =>
  (frzVs (tidy (tidy (tidy (tidy h [p203.1] p203.2) [p206.1] p206.2) [p207.1] p207.2) [p224.1] p224.2) [s3, iv .i64 i226]).bind fun l227 =>
  pcallS (call Ev) Fn.spec_l2Has (normVs [] l227) fun v228 =>
  gV1 v228 fun x229 =>
  gB x229 fun q230 =>
  vcase (bv q230)
  ((frzVs (tidy (tidy (tidy (tidy h [p203.1] p203.2) [p206.1] p206.2) [p207.1] p207.2) [p224.1] p224.2) [s3, iv .i64 i226, p206.1]).bind fun l232 =>
  pcallF (call Ev) Fn.spec_l2Set ([s3, iv .i64 i226, p206.1].all offV) (normVs [] l232) (tidy (tidy (tidy (tidy h [p203.1] p203.2) [p206.1] p206.2) [p207.1] p207.2) [p224.1] p224.2) fun v233 h234 =>
  gVT v233 fun u235 =>
  (u235[0]?).bind fun t236 =>
  gA1 t236 fun x237 =>
  (u235[1]?).bind fun t238 =>
  gA1 t238 fun x239 =>
  gI .i64 x239 fun i240 =>
  if u235.length = 2 then
  vcase (bv (i240 == 0))
  (Lp.spec_l2Right 0 [s0, .s x237, iv .i64 (IntKind.i64.wrap (s4 - 1))] (tidy h [s0, .s x237, iv .i64 (IntKind.i64.wrap (s4 - 1))] h234))
  (Lp.spec_l2Right 0 [s0, s3, iv .i64 (IntKind.i64.wrap (s4 - 1))] (tidy h [s0, s3, iv .i64 (IntKind.i64.wrap (s4 - 1))] h234))
  else none)
  (Lp.spec_l2Right 0 [s0, s3, iv .i64 (IntKind.i64.wrap (s4 - 1))] (tidy h [s0, s3, iv .i64 (IntKind.i64.wrap (s4 - 1))] (tidy (tidy (tidy (tidy h [p203.1] p203.2) [p206.1] p206.2) [p207.1] p207.2) [p224.1] p224.2))))
  (vcase (bv (i209 == 2))
  ((call Ev Fn.spec_l1Chance [s0, iv .i64 3] (tidy (tidy (tidy h [p203.1] p203.2) [p206.1] p206.2) [p207.1] p207.2)).bind fun p243 =>
  gV1 p243.1 fun x244 =>
  gB x244 fun q245 =>
  vcase (bv q245)
  ((frzVs (tidy (tidy (tidy (tidy h [p203.1] p203.2) [p206.1] p206.2) [p207.1] p207.2) [p243.1] p243.2) [s3]).bind fun l247 =>
  pcallF (call Ev) Fn.spec_l2Compact ([s3].all offV) (normVs [] l247) (tidy (tidy (tidy (tidy h [p203.1] p203.2) [p206.1] p206.2) [p207.1] p207.2) [p243.1] p243.2) fun v248 h249 =>
  Lp.spec_l2Right 0 [s0, v248, iv .i64 (IntKind.i64.wrap (s4 - 1))] (tidy h [s0, v248, iv .i64 (IntKind.i64.wrap (s4 - 1))] h249))
  (Lp.spec_l2Right 0 [s0, s3, iv .i64 (IntKind.i64.wrap (s4 - 1))] (tidy h [s0, s3, iv .i64 (IntKind.i64.wrap (s4 - 1))] (tidy (tidy (tidy (tidy h [p203.1] p203.2) [p206.1] p206.2) [p207.1] p207.2) [p243.1] p243.2))))
  ((frzVs (tidy (tidy (tidy h [p203.1] p203.2) [p206.1] p206.2) [p207.1] p207.2) [s3, p206.1]).bind fun l250 =>
  pcallF (call Ev) Fn.spec_l2Put ([s3, p206.1].all offV) (normVs [] l250) (tidy (tidy (tidy h [p203.1] p203.2) [p206.1] p206.2) [p207.1] p207.2) fun v251 h252 =>
  gVT v251 fun u253 =>
  (u253[0]?).bind fun t254 =>
  gA1 t254 fun x255 =>
  (u253[1]?).bind fun t256 =>
  gA1 t256 fun x257 =>
  gI .i64 x257 fun i258 =>
  (u253[2]?).bind fun t259 =>
  gA1 t259 fun x260 =>
  gI .i64 x260 fun i261 =>
  if u253.length = 3 then
  vcase (bv (i261 == 0))
  (Lp.spec_l2Right 0 [s0, .s x255, iv .i64 (IntKind.i64.wrap (s4 - 1))] (tidy h [s0, .s x255, iv .i64 (IntKind.i64.wrap (s4 - 1))] h252))
  (Lp.spec_l2Right 0 [s0, s3, iv .i64 (IntKind.i64.wrap (s4 - 1))] (tidy h [s0, s3, iv .i64 (IntKind.i64.wrap (s4 - 1))] h252))
  else none))))
  (some (.done [s3] (tidy h [s3] h))) := by
  unfold Lp.spec_l2Right; rw [loop_eq]; kernel_rfl

theorem eq_spec_l3Two (a0_b a0_o : Nat) (h : H) : call Ev Fn.spec_l3Two [pv a0_b a0_o] h =
  (call Ev Fn.spec_l2Right [pv a0_b a0_o] h).bind fun p101 =>
  (frzVs (tidy h [p101.1] p101.2) [p101.1]).bind fun l102 =>
  pcallF (call Ev) Fn.spec_l2Copy ([p101.1].all offV) (normVs [] l102) (tidy h [p101.1] p101.2) fun v103 h104 =>
  (call Ev Fn.spec_l1Next [pv a0_b a0_o, iv .i64 9] h104).bind fun p105 =>
  gV1 p105.1 fun x106 =>
  gI .i64 x106 fun i107 =>
  (Lp.spec_l3Two 0 [pv a0_b a0_o, p101.1, v103, iv .i64 i107] (tidy h104 [p105.1] p105.2)).bind fun o108 => lcase o108 (fun l109 h110 =>
  (l109[0]?).bind fun w113 =>
  (l109[1]?).bind fun w114 =>
  (V.toA w113).bind fun t115 =>
  (V.toA w114).bind fun t116 =>
  some (.tup [t115, t116], h110)) (fun v111 h112 =>
  some (v111, h112)) := by
  rw [call_eq]; kernel_rfl

theorem eq_spec_l3Two_l0 (s0 : V) (s4 : V) (s5 : V) (s6 : Int) (h : H) : Lp.spec_l3Two 0 [s0, s4, s5, iv .i64 s6] h =
  vcase (bv (decide (s6 > 0)))
  ((call Ev Fn.spec_l1Next [s0, iv .i64 64] h).bind fun p203 =>
  gV1 p203.1 fun x204 =>
  gI .i64 x204 fun i205 =>
  (call Ev Fn.spec_l1Next [s0, iv .i64 256] (tidy h [p203.1] p203.2)).bind fun p206 =>
  gV1 p206.1 fun x207 =>
  gI .i64 x207 fun i208 =>
  idxK 1 s5 (iv .i64 i205) fun v209 =>
  stK 1 (tidy (tidy h [p203.1] p203.2) [p206.1] p206.2) v209 (iv .u8 (IntKind.u8.wrap i208)) fun h210 =>
  Lp.spec_l3Two 0 [s0, s4, s5, iv .i64 (IntKind.i64.wrap (s6 - 1))] (tidy h [s0, s4, s5, iv .i64 (IntKind.i64.wrap (s6 - 1))] h210))
  (some (.done [s4, s5] (tidy h [s4, s5] h))) := by
  unfold Lp.spec_l3Two; rw [loop_eq]; kernel_rfl

theorem pu_spec_DrawDiffBytes (a0 : List (List S)) : pureV (call Ev) Fn.spec_DrawDiffBytes [lv a0] =
  pcallF (call Ev) Fn.spec_l1Source true [lv a0] (D 0) fun v101 h102 =>
  (call Ev Fn.spec_l3Two [v101] h102).bind fun p103 =>
  gVT p103.1 fun u104 =>
  (u104[0]?).bind fun t105 =>
  gA1 t105 fun x106 =>
  (u104[1]?).bind fun t107 =>
  gA1 t107 fun x108 =>
  if u104.length = 2 then
  (call Ev Fn.spec_l1Chance [v101, iv .i64 12] (tidy h102 [p103.1] p103.2)).bind fun p109 =>
  gV1 p109.1 fun x110 =>
  gB x110 fun q111 =>
  vcase (bv q111)
  (slK 1 (tidy (tidy h102 [p103.1] p103.2) [p109.1] p109.2) (.s x108) (some (iv .i64 1)) none fun v113 =>
  (V.toA v113).bind fun t114 =>
  frzV (tidy (tidy h102 [p103.1] p103.2) [p109.1] p109.2) (.tup [.s x106, t114]))
  (frzV (tidy (tidy h102 [p103.1] p103.2) [p109.1] p109.2) (.tup [.s x106, .s x108]))
  else none := by
  rw [pure_eq]; kernel_rfl

theorem pu_impl_diff (a0 : List (List S)) (a1 : List (List S)) : pureV (call Ev) Fn.impl_diff [lv a0, lv a1] =
  (Lp.impl_diff 0 [lv a0, lv a1, .s (.sl none 0), iv .i64 0] (D 0)).bind fun o101 => lcase o101 (fun l102 h103 =>
  (l102[0]?).bind fun w106 =>
  frzV h103 w106) (fun v104 h105 =>
  frzV h105 v104) := by
  rw [pure_eq]; kernel_rfl

theorem eq_impl_diff_l0 (s0 : List (List S)) (s1 : List (List S)) (s5 : V) (s6 : Int) (h : H) : Lp.impl_diff 0 [lv s0, lv s1, s5, iv .i64 s6] h =
  vcase (bv (decide (s6 < 64)))
  (idxF 1 s0 s6 fun r203 =>
  (r203[0]?).bind fun x204 =>
  gI .u8 x204 fun i205 =>
  idxF 1 s1 s6 fun r206 =>
  (r206[0]?).bind fun x207 =>
  gI .u8 x207 fun i208 =>
  vcase (bv (i205 == i208))
  (Lp.impl_diff 0 [lv s0, lv s1, s5, iv .i64 (IntKind.i64.wrap (s6 + 1))] (tidy h [lv s0, lv s1, s5, iv .i64 (IntKind.i64.wrap (s6 + 1))] h))
  ((Lp.impl_diff 2 [lv s0, lv s1, s5, iv .i64 s6, iv .i64 s6] h).bind fun o210 => lcase o210 (fun l211 h212 =>
  (l211[0]?).bind fun w215 =>
  gV1 w215 fun x216 =>
  gF x216 fun z217 =>
  (l211[1]?).bind fun w218 =>
  gV1 w218 fun x219 =>
  gF x219 fun z220 =>
  (l211[2]?).bind fun w221 =>
  (l211[3]?).bind fun w222 =>
  gV1 w222 fun x223 =>
  gI .i64 x223 fun i224 =>
  (l211[4]?).bind fun w225 =>
  gV1 w225 fun x226 =>
  gI .i64 x226 fun i227 =>
  slF 1 z220 (some (iv .i64 i224)) (some (iv .i64 i227)) fun z228 =>
  pcallF (call Ev) Fn.impl_copied true [lv z228] h212 fun v229 h230 =>
  cellsK v229 fun c231 =>
  if c231.length = 1 ∧ 1 + 1 ≤ ([.int .i64 i224, .sl none 0] : List S).length then
  ((setAt ([.int .i64 i224, .sl none 0] : List S) 1 c231)[0]?).bind fun x232 =>
  gI .i64 x232 fun i233 =>
  ((setAt ([.int .i64 i224, .sl none 0] : List S) 1 c231)[1]?).bind fun x234 =>
  if (setAt ([.int .i64 i224, .sl none 0] : List S) 1 c231).length = 2 then
  (appS 2 (h230.new 2 [.int .i64 i233, x234]) w221 (sv h230.n 0 1)).bind fun p235 =>
  Lp.impl_diff 0 [lv z217, lv z220, p235.1, iv .i64 (IntKind.i64.wrap (i227 + 1))] (tidy h [lv z217, lv z220, p235.1, iv .i64 (IntKind.i64.wrap (i227 + 1))] p235.2)
  else none
  else none) (fun v213 h214 =>
  some (.ret v213 h214))))
  (some (.done [s5] (tidy h [s5] h))) := by
  unfold Lp.impl_diff; rw [loop_eq]; kernel_rfl

theorem eq_impl_diff_l2 (s0 : List (List S)) (s1 : List (List S)) (s5 : V) (s6 : Int) (s7 : Int) (h : H) : Lp.impl_diff 2 [lv s0, lv s1, s5, iv .i64 s6, iv .i64 s7] h =
  vcase (bv (decide (s7 < 64)))
  (idxF 1 s0 s7 fun r402 =>
  (r402[0]?).bind fun x403 =>
  gI .u8 x403 fun i404 =>
  idxF 1 s1 s7 fun r405 =>
  (r405[0]?).bind fun x406 =>
  gI .u8 x406 fun i407 =>
  vcase (bv (i404 != i407))
  (Lp.impl_diff 2 [lv s0, lv s1, s5, iv .i64 s6, iv .i64 (IntKind.i64.wrap (s7 + 1))] (tidy h [lv s0, lv s1, s5, iv .i64 s6, iv .i64 (IntKind.i64.wrap (s7 + 1))] h))
  (some (.done [lv s0, lv s1, s5, iv .i64 s6, iv .i64 s7] (tidy h [lv s0, lv s1, s5, iv .i64 s6, iv .i64 s7] h))))
  (some (.done [lv s0, lv s1, s5, iv .i64 s6, iv .i64 s7] (tidy h [lv s0, lv s1, s5, iv .i64 s6, iv .i64 s7] h))) := by
  unfold Lp.impl_diff; rw [loop_eq]; kernel_rfl

theorem pu_impl_DiffBytes (a0 : List (List S)) (a1 : List (List S)) : pureV (call Ev) Fn.impl_DiffBytes [lv a0, lv a1] =
  vcase (bv ((a0.length : Int) != 64))
  (some (.agg [.int .i64 1, .fs []]))
  (vcase (bv ((a1.length : Int) != 64))
  (some (.agg [.int .i64 1, .fs []]))
  ((pureV (call Ev) Fn.impl_diff [lv a0, lv a1]).bind fun v106 =>
  gV1 v106 fun x107 =>
  gF x107 fun z108 =>
  some (.agg [.int .i64 0, .fs z108]))) := by
  rw [pure_eq]; kernel_rfl

theorem eq_spec_l3Diff (a0 : List (List S)) (a1 : List (List S)) (n : Nat) : call Ev Fn.spec_l3Diff [lv a0, lv a1] (D n) =
  (Lp.spec_l3Diff 0 [lv a0, lv a1, sv ((D n).n) 0 0, bv false, iv .i64 0] ((D n).new 2 [])).bind fun o101 => lcase o101 (fun l102 h103 =>
  (l102[0]?).bind fun w106 =>
  some (w106, h103)) (fun v104 h105 =>
  some (v104, h105)) := by
  rw [call_eq]; kernel_rfl

theorem eq_spec_l3Diff_l0 (s0 : List (List S)) (s1 : List (List S)) (s5 : V) (s6 : Bool) (s7 : Int) (h : H) : Lp.spec_l3Diff 0 [lv s0, lv s1, s5, bv s6, iv .i64 s7] h =
  vcase (bv (decide (s7 < (s0.length : Int))))
  (idxF 1 s0 s7 fun r203 =>
  (r203[0]?).bind fun x204 =>
  gI .u8 x204 fun i205 =>
  idxF 1 s1 s7 fun r206 =>
  (r206[0]?).bind fun x207 =>
  gI .u8 x207 fun i208 =>
  vcase (bv (i205 == i208))
  (Lp.spec_l3Diff 0 [lv s0, lv s1, s5, bv false, iv .i64 (IntKind.i64.wrap (s7 + 1))] (tidy h [lv s0, lv s1, s5, bv false, iv .i64 (IntKind.i64.wrap (s7 + 1))] h))
  (vcase (bv (!s6))
  ((appS 2 (h.new 2 [.int .i64 s7, .sl none 0]) s5 (sv h.n 0 1)).bind fun p211 =>
  (lenV (.sl 97) p211.1).bind fun v212 =>
  gV1 v212 fun x213 =>
  gI .i64 x213 fun i214 =>
  idxK 2 p211.1 (iv .i64 (IntKind.i64.wrap (i214 - 1))) fun v215 =>
  (notNil v215).bind fun v216 =>
  (padd 1 v216).bind fun v217 =>
  ldK (.one (.f)) ⟨1, 24, [.sl none 0], false, .sl 5, false⟩ p211.2 v217 fun v218 =>
  idxF 1 s1 s7 fun r219 =>
  (r219[0]?).bind fun x220 =>
  gI .u8 x220 fun i221 =>
  hchk p211.2 (p211.2.new 1 [.int .u8 i221]) (
  (appS 1 (p211.2.new 1 [.int .u8 i221]) v218 (sv p211.2.n 0 1)).bind fun p222 =>
  (notNil v215).bind fun v223 =>
  (padd 1 v223).bind fun v224 =>
  stK 1 p222.2 v224 p222.1 fun h225 =>
  Lp.spec_l3Diff 0 [lv s0, lv s1, p211.1, bv true, iv .i64 (IntKind.i64.wrap (s7 + 1))] (tidy h [lv s0, lv s1, p211.1, bv true, iv .i64 (IntKind.i64.wrap (s7 + 1))] h225)))
  ((lenV (.sl 97) s5).bind fun v226 =>
  gV1 v226 fun x227 =>
  gI .i64 x227 fun i228 =>
  idxK 2 s5 (iv .i64 (IntKind.i64.wrap (i228 - 1))) fun v229 =>
  (notNil v229).bind fun v230 =>
  (padd 1 v230).bind fun v231 =>
  ldK (.one (.f)) ⟨1, 24, [.sl none 0], false, .sl 5, false⟩ h v231 fun v232 =>
  idxF 1 s1 s7 fun r233 =>
  (r233[0]?).bind fun x234 =>
  gI .u8 x234 fun i235 =>
  hchk h (h.new 1 [.int .u8 i235]) (
  (appS 1 (h.new 1 [.int .u8 i235]) v232 (sv h.n 0 1)).bind fun p236 =>
  (notNil v229).bind fun v237 =>
  (padd 1 v237).bind fun v238 =>
  stK 1 p236.2 v238 p236.1 fun h239 =>
  Lp.spec_l3Diff 0 [lv s0, lv s1, s5, bv true, iv .i64 (IntKind.i64.wrap (s7 + 1))] (tidy h [lv s0, lv s1, s5, bv true, iv .i64 (IntKind.i64.wrap (s7 + 1))] h239)))))
  (some (.done [s5] (tidy h [s5] h))) := by
  unfold Lp.spec_l3Diff; rw [loop_eq]; kernel_rfl

end Vm
