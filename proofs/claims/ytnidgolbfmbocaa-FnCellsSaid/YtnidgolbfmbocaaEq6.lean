/-
  What each function, and each round of each loop, comes to in the small machine. Written by a program (gen3.py).
-/
import Derived.Test.YtnidgolbfmbocaaEnv
set_option linter.unusedVariables false
set_option maxRecDepth 100000
namespace Vm
open Go

theorem eq_impl_diff (a0 : List (List S)) (a1 : List (List S)) (n : Nat) : call Ev Fn.impl_diff [lv a0, lv a1] (D n) =
  (Lp.impl_diff 0 [lv a0, lv a1, .s (.sl none 0), iv .i64 0] (D n)).bind fun o101 => lcase o101 (fun l102 h103 =>
  (l102[0]?).bind fun w106 =>
  some (w106, h103)) (fun v104 h105 =>
  some (v104, h105)) := by
  rw [call_eq]; kernel_rfl

theorem eq_impl_diff_l0 (s0 : List (List S)) (s1 : List (List S)) (s5 : V) (s6 : Int) (h : H) : Lp.impl_diff 0 [lv s0, lv s1, s5, iv .i64 s6] h =
  vcase (bv (decide (s6 < 64)))
  (idxF 1 s0 s6 fun r203 =>
  (r203[0]?).bind fun x204 =>
  gI .u8 x204 fun i205 =>
  idxF 1 s1 s6 fun r206 =>
  (r206[0]?).bind fun x207 =>
  gI .u8 x207 fun i208 =>
  vcase (bv (i205 == i208))
  (Lp.impl_diff 0 [lv s0, lv s1, s5, iv .i64 (IntKind.i64.wrap (s6 + 1))] (tidy h [lv s0, lv s1, s5, iv .i64 (IntKind.i64.wrap (s6 + 1))] h))
  ((Lp.impl_diff 2 [lv s0, lv s1, s5, iv .i64 s6, iv .i64 s6] h).bind fun o210 => lcase o210 (fun l211 h212 =>
  (l211[0]?).bind fun w215 =>
  gV1 w215 fun x216 =>
  gF x216 fun z217 =>
  (l211[1]?).bind fun w218 =>
  gV1 w218 fun x219 =>
  gF x219 fun z220 =>
  (l211[2]?).bind fun w221 =>
  (l211[3]?).bind fun w222 =>
  gV1 w222 fun x223 =>
  gI .i64 x223 fun i224 =>
  (l211[4]?).bind fun w225 =>
  gV1 w225 fun x226 =>
  gI .i64 x226 fun i227 =>
  slF 1 z220 (some (iv .i64 i224)) (some (iv .i64 i227)) fun z228 =>
  pcallF (call Ev) Fn.impl_copied true [lv z228] h212 fun v229 h230 =>
  cellsK v229 fun c231 =>
  if c231.length = 1 ∧ 1 + 1 ≤ ([.int .i64 i224, .sl none 0] : List S).length then
  ((setAt ([.int .i64 i224, .sl none 0] : List S) 1 c231)[0]?).bind fun x232 =>
  gI .i64 x232 fun i233 =>
  ((setAt ([.int .i64 i224, .sl none 0] : List S) 1 c231)[1]?).bind fun x234 =>
  if (setAt ([.int .i64 i224, .sl none 0] : List S) 1 c231).length = 2 then
  (appS 2 (h230.new 2 [.int .i64 i233, x234]) w221 (sv h230.n 0 1)).bind fun p235 =>
  Lp.impl_diff 0 [lv z217, lv z220, p235.1, iv .i64 (IntKind.i64.wrap (i227 + 1))] (tidy h [lv z217, lv z220, p235.1, iv .i64 (IntKind.i64.wrap (i227 + 1))] p235.2)
  else none
  else none) (fun v213 h214 =>
  some (.ret v213 h214))))
  (some (.done [s5] (tidy h [s5] h))) := by
  unfold Lp.impl_diff; rw [loop_eq]; kernel_rfl

theorem eq_impl_diff_l2 (s0 : List (List S)) (s1 : List (List S)) (s5 : V) (s6 : Int) (s7 : Int) (h : H) : Lp.impl_diff 2 [lv s0, lv s1, s5, iv .i64 s6, iv .i64 s7] h =
  vcase (bv (decide (s7 < 64)))
  (idxF 1 s0 s7 fun r402 =>
  (r402[0]?).bind fun x403 =>
  gI .u8 x403 fun i404 =>
  idxF 1 s1 s7 fun r405 =>
  (r405[0]?).bind fun x406 =>
  gI .u8 x406 fun i407 =>
  vcase (bv (i404 != i407))
  (Lp.impl_diff 2 [lv s0, lv s1, s5, iv .i64 s6, iv .i64 (IntKind.i64.wrap (s7 + 1))] (tidy h [lv s0, lv s1, s5, iv .i64 s6, iv .i64 (IntKind.i64.wrap (s7 + 1))] h))
  (some (.done [lv s0, lv s1, s5, iv .i64 s6, iv .i64 s7] (tidy h [lv s0, lv s1, s5, iv .i64 s6, iv .i64 s7] h))))
  (some (.done [lv s0, lv s1, s5, iv .i64 s6, iv .i64 s7] (tidy h [lv s0, lv s1, s5, iv .i64 s6, iv .i64 s7] h))) := by
  unfold Lp.impl_diff; rw [loop_eq]; kernel_rfl

noncomputable def Jn.impl_DiffBytes_0 (q118 : Bool) (n : Nat) (a0 : List (List S)) (a1 : List (List S)) : Option (V × H) :=
  vcase (bv q118)
  (stK 2 ((D n).new 0 [.int .i64 0, .sl none 0]) (pv ((D n).n) 0) (.agg [.int .i64 1, .sl none 0]) fun h120 =>
  (loadN 2 h120 (pv ((D n).n) 0)).bind fun c121 =>
  some (.agg c121, h120))
  (pcallF (call Ev) Fn.impl_diff true [lv a0, lv a1] ((D n).new 0 [.int .i64 0, .sl none 0]) fun v122 h123 =>
  cellsK v122 fun c124 =>
  if c124.length = 1 ∧ 1 + 1 ≤ ([.int .i64 0, .sl none 0] : List S).length then
  ((setAt ([.int .i64 0, .sl none 0] : List S) 1 c124)[0]?).bind fun x125 =>
  gI .i64 x125 fun i126 =>
  ((setAt ([.int .i64 0, .sl none 0] : List S) 1 c124)[1]?).bind fun x127 =>
  if (setAt ([.int .i64 0, .sl none 0] : List S) 1 c124).length = 2 then
  stK 2 h123 (pv ((D n).n) 0) (.agg [.int .i64 i126, x127]) fun h128 =>
  (loadN 2 h128 (pv ((D n).n) 0)).bind fun c129 =>
  some (.agg c129, h128)
  else none
  else none)

theorem eq_impl_DiffBytes (a0 : List (List S)) (a1 : List (List S)) (n : Nat) : call Ev Fn.impl_DiffBytes [lv a0, lv a1] (D n) =
  vcase (bv ((a0.length : Int) != 64))
  (Jn.impl_DiffBytes_0 true n a0 a1)
  (Jn.impl_DiffBytes_0 ((a1.length : Int) != 64) n a0 a1) := by
  rw [call_eq]; kernel_rfl

theorem pu_laws_eqRun (a0_0 : Int) (a0_1 : List (List S)) (a1_0 : Int) (a1_1 : List (List S)) : pureV (call Ev) Fn.laws_eqRun [.agg [.int .i64 a0_0, .fs a0_1], .agg [.int .i64 a1_0, .fs a1_1]] =
  vcase (bv (a0_0 != a1_0))
  (some (bv false))
  (pcallS (call Ev) Fn.laws_eqByteS [lv a0_1, lv a1_1] fun v102 =>
  gV1 v102 fun x103 =>
  gB x103 fun q104 =>
  vcase (bv (!q104))
  (some (bv false))
  (some (bv true))) := by
  rw [pure_eq]; kernel_rfl

theorem pu_laws_eqRunS (a0 : List (List S)) (a1 : List (List S)) : pureV (call Ev) Fn.laws_eqRunS [lv a0, lv a1] =
  vcase (bv ((a0.length : Int) != (a1.length : Int)))
  (some (bv false))
  ((Lp.laws_eqRunS 0 [lv a0, lv a1, iv .i64 0] (D 0)).bind fun o102 => lcase o102 (fun l103 h104 =>
  some (bv true)) (fun v105 h106 =>
  frzV h106 v105)) := by
  rw [pure_eq]; kernel_rfl

theorem eq_laws_eqRunS_l0 (s0 : List (List S)) (s1 : List (List S)) (s5 : Int) (h : H) : Lp.laws_eqRunS 0 [lv s0, lv s1, iv .i64 s5] h =
  vcase (bv (decide (s5 < (s0.length : Int))))
  (idxF 2 s0 s5 fun r203 =>
  (rowN 2 r203 0).bind fun c204 =>
  (c204[0]?).bind fun x205 =>
  gI .i64 x205 fun i206 =>
  (c204[1]?).bind fun x207 =>
  gF x207 fun z208 =>
  if c204.length = 2 then
  idxF 2 s1 s5 fun r209 =>
  (rowN 2 r209 0).bind fun c210 =>
  (c210[0]?).bind fun x211 =>
  gI .i64 x211 fun i212 =>
  (c210[1]?).bind fun x213 =>
  gF x213 fun z214 =>
  if c210.length = 2 then
  pcallS (call Ev) Fn.laws_eqRun [.agg [.int .i64 i206, .fs z208], .agg [.int .i64 i212, .fs z214]] fun v215 =>
  gV1 v215 fun x216 =>
  gB x216 fun q217 =>
  hchk h h (
  vcase (bv (!q217))
  (some (.ret (bv false) h))
  (Lp.laws_eqRunS 0 [lv s0, lv s1, iv .i64 (IntKind.i64.wrap (s5 + 1))] (tidy h [lv s0, lv s1, iv .i64 (IntKind.i64.wrap (s5 + 1))] h)))
  else none
  else none)
  (some (.done [] (tidy h [] h))) := by
  unfold Lp.laws_eqRunS; rw [loop_eq]; kernel_rfl

theorem pu_laws_eqRunsResult (a0_0 : Int) (a0_1 : List (List S)) (a1_0 : Int) (a1_1 : List (List S)) : pureV (call Ev) Fn.laws_eqRunsResult [.agg [.int .i64 a0_0, .fs a0_1], .agg [.int .i64 a1_0, .fs a1_1]] =
  vcase (bv (a0_0 != a1_0))
  (some (bv false))
  (pcallS (call Ev) Fn.laws_eqRunS [lv a0_1, lv a1_1] fun v102 =>
  gV1 v102 fun x103 =>
  gB x103 fun q104 =>
  vcase (bv (!q104))
  (some (bv false))
  (some (bv true))) := by
  rw [pure_eq]; kernel_rfl

theorem eq_laws_markRunS (a0 : V) (a1 : Int) (h : H) : call Ev Fn.laws_markRunS [a0, iv .i64 a1] h =
  (Lp.laws_markRunS 0 [a0, iv .i64 a1, iv .i64 0] h).bind fun o101 => lcase o101 (fun l102 h103 =>
  (l102[0]?).bind fun w106 =>
  gV1 w106 fun x107 =>
  gI .i64 x107 fun i108 =>
  some (iv .i64 i108, h103)) (fun v104 h105 =>
  some (v104, h105)) := by
  rw [call_eq]; kernel_rfl

theorem eq_laws_markRunS_l0 (s0 : V) (s1 : Int) (s5 : Int) (h : H) : Lp.laws_markRunS 0 [s0, iv .i64 s1, iv .i64 s5] h =
  (lenV (.sl 116) s0).bind fun v201 =>
  gV1 v201 fun x202 =>
  gI .i64 x202 fun i203 =>
  vcase (bv (decide (s5 < i203)))
  (idxK 2 s0 (iv .i64 s5) fun v206 =>
  (padd 0 v206).bind fun v207 =>
  stK 1 h v207 (iv .i64 s1) fun h208 =>
  idxK 2 s0 (iv .i64 s5) fun v209 =>
  (padd 1 v209).bind fun v210 =>
  ldK (.one (.f)) ⟨1, 24, [.sl none 0], false, .sl 5, false⟩ h208 v210 fun v211 =>
  (call Ev Fn.laws_markByteS [v211, iv .i64 (IntKind.i64.wrap (s1 + 1))] h208).bind fun p212 =>
  gV1 p212.1 fun x213 =>
  gI .i64 x213 fun i214 =>
  Lp.laws_markRunS 0 [s0, iv .i64 i214, iv .i64 (IntKind.i64.wrap (s5 + 1))] (tidy h [s0, iv .i64 i214, iv .i64 (IntKind.i64.wrap (s5 + 1))] (tidy h208 [p212.1] p212.2)))
  (some (.done [iv .i64 s1] (tidy h [iv .i64 s1] h))) := by
  unfold Lp.laws_markRunS; rw [loop_eq]; kernel_rfl

theorem eq_laws_markRunsResult (a0_0 : Int) (a0_1 : S) (a1 : Int) (h : H) : call Ev Fn.laws_markRunsResult [.agg [.int .i64 a0_0, a0_1], iv .i64 a1] h =
  (load1 (h.new 0 [.int .i64 a0_0, a0_1]) (pv h.n 1)).bind fun x101 =>
  (call Ev Fn.laws_markRunS [.s x101, iv .i64 a1] (h.new 0 [.int .i64 a0_0, a0_1])).bind fun p102 =>
  gV1 p102.1 fun x103 =>
  gI .i64 x103 fun i104 =>
  some (iv .i64 i104, tidy (h.new 0 [.int .i64 a0_0, a0_1]) [p102.1] p102.2) := by
  rw [call_eq]; kernel_rfl

theorem pu_laws_heldRunS (a0 : List (List S)) (a1 : Int) : pureV (call Ev) Fn.laws_heldRunS [lv a0, iv .i64 a1] =
  (Lp.laws_heldRunS 0 [lv a0, iv .i64 a1, iv .i64 0] (D 0)).bind fun o101 => lcase o101 (fun l102 h103 =>
  (l102[0]?).bind fun w106 =>
  gV1 w106 fun x107 =>
  gI .i64 x107 fun i108 =>
  some (iv .i64 i108)) (fun v104 h105 =>
  frzV h105 v104) := by
  rw [pure_eq]; kernel_rfl

theorem eq_laws_heldRunS_l0 (s0 : List (List S)) (s1 : Int) (s5 : Int) (h : H) : Lp.laws_heldRunS 0 [lv s0, iv .i64 s1, iv .i64 s5] h =
  vcase (bv (decide (s5 < (s0.length : Int))))
  (idxF 2 s0 s5 fun r203 =>
  (r203[0]?).bind fun x204 =>
  gI .i64 x204 fun i205 =>
  vcase (bv (i205 != s1))
  (some (.ret (iv .i64 (-1)) h))
  (idxF 2 s0 s5 fun r207 =>
  (r207[1]?).bind fun x208 =>
  gF x208 fun z209 =>
  pcallS (call Ev) Fn.laws_heldByteS [lv z209, iv .i64 (IntKind.i64.wrap (s1 + 1))] fun v210 =>
  gV1 v210 fun x211 =>
  gI .i64 x211 fun i212 =>
  vcase (bv (decide (i212 < 0)))
  (some (.ret (iv .i64 (-1)) h))
  (Lp.laws_heldRunS 0 [lv s0, iv .i64 i212, iv .i64 (IntKind.i64.wrap (s5 + 1))] (tidy h [lv s0, iv .i64 i212, iv .i64 (IntKind.i64.wrap (s5 + 1))] h))))
  (some (.done [iv .i64 s1] (tidy h [iv .i64 s1] h))) := by
  unfold Lp.laws_heldRunS; rw [loop_eq]; kernel_rfl

theorem pu_laws_heldRunsResult (a0_0 : Int) (a0_1 : List (List S)) (a1 : Int) : pureV (call Ev) Fn.laws_heldRunsResult [.agg [.int .i64 a0_0, .fs a0_1], iv .i64 a1] =
  pcallS (call Ev) Fn.laws_heldRunS [lv a0_1, iv .i64 a1] fun v101 =>
  gV1 v101 fun x102 =>
  gI .i64 x102 fun i103 =>
  vcase (bv (decide (i103 < 0)))
  (some (iv .i64 (-1)))
  (some (iv .i64 i103)) := by
  rw [pure_eq]; kernel_rfl

noncomputable def Jn.laws_FnExactDiffBytes_0 (q232 : Bool) (h126 : H) (p156 : V × H) (p159 : V × H) (h121 : H) (a0 : List (List S)) (a1 : List (List S)) : Option (V) :=
  vcase (bv q232)
  (some (bv false))
  ((loadN 2 (tidy (tidy h126 [p156.1] p156.2) [p159.1] p159.2) (pv h121.n 0)).bind fun c234 =>
  (c234[0]?).bind fun x235 =>
  gI .i64 x235 fun i236 =>
  (c234[1]?).bind fun x237 =>
  if c234.length = 2 then
  (call Ev Fn.laws_markRunsResult [.agg [.int .i64 i236, x237], iv .i64 1] (tidy (tidy h126 [p156.1] p156.2) [p159.1] p159.2)).bind fun p238 =>
  gV1 p238.1 fun x239 =>
  gI .i64 x239 fun i240 =>
  (loadN 2 (tidy (tidy (tidy h126 [p156.1] p156.2) [p159.1] p159.2) [p238.1] p238.2) (pv h121.n 0)).bind fun c241 =>
  (c241[0]?).bind fun x242 =>
  gI .i64 x242 fun i243 =>
  (c241[1]?).bind fun x244 =>
  if c241.length = 2 then
  (frzVs (tidy (tidy (tidy h126 [p156.1] p156.2) [p159.1] p159.2) [p238.1] p238.2) [.agg [.int .i64 i243, x244], iv .i64 1]).bind fun l245 =>
  pcallS (call Ev) Fn.laws_heldRunsResult (normVs [] l245) fun v246 =>
  gV1 v246 fun x247 =>
  gI .i64 x247 fun i248 =>
  vcase (bv (decide (i248 < 0)))
  (some (bv false))
  (vcase (bv (i248 != i240))
  (some (bv false))
  ((pureV (call Ev) Fn.laws_toByteS [lv a0]).bind fun v251 =>
  gV1 v251 fun x252 =>
  gF x252 fun z253 =>
  (pureV (call Ev) Fn.laws_toByteS [lv a1]).bind fun v254 =>
  gV1 v254 fun x255 =>
  gF x255 fun z256 =>
  (pureV (call Ev) Fn.impl_DiffBytes [lv z253, lv z256]).bind fun v257 =>
  gVA v257 fun c258 =>
  (c258[0]?).bind fun x259 =>
  gI .i64 x259 fun i260 =>
  (c258[1]?).bind fun x261 =>
  gF x261 fun z262 =>
  if c258.length = 2 then
  stK 2 ((tidy (tidy (tidy h126 [p156.1] p156.2) [p159.1] p159.2) [p238.1] p238.2).new 0 [.int .i64 0, .sl none 0]) (pv ((tidy (tidy (tidy h126 [p156.1] p156.2) [p159.1] p159.2) [p238.1] p238.2).n) 0) (.agg [.int .i64 i260, .fs z262]) fun h263 =>
  (loadN 2 h263 (pv ((tidy (tidy (tidy h126 [p156.1] p156.2) [p159.1] p159.2) [p238.1] p238.2).n) 0)).bind fun c264 =>
  (c264[0]?).bind fun x265 =>
  gI .i64 x265 fun i266 =>
  (c264[1]?).bind fun x267 =>
  if c264.length = 2 then
  (loadN 2 h263 (pv 0 0)).bind fun c268 =>
  (c268[0]?).bind fun x269 =>
  gI .i64 x269 fun i270 =>
  (c268[1]?).bind fun x271 =>
  if c268.length = 2 then
  (frzVs h263 [.agg [.int .i64 i266, x267], .agg [.int .i64 i270, x271]]).bind fun l272 =>
  pcallS (call Ev) Fn.laws_eqRunsResult (normVs [] l272) fun v273 =>
  gV1 v273 fun x274 =>
  gB x274 fun q275 =>
  vcase (bv (!q275))
  (some (bv false))
  ((loadN 2 h263 (pv h121.n 0)).bind fun c277 =>
  (c277[0]?).bind fun x278 =>
  gI .i64 x278 fun i279 =>
  (c277[1]?).bind fun x280 =>
  if c277.length = 2 then
  (frzVs h263 [.agg [.int .i64 i279, x280], iv .i64 1]).bind fun l281 =>
  pcallS (call Ev) Fn.laws_heldRunsResult (normVs [] l281) fun v282 =>
  gV1 v282 fun x283 =>
  gI .i64 x283 fun i284 =>
  vcase (bv (decide (i284 < 0)))
  (some (bv false))
  (vcase (bv (i284 != i240))
  (some (bv false))
  (some (bv true)))
  else none)
  else none
  else none
  else none))
  else none
  else none)

theorem pu_laws_FnExactDiffBytes (a0 : List (List S)) (a1 : List (List S)) : pureV (call Ev) Fn.laws_FnExactDiffBytes [lv a0, lv a1] =
  vcase (bv (decide ((a0.length : Int) > 1048576)))
  (some (bv true))
  (vcase (bv (decide ((a1.length : Int) > 1048576)))
  (some (bv true))
  ((pureV (call Ev) Fn.laws_toByteS [lv a0]).bind fun v103 =>
  gV1 v103 fun x104 =>
  gF x104 fun z105 =>
  (pureV (call Ev) Fn.laws_toByteS [lv a1]).bind fun v106 =>
  gV1 v106 fun x107 =>
  gF x107 fun z108 =>
  (pureV (call Ev) Fn.spec_DiffBytes [lv z105, lv z108]).bind fun v109 =>
  gVA v109 fun c110 =>
  (c110[0]?).bind fun x111 =>
  gI .i64 x111 fun i112 =>
  (c110[1]?).bind fun x113 =>
  gF x113 fun z114 =>
  if c110.length = 2 then
  pcallF (call Ev) Fn.laws_toByteS true [lv a0] (((D 0).new 0 [.int .i64 0, .sl none 0]).put 0 (.rw 0 [.int .i64 i112, .fs z114])) fun v115 h116 =>
  pcallF (call Ev) Fn.laws_toByteS true [lv a1] h116 fun v117 h118 =>
  (frzVs h118 [v115, v117]).bind fun l119 =>
  pcallF (call Ev) Fn.impl_DiffBytes ([v115, v117].all offV) (normVs [] l119) h118 fun v120 h121 =>
  gVA v120 fun c122 =>
  (c122[0]?).bind fun x123 =>
  gI .i64 x123 fun i124 =>
  (c122[1]?).bind fun x125 =>
  if c122.length = 2 then
  stK 2 (h121.new 0 [.int .i64 0, .sl none 0]) (pv h121.n 0) (.agg [.int .i64 i124, x125]) fun h126 =>
  (loadN 2 h126 (pv h121.n 0)).bind fun c127 =>
  (c127[0]?).bind fun x128 =>
  gI .i64 x128 fun i129 =>
  (c127[1]?).bind fun x130 =>
  if c127.length = 2 then
  (loadN 2 h126 (pv 0 0)).bind fun c131 =>
  (c131[0]?).bind fun x132 =>
  gI .i64 x132 fun i133 =>
  (c131[1]?).bind fun x134 =>
  if c131.length = 2 then
  (frzVs h126 [.agg [.int .i64 i129, x130], .agg [.int .i64 i133, x134]]).bind fun l135 =>
  pcallS (call Ev) Fn.laws_eqRunsResult (normVs [] l135) fun v136 =>
  gV1 v136 fun x137 =>
  gB x137 fun q138 =>
  vcase (bv (!q138))
  (some (bv false))
  ((pureV (call Ev) Fn.laws_toByteS [lv a0]).bind fun v140 =>
  gV1 v140 fun x141 =>
  gF x141 fun z142 =>
  (frzVs h126 [v115, lv z142]).bind fun l143 =>
  pcallS (call Ev) Fn.laws_eqByteS (normVs [] l143) fun v144 =>
  gV1 v144 fun x145 =>
  gB x145 fun q146 =>
  vcase (bv (!q146))
  (some (bv false))
  ((pureV (call Ev) Fn.laws_toByteS [lv a1]).bind fun v148 =>
  gV1 v148 fun x149 =>
  gF x149 fun z150 =>
  (frzVs h126 [v117, lv z150]).bind fun l151 =>
  pcallS (call Ev) Fn.laws_eqByteS (normVs [] l151) fun v152 =>
  gV1 v152 fun x153 =>
  gB x153 fun q154 =>
  vcase (bv (!q154))
  (some (bv false))
  ((call Ev Fn.laws_markByteS [v115, iv .i64 1] h126).bind fun p156 =>
  gV1 p156.1 fun x157 =>
  gI .i64 x157 fun i158 =>
  (call Ev Fn.laws_markByteS [v117, iv .i64 i158] (tidy h126 [p156.1] p156.2)).bind fun p159 =>
  gV1 p159.1 fun x160 =>
  gI .i64 x160 fun i161 =>
  vcase (bv (decide (i161 < 0)))
  (Jn.laws_FnExactDiffBytes_0 true h126 p156 p159 h121 a0 a1)
  ((loadN 2 (tidy (tidy h126 [p156.1] p156.2) [p159.1] p159.2) (pv h121.n 0)).bind fun c164 =>
  (c164[0]?).bind fun x165 =>
  gI .i64 x165 fun i166 =>
  (c164[1]?).bind fun x167 =>
  if c164.length = 2 then
  (loadN 2 (tidy (tidy h126 [p156.1] p156.2) [p159.1] p159.2) (pv 0 0)).bind fun c168 =>
  (c168[0]?).bind fun x169 =>
  gI .i64 x169 fun i170 =>
  (c168[1]?).bind fun x171 =>
  if c168.length = 2 then
  (frzVs (tidy (tidy h126 [p156.1] p156.2) [p159.1] p159.2) [.agg [.int .i64 i166, x167], .agg [.int .i64 i170, x171]]).bind fun l172 =>
  pcallS (call Ev) Fn.laws_eqRunsResult (normVs [] l172) fun v173 =>
  gV1 v173 fun x174 =>
  gB x174 fun q175 =>
  Jn.laws_FnExactDiffBytes_0 (!q175) h126 p156 p159 h121 a0 a1
  else none
  else none))))
  else none
  else none
  else none
  else none)) := by
  rw [pure_eq]; kernel_rfl

theorem pu_laws_szByteS (a0 : List (List S)) (a1 : Int) : pureV (call Ev) Fn.laws_szByteS [lv a0, iv .i64 a1] =
  vcase (bv (decide ((IntKind.i64.wrap (a1 - (a0.length : Int))) < 0)))
  (some (iv .i64 (-1)))
  (some (iv .i64 (IntKind.i64.wrap (a1 - (a0.length : Int))))) := by
  rw [pure_eq]; kernel_rfl

theorem pu_laws_szRun (a0_0 : Int) (a0_1 : List (List S)) (a1 : Int) : pureV (call Ev) Fn.laws_szRun [.agg [.int .i64 a0_0, .fs a0_1], iv .i64 a1] =
  pcallS (call Ev) Fn.laws_szByteS [lv a0_1, iv .i64 a1] fun v101 =>
  gV1 v101 fun x102 =>
  gI .i64 x102 fun i103 =>
  vcase (bv (decide (i103 < 0)))
  (some (iv .i64 (-1)))
  (some (iv .i64 i103)) := by
  rw [pure_eq]; kernel_rfl

theorem pu_laws_szRunS (a0 : List (List S)) (a1 : Int) : pureV (call Ev) Fn.laws_szRunS [lv a0, iv .i64 a1] =
  vcase (bv (decide ((IntKind.i64.wrap (a1 - (a0.length : Int))) < 0)))
  (some (iv .i64 (-1)))
  ((Lp.laws_szRunS 0 [lv a0, iv .i64 (IntKind.i64.wrap (a1 - (a0.length : Int))), iv .i64 0] (D 0)).bind fun o102 => lcase o102 (fun l103 h104 =>
  (l103[0]?).bind fun w107 =>
  gV1 w107 fun x108 =>
  gI .i64 x108 fun i109 =>
  some (iv .i64 i109)) (fun v105 h106 =>
  frzV h106 v105)) := by
  rw [pure_eq]; kernel_rfl

theorem eq_laws_szRunS_l0 (s0 : List (List S)) (s1 : Int) (s5 : Int) (h : H) : Lp.laws_szRunS 0 [lv s0, iv .i64 s1, iv .i64 s5] h =
  vcase (bv (decide (s5 < (s0.length : Int))))
  (idxF 2 s0 s5 fun r203 =>
  (rowN 2 r203 0).bind fun c204 =>
  (c204[0]?).bind fun x205 =>
  gI .i64 x205 fun i206 =>
  (c204[1]?).bind fun x207 =>
  gF x207 fun z208 =>
  if c204.length = 2 then
  pcallS (call Ev) Fn.laws_szRun [.agg [.int .i64 i206, .fs z208], iv .i64 s1] fun v209 =>
  gV1 v209 fun x210 =>
  gI .i64 x210 fun i211 =>
  vcase (bv (decide (i211 < 0)))
  (some (.ret (iv .i64 (-1)) h))
  (Lp.laws_szRunS 0 [lv s0, iv .i64 i211, iv .i64 (IntKind.i64.wrap (s5 + 1))] (tidy h [lv s0, iv .i64 i211, iv .i64 (IntKind.i64.wrap (s5 + 1))] h))
  else none)
  (some (.done [iv .i64 s1] (tidy h [iv .i64 s1] h))) := by
  unfold Lp.laws_szRunS; rw [loop_eq]; kernel_rfl

theorem pu_spec_l3Fault (a0 : List (List S)) : pureV (call Ev) Fn.spec_l3Fault [lv a0] =
  vcase (bv (decide ((a0.length : Int) > 64)))
  (some (iv .i64 2))
  ((Lp.spec_l3Fault 0 [lv a0, iv .i64 0] (D 0)).bind fun o102 => lcase o102 (fun l103 h104 =>
  some (iv .i64 0)) (fun v105 h106 =>
  frzV h106 v105)) := by
  rw [pure_eq]; kernel_rfl

theorem eq_spec_l3Fault_l0 (s0 : List (List S)) (s3 : Int) (h : H) : Lp.spec_l3Fault 0 [lv s0, iv .i64 s3] h =
  vcase (bv (decide (s3 < (s0.length : Int))))
  (idxF 2 s0 s3 fun r203 =>
  (r203[1]?).bind fun x204 =>
  gF x204 fun z205 =>
  idxF 2 s0 s3 fun r206 =>
  (r206[0]?).bind fun x207 =>
  gI .i64 x207 fun i208 =>
  pcallS (call Ev) Fn.spec_l1In [iv .i64 i208, iv .i64 0, iv .i64 63] fun v209 =>
  gV1 v209 fun x210 =>
  gB x210 fun q211 =>
  vcase (bv (!q211))
  (some (.ret (iv .i64 3) h))
  (pcallS (call Ev) Fn.spec_l1In [iv .i64 (z205.length : Int), iv .i64 1, iv .i64 64] fun v214 =>
  gV1 v214 fun x215 =>
  gB x215 fun q216 =>
  vcase (bv (!q216))
  (some (.ret (iv .i64 3) h))
  (idxF 2 s0 s3 fun r222 =>
  (r222[0]?).bind fun x223 =>
  gI .i64 x223 fun i224 =>
  vcase (bv (decide ((IntKind.i64.wrap (i224 + (z205.length : Int))) > 64)))
  (some (.ret (iv .i64 3) h))
  (vcase (bv (decide (s3 > 0)))
  (idxF 2 s0 s3 fun r229 =>
  (r229[0]?).bind fun x230 =>
  gI .i64 x230 fun i231 =>
  idxF 2 s0 (IntKind.i64.wrap (s3 - 1)) fun r232 =>
  (r232[0]?).bind fun x233 =>
  gI .i64 x233 fun i234 =>
  idxF 2 s0 (IntKind.i64.wrap (s3 - 1)) fun r235 =>
  (r235[1]?).bind fun x236 =>
  gF x236 fun z237 =>
  vcase (bv (decide (i231 ≤ (IntKind.i64.wrap (i234 + (z237.length : Int))))))
  (some (.ret (iv .i64 1) h))
  (Lp.spec_l3Fault 0 [lv s0, iv .i64 (IntKind.i64.wrap (s3 + 1))] (tidy h [lv s0, iv .i64 (IntKind.i64.wrap (s3 + 1))] h)))
  (Lp.spec_l3Fault 0 [lv s0, iv .i64 (IntKind.i64.wrap (s3 + 1))] (tidy h [lv s0, iv .i64 (IntKind.i64.wrap (s3 + 1))] h))))))
  (some (.done [] (tidy h [] h))) := by
  unfold Lp.spec_l3Fault; rw [loop_eq]; kernel_rfl

theorem pu_spec_l3Asked (a0 : List (List S)) (a1 : List (List S)) : pureV (call Ev) Fn.spec_l3Asked [lv a0, lv a1] =
  vcase (bv ((a0.length : Int) != 64))
  (some (iv .i64 1))
  (pcallS (call Ev) Fn.spec_l3Fault [lv a1] fun v102 =>
  gV1 v102 fun x103 =>
  gI .i64 x103 fun i104 =>
  some (iv .i64 i104)) := by
  rw [pure_eq]; kernel_rfl

theorem pu_spec_l3Apply (a0 : List (List S)) (a1 : List (List S)) : pureV (call Ev) Fn.spec_l3Apply [lv a0, lv a1] =
  pcallF (call Ev) Fn.spec_l2Copy true [lv a0] (D 0) fun v101 h102 =>
  (Lp.spec_l3Apply 0 [lv a1, v101, iv .i64 0] h102).bind fun o103 => lcase o103 (fun l104 h105 =>
  (l104[0]?).bind fun w108 =>
  frzV h105 w108) (fun v106 h107 =>
  frzV h107 v106) := by
  rw [pure_eq]; kernel_rfl

theorem eq_spec_l3Apply_l0 (s1 : List (List S)) (s5 : V) (s6 : Int) (h : H) : Lp.spec_l3Apply 0 [lv s1, s5, iv .i64 s6] h =
  vcase (bv (decide (s6 < (s1.length : Int))))
  (idxF 2 s1 s6 fun r203 =>
  (r203[0]?).bind fun x204 =>
  gI .i64 x204 fun i205 =>
  slK 1 h s5 (some (iv .i64 i205)) none fun v206 =>
  idxF 2 s1 s6 fun r207 =>
  (r207[1]?).bind fun x208 =>
  gF x208 fun z209 =>
  (copS 1 h v206 (lv z209)).bind fun p210 =>
  gV1 p210.1 fun x211 =>
  gI .i64 x211 fun i212 =>
  Lp.spec_l3Apply 0 [lv s1, s5, iv .i64 (IntKind.i64.wrap (s6 + 1))] (tidy h [lv s1, s5, iv .i64 (IntKind.i64.wrap (s6 + 1))] p210.2))
  (some (.done [s5] (tidy h [s5] h))) := by
  unfold Lp.spec_l3Apply; rw [loop_eq]; kernel_rfl

theorem pu_spec_ApplyRuns (a0 : List (List S)) (a1 : List (List S)) : pureV (call Ev) Fn.spec_ApplyRuns [lv a0, lv a1] =
  pcallS (call Ev) Fn.spec_l3Asked [lv a0, lv a1] fun v101 =>
  gV1 v101 fun x102 =>
  gI .i64 x102 fun i103 =>
  vcase (bv (i103 != 0))
  (some (.agg [.int .i64 i103, .fs []]))
  ((pureV (call Ev) Fn.spec_l3Apply [lv a0, lv a1]).bind fun v105 =>
  gV1 v105 fun x106 =>
  gF x106 fun z107 =>
  some (.agg [.int .i64 0, .fs z107])) := by
  rw [pure_eq]; kernel_rfl

theorem eq_laws_toRun (a0_0 : Int) (a0_1 : List (List S)) (n : Nat) : call Ev Fn.laws_toRun [.agg [.int .i64 a0_0, .fs a0_1]] (D n) =
  (load1 ((((D n).new 0 [.int .i64 a0_0, .fs a0_1]).new 0 [.int .i64 0, .sl none 0]).new 0 [.int .i64 0, .sl none 0]) (pv ((D n).n) 0)).bind fun x101 =>
  gI .i64 x101 fun i102 =>
  stK 1 ((((D n).new 0 [.int .i64 a0_0, .fs a0_1]).new 0 [.int .i64 0, .sl none 0]).new 0 [.int .i64 0, .sl none 0]) (pv ((((D n).new 0 [.int .i64 a0_0, .fs a0_1]).new 0 [.int .i64 0, .sl none 0]).n) 0) (iv .i64 i102) fun h103 =>
  (load1 h103 (pv ((D n).n) 1)).bind fun x104 =>
  (frzVs h103 [.s x104]).bind fun l105 =>
  pcallF (call Ev) Fn.laws_toByteS ([.s x104].all offV) (normVs [] l105) h103 fun v106 h107 =>
  stK 1 h107 (pv ((((D n).new 0 [.int .i64 a0_0, .fs a0_1]).new 0 [.int .i64 0, .sl none 0]).n) 1) v106 fun h108 =>
  (loadN 2 h108 (pv ((((D n).new 0 [.int .i64 a0_0, .fs a0_1]).new 0 [.int .i64 0, .sl none 0]).n) 0)).bind fun c109 =>
  (c109[0]?).bind fun x110 =>
  gI .i64 x110 fun i111 =>
  (c109[1]?).bind fun x112 =>
  if c109.length = 2 then
  stK 2 h108 (pv (((D n).new 0 [.int .i64 a0_0, .fs a0_1]).n) 0) (.agg [.int .i64 i111, x112]) fun h113 =>
  (loadN 2 h113 (pv (((D n).new 0 [.int .i64 a0_0, .fs a0_1]).n) 0)).bind fun c114 =>
  some (.agg c114, h113)
  else none := by
  rw [call_eq]; kernel_rfl

theorem eq_laws_toRunS (a0 : List (List S)) (n : Nat) : call Ev Fn.laws_toRunS [lv a0] (D n) =
  (mkSl 2 [.int .i64 0, .sl none 0] (D n) (iv .i64 (a0.length : Int)) (iv .i64 (a0.length : Int))).bind fun p101 =>
  (Lp.laws_toRunS 0 [lv a0, p101.1, iv .i64 0] p101.2).bind fun o102 => lcase o102 (fun l103 h104 =>
  (l103[0]?).bind fun w107 =>
  some (w107, h104)) (fun v105 h106 =>
  some (v105, h106)) := by
  rw [call_eq]; kernel_rfl

theorem eq_laws_toRunS_l0 (s0 : List (List S)) (s3 : V) (s4 : Int) (h : H) : Lp.laws_toRunS 0 [lv s0, s3, iv .i64 s4] h =
  vcase (bv (decide (s4 < (s0.length : Int))))
  (idxF 2 s0 s4 fun r203 =>
  (rowN 2 r203 0).bind fun c204 =>
  (c204[0]?).bind fun x205 =>
  gI .i64 x205 fun i206 =>
  (c204[1]?).bind fun x207 =>
  gF x207 fun z208 =>
  if c204.length = 2 then
  pcallF (call Ev) Fn.laws_toRun true [.agg [.int .i64 i206, .fs z208]] h fun v209 h210 =>
  gVA v209 fun c211 =>
  (c211[0]?).bind fun x212 =>
  gI .i64 x212 fun i213 =>
  (c211[1]?).bind fun x214 =>
  if c211.length = 2 then
  idxK 2 s3 (iv .i64 s4) fun v215 =>
  stK 2 h210 v215 (.agg [.int .i64 i213, x214]) fun h216 =>
  Lp.laws_toRunS 0 [lv s0, s3, iv .i64 (IntKind.i64.wrap (s4 + 1))] (tidy h [lv s0, s3, iv .i64 (IntKind.i64.wrap (s4 + 1))] h216)
  else none
  else none)
  (some (.done [s3] (tidy h [s3] h))) := by
  unfold Lp.laws_toRunS; rw [loop_eq]; kernel_rfl

theorem pu_impl_RunsFault (a0 : List (List S)) : pureV (call Ev) Fn.impl_RunsFault [lv a0] =
  vcase (bv (decide ((a0.length : Int) > 64)))
  (some (iv .i64 2))
  ((Lp.impl_RunsFault 0 [iv .i64 0, lv a0, iv .i64 (a0.length : Int), iv .i64 0] (D 0)).bind fun o102 => lcase o102 (fun l103 h104 =>
  some (iv .i64 0)) (fun v105 h106 =>
  frzV h106 v105)) := by
  rw [pure_eq]; kernel_rfl

theorem eq_impl_RunsFault_l0 (s3 : Int) (s10 : List (List S)) (s11 : Int) (s12 : Int) (h : H) : Lp.impl_RunsFault 0 [iv .i64 s3, lv s10, iv .i64 s11, iv .i64 s12] h =
  vcase (bv (decide (s12 < s11)))
  (idxF 2 s10 s12 fun r203 =>
  (rowN 2 r203 0).bind fun c204 =>
  (c204[0]?).bind fun x205 =>
  gI .i64 x205 fun i206 =>
  (c204[1]?).bind fun x207 =>
  gF x207 fun z208 =>
  if c204.length = 2 then
  stK 2 (h.new 0 [.int .i64 0, .sl none 0]) (pv h.n 0) (.agg [.int .i64 i206, .fs z208]) fun h209 =>
  (load1 h209 (pv h.n 1)).bind fun x210 =>
  (lenV (.sl 5) (.s x210)).bind fun v211 =>
  gV1 v211 fun x212 =>
  gI .i64 x212 fun i213 =>
  (load1 h209 (pv h.n 0)).bind fun x214 =>
  gI .i64 x214 fun i215 =>
  pcallS (call Ev) Fn.impl_in [iv .i64 i215, iv .i64 0, iv .i64 63] fun v216 =>
  gV1 v216 fun x217 =>
  gB x217 fun q218 =>
  vcase (bv (!q218))
  (some (.ret (iv .i64 3) h209))
  (pcallS (call Ev) Fn.impl_in [iv .i64 i213, iv .i64 1, iv .i64 64] fun v221 =>
  gV1 v221 fun x222 =>
  gB x222 fun q223 =>
  vcase (bv (!q223))
  (some (.ret (iv .i64 3) h209))
  ((load1 h209 (pv h.n 0)).bind fun x229 =>
  gI .i64 x229 fun i230 =>
  vcase (bv (decide ((IntKind.i64.wrap (i230 + i213)) > 64)))
  (some (.ret (iv .i64 3) h209))
  ((load1 h209 (pv h.n 0)).bind fun x234 =>
  gI .i64 x234 fun i235 =>
  vcase (bv (decide (i235 < s3)))
  (some (.ret (iv .i64 1) h209))
  ((load1 h209 (pv h.n 0)).bind fun x237 =>
  gI .i64 x237 fun i238 =>
  Lp.impl_RunsFault 0 [iv .i64 (IntKind.i64.wrap ((IntKind.i64.wrap (i238 + i213)) + 1)), lv s10, iv .i64 s11, iv .i64 (IntKind.i64.wrap (s12 + 1))] (tidy h [iv .i64 (IntKind.i64.wrap ((IntKind.i64.wrap (i238 + i213)) + 1)), lv s10, iv .i64 s11, iv .i64 (IntKind.i64.wrap (s12 + 1))] h209)))))
  else none)
  (some (.done [] (tidy h [] h))) := by
  unfold Lp.impl_RunsFault; rw [loop_eq]; kernel_rfl

theorem eq_impl_applied (a0 : List (List S)) (a1 : List (List S)) (n : Nat) : call Ev Fn.impl_applied [lv a0, lv a1] (D n) =
  pcallF (call Ev) Fn.impl_copied true [lv a0] (D n) fun v101 h102 =>
  (Lp.impl_applied 0 [v101, lv a1, iv .i64 (a1.length : Int), iv .i64 0] h102).bind fun o103 => lcase o103 (fun l104 h105 =>
  (l104[0]?).bind fun w108 =>
  some (w108, h105)) (fun v106 h107 =>
  some (v106, h107)) := by
  rw [call_eq]; kernel_rfl

theorem eq_impl_applied_l0 (s5 : V) (s10 : List (List S)) (s11 : Int) (s12 : Int) (h : H) : Lp.impl_applied 0 [s5, lv s10, iv .i64 s11, iv .i64 s12] h =
  vcase (bv (decide (s12 < s11)))
  (idxF 2 s10 s12 fun r203 =>
  (rowN 2 r203 0).bind fun c204 =>
  (c204[0]?).bind fun x205 =>
  gI .i64 x205 fun i206 =>
  (c204[1]?).bind fun x207 =>
  gF x207 fun z208 =>
  if c204.length = 2 then
  stK 2 (h.new 0 [.int .i64 0, .sl none 0]) (pv h.n 0) (.agg [.int .i64 i206, .fs z208]) fun h209 =>
  (load1 h209 (pv h.n 0)).bind fun x210 =>
  gI .i64 x210 fun i211 =>
  slK 1 h209 s5 (some (iv .i64 i211)) none fun v212 =>
  (load1 h209 (pv h.n 1)).bind fun x213 =>
  (copS 1 h209 v212 (.s x213)).bind fun p214 =>
  gV1 p214.1 fun x215 =>
  gI .i64 x215 fun i216 =>
  Lp.impl_applied 0 [s5, lv s10, iv .i64 s11, iv .i64 (IntKind.i64.wrap (s12 + 1))] (tidy h [s5, lv s10, iv .i64 s11, iv .i64 (IntKind.i64.wrap (s12 + 1))] p214.2)
  else none)
  (some (.done [s5] (tidy h [s5] h))) := by
  unfold Lp.impl_applied; rw [loop_eq]; kernel_rfl

theorem eq_impl_ApplyRuns (a0 : List (List S)) (a1 : List (List S)) (n : Nat) : call Ev Fn.impl_ApplyRuns [lv a0, lv a1] (D n) =
  vcase (bv ((a0.length : Int) != 64))
  (stK 2 ((D n).new 0 [.int .i64 0, .sl none 0]) (pv ((D n).n) 0) (.agg [.int .i64 1, .sl none 0]) fun h102 =>
  (loadN 2 h102 (pv ((D n).n) 0)).bind fun c103 =>
  some (.agg c103, h102))
  (pcallS (call Ev) Fn.impl_RunsFault [lv a1] fun v104 =>
  gV1 v104 fun x105 =>
  gI .i64 x105 fun i106 =>
  vcase (bv (i106 != 0))
  (stK 2 ((D n).new 0 [.int .i64 0, .sl none 0]) (pv ((D n).n) 0) (.agg [.int .i64 i106, .sl none 0]) fun h108 =>
  (loadN 2 h108 (pv ((D n).n) 0)).bind fun c109 =>
  some (.agg c109, h108))
  (pcallF (call Ev) Fn.impl_applied true [lv a0, lv a1] ((D n).new 0 [.int .i64 0, .sl none 0]) fun v110 h111 =>
  cellsK v110 fun c112 =>
  if c112.length = 1 ∧ 1 + 1 ≤ ([.int .i64 0, .sl none 0] : List S).length then
  ((setAt ([.int .i64 0, .sl none 0] : List S) 1 c112)[0]?).bind fun x113 =>
  gI .i64 x113 fun i114 =>
  ((setAt ([.int .i64 0, .sl none 0] : List S) 1 c112)[1]?).bind fun x115 =>
  if (setAt ([.int .i64 0, .sl none 0] : List S) 1 c112).length = 2 then
  stK 2 h111 (pv ((D n).n) 0) (.agg [.int .i64 i114, x115]) fun h116 =>
  (loadN 2 h116 (pv ((D n).n) 0)).bind fun c117 =>
  some (.agg c117, h116)
  else none
  else none)) := by
  rw [call_eq]; kernel_rfl

noncomputable def Jn.laws_FnExactApplyRuns_0 (q235 : Bool) (h129 : H) (p159 : V × H) (p162 : V × H) (h124 : H) (a0 : List (List S)) (a1 : List (List S)) : Option (V) :=
  vcase (bv q235)
  (some (bv false))
  ((loadN 2 (tidy (tidy h129 [p159.1] p159.2) [p162.1] p162.2) (pv h124.n 0)).bind fun c237 =>
  (c237[0]?).bind fun x238 =>
  gI .i64 x238 fun i239 =>
  (c237[1]?).bind fun x240 =>
  if c237.length = 2 then
  (call Ev Fn.laws_markBytesResult [.agg [.int .i64 i239, x240], iv .i64 1] (tidy (tidy h129 [p159.1] p159.2) [p162.1] p162.2)).bind fun p241 =>
  gV1 p241.1 fun x242 =>
  gI .i64 x242 fun i243 =>
  (loadN 2 (tidy (tidy (tidy h129 [p159.1] p159.2) [p162.1] p162.2) [p241.1] p241.2) (pv h124.n 0)).bind fun c244 =>
  (c244[0]?).bind fun x245 =>
  gI .i64 x245 fun i246 =>
  (c244[1]?).bind fun x247 =>
  if c244.length = 2 then
  (frzVs (tidy (tidy (tidy h129 [p159.1] p159.2) [p162.1] p162.2) [p241.1] p241.2) [.agg [.int .i64 i246, x247], iv .i64 1]).bind fun l248 =>
  pcallS (call Ev) Fn.laws_heldBytesResult (normVs [] l248) fun v249 =>
  gV1 v249 fun x250 =>
  gI .i64 x250 fun i251 =>
  vcase (bv (decide (i251 < 0)))
  (some (bv false))
  (vcase (bv (i251 != i243))
  (some (bv false))
  ((pureV (call Ev) Fn.laws_toByteS [lv a0]).bind fun v254 =>
  gV1 v254 fun x255 =>
  gF x255 fun z256 =>
  (pureV (call Ev) Fn.laws_toRunS [lv a1]).bind fun v257 =>
  gV1 v257 fun x258 =>
  gF x258 fun z259 =>
  (pureV (call Ev) Fn.impl_ApplyRuns [lv z256, lv z259]).bind fun v260 =>
  gVA v260 fun c261 =>
  (c261[0]?).bind fun x262 =>
  gI .i64 x262 fun i263 =>
  (c261[1]?).bind fun x264 =>
  gF x264 fun z265 =>
  if c261.length = 2 then
  stK 2 ((tidy (tidy (tidy h129 [p159.1] p159.2) [p162.1] p162.2) [p241.1] p241.2).new 0 [.int .i64 0, .sl none 0]) (pv ((tidy (tidy (tidy h129 [p159.1] p159.2) [p162.1] p162.2) [p241.1] p241.2).n) 0) (.agg [.int .i64 i263, .fs z265]) fun h266 =>
  (loadN 2 h266 (pv ((tidy (tidy (tidy h129 [p159.1] p159.2) [p162.1] p162.2) [p241.1] p241.2).n) 0)).bind fun c267 =>
  (c267[0]?).bind fun x268 =>
  gI .i64 x268 fun i269 =>
  (c267[1]?).bind fun x270 =>
  if c267.length = 2 then
  (loadN 2 h266 (pv 0 0)).bind fun c271 =>
  (c271[0]?).bind fun x272 =>
  gI .i64 x272 fun i273 =>
  (c271[1]?).bind fun x274 =>
  if c271.length = 2 then
  (frzVs h266 [.agg [.int .i64 i269, x270], .agg [.int .i64 i273, x274]]).bind fun l275 =>
  pcallS (call Ev) Fn.laws_eqBytesResult (normVs [] l275) fun v276 =>
  gV1 v276 fun x277 =>
  gB x277 fun q278 =>
  vcase (bv (!q278))
  (some (bv false))
  ((loadN 2 h266 (pv h124.n 0)).bind fun c280 =>
  (c280[0]?).bind fun x281 =>
  gI .i64 x281 fun i282 =>
  (c280[1]?).bind fun x283 =>
  if c280.length = 2 then
  (frzVs h266 [.agg [.int .i64 i282, x283], iv .i64 1]).bind fun l284 =>
  pcallS (call Ev) Fn.laws_heldBytesResult (normVs [] l284) fun v285 =>
  gV1 v285 fun x286 =>
  gI .i64 x286 fun i287 =>
  vcase (bv (decide (i287 < 0)))
  (some (bv false))
  (vcase (bv (i287 != i243))
  (some (bv false))
  (some (bv true)))
  else none)
  else none
  else none
  else none))
  else none
  else none)

theorem pu_laws_FnExactApplyRuns (a0 : List (List S)) (a1 : List (List S)) : pureV (call Ev) Fn.laws_FnExactApplyRuns [lv a0, lv a1] =
  vcase (bv (decide ((a0.length : Int) > 1048576)))
  (some (bv true))
  (pcallS (call Ev) Fn.laws_szRunS [lv a1, iv .i64 1048576] fun v102 =>
  gV1 v102 fun x103 =>
  gI .i64 x103 fun i104 =>
  vcase (bv (decide (i104 < 0)))
  (some (bv true))
  ((pureV (call Ev) Fn.laws_toByteS [lv a0]).bind fun v106 =>
  gV1 v106 fun x107 =>
  gF x107 fun z108 =>
  (pureV (call Ev) Fn.laws_toRunS [lv a1]).bind fun v109 =>
  gV1 v109 fun x110 =>
  gF x110 fun z111 =>
  (pureV (call Ev) Fn.spec_ApplyRuns [lv z108, lv z111]).bind fun v112 =>
  gVA v112 fun c113 =>
  (c113[0]?).bind fun x114 =>
  gI .i64 x114 fun i115 =>
  (c113[1]?).bind fun x116 =>
  gF x116 fun z117 =>
  if c113.length = 2 then
  pcallF (call Ev) Fn.laws_toByteS true [lv a0] (((D 0).new 0 [.int .i64 0, .sl none 0]).put 0 (.rw 0 [.int .i64 i115, .fs z117])) fun v118 h119 =>
  pcallF (call Ev) Fn.laws_toRunS true [lv a1] h119 fun v120 h121 =>
  (frzVs h121 [v118, v120]).bind fun l122 =>
  pcallF (call Ev) Fn.impl_ApplyRuns ([v118, v120].all offV) (normVs [] l122) h121 fun v123 h124 =>
  gVA v123 fun c125 =>
  (c125[0]?).bind fun x126 =>
  gI .i64 x126 fun i127 =>
  (c125[1]?).bind fun x128 =>
  if c125.length = 2 then
  stK 2 (h124.new 0 [.int .i64 0, .sl none 0]) (pv h124.n 0) (.agg [.int .i64 i127, x128]) fun h129 =>
  (loadN 2 h129 (pv h124.n 0)).bind fun c130 =>
  (c130[0]?).bind fun x131 =>
  gI .i64 x131 fun i132 =>
  (c130[1]?).bind fun x133 =>
  if c130.length = 2 then
  (loadN 2 h129 (pv 0 0)).bind fun c134 =>
  (c134[0]?).bind fun x135 =>
  gI .i64 x135 fun i136 =>
  (c134[1]?).bind fun x137 =>
  if c134.length = 2 then
  (frzVs h129 [.agg [.int .i64 i132, x133], .agg [.int .i64 i136, x137]]).bind fun l138 =>
  pcallS (call Ev) Fn.laws_eqBytesResult (normVs [] l138) fun v139 =>
  gV1 v139 fun x140 =>
  gB x140 fun q141 =>
  vcase (bv (!q141))
  (some (bv false))
  ((pureV (call Ev) Fn.laws_toByteS [lv a0]).bind fun v143 =>
  gV1 v143 fun x144 =>
  gF x144 fun z145 =>
  (frzVs h129 [v118, lv z145]).bind fun l146 =>
  pcallS (call Ev) Fn.laws_eqByteS (normVs [] l146) fun v147 =>
  gV1 v147 fun x148 =>
  gB x148 fun q149 =>
  vcase (bv (!q149))
  (some (bv false))
  ((pureV (call Ev) Fn.laws_toRunS [lv a1]).bind fun v151 =>
  gV1 v151 fun x152 =>
  gF x152 fun z153 =>
  (frzVs h129 [v120, lv z153]).bind fun l154 =>
  pcallS (call Ev) Fn.laws_eqRunS (normVs [] l154) fun v155 =>
  gV1 v155 fun x156 =>
  gB x156 fun q157 =>
  vcase (bv (!q157))
  (some (bv false))
  ((call Ev Fn.laws_markByteS [v118, iv .i64 1] h129).bind fun p159 =>
  gV1 p159.1 fun x160 =>
  gI .i64 x160 fun i161 =>
  (call Ev Fn.laws_markRunS [v120, iv .i64 i161] (tidy h129 [p159.1] p159.2)).bind fun p162 =>
  gV1 p162.1 fun x163 =>
  gI .i64 x163 fun i164 =>
  vcase (bv (decide (i164 < 0)))
  (Jn.laws_FnExactApplyRuns_0 true h129 p159 p162 h124 a0 a1)
  ((loadN 2 (tidy (tidy h129 [p159.1] p159.2) [p162.1] p162.2) (pv h124.n 0)).bind fun c167 =>
  (c167[0]?).bind fun x168 =>
  gI .i64 x168 fun i169 =>
  (c167[1]?).bind fun x170 =>
  if c167.length = 2 then
  (loadN 2 (tidy (tidy h129 [p159.1] p159.2) [p162.1] p162.2) (pv 0 0)).bind fun c171 =>
  (c171[0]?).bind fun x172 =>
  gI .i64 x172 fun i173 =>
  (c171[1]?).bind fun x174 =>
  if c171.length = 2 then
  (frzVs (tidy (tidy h129 [p159.1] p159.2) [p162.1] p162.2) [.agg [.int .i64 i169, x170], .agg [.int .i64 i173, x174]]).bind fun l175 =>
  pcallS (call Ev) Fn.laws_eqBytesResult (normVs [] l175) fun v176 =>
  gV1 v176 fun x177 =>
  gB x177 fun q178 =>
  Jn.laws_FnExactApplyRuns_0 (!q178) h129 p159 p162 h124 a0 a1
  else none
  else none))))
  else none
  else none
  else none
  else none)) := by
  rw [pure_eq]; kernel_rfl

theorem pu_spec_InverseRuns (a0 : List (List S)) (a1 : List (List S)) : pureV (call Ev) Fn.spec_InverseRuns [lv a0, lv a1] =
  pcallS (call Ev) Fn.spec_l3Asked [lv a0, lv a1] fun v101 =>
  gV1 v101 fun x102 =>
  gI .i64 x102 fun i103 =>
  vcase (bv (i103 != 0))
  (some (.agg [.int .i64 i103, .fs []]))
  ((Lp.spec_InverseRuns 0 [lv a0, lv a1, pv 0 0, pv 1 0, iv .i64 0] ((((D 0).new 0 [.int .i64 0, .sl none 0]).new 0 [.int .i64 0, .sl none 0]).put 1 (.rw 0 [.int .i64 0, .sl none 0]))).bind fun o105 => lcase o105 (fun l106 h107 =>
  (l106[0]?).bind fun w110 =>
  (l106[1]?).bind fun w111 =>
  ldK (.agg [.i .i64, .f]) ⟨2, 32, [.int .i64 0, .sl none 0], true, .st [(0, 2), (1, 66)], false⟩ h107 w111 fun v112 =>
  gVA v112 fun c113 =>
  (c113[0]?).bind fun x114 =>
  gI .i64 x114 fun i115 =>
  (c113[1]?).bind fun x116 =>
  if c113.length = 2 then
  stK 2 h107 w110 (.agg [.int .i64 i115, x116]) fun h117 =>
  ldT ⟨2, 32, [.int .i64 0, .sl none 0], true, .st [(0, 2), (1, 66)], false⟩ h117 w110 fun v118 =>
  frzV h117 v118
  else none) (fun v108 h109 =>
  frzV h109 v108)) := by
  rw [pure_eq]; kernel_rfl

theorem eq_spec_InverseRuns_l0 (s0 : List (List S)) (s1 : List (List S)) (s4 : V) (s6 : V) (s7 : Int) (h : H) : Lp.spec_InverseRuns 0 [lv s0, lv s1, s4, s6, iv .i64 s7] h =
  vcase (bv (decide (s7 < (s1.length : Int))))
  (idxF 2 s1 s7 fun r203 =>
  (r203[0]?).bind fun x204 =>
  gI .i64 x204 fun i205 =>
  (padd 1 s6).bind fun v206 =>
  ldK (.one (.f)) ⟨1, 24, [.sl none 0], false, .sl 116, false⟩ h v206 fun v207 =>
  idxF 2 s1 s7 fun r208 =>
  (r208[0]?).bind fun x209 =>
  gI .i64 x209 fun i210 =>
  idxF 2 s1 s7 fun r211 =>
  (r211[1]?).bind fun x212 =>
  gF x212 fun z213 =>
  slF 1 s0 (some (iv .i64 i205)) (some (iv .i64 (IntKind.i64.wrap (i205 + (z213.length : Int))))) fun z214 =>
  pcallF (call Ev) Fn.spec_l2Copy true [lv z214] h fun v215 h216 =>
  hchk h h216 (
  bif scaV v215 then
  cellsK v215 fun c217 =>
  if c217.length = 1 ∧ 1 + 1 ≤ ([.int .i64 i210, .sl none 0] : List S).length then
  ((setAt ([.int .i64 i210, .sl none 0] : List S) 1 c217)[0]?).bind fun x218 =>
  gI .i64 x218 fun i219 =>
  ((setAt ([.int .i64 i210, .sl none 0] : List S) 1 c217)[1]?).bind fun x220 =>
  if (setAt ([.int .i64 i210, .sl none 0] : List S) 1 c217).length = 2 then
  hchk h (h216.new 2 [.int .i64 i219, x220]) (
  (appS 2 (h216.new 2 [.int .i64 i219, x220]) v207 (sv h216.n 0 1)).bind fun p221 =>
  (padd 1 s6).bind fun v222 =>
  stK 1 p221.2 v222 p221.1 fun h223 =>
  Lp.spec_InverseRuns 0 [lv s0, lv s1, s4, s6, iv .i64 (IntKind.i64.wrap (s7 + 1))] (tidy h [lv s0, lv s1, s4, s6, iv .i64 (IntKind.i64.wrap (s7 + 1))] h223))
  else none
  else none
  else none))
  (some (.done [s4, s6] (tidy h [s4, s6] h))) := by
  unfold Lp.spec_InverseRuns; rw [loop_eq]; kernel_rfl

theorem eq_impl_InverseRuns (a0 : List (List S)) (a1 : List (List S)) (n : Nat) : call Ev Fn.impl_InverseRuns [lv a0, lv a1] (D n) =
  vcase (bv ((a0.length : Int) != 64))
  (stK 2 ((D n).new 0 [.int .i64 0, .sl none 0]) (pv ((D n).n) 0) (.agg [.int .i64 1, .sl none 0]) fun h102 =>
  (loadN 2 h102 (pv ((D n).n) 0)).bind fun c103 =>
  some (.agg c103, h102))
  (pcallS (call Ev) Fn.impl_RunsFault [lv a1] fun v104 =>
  gV1 v104 fun x105 =>
  gI .i64 x105 fun i106 =>
  vcase (bv (i106 != 0))
  (stK 2 ((D n).new 0 [.int .i64 0, .sl none 0]) (pv ((D n).n) 0) (.agg [.int .i64 i106, .sl none 0]) fun h108 =>
  (loadN 2 h108 (pv ((D n).n) 0)).bind fun c109 =>
  some (.agg c109, h108))
  ((Lp.impl_InverseRuns 0 [lv a0, pv ((D n).n) 0, .s (.sl none 0), lv a1, iv .i64 (a1.length : Int), iv .i64 0] ((D n).new 0 [.int .i64 0, .sl none 0])).bind fun o110 => lcase o110 (fun l111 h112 =>
  (l111[0]?).bind fun w115 =>
  (l111[1]?).bind fun w116 =>
  cellsK w116 fun c117 =>
  if c117.length = 1 ∧ 1 + 1 ≤ ([.int .i64 0, .sl none 0] : List S).length then
  ((setAt ([.int .i64 0, .sl none 0] : List S) 1 c117)[0]?).bind fun x118 =>
  gI .i64 x118 fun i119 =>
  ((setAt ([.int .i64 0, .sl none 0] : List S) 1 c117)[1]?).bind fun x120 =>
  if (setAt ([.int .i64 0, .sl none 0] : List S) 1 c117).length = 2 then
  stK 2 h112 w115 (.agg [.int .i64 i119, x120]) fun h121 =>
  ldT ⟨2, 32, [.int .i64 0, .sl none 0], true, .st [(0, 2), (1, 66)], false⟩ h121 w115 fun v122 =>
  some (v122, h121)
  else none
  else none) (fun v113 h114 =>
  some (v113, h114)))) := by
  rw [call_eq]; kernel_rfl

theorem eq_impl_InverseRuns_l0 (s0 : List (List S)) (s4 : V) (s6 : V) (s19 : List (List S)) (s20 : Int) (s21 : Int) (h : H) : Lp.impl_InverseRuns 0 [lv s0, s4, s6, lv s19, iv .i64 s20, iv .i64 s21] h =
  vcase (bv (decide (s21 < s20)))
  (idxF 2 s19 s21 fun r203 =>
  (rowN 2 r203 0).bind fun c204 =>
  (c204[0]?).bind fun x205 =>
  gI .i64 x205 fun i206 =>
  (c204[1]?).bind fun x207 =>
  gF x207 fun z208 =>
  if c204.length = 2 then
  stK 2 (h.new 0 [.int .i64 0, .sl none 0]) (pv h.n 0) (.agg [.int .i64 i206, .fs z208]) fun h209 =>
  (load1 h209 (pv h.n 0)).bind fun x210 =>
  gI .i64 x210 fun i211 =>
  (load1 h209 (pv h.n 0)).bind fun x212 =>
  gI .i64 x212 fun i213 =>
  (load1 h209 (pv h.n 0)).bind fun x214 =>
  gI .i64 x214 fun i215 =>
  (load1 h209 (pv h.n 1)).bind fun x216 =>
  (lenV (.sl 5) (.s x216)).bind fun v217 =>
  gV1 v217 fun x218 =>
  gI .i64 x218 fun i219 =>
  slF 1 s0 (some (iv .i64 i213)) (some (iv .i64 (IntKind.i64.wrap (i215 + i219)))) fun z220 =>
  pcallF (call Ev) Fn.impl_copied true [lv z220] h209 fun v221 h222 =>
  hchk h209 h222 (
  bif scaV v221 then
  cellsK v221 fun c223 =>
  if c223.length = 1 ∧ 1 + 1 ≤ ([.int .i64 i211, .sl none 0] : List S).length then
  ((setAt ([.int .i64 i211, .sl none 0] : List S) 1 c223)[0]?).bind fun x224 =>
  gI .i64 x224 fun i225 =>
  ((setAt ([.int .i64 i211, .sl none 0] : List S) 1 c223)[1]?).bind fun x226 =>
  if (setAt ([.int .i64 i211, .sl none 0] : List S) 1 c223).length = 2 then
  hchk h209 (h222.new 2 [.int .i64 i225, x226]) (
  (appS 2 (h222.new 2 [.int .i64 i225, x226]) s6 (sv h222.n 0 1)).bind fun p227 =>
  Lp.impl_InverseRuns 0 [lv s0, s4, p227.1, lv s19, iv .i64 s20, iv .i64 (IntKind.i64.wrap (s21 + 1))] (tidy h [lv s0, s4, p227.1, lv s19, iv .i64 s20, iv .i64 (IntKind.i64.wrap (s21 + 1))] p227.2))
  else none
  else none
  else none)
  else none)
  (some (.done [s4, s6] (tidy h [s4, s6] h))) := by
  unfold Lp.impl_InverseRuns; rw [loop_eq]; kernel_rfl

end Vm
