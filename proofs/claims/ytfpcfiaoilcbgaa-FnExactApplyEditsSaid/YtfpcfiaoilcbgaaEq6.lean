/-
  What each function, and each round of each loop, comes to in the small machine. Written by a program (gen3.py).
-/
import Derived.Test.YtfpcfiaoilcbgaaEnv
set_option linter.unusedVariables false
set_option maxRecDepth 100000
namespace Vm
open Go

theorem eq_impl_ApplyEdits (a0 : List (List S)) (a1 : List (List S)) (n : Nat) : call Ev Fn.impl_ApplyEdits [lv a0, lv a1] (D n) =
  vcase (bv (decide ((a0.length : Int) > 12)))
  (stK 3 ((D n).new 0 [.int .i64 0, .sl none 0, .sl none 0]) (pv ((D n).n) 0) (.agg [.int .i64 2, .sl none 0, .sl none 0]) fun h102 =>
  (loadN 3 h102 (pv ((D n).n) 0)).bind fun c103 =>
  some (.agg c103, h102))
  (pcallF (call Ev) Fn.impl_copies true [lv a0] ((D n).new 0 [.int .i64 0, .sl none 0, .sl none 0]) fun v104 h105 =>
  (Lp.impl_ApplyEdits 0 [lv a1, pv ((D n).n) 0, v104, lv a1, iv .i64 (a1.length : Int), iv .i64 0] h105).bind fun o106 => lcase o106 (fun l107 h108 =>
  (l107[0]?).bind fun w111 =>
  gV1 w111 fun x112 =>
  gF x112 fun z113 =>
  (l107[1]?).bind fun w114 =>
  (l107[2]?).bind fun w115 =>
  pcallF (call Ev) Fn.impl_ownEdits true [lv z113] h108 fun v116 h117 =>
  cellsK v116 fun c118 =>
  if c118.length = 1 ∧ 1 + 1 ≤ ([.int .i64 0, .sl none 0, .sl none 0] : List S).length then
  cellsK w115 fun c119 =>
  if c119.length = 1 ∧ 2 + 1 ≤ (setAt ([.int .i64 0, .sl none 0, .sl none 0] : List S) 1 c118).length then
  ((setAt (setAt ([.int .i64 0, .sl none 0, .sl none 0] : List S) 1 c118) 2 c119)[0]?).bind fun x120 =>
  gI .i64 x120 fun i121 =>
  ((setAt (setAt ([.int .i64 0, .sl none 0, .sl none 0] : List S) 1 c118) 2 c119)[1]?).bind fun x122 =>
  ((setAt (setAt ([.int .i64 0, .sl none 0, .sl none 0] : List S) 1 c118) 2 c119)[2]?).bind fun x123 =>
  if (setAt (setAt ([.int .i64 0, .sl none 0, .sl none 0] : List S) 1 c118) 2 c119).length = 3 then
  stK 3 h117 w114 (.agg [.int .i64 i121, x122, x123]) fun h124 =>
  ldT ⟨3, 56, [.int .i64 0, .sl none 0, .sl none 0], true, .st [(0, 2), (1, 72), (2, 68)], false⟩ h124 w114 fun v125 =>
  some (v125, h124)
  else none
  else none
  else none) (fun v109 h110 =>
  some (v109, h110))) := by
  rw [call_eq]; kernel_rfl

noncomputable def Jn.impl_ApplyEdits_l0_0 (q259 : Bool) (h209 : H) (s4 : V) (h : H) (s5 : V) (s1 : List (List S)) (s14 : List (List S)) (s15 : Int) (s16 : Int) : Option (LOut) :=
  vcase (bv q259)
  (stK 3 h209 s4 (.agg [.int .i64 1, .sl none 0, .sl none 0]) fun h261 =>
  ldT ⟨3, 56, [.int .i64 0, .sl none 0, .sl none 0], true, .st [(0, 2), (1, 72), (2, 68)], false⟩ h261 s4 fun v262 =>
  some (.ret v262 h261))
  ((load1 h209 (pv h.n 0)).bind fun x263 =>
  gI .i64 x263 fun i264 =>
  vcase (bv (i264 == 12))
  (stK 3 h209 s4 (.agg [.int .i64 2, .sl none 0, .sl none 0]) fun h266 =>
  ldT ⟨3, 56, [.int .i64 0, .sl none 0, .sl none 0], true, .st [(0, 2), (1, 72), (2, 68)], false⟩ h266 s4 fun v267 =>
  some (.ret v267 h266))
  ((load1 h209 (pv h.n 0)).bind fun x268 =>
  gI .i64 x268 fun i269 =>
  (lenV (.sl 84) s5).bind fun v270 =>
  gV1 v270 fun x271 =>
  gI .i64 x271 fun i272 =>
  vcase (bv (i269 == i272))
  ((appS 1 (h209.new 1 [.sl none 0]) s5 (sv h209.n 0 1)).bind fun p274 =>
  (load1 p274.2 (pv h.n 0)).bind fun x275 =>
  gI .i64 x275 fun i276 =>
  (load1 p274.2 (pv h.n 1)).bind fun x277 =>
  (frzVs p274.2 [.s x277]).bind fun l278 =>
  pcallF (call Ev) Fn.impl_copied ([.s x277].all offV) (normVs [] l278) p274.2 fun v279 h280 =>
  hchk p274.2 h280 (
  bif scaV v279 then
  idxK 1 p274.1 (iv .i64 i276) fun v281 =>
  stK 1 h280 v281 v279 fun h282 =>
  Lp.impl_ApplyEdits 0 [lv s1, s4, p274.1, lv s14, iv .i64 s15, iv .i64 (IntKind.i64.wrap (s16 + 1))] (tidy h [lv s1, s4, p274.1, lv s14, iv .i64 s15, iv .i64 (IntKind.i64.wrap (s16 + 1))] h282)
  else none))
  ((load1 h209 (pv h.n 0)).bind fun x283 =>
  gI .i64 x283 fun i284 =>
  (load1 h209 (pv h.n 1)).bind fun x285 =>
  (frzVs h209 [.s x285]).bind fun l286 =>
  pcallF (call Ev) Fn.impl_copied ([.s x285].all offV) (normVs [] l286) h209 fun v287 h288 =>
  hchk h209 h288 (
  bif scaV v287 then
  idxK 1 s5 (iv .i64 i284) fun v289 =>
  stK 1 h288 v289 v287 fun h290 =>
  Lp.impl_ApplyEdits 0 [lv s1, s4, s5, lv s14, iv .i64 s15, iv .i64 (IntKind.i64.wrap (s16 + 1))] (tidy h [lv s1, s4, s5, lv s14, iv .i64 s15, iv .i64 (IntKind.i64.wrap (s16 + 1))] h290)
  else none))))

theorem eq_impl_ApplyEdits_l0 (s1 : List (List S)) (s4 : V) (s5 : V) (s14 : List (List S)) (s15 : Int) (s16 : Int) (h : H) : Lp.impl_ApplyEdits 0 [lv s1, s4, s5, lv s14, iv .i64 s15, iv .i64 s16] h =
  vcase (bv (decide (s16 < s15)))
  (idxF 2 s14 s16 fun r203 =>
  (rowN 2 r203 0).bind fun c204 =>
  (c204[0]?).bind fun x205 =>
  gI .i64 x205 fun i206 =>
  (c204[1]?).bind fun x207 =>
  gF x207 fun z208 =>
  if c204.length = 2 then
  stK 2 (h.new 0 [.int .i64 0, .sl none 0]) (pv h.n 0) (.agg [.int .i64 i206, .fs z208]) fun h209 =>
  (load1 h209 (pv h.n 1)).bind fun x210 =>
  (lenV (.sl 5) (.s x210)).bind fun v211 =>
  gV1 v211 fun x212 =>
  gI .i64 x212 fun i213 =>
  vcase (bv (i213 != 64))
  (Jn.impl_ApplyEdits_l0_0 true h209 s4 h s5 s1 s14 s15 s16)
  ((load1 h209 (pv h.n 0)).bind fun x216 =>
  gI .i64 x216 fun i217 =>
  (lenV (.sl 84) s5).bind fun v218 =>
  gV1 v218 fun x219 =>
  gI .i64 x219 fun i220 =>
  pcallS (call Ev) Fn.impl_in [iv .i64 i217, iv .i64 0, iv .i64 i220] fun v221 =>
  gV1 v221 fun x222 =>
  gB x222 fun q223 =>
  Jn.impl_ApplyEdits_l0_0 (!q223) h209 s4 h s5 s1 s14 s15 s16)
  else none)
  (some (.done [lv s1, s4, s5] (tidy h [lv s1, s4, s5] h))) := by
  unfold Lp.impl_ApplyEdits; rw [loop_eq]; kernel_rfl

theorem pu_laws_eqByteS (a0 : List (List S)) (a1 : List (List S)) : pureV (call Ev) Fn.laws_eqByteS [lv a0, lv a1] =
  vcase (bv ((a0.length : Int) != (a1.length : Int)))
  (some (bv false))
  ((Lp.laws_eqByteS 0 [lv a0, lv a1, iv .i64 0] (D 0)).bind fun o102 => lcase o102 (fun l103 h104 =>
  some (bv true)) (fun v105 h106 =>
  frzV h106 v105)) := by
  rw [pure_eq]; kernel_rfl

theorem eq_laws_eqByteS_l0 (s0 : List (List S)) (s1 : List (List S)) (s5 : Int) (h : H) : Lp.laws_eqByteS 0 [lv s0, lv s1, iv .i64 s5] h =
  vcase (bv (decide (s5 < (s0.length : Int))))
  (idxF 1 s0 s5 fun r203 =>
  (r203[0]?).bind fun x204 =>
  gI .u8 x204 fun i205 =>
  idxF 1 s1 s5 fun r206 =>
  (r206[0]?).bind fun x207 =>
  gI .u8 x207 fun i208 =>
  vcase (bv (i205 != i208))
  (some (.ret (bv false) h))
  (Lp.laws_eqByteS 0 [lv s0, lv s1, iv .i64 (IntKind.i64.wrap (s5 + 1))] (tidy h [lv s0, lv s1, iv .i64 (IntKind.i64.wrap (s5 + 1))] h)))
  (some (.done [] (tidy h [] h))) := by
  unfold Lp.laws_eqByteS; rw [loop_eq]; kernel_rfl

theorem pu_laws_eqByteSS (a0 : List (List S)) (a1 : List (List S)) : pureV (call Ev) Fn.laws_eqByteSS [lv a0, lv a1] =
  vcase (bv ((a0.length : Int) != (a1.length : Int)))
  (some (bv false))
  ((Lp.laws_eqByteSS 0 [lv a0, lv a1, iv .i64 0] (D 0)).bind fun o102 => lcase o102 (fun l103 h104 =>
  some (bv true)) (fun v105 h106 =>
  frzV h106 v105)) := by
  rw [pure_eq]; kernel_rfl

theorem eq_laws_eqByteSS_l0 (s0 : List (List S)) (s1 : List (List S)) (s5 : Int) (h : H) : Lp.laws_eqByteSS 0 [lv s0, lv s1, iv .i64 s5] h =
  vcase (bv (decide (s5 < (s0.length : Int))))
  (idxF 1 s0 s5 fun r203 =>
  (r203[0]?).bind fun x204 =>
  gF x204 fun z205 =>
  idxF 1 s1 s5 fun r206 =>
  (r206[0]?).bind fun x207 =>
  gF x207 fun z208 =>
  pcallS (call Ev) Fn.laws_eqByteS [lv z205, lv z208] fun v209 =>
  gV1 v209 fun x210 =>
  gB x210 fun q211 =>
  hchk h h (
  vcase (bv (!q211))
  (some (.ret (bv false) h))
  (Lp.laws_eqByteSS 0 [lv s0, lv s1, iv .i64 (IntKind.i64.wrap (s5 + 1))] (tidy h [lv s0, lv s1, iv .i64 (IntKind.i64.wrap (s5 + 1))] h))))
  (some (.done [] (tidy h [] h))) := by
  unfold Lp.laws_eqByteSS; rw [loop_eq]; kernel_rfl

theorem pu_laws_eqEdit (a0_0 : Int) (a0_1 : List (List S)) (a1_0 : Int) (a1_1 : List (List S)) : pureV (call Ev) Fn.laws_eqEdit [.agg [.int .i64 a0_0, .fs a0_1], .agg [.int .i64 a1_0, .fs a1_1]] =
  vcase (bv (a0_0 != a1_0))
  (some (bv false))
  (pcallS (call Ev) Fn.laws_eqByteS [lv a0_1, lv a1_1] fun v102 =>
  gV1 v102 fun x103 =>
  gB x103 fun q104 =>
  vcase (bv (!q104))
  (some (bv false))
  (some (bv true))) := by
  rw [pure_eq]; kernel_rfl

theorem pu_laws_eqEditS (a0 : List (List S)) (a1 : List (List S)) : pureV (call Ev) Fn.laws_eqEditS [lv a0, lv a1] =
  vcase (bv ((a0.length : Int) != (a1.length : Int)))
  (some (bv false))
  ((Lp.laws_eqEditS 0 [lv a0, lv a1, iv .i64 0] (D 0)).bind fun o102 => lcase o102 (fun l103 h104 =>
  some (bv true)) (fun v105 h106 =>
  frzV h106 v105)) := by
  rw [pure_eq]; kernel_rfl

theorem eq_laws_eqEditS_l0 (s0 : List (List S)) (s1 : List (List S)) (s5 : Int) (h : H) : Lp.laws_eqEditS 0 [lv s0, lv s1, iv .i64 s5] h =
  vcase (bv (decide (s5 < (s0.length : Int))))
  (idxF 2 s0 s5 fun r203 =>
  (rowN 2 r203 0).bind fun c204 =>
  (c204[0]?).bind fun x205 =>
  gI .i64 x205 fun i206 =>
  (c204[1]?).bind fun x207 =>
  gF x207 fun z208 =>
  if c204.length = 2 then
  idxF 2 s1 s5 fun r209 =>
  (rowN 2 r209 0).bind fun c210 =>
  (c210[0]?).bind fun x211 =>
  gI .i64 x211 fun i212 =>
  (c210[1]?).bind fun x213 =>
  gF x213 fun z214 =>
  if c210.length = 2 then
  pcallS (call Ev) Fn.laws_eqEdit [.agg [.int .i64 i206, .fs z208], .agg [.int .i64 i212, .fs z214]] fun v215 =>
  gV1 v215 fun x216 =>
  gB x216 fun q217 =>
  hchk h h (
  vcase (bv (!q217))
  (some (.ret (bv false) h))
  (Lp.laws_eqEditS 0 [lv s0, lv s1, iv .i64 (IntKind.i64.wrap (s5 + 1))] (tidy h [lv s0, lv s1, iv .i64 (IntKind.i64.wrap (s5 + 1))] h)))
  else none
  else none)
  (some (.done [] (tidy h [] h))) := by
  unfold Lp.laws_eqEditS; rw [loop_eq]; kernel_rfl

theorem pu_laws_eqEditsResult (a0_0 : Int) (a0_1 : List (List S)) (a0_2 : List (List S)) (a1_0 : Int) (a1_1 : List (List S)) (a1_2 : List (List S)) : pureV (call Ev) Fn.laws_eqEditsResult [.agg [.int .i64 a0_0, .fs a0_1, .fs a0_2], .agg [.int .i64 a1_0, .fs a1_1, .fs a1_2]] =
  vcase (bv (a0_0 != a1_0))
  (some (bv false))
  (pcallS (call Ev) Fn.laws_eqEditS [lv a0_1, lv a1_1] fun v102 =>
  gV1 v102 fun x103 =>
  gB x103 fun q104 =>
  vcase (bv (!q104))
  (some (bv false))
  (pcallS (call Ev) Fn.laws_eqByteSS [lv a0_2, lv a1_2] fun v106 =>
  gV1 v106 fun x107 =>
  gB x107 fun q108 =>
  vcase (bv (!q108))
  (some (bv false))
  (some (bv true)))) := by
  rw [pure_eq]; kernel_rfl

theorem eq_laws_markByteS (a0 : V) (a1 : Int) (h : H) : call Ev Fn.laws_markByteS [a0, iv .i64 a1] h =
  (Lp.laws_markByteS 0 [a0, iv .i64 a1, iv .i64 0] h).bind fun o101 => lcase o101 (fun l102 h103 =>
  (l102[0]?).bind fun w106 =>
  gV1 w106 fun x107 =>
  gI .i64 x107 fun i108 =>
  some (iv .i64 i108, h103)) (fun v104 h105 =>
  some (v104, h105)) := by
  rw [call_eq]; kernel_rfl

theorem eq_laws_markByteS_l0 (s0 : V) (s1 : Int) (s5 : Int) (h : H) : Lp.laws_markByteS 0 [s0, iv .i64 s1, iv .i64 s5] h =
  (lenV (.sl 5) s0).bind fun v201 =>
  gV1 v201 fun x202 =>
  gI .i64 x202 fun i203 =>
  vcase (bv (decide (s5 < i203)))
  (idxK 1 s0 (iv .i64 s5) fun v206 =>
  stK 1 h v206 (iv .u8 (IntKind.u8.wrap s1)) fun h207 =>
  Lp.laws_markByteS 0 [s0, iv .i64 (IntKind.i64.wrap (s1 + 1)), iv .i64 (IntKind.i64.wrap (s5 + 1))] (tidy h [s0, iv .i64 (IntKind.i64.wrap (s1 + 1)), iv .i64 (IntKind.i64.wrap (s5 + 1))] h207))
  (some (.done [iv .i64 s1] (tidy h [iv .i64 s1] h))) := by
  unfold Lp.laws_markByteS; rw [loop_eq]; kernel_rfl

theorem eq_laws_markByteSS (a0 : V) (a1 : Int) (h : H) : call Ev Fn.laws_markByteSS [a0, iv .i64 a1] h =
  (Lp.laws_markByteSS 0 [a0, iv .i64 a1, iv .i64 0] h).bind fun o101 => lcase o101 (fun l102 h103 =>
  (l102[0]?).bind fun w106 =>
  gV1 w106 fun x107 =>
  gI .i64 x107 fun i108 =>
  some (iv .i64 i108, h103)) (fun v104 h105 =>
  some (v104, h105)) := by
  rw [call_eq]; kernel_rfl

theorem eq_laws_markByteSS_l0 (s0 : V) (s1 : Int) (s5 : Int) (h : H) : Lp.laws_markByteSS 0 [s0, iv .i64 s1, iv .i64 s5] h =
  (lenV (.sl 84) s0).bind fun v201 =>
  gV1 v201 fun x202 =>
  gI .i64 x202 fun i203 =>
  vcase (bv (decide (s5 < i203)))
  (idxK 1 s0 (iv .i64 s5) fun v206 =>
  ldK (.one (.f)) ⟨1, 24, [.sl none 0], false, .sl 5, false⟩ h v206 fun v207 =>
  (call Ev Fn.laws_markByteS [v207, iv .i64 s1] h).bind fun p208 =>
  gV1 p208.1 fun x209 =>
  gI .i64 x209 fun i210 =>
  Lp.laws_markByteSS 0 [s0, iv .i64 i210, iv .i64 (IntKind.i64.wrap (s5 + 1))] (tidy h [s0, iv .i64 i210, iv .i64 (IntKind.i64.wrap (s5 + 1))] (tidy h [p208.1] p208.2)))
  (some (.done [iv .i64 s1] (tidy h [iv .i64 s1] h))) := by
  unfold Lp.laws_markByteSS; rw [loop_eq]; kernel_rfl

theorem eq_laws_markEditS (a0 : V) (a1 : Int) (h : H) : call Ev Fn.laws_markEditS [a0, iv .i64 a1] h =
  (Lp.laws_markEditS 0 [a0, iv .i64 a1, iv .i64 0] h).bind fun o101 => lcase o101 (fun l102 h103 =>
  (l102[0]?).bind fun w106 =>
  gV1 w106 fun x107 =>
  gI .i64 x107 fun i108 =>
  some (iv .i64 i108, h103)) (fun v104 h105 =>
  some (v104, h105)) := by
  rw [call_eq]; kernel_rfl

theorem eq_laws_markEditS_l0 (s0 : V) (s1 : Int) (s5 : Int) (h : H) : Lp.laws_markEditS 0 [s0, iv .i64 s1, iv .i64 s5] h =
  (lenV (.sl 138) s0).bind fun v201 =>
  gV1 v201 fun x202 =>
  gI .i64 x202 fun i203 =>
  vcase (bv (decide (s5 < i203)))
  (idxK 2 s0 (iv .i64 s5) fun v206 =>
  (padd 0 v206).bind fun v207 =>
  stK 1 h v207 (iv .i64 s1) fun h208 =>
  idxK 2 s0 (iv .i64 s5) fun v209 =>
  (padd 1 v209).bind fun v210 =>
  ldK (.one (.f)) ⟨1, 24, [.sl none 0], false, .sl 5, false⟩ h208 v210 fun v211 =>
  (call Ev Fn.laws_markByteS [v211, iv .i64 (IntKind.i64.wrap (s1 + 1))] h208).bind fun p212 =>
  gV1 p212.1 fun x213 =>
  gI .i64 x213 fun i214 =>
  Lp.laws_markEditS 0 [s0, iv .i64 i214, iv .i64 (IntKind.i64.wrap (s5 + 1))] (tidy h [s0, iv .i64 i214, iv .i64 (IntKind.i64.wrap (s5 + 1))] (tidy h208 [p212.1] p212.2)))
  (some (.done [iv .i64 s1] (tidy h [iv .i64 s1] h))) := by
  unfold Lp.laws_markEditS; rw [loop_eq]; kernel_rfl

theorem eq_laws_markEditsResult (a0_0 : Int) (a0_1 : S) (a0_2 : S) (a1 : Int) (h : H) : call Ev Fn.laws_markEditsResult [.agg [.int .i64 a0_0, a0_1, a0_2], iv .i64 a1] h =
  (load1 (h.new 0 [.int .i64 a0_0, a0_1, a0_2]) (pv h.n 1)).bind fun x101 =>
  (call Ev Fn.laws_markEditS [.s x101, iv .i64 a1] (h.new 0 [.int .i64 a0_0, a0_1, a0_2])).bind fun p102 =>
  gV1 p102.1 fun x103 =>
  gI .i64 x103 fun i104 =>
  (load1 (tidy (h.new 0 [.int .i64 a0_0, a0_1, a0_2]) [p102.1] p102.2) (pv h.n 2)).bind fun x105 =>
  (call Ev Fn.laws_markByteSS [.s x105, iv .i64 i104] (tidy (h.new 0 [.int .i64 a0_0, a0_1, a0_2]) [p102.1] p102.2)).bind fun p106 =>
  gV1 p106.1 fun x107 =>
  gI .i64 x107 fun i108 =>
  some (iv .i64 i108, tidy (tidy (h.new 0 [.int .i64 a0_0, a0_1, a0_2]) [p102.1] p102.2) [p106.1] p106.2) := by
  rw [call_eq]; kernel_rfl

theorem pu_laws_heldByteS (a0 : List (List S)) (a1 : Int) : pureV (call Ev) Fn.laws_heldByteS [lv a0, iv .i64 a1] =
  (Lp.laws_heldByteS 0 [lv a0, iv .i64 a1, iv .i64 0] (D 0)).bind fun o101 => lcase o101 (fun l102 h103 =>
  (l102[0]?).bind fun w106 =>
  gV1 w106 fun x107 =>
  gI .i64 x107 fun i108 =>
  some (iv .i64 i108)) (fun v104 h105 =>
  frzV h105 v104) := by
  rw [pure_eq]; kernel_rfl

theorem eq_laws_heldByteS_l0 (s0 : List (List S)) (s1 : Int) (s5 : Int) (h : H) : Lp.laws_heldByteS 0 [lv s0, iv .i64 s1, iv .i64 s5] h =
  vcase (bv (decide (s5 < (s0.length : Int))))
  (idxF 1 s0 s5 fun r203 =>
  (r203[0]?).bind fun x204 =>
  gI .u8 x204 fun i205 =>
  vcase (bv (i205 != (IntKind.u8.wrap s1)))
  (some (.ret (iv .i64 (-1)) h))
  (Lp.laws_heldByteS 0 [lv s0, iv .i64 (IntKind.i64.wrap (s1 + 1)), iv .i64 (IntKind.i64.wrap (s5 + 1))] (tidy h [lv s0, iv .i64 (IntKind.i64.wrap (s1 + 1)), iv .i64 (IntKind.i64.wrap (s5 + 1))] h)))
  (some (.done [iv .i64 s1] (tidy h [iv .i64 s1] h))) := by
  unfold Lp.laws_heldByteS; rw [loop_eq]; kernel_rfl

theorem pu_laws_heldEditS (a0 : List (List S)) (a1 : Int) : pureV (call Ev) Fn.laws_heldEditS [lv a0, iv .i64 a1] =
  (Lp.laws_heldEditS 0 [lv a0, iv .i64 a1, iv .i64 0] (D 0)).bind fun o101 => lcase o101 (fun l102 h103 =>
  (l102[0]?).bind fun w106 =>
  gV1 w106 fun x107 =>
  gI .i64 x107 fun i108 =>
  some (iv .i64 i108)) (fun v104 h105 =>
  frzV h105 v104) := by
  rw [pure_eq]; kernel_rfl

theorem eq_laws_heldEditS_l0 (s0 : List (List S)) (s1 : Int) (s5 : Int) (h : H) : Lp.laws_heldEditS 0 [lv s0, iv .i64 s1, iv .i64 s5] h =
  vcase (bv (decide (s5 < (s0.length : Int))))
  (idxF 2 s0 s5 fun r203 =>
  (r203[0]?).bind fun x204 =>
  gI .i64 x204 fun i205 =>
  vcase (bv (i205 != s1))
  (some (.ret (iv .i64 (-1)) h))
  (idxF 2 s0 s5 fun r207 =>
  (r207[1]?).bind fun x208 =>
  gF x208 fun z209 =>
  pcallS (call Ev) Fn.laws_heldByteS [lv z209, iv .i64 (IntKind.i64.wrap (s1 + 1))] fun v210 =>
  gV1 v210 fun x211 =>
  gI .i64 x211 fun i212 =>
  vcase (bv (decide (i212 < 0)))
  (some (.ret (iv .i64 (-1)) h))
  (Lp.laws_heldEditS 0 [lv s0, iv .i64 i212, iv .i64 (IntKind.i64.wrap (s5 + 1))] (tidy h [lv s0, iv .i64 i212, iv .i64 (IntKind.i64.wrap (s5 + 1))] h))))
  (some (.done [iv .i64 s1] (tidy h [iv .i64 s1] h))) := by
  unfold Lp.laws_heldEditS; rw [loop_eq]; kernel_rfl

theorem pu_laws_heldByteSS (a0 : List (List S)) (a1 : Int) : pureV (call Ev) Fn.laws_heldByteSS [lv a0, iv .i64 a1] =
  (Lp.laws_heldByteSS 0 [lv a0, iv .i64 a1, iv .i64 0] (D 0)).bind fun o101 => lcase o101 (fun l102 h103 =>
  (l102[0]?).bind fun w106 =>
  gV1 w106 fun x107 =>
  gI .i64 x107 fun i108 =>
  some (iv .i64 i108)) (fun v104 h105 =>
  frzV h105 v104) := by
  rw [pure_eq]; kernel_rfl

theorem eq_laws_heldByteSS_l0 (s0 : List (List S)) (s1 : Int) (s5 : Int) (h : H) : Lp.laws_heldByteSS 0 [lv s0, iv .i64 s1, iv .i64 s5] h =
  vcase (bv (decide (s5 < (s0.length : Int))))
  (idxF 1 s0 s5 fun r203 =>
  (r203[0]?).bind fun x204 =>
  gF x204 fun z205 =>
  pcallS (call Ev) Fn.laws_heldByteS [lv z205, iv .i64 s1] fun v206 =>
  gV1 v206 fun x207 =>
  gI .i64 x207 fun i208 =>
  vcase (bv (decide (i208 < 0)))
  (some (.ret (iv .i64 (-1)) h))
  (Lp.laws_heldByteSS 0 [lv s0, iv .i64 i208, iv .i64 (IntKind.i64.wrap (s5 + 1))] (tidy h [lv s0, iv .i64 i208, iv .i64 (IntKind.i64.wrap (s5 + 1))] h)))
  (some (.done [iv .i64 s1] (tidy h [iv .i64 s1] h))) := by
  unfold Lp.laws_heldByteSS; rw [loop_eq]; kernel_rfl

theorem pu_laws_heldEditsResult (a0_0 : Int) (a0_1 : List (List S)) (a0_2 : List (List S)) (a1 : Int) : pureV (call Ev) Fn.laws_heldEditsResult [.agg [.int .i64 a0_0, .fs a0_1, .fs a0_2], iv .i64 a1] =
  pcallS (call Ev) Fn.laws_heldEditS [lv a0_1, iv .i64 a1] fun v101 =>
  gV1 v101 fun x102 =>
  gI .i64 x102 fun i103 =>
  vcase (bv (decide (i103 < 0)))
  (some (iv .i64 (-1)))
  (pcallS (call Ev) Fn.laws_heldByteSS [lv a0_2, iv .i64 i103] fun v105 =>
  gV1 v105 fun x106 =>
  gI .i64 x106 fun i107 =>
  vcase (bv (decide (i107 < 0)))
  (some (iv .i64 (-1)))
  (some (iv .i64 i107))) := by
  rw [pure_eq]; kernel_rfl

noncomputable def Jn.laws_FnExactApplyEdits_0 (q252 : Bool) (h135 : H) (p167 : V × H) (p170 : V × H) (h129 : H) (a0 : List (List S)) (a1 : List (List S)) : Option (V) :=
  vcase (bv q252)
  (some (bv false))
  ((loadN 3 (tidy (tidy h135 [p167.1] p167.2) [p170.1] p170.2) (pv h129.n 0)).bind fun c254 =>
  (c254[0]?).bind fun x255 =>
  gI .i64 x255 fun i256 =>
  (c254[1]?).bind fun x257 =>
  (c254[2]?).bind fun x258 =>
  if c254.length = 3 then
  (call Ev Fn.laws_markEditsResult [.agg [.int .i64 i256, x257, x258], iv .i64 1] (tidy (tidy h135 [p167.1] p167.2) [p170.1] p170.2)).bind fun p259 =>
  gV1 p259.1 fun x260 =>
  gI .i64 x260 fun i261 =>
  (loadN 3 (tidy (tidy (tidy h135 [p167.1] p167.2) [p170.1] p170.2) [p259.1] p259.2) (pv h129.n 0)).bind fun c262 =>
  (c262[0]?).bind fun x263 =>
  gI .i64 x263 fun i264 =>
  (c262[1]?).bind fun x265 =>
  (c262[2]?).bind fun x266 =>
  if c262.length = 3 then
  (frzVs (tidy (tidy (tidy h135 [p167.1] p167.2) [p170.1] p170.2) [p259.1] p259.2) [.agg [.int .i64 i264, x265, x266], iv .i64 1]).bind fun l267 =>
  pcallS (call Ev) Fn.laws_heldEditsResult (normVs [] l267) fun v268 =>
  gV1 v268 fun x269 =>
  gI .i64 x269 fun i270 =>
  vcase (bv (decide (i270 < 0)))
  (some (bv false))
  (vcase (bv (i270 != i261))
  (some (bv false))
  ((pureV (call Ev) Fn.laws_toByteSS [lv a0]).bind fun v273 =>
  gV1 v273 fun x274 =>
  gF x274 fun z275 =>
  (pureV (call Ev) Fn.laws_toEditS [lv a1]).bind fun v276 =>
  gV1 v276 fun x277 =>
  gF x277 fun z278 =>
  (pureV (call Ev) Fn.impl_ApplyEdits [lv z275, lv z278]).bind fun v279 =>
  gVA v279 fun c280 =>
  (c280[0]?).bind fun x281 =>
  gI .i64 x281 fun i282 =>
  (c280[1]?).bind fun x283 =>
  gF x283 fun z284 =>
  (c280[2]?).bind fun x285 =>
  gF x285 fun z286 =>
  if c280.length = 3 then
  stK 3 ((tidy (tidy (tidy h135 [p167.1] p167.2) [p170.1] p170.2) [p259.1] p259.2).new 0 [.int .i64 0, .sl none 0, .sl none 0]) (pv ((tidy (tidy (tidy h135 [p167.1] p167.2) [p170.1] p170.2) [p259.1] p259.2).n) 0) (.agg [.int .i64 i282, .fs z284, .fs z286]) fun h287 =>
  (loadN 3 h287 (pv ((tidy (tidy (tidy h135 [p167.1] p167.2) [p170.1] p170.2) [p259.1] p259.2).n) 0)).bind fun c288 =>
  (c288[0]?).bind fun x289 =>
  gI .i64 x289 fun i290 =>
  (c288[1]?).bind fun x291 =>
  (c288[2]?).bind fun x292 =>
  if c288.length = 3 then
  (loadN 3 h287 (pv 0 0)).bind fun c293 =>
  (c293[0]?).bind fun x294 =>
  gI .i64 x294 fun i295 =>
  (c293[1]?).bind fun x296 =>
  (c293[2]?).bind fun x297 =>
  if c293.length = 3 then
  (frzVs h287 [.agg [.int .i64 i290, x291, x292], .agg [.int .i64 i295, x296, x297]]).bind fun l298 =>
  pcallS (call Ev) Fn.laws_eqEditsResult (normVs [] l298) fun v299 =>
  gV1 v299 fun x300 =>
  gB x300 fun q301 =>
  vcase (bv (!q301))
  (some (bv false))
  ((loadN 3 h287 (pv h129.n 0)).bind fun c303 =>
  (c303[0]?).bind fun x304 =>
  gI .i64 x304 fun i305 =>
  (c303[1]?).bind fun x306 =>
  (c303[2]?).bind fun x307 =>
  if c303.length = 3 then
  (frzVs h287 [.agg [.int .i64 i305, x306, x307], iv .i64 1]).bind fun l308 =>
  pcallS (call Ev) Fn.laws_heldEditsResult (normVs [] l308) fun v309 =>
  gV1 v309 fun x310 =>
  gI .i64 x310 fun i311 =>
  vcase (bv (decide (i311 < 0)))
  (some (bv false))
  (vcase (bv (i311 != i261))
  (some (bv false))
  (some (bv true)))
  else none)
  else none
  else none
  else none))
  else none
  else none)

theorem pu_laws_FnExactApplyEdits (a0 : List (List S)) (a1 : List (List S)) : pureV (call Ev) Fn.laws_FnExactApplyEdits [lv a0, lv a1] =
  pcallS (call Ev) Fn.laws_szByteSS [lv a0, iv .i64 1048576] fun v101 =>
  gV1 v101 fun x102 =>
  gI .i64 x102 fun i103 =>
  vcase (bv (decide (i103 < 0)))
  (some (bv true))
  (pcallS (call Ev) Fn.laws_szEditS [lv a1, iv .i64 i103] fun v105 =>
  gV1 v105 fun x106 =>
  gI .i64 x106 fun i107 =>
  vcase (bv (decide (i107 < 0)))
  (some (bv true))
  ((pureV (call Ev) Fn.laws_toByteSS [lv a0]).bind fun v109 =>
  gV1 v109 fun x110 =>
  gF x110 fun z111 =>
  (pureV (call Ev) Fn.laws_toEditS [lv a1]).bind fun v112 =>
  gV1 v112 fun x113 =>
  gF x113 fun z114 =>
  (pureV (call Ev) Fn.spec_ApplyEdits [lv z111, lv z114]).bind fun v115 =>
  gVA v115 fun c116 =>
  (c116[0]?).bind fun x117 =>
  gI .i64 x117 fun i118 =>
  (c116[1]?).bind fun x119 =>
  gF x119 fun z120 =>
  (c116[2]?).bind fun x121 =>
  gF x121 fun z122 =>
  if c116.length = 3 then
  pcallF (call Ev) Fn.laws_toByteSS true [lv a0] (((D 0).new 0 [.int .i64 0, .sl none 0, .sl none 0]).put 0 (.rw 0 [.int .i64 i118, .fs z120, .fs z122])) fun v123 h124 =>
  pcallF (call Ev) Fn.laws_toEditS true [lv a1] h124 fun v125 h126 =>
  (frzVs h126 [v123, v125]).bind fun l127 =>
  pcallF (call Ev) Fn.impl_ApplyEdits ([v123, v125].all offV) (normVs [] l127) h126 fun v128 h129 =>
  gVA v128 fun c130 =>
  (c130[0]?).bind fun x131 =>
  gI .i64 x131 fun i132 =>
  (c130[1]?).bind fun x133 =>
  (c130[2]?).bind fun x134 =>
  if c130.length = 3 then
  stK 3 (h129.new 0 [.int .i64 0, .sl none 0, .sl none 0]) (pv h129.n 0) (.agg [.int .i64 i132, x133, x134]) fun h135 =>
  (loadN 3 h135 (pv h129.n 0)).bind fun c136 =>
  (c136[0]?).bind fun x137 =>
  gI .i64 x137 fun i138 =>
  (c136[1]?).bind fun x139 =>
  (c136[2]?).bind fun x140 =>
  if c136.length = 3 then
  (loadN 3 h135 (pv 0 0)).bind fun c141 =>
  (c141[0]?).bind fun x142 =>
  gI .i64 x142 fun i143 =>
  (c141[1]?).bind fun x144 =>
  (c141[2]?).bind fun x145 =>
  if c141.length = 3 then
  (frzVs h135 [.agg [.int .i64 i138, x139, x140], .agg [.int .i64 i143, x144, x145]]).bind fun l146 =>
  pcallS (call Ev) Fn.laws_eqEditsResult (normVs [] l146) fun v147 =>
  gV1 v147 fun x148 =>
  gB x148 fun q149 =>
  vcase (bv (!q149))
  (some (bv false))
  ((pureV (call Ev) Fn.laws_toByteSS [lv a0]).bind fun v151 =>
  gV1 v151 fun x152 =>
  gF x152 fun z153 =>
  (frzVs h135 [v123, lv z153]).bind fun l154 =>
  pcallS (call Ev) Fn.laws_eqByteSS (normVs [] l154) fun v155 =>
  gV1 v155 fun x156 =>
  gB x156 fun q157 =>
  vcase (bv (!q157))
  (some (bv false))
  ((pureV (call Ev) Fn.laws_toEditS [lv a1]).bind fun v159 =>
  gV1 v159 fun x160 =>
  gF x160 fun z161 =>
  (frzVs h135 [v125, lv z161]).bind fun l162 =>
  pcallS (call Ev) Fn.laws_eqEditS (normVs [] l162) fun v163 =>
  gV1 v163 fun x164 =>
  gB x164 fun q165 =>
  vcase (bv (!q165))
  (some (bv false))
  ((call Ev Fn.laws_markByteSS [v123, iv .i64 1] h135).bind fun p167 =>
  gV1 p167.1 fun x168 =>
  gI .i64 x168 fun i169 =>
  (call Ev Fn.laws_markEditS [v125, iv .i64 i169] (tidy h135 [p167.1] p167.2)).bind fun p170 =>
  gV1 p170.1 fun x171 =>
  gI .i64 x171 fun i172 =>
  vcase (bv (decide (i172 < 0)))
  (Jn.laws_FnExactApplyEdits_0 true h135 p167 p170 h129 a0 a1)
  ((loadN 3 (tidy (tidy h135 [p167.1] p167.2) [p170.1] p170.2) (pv h129.n 0)).bind fun c175 =>
  (c175[0]?).bind fun x176 =>
  gI .i64 x176 fun i177 =>
  (c175[1]?).bind fun x178 =>
  (c175[2]?).bind fun x179 =>
  if c175.length = 3 then
  (loadN 3 (tidy (tidy h135 [p167.1] p167.2) [p170.1] p170.2) (pv 0 0)).bind fun c180 =>
  (c180[0]?).bind fun x181 =>
  gI .i64 x181 fun i182 =>
  (c180[1]?).bind fun x183 =>
  (c180[2]?).bind fun x184 =>
  if c180.length = 3 then
  (frzVs (tidy (tidy h135 [p167.1] p167.2) [p170.1] p170.2) [.agg [.int .i64 i177, x178, x179], .agg [.int .i64 i182, x183, x184]]).bind fun l185 =>
  pcallS (call Ev) Fn.laws_eqEditsResult (normVs [] l185) fun v186 =>
  gV1 v186 fun x187 =>
  gB x187 fun q188 =>
  Jn.laws_FnExactApplyEdits_0 (!q188) h135 p167 p170 h129 a0 a1
  else none
  else none))))
  else none
  else none
  else none
  else none)) := by
  rw [pure_eq]; kernel_rfl

theorem pu_laws_lwBig (a0 : List (List S)) : pureV (call Ev) Fn.laws_lwBig [lv a0] =
  some (bv (decide ((a0.length : Int) > 1048576))) := by
  rw [pure_eq]; kernel_rfl

theorem eq_spec_l1Source (a0 : List (List S)) (n : Nat) : call Ev Fn.spec_l1Source [lv a0] (D n) =
  some (pv ((D n).n) 0, (D n).new 0 [.fs a0, .int .i64 0]) := by
  rw [call_eq]; kernel_rfl

theorem eq_spec_l1Next (a0_b a0_o : Nat) (a1 : Int) (h : H) : call Ev Fn.spec_l1Next [pv a0_b a0_o, iv .i64 a1] h =
  (load1 h (pv a0_b (a0_o + 1))).bind fun x101 =>
  gI .i64 x101 fun i102 =>
  stK 1 h (pv a0_b (a0_o + 1)) (iv .i64 (IntKind.i64.wrap (i102 + 1))) fun h103 =>
  vcase (bv (decide (a1 < 1)))
  (some (iv .i64 0, h103))
  ((load1 h103 (pv a0_b (a0_o + 1))).bind fun x105 =>
  gI .i64 x105 fun i106 =>
  (load1 h103 (pv a0_b (a0_o + 0))).bind fun x107 =>
  (lenV (.sl 5) (.s x107)).bind fun v108 =>
  gV1 v108 fun x109 =>
  gI .i64 x109 fun i110 =>
  vcase (bv (i110 == 0))
  ((bin Ev .rem 2 (iv .i64 (IntKind.i64.wrap ((IntKind.i64.wrap (i106 - 1)) * 7))) (iv .i64 a1)).bind fun b112 =>
  gV1 b112 fun x113 =>
  gI .i64 x113 fun i114 =>
  some (iv .i64 i114, h103))
  ((load1 h103 (pv a0_b (a0_o + 0))).bind fun x115 =>
  (bin Ev .rem 2 (iv .i64 (IntKind.i64.wrap (i106 - 1))) (iv .i64 i110)).bind fun b116 =>
  gV1 b116 fun x117 =>
  gI .i64 x117 fun i118 =>
  idxK 1 (.s x115) (iv .i64 i118) fun v119 =>
  ldK (.one (.i .u8)) ⟨1, 1, [.int .u8 0], false, .int .u8, false⟩ h103 v119 fun v120 =>
  gV1 v120 fun x121 =>
  gI .u8 x121 fun i122 =>
  (bin Ev .quo 2 (iv .i64 (IntKind.i64.wrap (i106 - 1))) (iv .i64 i110)).bind fun b123 =>
  gV1 b123 fun x124 =>
  gI .i64 x124 fun i125 =>
  vcase (bv (decide (a1 > 200)))
  ((load1 h103 (pv a0_b (a0_o + 0))).bind fun x127 =>
  (bin Ev .rem 2 (iv .i64 (IntKind.i64.wrap ((IntKind.i64.wrap (i106 - 1)) + 1))) (iv .i64 i110)).bind fun b128 =>
  gV1 b128 fun x129 =>
  gI .i64 x129 fun i130 =>
  idxK 1 (.s x127) (iv .i64 i130) fun v131 =>
  ldK (.one (.i .u8)) ⟨1, 1, [.int .u8 0], false, .int .u8, false⟩ h103 v131 fun v132 =>
  gV1 v132 fun x133 =>
  gI .u8 x133 fun i134 =>
  (bin Ev .rem 2 (iv .i64 (IntKind.i64.wrap ((IntKind.i64.wrap ((IntKind.i64.wrap ((IntKind.i64.wrap ((IntKind.i64.wrap i122) + (IntKind.i64.wrap (i125 * 37)))) * 251)) + (IntKind.i64.wrap ((IntKind.i64.wrap i134) * 13)))) + (IntKind.i64.wrap (i106 - 1))))) (iv .i64 a1)).bind fun b135 =>
  gV1 b135 fun x136 =>
  gI .i64 x136 fun i137 =>
  some (iv .i64 i137, h103))
  ((bin Ev .rem 2 (iv .i64 (IntKind.i64.wrap ((IntKind.i64.wrap i122) + (IntKind.i64.wrap (i125 * 37))))) (iv .i64 a1)).bind fun b138 =>
  gV1 b138 fun x139 =>
  gI .i64 x139 fun i140 =>
  some (iv .i64 i140, h103)))) := by
  rw [call_eq]; kernel_rfl

theorem eq_spec_l1Chance (a0_b a0_o : Nat) (a1 : Int) (h : H) : call Ev Fn.spec_l1Chance [pv a0_b a0_o, iv .i64 a1] h =
  (call Ev Fn.spec_l1Next [pv a0_b a0_o, iv .i64 a1] h).bind fun p101 =>
  gV1 p101.1 fun x102 =>
  gI .i64 x102 fun i103 =>
  some (bv (i103 == 0), tidy h [p101.1] p101.2) := by
  rw [call_eq]; kernel_rfl

theorem eq_spec_l1Pick (a0_b a0_o : Nat) (a1 : V) (h : H) : call Ev Fn.spec_l1Pick [pv a0_b a0_o, a1] h =
  (lenV (.sl 2) a1).bind fun v101 =>
  gV1 v101 fun x102 =>
  gI .i64 x102 fun i103 =>
  (call Ev Fn.spec_l1Next [pv a0_b a0_o, iv .i64 i103] h).bind fun p104 =>
  gV1 p104.1 fun x105 =>
  gI .i64 x105 fun i106 =>
  idxK 1 a1 (iv .i64 i106) fun v107 =>
  ldK (.one (.i .i64)) ⟨1, 8, [.int .i64 0], false, .int .i64, false⟩ (tidy h [p104.1] p104.2) v107 fun v108 =>
  gV1 v108 fun x109 =>
  gI .i64 x109 fun i110 =>
  some (iv .i64 i110, tidy h [p104.1] p104.2) := by
  rw [call_eq]; kernel_rfl

theorem eq_spec_l1Some (a0_b a0_o : Nat) (a1 : Int) (h : H) : call Ev Fn.spec_l1Some [pv a0_b a0_o, iv .i64 a1] h =
  (Lp.spec_l1Some 0 [pv a0_b a0_o, iv .i64 a1, sv h.n 0 0] (h.new 1 [])).bind fun o101 => lcase o101 (fun l102 h103 =>
  (l102[0]?).bind fun w106 =>
  some (w106, h103)) (fun v104 h105 =>
  some (v104, h105)) := by
  rw [call_eq]; kernel_rfl

theorem eq_spec_l1Some_l0 (s0 : V) (s1 : Int) (s5 : V) (h : H) : Lp.spec_l1Some 0 [s0, iv .i64 s1, s5] h =
  vcase (bv (decide (s1 > 0)))
  ((call Ev Fn.spec_l1Next [s0, iv .i64 256] h).bind fun p203 =>
  gV1 p203.1 fun x204 =>
  gI .i64 x204 fun i205 =>
  (appS 1 ((tidy h [p203.1] p203.2).new 1 [.int .u8 (IntKind.u8.wrap i205)]) s5 (sv ((tidy h [p203.1] p203.2).n) 0 1)).bind fun p206 =>
  Lp.spec_l1Some 0 [s0, iv .i64 (IntKind.i64.wrap (s1 - 1)), p206.1] (tidy h [s0, iv .i64 (IntKind.i64.wrap (s1 - 1)), p206.1] p206.2))
  (some (.done [s5] (tidy h [s5] h))) := by
  unfold Lp.spec_l1Some; rw [loop_eq]; kernel_rfl

theorem pu_spec_l2New (a0 : Int) : pureV (call Ev) Fn.spec_l2New [iv .u8 a0] =
  (mkSl 1 [.int .u8 0] (D 0) (iv .i64 64) (iv .i64 64)).bind fun p101 =>
  (Lp.spec_l2New 0 [iv .u8 a0, p101.1, iv .i64 0] p101.2).bind fun o102 => lcase o102 (fun l103 h104 =>
  (l103[0]?).bind fun w107 =>
  idxK 1 w107 (iv .i64 0) fun v108 =>
  stK 1 h104 v108 (iv .u8 0) fun h109 =>
  idxK 1 w107 (iv .i64 1) fun v110 =>
  stK 1 h109 v110 (iv .u8 64) fun h111 =>
  frzV h111 w107) (fun v105 h106 =>
  frzV h106 v105) := by
  rw [pure_eq]; kernel_rfl

theorem eq_spec_l2New_l0 (s0 : Int) (s3 : V) (s4 : Int) (h : H) : Lp.spec_l2New 0 [iv .u8 s0, s3, iv .i64 s4] h =
  vcase (bv (decide (s4 < 64)))
  (idxK 1 s3 (iv .i64 s4) fun v203 =>
  stK 1 h v203 (iv .u8 s0) fun h204 =>
  Lp.spec_l2New 0 [iv .u8 s0, s3, iv .i64 (IntKind.i64.wrap (s4 + 1))] (tidy h [iv .u8 s0, s3, iv .i64 (IntKind.i64.wrap (s4 + 1))] h204))
  (some (.done [s3] (tidy h [s3] h))) := by
  unfold Lp.spec_l2New; rw [loop_eq]; kernel_rfl

theorem pu_spec_l2Count (a0 : List (List S)) : pureV (call Ev) Fn.spec_l2Count [lv a0] =
  idxF 1 a0 0 fun r101 =>
  (r101[0]?).bind fun x102 =>
  gI .u8 x102 fun i103 =>
  some (iv .i64 (IntKind.i64.wrap i103)) := by
  rw [pure_eq]; kernel_rfl

theorem pu_spec_l2Size (a0 : List (List S)) (a1 : Int) : pureV (call Ev) Fn.spec_l2Size [lv a0, iv .i64 a1] =
  idxF 1 a0 (IntKind.i64.wrap (3 + (IntKind.i64.wrap (2 * a1)))) fun r101 =>
  (r101[0]?).bind fun x102 =>
  gI .u8 x102 fun i103 =>
  some (iv .i64 (IntKind.i64.wrap i103)) := by
  rw [pure_eq]; kernel_rfl

theorem pu_spec_l2Has (a0 : List (List S)) (a1 : Int) : pureV (call Ev) Fn.spec_l2Has [lv a0, iv .i64 a1] =
  pcallS (call Ev) Fn.spec_l2Count [lv a0] fun v101 =>
  gV1 v101 fun x102 =>
  gI .i64 x102 fun i103 =>
  pcallS (call Ev) Fn.spec_l1In [iv .i64 a1, iv .i64 0, iv .i64 (IntKind.i64.wrap (i103 - 1))] fun v104 =>
  gV1 v104 fun x105 =>
  gB x105 fun q106 =>
  vcase (bv q106)
  (pcallS (call Ev) Fn.spec_l2Size [lv a0, iv .i64 a1] fun v108 =>
  gV1 v108 fun x109 =>
  gI .i64 x109 fun i110 =>
  some (bv (decide (i110 > 0))))
  (some (bv false)) := by
  rw [pure_eq]; kernel_rfl

theorem pu_spec_l2Drop (a0 : List (List S)) (a1 : Int) : pureV (call Ev) Fn.spec_l2Drop [lv a0, iv .i64 a1] =
  pcallF (call Ev) Fn.spec_l2Copy true [lv a0] (D 0) fun v101 h102 =>
  idxK 1 v101 (iv .i64 (IntKind.i64.wrap (2 + (IntKind.i64.wrap (2 * a1))))) fun v103 =>
  stK 1 h102 v103 (iv .u8 0) fun h104 =>
  idxK 1 v101 (iv .i64 (IntKind.i64.wrap (3 + (IntKind.i64.wrap (2 * a1))))) fun v105 =>
  stK 1 h104 v105 (iv .u8 0) fun h106 =>
  (Lp.spec_l2Drop 0 [v101] h106).bind fun o107 => lcase o107 (fun l108 h109 =>
  (l108[0]?).bind fun w112 =>
  frzV h109 w112) (fun v110 h111 =>
  frzV h111 v110) := by
  rw [pure_eq]; kernel_rfl

theorem eq_spec_l2Drop_l0 (s5 : V) (h : H) : Lp.spec_l2Drop 0 [s5] h =
  idxK 1 s5 (iv .i64 0) fun v201 =>
  ldK (.one (.i .u8)) ⟨1, 1, [.int .u8 0], false, .int .u8, false⟩ h v201 fun v202 =>
  gV1 v202 fun x203 =>
  gI .u8 x203 fun i204 =>
  vcase (bv (decide (i204 > 0)))
  (idxK 1 s5 (iv .i64 0) fun v206 =>
  ldK (.one (.i .u8)) ⟨1, 1, [.int .u8 0], false, .int .u8, false⟩ h v206 fun v207 =>
  gV1 v207 fun x208 =>
  gI .u8 x208 fun i209 =>
  (frzVs h [s5, iv .i64 (IntKind.i64.wrap ((IntKind.i64.wrap i209) - 1))]).bind fun l210 =>
  pcallS (call Ev) Fn.spec_l2Size (normVs [] l210) fun v211 =>
  gV1 v211 fun x212 =>
  gI .i64 x212 fun i213 =>
  vcase (bv (i213 == 0))
  (idxK 1 s5 (iv .i64 0) fun v218 =>
  ldK (.one (.i .u8)) ⟨1, 1, [.int .u8 0], false, .int .u8, false⟩ h v218 fun v219 =>
  gV1 v219 fun x220 =>
  gI .u8 x220 fun i221 =>
  idxK 1 s5 (iv .i64 0) fun v222 =>
  stK 1 h v222 (iv .u8 (IntKind.u8.wrap (i221 - 1))) fun h223 =>
  Lp.spec_l2Drop 0 [s5] (tidy h [s5] h223))
  (some (.done [s5] (tidy h [s5] h))))
  (some (.done [s5] (tidy h [s5] h))) := by
  unfold Lp.spec_l2Drop; rw [loop_eq]; kernel_rfl

end Vm
