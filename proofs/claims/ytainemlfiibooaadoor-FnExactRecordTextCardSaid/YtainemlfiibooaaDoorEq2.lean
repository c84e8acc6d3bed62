/-
  What each function, and each round of each loop, comes to in the small machine. Written by a program (gen3.py).
-/
import Derived.Test.YtainemlfiibooaaDoorEnv
set_option linter.unusedVariables false
set_option maxRecDepth 100000
namespace Vm
open Go

theorem eq_spec_l2Right (a0_b a0_o : Nat) (h : H) : call Ev Fn.spec_l2Right [pv a0_b a0_o] h =
  (call Ev Fn.spec_l1Pick [pv a0_b a0_o, sv h.n 0 3] (h.new 1 [.int .i64 0, .int .i64 0, .int .i64 7])).bind fun p101 =>
  gV1 p101.1 fun x102 =>
  gI .i64 x102 fun i103 =>
  pcallF (call Ev) Fn.spec_l2New true [iv .u8 (IntKind.u8.wrap i103)] (tidy (h.new 1 [.int .i64 0, .int .i64 0, .int .i64 7]) [p101.1] p101.2) fun v104 h105 =>
  (call Ev Fn.spec_l1Next [pv a0_b a0_o, iv .i64 14] h105).bind fun p106 =>
  gV1 p106.1 fun x107 =>
  gI .i64 x107 fun i108 =>
  (Lp.spec_l2Right 0 [pv a0_b a0_o, v104, iv .i64 i108] (tidy h105 [p106.1] p106.2)).bind fun o109 => lcase o109 (fun l110 h111 =>
  (l110[0]?).bind fun w114 =>
  some (w114, h111)) (fun v112 h113 =>
  some (v112, h113)) := by
  rw [call_eq]; kernel_rfl

theorem eq_spec_l2Right_l0 (s0 : V) (s3 : V) (s4 : Int) (h : H) : Lp.spec_l2Right 0 [s0, s3, iv .i64 s4] h =
  vcase (bv (decide (s4 > 0)))
  ((call Ev Fn.spec_l1Next [s0, iv .i64 14] h).bind fun p203 =>
  gV1 p203.1 fun x204 =>
  gI .i64 x204 fun i205 =>
  (call Ev Fn.spec_l1Some [s0, iv .i64 (IntKind.i64.wrap (1 + i205))] (tidy h [p203.1] p203.2)).bind fun p206 =>
  (call Ev Fn.spec_l1Next [s0, iv .i64 5] (tidy (tidy h [p203.1] p203.2) [p206.1] p206.2)).bind fun p207 =>
  gV1 p207.1 fun x208 =>
  gI .i64 x208 fun i209 =>
  vcase (bv (i209 == 0))
  ((call Ev Fn.spec_l1Next [s0, iv .i64 6] (tidy (tidy (tidy h [p203.1] p203.2) [p206.1] p206.2) [p207.1] p207.2)).bind fun p212 =>
  gV1 p212.1 fun x213 =>
  gI .i64 x213 fun i214 =>
  (frzVs (tidy (tidy (tidy (tidy h [p203.1] p203.2) [p206.1] p206.2) [p207.1] p207.2) [p212.1] p212.2) [s3, iv .i64 i214]).bind fun l215 =>
  pcallS (call Ev) Fn.spec_l2Has (normVs [] l215) fun v216 =>
  gV1 v216 fun x217 =>
  gB x217 fun q218 =>
  vcase (bv q218)
  ((frzVs (tidy (tidy (tidy (tidy h [p203.1] p203.2) [p206.1] p206.2) [p207.1] p207.2) [p212.1] p212.2) [s3, iv .i64 i214]).bind fun l220 =>
  pcallF (call Ev) Fn.spec_l2Drop ([s3, iv .i64 i214].all offV) (normVs [] l220) (tidy (tidy (tidy (tidy h [p203.1] p203.2) [p206.1] p206.2) [p207.1] p207.2) [p212.1] p212.2) fun v221 h222 =>
  Lp.spec_l2Right 0 [s0, v221, iv .i64 (IntKind.i64.wrap (s4 - 1))] (tidy h [s0, v221, iv .i64 (IntKind.i64.wrap (s4 - 1))] h222))
  (Lp.spec_l2Right 0 [s0, s3, iv .i64 (IntKind.i64.wrap (s4 - 1))] (tidy h [s0, s3, iv .i64 (IntKind.i64.wrap (s4 - 1))] (tidy (tidy (tidy (tidy h [p203.1] p203.2) [p206.1] p206.2) [p207.1] p207.2) [p212.1] p212.2))))
  (vcase (bv (i209 == 1))
  ((call Ev Fn.spec_l1Next [s0, iv .i64 6] (tidy (tidy (tidy h [p203.1] p203.2) [p206.1] p206.2) [p207.1] p207.2)).bind fun p224 =>
  gV1 p224.1 fun x225 =>
  gI .i64 x225 fun i226 =>
  (frzVs (tidy (tidy (tidy (tidy h [p203.1] p203.2) [p206.1] p206.2) [p207.1] p207.2) [p224.1] p224.2) [s3, iv .i64 i226]).bind fun l227 =>
  pcallS (call Ev) Fn.spec_l2Has (normVs [] l227) fun v228 =>
  gV1 v228 fun x229 =>
  gB x229 fun q230 =>
  vcase (bv q230)
  ((frzVs (tidy (tidy (tidy (tidy h [p203.1] p203.2) [p206.1] p206.2) [p207.1] p207.2) [p224.1] p224.2) [s3, iv .i64 i226, p206.1]).bind fun l232 =>
  pcallF (call Ev) Fn.spec_l2Set ([s3, iv .i64 i226, p206.1].all offV) (normVs [] l232) (tidy (tidy (tidy (tidy h [p203.1] p203.2) [p206.1] p206.2) [p207.1] p207.2) [p224.1] p224.2) fun v233 h234 =>
  gVT v233 fun u235 =>
  (u235[0]?).bind fun t236 =>
  gA1 t236 fun x237 =>
  (u235[1]?).bind fun t238 =>
  gA1 t238 fun x239 =>
  gI .i64 x239 fun i240 =>
  if u235.length = 2 then
  vcase (bv (i240 == 0))
  (Lp.spec_l2Right 0 [s0, .s x237, iv .i64 (IntKind.i64.wrap (s4 - 1))] (tidy h [s0, .s x237, iv .i64 (IntKind.i64.wrap (s4 - 1))] h234))
  (Lp.spec_l2Right 0 [s0, s3, iv .i64 (IntKind.i64.wrap (s4 - 1))] (tidy h [s0, s3, iv .i64 (IntKind.i64.wrap (s4 - 1))] h234))
  else none)
  (Lp.spec_l2Right 0 [s0, s3, iv .i64 (IntKind.i64.wrap (s4 - 1))] (tidy h [s0, s3, iv .i64 (IntKind.i64.wrap (s4 - 1))] (tidy (tidy (tidy (tidy h [p203.1] p203.2) [p206.1] p206.2) [p207.1] p207.2) [p224.1] p224.2))))
  (vcase (bv (i209 == 2))
  ((call Ev Fn.spec_l1Chance [s0, iv .i64 3] (tidy (tidy (tidy h [p203.1] p203.2) [p206.1] p206.2) [p207.1] p207.2)).bind fun p243 =>
  gV1 p243.1 fun x244 =>
  gB x244 fun q245 =>
  vcase (bv q245)
  ((frzVs (tidy (tidy (tidy (tidy h [p203.1] p203.2) [p206.1] p206.2) [p207.1] p207.2) [p243.1] p243.2) [s3]).bind fun l247 =>
  pcallF (call Ev) Fn.spec_l2Compact ([s3].all offV) (normVs [] l247) (tidy (tidy (tidy (tidy h [p203.1] p203.2) [p206.1] p206.2) [p207.1] p207.2) [p243.1] p243.2) fun v248 h249 =>
  Lp.spec_l2Right 0 [s0, v248, iv .i64 (IntKind.i64.wrap (s4 - 1))] (tidy h [s0, v248, iv .i64 (IntKind.i64.wrap (s4 - 1))] h249))
  (Lp.spec_l2Right 0 [s0, s3, iv .i64 (IntKind.i64.wrap (s4 - 1))] (tidy h [s0, s3, iv .i64 (IntKind.i64.wrap (s4 - 1))] (tidy (tidy (tidy (tidy h [p203.1] p203.2) [p206.1] p206.2) [p207.1] p207.2) [p243.1] p243.2))))
  ((frzVs (tidy (tidy (tidy h [p203.1] p203.2) [p206.1] p206.2) [p207.1] p207.2) [s3, p206.1]).bind fun l250 =>
  pcallF (call Ev) Fn.spec_l2Put ([s3, p206.1].all offV) (normVs [] l250) (tidy (tidy (tidy h [p203.1] p203.2) [p206.1] p206.2) [p207.1] p207.2) fun v251 h252 =>
  gVT v251 fun u253 =>
  (u253[0]?).bind fun t254 =>
  gA1 t254 fun x255 =>
  (u253[1]?).bind fun t256 =>
  gA1 t256 fun x257 =>
  gI .i64 x257 fun i258 =>
  (u253[2]?).bind fun t259 =>
  gA1 t259 fun x260 =>
  gI .i64 x260 fun i261 =>
  if u253.length = 3 then
  vcase (bv (i261 == 0))
  (Lp.spec_l2Right 0 [s0, .s x255, iv .i64 (IntKind.i64.wrap (s4 - 1))] (tidy h [s0, .s x255, iv .i64 (IntKind.i64.wrap (s4 - 1))] h252))
  (Lp.spec_l2Right 0 [s0, s3, iv .i64 (IntKind.i64.wrap (s4 - 1))] (tidy h [s0, s3, iv .i64 (IntKind.i64.wrap (s4 - 1))] h252))
  else none))))
  (some (.done [s3] (tidy h [s3] h))) := by
  unfold Lp.spec_l2Right; rw [loop_eq]; kernel_rfl

theorem eq_spec_l3Two (a0_b a0_o : Nat) (h : H) : call Ev Fn.spec_l3Two [pv a0_b a0_o] h =
  (call Ev Fn.spec_l2Right [pv a0_b a0_o] h).bind fun p101 =>
  (frzVs (tidy h [p101.1] p101.2) [p101.1]).bind fun l102 =>
  pcallF (call Ev) Fn.spec_l2Copy ([p101.1].all offV) (normVs [] l102) (tidy h [p101.1] p101.2) fun v103 h104 =>
  (call Ev Fn.spec_l1Next [pv a0_b a0_o, iv .i64 9] h104).bind fun p105 =>
  gV1 p105.1 fun x106 =>
  gI .i64 x106 fun i107 =>
  (Lp.spec_l3Two 0 [pv a0_b a0_o, p101.1, v103, iv .i64 i107] (tidy h104 [p105.1] p105.2)).bind fun o108 => lcase o108 (fun l109 h110 =>
  (l109[0]?).bind fun w113 =>
  (l109[1]?).bind fun w114 =>
  (V.toA w113).bind fun t115 =>
  (V.toA w114).bind fun t116 =>
  some (.tup [t115, t116], h110)) (fun v111 h112 =>
  some (v111, h112)) := by
  rw [call_eq]; kernel_rfl

theorem eq_spec_l3Two_l0 (s0 : V) (s4 : V) (s5 : V) (s6 : Int) (h : H) : Lp.spec_l3Two 0 [s0, s4, s5, iv .i64 s6] h =
  vcase (bv (decide (s6 > 0)))
  ((call Ev Fn.spec_l1Next [s0, iv .i64 64] h).bind fun p203 =>
  gV1 p203.1 fun x204 =>
  gI .i64 x204 fun i205 =>
  (call Ev Fn.spec_l1Next [s0, iv .i64 256] (tidy h [p203.1] p203.2)).bind fun p206 =>
  gV1 p206.1 fun x207 =>
  gI .i64 x207 fun i208 =>
  idxK 1 s5 (iv .i64 i205) fun v209 =>
  stK 1 (tidy (tidy h [p203.1] p203.2) [p206.1] p206.2) v209 (iv .u8 (IntKind.u8.wrap i208)) fun h210 =>
  Lp.spec_l3Two 0 [s0, s4, s5, iv .i64 (IntKind.i64.wrap (s6 - 1))] (tidy h [s0, s4, s5, iv .i64 (IntKind.i64.wrap (s6 - 1))] h210))
  (some (.done [s4, s5] (tidy h [s4, s5] h))) := by
  unfold Lp.spec_l3Two; rw [loop_eq]; kernel_rfl

theorem eq_spec_l3Diff (a0 : List (List S)) (a1 : List (List S)) (n : Nat) : call Ev Fn.spec_l3Diff [lv a0, lv a1] (D n) =
  (Lp.spec_l3Diff 0 [lv a0, lv a1, sv ((D n).n) 0 0, bv false, iv .i64 0] ((D n).new 2 [])).bind fun o101 => lcase o101 (fun l102 h103 =>
  (l102[0]?).bind fun w106 =>
  some (w106, h103)) (fun v104 h105 =>
  some (v104, h105)) := by
  rw [call_eq]; kernel_rfl

theorem eq_spec_l3Diff_l0 (s0 : List (List S)) (s1 : List (List S)) (s5 : V) (s6 : Bool) (s7 : Int) (h : H) : Lp.spec_l3Diff 0 [lv s0, lv s1, s5, bv s6, iv .i64 s7] h =
  vcase (bv (decide (s7 < (s0.length : Int))))
  (idxF 1 s0 s7 fun r203 =>
  (r203[0]?).bind fun x204 =>
  gI .u8 x204 fun i205 =>
  idxF 1 s1 s7 fun r206 =>
  (r206[0]?).bind fun x207 =>
  gI .u8 x207 fun i208 =>
  vcase (bv (i205 == i208))
  (Lp.spec_l3Diff 0 [lv s0, lv s1, s5, bv false, iv .i64 (IntKind.i64.wrap (s7 + 1))] (tidy h [lv s0, lv s1, s5, bv false, iv .i64 (IntKind.i64.wrap (s7 + 1))] h))
  (vcase (bv (!s6))
  ((appS 2 (h.new 2 [.int .i64 s7, .sl none 0]) s5 (sv h.n 0 1)).bind fun p211 =>
  (lenV (.sl 58) p211.1).bind fun v212 =>
  gV1 v212 fun x213 =>
  gI .i64 x213 fun i214 =>
  idxK 2 p211.1 (iv .i64 (IntKind.i64.wrap (i214 - 1))) fun v215 =>
  (notNil v215).bind fun v216 =>
  (padd 1 v216).bind fun v217 =>
  ldK (.one (.f)) ⟨1, 24, [.sl none 0], false, .sl 5, false⟩ p211.2 v217 fun v218 =>
  idxF 1 s1 s7 fun r219 =>
  (r219[0]?).bind fun x220 =>
  gI .u8 x220 fun i221 =>
  hchk p211.2 (p211.2.new 1 [.int .u8 i221]) (
  (appS 1 (p211.2.new 1 [.int .u8 i221]) v218 (sv p211.2.n 0 1)).bind fun p222 =>
  (notNil v215).bind fun v223 =>
  (padd 1 v223).bind fun v224 =>
  stK 1 p222.2 v224 p222.1 fun h225 =>
  Lp.spec_l3Diff 0 [lv s0, lv s1, p211.1, bv true, iv .i64 (IntKind.i64.wrap (s7 + 1))] (tidy h [lv s0, lv s1, p211.1, bv true, iv .i64 (IntKind.i64.wrap (s7 + 1))] h225)))
  ((lenV (.sl 58) s5).bind fun v226 =>
  gV1 v226 fun x227 =>
  gI .i64 x227 fun i228 =>
  idxK 2 s5 (iv .i64 (IntKind.i64.wrap (i228 - 1))) fun v229 =>
  (notNil v229).bind fun v230 =>
  (padd 1 v230).bind fun v231 =>
  ldK (.one (.f)) ⟨1, 24, [.sl none 0], false, .sl 5, false⟩ h v231 fun v232 =>
  idxF 1 s1 s7 fun r233 =>
  (r233[0]?).bind fun x234 =>
  gI .u8 x234 fun i235 =>
  hchk h (h.new 1 [.int .u8 i235]) (
  (appS 1 (h.new 1 [.int .u8 i235]) v232 (sv h.n 0 1)).bind fun p236 =>
  (notNil v229).bind fun v237 =>
  (padd 1 v237).bind fun v238 =>
  stK 1 p236.2 v238 p236.1 fun h239 =>
  Lp.spec_l3Diff 0 [lv s0, lv s1, s5, bv true, iv .i64 (IntKind.i64.wrap (s7 + 1))] (tidy h [lv s0, lv s1, s5, bv true, iv .i64 (IntKind.i64.wrap (s7 + 1))] h239)))))
  (some (.done [s5] (tidy h [s5] h))) := by
  unfold Lp.spec_l3Diff; rw [loop_eq]; kernel_rfl

noncomputable def Jn.spec_l4Draw_0 (h176 : H) (h : H) (p101 : V × H) (p104 : V × H) : Option (V × H) :=
  (load1 h176 (pv ((tidy (tidy ((h.new 0 [.int .i64 0, .int .i64 0, .int .i64 0, .sl none 0]).new 1 [.int .i64 1, .int .i64 2, .int .i64 2, .int .i64 3, .int .i64 4, .int .i64 5, .int .i64 6]) [p101.1] p101.2) [p104.1] p104.2).n) 3)).bind fun x177 =>
  (lenV (.sl 58) (.s x177)).bind fun v178 =>
  gV1 v178 fun x179 =>
  gI .i64 x179 fun i180 =>
  vcase (bv (i180 == 0))
  (stK 1 ((h176.new 1 [.int .u8 1]).new 2 [.int .i64 3, .sl (some (h176.n, 0)) 1]) (pv ((tidy (tidy ((h.new 0 [.int .i64 0, .int .i64 0, .int .i64 0, .sl none 0]).new 1 [.int .i64 1, .int .i64 2, .int .i64 2, .int .i64 3, .int .i64 4, .int .i64 5, .int .i64 6]) [p101.1] p101.2) [p104.1] p104.2).n) 3) (sv ((h176.new 1 [.int .u8 1]).n) 0 1) fun h182 =>
  (loadN 4 h182 (pv ((tidy (tidy ((h.new 0 [.int .i64 0, .int .i64 0, .int .i64 0, .sl none 0]).new 1 [.int .i64 1, .int .i64 2, .int .i64 2, .int .i64 3, .int .i64 4, .int .i64 5, .int .i64 6]) [p101.1] p101.2) [p104.1] p104.2).n) 0)).bind fun c183 =>
  (c183[0]?).bind fun x184 =>
  gI .i64 x184 fun i185 =>
  (c183[1]?).bind fun x186 =>
  gI .i64 x186 fun i187 =>
  (c183[2]?).bind fun x188 =>
  gI .i64 x188 fun i189 =>
  (c183[3]?).bind fun x190 =>
  if c183.length = 4 then
  stK 4 h182 (pv h.n 0) (.agg [.int .i64 i185, .int .i64 i187, .int .i64 i189, x190]) fun h191 =>
  (loadN 4 h191 (pv h.n 0)).bind fun c192 =>
  some (.agg c192, h191)
  else none)
  ((loadN 4 h176 (pv ((tidy (tidy ((h.new 0 [.int .i64 0, .int .i64 0, .int .i64 0, .sl none 0]).new 1 [.int .i64 1, .int .i64 2, .int .i64 2, .int .i64 3, .int .i64 4, .int .i64 5, .int .i64 6]) [p101.1] p101.2) [p104.1] p104.2).n) 0)).bind fun c193 =>
  (c193[0]?).bind fun x194 =>
  gI .i64 x194 fun i195 =>
  (c193[1]?).bind fun x196 =>
  gI .i64 x196 fun i197 =>
  (c193[2]?).bind fun x198 =>
  gI .i64 x198 fun i199 =>
  (c193[3]?).bind fun x200 =>
  if c193.length = 4 then
  stK 4 h176 (pv h.n 0) (.agg [.int .i64 i195, .int .i64 i197, .int .i64 i199, x200]) fun h201 =>
  (loadN 4 h201 (pv h.n 0)).bind fun c202 =>
  some (.agg c202, h201)
  else none)

theorem eq_spec_l4Draw (a0_b a0_o : Nat) (h : H) : call Ev Fn.spec_l4Draw [pv a0_b a0_o] h =
  (call Ev Fn.spec_l1Pick [pv a0_b a0_o, sv ((h.new 0 [.int .i64 0, .int .i64 0, .int .i64 0, .sl none 0]).n) 0 7] ((h.new 0 [.int .i64 0, .int .i64 0, .int .i64 0, .sl none 0]).new 1 [.int .i64 1, .int .i64 2, .int .i64 2, .int .i64 3, .int .i64 4, .int .i64 5, .int .i64 6])).bind fun p101 =>
  gV1 p101.1 fun x102 =>
  gI .i64 x102 fun i103 =>
  (call Ev Fn.spec_l1Next [pv a0_b a0_o, iv .i64 5] (tidy ((h.new 0 [.int .i64 0, .int .i64 0, .int .i64 0, .sl none 0]).new 1 [.int .i64 1, .int .i64 2, .int .i64 2, .int .i64 3, .int .i64 4, .int .i64 5, .int .i64 6]) [p101.1] p101.2)).bind fun p104 =>
  gV1 p104.1 fun x105 =>
  gI .i64 x105 fun i106 =>
  stK 4 ((tidy (tidy ((h.new 0 [.int .i64 0, .int .i64 0, .int .i64 0, .sl none 0]).new 1 [.int .i64 1, .int .i64 2, .int .i64 2, .int .i64 3, .int .i64 4, .int .i64 5, .int .i64 6]) [p101.1] p101.2) [p104.1] p104.2).new 0 [.int .i64 0, .int .i64 0, .int .i64 0, .sl none 0]) (pv ((tidy (tidy ((h.new 0 [.int .i64 0, .int .i64 0, .int .i64 0, .sl none 0]).new 1 [.int .i64 1, .int .i64 2, .int .i64 2, .int .i64 3, .int .i64 4, .int .i64 5, .int .i64 6]) [p101.1] p101.2) [p104.1] p104.2).n) 0) (.agg [.int .i64 i103, .int .i64 (IntKind.i64.wrap (1 + i106)), .int .i64 0, .sl none 0]) fun h107 =>
  (load1 h107 (pv ((tidy (tidy ((h.new 0 [.int .i64 0, .int .i64 0, .int .i64 0, .sl none 0]).new 1 [.int .i64 1, .int .i64 2, .int .i64 2, .int .i64 3, .int .i64 4, .int .i64 5, .int .i64 6]) [p101.1] p101.2) [p104.1] p104.2).n) 0)).bind fun x108 =>
  gI .i64 x108 fun i109 =>
  pcallS (call Ev) Fn.spec_l4Runs [iv .i64 i109] fun v110 =>
  gV1 v110 fun x111 =>
  gB x111 fun q112 =>
  vcase (bv (!q112))
  ((loadN 4 h107 (pv ((tidy (tidy ((h.new 0 [.int .i64 0, .int .i64 0, .int .i64 0, .sl none 0]).new 1 [.int .i64 1, .int .i64 2, .int .i64 2, .int .i64 3, .int .i64 4, .int .i64 5, .int .i64 6]) [p101.1] p101.2) [p104.1] p104.2).n) 0)).bind fun c114 =>
  (c114[0]?).bind fun x115 =>
  gI .i64 x115 fun i116 =>
  (c114[1]?).bind fun x117 =>
  gI .i64 x117 fun i118 =>
  (c114[2]?).bind fun x119 =>
  gI .i64 x119 fun i120 =>
  (c114[3]?).bind fun x121 =>
  if c114.length = 4 then
  stK 4 h107 (pv h.n 0) (.agg [.int .i64 i116, .int .i64 i118, .int .i64 i120, x121]) fun h122 =>
  (loadN 4 h122 (pv h.n 0)).bind fun c123 =>
  some (.agg c123, h122)
  else none)
  ((call Ev Fn.spec_l1Next [pv a0_b a0_o, iv .i64 3] h107).bind fun p124 =>
  gV1 p124.1 fun x125 =>
  gI .i64 x125 fun i126 =>
  stK 1 (tidy h107 [p124.1] p124.2) (pv ((tidy (tidy ((h.new 0 [.int .i64 0, .int .i64 0, .int .i64 0, .sl none 0]).new 1 [.int .i64 1, .int .i64 2, .int .i64 2, .int .i64 3, .int .i64 4, .int .i64 5, .int .i64 6]) [p101.1] p101.2) [p104.1] p104.2).n) 2) (iv .i64 i126) fun h127 =>
  (call Ev Fn.spec_l3Two [pv a0_b a0_o] h127).bind fun p128 =>
  gVT p128.1 fun u129 =>
  (u129[0]?).bind fun t130 =>
  gA1 t130 fun x131 =>
  (u129[1]?).bind fun t132 =>
  gA1 t132 fun x133 =>
  if u129.length = 2 then
  idxK 1 (.s x133) (iv .i64 5) fun v134 =>
  ldK (.one (.i .u8)) ⟨1, 1, [.int .u8 0], false, .int .u8, false⟩ (tidy h127 [p128.1] p128.2) v134 fun v135 =>
  gV1 v135 fun x136 =>
  gI .u8 x136 fun i137 =>
  idxK 1 (.s x133) (iv .i64 5) fun v138 =>
  stK 1 (tidy h127 [p128.1] p128.2) v138 (iv .u8 (IntKind.u8.wrap (i137 + 1))) fun h139 =>
  bif ([.s x131, .s x133].all offV) then
  (frzVs h139 [.s x131, .s x133]).bind fun l140 =>
  (pureV (call Ev) Fn.spec_l3Diff (normVs [] l140)).bind fun v141 =>
  gV1 v141 fun x142 =>
  gF x142 fun z143 =>
  stK 1 h139 (pv ((tidy (tidy ((h.new 0 [.int .i64 0, .int .i64 0, .int .i64 0, .sl none 0]).new 1 [.int .i64 1, .int .i64 2, .int .i64 2, .int .i64 3, .int .i64 4, .int .i64 5, .int .i64 6]) [p101.1] p101.2) [p104.1] p104.2).n) 3) (lv z143) fun h144 =>
  (load1 h144 (pv ((tidy (tidy ((h.new 0 [.int .i64 0, .int .i64 0, .int .i64 0, .sl none 0]).new 1 [.int .i64 1, .int .i64 2, .int .i64 2, .int .i64 3, .int .i64 4, .int .i64 5, .int .i64 6]) [p101.1] p101.2) [p104.1] p104.2).n) 0)).bind fun x145 =>
  gI .i64 x145 fun i146 =>
  vcase (bv (i146 == 4))
  (stK 1 h144 (pv ((tidy (tidy ((h.new 0 [.int .i64 0, .int .i64 0, .int .i64 0, .sl none 0]).new 1 [.int .i64 1, .int .i64 2, .int .i64 2, .int .i64 3, .int .i64 4, .int .i64 5, .int .i64 6]) [p101.1] p101.2) [p104.1] p104.2).n) 1) (iv .i64 0) fun h148 =>
  bif isNo x133 then none else
  stK 1 (h148.new 2 [.int .i64 0, x133]) (pv ((tidy (tidy ((h.new 0 [.int .i64 0, .int .i64 0, .int .i64 0, .sl none 0]).new 1 [.int .i64 1, .int .i64 2, .int .i64 2, .int .i64 3, .int .i64 4, .int .i64 5, .int .i64 6]) [p101.1] p101.2) [p104.1] p104.2).n) 3) (sv h148.n 0 1) fun h149 =>
  Jn.spec_l4Draw_0 h149 h p101 p104)
  (Jn.spec_l4Draw_0 h144 h p101 p104)
  else none
  else none) := by
  rw [call_eq]; kernel_rfl

theorem pu_spec_l4Sum (a0 : List (List S)) : pureV (call Ev) Fn.spec_l4Sum [lv a0] =
  (Lp.spec_l4Sum 0 [lv a0, iv .i64 1, iv .i64 0] (D 0)).bind fun o101 => lcase o101 (fun l102 h103 =>
  (l102[0]?).bind fun w106 =>
  gV1 w106 fun x107 =>
  gI .i64 x107 fun i108 =>
  some (iv .i64 i108)) (fun v104 h105 =>
  frzV h105 v104) := by
  rw [pure_eq]; kernel_rfl

theorem eq_spec_l4Sum_l0 (s0 : List (List S)) (s3 : Int) (s4 : Int) (h : H) : Lp.spec_l4Sum 0 [lv s0, iv .i64 s3, iv .i64 s4] h =
  vcase (bv (decide (s4 < (s0.length : Int))))
  (idxF 1 s0 s4 fun r203 =>
  (r203[0]?).bind fun x204 =>
  gI .u8 x204 fun i205 =>
  (bin Ev .rem 2 (iv .i64 (IntKind.i64.wrap ((IntKind.i64.wrap (s3 * 31)) + (IntKind.i64.wrap i205)))) (iv .i64 65521)).bind fun b206 =>
  gV1 b206 fun x207 =>
  gI .i64 x207 fun i208 =>
  Lp.spec_l4Sum 0 [lv s0, iv .i64 i208, iv .i64 (IntKind.i64.wrap (s4 + 1))] (tidy h [lv s0, iv .i64 i208, iv .i64 (IntKind.i64.wrap (s4 + 1))] h))
  (some (.done [iv .i64 s3] (tidy h [iv .i64 s3] h))) := by
  unfold Lp.spec_l4Sum; rw [loop_eq]; kernel_rfl

theorem eq_spec_l4Pack (a0_0 : Int) (a0_1 : Int) (a0_2 : Int) (a0_3 : List (List S)) (n : Nat) : call Ev Fn.spec_l4Pack [fv [.int .i64 a0_0, .int .i64 a0_1, .int .i64 a0_2, .fs a0_3] 0] (D n) =
  hchk (D n) ((D n).new 1 [.int .u8 0, .int .u8 (IntKind.u8.wrap a0_0), .int .u8 (IntKind.u8.wrap a0_1), .int .u8 (IntKind.u8.wrap a0_2), .int .u8 (IntKind.u8.wrap (a0_3.length : Int))]) (
  (Lp.spec_l4Pack 0 [fv [.int .i64 a0_0, .int .i64 a0_1, .int .i64 a0_2, .fs a0_3] 0, sv ((D n).n) 0 5, iv .i64 0] ((D n).new 1 [.int .u8 0, .int .u8 (IntKind.u8.wrap a0_0), .int .u8 (IntKind.u8.wrap a0_1), .int .u8 (IntKind.u8.wrap a0_2), .int .u8 (IntKind.u8.wrap (a0_3.length : Int))])).bind fun o101 => lcase o101 (fun l102 h103 =>
  (l102[0]?).bind fun w106 =>
  (lenV (.sl 5) w106).bind fun v107 =>
  gV1 v107 fun x108 =>
  gI .i64 x108 fun i109 =>
  idxK 1 w106 (iv .i64 0) fun v110 =>
  stK 1 h103 v110 (iv .u8 (IntKind.u8.wrap (IntKind.i64.wrap (i109 + 2)))) fun h111 =>
  (frzVs h111 [w106]).bind fun l112 =>
  pcallS (call Ev) Fn.spec_l4Sum (normVs [] l112) fun v113 =>
  gV1 v113 fun x114 =>
  gI .i64 x114 fun i115 =>
  (bin Ev .quo 2 (iv .i64 i115) (iv .i64 256)).bind fun b116 =>
  gV1 b116 fun x117 =>
  gI .i64 x117 fun i118 =>
  (bin Ev .rem 2 (iv .i64 i115) (iv .i64 256)).bind fun b119 =>
  gV1 b119 fun x120 =>
  gI .i64 x120 fun i121 =>
  (appS 1 (h111.new 1 [.int .u8 (IntKind.u8.wrap i118), .int .u8 (IntKind.u8.wrap i121)]) w106 (sv h111.n 0 2)).bind fun p122 =>
  some (p122.1, p122.2)) (fun v104 h105 =>
  some (v104, h105))) := by
  rw [call_eq]; kernel_rfl

theorem eq_spec_l4Pack_l0 (s0_r : List S) (s0_o : Nat) (s3 : V) (s4 : Int) (h : H) : Lp.spec_l4Pack 0 [fv s0_r s0_o, s3, iv .i64 s4] h =
  (s0_r[s0_o + 3]?).bind fun x201 =>
  gF x201 fun z202 =>
  vcase (bv (decide (s4 < (z202.length : Int))))
  (killV s3 h fun h205 =>
  (s0_r[s0_o + 3]?).bind fun x206 =>
  gF x206 fun z207 =>
  idxF 2 z207 s4 fun r208 =>
  (r208[0]?).bind fun x209 =>
  gI .i64 x209 fun i210 =>
  (s0_r[s0_o + 3]?).bind fun x211 =>
  gF x211 fun z212 =>
  idxF 2 z212 s4 fun r213 =>
  (r213[1]?).bind fun x214 =>
  gF x214 fun z215 =>
  (s0_r[s0_o + 3]?).bind fun x216 =>
  gF x216 fun z217 =>
  idxF 2 z217 s4 fun r218 =>
  (r218[1]?).bind fun x219 =>
  gF x219 fun z220 =>
  hchk h205 (h.new 1 [.int .u8 (IntKind.u8.wrap i210), .int .u8 (IntKind.u8.wrap (z215.length : Int))]) (
  (appS 1 (h.new 1 [.int .u8 (IntKind.u8.wrap i210), .int .u8 (IntKind.u8.wrap (z215.length : Int))]) s3 (sv h.n 0 2)).bind fun p221 =>
  hchk h205 p221.2 (
  bif scaV p221.1 then
  (appS 1 p221.2 p221.1 (lv z220)).bind fun p222 =>
  hchk h205 p222.2 (
  bif scaV p222.1 then
  Lp.spec_l4Pack 0 [fv s0_r s0_o, p222.1, iv .i64 (IntKind.i64.wrap (s4 + 1))] (tidy h [fv s0_r s0_o, p222.1, iv .i64 (IntKind.i64.wrap (s4 + 1))] p222.2)
  else none)
  else none)))
  (some (.done [s3] (tidy h [s3] h))) := by
  unfold Lp.spec_l4Pack; rw [loop_eq]; kernel_rfl

theorem pu_spec_DrawReadRecord (a0 : List (List S)) : pureV (call Ev) Fn.spec_DrawReadRecord [lv a0] =
  pcallF (call Ev) Fn.spec_l1Source true [lv a0] (D 0) fun v101 h102 =>
  (call Ev Fn.spec_l4Draw [v101] h102).bind fun p103 =>
  gVA p103.1 fun c104 =>
  (c104[0]?).bind fun x105 =>
  gI .i64 x105 fun i106 =>
  (c104[1]?).bind fun x107 =>
  gI .i64 x107 fun i108 =>
  (c104[2]?).bind fun x109 =>
  gI .i64 x109 fun i110 =>
  (c104[3]?).bind fun x111 =>
  if c104.length = 4 then
  stK 4 ((tidy h102 [p103.1] p103.2).new 0 [.int .i64 0, .int .i64 0, .int .i64 0, .sl none 0]) (pv ((tidy h102 [p103.1] p103.2).n) 0) (.agg [.int .i64 i106, .int .i64 i108, .int .i64 i110, x111]) fun h112 =>
  (frzVs h112 [pv ((tidy h102 [p103.1] p103.2).n) 0]).bind fun l113 =>
  pcallF (call Ev) Fn.spec_l4Pack false (normVs [4] l113) h112 fun v114 h115 =>
  (call Ev Fn.spec_l1Next [v101, iv .i64 3] h115).bind fun p116 =>
  gV1 p116.1 fun x117 =>
  gI .i64 x117 fun i118 =>
  (call Ev Fn.spec_l1Some [v101, iv .i64 i118] (tidy h115 [p116.1] p116.2)).bind fun p119 =>
  (appS 1 (tidy (tidy h115 [p116.1] p116.2) [p119.1] p119.2) v114 p119.1).bind fun p120 =>
  (call Ev Fn.spec_l1Next [v101, iv .i64 5] p120.2).bind fun p121 =>
  gV1 p121.1 fun x122 =>
  gI .i64 x122 fun i123 =>
  vcase (bv (i123 == 0))
  (killV v101 (tidy p120.2 [p121.1] p121.2) fun h126 =>
  killV p120.1 h126 fun h127 =>
  (lenV (.sl 5) p120.1).bind fun v128 =>
  gV1 v128 fun x129 =>
  gI .i64 x129 fun i130 =>
  (call Ev Fn.spec_l1Next [v101, iv .i64 i130] (tidy p120.2 [p121.1] p121.2)).bind fun p131 =>
  gV1 p131.1 fun x132 =>
  gI .i64 x132 fun i133 =>
  hchk h127 (tidy (tidy p120.2 [p121.1] p121.2) [p131.1] p131.2) (
  idxK 1 p120.1 (iv .i64 i133) fun v134 =>
  ldK (.one (.i .u8)) ⟨1, 1, [.int .u8 0], false, .int .u8, false⟩ h127 v134 fun v135 =>
  gV1 v135 fun x136 =>
  gI .u8 x136 fun i137 =>
  (call Ev Fn.spec_l1Next [v101, iv .i64 255] (tidy (tidy p120.2 [p121.1] p121.2) [p131.1] p131.2)).bind fun p138 =>
  gV1 p138.1 fun x139 =>
  gI .i64 x139 fun i140 =>
  hchk h127 (tidy (tidy (tidy p120.2 [p121.1] p121.2) [p131.1] p131.2) [p138.1] p138.2) (
  (bin Ev .xor 5 (iv .u8 i137) (iv .u8 (IntKind.u8.wrap (IntKind.i64.wrap (1 + i140))))).bind fun b141 =>
  gV1 b141 fun x142 =>
  gI .u8 x142 fun i143 =>
  idxK 1 p120.1 (iv .i64 i133) fun v144 =>
  stK 1 (tidy (tidy (tidy p120.2 [p121.1] p121.2) [p131.1] p131.2) [p138.1] p138.2) v144 (iv .u8 i143) fun h145 =>
  hchk h127 h145 (
  frzV h145 p120.1))))
  (vcase (bv (i123 == 1))
  ((lenV (.sl 5) p120.1).bind fun v147 =>
  gV1 v147 fun x148 =>
  gI .i64 x148 fun i149 =>
  (call Ev Fn.spec_l1Next [v101, iv .i64 i149] (tidy p120.2 [p121.1] p121.2)).bind fun p150 =>
  gV1 p150.1 fun x151 =>
  gI .i64 x151 fun i152 =>
  slK 1 (tidy (tidy p120.2 [p121.1] p121.2) [p150.1] p150.2) p120.1 none (some (iv .i64 i152)) fun v153 =>
  frzV (tidy (tidy p120.2 [p121.1] p121.2) [p150.1] p150.2) v153)
  (frzV (tidy p120.2 [p121.1] p121.2) p120.1))
  else none := by
  rw [pure_eq]; kernel_rfl

theorem eq_impl_packed (a0_0 : Int) (a0_1 : Int) (a0_2 : Int) (a0_3 : List (List S)) (n : Nat) : call Ev Fn.impl_packed [.agg [.int .i64 a0_0, .int .i64 a0_1, .int .i64 a0_2, .fs a0_3]] (D n) =
  (load1 ((D n).new 0 [.int .i64 a0_0, .int .i64 a0_1, .int .i64 a0_2, .fs a0_3]) (pv ((D n).n) 0)).bind fun x101 =>
  gI .i64 x101 fun i102 =>
  (load1 ((D n).new 0 [.int .i64 a0_0, .int .i64 a0_1, .int .i64 a0_2, .fs a0_3]) (pv ((D n).n) 1)).bind fun x103 =>
  gI .i64 x103 fun i104 =>
  (load1 ((D n).new 0 [.int .i64 a0_0, .int .i64 a0_1, .int .i64 a0_2, .fs a0_3]) (pv ((D n).n) 2)).bind fun x105 =>
  gI .i64 x105 fun i106 =>
  (load1 ((D n).new 0 [.int .i64 a0_0, .int .i64 a0_1, .int .i64 a0_2, .fs a0_3]) (pv ((D n).n) 3)).bind fun x107 =>
  (lenV (.sl 58) (.s x107)).bind fun v108 =>
  gV1 v108 fun x109 =>
  gI .i64 x109 fun i110 =>
  (load1 (((D n).new 0 [.int .i64 a0_0, .int .i64 a0_1, .int .i64 a0_2, .fs a0_3]).new 1 [.int .u8 0, .int .u8 (IntKind.u8.wrap i102), .int .u8 (IntKind.u8.wrap i104), .int .u8 (IntKind.u8.wrap i106), .int .u8 (IntKind.u8.wrap i110)]) (pv ((D n).n) 3)).bind fun x111 =>
  (lenV (.sl 58) (.s x111)).bind fun v112 =>
  gV1 v112 fun x113 =>
  gI .i64 x113 fun i114 =>
  (Lp.impl_packed 0 [sv (((D n).new 0 [.int .i64 a0_0, .int .i64 a0_1, .int .i64 a0_2, .fs a0_3]).n) 0 5, .s x111, iv .i64 i114, iv .i64 0] (((D n).new 0 [.int .i64 a0_0, .int .i64 a0_1, .int .i64 a0_2, .fs a0_3]).new 1 [.int .u8 0, .int .u8 (IntKind.u8.wrap i102), .int .u8 (IntKind.u8.wrap i104), .int .u8 (IntKind.u8.wrap i106), .int .u8 (IntKind.u8.wrap i110)])).bind fun o115 => lcase o115 (fun l116 h117 =>
  (l116[0]?).bind fun w120 =>
  (lenV (.sl 5) w120).bind fun v121 =>
  gV1 v121 fun x122 =>
  gI .i64 x122 fun i123 =>
  idxK 1 w120 (iv .i64 0) fun v124 =>
  stK 1 h117 v124 (iv .u8 (IntKind.u8.wrap (IntKind.i64.wrap (i123 + 2)))) fun h125 =>
  (lenV (.sl 5) w120).bind fun v126 =>
  gV1 v126 fun x127 =>
  gI .i64 x127 fun i128 =>
  (Lp.impl_packed 2 [w120, iv .i64 1, w120, iv .i64 i128, iv .i64 0] h125).bind fun o129 => lcase o129 (fun l130 h131 =>
  (l130[0]?).bind fun w134 =>
  (l130[1]?).bind fun w135 =>
  gV1 w135 fun x136 =>
  gI .i64 x136 fun i137 =>
  (bin Ev .shr 3 (iv .i64 i137) (iv .u64 8)).bind fun b138 =>
  gV1 b138 fun x139 =>
  gI .i64 x139 fun i140 =>
  (appS 1 (h131.new 1 [.int .u8 (IntKind.u8.wrap i140), .int .u8 (IntKind.u8.wrap i137)]) w134 (sv h131.n 0 2)).bind fun p141 =>
  some (p141.1, p141.2)) (fun v132 h133 =>
  some (v132, h133))) (fun v118 h119 =>
  some (v118, h119)) := by
  rw [call_eq]; kernel_rfl

theorem eq_impl_packed_l0 (s3 : V) (s24 : V) (s25 : Int) (s26 : Int) (h : H) : Lp.impl_packed 0 [s3, s24, iv .i64 s25, iv .i64 s26] h =
  vcase (bv (decide (s26 < s25)))
  (idxK 2 s24 (iv .i64 s26) fun v203 =>
  ldK (.agg [.i .i64, .f]) ⟨2, 32, [.int .i64 0, .sl none 0], true, .st [(0, 2), (1, 36)], false⟩ h v203 fun v204 =>
  gVA v204 fun c205 =>
  (c205[0]?).bind fun x206 =>
  gI .i64 x206 fun i207 =>
  (c205[1]?).bind fun x208 =>
  if c205.length = 2 then
  stK 2 (h.new 0 [.int .i64 0, .sl none 0]) (pv h.n 0) (.agg [.int .i64 i207, x208]) fun h209 =>
  (load1 h209 (pv h.n 0)).bind fun x210 =>
  gI .i64 x210 fun i211 =>
  (load1 h209 (pv h.n 1)).bind fun x212 =>
  (lenV (.sl 5) (.s x212)).bind fun v213 =>
  gV1 v213 fun x214 =>
  gI .i64 x214 fun i215 =>
  (appS 1 (h209.new 1 [.int .u8 (IntKind.u8.wrap i211), .int .u8 (IntKind.u8.wrap i215)]) s3 (sv h209.n 0 2)).bind fun p216 =>
  (load1 p216.2 (pv h.n 1)).bind fun x217 =>
  (appS 1 p216.2 p216.1 (.s x217)).bind fun p218 =>
  Lp.impl_packed 0 [p218.1, s24, iv .i64 s25, iv .i64 (IntKind.i64.wrap (s26 + 1))] (tidy h [p218.1, s24, iv .i64 s25, iv .i64 (IntKind.i64.wrap (s26 + 1))] p218.2)
  else none)
  (some (.done [s3] (tidy h [s3] h))) := by
  unfold Lp.impl_packed; rw [loop_eq]; kernel_rfl

theorem eq_impl_packed_l2 (s3 : V) (s6 : Int) (s51 : V) (s52 : Int) (s53 : Int) (h : H) : Lp.impl_packed 2 [s3, iv .i64 s6, s51, iv .i64 s52, iv .i64 s53] h =
  vcase (bv (decide (s53 < s52)))
  (idxK 1 s51 (iv .i64 s53) fun v403 =>
  ldK (.one (.i .u8)) ⟨1, 1, [.int .u8 0], false, .int .u8, false⟩ h v403 fun v404 =>
  gV1 v404 fun x405 =>
  gI .u8 x405 fun i406 =>
  (bin Ev .rem 3 (iv .i64 (IntKind.i64.wrap ((IntKind.i64.wrap (s6 * 31)) + (IntKind.i64.wrap i406)))) (iv .i64 65521)).bind fun b407 =>
  gV1 b407 fun x408 =>
  gI .i64 x408 fun i409 =>
  Lp.impl_packed 2 [s3, iv .i64 i409, s51, iv .i64 s52, iv .i64 (IntKind.i64.wrap (s53 + 1))] (tidy h [s3, iv .i64 i409, s51, iv .i64 s52, iv .i64 (IntKind.i64.wrap (s53 + 1))] h))
  (some (.done [s3, iv .i64 s6] (tidy h [s3, iv .i64 s6] h))) := by
  unfold Lp.impl_packed; rw [loop_eq]; kernel_rfl

theorem eq_impl_copied (a0 : List (List S)) (n : Nat) : call Ev Fn.impl_copied [lv a0] (D n) =
  (appS 1 ((D n).new 1 []) (sv ((D n).n) 0 0) (lv a0)).bind fun p101 =>
  some (p101.1, p101.2) := by
  rw [call_eq]; kernel_rfl

theorem pu_slices_Equal_byte_byte (a0 : List (List S)) (a1 : List (List S)) : pureV (call Ev) Fn.slices_Equal_byte_byte [lv a0, lv a1] =
  vcase (bv ((a0.length : Int) != (a1.length : Int)))
  (some (bv false))
  ((Lp.slices_Equal_byte_byte 0 [lv a0, lv a1, iv .i64 (a0.length : Int), iv .i64 0] (D 0)).bind fun o102 => lcase o102 (fun l103 h104 =>
  some (bv true)) (fun v105 h106 =>
  frzV h106 v105)) := by
  rw [pure_eq]; kernel_rfl

theorem eq_slices_Equal_byte_byte_l0 (s0 : List (List S)) (s1 : List (List S)) (s12 : Int) (s13 : Int) (h : H) : Lp.slices_Equal_byte_byte 0 [lv s0, lv s1, iv .i64 s12, iv .i64 s13] h =
  vcase (bv (decide (s13 < s12)))
  (idxF 1 s0 s13 fun r203 =>
  (r203[0]?).bind fun x204 =>
  gI .u8 x204 fun i205 =>
  idxF 1 s1 s13 fun r206 =>
  (r206[0]?).bind fun x207 =>
  gI .u8 x207 fun i208 =>
  vcase (bv (i205 != i208))
  (some (.ret (bv false) h))
  (Lp.slices_Equal_byte_byte 0 [lv s0, lv s1, iv .i64 s12, iv .i64 (IntKind.i64.wrap (s13 + 1))] (tidy h [lv s0, lv s1, iv .i64 s12, iv .i64 (IntKind.i64.wrap (s13 + 1))] h)))
  (some (.done [] (tidy h [] h))) := by
  unfold Lp.slices_Equal_byte_byte; rw [loop_eq]; kernel_rfl

noncomputable def Jn.impl_read_0 (q335 : Bool) (h336 : H) (w288 : V) (w292 : V) (z291 : List (List S)) : Option (V) :=
  vcase (bv q335)
  (stK 4 h336 w288 (.agg [.int .i64 0, .int .i64 0, .int .i64 0, .sl none 0]) fun h338 =>
  ldT ⟨4, 48, [.int .i64 0, .int .i64 0, .int .i64 0, .sl none 0], true, .st [(0, 2), (1, 2), (2, 2), (3, 29)], false⟩ h338 w288 fun v339 =>
  (V.toA v339).bind fun t340 =>
  frzV h338 (.tup [t340, .s (.int .i64 0)]))
  (ldK (.agg [.i .i64, .i .i64, .i .i64, .f]) ⟨4, 48, [.int .i64 0, .int .i64 0, .int .i64 0, .sl none 0], true, .st [(0, 2), (1, 2), (2, 2), (3, 29)], false⟩ h336 w292 fun v341 =>
  gVA v341 fun c342 =>
  (c342[0]?).bind fun x343 =>
  gI .i64 x343 fun i344 =>
  (c342[1]?).bind fun x345 =>
  gI .i64 x345 fun i346 =>
  (c342[2]?).bind fun x347 =>
  gI .i64 x347 fun i348 =>
  (c342[3]?).bind fun x349 =>
  if c342.length = 4 then
  stK 4 h336 w288 (.agg [.int .i64 i344, .int .i64 i346, .int .i64 i348, x349]) fun h350 =>
  ldT ⟨4, 48, [.int .i64 0, .int .i64 0, .int .i64 0, .sl none 0], true, .st [(0, 2), (1, 2), (2, 2), (3, 29)], false⟩ h350 w288 fun v351 =>
  (V.toA v351).bind fun t352 =>
  frzV h350 (.tup [t352, .s (.int .i64 (z291.length : Int))])
  else none)

noncomputable def Jn.impl_read_1 (q315 : Bool) (h285 : H) (w292 : V) (z291 : List (List S)) (w288 : V) : Option (V) :=
  vcase (bv q315)
  (Jn.impl_read_0 true h285 w288 w292 z291)
  (ldK (.agg [.i .i64, .i .i64, .i .i64, .f]) ⟨4, 48, [.int .i64 0, .int .i64 0, .int .i64 0, .sl none 0], true, .st [(0, 2), (1, 2), (2, 2), (3, 29)], false⟩ h285 w292 fun v318 =>
  gVA v318 fun c319 =>
  (c319[0]?).bind fun x320 =>
  gI .i64 x320 fun i321 =>
  (c319[1]?).bind fun x322 =>
  gI .i64 x322 fun i323 =>
  (c319[2]?).bind fun x324 =>
  gI .i64 x324 fun i325 =>
  (c319[3]?).bind fun x326 =>
  if c319.length = 4 then
  (frzVs h285 [.agg [.int .i64 i321, .int .i64 i323, .int .i64 i325, x326]]).bind fun l327 =>
  pcallF (call Ev) Fn.impl_packed ([.agg [.int .i64 i321, .int .i64 i323, .int .i64 i325, x326]].all offV) (normVs [] l327) h285 fun v328 h329 =>
  (frzVs h329 [v328, lv z291]).bind fun l330 =>
  pcallS (call Ev) Fn.slices_Equal_byte_byte (normVs [] l330) fun v331 =>
  gV1 v331 fun x332 =>
  gB x332 fun q333 =>
  Jn.impl_read_0 (!q333) h329 w288 w292 z291
  else none)

noncomputable def Jn.impl_read_2 (q265 : Bool) (a0 : List (List S)) : Option (V) :=
  vcase (bv q265)
  (some (.tup [.agg [.int .i64 0, .int .i64 0, .int .i64 0, .fs []], .s (.int .i64 0)]))
  (idxF 1 a0 0 fun r267 =>
  (r267[0]?).bind fun x268 =>
  gI .u8 x268 fun i269 =>
  slF 1 a0 none (some (iv .u8 i269)) fun z270 =>
  idxF 1 z270 1 fun r271 =>
  (r271[0]?).bind fun x272 =>
  gI .u8 x272 fun i273 =>
  idxF 1 z270 2 fun r274 =>
  (r274[0]?).bind fun x275 =>
  gI .u8 x275 fun i276 =>
  idxF 1 z270 3 fun r277 =>
  (r277[0]?).bind fun x278 =>
  gI .u8 x278 fun i279 =>
  hchk ((D 0).new 0 [.int .i64 0, .int .i64 0, .int .i64 0, .sl none 0]) (((D 0).new 0 [.int .i64 0, .int .i64 0, .int .i64 0, .sl none 0]).new 0 [.int .i64 0, .int .i64 0, .int .i64 0, .sl none 0]) (
  idxF 1 z270 4 fun r280 =>
  (r280[0]?).bind fun x281 =>
  gI .u8 x281 fun i282 =>
  (Lp.impl_read 0 [pv 0 0, lv z270, pv 1 0, iv .i64 5, iv .i64 (IntKind.i64.wrap ((z270.length : Int) - 2)), iv .i64 (IntKind.i64.wrap i282), iv .i64 0] ((((D 0).new 0 [.int .i64 0, .int .i64 0, .int .i64 0, .sl none 0]).new 0 [.int .i64 0, .int .i64 0, .int .i64 0, .sl none 0]).put 1 (.rw 0 [.int .i64 (IntKind.i64.wrap i273), .int .i64 (IntKind.i64.wrap i276), .int .i64 (IntKind.i64.wrap i279), .sl none 0]))).bind fun o283 => lcase o283 (fun l284 h285 =>
  (l284[0]?).bind fun w288 =>
  (l284[1]?).bind fun w289 =>
  gV1 w289 fun x290 =>
  gF x290 fun z291 =>
  (l284[2]?).bind fun w292 =>
  (l284[3]?).bind fun w293 =>
  gV1 w293 fun x294 =>
  gI .i64 x294 fun i295 =>
  (l284[4]?).bind fun w296 =>
  gV1 w296 fun x297 =>
  gI .i64 x297 fun i298 =>
  vcase (bv (i295 != i298))
  (Jn.impl_read_1 true h285 w292 z291 w288)
  (ldK (.agg [.i .i64, .i .i64, .i .i64, .f]) ⟨4, 48, [.int .i64 0, .int .i64 0, .int .i64 0, .sl none 0], true, .st [(0, 2), (1, 2), (2, 2), (3, 29)], false⟩ h285 w292 fun v301 =>
  gVA v301 fun c302 =>
  (c302[0]?).bind fun x303 =>
  gI .i64 x303 fun i304 =>
  (c302[1]?).bind fun x305 =>
  gI .i64 x305 fun i306 =>
  (c302[2]?).bind fun x307 =>
  gI .i64 x307 fun i308 =>
  (c302[3]?).bind fun x309 =>
  if c302.length = 4 then
  (frzVs h285 [.agg [.int .i64 i304, .int .i64 i306, .int .i64 i308, x309]]).bind fun l310 =>
  pcallS (call Ev) Fn.impl_RecordFault (normVs [] l310) fun v311 =>
  gV1 v311 fun x312 =>
  gI .i64 x312 fun i313 =>
  Jn.impl_read_1 (i313 != 0) h285 w292 z291 w288
  else none)) (fun v286 h287 =>
  frzV h287 v286)))

theorem pu_impl_read (a0 : List (List S)) : pureV (call Ev) Fn.impl_read [lv a0] =
  vcase (bv (decide ((a0.length : Int) < 7)))
  (some (.tup [.agg [.int .i64 0, .int .i64 0, .int .i64 0, .fs []], .s (.int .i64 0)]))
  (idxF 1 a0 0 fun r103 =>
  (r103[0]?).bind fun x104 =>
  gI .u8 x104 fun i105 =>
  vcase (bv (decide ((IntKind.i64.wrap i105) > (a0.length : Int))))
  (Jn.impl_read_2 true a0)
  (idxF 1 a0 0 fun r111 =>
  (r111[0]?).bind fun x112 =>
  gI .u8 x112 fun i113 =>
  Jn.impl_read_2 (decide (i113 < 7)) a0)) := by
  rw [pure_eq]; kernel_rfl

noncomputable def Jn.impl_read_l0_0 (q235 : Bool) (h : H) (s2 : V) (s4 : List (List S)) (s6 : Int) (s5 : V) (s7 : Int) (s52 : Int) (s53 : Int) : Option (LOut) :=
  vcase (bv q235)
  (stK 4 h s2 (.agg [.int .i64 0, .int .i64 0, .int .i64 0, .sl none 0]) fun h237 =>
  ldT ⟨4, 48, [.int .i64 0, .int .i64 0, .int .i64 0, .sl none 0], true, .st [(0, 2), (1, 2), (2, 2), (3, 29)], false⟩ h237 s2 fun v238 =>
  (V.toA v238).bind fun t239 =>
  some (.ret (.tup [t239, .s (.int .i64 0)]) h237))
  (idxF 1 s4 (IntKind.i64.wrap (s6 + 1)) fun r240 =>
  (r240[0]?).bind fun x241 =>
  gI .u8 x241 fun i242 =>
  (padd 3 s5).bind fun v243 =>
  ldK (.one (.f)) ⟨1, 24, [.sl none 0], false, .sl 58, false⟩ h v243 fun v244 =>
  idxF 1 s4 s6 fun r245 =>
  (r245[0]?).bind fun x246 =>
  gI .u8 x246 fun i247 =>
  slF 1 s4 (some (iv .i64 (IntKind.i64.wrap (s6 + 2)))) (some (iv .i64 (IntKind.i64.wrap ((IntKind.i64.wrap (s6 + 2)) + (IntKind.i64.wrap i242))))) fun z248 =>
  pcallF (call Ev) Fn.impl_copied true [lv z248] h fun v249 h250 =>
  hchk h h250 (
  bif scaV v249 then
  cellsK v249 fun c251 =>
  if c251.length = 1 ∧ 1 + 1 ≤ ([.int .i64 (IntKind.i64.wrap i247), .sl none 0] : List S).length then
  ((setAt ([.int .i64 (IntKind.i64.wrap i247), .sl none 0] : List S) 1 c251)[0]?).bind fun x252 =>
  gI .i64 x252 fun i253 =>
  ((setAt ([.int .i64 (IntKind.i64.wrap i247), .sl none 0] : List S) 1 c251)[1]?).bind fun x254 =>
  if (setAt ([.int .i64 (IntKind.i64.wrap i247), .sl none 0] : List S) 1 c251).length = 2 then
  hchk h (h250.new 2 [.int .i64 i253, x254]) (
  (appS 2 (h250.new 2 [.int .i64 i253, x254]) v244 (sv h250.n 0 1)).bind fun p255 =>
  (padd 3 s5).bind fun v256 =>
  stK 1 p255.2 v256 p255.1 fun h257 =>
  Lp.impl_read 0 [s2, lv s4, s5, iv .i64 (IntKind.i64.wrap (s6 + (IntKind.i64.wrap (2 + (IntKind.i64.wrap i242))))), iv .i64 s7, iv .i64 s52, iv .i64 (IntKind.i64.wrap (s53 + 1))] (tidy h [s2, lv s4, s5, iv .i64 (IntKind.i64.wrap (s6 + (IntKind.i64.wrap (2 + (IntKind.i64.wrap i242))))), iv .i64 s7, iv .i64 s52, iv .i64 (IntKind.i64.wrap (s53 + 1))] h257))
  else none
  else none
  else none))

theorem eq_impl_read_l0 (s2 : V) (s4 : List (List S)) (s5 : V) (s6 : Int) (s7 : Int) (s52 : Int) (s53 : Int) (h : H) : Lp.impl_read 0 [s2, lv s4, s5, iv .i64 s6, iv .i64 s7, iv .i64 s52, iv .i64 s53] h =
  vcase (bv (decide (s53 < s52)))
  (vcase (bv (decide ((IntKind.i64.wrap (s6 + 2)) > s7)))
  (Jn.impl_read_l0_0 true h s2 s4 s6 s5 s7 s52 s53)
  (idxF 1 s4 (IntKind.i64.wrap (s6 + 1)) fun r205 =>
  (r205[0]?).bind fun x206 =>
  gI .u8 x206 fun i207 =>
  Jn.impl_read_l0_0 (decide ((IntKind.i64.wrap ((IntKind.i64.wrap (s6 + 2)) + (IntKind.i64.wrap i207))) > s7)) h s2 s4 s6 s5 s7 s52 s53))
  (some (.done [s2, lv s4, s5, iv .i64 s6, iv .i64 s7] (tidy h [s2, lv s4, s5, iv .i64 s6, iv .i64 s7] h))) := by
  unfold Lp.impl_read; rw [loop_eq]; kernel_rfl

theorem pu_impl_ReadRecord (a0 : List (List S)) : pureV (call Ev) Fn.impl_ReadRecord [lv a0] =
  (pureV (call Ev) Fn.impl_read [lv a0]).bind fun v101 =>
  gVT v101 fun u102 =>
  (u102[0]?).bind fun t103 =>
  gAA t103 fun c104 =>
  (c104[0]?).bind fun x105 =>
  gI .i64 x105 fun i106 =>
  (c104[1]?).bind fun x107 =>
  gI .i64 x107 fun i108 =>
  (c104[2]?).bind fun x109 =>
  gI .i64 x109 fun i110 =>
  (c104[3]?).bind fun x111 =>
  gF x111 fun z112 =>
  if c104.length = 4 then
  (u102[1]?).bind fun t113 =>
  gA1 t113 fun x114 =>
  gI .i64 x114 fun i115 =>
  if u102.length = 2 then
  vcase (bv (i115 == 0))
  (some (.agg [.int .i64 5, .int .i64 0, .int .i64 0, .int .i64 0, .int .i64 0, .fs []]))
  (some (.agg [.int .i64 0, .int .i64 i115, .int .i64 i106, .int .i64 i108, .int .i64 i110, .fs z112]))
  else none
  else none := by
  rw [pure_eq]; kernel_rfl

theorem pu_spec_l4Read (a0 : List (List S)) : pureV (call Ev) Fn.spec_l4Read [lv a0] =
  idxF 1 a0 1 fun r101 =>
  (r101[0]?).bind fun x102 =>
  gI .u8 x102 fun i103 =>
  idxF 1 a0 2 fun r104 =>
  (r104[0]?).bind fun x105 =>
  gI .u8 x105 fun i106 =>
  idxF 1 a0 3 fun r107 =>
  (r107[0]?).bind fun x108 =>
  gI .u8 x108 fun i109 =>
  hchk ((D 0).new 0 [.int .i64 0, .int .i64 0, .int .i64 0, .sl none 0]) (((D 0).new 0 [.int .i64 0, .int .i64 0, .int .i64 0, .sl none 0]).new 0 [.int .i64 0, .int .i64 0, .int .i64 0, .sl none 0]) (
  (Lp.spec_l4Read 0 [lv a0, pv 0 0, pv 1 0, iv .i64 5, iv .i64 0] ((((D 0).new 0 [.int .i64 0, .int .i64 0, .int .i64 0, .sl none 0]).new 0 [.int .i64 0, .int .i64 0, .int .i64 0, .sl none 0]).put 1 (.rw 0 [.int .i64 (IntKind.i64.wrap i103), .int .i64 (IntKind.i64.wrap i106), .int .i64 (IntKind.i64.wrap i109), .sl none 0]))).bind fun o110 => lcase o110 (fun l111 h112 =>
  (l111[0]?).bind fun w115 =>
  (l111[1]?).bind fun w116 =>
  ldK (.agg [.i .i64, .i .i64, .i .i64, .f]) ⟨4, 48, [.int .i64 0, .int .i64 0, .int .i64 0, .sl none 0], true, .st [(0, 2), (1, 2), (2, 2), (3, 29)], false⟩ h112 w116 fun v117 =>
  gVA v117 fun c118 =>
  (c118[0]?).bind fun x119 =>
  gI .i64 x119 fun i120 =>
  (c118[1]?).bind fun x121 =>
  gI .i64 x121 fun i122 =>
  (c118[2]?).bind fun x123 =>
  gI .i64 x123 fun i124 =>
  (c118[3]?).bind fun x125 =>
  if c118.length = 4 then
  stK 4 h112 w115 (.agg [.int .i64 i120, .int .i64 i122, .int .i64 i124, x125]) fun h126 =>
  ldT ⟨4, 48, [.int .i64 0, .int .i64 0, .int .i64 0, .sl none 0], true, .st [(0, 2), (1, 2), (2, 2), (3, 29)], false⟩ h126 w115 fun v127 =>
  frzV h126 v127
  else none) (fun v113 h114 =>
  frzV h114 v113)) := by
  rw [pure_eq]; kernel_rfl

noncomputable def Jn.spec_l4Read_l0_0 (q228 : Bool) (s0 : List (List S)) (s4 : Int) (s2 : V) (s3 : V) (h : H) (s5 : Int) : Option (LOut) :=
  vcase (bv q228)
  (idxF 1 s0 (IntKind.i64.wrap (s4 + 1)) fun r231 =>
  (r231[0]?).bind fun x232 =>
  gI .u8 x232 fun i233 =>
  vcase (bv (decide ((IntKind.i64.wrap ((IntKind.i64.wrap (s4 + 2)) + (IntKind.i64.wrap i233))) > (s0.length : Int))))
  (some (.done [s2, s3] (tidy h [s2, s3] h)))
  ((padd 3 s3).bind fun v235 =>
  ldK (.one (.f)) ⟨1, 24, [.sl none 0], false, .sl 58, false⟩ h v235 fun v236 =>
  idxF 1 s0 s4 fun r237 =>
  (r237[0]?).bind fun x238 =>
  gI .u8 x238 fun i239 =>
  slF 1 s0 (some (iv .i64 (IntKind.i64.wrap (s4 + 2)))) (some (iv .i64 (IntKind.i64.wrap ((IntKind.i64.wrap (s4 + 2)) + (IntKind.i64.wrap i233))))) fun z240 =>
  pcallF (call Ev) Fn.spec_l2Copy true [lv z240] h fun v241 h242 =>
  hchk h h242 (
  bif scaV v241 then
  cellsK v241 fun c243 =>
  if c243.length = 1 ∧ 1 + 1 ≤ ([.int .i64 (IntKind.i64.wrap i239), .sl none 0] : List S).length then
  ((setAt ([.int .i64 (IntKind.i64.wrap i239), .sl none 0] : List S) 1 c243)[0]?).bind fun x244 =>
  gI .i64 x244 fun i245 =>
  ((setAt ([.int .i64 (IntKind.i64.wrap i239), .sl none 0] : List S) 1 c243)[1]?).bind fun x246 =>
  if (setAt ([.int .i64 (IntKind.i64.wrap i239), .sl none 0] : List S) 1 c243).length = 2 then
  hchk h (h242.new 2 [.int .i64 i245, x246]) (
  (appS 2 (h242.new 2 [.int .i64 i245, x246]) v236 (sv h242.n 0 1)).bind fun p247 =>
  (padd 3 s3).bind fun v248 =>
  stK 1 p247.2 v248 p247.1 fun h249 =>
  Lp.spec_l4Read 0 [lv s0, s2, s3, iv .i64 (IntKind.i64.wrap ((IntKind.i64.wrap (s4 + 2)) + (IntKind.i64.wrap i233))), iv .i64 (IntKind.i64.wrap (s5 + 1))] (tidy h [lv s0, s2, s3, iv .i64 (IntKind.i64.wrap ((IntKind.i64.wrap (s4 + 2)) + (IntKind.i64.wrap i233))), iv .i64 (IntKind.i64.wrap (s5 + 1))] h249))
  else none
  else none
  else none)))
  (some (.done [s2, s3] (tidy h [s2, s3] h)))

theorem eq_spec_l4Read_l0 (s0 : List (List S)) (s2 : V) (s3 : V) (s4 : Int) (s5 : Int) (h : H) : Lp.spec_l4Read 0 [lv s0, s2, s3, iv .i64 s4, iv .i64 s5] h =
  idxF 1 s0 4 fun r201 =>
  (r201[0]?).bind fun x202 =>
  gI .u8 x202 fun i203 =>
  vcase (bv (decide (s5 < (IntKind.i64.wrap i203))))
  (Jn.spec_l4Read_l0_0 (decide ((IntKind.i64.wrap (s4 + 2)) ≤ (s0.length : Int))) s0 s4 s2 s3 h s5)
  (Jn.spec_l4Read_l0_0 false s0 s4 s2 s3 h s5) := by
  unfold Lp.spec_l4Read; rw [loop_eq]; kernel_rfl

end Vm
