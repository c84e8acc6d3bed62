/-
  What each function, and each round of each loop, comes to in the small machine. Written by a program (gen3.py).
-/
import Derived.Test.YtfpcfiaoilcbgaaEnv
set_option linter.unusedVariables false
set_option maxRecDepth 100000
namespace Vm
open Go

theorem eq_spec_l2Stand (a0 : V) (a1 : Int) (a2 : Int) (a3 : V) (h : H) : call Ev Fn.spec_l2Stand [a0, iv .i64 a1, iv .i64 a2, a3] h =
  slK 1 h a0 (some (iv .i64 a2)) none fun v101 =>
  (copS 1 h v101 a3).bind fun p102 =>
  gV1 p102.1 fun x103 =>
  gI .i64 x103 fun i104 =>
  idxK 1 a0 (iv .i64 (IntKind.i64.wrap (2 + (IntKind.i64.wrap (2 * a1))))) fun v105 =>
  stK 1 p102.2 v105 (iv .u8 (IntKind.u8.wrap a2)) fun h106 =>
  (lenV (.sl 5) a3).bind fun v107 =>
  gV1 v107 fun x108 =>
  gI .i64 x108 fun i109 =>
  idxK 1 a0 (iv .i64 (IntKind.i64.wrap (3 + (IntKind.i64.wrap (2 * a1))))) fun v110 =>
  stK 1 h106 v110 (iv .u8 (IntKind.u8.wrap i109)) fun h111 =>
  some (.tup [], h111) := by
  rw [call_eq]; kernel_rfl

theorem pu_spec_l2Place (a0 : List (List S)) (a1 : Int) : pureV (call Ev) Fn.spec_l2Place [lv a0, iv .i64 a1] =
  idxF 1 a0 (IntKind.i64.wrap (2 + (IntKind.i64.wrap (2 * a1)))) fun r101 =>
  (r101[0]?).bind fun x102 =>
  gI .u8 x102 fun i103 =>
  some (iv .i64 (IntKind.i64.wrap i103)) := by
  rw [pure_eq]; kernel_rfl

theorem pu_spec_l2Free (a0 : List (List S)) : pureV (call Ev) Fn.spec_l2Free [lv a0] =
  pcallS (call Ev) Fn.spec_l2Count [lv a0] fun v101 =>
  gV1 v101 fun x102 =>
  gI .i64 x102 fun i103 =>
  (Lp.spec_l2Free 0 [lv a0, iv .i64 (IntKind.i64.wrap (62 - (IntKind.i64.wrap (2 * i103)))), iv .i64 0] (D 0)).bind fun o104 => lcase o104 (fun l105 h106 =>
  (l105[0]?).bind fun w109 =>
  gV1 w109 fun x110 =>
  gI .i64 x110 fun i111 =>
  some (iv .i64 i111)) (fun v107 h108 =>
  frzV h108 v107) := by
  rw [pure_eq]; kernel_rfl

theorem eq_spec_l2Free_l0 (s0 : List (List S)) (s3 : Int) (s4 : Int) (h : H) : Lp.spec_l2Free 0 [lv s0, iv .i64 s3, iv .i64 s4] h =
  pcallS (call Ev) Fn.spec_l2Count [lv s0] fun v201 =>
  gV1 v201 fun x202 =>
  gI .i64 x202 fun i203 =>
  vcase (bv (decide (s4 < i203)))
  (pcallS (call Ev) Fn.spec_l2Size [lv s0, iv .i64 s4] fun v206 =>
  gV1 v206 fun x207 =>
  gI .i64 x207 fun i208 =>
  Lp.spec_l2Free 0 [lv s0, iv .i64 (IntKind.i64.wrap (s3 - i208)), iv .i64 (IntKind.i64.wrap (s4 + 1))] (tidy h [lv s0, iv .i64 (IntKind.i64.wrap (s3 - i208)), iv .i64 (IntKind.i64.wrap (s4 + 1))] h))
  (some (.done [iv .i64 s3] (tidy h [iv .i64 s3] h))) := by
  unfold Lp.spec_l2Free; rw [loop_eq]; kernel_rfl

theorem pu_spec_l2Low (a0 : List (List S)) : pureV (call Ev) Fn.spec_l2Low [lv a0] =
  idxF 1 a0 1 fun r101 =>
  (r101[0]?).bind fun x102 =>
  gI .u8 x102 fun i103 =>
  some (iv .i64 (IntKind.i64.wrap i103)) := by
  rw [pure_eq]; kernel_rfl

theorem pu_spec_l2Set (a0 : List (List S)) (a1 : Int) (a2 : List (List S)) : pureV (call Ev) Fn.spec_l2Set [lv a0, iv .i64 a1, lv a2] =
  pcallS (call Ev) Fn.spec_l2Size [lv a0, iv .i64 a1] fun v101 =>
  gV1 v101 fun x102 =>
  gI .i64 x102 fun i103 =>
  pcallF (call Ev) Fn.spec_l2Copy true [lv a0] (D 0) fun v104 h105 =>
  vcase (bv (decide ((a2.length : Int) ≤ i103)))
  (pcallS (call Ev) Fn.spec_l2Place [lv a0, iv .i64 a1] fun v107 =>
  gV1 v107 fun x108 =>
  gI .i64 x108 fun i109 =>
  (call Ev Fn.spec_l2Stand [v104, iv .i64 a1, iv .i64 (IntKind.i64.wrap ((IntKind.i64.wrap (i109 + i103)) - (a2.length : Int))), lv a2] h105).bind fun p110 =>
  (V.toA v104).bind fun t111 =>
  frzV (tidy h105 [p110.1] p110.2) (.tup [t111, .s (.int .i64 0)]))
  (pcallS (call Ev) Fn.spec_l2Free [lv a0] fun v112 =>
  gV1 v112 fun x113 =>
  gI .i64 x113 fun i114 =>
  vcase (bv (decide ((IntKind.i64.wrap (i114 + i103)) < (a2.length : Int))))
  (some (.tup [.s (.fs []), .s (.int .i64 9)]))
  (pcallS (call Ev) Fn.spec_l2Low [lv a0] fun v116 =>
  gV1 v116 fun x117 =>
  gI .i64 x117 fun i118 =>
  pcallS (call Ev) Fn.spec_l2Count [lv a0] fun v119 =>
  gV1 v119 fun x120 =>
  gI .i64 x120 fun i121 =>
  vcase (bv (decide ((IntKind.i64.wrap (i118 - (a2.length : Int))) < (IntKind.i64.wrap (2 + (IntKind.i64.wrap (2 * i121)))))))
  (some (.tup [.s (.fs []), .s (.int .i64 8)]))
  (idxK 1 v104 (iv .i64 1) fun v123 =>
  stK 1 h105 v123 (iv .u8 (IntKind.u8.wrap (IntKind.i64.wrap (i118 - (a2.length : Int))))) fun h124 =>
  (call Ev Fn.spec_l2Stand [v104, iv .i64 a1, iv .i64 (IntKind.i64.wrap (i118 - (a2.length : Int))), lv a2] h124).bind fun p125 =>
  (V.toA v104).bind fun t126 =>
  frzV (tidy h124 [p125.1] p125.2) (.tup [t126, .s (.int .i64 0)])))) := by
  rw [pure_eq]; kernel_rfl

theorem pu_spec_l2Cell (a0 : List (List S)) (a1 : Int) : pureV (call Ev) Fn.spec_l2Cell [lv a0, iv .i64 a1] =
  pcallS (call Ev) Fn.spec_l2Place [lv a0, iv .i64 a1] fun v101 =>
  gV1 v101 fun x102 =>
  gI .i64 x102 fun i103 =>
  pcallS (call Ev) Fn.spec_l2Size [lv a0, iv .i64 a1] fun v104 =>
  gV1 v104 fun x105 =>
  gI .i64 x105 fun i106 =>
  slF 1 a0 (some (iv .i64 i103)) (some (iv .i64 (IntKind.i64.wrap (i103 + i106)))) fun z107 =>
  (appS 1 ((D 0).new 1 []) (sv 0 0 0) (lv z107)).bind fun p108 =>
  frzV p108.2 p108.1 := by
  rw [pure_eq]; kernel_rfl

theorem pu_spec_l2Compact (a0 : List (List S)) : pureV (call Ev) Fn.spec_l2Compact [lv a0] =
  pcallS (call Ev) Fn.spec_l2Count [lv a0] fun v101 =>
  gV1 v101 fun x102 =>
  gI .i64 x102 fun i103 =>
  (mkSl 1 [.int .u8 0] (D 0) (iv .i64 64) (iv .i64 64)).bind fun p104 =>
  slF 1 a0 none (some (iv .i64 (IntKind.i64.wrap (2 + (IntKind.i64.wrap (2 * i103)))))) fun z105 =>
  (copS 1 p104.2 p104.1 (lv z105)).bind fun p106 =>
  gV1 p106.1 fun x107 =>
  gI .i64 x107 fun i108 =>
  (Lp.spec_l2Compact 0 [lv a0, iv .i64 i103, p104.1, iv .i64 64, iv .i64 0] p106.2).bind fun o109 => lcase o109 (fun l110 h111 =>
  (l110[0]?).bind fun w114 =>
  (l110[1]?).bind fun w115 =>
  gV1 w115 fun x116 =>
  gI .i64 x116 fun i117 =>
  idxK 1 w114 (iv .i64 1) fun v118 =>
  stK 1 h111 v118 (iv .u8 (IntKind.u8.wrap i117)) fun h119 =>
  frzV h119 w114) (fun v112 h113 =>
  frzV h113 v112) := by
  rw [pure_eq]; kernel_rfl

theorem eq_spec_l2Compact_l0 (s0 : List (List S)) (s3 : Int) (s4 : V) (s5 : Int) (s6 : Int) (h : H) : Lp.spec_l2Compact 0 [lv s0, iv .i64 s3, s4, iv .i64 s5, iv .i64 s6] h =
  vcase (bv (decide (s6 < s3)))
  (pcallS (call Ev) Fn.spec_l2Size [lv s0, iv .i64 s6] fun v203 =>
  gV1 v203 fun x204 =>
  gI .i64 x204 fun i205 =>
  vcase (bv (i205 == 0))
  (Lp.spec_l2Compact 0 [lv s0, iv .i64 s3, s4, iv .i64 s5, iv .i64 (IntKind.i64.wrap (s6 + 1))] (tidy h [lv s0, iv .i64 s3, s4, iv .i64 s5, iv .i64 (IntKind.i64.wrap (s6 + 1))] h))
  ((pureV (call Ev) Fn.spec_l2Cell [lv s0, iv .i64 s6]).bind fun v207 =>
  gV1 v207 fun x208 =>
  gF x208 fun z209 =>
  (call Ev Fn.spec_l2Stand [s4, iv .i64 s6, iv .i64 (IntKind.i64.wrap (s5 - (z209.length : Int))), lv z209] h).bind fun p210 =>
  Lp.spec_l2Compact 0 [lv s0, iv .i64 s3, s4, iv .i64 (IntKind.i64.wrap (s5 - (z209.length : Int))), iv .i64 (IntKind.i64.wrap (s6 + 1))] (tidy h [lv s0, iv .i64 s3, s4, iv .i64 (IntKind.i64.wrap (s5 - (z209.length : Int))), iv .i64 (IntKind.i64.wrap (s6 + 1))] (tidy h [p210.1] p210.2))))
  (some (.done [s4, iv .i64 s5] (tidy h [s4, iv .i64 s5] h))) := by
  unfold Lp.spec_l2Compact; rw [loop_eq]; kernel_rfl

theorem pu_spec_l2Empty (a0 : List (List S)) : pureV (call Ev) Fn.spec_l2Empty [lv a0] =
  (Lp.spec_l2Empty 0 [lv a0, iv .i64 0] (D 0)).bind fun o101 => lcase o101 (fun l102 h103 =>
  (l102[0]?).bind fun w106 =>
  gV1 w106 fun x107 =>
  gF x107 fun z108 =>
  pcallS (call Ev) Fn.spec_l2Count [lv z108] fun v109 =>
  gV1 v109 fun x110 =>
  gI .i64 x110 fun i111 =>
  some (iv .i64 i111)) (fun v104 h105 =>
  frzV h105 v104) := by
  rw [pure_eq]; kernel_rfl

theorem eq_spec_l2Empty_l0 (s0 : List (List S)) (s3 : Int) (h : H) : Lp.spec_l2Empty 0 [lv s0, iv .i64 s3] h =
  pcallS (call Ev) Fn.spec_l2Count [lv s0] fun v201 =>
  gV1 v201 fun x202 =>
  gI .i64 x202 fun i203 =>
  vcase (bv (decide (s3 < i203)))
  (pcallS (call Ev) Fn.spec_l2Size [lv s0, iv .i64 s3] fun v206 =>
  gV1 v206 fun x207 =>
  gI .i64 x207 fun i208 =>
  vcase (bv (i208 == 0))
  (some (.ret (iv .i64 s3) h))
  (Lp.spec_l2Empty 0 [lv s0, iv .i64 (IntKind.i64.wrap (s3 + 1))] (tidy h [lv s0, iv .i64 (IntKind.i64.wrap (s3 + 1))] h)))
  (some (.done [lv s0] (tidy h [lv s0] h))) := by
  unfold Lp.spec_l2Empty; rw [loop_eq]; kernel_rfl

noncomputable def Jn.spec_l2Put_0 (i125 : Int) (i126 : Int) (a0 : List (List S)) (a1 : List (List S)) (i103 : Int) : Option (V) :=
  pcallS (call Ev) Fn.spec_l2Free [lv a0] fun v127 =>
  gV1 v127 fun x128 =>
  gI .i64 x128 fun i129 =>
  vcase (bv (decide (i129 < (IntKind.i64.wrap ((a1.length : Int) + i126)))))
  (some (.tup [.s (.fs []), .s (.int .i64 0), .s (.int .i64 9)]))
  (pcallS (call Ev) Fn.spec_l2Low [lv a0] fun v131 =>
  gV1 v131 fun x132 =>
  gI .i64 x132 fun i133 =>
  vcase (bv (decide ((IntKind.i64.wrap (i133 - (a1.length : Int))) < (IntKind.i64.wrap (2 + (IntKind.i64.wrap (2 * i125)))))))
  (some (.tup [.s (.fs []), .s (.int .i64 0), .s (.int .i64 8)]))
  (pcallF (call Ev) Fn.spec_l2Copy true [lv a0] (D 0) fun v135 h136 =>
  idxK 1 v135 (iv .i64 0) fun v137 =>
  stK 1 h136 v137 (iv .u8 (IntKind.u8.wrap i125)) fun h138 =>
  idxK 1 v135 (iv .i64 1) fun v139 =>
  stK 1 h138 v139 (iv .u8 (IntKind.u8.wrap (IntKind.i64.wrap (i133 - (a1.length : Int))))) fun h140 =>
  (call Ev Fn.spec_l2Stand [v135, iv .i64 i103, iv .i64 (IntKind.i64.wrap (i133 - (a1.length : Int))), lv a1] h140).bind fun p141 =>
  (V.toA v135).bind fun t142 =>
  frzV (tidy h140 [p141.1] p141.2) (.tup [t142, .s (.int .i64 i103), .s (.int .i64 0)])))

theorem pu_spec_l2Put (a0 : List (List S)) (a1 : List (List S)) : pureV (call Ev) Fn.spec_l2Put [lv a0, lv a1] =
  pcallS (call Ev) Fn.spec_l2Empty [lv a0] fun v101 =>
  gV1 v101 fun x102 =>
  gI .i64 x102 fun i103 =>
  pcallS (call Ev) Fn.spec_l2Count [lv a0] fun v104 =>
  gV1 v104 fun x105 =>
  gI .i64 x105 fun i106 =>
  vcase (bv (i103 == i106))
  (vcase (bv (decide (i106 ≥ 16)))
  (some (.tup [.s (.fs []), .s (.int .i64 0), .s (.int .i64 2)]))
  (Jn.spec_l2Put_0 (IntKind.i64.wrap (i106 + 1)) 2 a0 a1 i103))
  (Jn.spec_l2Put_0 i106 0 a0 a1 i103) := by
  rw [pure_eq]; kernel_rfl

theorem eq_spec_l2Right (a0_b a0_o : Nat) (h : H) : call Ev Fn.spec_l2Right [pv a0_b a0_o] h =
  (call Ev Fn.spec_l1Pick [pv a0_b a0_o, sv h.n 0 3] (h.new 1 [.int .i64 0, .int .i64 0, .int .i64 7])).bind fun p101 =>
  gV1 p101.1 fun x102 =>
  gI .i64 x102 fun i103 =>
  (pureV (call Ev) Fn.spec_l2New [iv .u8 (IntKind.u8.wrap i103)]).bind fun v104 =>
  gV1 v104 fun x105 =>
  gF x105 fun z106 =>
  (call Ev Fn.spec_l1Next [pv a0_b a0_o, iv .i64 14] (tidy (h.new 1 [.int .i64 0, .int .i64 0, .int .i64 7]) [p101.1] p101.2)).bind fun p107 =>
  gV1 p107.1 fun x108 =>
  gI .i64 x108 fun i109 =>
  (Lp.spec_l2Right 0 [pv a0_b a0_o, lv z106, iv .i64 i109] (tidy (tidy (h.new 1 [.int .i64 0, .int .i64 0, .int .i64 7]) [p101.1] p101.2) [p107.1] p107.2)).bind fun o110 => lcase o110 (fun l111 h112 =>
  (l111[0]?).bind fun w115 =>
  some (w115, h112)) (fun v113 h114 =>
  some (v113, h114)) := by
  rw [call_eq]; kernel_rfl

theorem eq_spec_l2Right_l0 (s0 : V) (s3 : V) (s4 : Int) (h : H) : Lp.spec_l2Right 0 [s0, s3, iv .i64 s4] h =
  vcase (bv (decide (s4 > 0)))
  ((call Ev Fn.spec_l1Next [s0, iv .i64 14] h).bind fun p203 =>
  gV1 p203.1 fun x204 =>
  gI .i64 x204 fun i205 =>
  (call Ev Fn.spec_l1Some [s0, iv .i64 (IntKind.i64.wrap (1 + i205))] (tidy h [p203.1] p203.2)).bind fun p206 =>
  (call Ev Fn.spec_l1Next [s0, iv .i64 5] (tidy (tidy h [p203.1] p203.2) [p206.1] p206.2)).bind fun p207 =>
  gV1 p207.1 fun x208 =>
  gI .i64 x208 fun i209 =>
  vcase (bv (i209 == 0))
  ((call Ev Fn.spec_l1Next [s0, iv .i64 6] (tidy (tidy (tidy h [p203.1] p203.2) [p206.1] p206.2) [p207.1] p207.2)).bind fun p212 =>
  gV1 p212.1 fun x213 =>
  gI .i64 x213 fun i214 =>
  (frzVs (tidy (tidy (tidy (tidy h [p203.1] p203.2) [p206.1] p206.2) [p207.1] p207.2) [p212.1] p212.2) [s3, iv .i64 i214]).bind fun l215 =>
  pcallS (call Ev) Fn.spec_l2Has (normVs [] l215) fun v216 =>
  gV1 v216 fun x217 =>
  gB x217 fun q218 =>
  vcase (bv q218)
  (bif ([s3, iv .i64 i214].all offV) then
  (frzVs (tidy (tidy (tidy (tidy h [p203.1] p203.2) [p206.1] p206.2) [p207.1] p207.2) [p212.1] p212.2) [s3, iv .i64 i214]).bind fun l220 =>
  (pureV (call Ev) Fn.spec_l2Drop (normVs [] l220)).bind fun v221 =>
  gV1 v221 fun x222 =>
  gF x222 fun z223 =>
  Lp.spec_l2Right 0 [s0, lv z223, iv .i64 (IntKind.i64.wrap (s4 - 1))] (tidy h [s0, lv z223, iv .i64 (IntKind.i64.wrap (s4 - 1))] (tidy (tidy (tidy (tidy h [p203.1] p203.2) [p206.1] p206.2) [p207.1] p207.2) [p212.1] p212.2))
  else none)
  (Lp.spec_l2Right 0 [s0, s3, iv .i64 (IntKind.i64.wrap (s4 - 1))] (tidy h [s0, s3, iv .i64 (IntKind.i64.wrap (s4 - 1))] (tidy (tidy (tidy (tidy h [p203.1] p203.2) [p206.1] p206.2) [p207.1] p207.2) [p212.1] p212.2))))
  (vcase (bv (i209 == 1))
  ((call Ev Fn.spec_l1Next [s0, iv .i64 6] (tidy (tidy (tidy h [p203.1] p203.2) [p206.1] p206.2) [p207.1] p207.2)).bind fun p225 =>
  gV1 p225.1 fun x226 =>
  gI .i64 x226 fun i227 =>
  (frzVs (tidy (tidy (tidy (tidy h [p203.1] p203.2) [p206.1] p206.2) [p207.1] p207.2) [p225.1] p225.2) [s3, iv .i64 i227]).bind fun l228 =>
  pcallS (call Ev) Fn.spec_l2Has (normVs [] l228) fun v229 =>
  gV1 v229 fun x230 =>
  gB x230 fun q231 =>
  vcase (bv q231)
  (bif ([s3, iv .i64 i227, p206.1].all offV) then
  (frzVs (tidy (tidy (tidy (tidy h [p203.1] p203.2) [p206.1] p206.2) [p207.1] p207.2) [p225.1] p225.2) [s3, iv .i64 i227, p206.1]).bind fun l233 =>
  (pureV (call Ev) Fn.spec_l2Set (normVs [] l233)).bind fun v234 =>
  gVT v234 fun u235 =>
  (u235[0]?).bind fun t236 =>
  gA1 t236 fun x237 =>
  gF x237 fun z238 =>
  (u235[1]?).bind fun t239 =>
  gA1 t239 fun x240 =>
  gI .i64 x240 fun i241 =>
  if u235.length = 2 then
  vcase (bv (i241 == 0))
  (Lp.spec_l2Right 0 [s0, lv z238, iv .i64 (IntKind.i64.wrap (s4 - 1))] (tidy h [s0, lv z238, iv .i64 (IntKind.i64.wrap (s4 - 1))] (tidy (tidy (tidy (tidy h [p203.1] p203.2) [p206.1] p206.2) [p207.1] p207.2) [p225.1] p225.2)))
  (Lp.spec_l2Right 0 [s0, s3, iv .i64 (IntKind.i64.wrap (s4 - 1))] (tidy h [s0, s3, iv .i64 (IntKind.i64.wrap (s4 - 1))] (tidy (tidy (tidy (tidy h [p203.1] p203.2) [p206.1] p206.2) [p207.1] p207.2) [p225.1] p225.2)))
  else none
  else none)
  (Lp.spec_l2Right 0 [s0, s3, iv .i64 (IntKind.i64.wrap (s4 - 1))] (tidy h [s0, s3, iv .i64 (IntKind.i64.wrap (s4 - 1))] (tidy (tidy (tidy (tidy h [p203.1] p203.2) [p206.1] p206.2) [p207.1] p207.2) [p225.1] p225.2))))
  (vcase (bv (i209 == 2))
  ((call Ev Fn.spec_l1Chance [s0, iv .i64 3] (tidy (tidy (tidy h [p203.1] p203.2) [p206.1] p206.2) [p207.1] p207.2)).bind fun p244 =>
  gV1 p244.1 fun x245 =>
  gB x245 fun q246 =>
  vcase (bv q246)
  (bif ([s3].all offV) then
  (frzVs (tidy (tidy (tidy (tidy h [p203.1] p203.2) [p206.1] p206.2) [p207.1] p207.2) [p244.1] p244.2) [s3]).bind fun l248 =>
  (pureV (call Ev) Fn.spec_l2Compact (normVs [] l248)).bind fun v249 =>
  gV1 v249 fun x250 =>
  gF x250 fun z251 =>
  Lp.spec_l2Right 0 [s0, lv z251, iv .i64 (IntKind.i64.wrap (s4 - 1))] (tidy h [s0, lv z251, iv .i64 (IntKind.i64.wrap (s4 - 1))] (tidy (tidy (tidy (tidy h [p203.1] p203.2) [p206.1] p206.2) [p207.1] p207.2) [p244.1] p244.2))
  else none)
  (Lp.spec_l2Right 0 [s0, s3, iv .i64 (IntKind.i64.wrap (s4 - 1))] (tidy h [s0, s3, iv .i64 (IntKind.i64.wrap (s4 - 1))] (tidy (tidy (tidy (tidy h [p203.1] p203.2) [p206.1] p206.2) [p207.1] p207.2) [p244.1] p244.2))))
  (bif ([s3, p206.1].all offV) then
  (frzVs (tidy (tidy (tidy h [p203.1] p203.2) [p206.1] p206.2) [p207.1] p207.2) [s3, p206.1]).bind fun l252 =>
  (pureV (call Ev) Fn.spec_l2Put (normVs [] l252)).bind fun v253 =>
  gVT v253 fun u254 =>
  (u254[0]?).bind fun t255 =>
  gA1 t255 fun x256 =>
  gF x256 fun z257 =>
  (u254[1]?).bind fun t258 =>
  gA1 t258 fun x259 =>
  gI .i64 x259 fun i260 =>
  (u254[2]?).bind fun t261 =>
  gA1 t261 fun x262 =>
  gI .i64 x262 fun i263 =>
  if u254.length = 3 then
  vcase (bv (i263 == 0))
  (Lp.spec_l2Right 0 [s0, lv z257, iv .i64 (IntKind.i64.wrap (s4 - 1))] (tidy h [s0, lv z257, iv .i64 (IntKind.i64.wrap (s4 - 1))] (tidy (tidy (tidy h [p203.1] p203.2) [p206.1] p206.2) [p207.1] p207.2)))
  (Lp.spec_l2Right 0 [s0, s3, iv .i64 (IntKind.i64.wrap (s4 - 1))] (tidy h [s0, s3, iv .i64 (IntKind.i64.wrap (s4 - 1))] (tidy (tidy (tidy h [p203.1] p203.2) [p206.1] p206.2) [p207.1] p207.2)))
  else none
  else none))))
  (some (.done [s3] (tidy h [s3] h))) := by
  unfold Lp.spec_l2Right; rw [loop_eq]; kernel_rfl

theorem eq_spec_l3Two (a0_b a0_o : Nat) (h : H) : call Ev Fn.spec_l3Two [pv a0_b a0_o] h =
  (call Ev Fn.spec_l2Right [pv a0_b a0_o] h).bind fun p101 =>
  (frzVs (tidy h [p101.1] p101.2) [p101.1]).bind fun l102 =>
  pcallF (call Ev) Fn.spec_l2Copy ([p101.1].all offV) (normVs [] l102) (tidy h [p101.1] p101.2) fun v103 h104 =>
  (call Ev Fn.spec_l1Next [pv a0_b a0_o, iv .i64 9] h104).bind fun p105 =>
  gV1 p105.1 fun x106 =>
  gI .i64 x106 fun i107 =>
  (Lp.spec_l3Two 0 [pv a0_b a0_o, p101.1, v103, iv .i64 i107] (tidy h104 [p105.1] p105.2)).bind fun o108 => lcase o108 (fun l109 h110 =>
  (l109[0]?).bind fun w113 =>
  (l109[1]?).bind fun w114 =>
  (V.toA w113).bind fun t115 =>
  (V.toA w114).bind fun t116 =>
  some (.tup [t115, t116], h110)) (fun v111 h112 =>
  some (v111, h112)) := by
  rw [call_eq]; kernel_rfl

theorem eq_spec_l3Two_l0 (s0 : V) (s4 : V) (s5 : V) (s6 : Int) (h : H) : Lp.spec_l3Two 0 [s0, s4, s5, iv .i64 s6] h =
  vcase (bv (decide (s6 > 0)))
  ((call Ev Fn.spec_l1Next [s0, iv .i64 64] h).bind fun p203 =>
  gV1 p203.1 fun x204 =>
  gI .i64 x204 fun i205 =>
  (call Ev Fn.spec_l1Next [s0, iv .i64 256] (tidy h [p203.1] p203.2)).bind fun p206 =>
  gV1 p206.1 fun x207 =>
  gI .i64 x207 fun i208 =>
  idxK 1 s5 (iv .i64 i205) fun v209 =>
  stK 1 (tidy (tidy h [p203.1] p203.2) [p206.1] p206.2) v209 (iv .u8 (IntKind.u8.wrap i208)) fun h210 =>
  Lp.spec_l3Two 0 [s0, s4, s5, iv .i64 (IntKind.i64.wrap (s6 - 1))] (tidy h [s0, s4, s5, iv .i64 (IntKind.i64.wrap (s6 - 1))] h210))
  (some (.done [s4, s5] (tidy h [s4, s5] h))) := by
  unfold Lp.spec_l3Two; rw [loop_eq]; kernel_rfl

theorem pu_spec_DrawDiffBytes (a0 : List (List S)) : pureV (call Ev) Fn.spec_DrawDiffBytes [lv a0] =
  pcallF (call Ev) Fn.spec_l1Source true [lv a0] (D 0) fun v101 h102 =>
  (call Ev Fn.spec_l3Two [v101] h102).bind fun p103 =>
  gVT p103.1 fun u104 =>
  (u104[0]?).bind fun t105 =>
  gA1 t105 fun x106 =>
  (u104[1]?).bind fun t107 =>
  gA1 t107 fun x108 =>
  if u104.length = 2 then
  (call Ev Fn.spec_l1Chance [v101, iv .i64 12] (tidy h102 [p103.1] p103.2)).bind fun p109 =>
  gV1 p109.1 fun x110 =>
  gB x110 fun q111 =>
  vcase (bv q111)
  (slK 1 (tidy (tidy h102 [p103.1] p103.2) [p109.1] p109.2) (.s x108) (some (iv .i64 1)) none fun v113 =>
  (V.toA v113).bind fun t114 =>
  frzV (tidy (tidy h102 [p103.1] p103.2) [p109.1] p109.2) (.tup [.s x106, t114]))
  (frzV (tidy (tidy h102 [p103.1] p103.2) [p109.1] p109.2) (.tup [.s x106, .s x108]))
  else none := by
  rw [pure_eq]; kernel_rfl

theorem pu_impl_diff (a0 : List (List S)) (a1 : List (List S)) : pureV (call Ev) Fn.impl_diff [lv a0, lv a1] =
  (Lp.impl_diff 0 [lv a0, lv a1, .s (.sl none 0), iv .i64 0] (D 0)).bind fun o101 => lcase o101 (fun l102 h103 =>
  (l102[0]?).bind fun w106 =>
  frzV h103 w106) (fun v104 h105 =>
  frzV h105 v104) := by
  rw [pure_eq]; kernel_rfl

theorem eq_impl_diff_l0 (s0 : List (List S)) (s1 : List (List S)) (s5 : V) (s6 : Int) (h : H) : Lp.impl_diff 0 [lv s0, lv s1, s5, iv .i64 s6] h =
  vcase (bv (decide (s6 < 64)))
  (idxF 1 s0 s6 fun r203 =>
  (r203[0]?).bind fun x204 =>
  gI .u8 x204 fun i205 =>
  idxF 1 s1 s6 fun r206 =>
  (r206[0]?).bind fun x207 =>
  gI .u8 x207 fun i208 =>
  vcase (bv (i205 == i208))
  (Lp.impl_diff 0 [lv s0, lv s1, s5, iv .i64 (IntKind.i64.wrap (s6 + 1))] (tidy h [lv s0, lv s1, s5, iv .i64 (IntKind.i64.wrap (s6 + 1))] h))
  ((Lp.impl_diff 2 [lv s0, lv s1, s5, iv .i64 s6, iv .i64 s6] h).bind fun o210 => lcase o210 (fun l211 h212 =>
  (l211[0]?).bind fun w215 =>
  gV1 w215 fun x216 =>
  gF x216 fun z217 =>
  (l211[1]?).bind fun w218 =>
  gV1 w218 fun x219 =>
  gF x219 fun z220 =>
  (l211[2]?).bind fun w221 =>
  (l211[3]?).bind fun w222 =>
  gV1 w222 fun x223 =>
  gI .i64 x223 fun i224 =>
  (l211[4]?).bind fun w225 =>
  gV1 w225 fun x226 =>
  gI .i64 x226 fun i227 =>
  slF 1 z220 (some (iv .i64 i224)) (some (iv .i64 i227)) fun z228 =>
  (pureV (call Ev) Fn.impl_copied [lv z228]).bind fun v229 =>
  gV1 v229 fun x230 =>
  gF x230 fun z231 =>
  (appS 2 (h212.new 2 [.int .i64 i224, .fs z231]) w221 (sv h212.n 0 1)).bind fun p232 =>
  Lp.impl_diff 0 [lv z217, lv z220, p232.1, iv .i64 (IntKind.i64.wrap (i227 + 1))] (tidy h [lv z217, lv z220, p232.1, iv .i64 (IntKind.i64.wrap (i227 + 1))] p232.2)) (fun v213 h214 =>
  some (.ret v213 h214))))
  (some (.done [s5] (tidy h [s5] h))) := by
  unfold Lp.impl_diff; rw [loop_eq]; kernel_rfl

theorem eq_impl_diff_l2 (s0 : List (List S)) (s1 : List (List S)) (s5 : V) (s6 : Int) (s7 : Int) (h : H) : Lp.impl_diff 2 [lv s0, lv s1, s5, iv .i64 s6, iv .i64 s7] h =
  vcase (bv (decide (s7 < 64)))
  (idxF 1 s0 s7 fun r402 =>
  (r402[0]?).bind fun x403 =>
  gI .u8 x403 fun i404 =>
  idxF 1 s1 s7 fun r405 =>
  (r405[0]?).bind fun x406 =>
  gI .u8 x406 fun i407 =>
  vcase (bv (i404 != i407))
  (Lp.impl_diff 2 [lv s0, lv s1, s5, iv .i64 s6, iv .i64 (IntKind.i64.wrap (s7 + 1))] (tidy h [lv s0, lv s1, s5, iv .i64 s6, iv .i64 (IntKind.i64.wrap (s7 + 1))] h))
  (some (.done [lv s0, lv s1, s5, iv .i64 s6, iv .i64 s7] (tidy h [lv s0, lv s1, s5, iv .i64 s6, iv .i64 s7] h))))
  (some (.done [lv s0, lv s1, s5, iv .i64 s6, iv .i64 s7] (tidy h [lv s0, lv s1, s5, iv .i64 s6, iv .i64 s7] h))) := by
  unfold Lp.impl_diff; rw [loop_eq]; kernel_rfl

theorem pu_impl_DiffBytes (a0 : List (List S)) (a1 : List (List S)) : pureV (call Ev) Fn.impl_DiffBytes [lv a0, lv a1] =
  vcase (bv ((a0.length : Int) != 64))
  (some (.agg [.int .i64 1, .fs []]))
  (vcase (bv ((a1.length : Int) != 64))
  (some (.agg [.int .i64 1, .fs []]))
  ((pureV (call Ev) Fn.impl_diff [lv a0, lv a1]).bind fun v106 =>
  gV1 v106 fun x107 =>
  gF x107 fun z108 =>
  some (.agg [.int .i64 0, .fs z108]))) := by
  rw [pure_eq]; kernel_rfl

theorem eq_spec_l3Diff (a0 : List (List S)) (a1 : List (List S)) (n : Nat) : call Ev Fn.spec_l3Diff [lv a0, lv a1] (D n) =
  (Lp.spec_l3Diff 0 [lv a0, lv a1, sv ((D n).n) 0 0, bv false, iv .i64 0] ((D n).new 2 [])).bind fun o101 => lcase o101 (fun l102 h103 =>
  (l102[0]?).bind fun w106 =>
  some (w106, h103)) (fun v104 h105 =>
  some (v104, h105)) := by
  rw [call_eq]; kernel_rfl

theorem eq_spec_l3Diff_l0 (s0 : List (List S)) (s1 : List (List S)) (s5 : V) (s6 : Bool) (s7 : Int) (h : H) : Lp.spec_l3Diff 0 [lv s0, lv s1, s5, bv s6, iv .i64 s7] h =
  vcase (bv (decide (s7 < (s0.length : Int))))
  (idxF 1 s0 s7 fun r203 =>
  (r203[0]?).bind fun x204 =>
  gI .u8 x204 fun i205 =>
  idxF 1 s1 s7 fun r206 =>
  (r206[0]?).bind fun x207 =>
  gI .u8 x207 fun i208 =>
  vcase (bv (i205 == i208))
  (Lp.spec_l3Diff 0 [lv s0, lv s1, s5, bv false, iv .i64 (IntKind.i64.wrap (s7 + 1))] (tidy h [lv s0, lv s1, s5, bv false, iv .i64 (IntKind.i64.wrap (s7 + 1))] h))
  (vcase (bv (!s6))
  ((appS 2 (h.new 2 [.int .i64 s7, .sl none 0]) s5 (sv h.n 0 1)).bind fun p211 =>
  (lenV (.sl 97) p211.1).bind fun v212 =>
  gV1 v212 fun x213 =>
  gI .i64 x213 fun i214 =>
  idxK 2 p211.1 (iv .i64 (IntKind.i64.wrap (i214 - 1))) fun v215 =>
  (notNil v215).bind fun v216 =>
  (padd 1 v216).bind fun v217 =>
  ldK (.one (.f)) ⟨1, 24, [.sl none 0], false, .sl 5, false⟩ p211.2 v217 fun v218 =>
  idxF 1 s1 s7 fun r219 =>
  (r219[0]?).bind fun x220 =>
  gI .u8 x220 fun i221 =>
  hchk p211.2 (p211.2.new 1 [.int .u8 i221]) (
  (appS 1 (p211.2.new 1 [.int .u8 i221]) v218 (sv p211.2.n 0 1)).bind fun p222 =>
  (notNil v215).bind fun v223 =>
  (padd 1 v223).bind fun v224 =>
  stK 1 p222.2 v224 p222.1 fun h225 =>
  Lp.spec_l3Diff 0 [lv s0, lv s1, p211.1, bv true, iv .i64 (IntKind.i64.wrap (s7 + 1))] (tidy h [lv s0, lv s1, p211.1, bv true, iv .i64 (IntKind.i64.wrap (s7 + 1))] h225)))
  ((lenV (.sl 97) s5).bind fun v226 =>
  gV1 v226 fun x227 =>
  gI .i64 x227 fun i228 =>
  idxK 2 s5 (iv .i64 (IntKind.i64.wrap (i228 - 1))) fun v229 =>
  (notNil v229).bind fun v230 =>
  (padd 1 v230).bind fun v231 =>
  ldK (.one (.f)) ⟨1, 24, [.sl none 0], false, .sl 5, false⟩ h v231 fun v232 =>
  idxF 1 s1 s7 fun r233 =>
  (r233[0]?).bind fun x234 =>
  gI .u8 x234 fun i235 =>
  hchk h (h.new 1 [.int .u8 i235]) (
  (appS 1 (h.new 1 [.int .u8 i235]) v232 (sv h.n 0 1)).bind fun p236 =>
  (notNil v229).bind fun v237 =>
  (padd 1 v237).bind fun v238 =>
  stK 1 p236.2 v238 p236.1 fun h239 =>
  Lp.spec_l3Diff 0 [lv s0, lv s1, s5, bv true, iv .i64 (IntKind.i64.wrap (s7 + 1))] (tidy h [lv s0, lv s1, s5, bv true, iv .i64 (IntKind.i64.wrap (s7 + 1))] h239)))))
  (some (.done [s5] (tidy h [s5] h))) := by
  unfold Lp.spec_l3Diff; rw [loop_eq]; kernel_rfl

theorem pu_spec_DiffBytes (a0 : List (List S)) (a1 : List (List S)) : pureV (call Ev) Fn.spec_DiffBytes [lv a0, lv a1] =
  vcase (bv ((a0.length : Int) != 64))
  (some (.agg [.int .i64 1, .fs []]))
  (vcase (bv ((a1.length : Int) != 64))
  (some (.agg [.int .i64 1, .fs []]))
  ((pureV (call Ev) Fn.spec_l3Diff [lv a0, lv a1]).bind fun v106 =>
  gV1 v106 fun x107 =>
  gF x107 fun z108 =>
  some (.agg [.int .i64 0, .fs z108]))) := by
  rw [pure_eq]; kernel_rfl

theorem pu_impl_RunsFault (a0 : List (List S)) : pureV (call Ev) Fn.impl_RunsFault [lv a0] =
  vcase (bv (decide ((a0.length : Int) > 64)))
  (some (iv .i64 2))
  ((Lp.impl_RunsFault 0 [iv .i64 0, lv a0, iv .i64 (a0.length : Int), iv .i64 0] (D 0)).bind fun o102 => lcase o102 (fun l103 h104 =>
  some (iv .i64 0)) (fun v105 h106 =>
  frzV h106 v105)) := by
  rw [pure_eq]; kernel_rfl

theorem eq_impl_RunsFault_l0 (s3 : Int) (s10 : List (List S)) (s11 : Int) (s12 : Int) (h : H) : Lp.impl_RunsFault 0 [iv .i64 s3, lv s10, iv .i64 s11, iv .i64 s12] h =
  vcase (bv (decide (s12 < s11)))
  (idxF 2 s10 s12 fun r203 =>
  (rowN 2 r203 0).bind fun c204 =>
  (c204[0]?).bind fun x205 =>
  gI .i64 x205 fun i206 =>
  (c204[1]?).bind fun x207 =>
  gF x207 fun z208 =>
  if c204.length = 2 then
  stK 2 (h.new 0 [.int .i64 0, .sl none 0]) (pv h.n 0) (.agg [.int .i64 i206, .fs z208]) fun h209 =>
  (load1 h209 (pv h.n 1)).bind fun x210 =>
  (lenV (.sl 5) (.s x210)).bind fun v211 =>
  gV1 v211 fun x212 =>
  gI .i64 x212 fun i213 =>
  (load1 h209 (pv h.n 0)).bind fun x214 =>
  gI .i64 x214 fun i215 =>
  pcallS (call Ev) Fn.impl_in [iv .i64 i215, iv .i64 0, iv .i64 63] fun v216 =>
  gV1 v216 fun x217 =>
  gB x217 fun q218 =>
  vcase (bv (!q218))
  (some (.ret (iv .i64 3) h209))
  (pcallS (call Ev) Fn.impl_in [iv .i64 i213, iv .i64 1, iv .i64 64] fun v221 =>
  gV1 v221 fun x222 =>
  gB x222 fun q223 =>
  vcase (bv (!q223))
  (some (.ret (iv .i64 3) h209))
  ((load1 h209 (pv h.n 0)).bind fun x229 =>
  gI .i64 x229 fun i230 =>
  vcase (bv (decide ((IntKind.i64.wrap (i230 + i213)) > 64)))
  (some (.ret (iv .i64 3) h209))
  ((load1 h209 (pv h.n 0)).bind fun x234 =>
  gI .i64 x234 fun i235 =>
  vcase (bv (decide (i235 < s3)))
  (some (.ret (iv .i64 1) h209))
  ((load1 h209 (pv h.n 0)).bind fun x237 =>
  gI .i64 x237 fun i238 =>
  Lp.impl_RunsFault 0 [iv .i64 (IntKind.i64.wrap ((IntKind.i64.wrap (i238 + i213)) + 1)), lv s10, iv .i64 s11, iv .i64 (IntKind.i64.wrap (s12 + 1))] (tidy h [iv .i64 (IntKind.i64.wrap ((IntKind.i64.wrap (i238 + i213)) + 1)), lv s10, iv .i64 s11, iv .i64 (IntKind.i64.wrap (s12 + 1))] h209)))))
  else none)
  (some (.done [] (tidy h [] h))) := by
  unfold Lp.impl_RunsFault; rw [loop_eq]; kernel_rfl

theorem pu_impl_applied (a0 : List (List S)) (a1 : List (List S)) : pureV (call Ev) Fn.impl_applied [lv a0, lv a1] =
  pcallF (call Ev) Fn.impl_copied true [lv a0] (D 0) fun v101 h102 =>
  (Lp.impl_applied 0 [v101, lv a1, iv .i64 (a1.length : Int), iv .i64 0] h102).bind fun o103 => lcase o103 (fun l104 h105 =>
  (l104[0]?).bind fun w108 =>
  frzV h105 w108) (fun v106 h107 =>
  frzV h107 v106) := by
  rw [pure_eq]; kernel_rfl

theorem eq_impl_applied_l0 (s5 : V) (s10 : List (List S)) (s11 : Int) (s12 : Int) (h : H) : Lp.impl_applied 0 [s5, lv s10, iv .i64 s11, iv .i64 s12] h =
  vcase (bv (decide (s12 < s11)))
  (idxF 2 s10 s12 fun r203 =>
  (rowN 2 r203 0).bind fun c204 =>
  (c204[0]?).bind fun x205 =>
  gI .i64 x205 fun i206 =>
  (c204[1]?).bind fun x207 =>
  gF x207 fun z208 =>
  if c204.length = 2 then
  stK 2 (h.new 0 [.int .i64 0, .sl none 0]) (pv h.n 0) (.agg [.int .i64 i206, .fs z208]) fun h209 =>
  (load1 h209 (pv h.n 0)).bind fun x210 =>
  gI .i64 x210 fun i211 =>
  slK 1 h209 s5 (some (iv .i64 i211)) none fun v212 =>
  (load1 h209 (pv h.n 1)).bind fun x213 =>
  (copS 1 h209 v212 (.s x213)).bind fun p214 =>
  gV1 p214.1 fun x215 =>
  gI .i64 x215 fun i216 =>
  Lp.impl_applied 0 [s5, lv s10, iv .i64 s11, iv .i64 (IntKind.i64.wrap (s12 + 1))] (tidy h [s5, lv s10, iv .i64 s11, iv .i64 (IntKind.i64.wrap (s12 + 1))] p214.2)
  else none)
  (some (.done [s5] (tidy h [s5] h))) := by
  unfold Lp.impl_applied; rw [loop_eq]; kernel_rfl

theorem pu_impl_ApplyRuns (a0 : List (List S)) (a1 : List (List S)) : pureV (call Ev) Fn.impl_ApplyRuns [lv a0, lv a1] =
  vcase (bv ((a0.length : Int) != 64))
  (some (.agg [.int .i64 1, .fs []]))
  (pcallS (call Ev) Fn.impl_RunsFault [lv a1] fun v102 =>
  gV1 v102 fun x103 =>
  gI .i64 x103 fun i104 =>
  vcase (bv (i104 != 0))
  (some (.agg [.int .i64 i104, .fs []]))
  ((pureV (call Ev) Fn.impl_applied [lv a0, lv a1]).bind fun v106 =>
  gV1 v106 fun x107 =>
  gF x107 fun z108 =>
  some (.agg [.int .i64 0, .fs z108]))) := by
  rw [pure_eq]; kernel_rfl

theorem pu_impl_InverseRuns (a0 : List (List S)) (a1 : List (List S)) : pureV (call Ev) Fn.impl_InverseRuns [lv a0, lv a1] =
  vcase (bv ((a0.length : Int) != 64))
  (some (.agg [.int .i64 1, .fs []]))
  (pcallS (call Ev) Fn.impl_RunsFault [lv a1] fun v102 =>
  gV1 v102 fun x103 =>
  gI .i64 x103 fun i104 =>
  vcase (bv (i104 != 0))
  (some (.agg [.int .i64 i104, .fs []]))
  ((Lp.impl_InverseRuns 0 [lv a0, pv 0 0, .s (.sl none 0), lv a1, iv .i64 (a1.length : Int), iv .i64 0] ((D 0).new 0 [.int .i64 0, .sl none 0])).bind fun o106 => lcase o106 (fun l107 h108 =>
  (l107[0]?).bind fun w111 =>
  (l107[1]?).bind fun w112 =>
  cellsK w112 fun c113 =>
  if c113.length = 1 ∧ 1 + 1 ≤ ([.int .i64 0, .sl none 0] : List S).length then
  ((setAt ([.int .i64 0, .sl none 0] : List S) 1 c113)[0]?).bind fun x114 =>
  gI .i64 x114 fun i115 =>
  ((setAt ([.int .i64 0, .sl none 0] : List S) 1 c113)[1]?).bind fun x116 =>
  if (setAt ([.int .i64 0, .sl none 0] : List S) 1 c113).length = 2 then
  stK 2 h108 w111 (.agg [.int .i64 i115, x116]) fun h117 =>
  ldT ⟨2, 32, [.int .i64 0, .sl none 0], true, .st [(0, 2), (1, 88)], false⟩ h117 w111 fun v118 =>
  frzV h117 v118
  else none
  else none) (fun v109 h110 =>
  frzV h110 v109))) := by
  rw [pure_eq]; kernel_rfl

theorem eq_impl_InverseRuns_l0 (s0 : List (List S)) (s4 : V) (s6 : V) (s19 : List (List S)) (s20 : Int) (s21 : Int) (h : H) : Lp.impl_InverseRuns 0 [lv s0, s4, s6, lv s19, iv .i64 s20, iv .i64 s21] h =
  vcase (bv (decide (s21 < s20)))
  (idxF 2 s19 s21 fun r203 =>
  (rowN 2 r203 0).bind fun c204 =>
  (c204[0]?).bind fun x205 =>
  gI .i64 x205 fun i206 =>
  (c204[1]?).bind fun x207 =>
  gF x207 fun z208 =>
  if c204.length = 2 then
  stK 2 (h.new 0 [.int .i64 0, .sl none 0]) (pv h.n 0) (.agg [.int .i64 i206, .fs z208]) fun h209 =>
  (load1 h209 (pv h.n 0)).bind fun x210 =>
  gI .i64 x210 fun i211 =>
  (load1 h209 (pv h.n 0)).bind fun x212 =>
  gI .i64 x212 fun i213 =>
  (load1 h209 (pv h.n 0)).bind fun x214 =>
  gI .i64 x214 fun i215 =>
  (load1 h209 (pv h.n 1)).bind fun x216 =>
  (lenV (.sl 5) (.s x216)).bind fun v217 =>
  gV1 v217 fun x218 =>
  gI .i64 x218 fun i219 =>
  slF 1 s0 (some (iv .i64 i213)) (some (iv .i64 (IntKind.i64.wrap (i215 + i219)))) fun z220 =>
  (pureV (call Ev) Fn.impl_copied [lv z220]).bind fun v221 =>
  gV1 v221 fun x222 =>
  gF x222 fun z223 =>
  hchk h209 h209 (
  hchk h209 h209 (
  hchk h209 (h209.new 2 [.int .i64 i211, .fs z223]) (
  (appS 2 (h209.new 2 [.int .i64 i211, .fs z223]) s6 (sv h209.n 0 1)).bind fun p224 =>
  Lp.impl_InverseRuns 0 [lv s0, s4, p224.1, lv s19, iv .i64 s20, iv .i64 (IntKind.i64.wrap (s21 + 1))] (tidy h [lv s0, s4, p224.1, lv s19, iv .i64 s20, iv .i64 (IntKind.i64.wrap (s21 + 1))] p224.2))))
  else none)
  (some (.done [s4, s6] (tidy h [s4, s6] h))) := by
  unfold Lp.impl_InverseRuns; rw [loop_eq]; kernel_rfl

theorem eq_spec_l2Bent (a0_b a0_o : Nat) (h : H) : call Ev Fn.spec_l2Bent [pv a0_b a0_o] h =
  (call Ev Fn.spec_l2Right [pv a0_b a0_o] h).bind fun p101 =>
  (call Ev Fn.spec_l1Next [pv a0_b a0_o, iv .i64 12] (tidy h [p101.1] p101.2)).bind fun p102 =>
  gV1 p102.1 fun x103 =>
  gI .i64 x103 fun i104 =>
  vcase (bv (i104 == 0))
  (slK 1 (tidy (tidy h [p101.1] p101.2) [p102.1] p102.2) p101.1 (some (iv .i64 1)) none fun v107 =>
  some (v107, tidy (tidy h [p101.1] p101.2) [p102.1] p102.2))
  (vcase (bv (i104 == 1))
  ((call Ev Fn.spec_l1Next [pv a0_b a0_o, iv .i64 12] (tidy (tidy h [p101.1] p101.2) [p102.1] p102.2)).bind fun p109 =>
  gV1 p109.1 fun x110 =>
  gI .i64 x110 fun i111 =>
  (call Ev Fn.spec_l1Next [pv a0_b a0_o, iv .i64 70] (tidy (tidy (tidy h [p101.1] p101.2) [p102.1] p102.2) [p109.1] p109.2)).bind fun p112 =>
  gV1 p112.1 fun x113 =>
  gI .i64 x113 fun i114 =>
  idxK 1 p101.1 (iv .i64 i111) fun v115 =>
  stK 1 (tidy (tidy (tidy (tidy h [p101.1] p101.2) [p102.1] p102.2) [p109.1] p109.2) [p112.1] p112.2) v115 (iv .u8 (IntKind.u8.wrap i114)) fun h116 =>
  some (p101.1, h116))
  (some (p101.1, tidy (tidy h [p101.1] p101.2) [p102.1] p102.2))) := by
  rw [call_eq]; kernel_rfl

theorem eq_spec_l3Bent (a0_b a0_o : Nat) (h : H) : call Ev Fn.spec_l3Bent [pv a0_b a0_o] h =
  (call Ev Fn.spec_l3Two [pv a0_b a0_o] h).bind fun p101 =>
  gVT p101.1 fun u102 =>
  (u102[0]?).bind fun t103 =>
  gA1 t103 fun x104 =>
  (u102[1]?).bind fun t105 =>
  gA1 t105 fun x106 =>
  if u102.length = 2 then
  (frzVs (tidy h [p101.1] p101.2) [.s x104, .s x106]).bind fun l107 =>
  pcallF (call Ev) Fn.spec_l3Diff ([.s x104, .s x106].all offV) (normVs [] l107) (tidy h [p101.1] p101.2) fun v108 h109 =>
  (call Ev Fn.spec_l1Next [pv a0_b a0_o, iv .i64 10] h109).bind fun p110 =>
  gV1 p110.1 fun x111 =>
  gI .i64 x111 fun i112 =>
  vcase (bv (i112 == 0))
  ((call Ev Fn.spec_l1Pick [pv a0_b a0_o, sv ((tidy h109 [p110.1] p110.2).n) 0 4] ((tidy h109 [p110.1] p110.2).new 1 [.int .i64 (-1), .int .i64 0, .int .i64 63, .int .i64 64])).bind fun p115 =>
  gV1 p115.1 fun x116 =>
  gI .i64 x116 fun i117 =>
  (call Ev Fn.spec_l1Next [pv a0_b a0_o, iv .i64 4] (tidy ((tidy h109 [p110.1] p110.2).new 1 [.int .i64 (-1), .int .i64 0, .int .i64 63, .int .i64 64]) [p115.1] p115.2)).bind fun p118 =>
  gV1 p118.1 fun x119 =>
  gI .i64 x119 fun i120 =>
  (call Ev Fn.spec_l1Some [pv a0_b a0_o, iv .i64 i120] (tidy (tidy ((tidy h109 [p110.1] p110.2).new 1 [.int .i64 (-1), .int .i64 0, .int .i64 63, .int .i64 64]) [p115.1] p115.2) [p118.1] p118.2)).bind fun p121 =>
  cellsK p121.1 fun c122 =>
  if c122.length = 1 ∧ 1 + 1 ≤ ([.int .i64 i117, .sl none 0] : List S).length then
  ((setAt ([.int .i64 i117, .sl none 0] : List S) 1 c122)[0]?).bind fun x123 =>
  gI .i64 x123 fun i124 =>
  ((setAt ([.int .i64 i117, .sl none 0] : List S) 1 c122)[1]?).bind fun x125 =>
  if (setAt ([.int .i64 i117, .sl none 0] : List S) 1 c122).length = 2 then
  (appS 2 ((tidy (tidy (tidy ((tidy h109 [p110.1] p110.2).new 1 [.int .i64 (-1), .int .i64 0, .int .i64 63, .int .i64 64]) [p115.1] p115.2) [p118.1] p118.2) [p121.1] p121.2).new 2 [.int .i64 i124, x125]) v108 (sv ((tidy (tidy (tidy ((tidy h109 [p110.1] p110.2).new 1 [.int .i64 (-1), .int .i64 0, .int .i64 63, .int .i64 64]) [p115.1] p115.2) [p118.1] p118.2) [p121.1] p121.2).n) 0 1)).bind fun p126 =>
  some (p126.1, p126.2)
  else none
  else none)
  (vcase (bv (i112 == 1))
  ((mkSl 2 [.int .i64 0, .sl none 0] (tidy h109 [p110.1] p110.2) (iv .i64 65) (iv .i64 65)).bind fun p128 =>
  some (p128.1, p128.2))
  (some (v108, tidy h109 [p110.1] p110.2)))
  else none := by
  rw [call_eq]; kernel_rfl

theorem pu_spec_DrawApplyRuns (a0 : List (List S)) : pureV (call Ev) Fn.spec_DrawApplyRuns [lv a0] =
  pcallF (call Ev) Fn.spec_l1Source true [lv a0] (D 0) fun v101 h102 =>
  (call Ev Fn.spec_l2Bent [v101] h102).bind fun p103 =>
  (call Ev Fn.spec_l3Bent [v101] (tidy h102 [p103.1] p103.2)).bind fun p104 =>
  (V.toA p103.1).bind fun t105 =>
  (V.toA p104.1).bind fun t106 =>
  frzV (tidy (tidy h102 [p103.1] p103.2) [p104.1] p104.2) (.tup [t105, t106]) := by
  rw [pure_eq]; kernel_rfl

theorem pu_laws_lwSame (a0 : List (List S)) (a1 : List (List S)) : pureV (call Ev) Fn.laws_lwSame [lv a0, lv a1] =
  (fsStr a0).bind fun v101 =>
  gV1 v101 fun x102 =>
  gS x102 fun y103 =>
  (fsStr a1).bind fun v104 =>
  gV1 v104 fun x105 =>
  gS x105 fun y106 =>
  some (bv ((y103 : ByteArray).toList == (y106 : ByteArray).toList)) := by
  rw [pure_eq]; kernel_rfl

theorem pu_spec_l3Fault (a0 : List (List S)) : pureV (call Ev) Fn.spec_l3Fault [lv a0] =
  vcase (bv (decide ((a0.length : Int) > 64)))
  (some (iv .i64 2))
  ((Lp.spec_l3Fault 0 [lv a0, iv .i64 0] (D 0)).bind fun o102 => lcase o102 (fun l103 h104 =>
  some (iv .i64 0)) (fun v105 h106 =>
  frzV h106 v105)) := by
  rw [pure_eq]; kernel_rfl

theorem eq_spec_l3Fault_l0 (s0 : List (List S)) (s3 : Int) (h : H) : Lp.spec_l3Fault 0 [lv s0, iv .i64 s3] h =
  vcase (bv (decide (s3 < (s0.length : Int))))
  (idxF 2 s0 s3 fun r203 =>
  (r203[1]?).bind fun x204 =>
  gF x204 fun z205 =>
  idxF 2 s0 s3 fun r206 =>
  (r206[0]?).bind fun x207 =>
  gI .i64 x207 fun i208 =>
  pcallS (call Ev) Fn.spec_l1In [iv .i64 i208, iv .i64 0, iv .i64 63] fun v209 =>
  gV1 v209 fun x210 =>
  gB x210 fun q211 =>
  vcase (bv (!q211))
  (some (.ret (iv .i64 3) h))
  (pcallS (call Ev) Fn.spec_l1In [iv .i64 (z205.length : Int), iv .i64 1, iv .i64 64] fun v214 =>
  gV1 v214 fun x215 =>
  gB x215 fun q216 =>
  vcase (bv (!q216))
  (some (.ret (iv .i64 3) h))
  (idxF 2 s0 s3 fun r222 =>
  (r222[0]?).bind fun x223 =>
  gI .i64 x223 fun i224 =>
  vcase (bv (decide ((IntKind.i64.wrap (i224 + (z205.length : Int))) > 64)))
  (some (.ret (iv .i64 3) h))
  (vcase (bv (decide (s3 > 0)))
  (idxF 2 s0 s3 fun r229 =>
  (r229[0]?).bind fun x230 =>
  gI .i64 x230 fun i231 =>
  idxF 2 s0 (IntKind.i64.wrap (s3 - 1)) fun r232 =>
  (r232[0]?).bind fun x233 =>
  gI .i64 x233 fun i234 =>
  idxF 2 s0 (IntKind.i64.wrap (s3 - 1)) fun r235 =>
  (r235[1]?).bind fun x236 =>
  gF x236 fun z237 =>
  vcase (bv (decide (i231 ≤ (IntKind.i64.wrap (i234 + (z237.length : Int))))))
  (some (.ret (iv .i64 1) h))
  (Lp.spec_l3Fault 0 [lv s0, iv .i64 (IntKind.i64.wrap (s3 + 1))] (tidy h [lv s0, iv .i64 (IntKind.i64.wrap (s3 + 1))] h)))
  (Lp.spec_l3Fault 0 [lv s0, iv .i64 (IntKind.i64.wrap (s3 + 1))] (tidy h [lv s0, iv .i64 (IntKind.i64.wrap (s3 + 1))] h))))))
  (some (.done [] (tidy h [] h))) := by
  unfold Lp.spec_l3Fault; rw [loop_eq]; kernel_rfl

theorem pu_spec_l3Asked (a0 : List (List S)) (a1 : List (List S)) : pureV (call Ev) Fn.spec_l3Asked [lv a0, lv a1] =
  vcase (bv ((a0.length : Int) != 64))
  (some (iv .i64 1))
  (pcallS (call Ev) Fn.spec_l3Fault [lv a1] fun v102 =>
  gV1 v102 fun x103 =>
  gI .i64 x103 fun i104 =>
  some (iv .i64 i104)) := by
  rw [pure_eq]; kernel_rfl

theorem pu_spec_l3Apply (a0 : List (List S)) (a1 : List (List S)) : pureV (call Ev) Fn.spec_l3Apply [lv a0, lv a1] =
  pcallF (call Ev) Fn.spec_l2Copy true [lv a0] (D 0) fun v101 h102 =>
  (Lp.spec_l3Apply 0 [lv a1, v101, iv .i64 0] h102).bind fun o103 => lcase o103 (fun l104 h105 =>
  (l104[0]?).bind fun w108 =>
  frzV h105 w108) (fun v106 h107 =>
  frzV h107 v106) := by
  rw [pure_eq]; kernel_rfl

theorem eq_spec_l3Apply_l0 (s1 : List (List S)) (s5 : V) (s6 : Int) (h : H) : Lp.spec_l3Apply 0 [lv s1, s5, iv .i64 s6] h =
  vcase (bv (decide (s6 < (s1.length : Int))))
  (idxF 2 s1 s6 fun r203 =>
  (r203[0]?).bind fun x204 =>
  gI .i64 x204 fun i205 =>
  slK 1 h s5 (some (iv .i64 i205)) none fun v206 =>
  idxF 2 s1 s6 fun r207 =>
  (r207[1]?).bind fun x208 =>
  gF x208 fun z209 =>
  (copS 1 h v206 (lv z209)).bind fun p210 =>
  gV1 p210.1 fun x211 =>
  gI .i64 x211 fun i212 =>
  Lp.spec_l3Apply 0 [lv s1, s5, iv .i64 (IntKind.i64.wrap (s6 + 1))] (tidy h [lv s1, s5, iv .i64 (IntKind.i64.wrap (s6 + 1))] p210.2))
  (some (.done [s5] (tidy h [s5] h))) := by
  unfold Lp.spec_l3Apply; rw [loop_eq]; kernel_rfl

end Vm
