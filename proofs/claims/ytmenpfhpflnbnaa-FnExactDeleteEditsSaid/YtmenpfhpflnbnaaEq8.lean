/-
  What each function, and each round of each loop, comes to in the small machine. Written by a program (gen3.py).
-/
import Derived.Test.YtmenpfhpflnbnaaEnv
set_option linter.unusedVariables false
set_option maxRecDepth 100000
namespace Vm
open Go

noncomputable def Jn.spec_l7Turn_0 (h139 : H) (a0_b : Nat) (a0_o : Nat) (a2 : V) (a1 : Int) : Option (V × H) :=
  (load1 h139 (pv a0_b (a0_o + 1))).bind fun x140 =>
  (frzVs h139 [a2]).bind fun l141 =>
  pcallF (call Ev) Fn.spec_l2Copy ([a2].all offV) (normVs [] l141) h139 fun v142 h143 =>
  hchk h139 h143 (
  cellsK v142 fun c144 =>
  if c144.length = 1 ∧ 1 + 1 ≤ ([.int .i64 a1, .sl none 0] : List S).length then
  ((setAt ([.int .i64 a1, .sl none 0] : List S) 1 c144)[0]?).bind fun x145 =>
  gI .i64 x145 fun i146 =>
  ((setAt ([.int .i64 a1, .sl none 0] : List S) 1 c144)[1]?).bind fun x147 =>
  if (setAt ([.int .i64 a1, .sl none 0] : List S) 1 c144).length = 2 then
  hchk h139 (h143.new 2 [.int .i64 i146, x147]) (
  (appS 2 (h143.new 2 [.int .i64 i146, x147]) (.s x140) (sv h143.n 0 1)).bind fun p148 =>
  stK 1 p148.2 (pv a0_b (a0_o + 1)) p148.1 fun h149 =>
  some (.tup [], h149))
  else none
  else none)

theorem eq_spec_l7Turn (a0_b a0_o : Nat) (a1 : Int) (a2 : V) (h : H) : call Ev Fn.spec_l7Turn [pv a0_b a0_o, iv .i64 a1, a2] h =
  (load1 h (pv a0_b (a0_o + 0))).bind fun x101 =>
  (lenV (.sl 64) (.s x101)).bind fun v102 =>
  gV1 v102 fun x103 =>
  gI .i64 x103 fun i104 =>
  vcase (bv (a1 == i104))
  ((load1 h (pv a0_b (a0_o + 0))).bind fun x106 =>
  (frzVs h [a2]).bind fun l107 =>
  pcallF (call Ev) Fn.spec_l2Copy ([a2].all offV) (normVs [] l107) h fun v108 h109 =>
  hchk h h109 (
  cellsK v108 fun c110 =>
  if c110.length = 1 ∧ 0 + 1 ≤ ([.sl none 0] : List S).length then
  hchk h (h109.new 1 (setAt ([.sl none 0] : List S) 0 c110)) (
  (appS 1 (h109.new 1 (setAt ([.sl none 0] : List S) 0 c110)) (.s x106) (sv h109.n 0 1)).bind fun p111 =>
  stK 1 p111.2 (pv a0_b (a0_o + 0)) p111.1 fun h112 =>
  Jn.spec_l7Turn_0 h112 a0_b a0_o a2 a1)
  else none))
  ((load1 h (pv a0_b (a0_o + 0))).bind fun x113 =>
  idxK 1 (.s x113) (iv .i64 a1) fun v114 =>
  ldK (.one (.f)) ⟨1, 24, [.sl none 0], false, .sl 5, false⟩ h v114 fun v115 =>
  (cvStr h v115).bind fun v116 =>
  gV1 v116 fun x117 =>
  gS x117 fun y118 =>
  (cvStr h a2).bind fun v119 =>
  gV1 v119 fun x120 =>
  gS x120 fun y121 =>
  vcase (bv ((y118 : ByteArray).toList == (y121 : ByteArray).toList))
  (some (.tup [], h))
  ((load1 h (pv a0_b (a0_o + 0))).bind fun x123 =>
  (frzVs h [a2]).bind fun l124 =>
  pcallF (call Ev) Fn.spec_l2Copy ([a2].all offV) (normVs [] l124) h fun v125 h126 =>
  hchk h h126 (
  bif scaV v125 then
  idxK 1 (.s x123) (iv .i64 a1) fun v127 =>
  stK 1 h126 v127 v125 fun h128 =>
  Jn.spec_l7Turn_0 h128 a0_b a0_o a2 a1
  else none))) := by
  rw [call_eq]; kernel_rfl

theorem eq_spec_l2Drop (a0 : List (List S)) (a1 : Int) (n : Nat) : call Ev Fn.spec_l2Drop [lv a0, iv .i64 a1] (D n) =
  pcallF (call Ev) Fn.spec_l2Copy true [lv a0] (D n) fun v101 h102 =>
  idxK 1 v101 (iv .i64 (IntKind.i64.wrap (2 + (IntKind.i64.wrap (2 * a1))))) fun v103 =>
  stK 1 h102 v103 (iv .u8 0) fun h104 =>
  idxK 1 v101 (iv .i64 (IntKind.i64.wrap (3 + (IntKind.i64.wrap (2 * a1))))) fun v105 =>
  stK 1 h104 v105 (iv .u8 0) fun h106 =>
  (Lp.spec_l2Drop 0 [v101] h106).bind fun o107 => lcase o107 (fun l108 h109 =>
  (l108[0]?).bind fun w112 =>
  some (w112, h109)) (fun v110 h111 =>
  some (v110, h111)) := by
  rw [call_eq]; kernel_rfl

theorem eq_spec_l2Drop_l0 (s5 : V) (h : H) : Lp.spec_l2Drop 0 [s5] h =
  idxK 1 s5 (iv .i64 0) fun v201 =>
  ldK (.one (.i .u8)) ⟨1, 1, [.int .u8 0], false, .int .u8, false⟩ h v201 fun v202 =>
  gV1 v202 fun x203 =>
  gI .u8 x203 fun i204 =>
  vcase (bv (decide (i204 > 0)))
  (idxK 1 s5 (iv .i64 0) fun v206 =>
  ldK (.one (.i .u8)) ⟨1, 1, [.int .u8 0], false, .int .u8, false⟩ h v206 fun v207 =>
  gV1 v207 fun x208 =>
  gI .u8 x208 fun i209 =>
  (frzVs h [s5, iv .i64 (IntKind.i64.wrap ((IntKind.i64.wrap i209) - 1))]).bind fun l210 =>
  pcallS (call Ev) Fn.spec_l2Size (normVs [] l210) fun v211 =>
  gV1 v211 fun x212 =>
  gI .i64 x212 fun i213 =>
  vcase (bv (i213 == 0))
  (idxK 1 s5 (iv .i64 0) fun v218 =>
  ldK (.one (.i .u8)) ⟨1, 1, [.int .u8 0], false, .int .u8, false⟩ h v218 fun v219 =>
  gV1 v219 fun x220 =>
  gI .u8 x220 fun i221 =>
  idxK 1 s5 (iv .i64 0) fun v222 =>
  stK 1 h v222 (iv .u8 (IntKind.u8.wrap (i221 - 1))) fun h223 =>
  Lp.spec_l2Drop 0 [s5] (tidy h [s5] h223))
  (some (.done [s5] (tidy h [s5] h))))
  (some (.done [s5] (tidy h [s5] h))) := by
  unfold Lp.spec_l2Drop; rw [loop_eq]; kernel_rfl

theorem eq_spec_l7Drop (a0_b a0_o : Nat) (a1 : Int) (a2 : Int) (h : H) : call Ev Fn.spec_l7Drop [pv a0_b a0_o, iv .i64 a1, iv .i64 a2] h =
  (load1 h (pv a0_b (a0_o + 0))).bind fun x101 =>
  idxK 1 (.s x101) (iv .i64 a1) fun v102 =>
  ldK (.one (.f)) ⟨1, 24, [.sl none 0], false, .sl 5, false⟩ h v102 fun v103 =>
  (frzVs h [v103, iv .i64 a2]).bind fun l104 =>
  pcallF (call Ev) Fn.spec_l2Drop ([v103, iv .i64 a2].all offV) (normVs [] l104) h fun v105 h106 =>
  (call Ev Fn.spec_l7Turn [pv a0_b a0_o, iv .i64 a1, v105] h106).bind fun p107 =>
  some (.tup [], tidy h106 [p107.1] p107.2) := by
  rw [call_eq]; kernel_rfl

theorem eq_spec_l7Done (a0_b a0_o : Nat) (h : H) : call Ev Fn.spec_l7Done [pv a0_b a0_o] h =
  (load1 (h.new 0 [.int .i64 0, .sl none 0, .sl none 0]) (pv a0_b (a0_o + 1))).bind fun x101 =>
  (load1 (h.new 0 [.int .i64 0, .sl none 0, .sl none 0]) (pv a0_b (a0_o + 0))).bind fun x102 =>
  bif isNo x101 then none else
  bif isNo x102 then none else
  stK 3 (h.new 0 [.int .i64 0, .sl none 0, .sl none 0]) (pv h.n 0) (.agg [.int .i64 0, x101, x102]) fun h103 =>
  (loadN 3 h103 (pv h.n 0)).bind fun c104 =>
  some (.agg c104, h103) := by
  rw [call_eq]; kernel_rfl

theorem eq_spec_l7Delete (a0 : List (List S)) (a1_0 : Int) (a1_1 : Int) (a1_2 : Int) (a1_3 : Int) (a1_4 : Int) (a1_5 : Int) (a1_6 : Int) (a1_7 : Int) (a1_8 : Int) (a1_9 : ByteArray) (n : Nat) : call Ev Fn.spec_l7Delete [lv a0, fv [.int .i64 a1_0, .int .i64 a1_1, .int .i64 a1_2, .int .i64 a1_3, .int .i64 a1_4, .int .i64 a1_5, .int .i64 a1_6, .int .i64 a1_7, .int .i64 a1_8, .str a1_9] 0] (D n) =
  pcallF (call Ev) Fn.spec_l7Start true [lv a0] ((D n).new 0 [.int .i64 0, .sl none 0, .sl none 0]) fun v101 h102 =>
  (call Ev Fn.spec_l7Drop [v101, iv .i64 a1_0, iv .i64 a1_1] h102).bind fun p103 =>
  vcase (bv (a1_3 == 1))
  ((call Ev Fn.spec_l7Drop [v101, iv .i64 a1_4, iv .i64 a1_5] (tidy h102 [p103.1] p103.2)).bind fun p105 =>
  (call Ev Fn.spec_l7Done [v101] (tidy (tidy h102 [p103.1] p103.2) [p105.1] p105.2)).bind fun p106 =>
  gVA p106.1 fun c107 =>
  (c107[0]?).bind fun x108 =>
  gI .i64 x108 fun i109 =>
  (c107[1]?).bind fun x110 =>
  (c107[2]?).bind fun x111 =>
  if c107.length = 3 then
  stK 3 (tidy (tidy (tidy h102 [p103.1] p103.2) [p105.1] p105.2) [p106.1] p106.2) (pv ((D n).n) 0) (.agg [.int .i64 i109, x110, x111]) fun h112 =>
  (loadN 3 h112 (pv ((D n).n) 0)).bind fun c113 =>
  some (.agg c113, h112)
  else none)
  ((call Ev Fn.spec_l7Done [v101] (tidy h102 [p103.1] p103.2)).bind fun p114 =>
  gVA p114.1 fun c115 =>
  (c115[0]?).bind fun x116 =>
  gI .i64 x116 fun i117 =>
  (c115[1]?).bind fun x118 =>
  (c115[2]?).bind fun x119 =>
  if c115.length = 3 then
  stK 3 (tidy (tidy h102 [p103.1] p103.2) [p114.1] p114.2) (pv ((D n).n) 0) (.agg [.int .i64 i117, x118, x119]) fun h120 =>
  (loadN 3 h120 (pv ((D n).n) 0)).bind fun c121 =>
  some (.agg c121, h120)
  else none) := by
  rw [call_eq]; kernel_rfl

noncomputable def Jn.spec_DeleteEdits_0 (q185 : Bool) (a0 : List (List S)) (a1 : Int) (a2 : Int) : Option (V) :=
  vcase (bv q185)
  ((pureV (call Ev) Fn.spec_l7Bad [iv .i64 3]).bind fun v187 =>
  gVA v187 fun c188 =>
  (c188[0]?).bind fun x189 =>
  gI .i64 x189 fun i190 =>
  (c188[1]?).bind fun x191 =>
  gF x191 fun z192 =>
  (c188[2]?).bind fun x193 =>
  gF x193 fun z194 =>
  if c188.length = 3 then
  some (.agg [.int .i64 i190, .fs z192, .fs z194])
  else none)
  (pcallS (call Ev) Fn.spec_l6Find [lv a0, iv .i64 a1, iv .i64 a2] fun v195 =>
  gVT v195 fun u196 =>
  (u196[0]?).bind fun t197 =>
  gAA t197 fun c198 =>
  (c198[0]?).bind fun x199 =>
  gI .i64 x199 fun i200 =>
  (c198[1]?).bind fun x201 =>
  gI .i64 x201 fun i202 =>
  (c198[2]?).bind fun x203 =>
  gI .i64 x203 fun i204 =>
  (c198[3]?).bind fun x205 =>
  gI .i64 x205 fun i206 =>
  (c198[4]?).bind fun x207 =>
  gI .i64 x207 fun i208 =>
  (c198[5]?).bind fun x209 =>
  gI .i64 x209 fun i210 =>
  (c198[6]?).bind fun x211 =>
  gI .i64 x211 fun i212 =>
  (c198[7]?).bind fun x213 =>
  gI .i64 x213 fun i214 =>
  (c198[8]?).bind fun x215 =>
  gI .i64 x215 fun i216 =>
  (c198[9]?).bind fun x217 =>
  gS x217 fun y218 =>
  if c198.length = 10 then
  (u196[1]?).bind fun t219 =>
  gA1 t219 fun x220 =>
  gB x220 fun q221 =>
  if u196.length = 2 then
  vcase (bv (!q221))
  ((pureV (call Ev) Fn.spec_l7Bad [iv .i64 4]).bind fun v223 =>
  gVA v223 fun c224 =>
  (c224[0]?).bind fun x225 =>
  gI .i64 x225 fun i226 =>
  (c224[1]?).bind fun x227 =>
  gF x227 fun z228 =>
  (c224[2]?).bind fun x229 =>
  gF x229 fun z230 =>
  if c224.length = 3 then
  some (.agg [.int .i64 i226, .fs z228, .fs z230])
  else none)
  (pcallF (call Ev) Fn.spec_l7Delete false [lv a0, fv [.int .i64 i200, .int .i64 i202, .int .i64 i204, .int .i64 i206, .int .i64 i208, .int .i64 i210, .int .i64 i212, .int .i64 i214, .int .i64 i216, .str y218] 0] ((((D 0).new 0 [.int .i64 0, .sl none 0, .sl none 0]).new 0 [.int .i64 0, .int .i64 0, .int .i64 0, .int .i64 0, .int .i64 0, .int .i64 0, .int .i64 0, .int .i64 0, .int .i64 0, .str (⟨#[]⟩)]).put 1 (.rw 0 [.int .i64 i200, .int .i64 i202, .int .i64 i204, .int .i64 i206, .int .i64 i208, .int .i64 i210, .int .i64 i212, .int .i64 i214, .int .i64 i216, .str y218])) fun v231 h232 =>
  gVA v231 fun c233 =>
  (c233[0]?).bind fun x234 =>
  gI .i64 x234 fun i235 =>
  (c233[1]?).bind fun x236 =>
  (c233[2]?).bind fun x237 =>
  if c233.length = 3 then
  stK 3 h232 (pv 0 0) (.agg [.int .i64 i235, x236, x237]) fun h238 =>
  (loadN 3 h238 (pv 0 0)).bind fun c239 =>
  frzV h238 (.agg c239)
  else none)
  else none
  else none)

theorem pu_spec_DeleteEdits (a0 : List (List S)) (a1 : Int) (a2 : Int) : pureV (call Ev) Fn.spec_DeleteEdits [lv a0, iv .i64 a1, iv .i64 a2] =
  pcallS (call Ev) Fn.spec_l6Fault [lv a0] fun v101 =>
  gV1 v101 fun x102 =>
  gI .i64 x102 fun i103 =>
  vcase (bv (i103 != 0))
  ((pureV (call Ev) Fn.spec_l7Bad [iv .i64 i103]).bind fun v105 =>
  gVA v105 fun c106 =>
  (c106[0]?).bind fun x107 =>
  gI .i64 x107 fun i108 =>
  (c106[1]?).bind fun x109 =>
  gF x109 fun z110 =>
  (c106[2]?).bind fun x111 =>
  gF x111 fun z112 =>
  if c106.length = 3 then
  some (.agg [.int .i64 i108, .fs z110, .fs z112])
  else none)
  (pcallS (call Ev) Fn.spec_l1In [iv .i64 a1, iv .i64 0, iv .i64 3] fun v113 =>
  gV1 v113 fun x114 =>
  gB x114 fun q115 =>
  vcase (bv (!q115))
  (Jn.spec_DeleteEdits_0 true a0 a1 a2)
  (pcallS (call Ev) Fn.spec_l1In [iv .i64 a2, iv .i64 1, iv .i64 99] fun v118 =>
  gV1 v118 fun x119 =>
  gB x119 fun q120 =>
  Jn.spec_DeleteEdits_0 (!q120) a0 a1 a2)) := by
  rw [pure_eq]; kernel_rfl

theorem eq_impl_deskOf (a0 : List (List S)) (n : Nat) : call Ev Fn.impl_deskOf [lv a0] (D n) =
  pcallF (call Ev) Fn.impl_copies true [lv a0] (D n) fun v101 h102 =>
  cellsK v101 fun c103 =>
  if c103.length = 1 ∧ 0 + 1 ≤ ([.sl none 0, .sl none 0] : List S).length then
  ((setAt ([.sl none 0, .sl none 0] : List S) 0 c103)[0]?).bind fun x104 =>
  ((setAt ([.sl none 0, .sl none 0] : List S) 0 c103)[1]?).bind fun x105 =>
  if (setAt ([.sl none 0, .sl none 0] : List S) 0 c103).length = 2 then
  some (pv h102.n 0, h102.new 0 [x104, x105])
  else none
  else none := by
  rw [call_eq]; kernel_rfl

noncomputable def Jn.impl_desk_edit_0 (h139 : H) (a0_b : Nat) (a0_o : Nat) (a2 : V) (a1 : Int) : Option (V × H) :=
  (load1 h139 (pv a0_b (a0_o + 1))).bind fun x140 =>
  (frzVs h139 [a2]).bind fun l141 =>
  pcallF (call Ev) Fn.impl_copied ([a2].all offV) (normVs [] l141) h139 fun v142 h143 =>
  hchk h139 h143 (
  cellsK v142 fun c144 =>
  if c144.length = 1 ∧ 1 + 1 ≤ ([.int .i64 a1, .sl none 0] : List S).length then
  ((setAt ([.int .i64 a1, .sl none 0] : List S) 1 c144)[0]?).bind fun x145 =>
  gI .i64 x145 fun i146 =>
  ((setAt ([.int .i64 a1, .sl none 0] : List S) 1 c144)[1]?).bind fun x147 =>
  if (setAt ([.int .i64 a1, .sl none 0] : List S) 1 c144).length = 2 then
  hchk h139 (h143.new 2 [.int .i64 i146, x147]) (
  (appS 2 (h143.new 2 [.int .i64 i146, x147]) (.s x140) (sv h143.n 0 1)).bind fun p148 =>
  stK 1 p148.2 (pv a0_b (a0_o + 1)) p148.1 fun h149 =>
  some (.tup [], h149))
  else none
  else none)

theorem eq_impl_desk_edit (a0_b a0_o : Nat) (a1 : Int) (a2 : V) (h : H) : call Ev Fn.impl_desk_edit [pv a0_b a0_o, iv .i64 a1, a2] h =
  (load1 h (pv a0_b (a0_o + 0))).bind fun x101 =>
  (lenV (.sl 64) (.s x101)).bind fun v102 =>
  gV1 v102 fun x103 =>
  gI .i64 x103 fun i104 =>
  vcase (bv (a1 == i104))
  ((load1 h (pv a0_b (a0_o + 0))).bind fun x106 =>
  (frzVs h [a2]).bind fun l107 =>
  pcallF (call Ev) Fn.impl_copied ([a2].all offV) (normVs [] l107) h fun v108 h109 =>
  hchk h h109 (
  cellsK v108 fun c110 =>
  if c110.length = 1 ∧ 0 + 1 ≤ ([.sl none 0] : List S).length then
  hchk h (h109.new 1 (setAt ([.sl none 0] : List S) 0 c110)) (
  (appS 1 (h109.new 1 (setAt ([.sl none 0] : List S) 0 c110)) (.s x106) (sv h109.n 0 1)).bind fun p111 =>
  stK 1 p111.2 (pv a0_b (a0_o + 0)) p111.1 fun h112 =>
  Jn.impl_desk_edit_0 h112 a0_b a0_o a2 a1)
  else none))
  ((load1 h (pv a0_b (a0_o + 0))).bind fun x113 =>
  idxK 1 (.s x113) (iv .i64 a1) fun v114 =>
  ldK (.one (.f)) ⟨1, 24, [.sl none 0], false, .sl 5, false⟩ h v114 fun v115 =>
  (cvStr h v115).bind fun v116 =>
  gV1 v116 fun x117 =>
  gS x117 fun y118 =>
  (cvStr h a2).bind fun v119 =>
  gV1 v119 fun x120 =>
  gS x120 fun y121 =>
  vcase (bv ((y118 : ByteArray).toList == (y121 : ByteArray).toList))
  (some (.tup [], h))
  ((load1 h (pv a0_b (a0_o + 0))).bind fun x123 =>
  (frzVs h [a2]).bind fun l124 =>
  pcallF (call Ev) Fn.impl_copied ([a2].all offV) (normVs [] l124) h fun v125 h126 =>
  hchk h h126 (
  bif scaV v125 then
  idxK 1 (.s x123) (iv .i64 a1) fun v127 =>
  stK 1 h126 v127 v125 fun h128 =>
  Jn.impl_desk_edit_0 h128 a0_b a0_o a2 a1
  else none))) := by
  rw [call_eq]; kernel_rfl

theorem eq_impl_DropSlot (a0 : List (List S)) (a1 : Int) (n : Nat) : call Ev Fn.impl_DropSlot [lv a0, iv .i64 a1] (D n) =
  pcallS (call Ev) Fn.impl_PageFault [lv a0] fun v101 =>
  gV1 v101 fun x102 =>
  gI .i64 x102 fun i103 =>
  vcase (bv (i103 != 0))
  (stK 3 ((D n).new 0 [.int .i64 0, .int .i64 0, .sl none 0]) (pv ((D n).n) 0) (.agg [.int .i64 i103, .int .i64 0, .sl none 0]) fun h105 =>
  (loadN 3 h105 (pv ((D n).n) 0)).bind fun c106 =>
  some (.agg c106, h105))
  (pcallS (call Ev) Fn.impl_hasSlot [lv a0, iv .i64 a1] fun v107 =>
  gV1 v107 fun x108 =>
  gB x108 fun q109 =>
  vcase (bv (!q109))
  (stK 3 ((D n).new 0 [.int .i64 0, .int .i64 0, .sl none 0]) (pv ((D n).n) 0) (.agg [.int .i64 4, .int .i64 0, .sl none 0]) fun h111 =>
  (loadN 3 h111 (pv ((D n).n) 0)).bind fun c112 =>
  some (.agg c112, h111))
  (pcallF (call Ev) Fn.impl_copied true [lv a0] ((D n).new 0 [.int .i64 0, .int .i64 0, .sl none 0]) fun v113 h114 =>
  idxK 1 v113 (iv .i64 (IntKind.i64.wrap (2 + (IntKind.i64.wrap (2 * a1))))) fun v115 =>
  stK 1 h114 v115 (iv .u8 0) fun h116 =>
  idxK 1 v113 (iv .i64 (IntKind.i64.wrap (3 + (IntKind.i64.wrap (2 * a1))))) fun v117 =>
  stK 1 h116 v117 (iv .u8 0) fun h118 =>
  (Lp.impl_DropSlot 0 [iv .i64 a1, pv ((D n).n) 0, v113] h118).bind fun o119 => lcase o119 (fun l120 h121 =>
  (l120[0]?).bind fun w124 =>
  gV1 w124 fun x125 =>
  gI .i64 x125 fun i126 =>
  (l120[1]?).bind fun w127 =>
  (l120[2]?).bind fun w128 =>
  cellsK w128 fun c129 =>
  if c129.length = 1 ∧ 2 + 1 ≤ ([.int .i64 0, .int .i64 0, .sl none 0] : List S).length then
  if ([.int .i64 i126] : List S).length = 1 ∧ 1 + 1 ≤ (setAt ([.int .i64 0, .int .i64 0, .sl none 0] : List S) 2 c129).length then
  ((setAt (setAt ([.int .i64 0, .int .i64 0, .sl none 0] : List S) 2 c129) 1 ([.int .i64 i126] : List S))[0]?).bind fun x130 =>
  gI .i64 x130 fun i131 =>
  ((setAt (setAt ([.int .i64 0, .int .i64 0, .sl none 0] : List S) 2 c129) 1 ([.int .i64 i126] : List S))[1]?).bind fun x132 =>
  gI .i64 x132 fun i133 =>
  ((setAt (setAt ([.int .i64 0, .int .i64 0, .sl none 0] : List S) 2 c129) 1 ([.int .i64 i126] : List S))[2]?).bind fun x134 =>
  if (setAt (setAt ([.int .i64 0, .int .i64 0, .sl none 0] : List S) 2 c129) 1 ([.int .i64 i126] : List S)).length = 3 then
  stK 3 h121 w127 (.agg [.int .i64 i131, .int .i64 i133, x134]) fun h135 =>
  ldT ⟨3, 40, [.int .i64 0, .int .i64 0, .sl none 0], true, .st [(0, 2), (1, 2), (2, 64)], false⟩ h135 w127 fun v136 =>
  some (v136, h135)
  else none
  else none
  else none) (fun v122 h123 =>
  some (v122, h123)))) := by
  rw [call_eq]; kernel_rfl

theorem eq_impl_DropSlot_l0 (s1 : Int) (s4 : V) (s6 : V) (h : H) : Lp.impl_DropSlot 0 [iv .i64 s1, s4, s6] h =
  idxK 1 s6 (iv .i64 0) fun v201 =>
  ldK (.one (.i .u8)) ⟨1, 1, [.int .u8 0], false, .int .u8, false⟩ h v201 fun v202 =>
  gV1 v202 fun x203 =>
  gI .u8 x203 fun i204 =>
  vcase (bv (decide (i204 > 0)))
  (idxK 1 s6 (iv .i64 0) fun v206 =>
  ldK (.one (.i .u8)) ⟨1, 1, [.int .u8 0], false, .int .u8, false⟩ h v206 fun v207 =>
  gV1 v207 fun x208 =>
  gI .u8 x208 fun i209 =>
  idxK 1 s6 (iv .i64 (IntKind.i64.wrap ((IntKind.i64.wrap (2 * (IntKind.i64.wrap i209))) + 1))) fun v210 =>
  ldK (.one (.i .u8)) ⟨1, 1, [.int .u8 0], false, .int .u8, false⟩ h v210 fun v211 =>
  gV1 v211 fun x212 =>
  gI .u8 x212 fun i213 =>
  vcase (bv (i213 == 0))
  (idxK 1 s6 (iv .i64 0) fun v218 =>
  ldK (.one (.i .u8)) ⟨1, 1, [.int .u8 0], false, .int .u8, false⟩ h v218 fun v219 =>
  gV1 v219 fun x220 =>
  gI .u8 x220 fun i221 =>
  idxK 1 s6 (iv .i64 0) fun v222 =>
  stK 1 h v222 (iv .u8 (IntKind.u8.wrap (i221 - 1))) fun h223 =>
  Lp.impl_DropSlot 0 [iv .i64 s1, s4, s6] (tidy h [iv .i64 s1, s4, s6] h223))
  (some (.done [iv .i64 s1, s4, s6] (tidy h [iv .i64 s1, s4, s6] h))))
  (some (.done [iv .i64 s1, s4, s6] (tidy h [iv .i64 s1, s4, s6] h))) := by
  unfold Lp.impl_DropSlot; rw [loop_eq]; kernel_rfl

theorem eq_impl_desk_drop (a0_b a0_o : Nat) (a1 : Int) (a2 : Int) (h : H) : call Ev Fn.impl_desk_drop [pv a0_b a0_o, iv .i64 a1, iv .i64 a2] h =
  (load1 h (pv a0_b (a0_o + 0))).bind fun x101 =>
  idxK 1 (.s x101) (iv .i64 a1) fun v102 =>
  ldK (.one (.f)) ⟨1, 24, [.sl none 0], false, .sl 5, false⟩ h v102 fun v103 =>
  (frzVs h [v103, iv .i64 a2]).bind fun l104 =>
  pcallF (call Ev) Fn.impl_DropSlot ([v103, iv .i64 a2].all offV) (normVs [] l104) h fun v105 h106 =>
  gVA v105 fun c107 =>
  (c107[0]?).bind fun x108 =>
  gI .i64 x108 fun i109 =>
  (c107[1]?).bind fun x110 =>
  gI .i64 x110 fun i111 =>
  (c107[2]?).bind fun x112 =>
  if c107.length = 3 then
  (call Ev Fn.impl_desk_edit [pv a0_b a0_o, iv .i64 a1, .s x112] h106).bind fun p113 =>
  some (.tup [], tidy h106 [p113.1] p113.2)
  else none := by
  rw [call_eq]; kernel_rfl

theorem eq_impl_desk_delete (a0_b a0_o : Nat) (a1_0 : Int) (a1_1 : Int) (a1_2 : Int) (a1_3 : ByteArray) (a1_4 : Int) (a1_5 : Int) (a1_6 : Bool) (a1_7 : Int) (a1_8 : Int) (h : H) : call Ev Fn.impl_desk_delete [pv a0_b a0_o, .agg [.int .i64 a1_0, .int .i64 a1_1, .int .i64 a1_2, .str a1_3, .int .i64 a1_4, .int .i64 a1_5, .bool a1_6, .int .i64 a1_7, .int .i64 a1_8]] h =
  (load1 (h.new 0 [.int .i64 a1_0, .int .i64 a1_1, .int .i64 a1_2, .str a1_3, .int .i64 a1_4, .int .i64 a1_5, .bool a1_6, .int .i64 a1_7, .int .i64 a1_8]) (pv h.n 4)).bind fun x101 =>
  gI .i64 x101 fun i102 =>
  (load1 (h.new 0 [.int .i64 a1_0, .int .i64 a1_1, .int .i64 a1_2, .str a1_3, .int .i64 a1_4, .int .i64 a1_5, .bool a1_6, .int .i64 a1_7, .int .i64 a1_8]) (pv h.n 5)).bind fun x103 =>
  gI .i64 x103 fun i104 =>
  (call Ev Fn.impl_desk_drop [pv a0_b a0_o, iv .i64 i102, iv .i64 i104] (h.new 0 [.int .i64 a1_0, .int .i64 a1_1, .int .i64 a1_2, .str a1_3, .int .i64 a1_4, .int .i64 a1_5, .bool a1_6, .int .i64 a1_7, .int .i64 a1_8])).bind fun p105 =>
  (load1 (tidy (h.new 0 [.int .i64 a1_0, .int .i64 a1_1, .int .i64 a1_2, .str a1_3, .int .i64 a1_4, .int .i64 a1_5, .bool a1_6, .int .i64 a1_7, .int .i64 a1_8]) [p105.1] p105.2) (pv h.n 6)).bind fun x106 =>
  gB x106 fun q107 =>
  vcase (bv q107)
  ((load1 (tidy (h.new 0 [.int .i64 a1_0, .int .i64 a1_1, .int .i64 a1_2, .str a1_3, .int .i64 a1_4, .int .i64 a1_5, .bool a1_6, .int .i64 a1_7, .int .i64 a1_8]) [p105.1] p105.2) (pv h.n 7)).bind fun x109 =>
  gI .i64 x109 fun i110 =>
  (load1 (tidy (h.new 0 [.int .i64 a1_0, .int .i64 a1_1, .int .i64 a1_2, .str a1_3, .int .i64 a1_4, .int .i64 a1_5, .bool a1_6, .int .i64 a1_7, .int .i64 a1_8]) [p105.1] p105.2) (pv h.n 8)).bind fun x111 =>
  gI .i64 x111 fun i112 =>
  (call Ev Fn.impl_desk_drop [pv a0_b a0_o, iv .i64 i110, iv .i64 i112] (tidy (h.new 0 [.int .i64 a1_0, .int .i64 a1_1, .int .i64 a1_2, .str a1_3, .int .i64 a1_4, .int .i64 a1_5, .bool a1_6, .int .i64 a1_7, .int .i64 a1_8]) [p105.1] p105.2)).bind fun p113 =>
  some (.tup [], tidy (tidy (h.new 0 [.int .i64 a1_0, .int .i64 a1_1, .int .i64 a1_2, .str a1_3, .int .i64 a1_4, .int .i64 a1_5, .bool a1_6, .int .i64 a1_7, .int .i64 a1_8]) [p105.1] p105.2) [p113.1] p113.2))
  (some (.tup [], tidy (h.new 0 [.int .i64 a1_0, .int .i64 a1_1, .int .i64 a1_2, .str a1_3, .int .i64 a1_4, .int .i64 a1_5, .bool a1_6, .int .i64 a1_7, .int .i64 a1_8]) [p105.1] p105.2)) := by
  rw [call_eq]; kernel_rfl

theorem eq_impl_desk_result (a0_b a0_o : Nat) (h : H) : call Ev Fn.impl_desk_result [pv a0_b a0_o] h =
  (load1 (h.new 0 [.int .i64 0, .sl none 0, .sl none 0]) (pv a0_b (a0_o + 1))).bind fun x101 =>
  (load1 (h.new 0 [.int .i64 0, .sl none 0, .sl none 0]) (pv a0_b (a0_o + 0))).bind fun x102 =>
  bif isNo x101 then none else
  bif isNo x102 then none else
  stK 3 (h.new 0 [.int .i64 0, .sl none 0, .sl none 0]) (pv h.n 0) (.agg [.int .i64 0, x101, x102]) fun h103 =>
  (loadN 3 h103 (pv h.n 0)).bind fun c104 =>
  some (.agg c104, h103) := by
  rw [call_eq]; kernel_rfl

theorem eq_impl_DeleteEdits (a0 : List (List S)) (a1 : Int) (a2 : Int) (n : Nat) : call Ev Fn.impl_DeleteEdits [lv a0, iv .i64 a1, iv .i64 a2] (D n) =
  pcallF (call Ev) Fn.impl_view true [lv a0] ((D n).new 0 [.int .i64 0, .sl none 0, .sl none 0]) fun v101 h102 =>
  gVT v101 fun u103 =>
  (u103[0]?).bind fun t104 =>
  gA1 t104 fun x105 =>
  (u103[1]?).bind fun t106 =>
  gA1 t106 fun x107 =>
  gI .i64 x107 fun i108 =>
  if u103.length = 2 then
  vcase (bv (i108 != 0))
  (stK 3 h102 (pv ((D n).n) 0) (.agg [.int .i64 i108, .sl none 0, .sl none 0]) fun h110 =>
  (loadN 3 h110 (pv ((D n).n) 0)).bind fun c111 =>
  some (.agg c111, h110))
  (pcallS (call Ev) Fn.impl_isKey [iv .i64 a1, iv .i64 a2] fun v112 =>
  gV1 v112 fun x113 =>
  gB x113 fun q114 =>
  vcase (bv (!q114))
  (stK 3 h102 (pv ((D n).n) 0) (.agg [.int .i64 3, .sl none 0, .sl none 0]) fun h116 =>
  (loadN 3 h116 (pv ((D n).n) 0)).bind fun c117 =>
  some (.agg c117, h116))
  ((frzVs h102 [.s x105, iv .i64 a1, iv .i64 a2]).bind fun l118 =>
  pcallS (call Ev) Fn.impl_find (normVs [] l118) fun v119 =>
  gVT v119 fun u120 =>
  (u120[0]?).bind fun t121 =>
  gAA t121 fun c122 =>
  (c122[0]?).bind fun x123 =>
  gI .i64 x123 fun i124 =>
  (c122[1]?).bind fun x125 =>
  gI .i64 x125 fun i126 =>
  (c122[2]?).bind fun x127 =>
  gI .i64 x127 fun i128 =>
  (c122[3]?).bind fun x129 =>
  gS x129 fun y130 =>
  (c122[4]?).bind fun x131 =>
  gI .i64 x131 fun i132 =>
  (c122[5]?).bind fun x133 =>
  gI .i64 x133 fun i134 =>
  (c122[6]?).bind fun x135 =>
  gB x135 fun q136 =>
  (c122[7]?).bind fun x137 =>
  gI .i64 x137 fun i138 =>
  (c122[8]?).bind fun x139 =>
  gI .i64 x139 fun i140 =>
  if c122.length = 9 then
  (u120[1]?).bind fun t141 =>
  gA1 t141 fun x142 =>
  gB x142 fun q143 =>
  if u120.length = 2 then
  stK 9 (h102.new 0 [.int .i64 0, .int .i64 0, .int .i64 0, .str (⟨#[]⟩), .int .i64 0, .int .i64 0, .bool false, .int .i64 0, .int .i64 0]) (pv h102.n 0) (.agg [.int .i64 i124, .int .i64 i126, .int .i64 i128, .str y130, .int .i64 i132, .int .i64 i134, .bool q136, .int .i64 i138, .int .i64 i140]) fun h144 =>
  vcase (bv (!q143))
  (stK 3 h144 (pv ((D n).n) 0) (.agg [.int .i64 4, .sl none 0, .sl none 0]) fun h146 =>
  (loadN 3 h146 (pv ((D n).n) 0)).bind fun c147 =>
  some (.agg c147, h146))
  (pcallF (call Ev) Fn.impl_deskOf true [lv a0] h144 fun v148 h149 =>
  (loadN 9 h149 (pv h102.n 0)).bind fun c150 =>
  (c150[0]?).bind fun x151 =>
  gI .i64 x151 fun i152 =>
  (c150[1]?).bind fun x153 =>
  gI .i64 x153 fun i154 =>
  (c150[2]?).bind fun x155 =>
  gI .i64 x155 fun i156 =>
  (c150[3]?).bind fun x157 =>
  gS x157 fun y158 =>
  (c150[4]?).bind fun x159 =>
  gI .i64 x159 fun i160 =>
  (c150[5]?).bind fun x161 =>
  gI .i64 x161 fun i162 =>
  (c150[6]?).bind fun x163 =>
  gB x163 fun q164 =>
  (c150[7]?).bind fun x165 =>
  gI .i64 x165 fun i166 =>
  (c150[8]?).bind fun x167 =>
  gI .i64 x167 fun i168 =>
  if c150.length = 9 then
  (call Ev Fn.impl_desk_delete [v148, .agg [.int .i64 i152, .int .i64 i154, .int .i64 i156, .str y158, .int .i64 i160, .int .i64 i162, .bool q164, .int .i64 i166, .int .i64 i168]] h149).bind fun p169 =>
  (call Ev Fn.impl_desk_result [v148] (tidy h149 [p169.1] p169.2)).bind fun p170 =>
  gVA p170.1 fun c171 =>
  (c171[0]?).bind fun x172 =>
  gI .i64 x172 fun i173 =>
  (c171[1]?).bind fun x174 =>
  (c171[2]?).bind fun x175 =>
  if c171.length = 3 then
  stK 3 (tidy (tidy h149 [p169.1] p169.2) [p170.1] p170.2) (pv ((D n).n) 0) (.agg [.int .i64 i173, x174, x175]) fun h176 =>
  (loadN 3 h176 (pv ((D n).n) 0)).bind fun c177 =>
  some (.agg c177, h176)
  else none
  else none)
  else none
  else none))
  else none := by
  rw [call_eq]; kernel_rfl

theorem pu_laws_eqEdit (a0_0 : Int) (a0_1 : List (List S)) (a1_0 : Int) (a1_1 : List (List S)) : pureV (call Ev) Fn.laws_eqEdit [.agg [.int .i64 a0_0, .fs a0_1], .agg [.int .i64 a1_0, .fs a1_1]] =
  vcase (bv (a0_0 != a1_0))
  (some (bv false))
  (pcallS (call Ev) Fn.laws_eqByteS [lv a0_1, lv a1_1] fun v102 =>
  gV1 v102 fun x103 =>
  gB x103 fun q104 =>
  vcase (bv (!q104))
  (some (bv false))
  (some (bv true))) := by
  rw [pure_eq]; kernel_rfl

theorem pu_laws_eqEditS (a0 : List (List S)) (a1 : List (List S)) : pureV (call Ev) Fn.laws_eqEditS [lv a0, lv a1] =
  vcase (bv ((a0.length : Int) != (a1.length : Int)))
  (some (bv false))
  ((Lp.laws_eqEditS 0 [lv a0, lv a1, iv .i64 0] (D 0)).bind fun o102 => lcase o102 (fun l103 h104 =>
  some (bv true)) (fun v105 h106 =>
  frzV h106 v105)) := by
  rw [pure_eq]; kernel_rfl

theorem eq_laws_eqEditS_l0 (s0 : List (List S)) (s1 : List (List S)) (s5 : Int) (h : H) : Lp.laws_eqEditS 0 [lv s0, lv s1, iv .i64 s5] h =
  vcase (bv (decide (s5 < (s0.length : Int))))
  (idxF 2 s0 s5 fun r203 =>
  (rowN 2 r203 0).bind fun c204 =>
  (c204[0]?).bind fun x205 =>
  gI .i64 x205 fun i206 =>
  (c204[1]?).bind fun x207 =>
  gF x207 fun z208 =>
  if c204.length = 2 then
  idxF 2 s1 s5 fun r209 =>
  (rowN 2 r209 0).bind fun c210 =>
  (c210[0]?).bind fun x211 =>
  gI .i64 x211 fun i212 =>
  (c210[1]?).bind fun x213 =>
  gF x213 fun z214 =>
  if c210.length = 2 then
  pcallS (call Ev) Fn.laws_eqEdit [.agg [.int .i64 i206, .fs z208], .agg [.int .i64 i212, .fs z214]] fun v215 =>
  gV1 v215 fun x216 =>
  gB x216 fun q217 =>
  hchk h h (
  vcase (bv (!q217))
  (some (.ret (bv false) h))
  (Lp.laws_eqEditS 0 [lv s0, lv s1, iv .i64 (IntKind.i64.wrap (s5 + 1))] (tidy h [lv s0, lv s1, iv .i64 (IntKind.i64.wrap (s5 + 1))] h)))
  else none
  else none)
  (some (.done [] (tidy h [] h))) := by
  unfold Lp.laws_eqEditS; rw [loop_eq]; kernel_rfl

theorem pu_laws_eqEditsResult (a0_0 : Int) (a0_1 : List (List S)) (a0_2 : List (List S)) (a1_0 : Int) (a1_1 : List (List S)) (a1_2 : List (List S)) : pureV (call Ev) Fn.laws_eqEditsResult [.agg [.int .i64 a0_0, .fs a0_1, .fs a0_2], .agg [.int .i64 a1_0, .fs a1_1, .fs a1_2]] =
  vcase (bv (a0_0 != a1_0))
  (some (bv false))
  (pcallS (call Ev) Fn.laws_eqEditS [lv a0_1, lv a1_1] fun v102 =>
  gV1 v102 fun x103 =>
  gB x103 fun q104 =>
  vcase (bv (!q104))
  (some (bv false))
  (pcallS (call Ev) Fn.laws_eqByteSS [lv a0_2, lv a1_2] fun v106 =>
  gV1 v106 fun x107 =>
  gB x107 fun q108 =>
  vcase (bv (!q108))
  (some (bv false))
  (some (bv true)))) := by
  rw [pure_eq]; kernel_rfl

theorem eq_laws_markEditS (a0 : V) (a1 : Int) (h : H) : call Ev Fn.laws_markEditS [a0, iv .i64 a1] h =
  (Lp.laws_markEditS 0 [a0, iv .i64 a1, iv .i64 0] h).bind fun o101 => lcase o101 (fun l102 h103 =>
  (l102[0]?).bind fun w106 =>
  gV1 w106 fun x107 =>
  gI .i64 x107 fun i108 =>
  some (iv .i64 i108, h103)) (fun v104 h105 =>
  some (v104, h105)) := by
  rw [call_eq]; kernel_rfl

theorem eq_laws_markEditS_l0 (s0 : V) (s1 : Int) (s5 : Int) (h : H) : Lp.laws_markEditS 0 [s0, iv .i64 s1, iv .i64 s5] h =
  (lenV (.sl 159) s0).bind fun v201 =>
  gV1 v201 fun x202 =>
  gI .i64 x202 fun i203 =>
  vcase (bv (decide (s5 < i203)))
  (idxK 2 s0 (iv .i64 s5) fun v206 =>
  (padd 0 v206).bind fun v207 =>
  stK 1 h v207 (iv .i64 s1) fun h208 =>
  idxK 2 s0 (iv .i64 s5) fun v209 =>
  (padd 1 v209).bind fun v210 =>
  ldK (.one (.f)) ⟨1, 24, [.sl none 0], false, .sl 5, false⟩ h208 v210 fun v211 =>
  (call Ev Fn.laws_markByteS [v211, iv .i64 (IntKind.i64.wrap (s1 + 1))] h208).bind fun p212 =>
  gV1 p212.1 fun x213 =>
  gI .i64 x213 fun i214 =>
  Lp.laws_markEditS 0 [s0, iv .i64 i214, iv .i64 (IntKind.i64.wrap (s5 + 1))] (tidy h [s0, iv .i64 i214, iv .i64 (IntKind.i64.wrap (s5 + 1))] (tidy h208 [p212.1] p212.2)))
  (some (.done [iv .i64 s1] (tidy h [iv .i64 s1] h))) := by
  unfold Lp.laws_markEditS; rw [loop_eq]; kernel_rfl

theorem eq_laws_markEditsResult (a0_0 : Int) (a0_1 : S) (a0_2 : S) (a1 : Int) (h : H) : call Ev Fn.laws_markEditsResult [.agg [.int .i64 a0_0, a0_1, a0_2], iv .i64 a1] h =
  (load1 (h.new 0 [.int .i64 a0_0, a0_1, a0_2]) (pv h.n 1)).bind fun x101 =>
  (call Ev Fn.laws_markEditS [.s x101, iv .i64 a1] (h.new 0 [.int .i64 a0_0, a0_1, a0_2])).bind fun p102 =>
  gV1 p102.1 fun x103 =>
  gI .i64 x103 fun i104 =>
  (load1 (tidy (h.new 0 [.int .i64 a0_0, a0_1, a0_2]) [p102.1] p102.2) (pv h.n 2)).bind fun x105 =>
  (call Ev Fn.laws_markByteSS [.s x105, iv .i64 i104] (tidy (h.new 0 [.int .i64 a0_0, a0_1, a0_2]) [p102.1] p102.2)).bind fun p106 =>
  gV1 p106.1 fun x107 =>
  gI .i64 x107 fun i108 =>
  some (iv .i64 i108, tidy (tidy (h.new 0 [.int .i64 a0_0, a0_1, a0_2]) [p102.1] p102.2) [p106.1] p106.2) := by
  rw [call_eq]; kernel_rfl

theorem pu_laws_heldEditS (a0 : List (List S)) (a1 : Int) : pureV (call Ev) Fn.laws_heldEditS [lv a0, iv .i64 a1] =
  (Lp.laws_heldEditS 0 [lv a0, iv .i64 a1, iv .i64 0] (D 0)).bind fun o101 => lcase o101 (fun l102 h103 =>
  (l102[0]?).bind fun w106 =>
  gV1 w106 fun x107 =>
  gI .i64 x107 fun i108 =>
  some (iv .i64 i108)) (fun v104 h105 =>
  frzV h105 v104) := by
  rw [pure_eq]; kernel_rfl

theorem eq_laws_heldEditS_l0 (s0 : List (List S)) (s1 : Int) (s5 : Int) (h : H) : Lp.laws_heldEditS 0 [lv s0, iv .i64 s1, iv .i64 s5] h =
  vcase (bv (decide (s5 < (s0.length : Int))))
  (idxF 2 s0 s5 fun r203 =>
  (r203[0]?).bind fun x204 =>
  gI .i64 x204 fun i205 =>
  vcase (bv (i205 != s1))
  (some (.ret (iv .i64 (-1)) h))
  (idxF 2 s0 s5 fun r207 =>
  (r207[1]?).bind fun x208 =>
  gF x208 fun z209 =>
  pcallS (call Ev) Fn.laws_heldByteS [lv z209, iv .i64 (IntKind.i64.wrap (s1 + 1))] fun v210 =>
  gV1 v210 fun x211 =>
  gI .i64 x211 fun i212 =>
  vcase (bv (decide (i212 < 0)))
  (some (.ret (iv .i64 (-1)) h))
  (Lp.laws_heldEditS 0 [lv s0, iv .i64 i212, iv .i64 (IntKind.i64.wrap (s5 + 1))] (tidy h [lv s0, iv .i64 i212, iv .i64 (IntKind.i64.wrap (s5 + 1))] h))))
  (some (.done [iv .i64 s1] (tidy h [iv .i64 s1] h))) := by
  unfold Lp.laws_heldEditS; rw [loop_eq]; kernel_rfl

theorem pu_laws_heldEditsResult (a0_0 : Int) (a0_1 : List (List S)) (a0_2 : List (List S)) (a1 : Int) : pureV (call Ev) Fn.laws_heldEditsResult [.agg [.int .i64 a0_0, .fs a0_1, .fs a0_2], iv .i64 a1] =
  pcallS (call Ev) Fn.laws_heldEditS [lv a0_1, iv .i64 a1] fun v101 =>
  gV1 v101 fun x102 =>
  gI .i64 x102 fun i103 =>
  vcase (bv (decide (i103 < 0)))
  (some (iv .i64 (-1)))
  (pcallS (call Ev) Fn.laws_heldByteSS [lv a0_2, iv .i64 i103] fun v105 =>
  gV1 v105 fun x106 =>
  gI .i64 x106 fun i107 =>
  vcase (bv (decide (i107 < 0)))
  (some (iv .i64 (-1)))
  (some (iv .i64 i107))) := by
  rw [pure_eq]; kernel_rfl

noncomputable def Jn.laws_FnExactDeleteEdits_0 (q229 : Bool) (h126 : H) (p150 : V × H) (h120 : H) (a0 : List (List S)) (a1 : Int) (a2 : Int) : Option (V) :=
  vcase (bv q229)
  (some (bv false))
  ((loadN 3 (tidy h126 [p150.1] p150.2) (pv h120.n 0)).bind fun c231 =>
  (c231[0]?).bind fun x232 =>
  gI .i64 x232 fun i233 =>
  (c231[1]?).bind fun x234 =>
  (c231[2]?).bind fun x235 =>
  if c231.length = 3 then
  (call Ev Fn.laws_markEditsResult [.agg [.int .i64 i233, x234, x235], iv .i64 1] (tidy h126 [p150.1] p150.2)).bind fun p236 =>
  gV1 p236.1 fun x237 =>
  gI .i64 x237 fun i238 =>
  (loadN 3 (tidy (tidy h126 [p150.1] p150.2) [p236.1] p236.2) (pv h120.n 0)).bind fun c239 =>
  (c239[0]?).bind fun x240 =>
  gI .i64 x240 fun i241 =>
  (c239[1]?).bind fun x242 =>
  (c239[2]?).bind fun x243 =>
  if c239.length = 3 then
  (frzVs (tidy (tidy h126 [p150.1] p150.2) [p236.1] p236.2) [.agg [.int .i64 i241, x242, x243], iv .i64 1]).bind fun l244 =>
  pcallS (call Ev) Fn.laws_heldEditsResult (normVs [] l244) fun v245 =>
  gV1 v245 fun x246 =>
  gI .i64 x246 fun i247 =>
  vcase (bv (decide (i247 < 0)))
  (some (bv false))
  (vcase (bv (i247 != i238))
  (some (bv false))
  ((pureV (call Ev) Fn.laws_toByteSS [lv a0]).bind fun v250 =>
  gV1 v250 fun x251 =>
  gF x251 fun z252 =>
  (pureV (call Ev) Fn.impl_DeleteEdits [lv z252, iv .i64 a1, iv .i64 a2]).bind fun v253 =>
  gVA v253 fun c254 =>
  (c254[0]?).bind fun x255 =>
  gI .i64 x255 fun i256 =>
  (c254[1]?).bind fun x257 =>
  gF x257 fun z258 =>
  (c254[2]?).bind fun x259 =>
  gF x259 fun z260 =>
  if c254.length = 3 then
  stK 3 ((tidy (tidy h126 [p150.1] p150.2) [p236.1] p236.2).new 0 [.int .i64 0, .sl none 0, .sl none 0]) (pv ((tidy (tidy h126 [p150.1] p150.2) [p236.1] p236.2).n) 0) (.agg [.int .i64 i256, .fs z258, .fs z260]) fun h261 =>
  (loadN 3 h261 (pv ((tidy (tidy h126 [p150.1] p150.2) [p236.1] p236.2).n) 0)).bind fun c262 =>
  (c262[0]?).bind fun x263 =>
  gI .i64 x263 fun i264 =>
  (c262[1]?).bind fun x265 =>
  (c262[2]?).bind fun x266 =>
  if c262.length = 3 then
  (loadN 3 h261 (pv 0 0)).bind fun c267 =>
  (c267[0]?).bind fun x268 =>
  gI .i64 x268 fun i269 =>
  (c267[1]?).bind fun x270 =>
  (c267[2]?).bind fun x271 =>
  if c267.length = 3 then
  (frzVs h261 [.agg [.int .i64 i264, x265, x266], .agg [.int .i64 i269, x270, x271]]).bind fun l272 =>
  pcallS (call Ev) Fn.laws_eqEditsResult (normVs [] l272) fun v273 =>
  gV1 v273 fun x274 =>
  gB x274 fun q275 =>
  vcase (bv (!q275))
  (some (bv false))
  ((loadN 3 h261 (pv h120.n 0)).bind fun c277 =>
  (c277[0]?).bind fun x278 =>
  gI .i64 x278 fun i279 =>
  (c277[1]?).bind fun x280 =>
  (c277[2]?).bind fun x281 =>
  if c277.length = 3 then
  (frzVs h261 [.agg [.int .i64 i279, x280, x281], iv .i64 1]).bind fun l282 =>
  pcallS (call Ev) Fn.laws_heldEditsResult (normVs [] l282) fun v283 =>
  gV1 v283 fun x284 =>
  gI .i64 x284 fun i285 =>
  vcase (bv (decide (i285 < 0)))
  (some (bv false))
  (vcase (bv (i285 != i238))
  (some (bv false))
  (some (bv true)))
  else none)
  else none
  else none
  else none))
  else none
  else none)

theorem pu_laws_FnExactDeleteEdits (a0 : List (List S)) (a1 : Int) (a2 : Int) : pureV (call Ev) Fn.laws_FnExactDeleteEdits [lv a0, iv .i64 a1, iv .i64 a2] =
  pcallS (call Ev) Fn.laws_szByteSS [lv a0, iv .i64 1048576] fun v101 =>
  gV1 v101 fun x102 =>
  gI .i64 x102 fun i103 =>
  vcase (bv (decide (i103 < 0)))
  (some (bv true))
  ((pureV (call Ev) Fn.laws_toByteSS [lv a0]).bind fun v105 =>
  gV1 v105 fun x106 =>
  gF x106 fun z107 =>
  (pureV (call Ev) Fn.spec_DeleteEdits [lv z107, iv .i64 a1, iv .i64 a2]).bind fun v108 =>
  gVA v108 fun c109 =>
  (c109[0]?).bind fun x110 =>
  gI .i64 x110 fun i111 =>
  (c109[1]?).bind fun x112 =>
  gF x112 fun z113 =>
  (c109[2]?).bind fun x114 =>
  gF x114 fun z115 =>
  if c109.length = 3 then
  pcallF (call Ev) Fn.laws_toByteSS true [lv a0] (((D 0).new 0 [.int .i64 0, .sl none 0, .sl none 0]).put 0 (.rw 0 [.int .i64 i111, .fs z113, .fs z115])) fun v116 h117 =>
  (frzVs h117 [v116, iv .i64 a1, iv .i64 a2]).bind fun l118 =>
  pcallF (call Ev) Fn.impl_DeleteEdits ([v116, iv .i64 a1, iv .i64 a2].all offV) (normVs [] l118) h117 fun v119 h120 =>
  gVA v119 fun c121 =>
  (c121[0]?).bind fun x122 =>
  gI .i64 x122 fun i123 =>
  (c121[1]?).bind fun x124 =>
  (c121[2]?).bind fun x125 =>
  if c121.length = 3 then
  stK 3 (h120.new 0 [.int .i64 0, .sl none 0, .sl none 0]) (pv h120.n 0) (.agg [.int .i64 i123, x124, x125]) fun h126 =>
  (loadN 3 h126 (pv h120.n 0)).bind fun c127 =>
  (c127[0]?).bind fun x128 =>
  gI .i64 x128 fun i129 =>
  (c127[1]?).bind fun x130 =>
  (c127[2]?).bind fun x131 =>
  if c127.length = 3 then
  (loadN 3 h126 (pv 0 0)).bind fun c132 =>
  (c132[0]?).bind fun x133 =>
  gI .i64 x133 fun i134 =>
  (c132[1]?).bind fun x135 =>
  (c132[2]?).bind fun x136 =>
  if c132.length = 3 then
  (frzVs h126 [.agg [.int .i64 i129, x130, x131], .agg [.int .i64 i134, x135, x136]]).bind fun l137 =>
  pcallS (call Ev) Fn.laws_eqEditsResult (normVs [] l137) fun v138 =>
  gV1 v138 fun x139 =>
  gB x139 fun q140 =>
  vcase (bv (!q140))
  (some (bv false))
  ((pureV (call Ev) Fn.laws_toByteSS [lv a0]).bind fun v142 =>
  gV1 v142 fun x143 =>
  gF x143 fun z144 =>
  (frzVs h126 [v116, lv z144]).bind fun l145 =>
  pcallS (call Ev) Fn.laws_eqByteSS (normVs [] l145) fun v146 =>
  gV1 v146 fun x147 =>
  gB x147 fun q148 =>
  vcase (bv (!q148))
  (some (bv false))
  ((call Ev Fn.laws_markByteSS [v116, iv .i64 1] h126).bind fun p150 =>
  gV1 p150.1 fun x151 =>
  gI .i64 x151 fun i152 =>
  vcase (bv (decide (i152 < 0)))
  (Jn.laws_FnExactDeleteEdits_0 true h126 p150 h120 a0 a1 a2)
  ((loadN 3 (tidy h126 [p150.1] p150.2) (pv h120.n 0)).bind fun c155 =>
  (c155[0]?).bind fun x156 =>
  gI .i64 x156 fun i157 =>
  (c155[1]?).bind fun x158 =>
  (c155[2]?).bind fun x159 =>
  if c155.length = 3 then
  (loadN 3 (tidy h126 [p150.1] p150.2) (pv 0 0)).bind fun c160 =>
  (c160[0]?).bind fun x161 =>
  gI .i64 x161 fun i162 =>
  (c160[1]?).bind fun x163 =>
  (c160[2]?).bind fun x164 =>
  if c160.length = 3 then
  (frzVs (tidy h126 [p150.1] p150.2) [.agg [.int .i64 i157, x158, x159], .agg [.int .i64 i162, x163, x164]]).bind fun l165 =>
  pcallS (call Ev) Fn.laws_eqEditsResult (normVs [] l165) fun v166 =>
  gV1 v166 fun x167 =>
  gB x167 fun q168 =>
  Jn.laws_FnExactDeleteEdits_0 (!q168) h126 p150 h120 a0 a1 a2
  else none
  else none)))
  else none
  else none
  else none
  else none) := by
  rw [pure_eq]; kernel_rfl

end Vm
