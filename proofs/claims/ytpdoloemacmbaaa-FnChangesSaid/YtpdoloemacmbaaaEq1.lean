/-
  What each function, and each round of each loop, comes to in the small machine. Written by a program (gen3.py).
-/
import Derived.Test.YtpdoloemacmbaaaEnv
set_option linter.unusedVariables false
set_option maxRecDepth 100000
namespace Vm
open Go

theorem eq_spec_l6Changes (a0 : List (List S)) (a1 : List (List S)) (n : Nat) : call Ev Fn.spec_l6Changes [lv a0, lv a1] (D n) =
  (appS 4 ((D n).new 4 []) (sv ((D n).n) 0 0) (lv a0)).bind fun p101 =>
  (Lp.spec_l6Changes 0 [lv a0, lv a1, p101.1, iv .i64 0] p101.2).bind fun o102 => lcase o102 (fun l103 h104 =>
  (l103[0]?).bind fun w107 =>
  gV1 w107 fun x108 =>
  gF x108 fun z109 =>
  (l103[1]?).bind fun w110 =>
  gV1 w110 fun x111 =>
  gF x111 fun z112 =>
  (l103[2]?).bind fun w113 =>
  (Lp.spec_l6Changes 2 [lv z109, lv z112, w113, sv h104.n 0 0, iv .i64 0] (h104.new 10 [])).bind fun o114 => lcase o114 (fun l115 h116 =>
  (l115[0]?).bind fun w119 =>
  some (w119, h116)) (fun v117 h118 =>
  some (v117, h118))) (fun v105 h106 =>
  some (v105, h106)) := by
  rw [call_eq]; kernel_rfl

theorem eq_spec_l6Changes_l0 (s0 : List (List S)) (s1 : List (List S)) (s5 : V) (s6 : Int) (h : H) : Lp.spec_l6Changes 0 [lv s0, lv s1, s5, iv .i64 s6] h =
  vcase (bv (decide (s6 < (s1.length : Int))))
  (idxF 4 s1 s6 fun r203 =>
  (r203[0]?).bind fun x204 =>
  gI .i64 x204 fun i205 =>
  idxF 4 s1 s6 fun r206 =>
  (r206[1]?).bind fun x207 =>
  gI .i64 x207 fun i208 =>
  pcallS (call Ev) Fn.spec_l6At [lv s0, iv .i64 i205, iv .i64 i208] fun v209 =>
  gV1 v209 fun x210 =>
  gI .i64 x210 fun i211 =>
  hchk h h (
  vcase (bv (decide (i211 < 0)))
  (idxF 4 s1 s6 fun r213 =>
  (rowN 4 r213 0).bind fun c214 =>
  (c214[0]?).bind fun x215 =>
  gI .i64 x215 fun i216 =>
  (c214[1]?).bind fun x217 =>
  gI .i64 x217 fun i218 =>
  (c214[2]?).bind fun x219 =>
  gI .i64 x219 fun i220 =>
  (c214[3]?).bind fun x221 =>
  gS x221 fun y222 =>
  if c214.length = 4 then
  (frzVs h [s5, .agg [.int .i64 i216, .int .i64 i218, .int .i64 i220, .str y222]]).bind fun l223 =>
  pcallF (call Ev) Fn.spec_l6Put ([s5, .agg [.int .i64 i216, .int .i64 i218, .int .i64 i220, .str y222]].all offV) (normVs [] l223) h fun v224 h225 =>
  Lp.spec_l6Changes 0 [lv s0, lv s1, v224, iv .i64 (IntKind.i64.wrap (s6 + 1))] (tidy h [lv s0, lv s1, v224, iv .i64 (IntKind.i64.wrap (s6 + 1))] h225)
  else none)
  (Lp.spec_l6Changes 0 [lv s0, lv s1, s5, iv .i64 (IntKind.i64.wrap (s6 + 1))] (tidy h [lv s0, lv s1, s5, iv .i64 (IntKind.i64.wrap (s6 + 1))] h))))
  (some (.done [lv s0, lv s1, s5] (tidy h [lv s0, lv s1, s5] h))) := by
  unfold Lp.spec_l6Changes; rw [loop_eq]; kernel_rfl

noncomputable def Jn.spec_l6Changes_l2_0 (h723 : H) (h : H) (s7 : V) (s0 : List (List S)) (s1 : List (List S)) (s5 : V) (s8 : Int) : Option (LOut) :=
  (loadN 10 h723 (pv h.n 0)).bind fun c724 =>
  (c724[0]?).bind fun x725 =>
  gB x725 fun q726 =>
  (c724[1]?).bind fun x727 =>
  gI .i64 x727 fun i728 =>
  (c724[2]?).bind fun x729 =>
  gI .i64 x729 fun i730 =>
  (c724[3]?).bind fun x731 =>
  gI .i64 x731 fun i732 =>
  (c724[4]?).bind fun x733 =>
  gS x733 fun y734 =>
  (c724[5]?).bind fun x735 =>
  gB x735 fun q736 =>
  (c724[6]?).bind fun x737 =>
  gI .i64 x737 fun i738 =>
  (c724[7]?).bind fun x739 =>
  gI .i64 x739 fun i740 =>
  (c724[8]?).bind fun x741 =>
  gI .i64 x741 fun i742 =>
  (c724[9]?).bind fun x743 =>
  gS x743 fun y744 =>
  if c724.length = 10 then
  (appS 10 (h723.new 10 [.bool q726, .int .i64 i728, .int .i64 i730, .int .i64 i732, .str y734, .bool q736, .int .i64 i738, .int .i64 i740, .int .i64 i742, .str y744]) s7 (sv h723.n 0 1)).bind fun p745 =>
  Lp.spec_l6Changes 2 [lv s0, lv s1, s5, p745.1, iv .i64 (IntKind.i64.wrap (s8 + 1))] (tidy h [lv s0, lv s1, s5, p745.1, iv .i64 (IntKind.i64.wrap (s8 + 1))] p745.2)
  else none

noncomputable def Jn.spec_l6Changes_l2_1 (q686 : Bool) (w687 : V) (w688 : V) (w689 : V) (w690 : V) (w691 : V) (w692 : V) (w693 : V) (w694 : V) (w695 : V) (q696 : Bool) (s0 : List (List S)) (s1 : List (List S)) (s5 : V) (s7 : V) (s8 : Int) (h : H) (i418 : Int) (i431 : Int) : Option (LOut) :=
  vcase (bv q696)
  (Lp.spec_l6Changes 2 [lv s0, lv s1, s5, s7, iv .i64 (IntKind.i64.wrap (s8 + 1))] (tidy h [lv s0, lv s1, s5, s7, iv .i64 (IntKind.i64.wrap (s8 + 1))] h))
  (stK 10 (h.new 0 [.bool false, .int .i64 0, .int .i64 0, .int .i64 0, .str (⟨#[]⟩), .bool false, .int .i64 0, .int .i64 0, .int .i64 0, .str (⟨#[]⟩)]) (pv h.n 0) (.agg [.bool (decide (i418 ≥ 0)), .int .i64 0, .int .i64 0, .int .i64 0, .str (⟨#[]⟩), .bool (decide (i431 ≥ 0)), .int .i64 0, .int .i64 0, .int .i64 0, .str (⟨#[]⟩)]) fun h698 =>
  vcase (bv (decide (i418 ≥ 0)))
  (idxF 4 s0 i418 fun r700 =>
  (rowN 4 r700 0).bind fun c701 =>
  (c701[0]?).bind fun x702 =>
  gI .i64 x702 fun i703 =>
  (c701[1]?).bind fun x704 =>
  gI .i64 x704 fun i705 =>
  (c701[2]?).bind fun x706 =>
  gI .i64 x706 fun i707 =>
  (c701[3]?).bind fun x708 =>
  gS x708 fun y709 =>
  if c701.length = 4 then
  stK 4 h698 (pv h.n 1) (.agg [.int .i64 i703, .int .i64 i705, .int .i64 i707, .str y709]) fun h710 =>
  vcase (bv (decide (i431 ≥ 0)))
  (idxF 4 s1 i431 fun r712 =>
  (rowN 4 r712 0).bind fun c713 =>
  (c713[0]?).bind fun x714 =>
  gI .i64 x714 fun i715 =>
  (c713[1]?).bind fun x716 =>
  gI .i64 x716 fun i717 =>
  (c713[2]?).bind fun x718 =>
  gI .i64 x718 fun i719 =>
  (c713[3]?).bind fun x720 =>
  gS x720 fun y721 =>
  if c713.length = 4 then
  stK 4 h710 (pv h.n 6) (.agg [.int .i64 i715, .int .i64 i717, .int .i64 i719, .str y721]) fun h722 =>
  Jn.spec_l6Changes_l2_0 h722 h s7 s0 s1 s5 s8
  else none)
  (Jn.spec_l6Changes_l2_0 h710 h s7 s0 s1 s5 s8)
  else none)
  (vcase (bv (decide (i431 ≥ 0)))
  (idxF 4 s1 i431 fun r747 =>
  (rowN 4 r747 0).bind fun c748 =>
  (c748[0]?).bind fun x749 =>
  gI .i64 x749 fun i750 =>
  (c748[1]?).bind fun x751 =>
  gI .i64 x751 fun i752 =>
  (c748[2]?).bind fun x753 =>
  gI .i64 x753 fun i754 =>
  (c748[3]?).bind fun x755 =>
  gS x755 fun y756 =>
  if c748.length = 4 then
  stK 4 h698 (pv h.n 6) (.agg [.int .i64 i750, .int .i64 i752, .int .i64 i754, .str y756]) fun h757 =>
  Jn.spec_l6Changes_l2_0 h757 h s7 s0 s1 s5 s8
  else none)
  (Jn.spec_l6Changes_l2_0 h698 h s7 s0 s1 s5 s8)))

noncomputable def Jn.spec_l6Changes_l2_2 (q659 : Bool) (w660 : V) (w661 : V) (q662 : Bool) (s0 : List (List S)) (i418 : Int) (s1 : List (List S)) (i431 : Int) (s5 : V) (s7 : V) (s8 : Int) (h : H) : Option (LOut) :=
  vcase (bv q662)
  (idxF 4 s0 i418 fun r664 =>
  (rowN 4 r664 0).bind fun c665 =>
  (c665[0]?).bind fun x666 =>
  gI .i64 x666 fun i667 =>
  (c665[1]?).bind fun x668 =>
  gI .i64 x668 fun i669 =>
  (c665[2]?).bind fun x670 =>
  gI .i64 x670 fun i671 =>
  (c665[3]?).bind fun x672 =>
  gS x672 fun y673 =>
  if c665.length = 4 then
  idxF 4 s1 i431 fun r674 =>
  (rowN 4 r674 0).bind fun c675 =>
  (c675[0]?).bind fun x676 =>
  gI .i64 x676 fun i677 =>
  (c675[1]?).bind fun x678 =>
  gI .i64 x678 fun i679 =>
  (c675[2]?).bind fun x680 =>
  gI .i64 x680 fun i681 =>
  (c675[3]?).bind fun x682 =>
  gS x682 fun y683 =>
  if c675.length = 4 then
  Jn.spec_l6Changes_l2_1 true (lv s0) (iv .i64 i418) (fv r664 0) (.agg [.int .i64 i667, .int .i64 i669, .int .i64 i671, .str y673]) (lv s1) (iv .i64 i431) (fv r674 0) (.agg [.int .i64 i677, .int .i64 i679, .int .i64 i681, .str y683]) (bv (((i667 : Int) == i677) && (((i669 : Int) == i679) && (((i671 : Int) == i681) && (((y673 : ByteArray).toList == (y683 : ByteArray).toList) && true))))) (((i667 : Int) == i677) && (((i669 : Int) == i679) && (((i671 : Int) == i681) && (((y673 : ByteArray).toList == (y683 : ByteArray).toList) && true)))) s0 s1 s5 s7 s8 h i418 i431
  else none
  else none)
  (Jn.spec_l6Changes_l2_1 false (.tup []) (.tup []) (.tup []) (.tup []) (.tup []) (.tup []) (.tup []) (.tup []) (.tup []) false s0 s1 s5 s7 s8 h i418 i431)

theorem eq_spec_l6Changes_l2 (s0 : List (List S)) (s1 : List (List S)) (s5 : V) (s7 : V) (s8 : Int) (h : H) : Lp.spec_l6Changes 2 [lv s0, lv s1, s5, s7, iv .i64 s8] h =
  (lenV (.sl 39) s5).bind fun v401 =>
  gV1 v401 fun x402 =>
  gI .i64 x402 fun i403 =>
  vcase (bv (decide (s8 < i403)))
  (idxK 4 s5 (iv .i64 s8) fun v406 =>
  (padd 0 v406).bind fun v407 =>
  ldK (.one (.i .i64)) ⟨1, 8, [.int .i64 0], false, .int .i64, false⟩ h v407 fun v408 =>
  gV1 v408 fun x409 =>
  gI .i64 x409 fun i410 =>
  idxK 4 s5 (iv .i64 s8) fun v411 =>
  (padd 1 v411).bind fun v412 =>
  ldK (.one (.i .i64)) ⟨1, 8, [.int .i64 0], false, .int .i64, false⟩ h v412 fun v413 =>
  gV1 v413 fun x414 =>
  gI .i64 x414 fun i415 =>
  pcallS (call Ev) Fn.spec_l6At [lv s0, iv .i64 i410, iv .i64 i415] fun v416 =>
  gV1 v416 fun x417 =>
  gI .i64 x417 fun i418 =>
  hchk h h (
  idxK 4 s5 (iv .i64 s8) fun v419 =>
  (padd 0 v419).bind fun v420 =>
  ldK (.one (.i .i64)) ⟨1, 8, [.int .i64 0], false, .int .i64, false⟩ h v420 fun v421 =>
  gV1 v421 fun x422 =>
  gI .i64 x422 fun i423 =>
  idxK 4 s5 (iv .i64 s8) fun v424 =>
  (padd 1 v424).bind fun v425 =>
  ldK (.one (.i .i64)) ⟨1, 8, [.int .i64 0], false, .int .i64, false⟩ h v425 fun v426 =>
  gV1 v426 fun x427 =>
  gI .i64 x427 fun i428 =>
  pcallS (call Ev) Fn.spec_l6At [lv s1, iv .i64 i423, iv .i64 i428] fun v429 =>
  gV1 v429 fun x430 =>
  gI .i64 x430 fun i431 =>
  hchk h h (
  vcase (bv (decide (i418 ≥ 0)))
  (Jn.spec_l6Changes_l2_2 true (iv .i64 i431) (bv (decide (i431 ≥ 0))) (decide (i431 ≥ 0)) s0 i418 s1 i431 s5 s7 s8 h)
  (Jn.spec_l6Changes_l2_2 false (.tup []) (.tup []) false s0 i418 s1 i431 s5 s7 s8 h))))
  (some (.done [s7] (tidy h [s7] h))) := by
  unfold Lp.spec_l6Changes; rw [loop_eq]; kernel_rfl

theorem eq_spec_ChangesOf (a0 : List (List S)) (a1 : List (List S)) (n : Nat) : call Ev Fn.spec_ChangesOf [lv a0, lv a1] (D n) =
  pcallS (call Ev) Fn.spec_l6Rows [lv a0] fun v101 =>
  gV1 v101 fun x102 =>
  gI .i64 x102 fun i103 =>
  vcase (bv (i103 != 0))
  (stK 2 ((D n).new 0 [.int .i64 0, .sl none 0]) (pv ((D n).n) 0) (.agg [.int .i64 i103, .sl none 0]) fun h105 =>
  (loadN 2 h105 (pv ((D n).n) 0)).bind fun c106 =>
  some (.agg c106, h105))
  (pcallS (call Ev) Fn.spec_l6Rows [lv a1] fun v107 =>
  gV1 v107 fun x108 =>
  gI .i64 x108 fun i109 =>
  vcase (bv (i109 != 0))
  (stK 2 ((D n).new 0 [.int .i64 0, .sl none 0]) (pv ((D n).n) 0) (.agg [.int .i64 i109, .sl none 0]) fun h111 =>
  (loadN 2 h111 (pv ((D n).n) 0)).bind fun c112 =>
  some (.agg c112, h111))
  (pcallF (call Ev) Fn.spec_l6Changes true [lv a0, lv a1] ((D n).new 0 [.int .i64 0, .sl none 0]) fun v113 h114 =>
  cellsK v113 fun c115 =>
  if c115.length = 1 ∧ 1 + 1 ≤ ([.int .i64 0, .sl none 0] : List S).length then
  ((setAt ([.int .i64 0, .sl none 0] : List S) 1 c115)[0]?).bind fun x116 =>
  gI .i64 x116 fun i117 =>
  ((setAt ([.int .i64 0, .sl none 0] : List S) 1 c115)[1]?).bind fun x118 =>
  if (setAt ([.int .i64 0, .sl none 0] : List S) 1 c115).length = 2 then
  stK 2 h114 (pv ((D n).n) 0) (.agg [.int .i64 i117, x118]) fun h119 =>
  (loadN 2 h119 (pv ((D n).n) 0)).bind fun c120 =>
  some (.agg c120, h119)
  else none
  else none)) := by
  rw [call_eq]; kernel_rfl

theorem eq_slices_Clone_impl_Row_impl_Row (a0 : V) (h : H) : call Ev Fn.slices_Clone_impl_Row_impl_Row [a0] h =
  (bin Ev .eql 24 a0 (.s (.sl none 0))).bind fun b101 =>
  gV1 b101 fun x102 =>
  gB x102 fun q103 =>
  vcase (bv q103)
  (some (.s (.sl none 0), h))
  ((appS 4 (h.new 4 []) (sv h.n 0 0) a0).bind fun p105 =>
  some (p105.1, p105.2)) := by
  rw [call_eq]; kernel_rfl

noncomputable def Jn.impl_changeFault_0 (q221 : Bool) (a0_0 : Bool) (a0_1 : Int) (a0_2 : Int) (a0_3 : Int) (a0_4 : ByteArray) (a0_5 : Bool) (a0_6 : Int) (a0_7 : Int) (a0_8 : Int) (a0_9 : ByteArray) : Option (V) :=
  vcase (bv q221)
  (some (iv .i64 1))
  (vcase (bv a0_0)
  (pcallS (call Ev) Fn.impl_RowFault [.agg [.int .i64 a0_1, .int .i64 a0_2, .int .i64 a0_3, .str a0_4]] fun v224 =>
  gV1 v224 fun x225 =>
  gI .i64 x225 fun i226 =>
  vcase (bv (i226 != 0))
  (some (iv .i64 i226))
  (vcase (bv a0_5)
  (pcallS (call Ev) Fn.impl_RowFault [.agg [.int .i64 a0_6, .int .i64 a0_7, .int .i64 a0_8, .str a0_9]] fun v229 =>
  gV1 v229 fun x230 =>
  gI .i64 x230 fun i231 =>
  some (iv .i64 i231))
  (some (iv .i64 0))))
  (vcase (bv a0_5)
  (pcallS (call Ev) Fn.impl_RowFault [.agg [.int .i64 a0_6, .int .i64 a0_7, .int .i64 a0_8, .str a0_9]] fun v233 =>
  gV1 v233 fun x234 =>
  gI .i64 x234 fun i235 =>
  some (iv .i64 i235))
  (some (iv .i64 0))))

noncomputable def Jn.impl_changeFault_1 (q217 : Bool) (a0_0 : Bool) (a0_1 : Int) (a0_2 : Int) (a0_3 : Int) (a0_4 : ByteArray) (a0_5 : Bool) (a0_6 : Int) (a0_7 : Int) (a0_8 : Int) (a0_9 : ByteArray) : Option (V) :=
  Jn.impl_changeFault_0 q217 a0_0 a0_1 a0_2 a0_3 a0_4 a0_5 a0_6 a0_7 a0_8 a0_9

noncomputable def Jn.impl_changeFault_2 (q205 : Bool) (a0_0 : Bool) (a0_5 : Bool) (a0_1 : Int) (a0_2 : Int) (a0_3 : Int) (a0_4 : ByteArray) (a0_6 : Int) (a0_7 : Int) (a0_8 : Int) (a0_9 : ByteArray) : Option (V) :=
  vcase (bv q205)
  (Jn.impl_changeFault_0 true a0_0 a0_1 a0_2 a0_3 a0_4 a0_5 a0_6 a0_7 a0_8 a0_9)
  (vcase (bv a0_0)
  (vcase (bv a0_5)
  (pcallS (call Ev) Fn.impl_order [.agg [.int .i64 a0_1, .int .i64 a0_2, .int .i64 a0_3, .str a0_4], .agg [.int .i64 a0_6, .int .i64 a0_7, .int .i64 a0_8, .str a0_9]] fun v212 =>
  gV1 v212 fun x213 =>
  gI .i64 x213 fun i214 =>
  Jn.impl_changeFault_1 (i214 != 0) a0_0 a0_1 a0_2 a0_3 a0_4 a0_5 a0_6 a0_7 a0_8 a0_9)
  (Jn.impl_changeFault_1 false a0_0 a0_1 a0_2 a0_3 a0_4 a0_5 a0_6 a0_7 a0_8 a0_9))
  (Jn.impl_changeFault_0 false a0_0 a0_1 a0_2 a0_3 a0_4 a0_5 a0_6 a0_7 a0_8 a0_9))

theorem pu_impl_changeFault (a0_0 : Bool) (a0_1 : Int) (a0_2 : Int) (a0_3 : Int) (a0_4 : ByteArray) (a0_5 : Bool) (a0_6 : Int) (a0_7 : Int) (a0_8 : Int) (a0_9 : ByteArray) : pureV (call Ev) Fn.impl_changeFault [.agg [.bool a0_0, .int .i64 a0_1, .int .i64 a0_2, .int .i64 a0_3, .str a0_4, .bool a0_5, .int .i64 a0_6, .int .i64 a0_7, .int .i64 a0_8, .str a0_9]] =
  vcase (bv (!a0_0))
  (Jn.impl_changeFault_2 (!a0_5) a0_0 a0_5 a0_1 a0_2 a0_3 a0_4 a0_6 a0_7 a0_8 a0_9)
  (Jn.impl_changeFault_2 false a0_0 a0_5 a0_1 a0_2 a0_3 a0_4 a0_6 a0_7 a0_8 a0_9) := by
  rw [pure_eq]; kernel_rfl

theorem pu_impl_Change_key (a0_0 : Bool) (a0_1 : Int) (a0_2 : Int) (a0_3 : Int) (a0_4 : ByteArray) (a0_5 : Bool) (a0_6 : Int) (a0_7 : Int) (a0_8 : Int) (a0_9 : ByteArray) : pureV (call Ev) Fn.impl_Change_key [.agg [.bool a0_0, .int .i64 a0_1, .int .i64 a0_2, .int .i64 a0_3, .str a0_4, .bool a0_5, .int .i64 a0_6, .int .i64 a0_7, .int .i64 a0_8, .str a0_9]] =
  vcase (bv a0_5)
  (some (.agg [.int .i64 a0_6, .int .i64 a0_7, .int .i64 a0_8, .str a0_9]))
  (some (.agg [.int .i64 a0_1, .int .i64 a0_2, .int .i64 a0_3, .str a0_4])) := by
  rw [pure_eq]; kernel_rfl

theorem pu_slices_BinarySearchFunc_impl_Row_impl_Row_impl_Row (a0 : List (List S)) (a1_0 : Int) (a1_1 : Int) (a1_2 : Int) (a1_3 : ByteArray) : pureV (call Ev) Fn.slices_BinarySearchFunc_impl_Row_impl_Row_impl_Row [lv a0, .agg [.int .i64 a1_0, .int .i64 a1_1, .int .i64 a1_2, .str a1_3], .s (.fn Fn.impl_order [])] =
  (Lp.slices_BinarySearchFunc_impl_Row_impl_Row_impl_Row 0 [lv a0, .s (.fn Fn.impl_order []), pv 0 0, iv .i64 (a0.length : Int), iv .i64 0, iv .i64 (a0.length : Int)] ((D 0).new 0 [.int .i64 a1_0, .int .i64 a1_1, .int .i64 a1_2, .str a1_3])).bind fun o101 => lcase o101 (fun l102 h103 =>
  (l102[0]?).bind fun w106 =>
  gV1 w106 fun x107 =>
  gF x107 fun z108 =>
  (l102[1]?).bind fun w109 =>
  (l102[2]?).bind fun w110 =>
  (l102[3]?).bind fun w111 =>
  gV1 w111 fun x112 =>
  gI .i64 x112 fun i113 =>
  (l102[4]?).bind fun w114 =>
  gV1 w114 fun x115 =>
  gI .i64 x115 fun i116 =>
  vcase (bv (decide (i116 < i113)))
  (idxF 4 z108 i116 fun r118 =>
  (rowN 4 r118 0).bind fun c119 =>
  (c119[0]?).bind fun x120 =>
  gI .i64 x120 fun i121 =>
  (c119[1]?).bind fun x122 =>
  gI .i64 x122 fun i123 =>
  (c119[2]?).bind fun x124 =>
  gI .i64 x124 fun i125 =>
  (c119[3]?).bind fun x126 =>
  gS x126 fun y127 =>
  if c119.length = 4 then
  ldK (.agg [.i .i64, .i .i64, .i .i64, .s]) ⟨4, 40, [.int .i64 0, .int .i64 0, .int .i64 0, .str ⟨#[]⟩], true, .st [(0, 2), (1, 2), (2, 2), (3, 9)], true⟩ h103 w110 fun v128 =>
  gVA v128 fun c129 =>
  (c129[0]?).bind fun x130 =>
  gI .i64 x130 fun i131 =>
  (c129[1]?).bind fun x132 =>
  gI .i64 x132 fun i133 =>
  (c129[2]?).bind fun x134 =>
  gI .i64 x134 fun i135 =>
  (c129[3]?).bind fun x136 =>
  gS x136 fun y137 =>
  if c129.length = 4 then
  fnK w109 fun j138 m139 =>
  (frzVs h103 ([.agg [.int .i64 i121, .int .i64 i123, .int .i64 i125, .str y127], .agg [.int .i64 i131, .int .i64 i133, .int .i64 i135, .str y137]] ++ m139.map fun p => .s (.ptr (some p)))).bind fun l140 =>
  pcallS (call Ev) j138 (normVs (Ev.psz j138) l140) fun v141 =>
  Vm.tyV (Ev.rt j138) v141 fun v142 =>
  gV1 v142 fun x143 =>
  gI .i64 x143 fun i144 =>
  hchk h103 h103 (
  some (.tup [.s (.int .i64 i116), .s (.bool (i144 == 0))]))
  else none
  else none)
  (hchk h103 h103 (
  some (.tup [.s (.int .i64 i116), .s (.bool false)])))) (fun v104 h105 =>
  frzV h105 v104) := by
  rw [pure_eq]; kernel_rfl

theorem eq_slices_BinarySearchFunc_impl_Row_impl_Row_impl_Row_l0 (s0 : List (List S)) (s4 : V) (s8 : Int) (s9 : Int) (s10 : Int) (h : H) : Lp.slices_BinarySearchFunc_impl_Row_impl_Row_impl_Row 0 [lv s0, .s (.fn Fn.impl_order []), s4, iv .i64 s8, iv .i64 s9, iv .i64 s10] h =
  vcase (bv (decide (s9 < s10)))
  ((bin Ev .shr 170 (iv .u64 (IntKind.u64.wrap (IntKind.i64.wrap (s9 + s10)))) (iv .u64 1)).bind fun b203 =>
  gV1 b203 fun x204 =>
  gI .u64 x204 fun i205 =>
  idxF 4 s0 (IntKind.i64.wrap i205) fun r206 =>
  (rowN 4 r206 0).bind fun c207 =>
  (c207[0]?).bind fun x208 =>
  gI .i64 x208 fun i209 =>
  (c207[1]?).bind fun x210 =>
  gI .i64 x210 fun i211 =>
  (c207[2]?).bind fun x212 =>
  gI .i64 x212 fun i213 =>
  (c207[3]?).bind fun x214 =>
  gS x214 fun y215 =>
  if c207.length = 4 then
  ldK (.agg [.i .i64, .i .i64, .i .i64, .s]) ⟨4, 40, [.int .i64 0, .int .i64 0, .int .i64 0, .str ⟨#[]⟩], true, .st [(0, 2), (1, 2), (2, 2), (3, 9)], true⟩ h s4 fun v216 =>
  gVA v216 fun c217 =>
  (c217[0]?).bind fun x218 =>
  gI .i64 x218 fun i219 =>
  (c217[1]?).bind fun x220 =>
  gI .i64 x220 fun i221 =>
  (c217[2]?).bind fun x222 =>
  gI .i64 x222 fun i223 =>
  (c217[3]?).bind fun x224 =>
  gS x224 fun y225 =>
  if c217.length = 4 then
  pcallS (call Ev) Fn.impl_order [.agg [.int .i64 i209, .int .i64 i211, .int .i64 i213, .str y215], .agg [.int .i64 i219, .int .i64 i221, .int .i64 i223, .str y225]] fun v226 =>
  gV1 v226 fun x227 =>
  gI .i64 x227 fun i228 =>
  hchk h h (
  vcase (bv (decide (i228 < 0)))
  (Lp.slices_BinarySearchFunc_impl_Row_impl_Row_impl_Row 0 [lv s0, .s (.fn Fn.impl_order []), s4, iv .i64 s8, iv .i64 (IntKind.i64.wrap ((IntKind.i64.wrap i205) + 1)), iv .i64 s10] (tidy h [lv s0, .s (.fn Fn.impl_order []), s4, iv .i64 s8, iv .i64 (IntKind.i64.wrap ((IntKind.i64.wrap i205) + 1)), iv .i64 s10] h))
  (Lp.slices_BinarySearchFunc_impl_Row_impl_Row_impl_Row 0 [lv s0, .s (.fn Fn.impl_order []), s4, iv .i64 s8, iv .i64 s9, iv .i64 (IntKind.i64.wrap i205)] (tidy h [lv s0, .s (.fn Fn.impl_order []), s4, iv .i64 s8, iv .i64 s9, iv .i64 (IntKind.i64.wrap i205)] h)))
  else none
  else none)
  (some (.done [lv s0, .s (.fn Fn.impl_order []), s4, iv .i64 s8, iv .i64 s9] (tidy h [lv s0, .s (.fn Fn.impl_order []), s4, iv .i64 s8, iv .i64 s9] h))) := by
  unfold Lp.slices_BinarySearchFunc_impl_Row_impl_Row_impl_Row; rw [loop_eq]; kernel_rfl

theorem pu_impl_Change_fitsTo (a0_0 : Bool) (a0_1 : Int) (a0_2 : Int) (a0_3 : Int) (a0_4 : ByteArray) (a0_5 : Bool) (a0_6 : Int) (a0_7 : Int) (a0_8 : Int) (a0_9 : ByteArray) (a1 : List (List S)) : pureV (call Ev) Fn.impl_Change_fitsTo [.agg [.bool a0_0, .int .i64 a0_1, .int .i64 a0_2, .int .i64 a0_3, .str a0_4, .bool a0_5, .int .i64 a0_6, .int .i64 a0_7, .int .i64 a0_8, .str a0_9], lv a1] =
  pcallS (call Ev) Fn.impl_Change_key [.agg [.bool a0_0, .int .i64 a0_1, .int .i64 a0_2, .int .i64 a0_3, .str a0_4, .bool a0_5, .int .i64 a0_6, .int .i64 a0_7, .int .i64 a0_8, .str a0_9]] fun v101 =>
  gVA v101 fun c102 =>
  (c102[0]?).bind fun x103 =>
  gI .i64 x103 fun i104 =>
  (c102[1]?).bind fun x105 =>
  gI .i64 x105 fun i106 =>
  (c102[2]?).bind fun x107 =>
  gI .i64 x107 fun i108 =>
  (c102[3]?).bind fun x109 =>
  gS x109 fun y110 =>
  if c102.length = 4 then
  pcallS (call Ev) Fn.slices_BinarySearchFunc_impl_Row_impl_Row_impl_Row [lv a1, .agg [.int .i64 i104, .int .i64 i106, .int .i64 i108, .str y110], .s (.fn Fn.impl_order [])] fun v111 =>
  gVT v111 fun u112 =>
  (u112[0]?).bind fun t113 =>
  gA1 t113 fun x114 =>
  gI .i64 x114 fun i115 =>
  (u112[1]?).bind fun t116 =>
  gA1 t116 fun x117 =>
  gB x117 fun q118 =>
  if u112.length = 2 then
  vcase (bv (q118 == a0_0))
  (vcase (bv (!q118))
  (some (bv true))
  (idxF 4 a1 i115 fun r122 =>
  (rowN 4 r122 0).bind fun c123 =>
  (c123[0]?).bind fun x124 =>
  gI .i64 x124 fun i125 =>
  (c123[1]?).bind fun x126 =>
  gI .i64 x126 fun i127 =>
  (c123[2]?).bind fun x128 =>
  gI .i64 x128 fun i129 =>
  (c123[3]?).bind fun x130 =>
  gS x130 fun y131 =>
  if c123.length = 4 then
  some (bv (((i125 : Int) == a0_1) && (((i127 : Int) == a0_2) && (((i129 : Int) == a0_3) && (((y131 : ByteArray).toList == (a0_4 : ByteArray).toList) && true)))))
  else none))
  (some (bv false))
  else none
  else none := by
  rw [pure_eq]; kernel_rfl

theorem eq_impl_changed (a0 : List (List S)) (a1_0 : Bool) (a1_1 : Int) (a1_2 : Int) (a1_3 : Int) (a1_4 : ByteArray) (a1_5 : Bool) (a1_6 : Int) (a1_7 : Int) (a1_8 : Int) (a1_9 : ByteArray) (n : Nat) : call Ev Fn.impl_changed [lv a0, .agg [.bool a1_0, .int .i64 a1_1, .int .i64 a1_2, .int .i64 a1_3, .str a1_4, .bool a1_5, .int .i64 a1_6, .int .i64 a1_7, .int .i64 a1_8, .str a1_9]] (D n) =
  (loadN 10 ((D n).new 0 [.bool a1_0, .int .i64 a1_1, .int .i64 a1_2, .int .i64 a1_3, .str a1_4, .bool a1_5, .int .i64 a1_6, .int .i64 a1_7, .int .i64 a1_8, .str a1_9]) (pv ((D n).n) 0)).bind fun c101 =>
  (c101[0]?).bind fun x102 =>
  gB x102 fun q103 =>
  (c101[1]?).bind fun x104 =>
  gI .i64 x104 fun i105 =>
  (c101[2]?).bind fun x106 =>
  gI .i64 x106 fun i107 =>
  (c101[3]?).bind fun x108 =>
  gI .i64 x108 fun i109 =>
  (c101[4]?).bind fun x110 =>
  gS x110 fun y111 =>
  (c101[5]?).bind fun x112 =>
  gB x112 fun q113 =>
  (c101[6]?).bind fun x114 =>
  gI .i64 x114 fun i115 =>
  (c101[7]?).bind fun x116 =>
  gI .i64 x116 fun i117 =>
  (c101[8]?).bind fun x118 =>
  gI .i64 x118 fun i119 =>
  (c101[9]?).bind fun x120 =>
  gS x120 fun y121 =>
  if c101.length = 10 then
  pcallS (call Ev) Fn.impl_Change_key [.agg [.bool q103, .int .i64 i105, .int .i64 i107, .int .i64 i109, .str y111, .bool q113, .int .i64 i115, .int .i64 i117, .int .i64 i119, .str y121]] fun v122 =>
  gVA v122 fun c123 =>
  (c123[0]?).bind fun x124 =>
  gI .i64 x124 fun i125 =>
  (c123[1]?).bind fun x126 =>
  gI .i64 x126 fun i127 =>
  (c123[2]?).bind fun x128 =>
  gI .i64 x128 fun i129 =>
  (c123[3]?).bind fun x130 =>
  gS x130 fun y131 =>
  if c123.length = 4 then
  pcallS (call Ev) Fn.slices_BinarySearchFunc_impl_Row_impl_Row_impl_Row [lv a0, .agg [.int .i64 i125, .int .i64 i127, .int .i64 i129, .str y131], .s (.fn Fn.impl_order [])] fun v132 =>
  gVT v132 fun u133 =>
  (u133[0]?).bind fun t134 =>
  gA1 t134 fun x135 =>
  gI .i64 x135 fun i136 =>
  (u133[1]?).bind fun t137 =>
  gA1 t137 fun x138 =>
  gB x138 fun q139 =>
  if u133.length = 2 then
  slF 4 a0 none (some (iv .i64 i136)) fun z140 =>
  (appS 4 (((D n).new 0 [.bool a1_0, .int .i64 a1_1, .int .i64 a1_2, .int .i64 a1_3, .str a1_4, .bool a1_5, .int .i64 a1_6, .int .i64 a1_7, .int .i64 a1_8, .str a1_9]).new 4 []) (sv (((D n).new 0 [.bool a1_0, .int .i64 a1_1, .int .i64 a1_2, .int .i64 a1_3, .str a1_4, .bool a1_5, .int .i64 a1_6, .int .i64 a1_7, .int .i64 a1_8, .str a1_9]).n) 0 0) (lv z140)).bind fun p141 =>
  (load1 p141.2 (pv ((D n).n) 5)).bind fun x142 =>
  gB x142 fun q143 =>
  vcase (bv q143)
  ((loadN 4 p141.2 (pv ((D n).n) 6)).bind fun c145 =>
  (c145[0]?).bind fun x146 =>
  gI .i64 x146 fun i147 =>
  (c145[1]?).bind fun x148 =>
  gI .i64 x148 fun i149 =>
  (c145[2]?).bind fun x150 =>
  gI .i64 x150 fun i151 =>
  (c145[3]?).bind fun x152 =>
  gS x152 fun y153 =>
  if c145.length = 4 then
  (appS 4 (p141.2.new 4 [.int .i64 i147, .int .i64 i149, .int .i64 i151, .str y153]) p141.1 (sv p141.2.n 0 1)).bind fun p154 =>
  vcase (bv q139)
  (slF 4 a0 (some (iv .i64 (IntKind.i64.wrap (i136 + 1)))) none fun z156 =>
  (appS 4 p154.2 p154.1 (lv z156)).bind fun p157 =>
  some (p157.1, p157.2))
  (slF 4 a0 (some (iv .i64 i136)) none fun z158 =>
  (appS 4 p154.2 p154.1 (lv z158)).bind fun p159 =>
  some (p159.1, p159.2))
  else none)
  (vcase (bv q139)
  (slF 4 a0 (some (iv .i64 (IntKind.i64.wrap (i136 + 1)))) none fun z161 =>
  (appS 4 p141.2 p141.1 (lv z161)).bind fun p162 =>
  some (p162.1, p162.2))
  (slF 4 a0 (some (iv .i64 i136)) none fun z163 =>
  (appS 4 p141.2 p141.1 (lv z163)).bind fun p164 =>
  some (p164.1, p164.2)))
  else none
  else none
  else none := by
  rw [call_eq]; kernel_rfl

theorem eq_impl_ApplyChanges (a0 : V) (a1 : V) (h : H) : call Ev Fn.impl_ApplyChanges [a0, a1] h =
  (frzVs (h.new 0 [.int .i64 0, .sl none 0]) [a0]).bind fun l101 =>
  pcallS (call Ev) Fn.impl_RowsFault (normVs [] l101) fun v102 =>
  gV1 v102 fun x103 =>
  gI .i64 x103 fun i104 =>
  vcase (bv (i104 != 0))
  (stK 2 (h.new 0 [.int .i64 0, .sl none 0]) (pv h.n 0) (.agg [.int .i64 i104, .sl none 0]) fun h106 =>
  (loadN 2 h106 (pv h.n 0)).bind fun c107 =>
  some (.agg c107, h106))
  ((call Ev Fn.slices_Clone_impl_Row_impl_Row [a0] (h.new 0 [.int .i64 0, .sl none 0])).bind fun p108 =>
  (lenV (.sl 41) a1).bind fun v109 =>
  gV1 v109 fun x110 =>
  gI .i64 x110 fun i111 =>
  (Lp.impl_ApplyChanges 0 [pv h.n 0, p108.1, a1, iv .i64 i111, iv .i64 0] (tidy (h.new 0 [.int .i64 0, .sl none 0]) [p108.1] p108.2)).bind fun o112 => lcase o112 (fun l113 h114 =>
  (l113[0]?).bind fun w117 =>
  (l113[1]?).bind fun w118 =>
  (lenV (.sl 39) w118).bind fun v119 =>
  gV1 v119 fun x120 =>
  gI .i64 x120 fun i121 =>
  vcase (bv (decide (i121 > 60)))
  (stK 2 h114 w117 (.agg [.int .i64 2, .sl none 0]) fun h123 =>
  ldT ⟨2, 32, [.int .i64 0, .sl none 0], true, .st [(0, 2), (1, 24)], false⟩ h123 w117 fun v124 =>
  some (v124, h123))
  (cellsK w118 fun c125 =>
  if c125.length = 1 ∧ 1 + 1 ≤ ([.int .i64 0, .sl none 0] : List S).length then
  ((setAt ([.int .i64 0, .sl none 0] : List S) 1 c125)[0]?).bind fun x126 =>
  gI .i64 x126 fun i127 =>
  ((setAt ([.int .i64 0, .sl none 0] : List S) 1 c125)[1]?).bind fun x128 =>
  if (setAt ([.int .i64 0, .sl none 0] : List S) 1 c125).length = 2 then
  stK 2 h114 w117 (.agg [.int .i64 i127, x128]) fun h129 =>
  ldT ⟨2, 32, [.int .i64 0, .sl none 0], true, .st [(0, 2), (1, 24)], false⟩ h129 w117 fun v130 =>
  some (v130, h129)
  else none
  else none)) (fun v115 h116 =>
  some (v115, h116))) := by
  rw [call_eq]; kernel_rfl

theorem eq_impl_ApplyChanges_l0 (s4 : V) (s6 : V) (s18 : V) (s19 : Int) (s20 : Int) (h : H) : Lp.impl_ApplyChanges 0 [s4, s6, s18, iv .i64 s19, iv .i64 s20] h =
  vcase (bv (decide (s20 < s19)))
  (idxK 10 s18 (iv .i64 s20) fun v203 =>
  ldK (.agg [.b, .i .i64, .i .i64, .i .i64, .s, .b, .i .i64, .i .i64, .i .i64, .s]) ⟨10, 96, [.bool false, .int .i64 0, .int .i64 0, .int .i64 0, .str ⟨#[]⟩, .bool false, .int .i64 0, .int .i64 0, .int .i64 0, .str ⟨#[]⟩], true, .st [(0, 4), (1, 39), (5, 4), (6, 39)], true⟩ h v203 fun v204 =>
  gVA v204 fun c205 =>
  (c205[0]?).bind fun x206 =>
  gB x206 fun q207 =>
  (c205[1]?).bind fun x208 =>
  gI .i64 x208 fun i209 =>
  (c205[2]?).bind fun x210 =>
  gI .i64 x210 fun i211 =>
  (c205[3]?).bind fun x212 =>
  gI .i64 x212 fun i213 =>
  (c205[4]?).bind fun x214 =>
  gS x214 fun y215 =>
  (c205[5]?).bind fun x216 =>
  gB x216 fun q217 =>
  (c205[6]?).bind fun x218 =>
  gI .i64 x218 fun i219 =>
  (c205[7]?).bind fun x220 =>
  gI .i64 x220 fun i221 =>
  (c205[8]?).bind fun x222 =>
  gI .i64 x222 fun i223 =>
  (c205[9]?).bind fun x224 =>
  gS x224 fun y225 =>
  if c205.length = 10 then
  stK 10 (h.new 0 [.bool false, .int .i64 0, .int .i64 0, .int .i64 0, .str (⟨#[]⟩), .bool false, .int .i64 0, .int .i64 0, .int .i64 0, .str (⟨#[]⟩)]) (pv h.n 0) (.agg [.bool q207, .int .i64 i209, .int .i64 i211, .int .i64 i213, .str y215, .bool q217, .int .i64 i219, .int .i64 i221, .int .i64 i223, .str y225]) fun h226 =>
  (loadN 10 h226 (pv h.n 0)).bind fun c227 =>
  (c227[0]?).bind fun x228 =>
  gB x228 fun q229 =>
  (c227[1]?).bind fun x230 =>
  gI .i64 x230 fun i231 =>
  (c227[2]?).bind fun x232 =>
  gI .i64 x232 fun i233 =>
  (c227[3]?).bind fun x234 =>
  gI .i64 x234 fun i235 =>
  (c227[4]?).bind fun x236 =>
  gS x236 fun y237 =>
  (c227[5]?).bind fun x238 =>
  gB x238 fun q239 =>
  (c227[6]?).bind fun x240 =>
  gI .i64 x240 fun i241 =>
  (c227[7]?).bind fun x242 =>
  gI .i64 x242 fun i243 =>
  (c227[8]?).bind fun x244 =>
  gI .i64 x244 fun i245 =>
  (c227[9]?).bind fun x246 =>
  gS x246 fun y247 =>
  if c227.length = 10 then
  pcallS (call Ev) Fn.impl_changeFault [.agg [.bool q229, .int .i64 i231, .int .i64 i233, .int .i64 i235, .str y237, .bool q239, .int .i64 i241, .int .i64 i243, .int .i64 i245, .str y247]] fun v248 =>
  gV1 v248 fun x249 =>
  gI .i64 x249 fun i250 =>
  vcase (bv (i250 != 0))
  (stK 2 h226 s4 (.agg [.int .i64 i250, .sl none 0]) fun h252 =>
  ldT ⟨2, 32, [.int .i64 0, .sl none 0], true, .st [(0, 2), (1, 24)], false⟩ h252 s4 fun v253 =>
  some (.ret v253 h252))
  ((loadN 10 h226 (pv h.n 0)).bind fun c254 =>
  (c254[0]?).bind fun x255 =>
  gB x255 fun q256 =>
  (c254[1]?).bind fun x257 =>
  gI .i64 x257 fun i258 =>
  (c254[2]?).bind fun x259 =>
  gI .i64 x259 fun i260 =>
  (c254[3]?).bind fun x261 =>
  gI .i64 x261 fun i262 =>
  (c254[4]?).bind fun x263 =>
  gS x263 fun y264 =>
  (c254[5]?).bind fun x265 =>
  gB x265 fun q266 =>
  (c254[6]?).bind fun x267 =>
  gI .i64 x267 fun i268 =>
  (c254[7]?).bind fun x269 =>
  gI .i64 x269 fun i270 =>
  (c254[8]?).bind fun x271 =>
  gI .i64 x271 fun i272 =>
  (c254[9]?).bind fun x273 =>
  gS x273 fun y274 =>
  if c254.length = 10 then
  (frzVs h226 [.agg [.bool q256, .int .i64 i258, .int .i64 i260, .int .i64 i262, .str y264, .bool q266, .int .i64 i268, .int .i64 i270, .int .i64 i272, .str y274], s6]).bind fun l275 =>
  pcallS (call Ev) Fn.impl_Change_fitsTo (normVs [] l275) fun v276 =>
  gV1 v276 fun x277 =>
  gB x277 fun q278 =>
  vcase (bv (!q278))
  (stK 2 h226 s4 (.agg [.int .i64 8, .sl none 0]) fun h280 =>
  ldT ⟨2, 32, [.int .i64 0, .sl none 0], true, .st [(0, 2), (1, 24)], false⟩ h280 s4 fun v281 =>
  some (.ret v281 h280))
  ((loadN 10 h226 (pv h.n 0)).bind fun c282 =>
  (c282[0]?).bind fun x283 =>
  gB x283 fun q284 =>
  (c282[1]?).bind fun x285 =>
  gI .i64 x285 fun i286 =>
  (c282[2]?).bind fun x287 =>
  gI .i64 x287 fun i288 =>
  (c282[3]?).bind fun x289 =>
  gI .i64 x289 fun i290 =>
  (c282[4]?).bind fun x291 =>
  gS x291 fun y292 =>
  (c282[5]?).bind fun x293 =>
  gB x293 fun q294 =>
  (c282[6]?).bind fun x295 =>
  gI .i64 x295 fun i296 =>
  (c282[7]?).bind fun x297 =>
  gI .i64 x297 fun i298 =>
  (c282[8]?).bind fun x299 =>
  gI .i64 x299 fun i300 =>
  (c282[9]?).bind fun x301 =>
  gS x301 fun y302 =>
  if c282.length = 10 then
  (frzVs h226 [s6, .agg [.bool q284, .int .i64 i286, .int .i64 i288, .int .i64 i290, .str y292, .bool q294, .int .i64 i296, .int .i64 i298, .int .i64 i300, .str y302]]).bind fun l303 =>
  pcallF (call Ev) Fn.impl_changed ([s6, .agg [.bool q284, .int .i64 i286, .int .i64 i288, .int .i64 i290, .str y292, .bool q294, .int .i64 i296, .int .i64 i298, .int .i64 i300, .str y302]].all offV) (normVs [] l303) h226 fun v304 h305 =>
  Lp.impl_ApplyChanges 0 [s4, v304, s18, iv .i64 s19, iv .i64 (IntKind.i64.wrap (s20 + 1))] (tidy h [s4, v304, s18, iv .i64 s19, iv .i64 (IntKind.i64.wrap (s20 + 1))] h305)
  else none)
  else none)
  else none
  else none)
  (some (.done [s4, s6] (tidy h [s4, s6] h))) := by
  unfold Lp.impl_ApplyChanges; rw [loop_eq]; kernel_rfl

theorem pu_impl_singleFault (a0_0 : Bool) (a0_1 : Int) (a0_2 : Int) (a0_3 : Int) (a0_4 : ByteArray) (a0_5 : Bool) (a0_6 : Int) (a0_7 : Int) (a0_8 : Int) (a0_9 : ByteArray) : pureV (call Ev) Fn.impl_singleFault [.agg [.bool a0_0, .int .i64 a0_1, .int .i64 a0_2, .int .i64 a0_3, .str a0_4, .bool a0_5, .int .i64 a0_6, .int .i64 a0_7, .int .i64 a0_8, .str a0_9]] =
  pcallS (call Ev) Fn.impl_changeFault [.agg [.bool a0_0, .int .i64 a0_1, .int .i64 a0_2, .int .i64 a0_3, .str a0_4, .bool a0_5, .int .i64 a0_6, .int .i64 a0_7, .int .i64 a0_8, .str a0_9]] fun v101 =>
  gV1 v101 fun x102 =>
  gI .i64 x102 fun i103 =>
  vcase (bv (i103 != 0))
  (some (iv .i64 i103))
  (vcase (bv a0_0)
  (vcase (bv a0_5)
  (vcase (bv (((a0_1 : Int) == a0_6) && (((a0_2 : Int) == a0_7) && (((a0_3 : Int) == a0_8) && (((a0_4 : ByteArray).toList == (a0_9 : ByteArray).toList) && true)))))
  (some (iv .i64 1))
  (some (iv .i64 0)))
  (some (iv .i64 0)))
  (some (iv .i64 0))) := by
  rw [pure_eq]; kernel_rfl

theorem eq_impl_inverse (a0 : List (List S)) (n : Nat) : call Ev Fn.impl_inverse [lv a0] (D n) =
  (Lp.impl_inverse 0 [lv a0, .s (.sl none 0), iv .i64 (IntKind.i64.wrap ((a0.length : Int) - 1))] (D n)).bind fun o101 => lcase o101 (fun l102 h103 =>
  (l102[0]?).bind fun w106 =>
  some (w106, h103)) (fun v104 h105 =>
  some (v104, h105)) := by
  rw [call_eq]; kernel_rfl

theorem eq_impl_inverse_l0 (s0 : List (List S)) (s3 : V) (s4 : Int) (h : H) : Lp.impl_inverse 0 [lv s0, s3, iv .i64 s4] h =
  vcase (bv (decide (s4 ≥ 0)))
  (idxF 10 s0 s4 fun r203 =>
  (rowN 10 r203 0).bind fun c204 =>
  (c204[0]?).bind fun x205 =>
  gB x205 fun q206 =>
  (c204[1]?).bind fun x207 =>
  gI .i64 x207 fun i208 =>
  (c204[2]?).bind fun x209 =>
  gI .i64 x209 fun i210 =>
  (c204[3]?).bind fun x211 =>
  gI .i64 x211 fun i212 =>
  (c204[4]?).bind fun x213 =>
  gS x213 fun y214 =>
  (c204[5]?).bind fun x215 =>
  gB x215 fun q216 =>
  (c204[6]?).bind fun x217 =>
  gI .i64 x217 fun i218 =>
  (c204[7]?).bind fun x219 =>
  gI .i64 x219 fun i220 =>
  (c204[8]?).bind fun x221 =>
  gI .i64 x221 fun i222 =>
  (c204[9]?).bind fun x223 =>
  gS x223 fun y224 =>
  if c204.length = 10 then
  stK 10 (h.new 0 [.bool false, .int .i64 0, .int .i64 0, .int .i64 0, .str (⟨#[]⟩), .bool false, .int .i64 0, .int .i64 0, .int .i64 0, .str (⟨#[]⟩)]) (pv h.n 0) (.agg [.bool q206, .int .i64 i208, .int .i64 i210, .int .i64 i212, .str y214, .bool q216, .int .i64 i218, .int .i64 i220, .int .i64 i222, .str y224]) fun h225 =>
  (load1 h225 (pv h.n 5)).bind fun x226 =>
  gB x226 fun q227 =>
  (loadN 4 h225 (pv h.n 6)).bind fun c228 =>
  (c228[0]?).bind fun x229 =>
  gI .i64 x229 fun i230 =>
  (c228[1]?).bind fun x231 =>
  gI .i64 x231 fun i232 =>
  (c228[2]?).bind fun x233 =>
  gI .i64 x233 fun i234 =>
  (c228[3]?).bind fun x235 =>
  gS x235 fun y236 =>
  if c228.length = 4 then
  (load1 h225 (pv h.n 0)).bind fun x237 =>
  gB x237 fun q238 =>
  (loadN 4 h225 (pv h.n 1)).bind fun c239 =>
  (c239[0]?).bind fun x240 =>
  gI .i64 x240 fun i241 =>
  (c239[1]?).bind fun x242 =>
  gI .i64 x242 fun i243 =>
  (c239[2]?).bind fun x244 =>
  gI .i64 x244 fun i245 =>
  (c239[3]?).bind fun x246 =>
  gS x246 fun y247 =>
  if c239.length = 4 then
  (appS 10 (h225.new 10 [.bool q227, .int .i64 i230, .int .i64 i232, .int .i64 i234, .str y236, .bool q238, .int .i64 i241, .int .i64 i243, .int .i64 i245, .str y247]) s3 (sv h225.n 0 1)).bind fun p248 =>
  Lp.impl_inverse 0 [lv s0, p248.1, iv .i64 (IntKind.i64.wrap (s4 - 1))] (tidy h [lv s0, p248.1, iv .i64 (IntKind.i64.wrap (s4 - 1))] p248.2)
  else none
  else none
  else none)
  (some (.done [s3] (tidy h [s3] h))) := by
  unfold Lp.impl_inverse; rw [loop_eq]; kernel_rfl

theorem eq_impl_InverseOf (a0 : List (List S)) (n : Nat) : call Ev Fn.impl_InverseOf [lv a0] (D n) =
  vcase (bv (decide ((a0.length : Int) > 60)))
  (stK 2 ((D n).new 0 [.int .i64 0, .sl none 0]) (pv ((D n).n) 0) (.agg [.int .i64 2, .sl none 0]) fun h102 =>
  (loadN 2 h102 (pv ((D n).n) 0)).bind fun c103 =>
  some (.agg c103, h102))
  ((Lp.impl_InverseOf 0 [lv a0, pv ((D n).n) 0, lv a0, iv .i64 (a0.length : Int), iv .i64 0] ((D n).new 0 [.int .i64 0, .sl none 0])).bind fun o104 => lcase o104 (fun l105 h106 =>
  (l105[0]?).bind fun w109 =>
  gV1 w109 fun x110 =>
  gF x110 fun z111 =>
  (l105[1]?).bind fun w112 =>
  pcallF (call Ev) Fn.impl_inverse true [lv z111] h106 fun v113 h114 =>
  cellsK v113 fun c115 =>
  if c115.length = 1 ∧ 1 + 1 ≤ ([.int .i64 0, .sl none 0] : List S).length then
  ((setAt ([.int .i64 0, .sl none 0] : List S) 1 c115)[0]?).bind fun x116 =>
  gI .i64 x116 fun i117 =>
  ((setAt ([.int .i64 0, .sl none 0] : List S) 1 c115)[1]?).bind fun x118 =>
  if (setAt ([.int .i64 0, .sl none 0] : List S) 1 c115).length = 2 then
  stK 2 h114 w112 (.agg [.int .i64 i117, x118]) fun h119 =>
  ldT ⟨2, 32, [.int .i64 0, .sl none 0], true, .st [(0, 2), (1, 27)], false⟩ h119 w112 fun v120 =>
  some (v120, h119)
  else none
  else none) (fun v107 h108 =>
  some (v107, h108))) := by
  rw [call_eq]; kernel_rfl

theorem eq_impl_InverseOf_l0 (s0 : List (List S)) (s2 : V) (s10 : List (List S)) (s11 : Int) (s12 : Int) (h : H) : Lp.impl_InverseOf 0 [lv s0, s2, lv s10, iv .i64 s11, iv .i64 s12] h =
  vcase (bv (decide (s12 < s11)))
  (idxF 10 s10 s12 fun r203 =>
  (rowN 10 r203 0).bind fun c204 =>
  (c204[0]?).bind fun x205 =>
  gB x205 fun q206 =>
  (c204[1]?).bind fun x207 =>
  gI .i64 x207 fun i208 =>
  (c204[2]?).bind fun x209 =>
  gI .i64 x209 fun i210 =>
  (c204[3]?).bind fun x211 =>
  gI .i64 x211 fun i212 =>
  (c204[4]?).bind fun x213 =>
  gS x213 fun y214 =>
  (c204[5]?).bind fun x215 =>
  gB x215 fun q216 =>
  (c204[6]?).bind fun x217 =>
  gI .i64 x217 fun i218 =>
  (c204[7]?).bind fun x219 =>
  gI .i64 x219 fun i220 =>
  (c204[8]?).bind fun x221 =>
  gI .i64 x221 fun i222 =>
  (c204[9]?).bind fun x223 =>
  gS x223 fun y224 =>
  if c204.length = 10 then
  stK 10 (h.new 0 [.bool false, .int .i64 0, .int .i64 0, .int .i64 0, .str (⟨#[]⟩), .bool false, .int .i64 0, .int .i64 0, .int .i64 0, .str (⟨#[]⟩)]) (pv h.n 0) (.agg [.bool q206, .int .i64 i208, .int .i64 i210, .int .i64 i212, .str y214, .bool q216, .int .i64 i218, .int .i64 i220, .int .i64 i222, .str y224]) fun h225 =>
  (loadN 10 h225 (pv h.n 0)).bind fun c226 =>
  (c226[0]?).bind fun x227 =>
  gB x227 fun q228 =>
  (c226[1]?).bind fun x229 =>
  gI .i64 x229 fun i230 =>
  (c226[2]?).bind fun x231 =>
  gI .i64 x231 fun i232 =>
  (c226[3]?).bind fun x233 =>
  gI .i64 x233 fun i234 =>
  (c226[4]?).bind fun x235 =>
  gS x235 fun y236 =>
  (c226[5]?).bind fun x237 =>
  gB x237 fun q238 =>
  (c226[6]?).bind fun x239 =>
  gI .i64 x239 fun i240 =>
  (c226[7]?).bind fun x241 =>
  gI .i64 x241 fun i242 =>
  (c226[8]?).bind fun x243 =>
  gI .i64 x243 fun i244 =>
  (c226[9]?).bind fun x245 =>
  gS x245 fun y246 =>
  if c226.length = 10 then
  pcallS (call Ev) Fn.impl_singleFault [.agg [.bool q228, .int .i64 i230, .int .i64 i232, .int .i64 i234, .str y236, .bool q238, .int .i64 i240, .int .i64 i242, .int .i64 i244, .str y246]] fun v247 =>
  gV1 v247 fun x248 =>
  gI .i64 x248 fun i249 =>
  vcase (bv (i249 != 0))
  (stK 2 h225 s2 (.agg [.int .i64 i249, .sl none 0]) fun h251 =>
  ldT ⟨2, 32, [.int .i64 0, .sl none 0], true, .st [(0, 2), (1, 27)], false⟩ h251 s2 fun v252 =>
  some (.ret v252 h251))
  (Lp.impl_InverseOf 0 [lv s0, s2, lv s10, iv .i64 s11, iv .i64 (IntKind.i64.wrap (s12 + 1))] (tidy h [lv s0, s2, lv s10, iv .i64 s11, iv .i64 (IntKind.i64.wrap (s12 + 1))] h225))
  else none
  else none)
  (some (.done [lv s0, s2] (tidy h [lv s0, s2] h))) := by
  unfold Lp.impl_InverseOf; rw [loop_eq]; kernel_rfl

theorem eq_spec_DrawApplyChanges (a0 : List (List S)) (n : Nat) : call Ev Fn.spec_DrawApplyChanges [lv a0] (D n) =
  pcallF (call Ev) Fn.spec_l1Source true [lv a0] (D n) fun v101 h102 =>
  (call Ev Fn.spec_l6DrawRows [v101] h102).bind fun p103 =>
  (call Ev Fn.spec_l6DrawRows [v101] (tidy h102 [p103.1] p103.2)).bind fun p104 =>
  (frzVs (tidy (tidy h102 [p103.1] p103.2) [p104.1] p104.2) [p103.1, p104.1]).bind fun l105 =>
  pcallF (call Ev) Fn.spec_l6Changes ([p103.1, p104.1].all offV) (normVs [] l105) (tidy (tidy h102 [p103.1] p103.2) [p104.1] p104.2) fun v106 h107 =>
  (call Ev Fn.spec_l1Next [v101, iv .i64 8] h107).bind fun p108 =>
  gV1 p108.1 fun x109 =>
  gI .i64 x109 fun i110 =>
  vcase (bv (i110 == 0))
  ((call Ev Fn.spec_l1Chance [v101, iv .i64 2] (tidy h107 [p108.1] p108.2)).bind fun p113 =>
  gV1 p113.1 fun x114 =>
  gB x114 fun q115 =>
  (call Ev Fn.spec_l1Bent [v101] (tidy (tidy h107 [p108.1] p108.2) [p113.1] p113.2)).bind fun p116 =>
  gVA p116.1 fun c117 =>
  (c117[0]?).bind fun x118 =>
  gI .i64 x118 fun i119 =>
  (c117[1]?).bind fun x120 =>
  gI .i64 x120 fun i121 =>
  (c117[2]?).bind fun x122 =>
  gI .i64 x122 fun i123 =>
  (c117[3]?).bind fun x124 =>
  gS x124 fun y125 =>
  if c117.length = 4 then
  (call Ev Fn.spec_l1Chance [v101, iv .i64 2] (tidy (tidy (tidy h107 [p108.1] p108.2) [p113.1] p113.2) [p116.1] p116.2)).bind fun p126 =>
  gV1 p126.1 fun x127 =>
  gB x127 fun q128 =>
  (call Ev Fn.spec_l1Bent [v101] (tidy (tidy (tidy (tidy h107 [p108.1] p108.2) [p113.1] p113.2) [p116.1] p116.2) [p126.1] p126.2)).bind fun p129 =>
  gVA p129.1 fun c130 =>
  (c130[0]?).bind fun x131 =>
  gI .i64 x131 fun i132 =>
  (c130[1]?).bind fun x133 =>
  gI .i64 x133 fun i134 =>
  (c130[2]?).bind fun x135 =>
  gI .i64 x135 fun i136 =>
  (c130[3]?).bind fun x137 =>
  gS x137 fun y138 =>
  if c130.length = 4 then
  (appS 10 ((tidy (tidy (tidy (tidy (tidy h107 [p108.1] p108.2) [p113.1] p113.2) [p116.1] p116.2) [p126.1] p126.2) [p129.1] p129.2).new 10 [.bool q115, .int .i64 i119, .int .i64 i121, .int .i64 i123, .str y125, .bool q128, .int .i64 i132, .int .i64 i134, .int .i64 i136, .str y138]) v106 (sv ((tidy (tidy (tidy (tidy (tidy h107 [p108.1] p108.2) [p113.1] p113.2) [p116.1] p116.2) [p126.1] p126.2) [p129.1] p129.2).n) 0 1)).bind fun p139 =>
  (V.toA p103.1).bind fun t142 =>
  (V.toA p139.1).bind fun t143 =>
  some (.tup [t142, t143], p139.2)
  else none
  else none)
  (vcase (bv (i110 == 1))
  ((call Ev Fn.spec_l6BentRows [v101] (tidy h107 [p108.1] p108.2)).bind fun p141 =>
  (V.toA p141.1).bind fun t144 =>
  (V.toA v106).bind fun t145 =>
  some (.tup [t144, t145], tidy (tidy h107 [p108.1] p108.2) [p141.1] p141.2))
  ((V.toA p103.1).bind fun t146 =>
  (V.toA v106).bind fun t147 =>
  some (.tup [t146, t147], tidy h107 [p108.1] p108.2))) := by
  rw [call_eq]; kernel_rfl

theorem pu_laws_lwRows (a0 : List (List S)) (a1 : List (List S)) : pureV (call Ev) Fn.laws_lwRows [lv a0, lv a1] =
  vcase (bv ((a0.length : Int) != (a1.length : Int)))
  (some (bv false))
  ((Lp.laws_lwRows 0 [lv a0, lv a1, iv .i64 0] (D 0)).bind fun o102 => lcase o102 (fun l103 h104 =>
  some (bv true)) (fun v105 h106 =>
  frzV h106 v105)) := by
  rw [pure_eq]; kernel_rfl

theorem eq_laws_lwRows_l0 (s0 : List (List S)) (s1 : List (List S)) (s5 : Int) (h : H) : Lp.laws_lwRows 0 [lv s0, lv s1, iv .i64 s5] h =
  vcase (bv (decide (s5 < (s0.length : Int))))
  (idxF 4 s0 s5 fun r203 =>
  (rowN 4 r203 0).bind fun c204 =>
  (c204[0]?).bind fun x205 =>
  gI .i64 x205 fun i206 =>
  (c204[1]?).bind fun x207 =>
  gI .i64 x207 fun i208 =>
  (c204[2]?).bind fun x209 =>
  gI .i64 x209 fun i210 =>
  (c204[3]?).bind fun x211 =>
  gS x211 fun y212 =>
  if c204.length = 4 then
  idxF 4 s1 s5 fun r213 =>
  (rowN 4 r213 0).bind fun c214 =>
  (c214[0]?).bind fun x215 =>
  gI .i64 x215 fun i216 =>
  (c214[1]?).bind fun x217 =>
  gI .i64 x217 fun i218 =>
  (c214[2]?).bind fun x219 =>
  gI .i64 x219 fun i220 =>
  (c214[3]?).bind fun x221 =>
  gS x221 fun y222 =>
  if c214.length = 4 then
  vcase (bv (!(((i206 : Int) == i216) && (((i208 : Int) == i218) && (((i210 : Int) == i220) && (((y212 : ByteArray).toList == (y222 : ByteArray).toList) && true))))))
  (some (.ret (bv false) h))
  (Lp.laws_lwRows 0 [lv s0, lv s1, iv .i64 (IntKind.i64.wrap (s5 + 1))] (tidy h [lv s0, lv s1, iv .i64 (IntKind.i64.wrap (s5 + 1))] h))
  else none
  else none)
  (some (.done [] (tidy h [] h))) := by
  unfold Lp.laws_lwRows; rw [loop_eq]; kernel_rfl

end Vm
