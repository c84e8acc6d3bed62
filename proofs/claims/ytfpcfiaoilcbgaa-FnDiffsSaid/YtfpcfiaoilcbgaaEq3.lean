/-
  What each function, and each round of each loop, comes to in the small machine. Written by a program (gen3.py).
-/
import Derived.Test.YtfpcfiaoilcbgaaEnv
set_option linter.unusedVariables false
set_option maxRecDepth 100000
namespace Vm
open Go

theorem pu_spec_l6Changes (a0 : List (List S)) (a1 : List (List S)) : pureV (call Ev) Fn.spec_l6Changes [lv a0, lv a1] =
  (appS 4 ((D 0).new 4 []) (sv 0 0 0) (lv a0)).bind fun p101 =>
  (Lp.spec_l6Changes 0 [lv a0, lv a1, p101.1, iv .i64 0] p101.2).bind fun o102 => lcase o102 (fun l103 h104 =>
  (l103[0]?).bind fun w107 =>
  gV1 w107 fun x108 =>
  gF x108 fun z109 =>
  (l103[1]?).bind fun w110 =>
  gV1 w110 fun x111 =>
  gF x111 fun z112 =>
  (l103[2]?).bind fun w113 =>
  (Lp.spec_l6Changes 2 [lv z109, lv z112, w113, sv h104.n 0 0, iv .i64 0] (h104.new 10 [])).bind fun o114 => lcase o114 (fun l115 h116 =>
  (l115[0]?).bind fun w119 =>
  frzV h116 w119) (fun v117 h118 =>
  frzV h118 v117)) (fun v105 h106 =>
  frzV h106 v105) := by
  rw [pure_eq]; kernel_rfl

theorem eq_spec_l6Changes_l0 (s0 : List (List S)) (s1 : List (List S)) (s5 : V) (s6 : Int) (h : H) : Lp.spec_l6Changes 0 [lv s0, lv s1, s5, iv .i64 s6] h =
  vcase (bv (decide (s6 < (s1.length : Int))))
  (idxF 4 s1 s6 fun r203 =>
  (r203[0]?).bind fun x204 =>
  gI .i64 x204 fun i205 =>
  idxF 4 s1 s6 fun r206 =>
  (r206[1]?).bind fun x207 =>
  gI .i64 x207 fun i208 =>
  pcallS (call Ev) Fn.spec_l6At [lv s0, iv .i64 i205, iv .i64 i208] fun v209 =>
  gV1 v209 fun x210 =>
  gI .i64 x210 fun i211 =>
  hchk h h (
  vcase (bv (decide (i211 < 0)))
  (idxF 4 s1 s6 fun r213 =>
  (rowN 4 r213 0).bind fun c214 =>
  (c214[0]?).bind fun x215 =>
  gI .i64 x215 fun i216 =>
  (c214[1]?).bind fun x217 =>
  gI .i64 x217 fun i218 =>
  (c214[2]?).bind fun x219 =>
  gI .i64 x219 fun i220 =>
  (c214[3]?).bind fun x221 =>
  gS x221 fun y222 =>
  if c214.length = 4 then
  (frzVs h [s5, .agg [.int .i64 i216, .int .i64 i218, .int .i64 i220, .str y222]]).bind fun l223 =>
  pcallF (call Ev) Fn.spec_l6Put ([s5, .agg [.int .i64 i216, .int .i64 i218, .int .i64 i220, .str y222]].all offV) (normVs [] l223) h fun v224 h225 =>
  Lp.spec_l6Changes 0 [lv s0, lv s1, v224, iv .i64 (IntKind.i64.wrap (s6 + 1))] (tidy h [lv s0, lv s1, v224, iv .i64 (IntKind.i64.wrap (s6 + 1))] h225)
  else none)
  (Lp.spec_l6Changes 0 [lv s0, lv s1, s5, iv .i64 (IntKind.i64.wrap (s6 + 1))] (tidy h [lv s0, lv s1, s5, iv .i64 (IntKind.i64.wrap (s6 + 1))] h))))
  (some (.done [lv s0, lv s1, s5] (tidy h [lv s0, lv s1, s5] h))) := by
  unfold Lp.spec_l6Changes; rw [loop_eq]; kernel_rfl

noncomputable def Jn.spec_l6Changes_l2_0 (h723 : H) (h : H) (s7 : V) (s0 : List (List S)) (s1 : List (List S)) (s5 : V) (s8 : Int) : Option (LOut) :=
  (loadN 10 h723 (pv h.n 0)).bind fun c724 =>
  (c724[0]?).bind fun x725 =>
  gB x725 fun q726 =>
  (c724[1]?).bind fun x727 =>
  gI .i64 x727 fun i728 =>
  (c724[2]?).bind fun x729 =>
  gI .i64 x729 fun i730 =>
  (c724[3]?).bind fun x731 =>
  gI .i64 x731 fun i732 =>
  (c724[4]?).bind fun x733 =>
  gS x733 fun y734 =>
  (c724[5]?).bind fun x735 =>
  gB x735 fun q736 =>
  (c724[6]?).bind fun x737 =>
  gI .i64 x737 fun i738 =>
  (c724[7]?).bind fun x739 =>
  gI .i64 x739 fun i740 =>
  (c724[8]?).bind fun x741 =>
  gI .i64 x741 fun i742 =>
  (c724[9]?).bind fun x743 =>
  gS x743 fun y744 =>
  if c724.length = 10 then
  (appS 10 (h723.new 10 [.bool q726, .int .i64 i728, .int .i64 i730, .int .i64 i732, .str y734, .bool q736, .int .i64 i738, .int .i64 i740, .int .i64 i742, .str y744]) s7 (sv h723.n 0 1)).bind fun p745 =>
  Lp.spec_l6Changes 2 [lv s0, lv s1, s5, p745.1, iv .i64 (IntKind.i64.wrap (s8 + 1))] (tidy h [lv s0, lv s1, s5, p745.1, iv .i64 (IntKind.i64.wrap (s8 + 1))] p745.2)
  else none

noncomputable def Jn.spec_l6Changes_l2_1 (q686 : Bool) (w687 : V) (w688 : V) (w689 : V) (w690 : V) (w691 : V) (w692 : V) (w693 : V) (w694 : V) (w695 : V) (q696 : Bool) (s0 : List (List S)) (s1 : List (List S)) (s5 : V) (s7 : V) (s8 : Int) (h : H) (i418 : Int) (i431 : Int) : Option (LOut) :=
  vcase (bv q696)
  (Lp.spec_l6Changes 2 [lv s0, lv s1, s5, s7, iv .i64 (IntKind.i64.wrap (s8 + 1))] (tidy h [lv s0, lv s1, s5, s7, iv .i64 (IntKind.i64.wrap (s8 + 1))] h))
  (stK 10 (h.new 0 [.bool false, .int .i64 0, .int .i64 0, .int .i64 0, .str (⟨#[]⟩), .bool false, .int .i64 0, .int .i64 0, .int .i64 0, .str (⟨#[]⟩)]) (pv h.n 0) (.agg [.bool (decide (i418 ≥ 0)), .int .i64 0, .int .i64 0, .int .i64 0, .str (⟨#[]⟩), .bool (decide (i431 ≥ 0)), .int .i64 0, .int .i64 0, .int .i64 0, .str (⟨#[]⟩)]) fun h698 =>
  vcase (bv (decide (i418 ≥ 0)))
  (idxF 4 s0 i418 fun r700 =>
  (rowN 4 r700 0).bind fun c701 =>
  (c701[0]?).bind fun x702 =>
  gI .i64 x702 fun i703 =>
  (c701[1]?).bind fun x704 =>
  gI .i64 x704 fun i705 =>
  (c701[2]?).bind fun x706 =>
  gI .i64 x706 fun i707 =>
  (c701[3]?).bind fun x708 =>
  gS x708 fun y709 =>
  if c701.length = 4 then
  stK 4 h698 (pv h.n 1) (.agg [.int .i64 i703, .int .i64 i705, .int .i64 i707, .str y709]) fun h710 =>
  vcase (bv (decide (i431 ≥ 0)))
  (idxF 4 s1 i431 fun r712 =>
  (rowN 4 r712 0).bind fun c713 =>
  (c713[0]?).bind fun x714 =>
  gI .i64 x714 fun i715 =>
  (c713[1]?).bind fun x716 =>
  gI .i64 x716 fun i717 =>
  (c713[2]?).bind fun x718 =>
  gI .i64 x718 fun i719 =>
  (c713[3]?).bind fun x720 =>
  gS x720 fun y721 =>
  if c713.length = 4 then
  stK 4 h710 (pv h.n 6) (.agg [.int .i64 i715, .int .i64 i717, .int .i64 i719, .str y721]) fun h722 =>
  Jn.spec_l6Changes_l2_0 h722 h s7 s0 s1 s5 s8
  else none)
  (Jn.spec_l6Changes_l2_0 h710 h s7 s0 s1 s5 s8)
  else none)
  (vcase (bv (decide (i431 ≥ 0)))
  (idxF 4 s1 i431 fun r747 =>
  (rowN 4 r747 0).bind fun c748 =>
  (c748[0]?).bind fun x749 =>
  gI .i64 x749 fun i750 =>
  (c748[1]?).bind fun x751 =>
  gI .i64 x751 fun i752 =>
  (c748[2]?).bind fun x753 =>
  gI .i64 x753 fun i754 =>
  (c748[3]?).bind fun x755 =>
  gS x755 fun y756 =>
  if c748.length = 4 then
  stK 4 h698 (pv h.n 6) (.agg [.int .i64 i750, .int .i64 i752, .int .i64 i754, .str y756]) fun h757 =>
  Jn.spec_l6Changes_l2_0 h757 h s7 s0 s1 s5 s8
  else none)
  (Jn.spec_l6Changes_l2_0 h698 h s7 s0 s1 s5 s8)))

noncomputable def Jn.spec_l6Changes_l2_2 (q659 : Bool) (w660 : V) (w661 : V) (q662 : Bool) (s0 : List (List S)) (i418 : Int) (s1 : List (List S)) (i431 : Int) (s5 : V) (s7 : V) (s8 : Int) (h : H) : Option (LOut) :=
  vcase (bv q662)
  (idxF 4 s0 i418 fun r664 =>
  (rowN 4 r664 0).bind fun c665 =>
  (c665[0]?).bind fun x666 =>
  gI .i64 x666 fun i667 =>
  (c665[1]?).bind fun x668 =>
  gI .i64 x668 fun i669 =>
  (c665[2]?).bind fun x670 =>
  gI .i64 x670 fun i671 =>
  (c665[3]?).bind fun x672 =>
  gS x672 fun y673 =>
  if c665.length = 4 then
  idxF 4 s1 i431 fun r674 =>
  (rowN 4 r674 0).bind fun c675 =>
  (c675[0]?).bind fun x676 =>
  gI .i64 x676 fun i677 =>
  (c675[1]?).bind fun x678 =>
  gI .i64 x678 fun i679 =>
  (c675[2]?).bind fun x680 =>
  gI .i64 x680 fun i681 =>
  (c675[3]?).bind fun x682 =>
  gS x682 fun y683 =>
  if c675.length = 4 then
  Jn.spec_l6Changes_l2_1 true (lv s0) (iv .i64 i418) (fv r664 0) (.agg [.int .i64 i667, .int .i64 i669, .int .i64 i671, .str y673]) (lv s1) (iv .i64 i431) (fv r674 0) (.agg [.int .i64 i677, .int .i64 i679, .int .i64 i681, .str y683]) (bv (((i667 : Int) == i677) && (((i669 : Int) == i679) && (((i671 : Int) == i681) && (((y673 : ByteArray).toList == (y683 : ByteArray).toList) && true))))) (((i667 : Int) == i677) && (((i669 : Int) == i679) && (((i671 : Int) == i681) && (((y673 : ByteArray).toList == (y683 : ByteArray).toList) && true)))) s0 s1 s5 s7 s8 h i418 i431
  else none
  else none)
  (Jn.spec_l6Changes_l2_1 false (.tup []) (.tup []) (.tup []) (.tup []) (.tup []) (.tup []) (.tup []) (.tup []) (.tup []) false s0 s1 s5 s7 s8 h i418 i431)

theorem eq_spec_l6Changes_l2 (s0 : List (List S)) (s1 : List (List S)) (s5 : V) (s7 : V) (s8 : Int) (h : H) : Lp.spec_l6Changes 2 [lv s0, lv s1, s5, s7, iv .i64 s8] h =
  (lenV (.sl 45) s5).bind fun v401 =>
  gV1 v401 fun x402 =>
  gI .i64 x402 fun i403 =>
  vcase (bv (decide (s8 < i403)))
  (idxK 4 s5 (iv .i64 s8) fun v406 =>
  (padd 0 v406).bind fun v407 =>
  ldK (.one (.i .i64)) ⟨1, 8, [.int .i64 0], false, .int .i64, false⟩ h v407 fun v408 =>
  gV1 v408 fun x409 =>
  gI .i64 x409 fun i410 =>
  idxK 4 s5 (iv .i64 s8) fun v411 =>
  (padd 1 v411).bind fun v412 =>
  ldK (.one (.i .i64)) ⟨1, 8, [.int .i64 0], false, .int .i64, false⟩ h v412 fun v413 =>
  gV1 v413 fun x414 =>
  gI .i64 x414 fun i415 =>
  pcallS (call Ev) Fn.spec_l6At [lv s0, iv .i64 i410, iv .i64 i415] fun v416 =>
  gV1 v416 fun x417 =>
  gI .i64 x417 fun i418 =>
  hchk h h (
  idxK 4 s5 (iv .i64 s8) fun v419 =>
  (padd 0 v419).bind fun v420 =>
  ldK (.one (.i .i64)) ⟨1, 8, [.int .i64 0], false, .int .i64, false⟩ h v420 fun v421 =>
  gV1 v421 fun x422 =>
  gI .i64 x422 fun i423 =>
  idxK 4 s5 (iv .i64 s8) fun v424 =>
  (padd 1 v424).bind fun v425 =>
  ldK (.one (.i .i64)) ⟨1, 8, [.int .i64 0], false, .int .i64, false⟩ h v425 fun v426 =>
  gV1 v426 fun x427 =>
  gI .i64 x427 fun i428 =>
  pcallS (call Ev) Fn.spec_l6At [lv s1, iv .i64 i423, iv .i64 i428] fun v429 =>
  gV1 v429 fun x430 =>
  gI .i64 x430 fun i431 =>
  hchk h h (
  vcase (bv (decide (i418 ≥ 0)))
  (Jn.spec_l6Changes_l2_2 true (iv .i64 i431) (bv (decide (i431 ≥ 0))) (decide (i431 ≥ 0)) s0 i418 s1 i431 s5 s7 s8 h)
  (Jn.spec_l6Changes_l2_2 false (.tup []) (.tup []) false s0 i418 s1 i431 s5 s7 s8 h))))
  (some (.done [s7] (tidy h [s7] h))) := by
  unfold Lp.spec_l6Changes; rw [loop_eq]; kernel_rfl

theorem pu_spec_ChangesOf (a0 : List (List S)) (a1 : List (List S)) : pureV (call Ev) Fn.spec_ChangesOf [lv a0, lv a1] =
  pcallS (call Ev) Fn.spec_l6Rows [lv a0] fun v101 =>
  gV1 v101 fun x102 =>
  gI .i64 x102 fun i103 =>
  vcase (bv (i103 != 0))
  (some (.agg [.int .i64 i103, .fs []]))
  (pcallS (call Ev) Fn.spec_l6Rows [lv a1] fun v105 =>
  gV1 v105 fun x106 =>
  gI .i64 x106 fun i107 =>
  vcase (bv (i107 != 0))
  (some (.agg [.int .i64 i107, .fs []]))
  ((pureV (call Ev) Fn.spec_l6Changes [lv a0, lv a1]).bind fun v109 =>
  gV1 v109 fun x110 =>
  gF x110 fun z111 =>
  some (.agg [.int .i64 0, .fs z111]))) := by
  rw [pure_eq]; kernel_rfl

theorem eq_impl_between (a0 : List (List S)) (a1 : List (List S)) (n : Nat) : call Ev Fn.impl_between [lv a0, lv a1] (D n) =
  (Lp.impl_between 0 [lv a0, lv a1, .s (.sl none 0)] (D n)).bind fun o101 => lcase o101 (fun l102 h103 =>
  (l102[0]?).bind fun w106 =>
  some (w106, h103)) (fun v104 h105 =>
  some (v104, h105)) := by
  rw [call_eq]; kernel_rfl

noncomputable def Jn.impl_between_l0_0 (q790 : Bool) (h759 : H) (h : H) (s5 : V) (w744 : V) (v760 : V) : Option (LOut) :=
  vcase (bv q790)
  ((loadN 10 h759 (pv h.n 0)).bind fun c792 =>
  (c792[0]?).bind fun x793 =>
  gB x793 fun q794 =>
  (c792[1]?).bind fun x795 =>
  gI .i64 x795 fun i796 =>
  (c792[2]?).bind fun x797 =>
  gI .i64 x797 fun i798 =>
  (c792[3]?).bind fun x799 =>
  gI .i64 x799 fun i800 =>
  (c792[4]?).bind fun x801 =>
  gS x801 fun y802 =>
  (c792[5]?).bind fun x803 =>
  gB x803 fun q804 =>
  (c792[6]?).bind fun x805 =>
  gI .i64 x805 fun i806 =>
  (c792[7]?).bind fun x807 =>
  gI .i64 x807 fun i808 =>
  (c792[8]?).bind fun x809 =>
  gI .i64 x809 fun i810 =>
  (c792[9]?).bind fun x811 =>
  gS x811 fun y812 =>
  if c792.length = 10 then
  (appS 10 (h759.new 10 [.bool q794, .int .i64 i796, .int .i64 i798, .int .i64 i800, .str y802, .bool q804, .int .i64 i806, .int .i64 i808, .int .i64 i810, .str y812]) s5 (sv h759.n 0 1)).bind fun p813 =>
  Lp.impl_between 0 [w744, v760, p813.1] (tidy h [w744, v760, p813.1] p813.2)
  else none)
  (Lp.impl_between 0 [w744, v760, s5] (tidy h [w744, v760, s5] h759))

noncomputable def Jn.impl_between_l0_1 (q768 : Bool) (h759 : H) (h : H) (s5 : V) (w744 : V) (v760 : V) : Option (LOut) :=
  vcase (bv q768)
  (Jn.impl_between_l0_0 true h759 h s5 w744 v760)
  ((loadN 4 h759 (pv h.n 1)).bind fun c771 =>
  (c771[0]?).bind fun x772 =>
  gI .i64 x772 fun i773 =>
  (c771[1]?).bind fun x774 =>
  gI .i64 x774 fun i775 =>
  (c771[2]?).bind fun x776 =>
  gI .i64 x776 fun i777 =>
  (c771[3]?).bind fun x778 =>
  gS x778 fun y779 =>
  if c771.length = 4 then
  (loadN 4 h759 (pv h.n 6)).bind fun c780 =>
  (c780[0]?).bind fun x781 =>
  gI .i64 x781 fun i782 =>
  (c780[1]?).bind fun x783 =>
  gI .i64 x783 fun i784 =>
  (c780[2]?).bind fun x785 =>
  gI .i64 x785 fun i786 =>
  (c780[3]?).bind fun x787 =>
  gS x787 fun y788 =>
  if c780.length = 4 then
  Jn.impl_between_l0_0 (!(((i773 : Int) == i782) && (((i775 : Int) == i784) && (((i777 : Int) == i786) && (((y779 : ByteArray).toList == (y788 : ByteArray).toList) && true))))) h759 h s5 w744 v760
  else none
  else none)

noncomputable def Jn.impl_between_l0_2 (w744 : V) (h745 : H) (i728 : Int) (s1 : V) (h : H) (s5 : V) : Option (LOut) :=
  vcase (bv (decide (i728 ≥ 0)))
  (idxK 4 s1 (iv .i64 0) fun v747 =>
  ldK (.agg [.i .i64, .i .i64, .i .i64, .s]) ⟨4, 40, [.int .i64 0, .int .i64 0, .int .i64 0, .str ⟨#[]⟩], true, .st [(0, 2), (1, 2), (2, 2), (3, 9)], true⟩ (h745.put h.n .dead) v747 fun v748 =>
  gVA v748 fun c749 =>
  (c749[0]?).bind fun x750 =>
  gI .i64 x750 fun i751 =>
  (c749[1]?).bind fun x752 =>
  gI .i64 x752 fun i753 =>
  (c749[2]?).bind fun x754 =>
  gI .i64 x754 fun i755 =>
  (c749[3]?).bind fun x756 =>
  gS x756 fun y757 =>
  if c749.length = 4 then
  stK 1 h745 (pv h.n 5) (bv true) fun h758 =>
  hchk (h745.put h.n .dead) h758 (
  stK 4 h758 (pv h.n 6) (.agg [.int .i64 i751, .int .i64 i753, .int .i64 i755, .str y757]) fun h759 =>
  hchk (h745.put h.n .dead) h759 (
  slK 4 h759 s1 (some (iv .i64 1)) none fun v760 =>
  (load1 h759 (pv h.n 0)).bind fun x761 =>
  gB x761 fun q762 =>
  vcase (bv (!q762))
  (Jn.impl_between_l0_1 true h759 h s5 w744 v760)
  ((load1 h759 (pv h.n 5)).bind fun x765 =>
  gB x765 fun q766 =>
  Jn.impl_between_l0_1 (!q766) h759 h s5 w744 v760)))
  else none)
  ((load1 h745 (pv h.n 0)).bind fun x814 =>
  gB x814 fun q815 =>
  vcase (bv (!q815))
  (Jn.impl_between_l0_1 true h745 h s5 w744 s1)
  ((load1 h745 (pv h.n 5)).bind fun x818 =>
  gB x818 fun q819 =>
  Jn.impl_between_l0_1 (!q819) h745 h s5 w744 s1))

noncomputable def Jn.impl_between_l0_3 (i728 : Int) (s0 : V) (h : H) (s1 : V) (s5 : V) : Option (LOut) :=
  vcase (bv (decide (i728 ≤ 0)))
  (idxK 4 s0 (iv .i64 0) fun v730 =>
  ldK (.agg [.i .i64, .i .i64, .i .i64, .s]) ⟨4, 40, [.int .i64 0, .int .i64 0, .int .i64 0, .str ⟨#[]⟩], true, .st [(0, 2), (1, 2), (2, 2), (3, 9)], true⟩ ((h.new 0 [.bool false, .int .i64 0, .int .i64 0, .int .i64 0, .str (⟨#[]⟩), .bool false, .int .i64 0, .int .i64 0, .int .i64 0, .str (⟨#[]⟩)]).put h.n .dead) v730 fun v731 =>
  gVA v731 fun c732 =>
  (c732[0]?).bind fun x733 =>
  gI .i64 x733 fun i734 =>
  (c732[1]?).bind fun x735 =>
  gI .i64 x735 fun i736 =>
  (c732[2]?).bind fun x737 =>
  gI .i64 x737 fun i738 =>
  (c732[3]?).bind fun x739 =>
  gS x739 fun y740 =>
  if c732.length = 4 then
  stK 1 (h.new 0 [.bool false, .int .i64 0, .int .i64 0, .int .i64 0, .str (⟨#[]⟩), .bool false, .int .i64 0, .int .i64 0, .int .i64 0, .str (⟨#[]⟩)]) (pv h.n 0) (bv true) fun h741 =>
  hchk ((h.new 0 [.bool false, .int .i64 0, .int .i64 0, .int .i64 0, .str (⟨#[]⟩), .bool false, .int .i64 0, .int .i64 0, .int .i64 0, .str (⟨#[]⟩)]).put h.n .dead) h741 (
  stK 4 h741 (pv h.n 1) (.agg [.int .i64 i734, .int .i64 i736, .int .i64 i738, .str y740]) fun h742 =>
  hchk ((h.new 0 [.bool false, .int .i64 0, .int .i64 0, .int .i64 0, .str (⟨#[]⟩), .bool false, .int .i64 0, .int .i64 0, .int .i64 0, .str (⟨#[]⟩)]).put h.n .dead) h742 (
  slK 4 h742 s0 (some (iv .i64 1)) none fun v743 =>
  Jn.impl_between_l0_2 v743 h742 i728 s1 h s5))
  else none)
  (Jn.impl_between_l0_2 s0 (h.new 0 [.bool false, .int .i64 0, .int .i64 0, .int .i64 0, .str (⟨#[]⟩), .bool false, .int .i64 0, .int .i64 0, .int .i64 0, .str (⟨#[]⟩)]) i728 s1 h s5)

noncomputable def Jn.impl_between_l0_4 (q691 : Bool) (s0 : V) (s1 : V) (h : H) (s5 : V) : Option (LOut) :=
  vcase (bv q691)
  ((lenV (.sl 45) s0).bind fun v695 =>
  gV1 v695 fun x696 =>
  gI .i64 x696 fun i697 =>
  vcase (bv (i697 == 0))
  (Jn.impl_between_l0_3 1 s0 h s1 s5)
  ((lenV (.sl 45) s1).bind fun v699 =>
  gV1 v699 fun x700 =>
  gI .i64 x700 fun i701 =>
  vcase (bv (i701 == 0))
  (Jn.impl_between_l0_3 (-1) s0 h s1 s5)
  (idxK 4 s0 (iv .i64 0) fun v703 =>
  ldK (.agg [.i .i64, .i .i64, .i .i64, .s]) ⟨4, 40, [.int .i64 0, .int .i64 0, .int .i64 0, .str ⟨#[]⟩], true, .st [(0, 2), (1, 2), (2, 2), (3, 9)], true⟩ h v703 fun v704 =>
  gVA v704 fun c705 =>
  (c705[0]?).bind fun x706 =>
  gI .i64 x706 fun i707 =>
  (c705[1]?).bind fun x708 =>
  gI .i64 x708 fun i709 =>
  (c705[2]?).bind fun x710 =>
  gI .i64 x710 fun i711 =>
  (c705[3]?).bind fun x712 =>
  gS x712 fun y713 =>
  if c705.length = 4 then
  idxK 4 s1 (iv .i64 0) fun v714 =>
  ldK (.agg [.i .i64, .i .i64, .i .i64, .s]) ⟨4, 40, [.int .i64 0, .int .i64 0, .int .i64 0, .str ⟨#[]⟩], true, .st [(0, 2), (1, 2), (2, 2), (3, 9)], true⟩ h v714 fun v715 =>
  gVA v715 fun c716 =>
  (c716[0]?).bind fun x717 =>
  gI .i64 x717 fun i718 =>
  (c716[1]?).bind fun x719 =>
  gI .i64 x719 fun i720 =>
  (c716[2]?).bind fun x721 =>
  gI .i64 x721 fun i722 =>
  (c716[3]?).bind fun x723 =>
  gS x723 fun y724 =>
  if c716.length = 4 then
  pcallS (call Ev) Fn.impl_order [.agg [.int .i64 i707, .int .i64 i709, .int .i64 i711, .str y713], .agg [.int .i64 i718, .int .i64 i720, .int .i64 i722, .str y724]] fun v725 =>
  gV1 v725 fun x726 =>
  gI .i64 x726 fun i727 =>
  hchk h h (
  Jn.impl_between_l0_3 i727 s0 h s1 s5)
  else none
  else none)))
  (some (.done [s5] (tidy h [s5] h)))

theorem eq_impl_between_l0 (s0 : V) (s1 : V) (s5 : V) (h : H) : Lp.impl_between 0 [s0, s1, s5] h =
  (lenV (.sl 45) s0).bind fun v201 =>
  gV1 v201 fun x202 =>
  gI .i64 x202 fun i203 =>
  vcase (bv (decide (i203 > 0)))
  (Jn.impl_between_l0_4 true s0 s1 h s5)
  ((lenV (.sl 45) s1).bind fun v206 =>
  gV1 v206 fun x207 =>
  gI .i64 x207 fun i208 =>
  Jn.impl_between_l0_4 (decide (i208 > 0)) s0 s1 h s5) := by
  unfold Lp.impl_between; rw [loop_eq]; kernel_rfl

theorem eq_impl_ChangesOf (a0 : List (List S)) (a1 : List (List S)) (n : Nat) : call Ev Fn.impl_ChangesOf [lv a0, lv a1] (D n) =
  pcallS (call Ev) Fn.impl_RowsFault [lv a0] fun v101 =>
  gV1 v101 fun x102 =>
  gI .i64 x102 fun i103 =>
  vcase (bv (i103 != 0))
  (stK 2 ((D n).new 0 [.int .i64 0, .sl none 0]) (pv ((D n).n) 0) (.agg [.int .i64 i103, .sl none 0]) fun h105 =>
  (loadN 2 h105 (pv ((D n).n) 0)).bind fun c106 =>
  some (.agg c106, h105))
  (pcallS (call Ev) Fn.impl_RowsFault [lv a1] fun v107 =>
  gV1 v107 fun x108 =>
  gI .i64 x108 fun i109 =>
  vcase (bv (i109 != 0))
  (stK 2 ((D n).new 0 [.int .i64 0, .sl none 0]) (pv ((D n).n) 0) (.agg [.int .i64 i109, .sl none 0]) fun h111 =>
  (loadN 2 h111 (pv ((D n).n) 0)).bind fun c112 =>
  some (.agg c112, h111))
  (pcallF (call Ev) Fn.impl_between true [lv a0, lv a1] ((D n).new 0 [.int .i64 0, .sl none 0]) fun v113 h114 =>
  cellsK v113 fun c115 =>
  if c115.length = 1 ∧ 1 + 1 ≤ ([.int .i64 0, .sl none 0] : List S).length then
  ((setAt ([.int .i64 0, .sl none 0] : List S) 1 c115)[0]?).bind fun x116 =>
  gI .i64 x116 fun i117 =>
  ((setAt ([.int .i64 0, .sl none 0] : List S) 1 c115)[1]?).bind fun x118 =>
  if (setAt ([.int .i64 0, .sl none 0] : List S) 1 c115).length = 2 then
  stK 2 h114 (pv ((D n).n) 0) (.agg [.int .i64 i117, x118]) fun h119 =>
  (loadN 2 h119 (pv ((D n).n) 0)).bind fun c120 =>
  some (.agg c120, h119)
  else none
  else none)) := by
  rw [call_eq]; kernel_rfl

noncomputable def Jn.laws_FnExactChangesOf_0 (q238 : Bool) (h132 : H) (p162 : V × H) (p165 : V × H) (h127 : H) (a0 : List (List S)) (a1 : List (List S)) : Option (V) :=
  vcase (bv q238)
  (some (bv false))
  ((loadN 2 (tidy (tidy h132 [p162.1] p162.2) [p165.1] p165.2) (pv h127.n 0)).bind fun c240 =>
  (c240[0]?).bind fun x241 =>
  gI .i64 x241 fun i242 =>
  (c240[1]?).bind fun x243 =>
  if c240.length = 2 then
  (call Ev Fn.laws_markChangesResult [.agg [.int .i64 i242, x243], iv .i64 1] (tidy (tidy h132 [p162.1] p162.2) [p165.1] p165.2)).bind fun p244 =>
  gV1 p244.1 fun x245 =>
  gI .i64 x245 fun i246 =>
  (loadN 2 (tidy (tidy (tidy h132 [p162.1] p162.2) [p165.1] p165.2) [p244.1] p244.2) (pv h127.n 0)).bind fun c247 =>
  (c247[0]?).bind fun x248 =>
  gI .i64 x248 fun i249 =>
  (c247[1]?).bind fun x250 =>
  if c247.length = 2 then
  (frzVs (tidy (tidy (tidy h132 [p162.1] p162.2) [p165.1] p165.2) [p244.1] p244.2) [.agg [.int .i64 i249, x250], iv .i64 1]).bind fun l251 =>
  pcallS (call Ev) Fn.laws_heldChangesResult (normVs [] l251) fun v252 =>
  gV1 v252 fun x253 =>
  gI .i64 x253 fun i254 =>
  vcase (bv (decide (i254 < 0)))
  (some (bv false))
  (vcase (bv (i254 != i246))
  (some (bv false))
  ((pureV (call Ev) Fn.laws_toRowS [lv a0]).bind fun v257 =>
  gV1 v257 fun x258 =>
  gF x258 fun z259 =>
  (pureV (call Ev) Fn.laws_toRowS [lv a1]).bind fun v260 =>
  gV1 v260 fun x261 =>
  gF x261 fun z262 =>
  (pureV (call Ev) Fn.impl_ChangesOf [lv z259, lv z262]).bind fun v263 =>
  gVA v263 fun c264 =>
  (c264[0]?).bind fun x265 =>
  gI .i64 x265 fun i266 =>
  (c264[1]?).bind fun x267 =>
  gF x267 fun z268 =>
  if c264.length = 2 then
  stK 2 ((tidy (tidy (tidy h132 [p162.1] p162.2) [p165.1] p165.2) [p244.1] p244.2).new 0 [.int .i64 0, .sl none 0]) (pv ((tidy (tidy (tidy h132 [p162.1] p162.2) [p165.1] p165.2) [p244.1] p244.2).n) 0) (.agg [.int .i64 i266, .fs z268]) fun h269 =>
  (loadN 2 h269 (pv ((tidy (tidy (tidy h132 [p162.1] p162.2) [p165.1] p165.2) [p244.1] p244.2).n) 0)).bind fun c270 =>
  (c270[0]?).bind fun x271 =>
  gI .i64 x271 fun i272 =>
  (c270[1]?).bind fun x273 =>
  if c270.length = 2 then
  (loadN 2 h269 (pv 0 0)).bind fun c274 =>
  (c274[0]?).bind fun x275 =>
  gI .i64 x275 fun i276 =>
  (c274[1]?).bind fun x277 =>
  if c274.length = 2 then
  (frzVs h269 [.agg [.int .i64 i272, x273], .agg [.int .i64 i276, x277]]).bind fun l278 =>
  pcallS (call Ev) Fn.laws_eqChangesResult (normVs [] l278) fun v279 =>
  gV1 v279 fun x280 =>
  gB x280 fun q281 =>
  vcase (bv (!q281))
  (some (bv false))
  ((loadN 2 h269 (pv h127.n 0)).bind fun c283 =>
  (c283[0]?).bind fun x284 =>
  gI .i64 x284 fun i285 =>
  (c283[1]?).bind fun x286 =>
  if c283.length = 2 then
  (frzVs h269 [.agg [.int .i64 i285, x286], iv .i64 1]).bind fun l287 =>
  pcallS (call Ev) Fn.laws_heldChangesResult (normVs [] l287) fun v288 =>
  gV1 v288 fun x289 =>
  gI .i64 x289 fun i290 =>
  vcase (bv (decide (i290 < 0)))
  (some (bv false))
  (vcase (bv (i290 != i246))
  (some (bv false))
  (some (bv true)))
  else none)
  else none
  else none
  else none))
  else none
  else none)

theorem pu_laws_FnExactChangesOf (a0 : List (List S)) (a1 : List (List S)) : pureV (call Ev) Fn.laws_FnExactChangesOf [lv a0, lv a1] =
  pcallS (call Ev) Fn.laws_szRowS [lv a0, iv .i64 1048576] fun v101 =>
  gV1 v101 fun x102 =>
  gI .i64 x102 fun i103 =>
  vcase (bv (decide (i103 < 0)))
  (some (bv true))
  (pcallS (call Ev) Fn.laws_szRowS [lv a1, iv .i64 i103] fun v105 =>
  gV1 v105 fun x106 =>
  gI .i64 x106 fun i107 =>
  vcase (bv (decide (i107 < 0)))
  (some (bv true))
  ((pureV (call Ev) Fn.laws_toRowS [lv a0]).bind fun v109 =>
  gV1 v109 fun x110 =>
  gF x110 fun z111 =>
  (pureV (call Ev) Fn.laws_toRowS [lv a1]).bind fun v112 =>
  gV1 v112 fun x113 =>
  gF x113 fun z114 =>
  (pureV (call Ev) Fn.spec_ChangesOf [lv z111, lv z114]).bind fun v115 =>
  gVA v115 fun c116 =>
  (c116[0]?).bind fun x117 =>
  gI .i64 x117 fun i118 =>
  (c116[1]?).bind fun x119 =>
  gF x119 fun z120 =>
  if c116.length = 2 then
  pcallF (call Ev) Fn.laws_toRowS true [lv a0] (((D 0).new 0 [.int .i64 0, .sl none 0]).put 0 (.rw 0 [.int .i64 i118, .fs z120])) fun v121 h122 =>
  pcallF (call Ev) Fn.laws_toRowS true [lv a1] h122 fun v123 h124 =>
  (frzVs h124 [v121, v123]).bind fun l125 =>
  pcallF (call Ev) Fn.impl_ChangesOf ([v121, v123].all offV) (normVs [] l125) h124 fun v126 h127 =>
  gVA v126 fun c128 =>
  (c128[0]?).bind fun x129 =>
  gI .i64 x129 fun i130 =>
  (c128[1]?).bind fun x131 =>
  if c128.length = 2 then
  stK 2 (h127.new 0 [.int .i64 0, .sl none 0]) (pv h127.n 0) (.agg [.int .i64 i130, x131]) fun h132 =>
  (loadN 2 h132 (pv h127.n 0)).bind fun c133 =>
  (c133[0]?).bind fun x134 =>
  gI .i64 x134 fun i135 =>
  (c133[1]?).bind fun x136 =>
  if c133.length = 2 then
  (loadN 2 h132 (pv 0 0)).bind fun c137 =>
  (c137[0]?).bind fun x138 =>
  gI .i64 x138 fun i139 =>
  (c137[1]?).bind fun x140 =>
  if c137.length = 2 then
  (frzVs h132 [.agg [.int .i64 i135, x136], .agg [.int .i64 i139, x140]]).bind fun l141 =>
  pcallS (call Ev) Fn.laws_eqChangesResult (normVs [] l141) fun v142 =>
  gV1 v142 fun x143 =>
  gB x143 fun q144 =>
  vcase (bv (!q144))
  (some (bv false))
  ((pureV (call Ev) Fn.laws_toRowS [lv a0]).bind fun v146 =>
  gV1 v146 fun x147 =>
  gF x147 fun z148 =>
  (frzVs h132 [v121, lv z148]).bind fun l149 =>
  pcallS (call Ev) Fn.laws_eqRowS (normVs [] l149) fun v150 =>
  gV1 v150 fun x151 =>
  gB x151 fun q152 =>
  vcase (bv (!q152))
  (some (bv false))
  ((pureV (call Ev) Fn.laws_toRowS [lv a1]).bind fun v154 =>
  gV1 v154 fun x155 =>
  gF x155 fun z156 =>
  (frzVs h132 [v123, lv z156]).bind fun l157 =>
  pcallS (call Ev) Fn.laws_eqRowS (normVs [] l157) fun v158 =>
  gV1 v158 fun x159 =>
  gB x159 fun q160 =>
  vcase (bv (!q160))
  (some (bv false))
  ((call Ev Fn.laws_markRowS [v121, iv .i64 1] h132).bind fun p162 =>
  gV1 p162.1 fun x163 =>
  gI .i64 x163 fun i164 =>
  (call Ev Fn.laws_markRowS [v123, iv .i64 i164] (tidy h132 [p162.1] p162.2)).bind fun p165 =>
  gV1 p165.1 fun x166 =>
  gI .i64 x166 fun i167 =>
  vcase (bv (decide (i167 < 0)))
  (Jn.laws_FnExactChangesOf_0 true h132 p162 p165 h127 a0 a1)
  ((loadN 2 (tidy (tidy h132 [p162.1] p162.2) [p165.1] p165.2) (pv h127.n 0)).bind fun c170 =>
  (c170[0]?).bind fun x171 =>
  gI .i64 x171 fun i172 =>
  (c170[1]?).bind fun x173 =>
  if c170.length = 2 then
  (loadN 2 (tidy (tidy h132 [p162.1] p162.2) [p165.1] p165.2) (pv 0 0)).bind fun c174 =>
  (c174[0]?).bind fun x175 =>
  gI .i64 x175 fun i176 =>
  (c174[1]?).bind fun x177 =>
  if c174.length = 2 then
  (frzVs (tidy (tidy h132 [p162.1] p162.2) [p165.1] p165.2) [.agg [.int .i64 i172, x173], .agg [.int .i64 i176, x177]]).bind fun l178 =>
  pcallS (call Ev) Fn.laws_eqChangesResult (normVs [] l178) fun v179 =>
  gV1 v179 fun x180 =>
  gB x180 fun q181 =>
  Jn.laws_FnExactChangesOf_0 (!q181) h132 p162 p165 h127 a0 a1
  else none
  else none))))
  else none
  else none
  else none
  else none)) := by
  rw [pure_eq]; kernel_rfl

noncomputable def Jn.spec_l6Do_0 (q161 : Bool) (w162 : V) (w163 : V) (w164 : V) (w165 : V) (w166 : V) (w167 : V) (w168 : V) (w169 : V) (w170 : V) (w171 : V) (w172 : V) (w173 : V) (w174 : V) (q175 : Bool) (n : Nat) (a0 : List (List S)) (a1_0 : Bool) (a1_1 : Int) (a1_2 : Int) (a1_3 : Int) (a1_4 : ByteArray) (a1_5 : Bool) (a1_6 : Int) (a1_7 : Int) (a1_8 : Int) (a1_9 : ByteArray) (i111 : Int) : Option (V × H) :=
  vcase (bv q175)
  (some (.tup [.s (.sl none 0), .s (.bool false)], (D n)))
  ((Lp.spec_l6Do 0 [lv a0, fv [.bool a1_0, .int .i64 a1_1, .int .i64 a1_2, .int .i64 a1_3, .str a1_4, .bool a1_5, .int .i64 a1_6, .int .i64 a1_7, .int .i64 a1_8, .str a1_9] 0, iv .i64 i111, sv ((D n).n) 0 0, iv .i64 0] ((D n).new 4 [])).bind fun o177 => lcase o177 (fun l178 h179 =>
  (l178[0]?).bind fun w182 =>
  (l178[1]?).bind fun w183 =>
  (notNil w182).bind fun v184 =>
  (padd 5 v184).bind fun v185 =>
  ldK (.one (.b)) ⟨1, 1, [.bool false], false, .bool, false⟩ h179 v185 fun v186 =>
  gV1 v186 fun x187 =>
  gB x187 fun q188 =>
  vcase (bv q188)
  ((notNil w182).bind fun v190 =>
  (padd 6 v190).bind fun v191 =>
  ldK (.agg [.i .i64, .i .i64, .i .i64, .s]) ⟨4, 40, [.int .i64 0, .int .i64 0, .int .i64 0, .str ⟨#[]⟩], true, .st [(0, 2), (1, 2), (2, 2), (3, 9)], true⟩ h179 v191 fun v192 =>
  gVA v192 fun c193 =>
  (c193[0]?).bind fun x194 =>
  gI .i64 x194 fun i195 =>
  (c193[1]?).bind fun x196 =>
  gI .i64 x196 fun i197 =>
  (c193[2]?).bind fun x198 =>
  gI .i64 x198 fun i199 =>
  (c193[3]?).bind fun x200 =>
  gS x200 fun y201 =>
  if c193.length = 4 then
  (frzVs h179 [w183, .agg [.int .i64 i195, .int .i64 i197, .int .i64 i199, .str y201]]).bind fun l202 =>
  pcallF (call Ev) Fn.spec_l6Put ([w183, .agg [.int .i64 i195, .int .i64 i197, .int .i64 i199, .str y201]].all offV) (normVs [] l202) h179 fun v203 h204 =>
  (V.toA v203).bind fun t205 =>
  some (.tup [t205, .s (.bool true)], h204)
  else none)
  ((V.toA w183).bind fun t206 =>
  some (.tup [t206, .s (.bool true)], h179))) (fun v180 h181 =>
  some (v180, h181)))

theorem eq_spec_l6Do (a0 : List (List S)) (a1_0 : Bool) (a1_1 : Int) (a1_2 : Int) (a1_3 : Int) (a1_4 : ByteArray) (a1_5 : Bool) (a1_6 : Int) (a1_7 : Int) (a1_8 : Int) (a1_9 : ByteArray) (n : Nat) : call Ev Fn.spec_l6Do [lv a0, fv [.bool a1_0, .int .i64 a1_1, .int .i64 a1_2, .int .i64 a1_3, .str a1_4, .bool a1_5, .int .i64 a1_6, .int .i64 a1_7, .int .i64 a1_8, .str a1_9] 0] (D n) =
  pcallS (call Ev) Fn.spec_l6Key [fv [.bool a1_0, .int .i64 a1_1, .int .i64 a1_2, .int .i64 a1_3, .str a1_4, .bool a1_5, .int .i64 a1_6, .int .i64 a1_7, .int .i64 a1_8, .str a1_9] 0] fun v101 =>
  gVT v101 fun u102 =>
  (u102[0]?).bind fun t103 =>
  gA1 t103 fun x104 =>
  gI .i64 x104 fun i105 =>
  (u102[1]?).bind fun t106 =>
  gA1 t106 fun x107 =>
  gI .i64 x107 fun i108 =>
  if u102.length = 2 then
  pcallS (call Ev) Fn.spec_l6At [lv a0, iv .i64 i105, iv .i64 i108] fun v109 =>
  gV1 v109 fun x110 =>
  gI .i64 x110 fun i111 =>
  vcase (bv (!(a1_0 == (decide (i111 ≥ 0)))))
  (Jn.spec_l6Do_0 true (.tup []) (.tup []) (.tup []) (.tup []) (.tup []) (.tup []) (.tup []) (.tup []) (.tup []) (.tup []) (.tup []) (.tup []) (.tup []) true n a0 a1_0 a1_1 a1_2 a1_3 a1_4 a1_5 a1_6 a1_7 a1_8 a1_9 i111)
  (vcase (bv (decide (i111 ≥ 0)))
  (idxF 4 a0 i111 fun r115 =>
  (rowN 4 r115 0).bind fun c116 =>
  (c116[0]?).bind fun x117 =>
  gI .i64 x117 fun i118 =>
  (c116[1]?).bind fun x119 =>
  gI .i64 x119 fun i120 =>
  (c116[2]?).bind fun x121 =>
  gI .i64 x121 fun i122 =>
  (c116[3]?).bind fun x123 =>
  gS x123 fun y124 =>
  if c116.length = 4 then
  Jn.spec_l6Do_0 false (iv .i64 i111) (bv (decide (i111 ≥ 0))) (bv true) (lv a0) (iv .i64 i111) (fv r115 0) (.agg [.int .i64 i118, .int .i64 i120, .int .i64 i122, .str y124]) (fv [.bool a1_0, .int .i64 a1_1, .int .i64 a1_2, .int .i64 a1_3, .str a1_4, .bool a1_5, .int .i64 a1_6, .int .i64 a1_7, .int .i64 a1_8, .str a1_9] 0) (fv [.bool a1_0, .int .i64 a1_1, .int .i64 a1_2, .int .i64 a1_3, .str a1_4, .bool a1_5, .int .i64 a1_6, .int .i64 a1_7, .int .i64 a1_8, .str a1_9] 0) (fv [.bool a1_0, .int .i64 a1_1, .int .i64 a1_2, .int .i64 a1_3, .str a1_4, .bool a1_5, .int .i64 a1_6, .int .i64 a1_7, .int .i64 a1_8, .str a1_9] 1) (.agg [.int .i64 a1_1, .int .i64 a1_2, .int .i64 a1_3, .str a1_4]) (bv (!(((i118 : Int) == a1_1) && (((i120 : Int) == a1_2) && (((i122 : Int) == a1_3) && (((y124 : ByteArray).toList == (a1_4 : ByteArray).toList) && true)))))) (bv (!(((i118 : Int) == a1_1) && (((i120 : Int) == a1_2) && (((i122 : Int) == a1_3) && (((y124 : ByteArray).toList == (a1_4 : ByteArray).toList) && true)))))) (!(((i118 : Int) == a1_1) && (((i120 : Int) == a1_2) && (((i122 : Int) == a1_3) && (((y124 : ByteArray).toList == (a1_4 : ByteArray).toList) && true))))) n a0 a1_0 a1_1 a1_2 a1_3 a1_4 a1_5 a1_6 a1_7 a1_8 a1_9 i111
  else none)
  (Jn.spec_l6Do_0 false (iv .i64 i111) (bv (decide (i111 ≥ 0))) (bv false) (.tup []) (.tup []) (.tup []) (.tup []) (.tup []) (.tup []) (.tup []) (.tup []) (.tup []) (bv false) false n a0 a1_0 a1_1 a1_2 a1_3 a1_4 a1_5 a1_6 a1_7 a1_8 a1_9 i111))
  else none := by
  rw [call_eq]; kernel_rfl

theorem eq_spec_l6Do_l0 (s0 : List (List S)) (s1_r : List S) (s1_o : Nat) (s8 : Int) (s9 : V) (s10 : Int) (h : H) : Lp.spec_l6Do 0 [lv s0, fv s1_r s1_o, iv .i64 s8, s9, iv .i64 s10] h =
  vcase (bv (decide (s10 < (s0.length : Int))))
  (vcase (bv (s10 != s8))
  (idxF 4 s0 s10 fun r204 =>
  (rowN 4 r204 0).bind fun c205 =>
  (c205[0]?).bind fun x206 =>
  gI .i64 x206 fun i207 =>
  (c205[1]?).bind fun x208 =>
  gI .i64 x208 fun i209 =>
  (c205[2]?).bind fun x210 =>
  gI .i64 x210 fun i211 =>
  (c205[3]?).bind fun x212 =>
  gS x212 fun y213 =>
  if c205.length = 4 then
  (appS 4 (h.new 4 [.int .i64 i207, .int .i64 i209, .int .i64 i211, .str y213]) s9 (sv h.n 0 1)).bind fun p214 =>
  Lp.spec_l6Do 0 [lv s0, fv s1_r s1_o, iv .i64 s8, p214.1, iv .i64 (IntKind.i64.wrap (s10 + 1))] (tidy h [lv s0, fv s1_r s1_o, iv .i64 s8, p214.1, iv .i64 (IntKind.i64.wrap (s10 + 1))] p214.2)
  else none)
  (Lp.spec_l6Do 0 [lv s0, fv s1_r s1_o, iv .i64 s8, s9, iv .i64 (IntKind.i64.wrap (s10 + 1))] (tidy h [lv s0, fv s1_r s1_o, iv .i64 s8, s9, iv .i64 (IntKind.i64.wrap (s10 + 1))] h)))
  (some (.done [fv s1_r s1_o, s9] (tidy h [fv s1_r s1_o, s9] h))) := by
  unfold Lp.spec_l6Do; rw [loop_eq]; kernel_rfl

theorem pu_spec_ApplyChanges (a0 : List (List S)) (a1 : List (List S)) : pureV (call Ev) Fn.spec_ApplyChanges [lv a0, lv a1] =
  pcallS (call Ev) Fn.spec_l6Rows [lv a0] fun v101 =>
  gV1 v101 fun x102 =>
  gI .i64 x102 fun i103 =>
  vcase (bv (i103 != 0))
  (some (.agg [.int .i64 i103, .fs []]))
  ((appS 4 (((D 0).new 0 [.int .i64 0, .sl none 0]).new 4 []) (sv 1 0 0) (lv a0)).bind fun p105 =>
  (Lp.spec_ApplyChanges 0 [lv a1, pv 0 0, p105.1, iv .i64 0] p105.2).bind fun o106 => lcase o106 (fun l107 h108 =>
  (l107[0]?).bind fun w111 =>
  (l107[1]?).bind fun w112 =>
  (lenV (.sl 45) w112).bind fun v113 =>
  gV1 v113 fun x114 =>
  gI .i64 x114 fun i115 =>
  vcase (bv (decide (i115 > 60)))
  (stK 2 h108 w111 (.agg [.int .i64 2, .sl none 0]) fun h117 =>
  ldT ⟨2, 32, [.int .i64 0, .sl none 0], true, .st [(0, 2), (1, 27)], false⟩ h117 w111 fun v118 =>
  frzV h117 v118)
  (cellsK w112 fun c119 =>
  if c119.length = 1 ∧ 1 + 1 ≤ ([.int .i64 0, .sl none 0] : List S).length then
  ((setAt ([.int .i64 0, .sl none 0] : List S) 1 c119)[0]?).bind fun x120 =>
  gI .i64 x120 fun i121 =>
  ((setAt ([.int .i64 0, .sl none 0] : List S) 1 c119)[1]?).bind fun x122 =>
  if (setAt ([.int .i64 0, .sl none 0] : List S) 1 c119).length = 2 then
  stK 2 h108 w111 (.agg [.int .i64 i121, x122]) fun h123 =>
  ldT ⟨2, 32, [.int .i64 0, .sl none 0], true, .st [(0, 2), (1, 27)], false⟩ h123 w111 fun v124 =>
  frzV h123 v124
  else none
  else none)) (fun v109 h110 =>
  frzV h110 v109)) := by
  rw [pure_eq]; kernel_rfl

theorem eq_spec_ApplyChanges_l0 (s1 : List (List S)) (s4 : V) (s6 : V) (s7 : Int) (h : H) : Lp.spec_ApplyChanges 0 [lv s1, s4, s6, iv .i64 s7] h =
  vcase (bv (decide (s7 < (s1.length : Int))))
  (idxF 10 s1 s7 fun r203 =>
  pcallS (call Ev) Fn.spec_l6Change [normV 10 (fv r203 0)] fun v204 =>
  gV1 v204 fun x205 =>
  gI .i64 x205 fun i206 =>
  vcase (bv (i206 != 0))
  (stK 2 h s4 (.agg [.int .i64 i206, .sl none 0]) fun h208 =>
  ldT ⟨2, 32, [.int .i64 0, .sl none 0], true, .st [(0, 2), (1, 27)], false⟩ h208 s4 fun v209 =>
  some (.ret v209 h208))
  (idxF 10 s1 s7 fun r210 =>
  (frzVs h [s6, fv r210 0]).bind fun l211 =>
  pcallF (call Ev) Fn.spec_l6Do ([s6, fv r210 0].all offV) (normVs [0, 10] l211) h fun v212 h213 =>
  gVT v212 fun u214 =>
  (u214[0]?).bind fun t215 =>
  gA1 t215 fun x216 =>
  (u214[1]?).bind fun t217 =>
  gA1 t217 fun x218 =>
  gB x218 fun q219 =>
  if u214.length = 2 then
  vcase (bv (!q219))
  (stK 2 h213 s4 (.agg [.int .i64 8, .sl none 0]) fun h221 =>
  ldT ⟨2, 32, [.int .i64 0, .sl none 0], true, .st [(0, 2), (1, 27)], false⟩ h221 s4 fun v222 =>
  some (.ret v222 h221))
  (Lp.spec_ApplyChanges 0 [lv s1, s4, .s x216, iv .i64 (IntKind.i64.wrap (s7 + 1))] (tidy h [lv s1, s4, .s x216, iv .i64 (IntKind.i64.wrap (s7 + 1))] h213))
  else none))
  (some (.done [s4, s6] (tidy h [s4, s6] h))) := by
  unfold Lp.spec_ApplyChanges; rw [loop_eq]; kernel_rfl

theorem eq_slices_Clone_impl_Row_impl_Row (a0 : V) (h : H) : call Ev Fn.slices_Clone_impl_Row_impl_Row [a0] h =
  (bin Ev .eql 27 a0 (.s (.sl none 0))).bind fun b101 =>
  gV1 b101 fun x102 =>
  gB x102 fun q103 =>
  vcase (bv q103)
  (some (.s (.sl none 0), h))
  ((appS 4 (h.new 4 []) (sv h.n 0 0) a0).bind fun p105 =>
  some (p105.1, p105.2)) := by
  rw [call_eq]; kernel_rfl

theorem pu_slices_BinarySearchFunc_impl_Row_impl_Row_impl_Row (a0 : List (List S)) (a1_0 : Int) (a1_1 : Int) (a1_2 : Int) (a1_3 : ByteArray) : pureV (call Ev) Fn.slices_BinarySearchFunc_impl_Row_impl_Row_impl_Row [lv a0, .agg [.int .i64 a1_0, .int .i64 a1_1, .int .i64 a1_2, .str a1_3], .s (.fn Fn.impl_order [])] =
  (Lp.slices_BinarySearchFunc_impl_Row_impl_Row_impl_Row 0 [lv a0, .s (.fn Fn.impl_order []), pv 0 0, iv .i64 (a0.length : Int), iv .i64 0, iv .i64 (a0.length : Int)] ((D 0).new 0 [.int .i64 a1_0, .int .i64 a1_1, .int .i64 a1_2, .str a1_3])).bind fun o101 => lcase o101 (fun l102 h103 =>
  (l102[0]?).bind fun w106 =>
  gV1 w106 fun x107 =>
  gF x107 fun z108 =>
  (l102[1]?).bind fun w109 =>
  (l102[2]?).bind fun w110 =>
  (l102[3]?).bind fun w111 =>
  gV1 w111 fun x112 =>
  gI .i64 x112 fun i113 =>
  (l102[4]?).bind fun w114 =>
  gV1 w114 fun x115 =>
  gI .i64 x115 fun i116 =>
  vcase (bv (decide (i116 < i113)))
  (idxF 4 z108 i116 fun r118 =>
  (rowN 4 r118 0).bind fun c119 =>
  (c119[0]?).bind fun x120 =>
  gI .i64 x120 fun i121 =>
  (c119[1]?).bind fun x122 =>
  gI .i64 x122 fun i123 =>
  (c119[2]?).bind fun x124 =>
  gI .i64 x124 fun i125 =>
  (c119[3]?).bind fun x126 =>
  gS x126 fun y127 =>
  if c119.length = 4 then
  ldK (.agg [.i .i64, .i .i64, .i .i64, .s]) ⟨4, 40, [.int .i64 0, .int .i64 0, .int .i64 0, .str ⟨#[]⟩], true, .st [(0, 2), (1, 2), (2, 2), (3, 9)], true⟩ h103 w110 fun v128 =>
  gVA v128 fun c129 =>
  (c129[0]?).bind fun x130 =>
  gI .i64 x130 fun i131 =>
  (c129[1]?).bind fun x132 =>
  gI .i64 x132 fun i133 =>
  (c129[2]?).bind fun x134 =>
  gI .i64 x134 fun i135 =>
  (c129[3]?).bind fun x136 =>
  gS x136 fun y137 =>
  if c129.length = 4 then
  fnK w109 fun j138 m139 =>
  (frzVs h103 ([.agg [.int .i64 i121, .int .i64 i123, .int .i64 i125, .str y127], .agg [.int .i64 i131, .int .i64 i133, .int .i64 i135, .str y137]] ++ m139.map fun p => .s (.ptr (some p)))).bind fun l140 =>
  pcallS (call Ev) j138 (normVs (Ev.psz j138) l140) fun v141 =>
  Vm.tyV (Ev.rt j138) v141 fun v142 =>
  gV1 v142 fun x143 =>
  gI .i64 x143 fun i144 =>
  hchk h103 h103 (
  some (.tup [.s (.int .i64 i116), .s (.bool (i144 == 0))]))
  else none
  else none)
  (hchk h103 h103 (
  some (.tup [.s (.int .i64 i116), .s (.bool false)])))) (fun v104 h105 =>
  frzV h105 v104) := by
  rw [pure_eq]; kernel_rfl

theorem eq_slices_BinarySearchFunc_impl_Row_impl_Row_impl_Row_l0 (s0 : List (List S)) (s4 : V) (s8 : Int) (s9 : Int) (s10 : Int) (h : H) : Lp.slices_BinarySearchFunc_impl_Row_impl_Row_impl_Row 0 [lv s0, .s (.fn Fn.impl_order []), s4, iv .i64 s8, iv .i64 s9, iv .i64 s10] h =
  vcase (bv (decide (s9 < s10)))
  ((bin Ev .shr 163 (iv .u64 (IntKind.u64.wrap (IntKind.i64.wrap (s9 + s10)))) (iv .u64 1)).bind fun b203 =>
  gV1 b203 fun x204 =>
  gI .u64 x204 fun i205 =>
  idxF 4 s0 (IntKind.i64.wrap i205) fun r206 =>
  (rowN 4 r206 0).bind fun c207 =>
  (c207[0]?).bind fun x208 =>
  gI .i64 x208 fun i209 =>
  (c207[1]?).bind fun x210 =>
  gI .i64 x210 fun i211 =>
  (c207[2]?).bind fun x212 =>
  gI .i64 x212 fun i213 =>
  (c207[3]?).bind fun x214 =>
  gS x214 fun y215 =>
  if c207.length = 4 then
  ldK (.agg [.i .i64, .i .i64, .i .i64, .s]) ⟨4, 40, [.int .i64 0, .int .i64 0, .int .i64 0, .str ⟨#[]⟩], true, .st [(0, 2), (1, 2), (2, 2), (3, 9)], true⟩ h s4 fun v216 =>
  gVA v216 fun c217 =>
  (c217[0]?).bind fun x218 =>
  gI .i64 x218 fun i219 =>
  (c217[1]?).bind fun x220 =>
  gI .i64 x220 fun i221 =>
  (c217[2]?).bind fun x222 =>
  gI .i64 x222 fun i223 =>
  (c217[3]?).bind fun x224 =>
  gS x224 fun y225 =>
  if c217.length = 4 then
  pcallS (call Ev) Fn.impl_order [.agg [.int .i64 i209, .int .i64 i211, .int .i64 i213, .str y215], .agg [.int .i64 i219, .int .i64 i221, .int .i64 i223, .str y225]] fun v226 =>
  gV1 v226 fun x227 =>
  gI .i64 x227 fun i228 =>
  hchk h h (
  vcase (bv (decide (i228 < 0)))
  (Lp.slices_BinarySearchFunc_impl_Row_impl_Row_impl_Row 0 [lv s0, .s (.fn Fn.impl_order []), s4, iv .i64 s8, iv .i64 (IntKind.i64.wrap ((IntKind.i64.wrap i205) + 1)), iv .i64 s10] (tidy h [lv s0, .s (.fn Fn.impl_order []), s4, iv .i64 s8, iv .i64 (IntKind.i64.wrap ((IntKind.i64.wrap i205) + 1)), iv .i64 s10] h))
  (Lp.slices_BinarySearchFunc_impl_Row_impl_Row_impl_Row 0 [lv s0, .s (.fn Fn.impl_order []), s4, iv .i64 s8, iv .i64 s9, iv .i64 (IntKind.i64.wrap i205)] (tidy h [lv s0, .s (.fn Fn.impl_order []), s4, iv .i64 s8, iv .i64 s9, iv .i64 (IntKind.i64.wrap i205)] h)))
  else none
  else none)
  (some (.done [lv s0, .s (.fn Fn.impl_order []), s4, iv .i64 s8, iv .i64 s9] (tidy h [lv s0, .s (.fn Fn.impl_order []), s4, iv .i64 s8, iv .i64 s9] h))) := by
  unfold Lp.slices_BinarySearchFunc_impl_Row_impl_Row_impl_Row; rw [loop_eq]; kernel_rfl

theorem pu_impl_Change_fitsTo (a0_0 : Bool) (a0_1 : Int) (a0_2 : Int) (a0_3 : Int) (a0_4 : ByteArray) (a0_5 : Bool) (a0_6 : Int) (a0_7 : Int) (a0_8 : Int) (a0_9 : ByteArray) (a1 : List (List S)) : pureV (call Ev) Fn.impl_Change_fitsTo [.agg [.bool a0_0, .int .i64 a0_1, .int .i64 a0_2, .int .i64 a0_3, .str a0_4, .bool a0_5, .int .i64 a0_6, .int .i64 a0_7, .int .i64 a0_8, .str a0_9], lv a1] =
  pcallS (call Ev) Fn.impl_Change_key [.agg [.bool a0_0, .int .i64 a0_1, .int .i64 a0_2, .int .i64 a0_3, .str a0_4, .bool a0_5, .int .i64 a0_6, .int .i64 a0_7, .int .i64 a0_8, .str a0_9]] fun v101 =>
  gVA v101 fun c102 =>
  (c102[0]?).bind fun x103 =>
  gI .i64 x103 fun i104 =>
  (c102[1]?).bind fun x105 =>
  gI .i64 x105 fun i106 =>
  (c102[2]?).bind fun x107 =>
  gI .i64 x107 fun i108 =>
  (c102[3]?).bind fun x109 =>
  gS x109 fun y110 =>
  if c102.length = 4 then
  pcallS (call Ev) Fn.slices_BinarySearchFunc_impl_Row_impl_Row_impl_Row [lv a1, .agg [.int .i64 i104, .int .i64 i106, .int .i64 i108, .str y110], .s (.fn Fn.impl_order [])] fun v111 =>
  gVT v111 fun u112 =>
  (u112[0]?).bind fun t113 =>
  gA1 t113 fun x114 =>
  gI .i64 x114 fun i115 =>
  (u112[1]?).bind fun t116 =>
  gA1 t116 fun x117 =>
  gB x117 fun q118 =>
  if u112.length = 2 then
  vcase (bv (q118 == a0_0))
  (vcase (bv (!q118))
  (some (bv true))
  (idxF 4 a1 i115 fun r122 =>
  (rowN 4 r122 0).bind fun c123 =>
  (c123[0]?).bind fun x124 =>
  gI .i64 x124 fun i125 =>
  (c123[1]?).bind fun x126 =>
  gI .i64 x126 fun i127 =>
  (c123[2]?).bind fun x128 =>
  gI .i64 x128 fun i129 =>
  (c123[3]?).bind fun x130 =>
  gS x130 fun y131 =>
  if c123.length = 4 then
  some (bv (((i125 : Int) == a0_1) && (((i127 : Int) == a0_2) && (((i129 : Int) == a0_3) && (((y131 : ByteArray).toList == (a0_4 : ByteArray).toList) && true)))))
  else none))
  (some (bv false))
  else none
  else none := by
  rw [pure_eq]; kernel_rfl

end Vm
