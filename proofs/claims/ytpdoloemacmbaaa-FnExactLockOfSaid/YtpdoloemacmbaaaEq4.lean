/-
  What each function, and each round of each loop, comes to in the small machine. Written by a program (gen3.py).
-/
import Derived.Test.YtpdoloemacmbaaaEnv
set_option linter.unusedVariables false
set_option maxRecDepth 100000
namespace Vm
open Go

theorem pu_spec_l9Fold (a0 : List (List S)) (a1_0 : Bool) (a1_1 : Int) (a1_2 : Int) (a1_3 : Int) (a1_4 : ByteArray) (a1_5 : Bool) (a1_6 : Int) (a1_7 : Int) (a1_8 : Int) (a1_9 : ByteArray) : pureV (call Ev) Fn.spec_l9Fold [lv a0, .agg [.bool a1_0, .int .i64 a1_1, .int .i64 a1_2, .int .i64 a1_3, .str a1_4, .bool a1_5, .int .i64 a1_6, .int .i64 a1_7, .int .i64 a1_8, .str a1_9]] =
  (Lp.spec_l9Fold 0 [lv a0, pv 0 0, sv 1 0 0, bv false, iv .i64 0] (((D 0).new 0 [.bool a1_0, .int .i64 a1_1, .int .i64 a1_2, .int .i64 a1_3, .str a1_4, .bool a1_5, .int .i64 a1_6, .int .i64 a1_7, .int .i64 a1_8, .str a1_9]).new 10 [])).bind fun o101 => lcase o101 (fun l102 h103 =>
  (l102[0]?).bind fun w106 =>
  (l102[1]?).bind fun w107 =>
  (l102[2]?).bind fun w108 =>
  gV1 w108 fun x109 =>
  gB x109 fun q110 =>
  vcase (bv (!q110))
  (ldK (.agg [.b, .i .i64, .i .i64, .i .i64, .s, .b, .i .i64, .i .i64, .i .i64, .s]) ⟨10, 96, [.bool false, .int .i64 0, .int .i64 0, .int .i64 0, .str ⟨#[]⟩, .bool false, .int .i64 0, .int .i64 0, .int .i64 0, .str ⟨#[]⟩], true, .st [(0, 4), (1, 39), (5, 4), (6, 39)], true⟩ h103 w106 fun v112 =>
  gVA v112 fun c113 =>
  (c113[0]?).bind fun x114 =>
  gB x114 fun q115 =>
  (c113[1]?).bind fun x116 =>
  gI .i64 x116 fun i117 =>
  (c113[2]?).bind fun x118 =>
  gI .i64 x118 fun i119 =>
  (c113[3]?).bind fun x120 =>
  gI .i64 x120 fun i121 =>
  (c113[4]?).bind fun x122 =>
  gS x122 fun y123 =>
  (c113[5]?).bind fun x124 =>
  gB x124 fun q125 =>
  (c113[6]?).bind fun x126 =>
  gI .i64 x126 fun i127 =>
  (c113[7]?).bind fun x128 =>
  gI .i64 x128 fun i129 =>
  (c113[8]?).bind fun x130 =>
  gI .i64 x130 fun i131 =>
  (c113[9]?).bind fun x132 =>
  gS x132 fun y133 =>
  if c113.length = 10 then
  (appS 10 (h103.new 10 [.bool q115, .int .i64 i117, .int .i64 i119, .int .i64 i121, .str y123, .bool q125, .int .i64 i127, .int .i64 i129, .int .i64 i131, .str y133]) w107 (sv h103.n 0 1)).bind fun p134 =>
  (V.toA p134.1).bind fun t135 =>
  frzV p134.2 (.tup [t135, .s (.bool true)])
  else none)
  ((V.toA w107).bind fun t136 =>
  frzV h103 (.tup [t136, .s (.bool true)]))) (fun v104 h105 =>
  frzV h105 v104) := by
  rw [pure_eq]; kernel_rfl

noncomputable def Jn.spec_l9Fold_l0_0 (q811 : Bool) (s0 : List (List S)) (s3 : V) (p690 : V × H) (s8 : Int) (h : H) (h779 : H) : Option (LOut) :=
  vcase (bv q811)
  (Lp.spec_l9Fold 0 [lv s0, s3, p690.1, bv true, iv .i64 (IntKind.i64.wrap (s8 + 1))] (tidy h [lv s0, s3, p690.1, bv true, iv .i64 (IntKind.i64.wrap (s8 + 1))] h779))
  ((loadN 10 h779 (pv h.n 0)).bind fun c813 =>
  (c813[0]?).bind fun x814 =>
  gB x814 fun q815 =>
  (c813[1]?).bind fun x816 =>
  gI .i64 x816 fun i817 =>
  (c813[2]?).bind fun x818 =>
  gI .i64 x818 fun i819 =>
  (c813[3]?).bind fun x820 =>
  gI .i64 x820 fun i821 =>
  (c813[4]?).bind fun x822 =>
  gS x822 fun y823 =>
  (c813[5]?).bind fun x824 =>
  gB x824 fun q825 =>
  (c813[6]?).bind fun x826 =>
  gI .i64 x826 fun i827 =>
  (c813[7]?).bind fun x828 =>
  gI .i64 x828 fun i829 =>
  (c813[8]?).bind fun x830 =>
  gI .i64 x830 fun i831 =>
  (c813[9]?).bind fun x832 =>
  gS x832 fun y833 =>
  if c813.length = 10 then
  (appS 10 (h779.new 10 [.bool q815, .int .i64 i817, .int .i64 i819, .int .i64 i821, .str y823, .bool q825, .int .i64 i827, .int .i64 i829, .int .i64 i831, .str y833]) p690.1 (sv h779.n 0 1)).bind fun p834 =>
  Lp.spec_l9Fold 0 [lv s0, s3, p834.1, bv true, iv .i64 (IntKind.i64.wrap (s8 + 1))] (tidy h [lv s0, s3, p834.1, bv true, iv .i64 (IntKind.i64.wrap (s8 + 1))] p834.2)
  else none)

noncomputable def Jn.spec_l9Fold_l0_1 (q761 : Bool) (p690 : V × H) (s3 : V) (h : H) (s0 : List (List S)) (s8 : Int) : Option (LOut) :=
  vcase (bv q761)
  (some (.ret (.tup [.s (.sl none 0), .s (.bool false)]) p690.2))
  ((padd 5 s3).bind fun v763 =>
  ldK (.one (.b)) ⟨1, 1, [.bool false], false, .bool, false⟩ p690.2 v763 fun v764 =>
  gV1 v764 fun x765 =>
  gB x765 fun q766 =>
  stK 1 p690.2 (pv h.n 5) (bv q766) fun h767 =>
  (padd 6 s3).bind fun v768 =>
  ldK (.agg [.i .i64, .i .i64, .i .i64, .s]) ⟨4, 40, [.int .i64 0, .int .i64 0, .int .i64 0, .str ⟨#[]⟩], true, .st [(0, 2), (1, 2), (2, 2), (3, 9)], true⟩ h767 v768 fun v769 =>
  gVA v769 fun c770 =>
  (c770[0]?).bind fun x771 =>
  gI .i64 x771 fun i772 =>
  (c770[1]?).bind fun x773 =>
  gI .i64 x773 fun i774 =>
  (c770[2]?).bind fun x775 =>
  gI .i64 x775 fun i776 =>
  (c770[3]?).bind fun x777 =>
  gS x777 fun y778 =>
  if c770.length = 4 then
  stK 4 h767 (pv h.n 6) (.agg [.int .i64 i772, .int .i64 i774, .int .i64 i776, .str y778]) fun h779 =>
  (load1 h779 (pv h.n 0)).bind fun x780 =>
  gB x780 fun q781 =>
  (load1 h779 (pv h.n 5)).bind fun x782 =>
  gB x782 fun q783 =>
  vcase (bv (q781 == q783))
  ((load1 h779 (pv h.n 0)).bind fun x785 =>
  gB x785 fun q786 =>
  vcase (bv (!q786))
  (Jn.spec_l9Fold_l0_0 true s0 s3 p690 s8 h h779)
  ((loadN 4 h779 (pv h.n 1)).bind fun c789 =>
  (c789[0]?).bind fun x790 =>
  gI .i64 x790 fun i791 =>
  (c789[1]?).bind fun x792 =>
  gI .i64 x792 fun i793 =>
  (c789[2]?).bind fun x794 =>
  gI .i64 x794 fun i795 =>
  (c789[3]?).bind fun x796 =>
  gS x796 fun y797 =>
  if c789.length = 4 then
  (loadN 4 h779 (pv h.n 6)).bind fun c798 =>
  (c798[0]?).bind fun x799 =>
  gI .i64 x799 fun i800 =>
  (c798[1]?).bind fun x801 =>
  gI .i64 x801 fun i802 =>
  (c798[2]?).bind fun x803 =>
  gI .i64 x803 fun i804 =>
  (c798[3]?).bind fun x805 =>
  gS x805 fun y806 =>
  if c798.length = 4 then
  Jn.spec_l9Fold_l0_0 (((i791 : Int) == i800) && (((i793 : Int) == i802) && (((i795 : Int) == i804) && (((y797 : ByteArray).toList == (y806 : ByteArray).toList) && true)))) s0 s3 p690 s8 h h779
  else none
  else none))
  (Jn.spec_l9Fold_l0_0 false s0 s3 p690 s8 h h779)
  else none)

noncomputable def Jn.spec_l9Fold_l0_2 (q702 : Bool) (p690 : V × H) (h : H) (s0 : List (List S)) (s3 : V) (s8 : Int) : Option (LOut) :=
  vcase (bv q702)
  ((loadN 10 p690.2 (pv h.n 0)).bind fun c704 =>
  (c704[0]?).bind fun x705 =>
  gB x705 fun q706 =>
  (c704[1]?).bind fun x707 =>
  gI .i64 x707 fun i708 =>
  (c704[2]?).bind fun x709 =>
  gI .i64 x709 fun i710 =>
  (c704[3]?).bind fun x711 =>
  gI .i64 x711 fun i712 =>
  (c704[4]?).bind fun x713 =>
  gS x713 fun y714 =>
  (c704[5]?).bind fun x715 =>
  gB x715 fun q716 =>
  (c704[6]?).bind fun x717 =>
  gI .i64 x717 fun i718 =>
  (c704[7]?).bind fun x719 =>
  gI .i64 x719 fun i720 =>
  (c704[8]?).bind fun x721 =>
  gI .i64 x721 fun i722 =>
  (c704[9]?).bind fun x723 =>
  gS x723 fun y724 =>
  if c704.length = 10 then
  (appS 10 (p690.2.new 10 [.bool q706, .int .i64 i708, .int .i64 i710, .int .i64 i712, .str y714, .bool q716, .int .i64 i718, .int .i64 i720, .int .i64 i722, .str y724]) p690.1 (sv p690.2.n 0 1)).bind fun p725 =>
  Lp.spec_l9Fold 0 [lv s0, s3, p725.1, bv true, iv .i64 (IntKind.i64.wrap (s8 + 1))] (tidy h [lv s0, s3, p725.1, bv true, iv .i64 (IntKind.i64.wrap (s8 + 1))] p725.2)
  else none)
  ((load1 p690.2 (pv h.n 5)).bind fun x726 =>
  gB x726 fun q727 =>
  (padd 0 s3).bind fun v728 =>
  ldK (.one (.b)) ⟨1, 1, [.bool false], false, .bool, false⟩ p690.2 v728 fun v729 =>
  gV1 v729 fun x730 =>
  gB x730 fun q731 =>
  vcase (bv (!(q727 == q731)))
  (Jn.spec_l9Fold_l0_1 true p690 s3 h s0 s8)
  ((load1 p690.2 (pv h.n 5)).bind fun x734 =>
  gB x734 fun q735 =>
  vcase (bv q735)
  ((loadN 4 p690.2 (pv h.n 6)).bind fun c737 =>
  (c737[0]?).bind fun x738 =>
  gI .i64 x738 fun i739 =>
  (c737[1]?).bind fun x740 =>
  gI .i64 x740 fun i741 =>
  (c737[2]?).bind fun x742 =>
  gI .i64 x742 fun i743 =>
  (c737[3]?).bind fun x744 =>
  gS x744 fun y745 =>
  if c737.length = 4 then
  (padd 1 s3).bind fun v746 =>
  ldK (.agg [.i .i64, .i .i64, .i .i64, .s]) ⟨4, 40, [.int .i64 0, .int .i64 0, .int .i64 0, .str ⟨#[]⟩], true, .st [(0, 2), (1, 2), (2, 2), (3, 9)], true⟩ p690.2 v746 fun v747 =>
  gVA v747 fun c748 =>
  (c748[0]?).bind fun x749 =>
  gI .i64 x749 fun i750 =>
  (c748[1]?).bind fun x751 =>
  gI .i64 x751 fun i752 =>
  (c748[2]?).bind fun x753 =>
  gI .i64 x753 fun i754 =>
  (c748[3]?).bind fun x755 =>
  gS x755 fun y756 =>
  if c748.length = 4 then
  Jn.spec_l9Fold_l0_1 (!(((i739 : Int) == i750) && (((i741 : Int) == i752) && (((i743 : Int) == i754) && (((y745 : ByteArray).toList == (y756 : ByteArray).toList) && true))))) p690 s3 h s0 s8
  else none
  else none)
  (Jn.spec_l9Fold_l0_1 false p690 s3 h s0 s8)))

noncomputable def Jn.spec_l9Fold_l0_3 (q955 : Bool) (s0 : List (List S)) (s3 : V) (s6 : V) (s8 : Int) (h : H) (h923 : H) : Option (LOut) :=
  vcase (bv q955)
  (Lp.spec_l9Fold 0 [lv s0, s3, s6, bv true, iv .i64 (IntKind.i64.wrap (s8 + 1))] (tidy h [lv s0, s3, s6, bv true, iv .i64 (IntKind.i64.wrap (s8 + 1))] h923))
  ((loadN 10 h923 (pv h.n 0)).bind fun c957 =>
  (c957[0]?).bind fun x958 =>
  gB x958 fun q959 =>
  (c957[1]?).bind fun x960 =>
  gI .i64 x960 fun i961 =>
  (c957[2]?).bind fun x962 =>
  gI .i64 x962 fun i963 =>
  (c957[3]?).bind fun x964 =>
  gI .i64 x964 fun i965 =>
  (c957[4]?).bind fun x966 =>
  gS x966 fun y967 =>
  (c957[5]?).bind fun x968 =>
  gB x968 fun q969 =>
  (c957[6]?).bind fun x970 =>
  gI .i64 x970 fun i971 =>
  (c957[7]?).bind fun x972 =>
  gI .i64 x972 fun i973 =>
  (c957[8]?).bind fun x974 =>
  gI .i64 x974 fun i975 =>
  (c957[9]?).bind fun x976 =>
  gS x976 fun y977 =>
  if c957.length = 10 then
  (appS 10 (h923.new 10 [.bool q959, .int .i64 i961, .int .i64 i963, .int .i64 i965, .str y967, .bool q969, .int .i64 i971, .int .i64 i973, .int .i64 i975, .str y977]) s6 (sv h923.n 0 1)).bind fun p978 =>
  Lp.spec_l9Fold 0 [lv s0, s3, p978.1, bv true, iv .i64 (IntKind.i64.wrap (s8 + 1))] (tidy h [lv s0, s3, p978.1, bv true, iv .i64 (IntKind.i64.wrap (s8 + 1))] p978.2)
  else none)

noncomputable def Jn.spec_l9Fold_l0_4 (q905 : Bool) (h225 : H) (s3 : V) (h : H) (s0 : List (List S)) (s6 : V) (s8 : Int) : Option (LOut) :=
  vcase (bv q905)
  (some (.ret (.tup [.s (.sl none 0), .s (.bool false)]) h225))
  ((padd 5 s3).bind fun v907 =>
  ldK (.one (.b)) ⟨1, 1, [.bool false], false, .bool, false⟩ h225 v907 fun v908 =>
  gV1 v908 fun x909 =>
  gB x909 fun q910 =>
  stK 1 h225 (pv h.n 5) (bv q910) fun h911 =>
  (padd 6 s3).bind fun v912 =>
  ldK (.agg [.i .i64, .i .i64, .i .i64, .s]) ⟨4, 40, [.int .i64 0, .int .i64 0, .int .i64 0, .str ⟨#[]⟩], true, .st [(0, 2), (1, 2), (2, 2), (3, 9)], true⟩ h911 v912 fun v913 =>
  gVA v913 fun c914 =>
  (c914[0]?).bind fun x915 =>
  gI .i64 x915 fun i916 =>
  (c914[1]?).bind fun x917 =>
  gI .i64 x917 fun i918 =>
  (c914[2]?).bind fun x919 =>
  gI .i64 x919 fun i920 =>
  (c914[3]?).bind fun x921 =>
  gS x921 fun y922 =>
  if c914.length = 4 then
  stK 4 h911 (pv h.n 6) (.agg [.int .i64 i916, .int .i64 i918, .int .i64 i920, .str y922]) fun h923 =>
  (load1 h923 (pv h.n 0)).bind fun x924 =>
  gB x924 fun q925 =>
  (load1 h923 (pv h.n 5)).bind fun x926 =>
  gB x926 fun q927 =>
  vcase (bv (q925 == q927))
  ((load1 h923 (pv h.n 0)).bind fun x929 =>
  gB x929 fun q930 =>
  vcase (bv (!q930))
  (Jn.spec_l9Fold_l0_3 true s0 s3 s6 s8 h h923)
  ((loadN 4 h923 (pv h.n 1)).bind fun c933 =>
  (c933[0]?).bind fun x934 =>
  gI .i64 x934 fun i935 =>
  (c933[1]?).bind fun x936 =>
  gI .i64 x936 fun i937 =>
  (c933[2]?).bind fun x938 =>
  gI .i64 x938 fun i939 =>
  (c933[3]?).bind fun x940 =>
  gS x940 fun y941 =>
  if c933.length = 4 then
  (loadN 4 h923 (pv h.n 6)).bind fun c942 =>
  (c942[0]?).bind fun x943 =>
  gI .i64 x943 fun i944 =>
  (c942[1]?).bind fun x945 =>
  gI .i64 x945 fun i946 =>
  (c942[2]?).bind fun x947 =>
  gI .i64 x947 fun i948 =>
  (c942[3]?).bind fun x949 =>
  gS x949 fun y950 =>
  if c942.length = 4 then
  Jn.spec_l9Fold_l0_3 (((i935 : Int) == i944) && (((i937 : Int) == i946) && (((i939 : Int) == i948) && (((y941 : ByteArray).toList == (y950 : ByteArray).toList) && true)))) s0 s3 s6 s8 h h923
  else none
  else none))
  (Jn.spec_l9Fold_l0_3 false s0 s3 s6 s8 h h923)
  else none)

noncomputable def Jn.spec_l9Fold_l0_5 (q846 : Bool) (h225 : H) (h : H) (s6 : V) (s0 : List (List S)) (s3 : V) (s7 : Bool) (s8 : Int) : Option (LOut) :=
  vcase (bv q846)
  ((loadN 10 h225 (pv h.n 0)).bind fun c848 =>
  (c848[0]?).bind fun x849 =>
  gB x849 fun q850 =>
  (c848[1]?).bind fun x851 =>
  gI .i64 x851 fun i852 =>
  (c848[2]?).bind fun x853 =>
  gI .i64 x853 fun i854 =>
  (c848[3]?).bind fun x855 =>
  gI .i64 x855 fun i856 =>
  (c848[4]?).bind fun x857 =>
  gS x857 fun y858 =>
  (c848[5]?).bind fun x859 =>
  gB x859 fun q860 =>
  (c848[6]?).bind fun x861 =>
  gI .i64 x861 fun i862 =>
  (c848[7]?).bind fun x863 =>
  gI .i64 x863 fun i864 =>
  (c848[8]?).bind fun x865 =>
  gI .i64 x865 fun i866 =>
  (c848[9]?).bind fun x867 =>
  gS x867 fun y868 =>
  if c848.length = 10 then
  (appS 10 (h225.new 10 [.bool q850, .int .i64 i852, .int .i64 i854, .int .i64 i856, .str y858, .bool q860, .int .i64 i862, .int .i64 i864, .int .i64 i866, .str y868]) s6 (sv h225.n 0 1)).bind fun p869 =>
  Lp.spec_l9Fold 0 [lv s0, s3, p869.1, bv s7, iv .i64 (IntKind.i64.wrap (s8 + 1))] (tidy h [lv s0, s3, p869.1, bv s7, iv .i64 (IntKind.i64.wrap (s8 + 1))] p869.2)
  else none)
  ((load1 h225 (pv h.n 5)).bind fun x870 =>
  gB x870 fun q871 =>
  (padd 0 s3).bind fun v872 =>
  ldK (.one (.b)) ⟨1, 1, [.bool false], false, .bool, false⟩ h225 v872 fun v873 =>
  gV1 v873 fun x874 =>
  gB x874 fun q875 =>
  vcase (bv (!(q871 == q875)))
  (Jn.spec_l9Fold_l0_4 true h225 s3 h s0 s6 s8)
  ((load1 h225 (pv h.n 5)).bind fun x878 =>
  gB x878 fun q879 =>
  vcase (bv q879)
  ((loadN 4 h225 (pv h.n 6)).bind fun c881 =>
  (c881[0]?).bind fun x882 =>
  gI .i64 x882 fun i883 =>
  (c881[1]?).bind fun x884 =>
  gI .i64 x884 fun i885 =>
  (c881[2]?).bind fun x886 =>
  gI .i64 x886 fun i887 =>
  (c881[3]?).bind fun x888 =>
  gS x888 fun y889 =>
  if c881.length = 4 then
  (padd 1 s3).bind fun v890 =>
  ldK (.agg [.i .i64, .i .i64, .i .i64, .s]) ⟨4, 40, [.int .i64 0, .int .i64 0, .int .i64 0, .str ⟨#[]⟩], true, .st [(0, 2), (1, 2), (2, 2), (3, 9)], true⟩ h225 v890 fun v891 =>
  gVA v891 fun c892 =>
  (c892[0]?).bind fun x893 =>
  gI .i64 x893 fun i894 =>
  (c892[1]?).bind fun x895 =>
  gI .i64 x895 fun i896 =>
  (c892[2]?).bind fun x897 =>
  gI .i64 x897 fun i898 =>
  (c892[3]?).bind fun x899 =>
  gS x899 fun y900 =>
  if c892.length = 4 then
  Jn.spec_l9Fold_l0_4 (!(((i883 : Int) == i894) && (((i885 : Int) == i896) && (((i887 : Int) == i898) && (((y889 : ByteArray).toList == (y900 : ByteArray).toList) && true))))) h225 s3 h s0 s6 s8
  else none
  else none)
  (Jn.spec_l9Fold_l0_4 false h225 s3 h s0 s6 s8)))

noncomputable def Jn.spec_l9Fold_l0_6 (q666 : Bool) (h225 : H) (s3 : V) (s6 : V) (h : H) (s0 : List (List S)) (s8 : Int) (s7 : Bool) : Option (LOut) :=
  vcase (bv q666)
  (ldK (.agg [.b, .i .i64, .i .i64, .i .i64, .s, .b, .i .i64, .i .i64, .i .i64, .s]) ⟨10, 96, [.bool false, .int .i64 0, .int .i64 0, .int .i64 0, .str ⟨#[]⟩, .bool false, .int .i64 0, .int .i64 0, .int .i64 0, .str ⟨#[]⟩], true, .st [(0, 4), (1, 39), (5, 4), (6, 39)], true⟩ h225 s3 fun v668 =>
  gVA v668 fun c669 =>
  (c669[0]?).bind fun x670 =>
  gB x670 fun q671 =>
  (c669[1]?).bind fun x672 =>
  gI .i64 x672 fun i673 =>
  (c669[2]?).bind fun x674 =>
  gI .i64 x674 fun i675 =>
  (c669[3]?).bind fun x676 =>
  gI .i64 x676 fun i677 =>
  (c669[4]?).bind fun x678 =>
  gS x678 fun y679 =>
  (c669[5]?).bind fun x680 =>
  gB x680 fun q681 =>
  (c669[6]?).bind fun x682 =>
  gI .i64 x682 fun i683 =>
  (c669[7]?).bind fun x684 =>
  gI .i64 x684 fun i685 =>
  (c669[8]?).bind fun x686 =>
  gI .i64 x686 fun i687 =>
  (c669[9]?).bind fun x688 =>
  gS x688 fun y689 =>
  if c669.length = 10 then
  (appS 10 (h225.new 10 [.bool q671, .int .i64 i673, .int .i64 i675, .int .i64 i677, .str y679, .bool q681, .int .i64 i683, .int .i64 i685, .int .i64 i687, .str y689]) s6 (sv h225.n 0 1)).bind fun p690 =>
  (frzVs p690.2 [pv h.n 0, s3]).bind fun l691 =>
  pcallS (call Ev) Fn.spec_l9Ahead (normVs [10, 10] l691) fun v692 =>
  gV1 v692 fun x693 =>
  gB x693 fun q694 =>
  vcase (bv q694)
  (Jn.spec_l9Fold_l0_2 true p690 h s0 s3 s8)
  ((frzVs p690.2 [s3, pv h.n 0]).bind fun l697 =>
  pcallS (call Ev) Fn.spec_l9Ahead (normVs [10, 10] l697) fun v698 =>
  gV1 v698 fun x699 =>
  gB x699 fun q700 =>
  Jn.spec_l9Fold_l0_2 q700 p690 h s0 s3 s8)
  else none)
  ((frzVs h225 [pv h.n 0, s3]).bind fun l835 =>
  pcallS (call Ev) Fn.spec_l9Ahead (normVs [10, 10] l835) fun v836 =>
  gV1 v836 fun x837 =>
  gB x837 fun q838 =>
  vcase (bv q838)
  (Jn.spec_l9Fold_l0_5 true h225 h s6 s0 s3 s7 s8)
  ((frzVs h225 [s3, pv h.n 0]).bind fun l841 =>
  pcallS (call Ev) Fn.spec_l9Ahead (normVs [10, 10] l841) fun v842 =>
  gV1 v842 fun x843 =>
  gB x843 fun q844 =>
  Jn.spec_l9Fold_l0_5 q844 h225 h s6 s0 s3 s7 s8))

theorem eq_spec_l9Fold_l0 (s0 : List (List S)) (s3 : V) (s6 : V) (s7 : Bool) (s8 : Int) (h : H) : Lp.spec_l9Fold 0 [lv s0, s3, s6, bv s7, iv .i64 s8] h =
  vcase (bv (decide (s8 < (s0.length : Int))))
  (idxF 10 s0 s8 fun r203 =>
  (rowN 10 r203 0).bind fun c204 =>
  (c204[0]?).bind fun x205 =>
  gB x205 fun q206 =>
  (c204[1]?).bind fun x207 =>
  gI .i64 x207 fun i208 =>
  (c204[2]?).bind fun x209 =>
  gI .i64 x209 fun i210 =>
  (c204[3]?).bind fun x211 =>
  gI .i64 x211 fun i212 =>
  (c204[4]?).bind fun x213 =>
  gS x213 fun y214 =>
  (c204[5]?).bind fun x215 =>
  gB x215 fun q216 =>
  (c204[6]?).bind fun x217 =>
  gI .i64 x217 fun i218 =>
  (c204[7]?).bind fun x219 =>
  gI .i64 x219 fun i220 =>
  (c204[8]?).bind fun x221 =>
  gI .i64 x221 fun i222 =>
  (c204[9]?).bind fun x223 =>
  gS x223 fun y224 =>
  if c204.length = 10 then
  stK 10 (h.new 0 [.bool false, .int .i64 0, .int .i64 0, .int .i64 0, .str (⟨#[]⟩), .bool false, .int .i64 0, .int .i64 0, .int .i64 0, .str (⟨#[]⟩)]) (pv h.n 0) (.agg [.bool q206, .int .i64 i208, .int .i64 i210, .int .i64 i212, .str y214, .bool q216, .int .i64 i218, .int .i64 i220, .int .i64 i222, .str y224]) fun h225 =>
  vcase (bv (!s7))
  ((frzVs h225 [s3, pv h.n 0]).bind fun l227 =>
  pcallS (call Ev) Fn.spec_l9Ahead (normVs [10, 10] l227) fun v228 =>
  gV1 v228 fun x229 =>
  gB x229 fun q230 =>
  Jn.spec_l9Fold_l0_6 q230 h225 s3 s6 h s0 s8 s7)
  (Jn.spec_l9Fold_l0_6 false h225 s3 s6 h s0 s8 s7)
  else none)
  (some (.done [s3, s6, bv s7] (tidy h [s3, s6, bv s7] h))) := by
  unfold Lp.spec_l9Fold; rw [loop_eq]; kernel_rfl

theorem pu_spec_FoldChange (a0 : List (List S)) (a1_0 : Bool) (a1_1 : Int) (a1_2 : Int) (a1_3 : Int) (a1_4 : ByteArray) (a1_5 : Bool) (a1_6 : Int) (a1_7 : Int) (a1_8 : Int) (a1_9 : ByteArray) : pureV (call Ev) Fn.spec_FoldChange [lv a0, .agg [.bool a1_0, .int .i64 a1_1, .int .i64 a1_2, .int .i64 a1_3, .str a1_4, .bool a1_5, .int .i64 a1_6, .int .i64 a1_7, .int .i64 a1_8, .str a1_9]] =
  pcallS (call Ev) Fn.spec_l9List [lv a0] fun v101 =>
  gV1 v101 fun x102 =>
  gI .i64 x102 fun i103 =>
  vcase (bv (i103 != 0))
  (some (.agg [.int .i64 i103, .fs []]))
  (pcallS (call Ev) Fn.spec_l9Change [fv [.bool a1_0, .int .i64 a1_1, .int .i64 a1_2, .int .i64 a1_3, .str a1_4, .bool a1_5, .int .i64 a1_6, .int .i64 a1_7, .int .i64 a1_8, .str a1_9] 0] fun v105 =>
  gV1 v105 fun x106 =>
  gI .i64 x106 fun i107 =>
  vcase (bv (i107 != 0))
  (some (.agg [.int .i64 i107, .fs []]))
  ((pureV (call Ev) Fn.spec_l9Fold [lv a0, .agg [.bool a1_0, .int .i64 a1_1, .int .i64 a1_2, .int .i64 a1_3, .str a1_4, .bool a1_5, .int .i64 a1_6, .int .i64 a1_7, .int .i64 a1_8, .str a1_9]]).bind fun v109 =>
  gVT v109 fun u110 =>
  (u110[0]?).bind fun t111 =>
  gA1 t111 fun x112 =>
  gF x112 fun z113 =>
  (u110[1]?).bind fun t114 =>
  gA1 t114 fun x115 =>
  gB x115 fun q116 =>
  if u110.length = 2 then
  vcase (bv (!q116))
  (some (.agg [.int .i64 8, .fs []]))
  (some (.agg [.int .i64 0, .fs z113]))
  else none)) := by
  rw [pure_eq]; kernel_rfl

theorem pu_laws_lwChanges (a0 : List (List S)) (a1 : List (List S)) : pureV (call Ev) Fn.laws_lwChanges [lv a0, lv a1] =
  vcase (bv ((a0.length : Int) != (a1.length : Int)))
  (some (bv false))
  ((Lp.laws_lwChanges 0 [lv a0, lv a1, iv .i64 0] (D 0)).bind fun o102 => lcase o102 (fun l103 h104 =>
  some (bv true)) (fun v105 h106 =>
  frzV h106 v105)) := by
  rw [pure_eq]; kernel_rfl

theorem eq_laws_lwChanges_l0 (s0 : List (List S)) (s1 : List (List S)) (s5 : Int) (h : H) : Lp.laws_lwChanges 0 [lv s0, lv s1, iv .i64 s5] h =
  vcase (bv (decide (s5 < (s0.length : Int))))
  (idxF 10 s0 s5 fun r203 =>
  (rowN 10 r203 0).bind fun c204 =>
  (c204[0]?).bind fun x205 =>
  gB x205 fun q206 =>
  (c204[1]?).bind fun x207 =>
  gI .i64 x207 fun i208 =>
  (c204[2]?).bind fun x209 =>
  gI .i64 x209 fun i210 =>
  (c204[3]?).bind fun x211 =>
  gI .i64 x211 fun i212 =>
  (c204[4]?).bind fun x213 =>
  gS x213 fun y214 =>
  (c204[5]?).bind fun x215 =>
  gB x215 fun q216 =>
  (c204[6]?).bind fun x217 =>
  gI .i64 x217 fun i218 =>
  (c204[7]?).bind fun x219 =>
  gI .i64 x219 fun i220 =>
  (c204[8]?).bind fun x221 =>
  gI .i64 x221 fun i222 =>
  (c204[9]?).bind fun x223 =>
  gS x223 fun y224 =>
  if c204.length = 10 then
  idxF 10 s1 s5 fun r225 =>
  (rowN 10 r225 0).bind fun c226 =>
  (c226[0]?).bind fun x227 =>
  gB x227 fun q228 =>
  (c226[1]?).bind fun x229 =>
  gI .i64 x229 fun i230 =>
  (c226[2]?).bind fun x231 =>
  gI .i64 x231 fun i232 =>
  (c226[3]?).bind fun x233 =>
  gI .i64 x233 fun i234 =>
  (c226[4]?).bind fun x235 =>
  gS x235 fun y236 =>
  (c226[5]?).bind fun x237 =>
  gB x237 fun q238 =>
  (c226[6]?).bind fun x239 =>
  gI .i64 x239 fun i240 =>
  (c226[7]?).bind fun x241 =>
  gI .i64 x241 fun i242 =>
  (c226[8]?).bind fun x243 =>
  gI .i64 x243 fun i244 =>
  (c226[9]?).bind fun x245 =>
  gS x245 fun y246 =>
  if c226.length = 10 then
  vcase (bv (!((q206 == q228) && ((((i208 : Int) == i230) && (((i210 : Int) == i232) && (((i212 : Int) == i234) && (((y214 : ByteArray).toList == (y236 : ByteArray).toList) && true)))) && ((q216 == q238) && ((((i218 : Int) == i240) && (((i220 : Int) == i242) && (((i222 : Int) == i244) && (((y224 : ByteArray).toList == (y246 : ByteArray).toList) && true)))) && true))))))
  (some (.ret (bv false) h))
  (Lp.laws_lwChanges 0 [lv s0, lv s1, iv .i64 (IntKind.i64.wrap (s5 + 1))] (tidy h [lv s0, lv s1, iv .i64 (IntKind.i64.wrap (s5 + 1))] h))
  else none
  else none)
  (some (.done [] (tidy h [] h))) := by
  unfold Lp.laws_lwChanges; rw [loop_eq]; kernel_rfl

theorem pu_laws_szByteS (a0 : List (List S)) (a1 : Int) : pureV (call Ev) Fn.laws_szByteS [lv a0, iv .i64 a1] =
  vcase (bv (decide ((IntKind.i64.wrap (a1 - (a0.length : Int))) < 0)))
  (some (iv .i64 (-1)))
  (some (iv .i64 (IntKind.i64.wrap (a1 - (a0.length : Int))))) := by
  rw [pure_eq]; kernel_rfl

theorem pu_laws_szByteSS (a0 : List (List S)) (a1 : Int) : pureV (call Ev) Fn.laws_szByteSS [lv a0, iv .i64 a1] =
  vcase (bv (decide ((IntKind.i64.wrap (a1 - (a0.length : Int))) < 0)))
  (some (iv .i64 (-1)))
  ((Lp.laws_szByteSS 0 [lv a0, iv .i64 (IntKind.i64.wrap (a1 - (a0.length : Int))), iv .i64 0] (D 0)).bind fun o102 => lcase o102 (fun l103 h104 =>
  (l103[0]?).bind fun w107 =>
  gV1 w107 fun x108 =>
  gI .i64 x108 fun i109 =>
  some (iv .i64 i109)) (fun v105 h106 =>
  frzV h106 v105)) := by
  rw [pure_eq]; kernel_rfl

theorem eq_laws_szByteSS_l0 (s0 : List (List S)) (s1 : Int) (s5 : Int) (h : H) : Lp.laws_szByteSS 0 [lv s0, iv .i64 s1, iv .i64 s5] h =
  vcase (bv (decide (s5 < (s0.length : Int))))
  (idxF 1 s0 s5 fun r203 =>
  (r203[0]?).bind fun x204 =>
  gF x204 fun z205 =>
  pcallS (call Ev) Fn.laws_szByteS [lv z205, iv .i64 s1] fun v206 =>
  gV1 v206 fun x207 =>
  gI .i64 x207 fun i208 =>
  vcase (bv (decide (i208 < 0)))
  (some (.ret (iv .i64 (-1)) h))
  (Lp.laws_szByteSS 0 [lv s0, iv .i64 i208, iv .i64 (IntKind.i64.wrap (s5 + 1))] (tidy h [lv s0, iv .i64 i208, iv .i64 (IntKind.i64.wrap (s5 + 1))] h)))
  (some (.done [iv .i64 s1] (tidy h [iv .i64 s1] h))) := by
  unfold Lp.laws_szByteSS; rw [loop_eq]; kernel_rfl

theorem pu_laws_szRun (a0_0 : Int) (a0_1 : List (List S)) (a1 : Int) : pureV (call Ev) Fn.laws_szRun [.agg [.int .i64 a0_0, .fs a0_1], iv .i64 a1] =
  pcallS (call Ev) Fn.laws_szByteS [lv a0_1, iv .i64 a1] fun v101 =>
  gV1 v101 fun x102 =>
  gI .i64 x102 fun i103 =>
  vcase (bv (decide (i103 < 0)))
  (some (iv .i64 (-1)))
  (some (iv .i64 i103)) := by
  rw [pure_eq]; kernel_rfl

theorem pu_laws_szRunS (a0 : List (List S)) (a1 : Int) : pureV (call Ev) Fn.laws_szRunS [lv a0, iv .i64 a1] =
  vcase (bv (decide ((IntKind.i64.wrap (a1 - (a0.length : Int))) < 0)))
  (some (iv .i64 (-1)))
  ((Lp.laws_szRunS 0 [lv a0, iv .i64 (IntKind.i64.wrap (a1 - (a0.length : Int))), iv .i64 0] (D 0)).bind fun o102 => lcase o102 (fun l103 h104 =>
  (l103[0]?).bind fun w107 =>
  gV1 w107 fun x108 =>
  gI .i64 x108 fun i109 =>
  some (iv .i64 i109)) (fun v105 h106 =>
  frzV h106 v105)) := by
  rw [pure_eq]; kernel_rfl

theorem eq_laws_szRunS_l0 (s0 : List (List S)) (s1 : Int) (s5 : Int) (h : H) : Lp.laws_szRunS 0 [lv s0, iv .i64 s1, iv .i64 s5] h =
  vcase (bv (decide (s5 < (s0.length : Int))))
  (idxF 2 s0 s5 fun r203 =>
  (rowN 2 r203 0).bind fun c204 =>
  (c204[0]?).bind fun x205 =>
  gI .i64 x205 fun i206 =>
  (c204[1]?).bind fun x207 =>
  gF x207 fun z208 =>
  if c204.length = 2 then
  pcallS (call Ev) Fn.laws_szRun [.agg [.int .i64 i206, .fs z208], iv .i64 s1] fun v209 =>
  gV1 v209 fun x210 =>
  gI .i64 x210 fun i211 =>
  vcase (bv (decide (i211 < 0)))
  (some (.ret (iv .i64 (-1)) h))
  (Lp.laws_szRunS 0 [lv s0, iv .i64 i211, iv .i64 (IntKind.i64.wrap (s5 + 1))] (tidy h [lv s0, iv .i64 i211, iv .i64 (IntKind.i64.wrap (s5 + 1))] h))
  else none)
  (some (.done [iv .i64 s1] (tidy h [iv .i64 s1] h))) := by
  unfold Lp.laws_szRunS; rw [loop_eq]; kernel_rfl

theorem pu_laws_szRecord (a0_0 : Int) (a0_1 : Int) (a0_2 : Int) (a0_3 : List (List S)) (a1 : Int) : pureV (call Ev) Fn.laws_szRecord [.agg [.int .i64 a0_0, .int .i64 a0_1, .int .i64 a0_2, .fs a0_3], iv .i64 a1] =
  pcallS (call Ev) Fn.laws_szRunS [lv a0_3, iv .i64 a1] fun v101 =>
  gV1 v101 fun x102 =>
  gI .i64 x102 fun i103 =>
  vcase (bv (decide (i103 < 0)))
  (some (iv .i64 (-1)))
  (some (iv .i64 i103)) := by
  rw [pure_eq]; kernel_rfl

theorem pu_spec_l7Bad (a0 : Int) : pureV (call Ev) Fn.spec_l7Bad [iv .i64 a0] =
  some (.agg [.int .i64 a0, .fs [], .fs []]) := by
  rw [pure_eq]; kernel_rfl

theorem pu_spec_l4Runs (a0 : Int) : pureV (call Ev) Fn.spec_l4Runs [iv .i64 a0] =
  pcallS (call Ev) Fn.spec_l1In [iv .i64 a0, iv .i64 2, iv .i64 4] fun v101 =>
  gV1 v101 fun x102 =>
  gB x102 fun q103 =>
  some (bv q103) := by
  rw [pure_eq]; kernel_rfl

theorem pu_spec_l3Fault (a0 : List (List S)) : pureV (call Ev) Fn.spec_l3Fault [lv a0] =
  vcase (bv (decide ((a0.length : Int) > 64)))
  (some (iv .i64 2))
  ((Lp.spec_l3Fault 0 [lv a0, iv .i64 0] (D 0)).bind fun o102 => lcase o102 (fun l103 h104 =>
  some (iv .i64 0)) (fun v105 h106 =>
  frzV h106 v105)) := by
  rw [pure_eq]; kernel_rfl

theorem eq_spec_l3Fault_l0 (s0 : List (List S)) (s3 : Int) (h : H) : Lp.spec_l3Fault 0 [lv s0, iv .i64 s3] h =
  vcase (bv (decide (s3 < (s0.length : Int))))
  (idxF 2 s0 s3 fun r203 =>
  (r203[1]?).bind fun x204 =>
  gF x204 fun z205 =>
  idxF 2 s0 s3 fun r206 =>
  (r206[0]?).bind fun x207 =>
  gI .i64 x207 fun i208 =>
  pcallS (call Ev) Fn.spec_l1In [iv .i64 i208, iv .i64 0, iv .i64 63] fun v209 =>
  gV1 v209 fun x210 =>
  gB x210 fun q211 =>
  vcase (bv (!q211))
  (some (.ret (iv .i64 3) h))
  (pcallS (call Ev) Fn.spec_l1In [iv .i64 (z205.length : Int), iv .i64 1, iv .i64 64] fun v214 =>
  gV1 v214 fun x215 =>
  gB x215 fun q216 =>
  vcase (bv (!q216))
  (some (.ret (iv .i64 3) h))
  (idxF 2 s0 s3 fun r222 =>
  (r222[0]?).bind fun x223 =>
  gI .i64 x223 fun i224 =>
  vcase (bv (decide ((IntKind.i64.wrap (i224 + (z205.length : Int))) > 64)))
  (some (.ret (iv .i64 3) h))
  (vcase (bv (decide (s3 > 0)))
  (idxF 2 s0 s3 fun r229 =>
  (r229[0]?).bind fun x230 =>
  gI .i64 x230 fun i231 =>
  idxF 2 s0 (IntKind.i64.wrap (s3 - 1)) fun r232 =>
  (r232[0]?).bind fun x233 =>
  gI .i64 x233 fun i234 =>
  idxF 2 s0 (IntKind.i64.wrap (s3 - 1)) fun r235 =>
  (r235[1]?).bind fun x236 =>
  gF x236 fun z237 =>
  vcase (bv (decide (i231 ≤ (IntKind.i64.wrap (i234 + (z237.length : Int))))))
  (some (.ret (iv .i64 1) h))
  (Lp.spec_l3Fault 0 [lv s0, iv .i64 (IntKind.i64.wrap (s3 + 1))] (tidy h [lv s0, iv .i64 (IntKind.i64.wrap (s3 + 1))] h)))
  (Lp.spec_l3Fault 0 [lv s0, iv .i64 (IntKind.i64.wrap (s3 + 1))] (tidy h [lv s0, iv .i64 (IntKind.i64.wrap (s3 + 1))] h))))))
  (some (.done [] (tidy h [] h))) := by
  unfold Lp.spec_l3Fault; rw [loop_eq]; kernel_rfl

noncomputable def Jn.spec_l4Fault_0 (q167 : Bool) (a0_2 : Int) (a0_0 : Int) (a0_3 : List (List S)) : Option (V) :=
  vcase (bv q167)
  (some (iv .i64 3))
  (pcallS (call Ev) Fn.spec_l1In [iv .i64 a0_2, iv .i64 0, iv .i64 11] fun v170 =>
  gV1 v170 fun x171 =>
  gB x171 fun q172 =>
  vcase (bv (!q172))
  (some (iv .i64 3))
  (pcallS (call Ev) Fn.spec_l4Runs [iv .i64 a0_0] fun v176 =>
  gV1 v176 fun x177 =>
  gB x177 fun q178 =>
  vcase (bv (!q178))
  (some (iv .i64 0))
  (pcallS (call Ev) Fn.spec_l3Fault [lv a0_3] fun v180 =>
  gV1 v180 fun x181 =>
  gI .i64 x181 fun i182 =>
  vcase (bv (i182 != 0))
  (some (iv .i64 i182))
  (vcase (bv ((a0_3.length : Int) == 0))
  (some (iv .i64 1))
  (vcase (bv (a0_0 == 4))
  (idxF 2 a0_3 0 fun r187 =>
  (r187[1]?).bind fun x188 =>
  gF x188 fun z189 =>
  vcase (bv ((z189.length : Int) != 64))
  (some (iv .i64 1))
  (some (iv .i64 0)))
  (some (iv .i64 0)))))))

theorem pu_spec_l4Fault (a0_0 : Int) (a0_1 : Int) (a0_2 : Int) (a0_3 : List (List S)) : pureV (call Ev) Fn.spec_l4Fault [fv [.int .i64 a0_0, .int .i64 a0_1, .int .i64 a0_2, .fs a0_3] 0] =
  pcallS (call Ev) Fn.spec_l1In [iv .i64 a0_0, iv .i64 1, iv .i64 6] fun v101 =>
  gV1 v101 fun x102 =>
  gB x102 fun q103 =>
  vcase (bv (!q103))
  (some (iv .i64 1))
  (pcallS (call Ev) Fn.spec_l4Runs [iv .i64 a0_0] fun v106 =>
  gV1 v106 fun x107 =>
  gB x107 fun q108 =>
  vcase (bv (!q108))
  (vcase (bv (a0_2 != 0))
  (some (iv .i64 1))
  (vcase (bv (decide ((a0_3.length : Int) > 0)))
  (some (iv .i64 1))
  (vcase (bv (a0_0 == 4))
  (vcase (bv (a0_1 != 0))
  (some (iv .i64 1))
  (vcase (bv (a0_0 != 4))
  (pcallS (call Ev) Fn.spec_l1In [iv .i64 a0_1, iv .i64 1, iv .i64 99] fun v133 =>
  gV1 v133 fun x134 =>
  gB x134 fun q135 =>
  Jn.spec_l4Fault_0 (!q135) a0_2 a0_0 a0_3)
  (Jn.spec_l4Fault_0 false a0_2 a0_0 a0_3)))
  (vcase (bv (a0_0 != 4))
  (pcallS (call Ev) Fn.spec_l1In [iv .i64 a0_1, iv .i64 1, iv .i64 99] fun v199 =>
  gV1 v199 fun x200 =>
  gB x200 fun q201 =>
  Jn.spec_l4Fault_0 (!q201) a0_2 a0_0 a0_3)
  (Jn.spec_l4Fault_0 false a0_2 a0_0 a0_3)))))
  (vcase (bv (a0_0 == 4))
  (vcase (bv (a0_1 != 0))
  (some (iv .i64 1))
  (vcase (bv (a0_0 != 4))
  (pcallS (call Ev) Fn.spec_l1In [iv .i64 a0_1, iv .i64 1, iv .i64 99] fun v240 =>
  gV1 v240 fun x241 =>
  gB x241 fun q242 =>
  Jn.spec_l4Fault_0 (!q242) a0_2 a0_0 a0_3)
  (Jn.spec_l4Fault_0 false a0_2 a0_0 a0_3)))
  (vcase (bv (a0_0 != 4))
  (pcallS (call Ev) Fn.spec_l1In [iv .i64 a0_1, iv .i64 1, iv .i64 99] fun v278 =>
  gV1 v278 fun x279 =>
  gB x279 fun q280 =>
  Jn.spec_l4Fault_0 (!q280) a0_2 a0_0 a0_3)
  (Jn.spec_l4Fault_0 false a0_2 a0_0 a0_3)))) := by
  rw [pure_eq]; kernel_rfl

theorem eq_spec_l2Copy (a0 : List (List S)) (n : Nat) : call Ev Fn.spec_l2Copy [lv a0] (D n) =
  (appS 1 ((D n).new 1 []) (sv ((D n).n) 0 0) (lv a0)).bind fun p101 =>
  some (p101.1, p101.2) := by
  rw [call_eq]; kernel_rfl

theorem eq_spec_l7Copy (a0 : List (List S)) (n : Nat) : call Ev Fn.spec_l7Copy [lv a0] (D n) =
  (Lp.spec_l7Copy 0 [lv a0, sv ((D n).n) 0 0, iv .i64 0] ((D n).new 1 [])).bind fun o101 => lcase o101 (fun l102 h103 =>
  (l102[0]?).bind fun w106 =>
  some (w106, h103)) (fun v104 h105 =>
  some (v104, h105)) := by
  rw [call_eq]; kernel_rfl

theorem eq_spec_l7Copy_l0 (s0 : List (List S)) (s3 : V) (s4 : Int) (h : H) : Lp.spec_l7Copy 0 [lv s0, s3, iv .i64 s4] h =
  vcase (bv (decide (s4 < (s0.length : Int))))
  (idxF 1 s0 s4 fun r203 =>
  (r203[0]?).bind fun x204 =>
  gF x204 fun z205 =>
  pcallF (call Ev) Fn.spec_l2Copy true [lv z205] h fun v206 h207 =>
  cellsK v206 fun c208 =>
  if c208.length = 1 ∧ 0 + 1 ≤ ([.sl none 0] : List S).length then
  (appS 1 (h207.new 1 (setAt ([.sl none 0] : List S) 0 c208)) s3 (sv h207.n 0 1)).bind fun p209 =>
  Lp.spec_l7Copy 0 [lv s0, p209.1, iv .i64 (IntKind.i64.wrap (s4 + 1))] (tidy h [lv s0, p209.1, iv .i64 (IntKind.i64.wrap (s4 + 1))] p209.2)
  else none)
  (some (.done [s3] (tidy h [s3] h))) := by
  unfold Lp.spec_l7Copy; rw [loop_eq]; kernel_rfl

theorem eq_spec_l2New (a0 : Int) (n : Nat) : call Ev Fn.spec_l2New [iv .u8 a0] (D n) =
  (mkSl 1 [.int .u8 0] (D n) (iv .i64 64) (iv .i64 64)).bind fun p101 =>
  (Lp.spec_l2New 0 [iv .u8 a0, p101.1, iv .i64 0] p101.2).bind fun o102 => lcase o102 (fun l103 h104 =>
  (l103[0]?).bind fun w107 =>
  idxK 1 w107 (iv .i64 0) fun v108 =>
  stK 1 h104 v108 (iv .u8 0) fun h109 =>
  idxK 1 w107 (iv .i64 1) fun v110 =>
  stK 1 h109 v110 (iv .u8 64) fun h111 =>
  some (w107, h111)) (fun v105 h106 =>
  some (v105, h106)) := by
  rw [call_eq]; kernel_rfl

theorem eq_spec_l2New_l0 (s0 : Int) (s3 : V) (s4 : Int) (h : H) : Lp.spec_l2New 0 [iv .u8 s0, s3, iv .i64 s4] h =
  vcase (bv (decide (s4 < 64)))
  (idxK 1 s3 (iv .i64 s4) fun v203 =>
  stK 1 h v203 (iv .u8 s0) fun h204 =>
  Lp.spec_l2New 0 [iv .u8 s0, s3, iv .i64 (IntKind.i64.wrap (s4 + 1))] (tidy h [iv .u8 s0, s3, iv .i64 (IntKind.i64.wrap (s4 + 1))] h204))
  (some (.done [s3] (tidy h [s3] h))) := by
  unfold Lp.spec_l2New; rw [loop_eq]; kernel_rfl

theorem eq_spec_l3Apply (a0 : List (List S)) (a1 : List (List S)) (n : Nat) : call Ev Fn.spec_l3Apply [lv a0, lv a1] (D n) =
  pcallF (call Ev) Fn.spec_l2Copy true [lv a0] (D n) fun v101 h102 =>
  (Lp.spec_l3Apply 0 [lv a1, v101, iv .i64 0] h102).bind fun o103 => lcase o103 (fun l104 h105 =>
  (l104[0]?).bind fun w108 =>
  some (w108, h105)) (fun v106 h107 =>
  some (v106, h107)) := by
  rw [call_eq]; kernel_rfl

theorem eq_spec_l3Apply_l0 (s1 : List (List S)) (s5 : V) (s6 : Int) (h : H) : Lp.spec_l3Apply 0 [lv s1, s5, iv .i64 s6] h =
  vcase (bv (decide (s6 < (s1.length : Int))))
  (idxF 2 s1 s6 fun r203 =>
  (r203[0]?).bind fun x204 =>
  gI .i64 x204 fun i205 =>
  slK 1 h s5 (some (iv .i64 i205)) none fun v206 =>
  idxF 2 s1 s6 fun r207 =>
  (r207[1]?).bind fun x208 =>
  gF x208 fun z209 =>
  (copS 1 h v206 (lv z209)).bind fun p210 =>
  gV1 p210.1 fun x211 =>
  gI .i64 x211 fun i212 =>
  Lp.spec_l3Apply 0 [lv s1, s5, iv .i64 (IntKind.i64.wrap (s6 + 1))] (tidy h [lv s1, s5, iv .i64 (IntKind.i64.wrap (s6 + 1))] p210.2))
  (some (.done [s5] (tidy h [s5] h))) := by
  unfold Lp.spec_l3Apply; rw [loop_eq]; kernel_rfl

noncomputable def Jn.spec_ApplyRecord_0 (h225 : H) (h136 : H) (w118 : V) (w119 : V) : Option (V) :=
  (load1 h225 (pv h136.n 2)).bind fun x226 =>
  (padd 2 w118).bind fun v227 =>
  ldK (.one (.i .i64)) ⟨1, 8, [.int .i64 0], false, .int .i64, false⟩ h225 v227 fun v228 =>
  gV1 v228 fun x229 =>
  gI .i64 x229 fun i230 =>
  (load1 h225 (pv h136.n 2)).bind fun x231 =>
  (padd 2 w118).bind fun v232 =>
  ldK (.one (.i .i64)) ⟨1, 8, [.int .i64 0], false, .int .i64, false⟩ h225 v232 fun v233 =>
  gV1 v233 fun x234 =>
  gI .i64 x234 fun i235 =>
  idxK 1 (.s x231) (iv .i64 i235) fun v236 =>
  ldK (.one (.f)) ⟨1, 24, [.sl none 0], false, .sl 5, false⟩ h225 v236 fun v237 =>
  (padd 3 w118).bind fun v238 =>
  ldK (.one (.f)) ⟨1, 24, [.sl none 0], false, .sl 178, false⟩ h225 v238 fun v239 =>
  (frzVs h225 [v237, v239]).bind fun l240 =>
  pcallF (call Ev) Fn.spec_l3Apply ([v237, v239].all offV) (normVs [] l240) h225 fun v241 h242 =>
  hchk h225 h242 (
  bif scaV v241 then
  idxK 1 (.s x226) (iv .i64 i230) fun v243 =>
  stK 1 h242 v243 v241 fun h244 =>
  (loadN 3 h244 (pv h136.n 0)).bind fun c245 =>
  (c245[0]?).bind fun x246 =>
  gI .i64 x246 fun i247 =>
  (c245[1]?).bind fun x248 =>
  (c245[2]?).bind fun x249 =>
  if c245.length = 3 then
  stK 3 h244 w119 (.agg [.int .i64 i247, x248, x249]) fun h250 =>
  ldT ⟨3, 56, [.int .i64 0, .sl none 0, .sl none 0], true, .st [(0, 2), (1, 52), (2, 46)], false⟩ h250 w119 fun v251 =>
  frzV h250 v251
  else none
  else none)

theorem eq_spec_ApplyRecord_l0 (s0 : List (List S)) (s3 : V) (s4 : V) (s5 : Int) (h : H) : Lp.spec_ApplyRecord 0 [lv s0, s3, s4, iv .i64 s5] h =
  vcase (bv (decide (s5 < (s0.length : Int))))
  (idxF 1 s0 s5 fun r203 =>
  (r203[0]?).bind fun x204 =>
  gF x204 fun z205 =>
  vcase (bv ((z205.length : Int) != 64))
  ((pureV (call Ev) Fn.spec_l7Bad [iv .i64 1]).bind fun v207 =>
  gVA v207 fun c208 =>
  (c208[0]?).bind fun x209 =>
  gI .i64 x209 fun i210 =>
  (c208[1]?).bind fun x211 =>
  gF x211 fun z212 =>
  (c208[2]?).bind fun x213 =>
  gF x213 fun z214 =>
  if c208.length = 3 then
  stK 3 h s4 (.agg [.int .i64 i210, .fs z212, .fs z214]) fun h215 =>
  ldT ⟨3, 56, [.int .i64 0, .sl none 0, .sl none 0], true, .st [(0, 2), (1, 52), (2, 46)], false⟩ h215 s4 fun v216 =>
  some (.ret v216 h215)
  else none)
  (Lp.spec_ApplyRecord 0 [lv s0, s3, s4, iv .i64 (IntKind.i64.wrap (s5 + 1))] (tidy h [lv s0, s3, s4, iv .i64 (IntKind.i64.wrap (s5 + 1))] h)))
  (some (.done [lv s0, s3, s4] (tidy h [lv s0, s3, s4] h))) := by
  unfold Lp.spec_ApplyRecord; rw [loop_eq]; kernel_rfl

theorem eq_laws_toByteS (a0 : List (List S)) (n : Nat) : call Ev Fn.laws_toByteS [lv a0] (D n) =
  (mkSl 1 [.int .u8 0] (D n) (iv .i64 (a0.length : Int)) (iv .i64 (a0.length : Int))).bind fun p101 =>
  (Lp.laws_toByteS 0 [lv a0, p101.1, iv .i64 0] p101.2).bind fun o102 => lcase o102 (fun l103 h104 =>
  (l103[0]?).bind fun w107 =>
  some (w107, h104)) (fun v105 h106 =>
  some (v105, h106)) := by
  rw [call_eq]; kernel_rfl

theorem eq_laws_toByteS_l0 (s0 : List (List S)) (s3 : V) (s4 : Int) (h : H) : Lp.laws_toByteS 0 [lv s0, s3, iv .i64 s4] h =
  vcase (bv (decide (s4 < (s0.length : Int))))
  (idxF 1 s0 s4 fun r203 =>
  (r203[0]?).bind fun x204 =>
  gI .u8 x204 fun i205 =>
  idxK 1 s3 (iv .i64 s4) fun v206 =>
  stK 1 h v206 (iv .u8 i205) fun h207 =>
  Lp.laws_toByteS 0 [lv s0, s3, iv .i64 (IntKind.i64.wrap (s4 + 1))] (tidy h [lv s0, s3, iv .i64 (IntKind.i64.wrap (s4 + 1))] h207))
  (some (.done [s3] (tidy h [s3] h))) := by
  unfold Lp.laws_toByteS; rw [loop_eq]; kernel_rfl

theorem eq_laws_toByteSS (a0 : List (List S)) (n : Nat) : call Ev Fn.laws_toByteSS [lv a0] (D n) =
  (mkSl 1 [.sl none 0] (D n) (iv .i64 (a0.length : Int)) (iv .i64 (a0.length : Int))).bind fun p101 =>
  (Lp.laws_toByteSS 0 [lv a0, p101.1, iv .i64 0] p101.2).bind fun o102 => lcase o102 (fun l103 h104 =>
  (l103[0]?).bind fun w107 =>
  some (w107, h104)) (fun v105 h106 =>
  some (v105, h106)) := by
  rw [call_eq]; kernel_rfl

theorem eq_laws_toByteSS_l0 (s0 : List (List S)) (s3 : V) (s4 : Int) (h : H) : Lp.laws_toByteSS 0 [lv s0, s3, iv .i64 s4] h =
  vcase (bv (decide (s4 < (s0.length : Int))))
  (idxF 1 s0 s4 fun r203 =>
  (r203[0]?).bind fun x204 =>
  gF x204 fun z205 =>
  pcallF (call Ev) Fn.laws_toByteS true [lv z205] h fun v206 h207 =>
  idxK 1 s3 (iv .i64 s4) fun v208 =>
  stK 1 h207 v208 v206 fun h209 =>
  Lp.laws_toByteSS 0 [lv s0, s3, iv .i64 (IntKind.i64.wrap (s4 + 1))] (tidy h [lv s0, s3, iv .i64 (IntKind.i64.wrap (s4 + 1))] h209))
  (some (.done [s3] (tidy h [s3] h))) := by
  unfold Lp.laws_toByteSS; rw [loop_eq]; kernel_rfl

theorem eq_laws_toRun (a0_0 : Int) (a0_1 : List (List S)) (n : Nat) : call Ev Fn.laws_toRun [.agg [.int .i64 a0_0, .fs a0_1]] (D n) =
  (load1 ((((D n).new 0 [.int .i64 a0_0, .fs a0_1]).new 0 [.int .i64 0, .sl none 0]).new 0 [.int .i64 0, .sl none 0]) (pv ((D n).n) 0)).bind fun x101 =>
  gI .i64 x101 fun i102 =>
  stK 1 ((((D n).new 0 [.int .i64 a0_0, .fs a0_1]).new 0 [.int .i64 0, .sl none 0]).new 0 [.int .i64 0, .sl none 0]) (pv ((((D n).new 0 [.int .i64 a0_0, .fs a0_1]).new 0 [.int .i64 0, .sl none 0]).n) 0) (iv .i64 i102) fun h103 =>
  (load1 h103 (pv ((D n).n) 1)).bind fun x104 =>
  (frzVs h103 [.s x104]).bind fun l105 =>
  pcallF (call Ev) Fn.laws_toByteS ([.s x104].all offV) (normVs [] l105) h103 fun v106 h107 =>
  stK 1 h107 (pv ((((D n).new 0 [.int .i64 a0_0, .fs a0_1]).new 0 [.int .i64 0, .sl none 0]).n) 1) v106 fun h108 =>
  (loadN 2 h108 (pv ((((D n).new 0 [.int .i64 a0_0, .fs a0_1]).new 0 [.int .i64 0, .sl none 0]).n) 0)).bind fun c109 =>
  (c109[0]?).bind fun x110 =>
  gI .i64 x110 fun i111 =>
  (c109[1]?).bind fun x112 =>
  if c109.length = 2 then
  stK 2 h108 (pv (((D n).new 0 [.int .i64 a0_0, .fs a0_1]).n) 0) (.agg [.int .i64 i111, x112]) fun h113 =>
  (loadN 2 h113 (pv (((D n).new 0 [.int .i64 a0_0, .fs a0_1]).n) 0)).bind fun c114 =>
  some (.agg c114, h113)
  else none := by
  rw [call_eq]; kernel_rfl

theorem eq_laws_toRunS (a0 : List (List S)) (n : Nat) : call Ev Fn.laws_toRunS [lv a0] (D n) =
  (mkSl 2 [.int .i64 0, .sl none 0] (D n) (iv .i64 (a0.length : Int)) (iv .i64 (a0.length : Int))).bind fun p101 =>
  (Lp.laws_toRunS 0 [lv a0, p101.1, iv .i64 0] p101.2).bind fun o102 => lcase o102 (fun l103 h104 =>
  (l103[0]?).bind fun w107 =>
  some (w107, h104)) (fun v105 h106 =>
  some (v105, h106)) := by
  rw [call_eq]; kernel_rfl

theorem eq_laws_toRunS_l0 (s0 : List (List S)) (s3 : V) (s4 : Int) (h : H) : Lp.laws_toRunS 0 [lv s0, s3, iv .i64 s4] h =
  vcase (bv (decide (s4 < (s0.length : Int))))
  (idxF 2 s0 s4 fun r203 =>
  (rowN 2 r203 0).bind fun c204 =>
  (c204[0]?).bind fun x205 =>
  gI .i64 x205 fun i206 =>
  (c204[1]?).bind fun x207 =>
  gF x207 fun z208 =>
  if c204.length = 2 then
  pcallF (call Ev) Fn.laws_toRun true [.agg [.int .i64 i206, .fs z208]] h fun v209 h210 =>
  gVA v209 fun c211 =>
  (c211[0]?).bind fun x212 =>
  gI .i64 x212 fun i213 =>
  (c211[1]?).bind fun x214 =>
  if c211.length = 2 then
  idxK 2 s3 (iv .i64 s4) fun v215 =>
  stK 2 h210 v215 (.agg [.int .i64 i213, x214]) fun h216 =>
  Lp.laws_toRunS 0 [lv s0, s3, iv .i64 (IntKind.i64.wrap (s4 + 1))] (tidy h [lv s0, s3, iv .i64 (IntKind.i64.wrap (s4 + 1))] h216)
  else none
  else none)
  (some (.done [s3] (tidy h [s3] h))) := by
  unfold Lp.laws_toRunS; rw [loop_eq]; kernel_rfl

end Vm
