/-
  What each function, and each round of each loop, comes to in the small machine. Written by a program (gen3.py).
-/
import Derived.Test.YtmenpfhpflnbnaaEnv
set_option linter.unusedVariables false
set_option maxRecDepth 100000
namespace Vm
open Go

theorem eq_slices_pdqsortCmpFunc_impl_seen (a0 : V) (a1 : Int) (a2 : Int) (a3 : Int) (h : H) : call Ev Fn.slices_pdqsortCmpFunc_impl_seen [a0, iv .i64 a1, iv .i64 a2, iv .i64 a3, .s (.fn Fn.impl_look_1 [])] h =
  (Lp.slices_pdqsortCmpFunc_impl_seen 0 [a0, iv .i64 a1, iv .i64 a2, iv .i64 a3, .s (.fn Fn.impl_look_1 []), bv true, bv true] h).bind fun o101 => lcase o101 (fun l102 h103 =>
  some (.tup [], h103)) (fun v104 h105 =>
  some (v104, h105)) := by
  rw [call_eq]; kernel_rfl

noncomputable def Jn.slices_pdqsortCmpFunc_impl_seen_l0_0 (q926 : Bool) (w927 : V) (w928 : V) (w929 : V) (w930 : V) (w931 : V) (w932 : V) (w933 : V) (w934 : V) (w935 : V) (w936 : V) (w937 : V) (w938 : V) (w939 : V) (q940 : Bool) (s0 : V) (s1 : Int) (s2 : Int) (i858 : Int) (h877 : H) (i851 : Int) (s10 : Bool) (s11 : Bool) (h : H) : Option (LOut) :=
  vcase (bv q940)
  ((call Ev Fn.slices_partitionEqualCmpFunc_impl_seen [s0, iv .i64 s1, iv .i64 s2, iv .i64 (IntKind.i64.wrap ((IntKind.i64.wrap (s2 - 1)) - (IntKind.i64.wrap (i858 - s1)))), .s (.fn Fn.impl_look_1 [])] h877).bind fun p942 =>
  gV1 p942.1 fun x943 =>
  gI .i64 x943 fun i944 =>
  Lp.slices_pdqsortCmpFunc_impl_seen 0 [s0, iv .i64 i944, iv .i64 s2, iv .i64 i851, .s (.fn Fn.impl_look_1 []), bv s10, bv s11] (tidy h [s0, iv .i64 i944, iv .i64 s2, iv .i64 i851, .s (.fn Fn.impl_look_1 []), bv s10, bv s11] (tidy h877 [p942.1] p942.2)))
  ((call Ev Fn.slices_partitionCmpFunc_impl_seen [s0, iv .i64 s1, iv .i64 s2, iv .i64 (IntKind.i64.wrap ((IntKind.i64.wrap (s2 - 1)) - (IntKind.i64.wrap (i858 - s1)))), .s (.fn Fn.impl_look_1 [])] h877).bind fun p945 =>
  gVT p945.1 fun u946 =>
  (u946[0]?).bind fun t947 =>
  gA1 t947 fun x948 =>
  gI .i64 x948 fun i949 =>
  (u946[1]?).bind fun t950 =>
  gA1 t950 fun x951 =>
  gB x951 fun q952 =>
  if u946.length = 2 then
  (bin Ev .quo 3 (iv .i64 (IntKind.i64.wrap (s2 - s1))) (iv .i64 8)).bind fun b953 =>
  gV1 b953 fun x954 =>
  gI .i64 x954 fun i955 =>
  vcase (bv (decide ((IntKind.i64.wrap (i949 - s1)) < (IntKind.i64.wrap (s2 - i949)))))
  ((call Ev Fn.slices_pdqsortCmpFunc_impl_seen [s0, iv .i64 s1, iv .i64 i949, iv .i64 i851, .s (.fn Fn.impl_look_1 [])] (tidy h877 [p945.1] p945.2)).bind fun p957 =>
  Lp.slices_pdqsortCmpFunc_impl_seen 0 [s0, iv .i64 (IntKind.i64.wrap (i949 + 1)), iv .i64 s2, iv .i64 i851, .s (.fn Fn.impl_look_1 []), bv (decide ((IntKind.i64.wrap (i949 - s1)) ≥ i955)), bv q952] (tidy h [s0, iv .i64 (IntKind.i64.wrap (i949 + 1)), iv .i64 s2, iv .i64 i851, .s (.fn Fn.impl_look_1 []), bv (decide ((IntKind.i64.wrap (i949 - s1)) ≥ i955)), bv q952] (tidy (tidy h877 [p945.1] p945.2) [p957.1] p957.2)))
  ((call Ev Fn.slices_pdqsortCmpFunc_impl_seen [s0, iv .i64 (IntKind.i64.wrap (i949 + 1)), iv .i64 s2, iv .i64 i851, .s (.fn Fn.impl_look_1 [])] (tidy h877 [p945.1] p945.2)).bind fun p958 =>
  Lp.slices_pdqsortCmpFunc_impl_seen 0 [s0, iv .i64 s1, iv .i64 i949, iv .i64 i851, .s (.fn Fn.impl_look_1 []), bv (decide ((IntKind.i64.wrap (s2 - i949)) ≥ i955)), bv q952] (tidy h [s0, iv .i64 s1, iv .i64 i949, iv .i64 i851, .s (.fn Fn.impl_look_1 []), bv (decide ((IntKind.i64.wrap (s2 - i949)) ≥ i955)), bv q952] (tidy (tidy h877 [p945.1] p945.2) [p958.1] p958.2)))
  else none)

noncomputable def Jn.slices_pdqsortCmpFunc_impl_seen_l0_1 (h877 : H) (s1 : Int) (s0 : V) (s2 : Int) (i858 : Int) (i851 : Int) (s10 : Bool) (s11 : Bool) (h : H) : Option (LOut) :=
  vcase (bv (decide (s1 > 0)))
  (idxK 9 s0 (iv .i64 (IntKind.i64.wrap (s1 - 1))) fun v879 =>
  ldK (.agg [.i .i64, .i .i64, .i .i64, .s, .i .i64, .i .i64, .b, .i .i64, .i .i64]) ⟨9, 80, [.int .i64 0, .int .i64 0, .int .i64 0, .str ⟨#[]⟩, .int .i64 0, .int .i64 0, .bool false, .int .i64 0, .int .i64 0], true, .st [(0, 29), (4, 3), (5, 3), (6, 4), (7, 3), (8, 3)], true⟩ h877 v879 fun v880 =>
  gVA v880 fun c881 =>
  (c881[0]?).bind fun x882 =>
  gI .i64 x882 fun i883 =>
  (c881[1]?).bind fun x884 =>
  gI .i64 x884 fun i885 =>
  (c881[2]?).bind fun x886 =>
  gI .i64 x886 fun i887 =>
  (c881[3]?).bind fun x888 =>
  gS x888 fun y889 =>
  (c881[4]?).bind fun x890 =>
  gI .i64 x890 fun i891 =>
  (c881[5]?).bind fun x892 =>
  gI .i64 x892 fun i893 =>
  (c881[6]?).bind fun x894 =>
  gB x894 fun q895 =>
  (c881[7]?).bind fun x896 =>
  gI .i64 x896 fun i897 =>
  (c881[8]?).bind fun x898 =>
  gI .i64 x898 fun i899 =>
  if c881.length = 9 then
  idxK 9 s0 (iv .i64 (IntKind.i64.wrap ((IntKind.i64.wrap (s2 - 1)) - (IntKind.i64.wrap (i858 - s1))))) fun v900 =>
  ldK (.agg [.i .i64, .i .i64, .i .i64, .s, .i .i64, .i .i64, .b, .i .i64, .i .i64]) ⟨9, 80, [.int .i64 0, .int .i64 0, .int .i64 0, .str ⟨#[]⟩, .int .i64 0, .int .i64 0, .bool false, .int .i64 0, .int .i64 0], true, .st [(0, 29), (4, 3), (5, 3), (6, 4), (7, 3), (8, 3)], true⟩ h877 v900 fun v901 =>
  gVA v901 fun c902 =>
  (c902[0]?).bind fun x903 =>
  gI .i64 x903 fun i904 =>
  (c902[1]?).bind fun x905 =>
  gI .i64 x905 fun i906 =>
  (c902[2]?).bind fun x907 =>
  gI .i64 x907 fun i908 =>
  (c902[3]?).bind fun x909 =>
  gS x909 fun y910 =>
  (c902[4]?).bind fun x911 =>
  gI .i64 x911 fun i912 =>
  (c902[5]?).bind fun x913 =>
  gI .i64 x913 fun i914 =>
  (c902[6]?).bind fun x915 =>
  gB x915 fun q916 =>
  (c902[7]?).bind fun x917 =>
  gI .i64 x917 fun i918 =>
  (c902[8]?).bind fun x919 =>
  gI .i64 x919 fun i920 =>
  if c902.length = 9 then
  pcallS (call Ev) Fn.impl_look_1 [.agg [.int .i64 i883, .int .i64 i885, .int .i64 i887, .str y889, .int .i64 i891, .int .i64 i893, .bool q895, .int .i64 i897, .int .i64 i899], .agg [.int .i64 i904, .int .i64 i906, .int .i64 i908, .str y910, .int .i64 i912, .int .i64 i914, .bool q916, .int .i64 i918, .int .i64 i920]] fun v921 =>
  gV1 v921 fun x922 =>
  gI .i64 x922 fun i923 =>
  hchk h877 h877 (
  Jn.slices_pdqsortCmpFunc_impl_seen_l0_0 true (.s (.fn Fn.impl_look_1 [])) s0 (iv .i64 s1) (iv .i64 (IntKind.i64.wrap (s1 - 1))) v879 (.agg [.int .i64 i883, .int .i64 i885, .int .i64 i887, .str y889, .int .i64 i891, .int .i64 i893, .bool q895, .int .i64 i897, .int .i64 i899]) s0 (iv .i64 (IntKind.i64.wrap ((IntKind.i64.wrap (s2 - 1)) - (IntKind.i64.wrap (i858 - s1))))) v900 (.agg [.int .i64 i904, .int .i64 i906, .int .i64 i908, .str y910, .int .i64 i912, .int .i64 i914, .bool q916, .int .i64 i918, .int .i64 i920]) (iv .i64 i923) (bv (decide (i923 < 0))) (bv (!(decide (i923 < 0)))) (!(decide (i923 < 0))) s0 s1 s2 i858 h877 i851 s10 s11 h)
  else none
  else none)
  (hchk h877 h877 (
  Jn.slices_pdqsortCmpFunc_impl_seen_l0_0 false (.tup []) (.tup []) (.tup []) (.tup []) (.tup []) (.tup []) (.tup []) (.tup []) (.tup []) (.tup []) (.tup []) (.tup []) (.tup []) false s0 s1 s2 i858 h877 i851 s10 s11 h))

noncomputable def Jn.slices_pdqsortCmpFunc_impl_seen_l0_2 (q871 : Bool) (s0 : V) (s1 : Int) (s2 : Int) (h852 : H) (p863 : V × H) (i858 : Int) (i851 : Int) (s10 : Bool) (s11 : Bool) (h : H) : Option (LOut) :=
  vcase (bv q871)
  ((call Ev Fn.slices_partialInsertionSortCmpFunc_impl_seen [s0, iv .i64 s1, iv .i64 s2, .s (.fn Fn.impl_look_1 [])] (tidy h852 [p863.1] p863.2)).bind fun p873 =>
  gV1 p873.1 fun x874 =>
  gB x874 fun q875 =>
  vcase (bv q875)
  (some (.ret (.tup []) (tidy (tidy h852 [p863.1] p863.2) [p873.1] p873.2)))
  (Jn.slices_pdqsortCmpFunc_impl_seen_l0_1 (tidy (tidy h852 [p863.1] p863.2) [p873.1] p873.2) s1 s0 s2 i858 i851 s10 s11 h))
  (Jn.slices_pdqsortCmpFunc_impl_seen_l0_1 (tidy h852 [p863.1] p863.2) s1 s0 s2 i858 i851 s10 s11 h)

noncomputable def Jn.slices_pdqsortCmpFunc_impl_seen_l0_3 (q867 : Bool) (s0 : V) (s1 : Int) (s2 : Int) (h852 : H) (p863 : V × H) (i858 : Int) (i851 : Int) (s10 : Bool) (s11 : Bool) (h : H) : Option (LOut) :=
  vcase (bv q867)
  (Jn.slices_pdqsortCmpFunc_impl_seen_l0_2 (1 == 1) s0 s1 s2 h852 p863 i858 i851 s10 s11 h)
  (Jn.slices_pdqsortCmpFunc_impl_seen_l0_2 false s0 s1 s2 h852 p863 i858 i851 s10 s11 h)

noncomputable def Jn.slices_pdqsortCmpFunc_impl_seen_l0_4 (q1021 : Bool) (w1022 : V) (w1023 : V) (w1024 : V) (w1025 : V) (w1026 : V) (w1027 : V) (w1028 : V) (w1029 : V) (w1030 : V) (w1031 : V) (w1032 : V) (w1033 : V) (w1034 : V) (q1035 : Bool) (s0 : V) (s1 : Int) (s2 : Int) (i858 : Int) (h972 : H) (i851 : Int) (s10 : Bool) (s11 : Bool) (h : H) : Option (LOut) :=
  vcase (bv q1035)
  ((call Ev Fn.slices_partitionEqualCmpFunc_impl_seen [s0, iv .i64 s1, iv .i64 s2, iv .i64 i858, .s (.fn Fn.impl_look_1 [])] h972).bind fun p1037 =>
  gV1 p1037.1 fun x1038 =>
  gI .i64 x1038 fun i1039 =>
  Lp.slices_pdqsortCmpFunc_impl_seen 0 [s0, iv .i64 i1039, iv .i64 s2, iv .i64 i851, .s (.fn Fn.impl_look_1 []), bv s10, bv s11] (tidy h [s0, iv .i64 i1039, iv .i64 s2, iv .i64 i851, .s (.fn Fn.impl_look_1 []), bv s10, bv s11] (tidy h972 [p1037.1] p1037.2)))
  ((call Ev Fn.slices_partitionCmpFunc_impl_seen [s0, iv .i64 s1, iv .i64 s2, iv .i64 i858, .s (.fn Fn.impl_look_1 [])] h972).bind fun p1040 =>
  gVT p1040.1 fun u1041 =>
  (u1041[0]?).bind fun t1042 =>
  gA1 t1042 fun x1043 =>
  gI .i64 x1043 fun i1044 =>
  (u1041[1]?).bind fun t1045 =>
  gA1 t1045 fun x1046 =>
  gB x1046 fun q1047 =>
  if u1041.length = 2 then
  (bin Ev .quo 3 (iv .i64 (IntKind.i64.wrap (s2 - s1))) (iv .i64 8)).bind fun b1048 =>
  gV1 b1048 fun x1049 =>
  gI .i64 x1049 fun i1050 =>
  vcase (bv (decide ((IntKind.i64.wrap (i1044 - s1)) < (IntKind.i64.wrap (s2 - i1044)))))
  ((call Ev Fn.slices_pdqsortCmpFunc_impl_seen [s0, iv .i64 s1, iv .i64 i1044, iv .i64 i851, .s (.fn Fn.impl_look_1 [])] (tidy h972 [p1040.1] p1040.2)).bind fun p1052 =>
  Lp.slices_pdqsortCmpFunc_impl_seen 0 [s0, iv .i64 (IntKind.i64.wrap (i1044 + 1)), iv .i64 s2, iv .i64 i851, .s (.fn Fn.impl_look_1 []), bv (decide ((IntKind.i64.wrap (i1044 - s1)) ≥ i1050)), bv q1047] (tidy h [s0, iv .i64 (IntKind.i64.wrap (i1044 + 1)), iv .i64 s2, iv .i64 i851, .s (.fn Fn.impl_look_1 []), bv (decide ((IntKind.i64.wrap (i1044 - s1)) ≥ i1050)), bv q1047] (tidy (tidy h972 [p1040.1] p1040.2) [p1052.1] p1052.2)))
  ((call Ev Fn.slices_pdqsortCmpFunc_impl_seen [s0, iv .i64 (IntKind.i64.wrap (i1044 + 1)), iv .i64 s2, iv .i64 i851, .s (.fn Fn.impl_look_1 [])] (tidy h972 [p1040.1] p1040.2)).bind fun p1053 =>
  Lp.slices_pdqsortCmpFunc_impl_seen 0 [s0, iv .i64 s1, iv .i64 i1044, iv .i64 i851, .s (.fn Fn.impl_look_1 []), bv (decide ((IntKind.i64.wrap (s2 - i1044)) ≥ i1050)), bv q1047] (tidy h [s0, iv .i64 s1, iv .i64 i1044, iv .i64 i851, .s (.fn Fn.impl_look_1 []), bv (decide ((IntKind.i64.wrap (s2 - i1044)) ≥ i1050)), bv q1047] (tidy (tidy h972 [p1040.1] p1040.2) [p1053.1] p1053.2)))
  else none)

noncomputable def Jn.slices_pdqsortCmpFunc_impl_seen_l0_5 (h972 : H) (s1 : Int) (s0 : V) (i858 : Int) (s2 : Int) (i851 : Int) (s10 : Bool) (s11 : Bool) (h : H) : Option (LOut) :=
  vcase (bv (decide (s1 > 0)))
  (idxK 9 s0 (iv .i64 (IntKind.i64.wrap (s1 - 1))) fun v974 =>
  ldK (.agg [.i .i64, .i .i64, .i .i64, .s, .i .i64, .i .i64, .b, .i .i64, .i .i64]) ⟨9, 80, [.int .i64 0, .int .i64 0, .int .i64 0, .str ⟨#[]⟩, .int .i64 0, .int .i64 0, .bool false, .int .i64 0, .int .i64 0], true, .st [(0, 29), (4, 3), (5, 3), (6, 4), (7, 3), (8, 3)], true⟩ h972 v974 fun v975 =>
  gVA v975 fun c976 =>
  (c976[0]?).bind fun x977 =>
  gI .i64 x977 fun i978 =>
  (c976[1]?).bind fun x979 =>
  gI .i64 x979 fun i980 =>
  (c976[2]?).bind fun x981 =>
  gI .i64 x981 fun i982 =>
  (c976[3]?).bind fun x983 =>
  gS x983 fun y984 =>
  (c976[4]?).bind fun x985 =>
  gI .i64 x985 fun i986 =>
  (c976[5]?).bind fun x987 =>
  gI .i64 x987 fun i988 =>
  (c976[6]?).bind fun x989 =>
  gB x989 fun q990 =>
  (c976[7]?).bind fun x991 =>
  gI .i64 x991 fun i992 =>
  (c976[8]?).bind fun x993 =>
  gI .i64 x993 fun i994 =>
  if c976.length = 9 then
  idxK 9 s0 (iv .i64 i858) fun v995 =>
  ldK (.agg [.i .i64, .i .i64, .i .i64, .s, .i .i64, .i .i64, .b, .i .i64, .i .i64]) ⟨9, 80, [.int .i64 0, .int .i64 0, .int .i64 0, .str ⟨#[]⟩, .int .i64 0, .int .i64 0, .bool false, .int .i64 0, .int .i64 0], true, .st [(0, 29), (4, 3), (5, 3), (6, 4), (7, 3), (8, 3)], true⟩ h972 v995 fun v996 =>
  gVA v996 fun c997 =>
  (c997[0]?).bind fun x998 =>
  gI .i64 x998 fun i999 =>
  (c997[1]?).bind fun x1000 =>
  gI .i64 x1000 fun i1001 =>
  (c997[2]?).bind fun x1002 =>
  gI .i64 x1002 fun i1003 =>
  (c997[3]?).bind fun x1004 =>
  gS x1004 fun y1005 =>
  (c997[4]?).bind fun x1006 =>
  gI .i64 x1006 fun i1007 =>
  (c997[5]?).bind fun x1008 =>
  gI .i64 x1008 fun i1009 =>
  (c997[6]?).bind fun x1010 =>
  gB x1010 fun q1011 =>
  (c997[7]?).bind fun x1012 =>
  gI .i64 x1012 fun i1013 =>
  (c997[8]?).bind fun x1014 =>
  gI .i64 x1014 fun i1015 =>
  if c997.length = 9 then
  pcallS (call Ev) Fn.impl_look_1 [.agg [.int .i64 i978, .int .i64 i980, .int .i64 i982, .str y984, .int .i64 i986, .int .i64 i988, .bool q990, .int .i64 i992, .int .i64 i994], .agg [.int .i64 i999, .int .i64 i1001, .int .i64 i1003, .str y1005, .int .i64 i1007, .int .i64 i1009, .bool q1011, .int .i64 i1013, .int .i64 i1015]] fun v1016 =>
  gV1 v1016 fun x1017 =>
  gI .i64 x1017 fun i1018 =>
  hchk h972 h972 (
  Jn.slices_pdqsortCmpFunc_impl_seen_l0_4 true (.s (.fn Fn.impl_look_1 [])) s0 (iv .i64 s1) (iv .i64 (IntKind.i64.wrap (s1 - 1))) v974 (.agg [.int .i64 i978, .int .i64 i980, .int .i64 i982, .str y984, .int .i64 i986, .int .i64 i988, .bool q990, .int .i64 i992, .int .i64 i994]) s0 (iv .i64 i858) v995 (.agg [.int .i64 i999, .int .i64 i1001, .int .i64 i1003, .str y1005, .int .i64 i1007, .int .i64 i1009, .bool q1011, .int .i64 i1013, .int .i64 i1015]) (iv .i64 i1018) (bv (decide (i1018 < 0))) (bv (!(decide (i1018 < 0)))) (!(decide (i1018 < 0))) s0 s1 s2 i858 h972 i851 s10 s11 h)
  else none
  else none)
  (hchk h972 h972 (
  Jn.slices_pdqsortCmpFunc_impl_seen_l0_4 false (.tup []) (.tup []) (.tup []) (.tup []) (.tup []) (.tup []) (.tup []) (.tup []) (.tup []) (.tup []) (.tup []) (.tup []) (.tup []) false s0 s1 s2 i858 h972 i851 s10 s11 h))

noncomputable def Jn.slices_pdqsortCmpFunc_impl_seen_l0_6 (q966 : Bool) (s0 : V) (s1 : Int) (s2 : Int) (h852 : H) (i858 : Int) (i851 : Int) (s10 : Bool) (s11 : Bool) (h : H) : Option (LOut) :=
  vcase (bv q966)
  ((call Ev Fn.slices_partialInsertionSortCmpFunc_impl_seen [s0, iv .i64 s1, iv .i64 s2, .s (.fn Fn.impl_look_1 [])] h852).bind fun p968 =>
  gV1 p968.1 fun x969 =>
  gB x969 fun q970 =>
  vcase (bv q970)
  (some (.ret (.tup []) (tidy h852 [p968.1] p968.2)))
  (Jn.slices_pdqsortCmpFunc_impl_seen_l0_5 (tidy h852 [p968.1] p968.2) s1 s0 i858 s2 i851 s10 s11 h))
  (Jn.slices_pdqsortCmpFunc_impl_seen_l0_5 h852 s1 s0 i858 s2 i851 s10 s11 h)

noncomputable def Jn.slices_pdqsortCmpFunc_impl_seen_l0_7 (q962 : Bool) (i861 : Int) (s0 : V) (s1 : Int) (s2 : Int) (h852 : H) (i858 : Int) (i851 : Int) (s10 : Bool) (s11 : Bool) (h : H) : Option (LOut) :=
  vcase (bv q962)
  (Jn.slices_pdqsortCmpFunc_impl_seen_l0_6 (i861 == 1) s0 s1 s2 h852 i858 i851 s10 s11 h)
  (Jn.slices_pdqsortCmpFunc_impl_seen_l0_6 false s0 s1 s2 h852 i858 i851 s10 s11 h)

noncomputable def Jn.slices_pdqsortCmpFunc_impl_seen_l0_8 (i851 : Int) (h852 : H) (s0 : V) (s1 : Int) (s2 : Int) (s10 : Bool) (s11 : Bool) (h : H) : Option (LOut) :=
  (frzVs h852 [s0, iv .i64 s1, iv .i64 s2, .s (.fn Fn.impl_look_1 [])]).bind fun l853 =>
  pcallS (call Ev) Fn.slices_choosePivotCmpFunc_impl_seen (normVs [] l853) fun v854 =>
  gVT v854 fun u855 =>
  (u855[0]?).bind fun t856 =>
  gA1 t856 fun x857 =>
  gI .i64 x857 fun i858 =>
  (u855[1]?).bind fun t859 =>
  gA1 t859 fun x860 =>
  gI .i64 x860 fun i861 =>
  if u855.length = 2 then
  vcase (bv (i861 == 2))
  ((call Ev Fn.slices_reverseRangeCmpFunc_impl_seen [s0, iv .i64 s1, iv .i64 s2, .s (.fn Fn.impl_look_1 [])] h852).bind fun p863 =>
  vcase (bv s10)
  (Jn.slices_pdqsortCmpFunc_impl_seen_l0_3 s11 s0 s1 s2 h852 p863 i858 i851 s10 s11 h)
  (Jn.slices_pdqsortCmpFunc_impl_seen_l0_3 false s0 s1 s2 h852 p863 i858 i851 s10 s11 h))
  (vcase (bv s10)
  (Jn.slices_pdqsortCmpFunc_impl_seen_l0_7 s11 i861 s0 s1 s2 h852 i858 i851 s10 s11 h)
  (Jn.slices_pdqsortCmpFunc_impl_seen_l0_7 false i861 s0 s1 s2 h852 i858 i851 s10 s11 h))
  else none

theorem eq_slices_pdqsortCmpFunc_impl_seen_l0 (s0 : V) (s1 : Int) (s2 : Int) (s3 : Int) (s10 : Bool) (s11 : Bool) (h : H) : Lp.slices_pdqsortCmpFunc_impl_seen 0 [s0, iv .i64 s1, iv .i64 s2, iv .i64 s3, .s (.fn Fn.impl_look_1 []), bv s10, bv s11] h =
  vcase (bv (decide ((IntKind.i64.wrap (s2 - s1)) ≤ 12)))
  ((call Ev Fn.slices_insertionSortCmpFunc_impl_seen [s0, iv .i64 s1, iv .i64 s2, .s (.fn Fn.impl_look_1 [])] h).bind fun p203 =>
  some (.ret (.tup []) (tidy h [p203.1] p203.2)))
  (vcase (bv (s3 == 0))
  ((call Ev Fn.slices_heapSortCmpFunc_impl_seen [s0, iv .i64 s1, iv .i64 s2, .s (.fn Fn.impl_look_1 [])] h).bind fun p205 =>
  some (.ret (.tup []) (tidy h [p205.1] p205.2)))
  (vcase (bv (!s10))
  ((call Ev Fn.slices_breakPatternsCmpFunc_impl_seen [s0, iv .i64 s1, iv .i64 s2, .s (.fn Fn.impl_look_1 [])] h).bind fun p207 =>
  Jn.slices_pdqsortCmpFunc_impl_seen_l0_8 (IntKind.i64.wrap (s3 - 1)) (tidy h [p207.1] p207.2) s0 s1 s2 s10 s11 h)
  (Jn.slices_pdqsortCmpFunc_impl_seen_l0_8 s3 h s0 s1 s2 s10 s11 h))) := by
  unfold Lp.slices_pdqsortCmpFunc_impl_seen; rw [loop_eq]; kernel_rfl

theorem eq_slices_SortFunc_impl_seen_impl_seen (a0 : V) (h : H) : call Ev Fn.slices_SortFunc_impl_seen_impl_seen [a0, .s (.fn Fn.impl_look_1 [])] h =
  (lenV (.sl 89) a0).bind fun v101 =>
  gV1 v101 fun x102 =>
  gI .i64 x102 fun i103 =>
  pcallS (call Ev) Fn.bits_Len [iv .u64 (IntKind.u64.wrap i103)] fun v104 =>
  gV1 v104 fun x105 =>
  gI .i64 x105 fun i106 =>
  (call Ev Fn.slices_pdqsortCmpFunc_impl_seen [a0, iv .i64 0, iv .i64 i103, iv .i64 i106, .s (.fn Fn.impl_look_1 [])] h).bind fun p107 =>
  some (.tup [], tidy h [p107.1] p107.2) := by
  rw [call_eq]; kernel_rfl

theorem pu_impl_order (a0_0 : Int) (a0_1 : Int) (a0_2 : Int) (a0_3 : ByteArray) (a1_0 : Int) (a1_1 : Int) (a1_2 : Int) (a1_3 : ByteArray) : pureV (call Ev) Fn.impl_order [.agg [.int .i64 a0_0, .int .i64 a0_1, .int .i64 a0_2, .str a0_3], .agg [.int .i64 a1_0, .int .i64 a1_1, .int .i64 a1_2, .str a1_3]] =
  pcallS (call Ev) Fn.impl_IsBefore [.agg [.int .i64 a0_0, .int .i64 a0_1, .int .i64 a0_2, .str a0_3], .agg [.int .i64 a1_0, .int .i64 a1_1, .int .i64 a1_2, .str a1_3]] fun v102 =>
  gV1 v102 fun x103 =>
  gB x103 fun q104 =>
  vcase (bv q104)
  (some (iv .i64 (-1)))
  (pcallS (call Ev) Fn.impl_IsBefore [.agg [.int .i64 a1_0, .int .i64 a1_1, .int .i64 a1_2, .str a1_3], .agg [.int .i64 a0_0, .int .i64 a0_1, .int .i64 a0_2, .str a0_3]] fun v106 =>
  gV1 v106 fun x107 =>
  gB x107 fun q108 =>
  vcase (bv q108)
  (some (iv .i64 1))
  (some (iv .i64 0))) := by
  rw [pure_eq]; kernel_rfl

theorem pu_impl_look_1 (a0_0 : Int) (a0_1 : Int) (a0_2 : Int) (a0_3 : ByteArray) (a0_4 : Int) (a0_5 : Int) (a0_6 : Bool) (a0_7 : Int) (a0_8 : Int) (a1_0 : Int) (a1_1 : Int) (a1_2 : Int) (a1_3 : ByteArray) (a1_4 : Int) (a1_5 : Int) (a1_6 : Bool) (a1_7 : Int) (a1_8 : Int) : pureV (call Ev) Fn.impl_look_1 [.agg [.int .i64 a0_0, .int .i64 a0_1, .int .i64 a0_2, .str a0_3, .int .i64 a0_4, .int .i64 a0_5, .bool a0_6, .int .i64 a0_7, .int .i64 a0_8], .agg [.int .i64 a1_0, .int .i64 a1_1, .int .i64 a1_2, .str a1_3, .int .i64 a1_4, .int .i64 a1_5, .bool a1_6, .int .i64 a1_7, .int .i64 a1_8]] =
  pcallS (call Ev) Fn.impl_order [.agg [.int .i64 a0_0, .int .i64 a0_1, .int .i64 a0_2, .str a0_3], .agg [.int .i64 a1_0, .int .i64 a1_1, .int .i64 a1_2, .str a1_3]] fun v101 =>
  gV1 v101 fun x102 =>
  gI .i64 x102 fun i103 =>
  some (iv .i64 i103) := by
  rw [pure_eq]; kernel_rfl

theorem eq_impl_look (a0 : List (List S)) (n : Nat) : call Ev Fn.impl_look [lv a0] (D n) =
  (Lp.impl_look 0 [.s (.sl none 0), .s (.sl none 0), .s (.mp (some ((D n).n))), lv a0, iv .i64 (a0.length : Int), iv .i64 0] ((D n).newM)).bind fun o101 => lcase o101 (fun l102 h103 =>
  (l102[0]?).bind fun w106 =>
  (l102[1]?).bind fun w107 =>
  (l102[2]?).bind fun w108 =>
  (lenV (.sl 89) w107).bind fun v109 =>
  gV1 v109 fun x110 =>
  gI .i64 x110 fun i111 =>
  (Lp.impl_look 5 [w106, w107, w108, w107, iv .i64 i111, iv .i64 0] h103).bind fun o112 => lcase o112 (fun l113 h114 =>
  (l113[0]?).bind fun w117 =>
  (l113[1]?).bind fun w118 =>
  (l113[2]?).bind fun w119 =>
  (lenV (.sl 89) w118).bind fun v120 =>
  gV1 v120 fun x121 =>
  gI .i64 x121 fun i122 =>
  (Lp.impl_look 7 [w117, w119, .s (.mp (some h114.n)), w118, iv .i64 i122, iv .i64 0] h114.newM).bind fun o123 => lcase o123 (fun l124 h125 =>
  (l124[0]?).bind fun w128 =>
  (call Ev Fn.slices_SortFunc_impl_seen_impl_seen [w128, .s (.fn Fn.impl_look_1 [])] h125).bind fun p129 =>
  (Lp.impl_look 9 [w128, iv .i64 1] (tidy h125 [p129.1] p129.2)).bind fun o130 => lcase o130 (fun l131 h132 =>
  (l131[0]?).bind fun w135 =>
  (V.toA w135).bind fun t136 =>
  some (.tup [t136, .s (.int .i64 0)], h132)) (fun v133 h134 =>
  some (v133, h134))) (fun v126 h127 =>
  some (v126, h127))) (fun v115 h116 =>
  some (v115, h116))) (fun v104 h105 =>
  some (v104, h105)) := by
  rw [call_eq]; kernel_rfl

theorem eq_impl_look_l0 (s4 : V) (s5 : V) (s6 : V) (s21 : List (List S)) (s22 : Int) (s23 : Int) (h : H) : Lp.impl_look 0 [s4, s5, s6, lv s21, iv .i64 s22, iv .i64 s23] h =
  vcase (bv (decide (s23 < s22)))
  (idxF 1 s21 s23 fun r203 =>
  (r203[0]?).bind fun x204 =>
  gF x204 fun z205 =>
  pcallS (call Ev) Fn.impl_slots [lv z205] fun v206 =>
  gV1 v206 fun x207 =>
  gI .i64 x207 fun i208 =>
  (Lp.impl_look 2 [s4, s5, s6, iv .i64 s23, lv z205, lv s21, iv .i64 s22, iv .i64 s23, iv .i64 i208, iv .i64 0] h).bind fun o209 => lcase o209 (fun l210 h211 =>
  (l210[0]?).bind fun w214 =>
  (l210[1]?).bind fun w215 =>
  (l210[2]?).bind fun w216 =>
  (l210[3]?).bind fun w217 =>
  gV1 w217 fun x218 =>
  gF x218 fun z219 =>
  (l210[4]?).bind fun w220 =>
  gV1 w220 fun x221 =>
  gI .i64 x221 fun i222 =>
  (l210[5]?).bind fun w223 =>
  gV1 w223 fun x224 =>
  gI .i64 x224 fun i225 =>
  Lp.impl_look 0 [w214, w215, w216, lv z219, iv .i64 i222, iv .i64 (IntKind.i64.wrap (i225 + 1))] (tidy h [w214, w215, w216, lv z219, iv .i64 i222, iv .i64 (IntKind.i64.wrap (i225 + 1))] h211)) (fun v212 h213 =>
  some (.ret v212 h213)))
  (some (.done [s4, s5, s6] (tidy h [s4, s5, s6] h))) := by
  unfold Lp.impl_look; rw [loop_eq]; kernel_rfl

theorem eq_impl_look_l2 (s4 : V) (s5 : V) (s6 : V) (s7 : Int) (s8 : List (List S)) (s21 : List (List S)) (s22 : Int) (s23 : Int) (s29 : Int) (s30 : Int) (h : H) : Lp.impl_look 2 [s4, s5, s6, iv .i64 s7, lv s8, lv s21, iv .i64 s22, iv .i64 s23, iv .i64 s29, iv .i64 s30] h =
  vcase (bv (decide (s30 < s29)))
  (pcallS (call Ev) Fn.impl_hasSlot [lv s8, iv .i64 s30] fun v403 =>
  gV1 v403 fun x404 =>
  gB x404 fun q405 =>
  vcase (bv (!q405))
  (Lp.impl_look 2 [s4, s5, s6, iv .i64 s7, lv s8, lv s21, iv .i64 s22, iv .i64 s23, iv .i64 s29, iv .i64 (IntKind.i64.wrap (s30 + 1))] (tidy h [s4, s5, s6, iv .i64 s7, lv s8, lv s21, iv .i64 s22, iv .i64 s23, iv .i64 s29, iv .i64 (IntKind.i64.wrap (s30 + 1))] h))
  ((pureV (call Ev) Fn.impl_cellAt [lv s8, iv .i64 s30]).bind fun v407 =>
  gV1 v407 fun x408 =>
  gF x408 fun z409 =>
  pcallS (call Ev) Fn.impl_UnpackCell [lv z409] fun v410 =>
  gVA v410 fun c411 =>
  (c411[0]?).bind fun x412 =>
  gI .i64 x412 fun i413 =>
  (c411[1]?).bind fun x414 =>
  gI .i64 x414 fun i415 =>
  (c411[2]?).bind fun x416 =>
  gI .i64 x416 fun i417 =>
  (c411[3]?).bind fun x418 =>
  gI .i64 x418 fun i419 =>
  (c411[4]?).bind fun x420 =>
  gI .i64 x420 fun i421 =>
  (c411[5]?).bind fun x422 =>
  gI .i64 x422 fun i423 =>
  (c411[6]?).bind fun x424 =>
  gI .i64 x424 fun i425 =>
  (c411[7]?).bind fun x426 =>
  gS x426 fun y427 =>
  if c411.length = 8 then
  stK 8 (h.new 0 [.int .i64 0, .int .i64 0, .int .i64 0, .int .i64 0, .int .i64 0, .int .i64 0, .int .i64 0, .str (⟨#[]⟩)]) (pv h.n 0) (.agg [.int .i64 i413, .int .i64 i415, .int .i64 i417, .int .i64 i419, .int .i64 i421, .int .i64 i423, .int .i64 i425, .str y427]) fun h428 =>
  (load1 h428 (pv h.n 0)).bind fun x430 =>
  gI .i64 x430 fun i431 =>
  vcase (bv (i431 != 0))
  (some (.ret (.tup [.s (.sl none 0), .s (.int .i64 5)]) h428))
  ((load1 h428 (pv h.n 1)).bind fun x433 =>
  gI .i64 x433 fun i434 =>
  vcase (bv (i434 == 0))
  ((loadN 4 h428 (pv h.n 4)).bind fun c436 =>
  (c436[0]?).bind fun x437 =>
  gI .i64 x437 fun i438 =>
  (c436[1]?).bind fun x439 =>
  gI .i64 x439 fun i440 =>
  (c436[2]?).bind fun x441 =>
  gI .i64 x441 fun i442 =>
  (c436[3]?).bind fun x443 =>
  gS x443 fun y444 =>
  if c436.length = 4 then
  (appS 9 (h428.new 9 [.int .i64 i438, .int .i64 i440, .int .i64 i442, .str y444, .int .i64 s7, .int .i64 s30, .bool false, .int .i64 s7, .int .i64 s30]) s4 (sv h428.n 0 1)).bind fun p445 =>
  Lp.impl_look 2 [p445.1, s5, s6, iv .i64 s7, lv s8, lv s21, iv .i64 s22, iv .i64 s23, iv .i64 s29, iv .i64 (IntKind.i64.wrap (s30 + 1))] (tidy h [p445.1, s5, s6, iv .i64 s7, lv s8, lv s21, iv .i64 s22, iv .i64 s23, iv .i64 s29, iv .i64 (IntKind.i64.wrap (s30 + 1))] p445.2)
  else none)
  ((load1 h428 (pv h.n 1)).bind fun x446 =>
  gI .i64 x446 fun i447 =>
  vcase (bv (i447 == 2))
  ((loadN 4 h428 (pv h.n 4)).bind fun c449 =>
  (c449[0]?).bind fun x450 =>
  gI .i64 x450 fun i451 =>
  (c449[1]?).bind fun x452 =>
  gI .i64 x452 fun i453 =>
  (c449[2]?).bind fun x454 =>
  gI .i64 x454 fun i455 =>
  (c449[3]?).bind fun x456 =>
  gS x456 fun y457 =>
  if c449.length = 4 then
  (updM Ev 178 h428 s6 (.agg [.int .i64 s7, .int .i64 s30]) (.agg [.int .i64 i451, .int .i64 i453, .int .i64 i455, .str y457])).bind fun h458 =>
  Lp.impl_look 2 [s4, s5, s6, iv .i64 s7, lv s8, lv s21, iv .i64 s22, iv .i64 s23, iv .i64 s29, iv .i64 (IntKind.i64.wrap (s30 + 1))] (tidy h [s4, s5, s6, iv .i64 s7, lv s8, lv s21, iv .i64 s22, iv .i64 s23, iv .i64 s29, iv .i64 (IntKind.i64.wrap (s30 + 1))] h458)
  else none)
  ((load1 h428 (pv h.n 2)).bind fun x459 =>
  gI .i64 x459 fun i460 =>
  (load1 h428 (pv h.n 3)).bind fun x461 =>
  gI .i64 x461 fun i462 =>
  (appS 9 (h428.new 9 [.int .i64 0, .int .i64 0, .int .i64 0, .str (⟨#[]⟩), .int .i64 s7, .int .i64 s30, .bool true, .int .i64 i460, .int .i64 i462]) s5 (sv h428.n 0 1)).bind fun p463 =>
  Lp.impl_look 2 [s4, p463.1, s6, iv .i64 s7, lv s8, lv s21, iv .i64 s22, iv .i64 s23, iv .i64 s29, iv .i64 (IntKind.i64.wrap (s30 + 1))] (tidy h [s4, p463.1, s6, iv .i64 s7, lv s8, lv s21, iv .i64 s22, iv .i64 s23, iv .i64 s29, iv .i64 (IntKind.i64.wrap (s30 + 1))] p463.2))))
  else none))
  (some (.done [s4, s5, s6, lv s21, iv .i64 s22, iv .i64 s23] (tidy h [s4, s5, s6, lv s21, iv .i64 s22, iv .i64 s23] h))) := by
  unfold Lp.impl_look; rw [loop_eq]; kernel_rfl

theorem eq_impl_look_l5 (s4 : V) (s5 : V) (s6 : V) (s81 : V) (s82 : Int) (s83 : Int) (h : H) : Lp.impl_look 5 [s4, s5, s6, s81, iv .i64 s82, iv .i64 s83] h =
  vcase (bv (decide (s83 < s82)))
  (idxK 9 s81 (iv .i64 s83) fun v703 =>
  ldK (.agg [.i .i64, .i .i64, .i .i64, .s, .i .i64, .i .i64, .b, .i .i64, .i .i64]) ⟨9, 80, [.int .i64 0, .int .i64 0, .int .i64 0, .str ⟨#[]⟩, .int .i64 0, .int .i64 0, .bool false, .int .i64 0, .int .i64 0], true, .st [(0, 29), (4, 3), (5, 3), (6, 4), (7, 3), (8, 3)], true⟩ h v703 fun v704 =>
  gVA v704 fun c705 =>
  (c705[0]?).bind fun x706 =>
  gI .i64 x706 fun i707 =>
  (c705[1]?).bind fun x708 =>
  gI .i64 x708 fun i709 =>
  (c705[2]?).bind fun x710 =>
  gI .i64 x710 fun i711 =>
  (c705[3]?).bind fun x712 =>
  gS x712 fun y713 =>
  (c705[4]?).bind fun x714 =>
  gI .i64 x714 fun i715 =>
  (c705[5]?).bind fun x716 =>
  gI .i64 x716 fun i717 =>
  (c705[6]?).bind fun x718 =>
  gB x718 fun q719 =>
  (c705[7]?).bind fun x720 =>
  gI .i64 x720 fun i721 =>
  (c705[8]?).bind fun x722 =>
  gI .i64 x722 fun i723 =>
  if c705.length = 9 then
  stK 9 (h.new 0 [.int .i64 0, .int .i64 0, .int .i64 0, .str (⟨#[]⟩), .int .i64 0, .int .i64 0, .bool false, .int .i64 0, .int .i64 0]) (pv h.n 0) (.agg [.int .i64 i707, .int .i64 i709, .int .i64 i711, .str y713, .int .i64 i715, .int .i64 i717, .bool q719, .int .i64 i721, .int .i64 i723]) fun h724 =>
  (load1 h724 (pv h.n 7)).bind fun x725 =>
  gI .i64 x725 fun i726 =>
  (load1 h724 (pv h.n 8)).bind fun x727 =>
  gI .i64 x727 fun i728 =>
  (lookM Ev 178 true h724 s6 (.agg [.int .i64 i726, .int .i64 i728])).bind fun v729 =>
  gVT v729 fun u730 =>
  (u730[0]?).bind fun t731 =>
  gAA t731 fun c732 =>
  (c732[0]?).bind fun x733 =>
  gI .i64 x733 fun i734 =>
  (c732[1]?).bind fun x735 =>
  gI .i64 x735 fun i736 =>
  (c732[2]?).bind fun x737 =>
  gI .i64 x737 fun i738 =>
  (c732[3]?).bind fun x739 =>
  gS x739 fun y740 =>
  if c732.length = 4 then
  (u730[1]?).bind fun t741 =>
  gA1 t741 fun x742 =>
  gB x742 fun q743 =>
  if u730.length = 2 then
  stK 4 (h724.new 0 [.int .i64 0, .int .i64 0, .int .i64 0, .str (⟨#[]⟩)]) (pv h724.n 0) (.agg [.int .i64 i734, .int .i64 i736, .int .i64 i738, .str y740]) fun h744 =>
  vcase (bv (!q743))
  (some (.ret (.tup [.s (.sl none 0), .s (.int .i64 4)]) h744))
  (Lp.impl_look 5 [s4, s5, s6, s81, iv .i64 s82, iv .i64 (IntKind.i64.wrap (s83 + 1))] (tidy h [s4, s5, s6, s81, iv .i64 s82, iv .i64 (IntKind.i64.wrap (s83 + 1))] h744))
  else none
  else none
  else none)
  (some (.done [s4, s5, s6] (tidy h [s4, s5, s6] h))) := by
  unfold Lp.impl_look; rw [loop_eq]; kernel_rfl

theorem eq_impl_look_l7 (s4 : V) (s6 : V) (s15 : V) (s101 : V) (s102 : Int) (s103 : Int) (h : H) : Lp.impl_look 7 [s4, s6, s15, s101, iv .i64 s102, iv .i64 s103] h =
  vcase (bv (decide (s103 < s102)))
  (idxK 9 s101 (iv .i64 s103) fun v903 =>
  ldK (.agg [.i .i64, .i .i64, .i .i64, .s, .i .i64, .i .i64, .b, .i .i64, .i .i64]) ⟨9, 80, [.int .i64 0, .int .i64 0, .int .i64 0, .str ⟨#[]⟩, .int .i64 0, .int .i64 0, .bool false, .int .i64 0, .int .i64 0], true, .st [(0, 29), (4, 3), (5, 3), (6, 4), (7, 3), (8, 3)], true⟩ h v903 fun v904 =>
  gVA v904 fun c905 =>
  (c905[0]?).bind fun x906 =>
  gI .i64 x906 fun i907 =>
  (c905[1]?).bind fun x908 =>
  gI .i64 x908 fun i909 =>
  (c905[2]?).bind fun x910 =>
  gI .i64 x910 fun i911 =>
  (c905[3]?).bind fun x912 =>
  gS x912 fun y913 =>
  (c905[4]?).bind fun x914 =>
  gI .i64 x914 fun i915 =>
  (c905[5]?).bind fun x916 =>
  gI .i64 x916 fun i917 =>
  (c905[6]?).bind fun x918 =>
  gB x918 fun q919 =>
  (c905[7]?).bind fun x920 =>
  gI .i64 x920 fun i921 =>
  (c905[8]?).bind fun x922 =>
  gI .i64 x922 fun i923 =>
  if c905.length = 9 then
  stK 9 (h.new 0 [.int .i64 0, .int .i64 0, .int .i64 0, .str (⟨#[]⟩), .int .i64 0, .int .i64 0, .bool false, .int .i64 0, .int .i64 0]) (pv h.n 0) (.agg [.int .i64 i907, .int .i64 i909, .int .i64 i911, .str y913, .int .i64 i915, .int .i64 i917, .bool q919, .int .i64 i921, .int .i64 i923]) fun h924 =>
  (load1 h924 (pv h.n 7)).bind fun x925 =>
  gI .i64 x925 fun i926 =>
  (load1 h924 (pv h.n 8)).bind fun x927 =>
  gI .i64 x927 fun i928 =>
  stK 2 (h924.new 0 [.int .i64 0, .int .i64 0]) (pv h924.n 0) (.agg [.int .i64 i926, .int .i64 i928]) fun h929 =>
  (loadN 2 h929 (pv h924.n 0)).bind fun c930 =>
  (c930[0]?).bind fun x931 =>
  gI .i64 x931 fun i932 =>
  (c930[1]?).bind fun x933 =>
  gI .i64 x933 fun i934 =>
  if c930.length = 2 then
  (lookM Ev 181 false h929 s15 (.agg [.int .i64 i932, .int .i64 i934])).bind fun v935 =>
  gV1 v935 fun x936 =>
  gB x936 fun q937 =>
  vcase (bv q937)
  (some (.ret (.tup [.s (.sl none 0), .s (.int .i64 6)]) h929))
  ((loadN 2 h929 (pv h924.n 0)).bind fun c939 =>
  (c939[0]?).bind fun x940 =>
  gI .i64 x940 fun i941 =>
  (c939[1]?).bind fun x942 =>
  gI .i64 x942 fun i943 =>
  if c939.length = 2 then
  (updM Ev 181 h929 s15 (.agg [.int .i64 i941, .int .i64 i943]) (bv true)).bind fun h944 =>
  (loadN 2 h944 (pv h924.n 0)).bind fun c945 =>
  (c945[0]?).bind fun x946 =>
  gI .i64 x946 fun i947 =>
  (c945[1]?).bind fun x948 =>
  gI .i64 x948 fun i949 =>
  if c945.length = 2 then
  (lookM Ev 178 false h944 s6 (.agg [.int .i64 i947, .int .i64 i949])).bind fun v950 =>
  gVA v950 fun c951 =>
  (c951[0]?).bind fun x952 =>
  gI .i64 x952 fun i953 =>
  (c951[1]?).bind fun x954 =>
  gI .i64 x954 fun i955 =>
  (c951[2]?).bind fun x956 =>
  gI .i64 x956 fun i957 =>
  (c951[3]?).bind fun x958 =>
  gS x958 fun y959 =>
  if c951.length = 4 then
  stK 4 h944 (pv h.n 0) (.agg [.int .i64 i953, .int .i64 i955, .int .i64 i957, .str y959]) fun h960 =>
  (loadN 9 h960 (pv h.n 0)).bind fun c961 =>
  (c961[0]?).bind fun x962 =>
  gI .i64 x962 fun i963 =>
  (c961[1]?).bind fun x964 =>
  gI .i64 x964 fun i965 =>
  (c961[2]?).bind fun x966 =>
  gI .i64 x966 fun i967 =>
  (c961[3]?).bind fun x968 =>
  gS x968 fun y969 =>
  (c961[4]?).bind fun x970 =>
  gI .i64 x970 fun i971 =>
  (c961[5]?).bind fun x972 =>
  gI .i64 x972 fun i973 =>
  (c961[6]?).bind fun x974 =>
  gB x974 fun q975 =>
  (c961[7]?).bind fun x976 =>
  gI .i64 x976 fun i977 =>
  (c961[8]?).bind fun x978 =>
  gI .i64 x978 fun i979 =>
  if c961.length = 9 then
  (appS 9 (h960.new 9 [.int .i64 i963, .int .i64 i965, .int .i64 i967, .str y969, .int .i64 i971, .int .i64 i973, .bool q975, .int .i64 i977, .int .i64 i979]) s4 (sv h960.n 0 1)).bind fun p980 =>
  Lp.impl_look 7 [p980.1, s6, s15, s101, iv .i64 s102, iv .i64 (IntKind.i64.wrap (s103 + 1))] (tidy h [p980.1, s6, s15, s101, iv .i64 s102, iv .i64 (IntKind.i64.wrap (s103 + 1))] p980.2)
  else none
  else none
  else none
  else none)
  else none
  else none)
  (some (.done [s4] (tidy h [s4] h))) := by
  unfold Lp.impl_look; rw [loop_eq]; kernel_rfl

theorem eq_impl_look_l9 (s4 : V) (s19 : Int) (h : H) : Lp.impl_look 9 [s4, iv .i64 s19] h =
  (lenV (.sl 89) s4).bind fun v1101 =>
  gV1 v1101 fun x1102 =>
  gI .i64 x1102 fun i1103 =>
  vcase (bv (decide (s19 < i1103)))
  (idxK 9 s4 (iv .i64 (IntKind.i64.wrap (s19 - 1))) fun v1106 =>
  (padd 0 v1106).bind fun v1107 =>
  ldK (.agg [.i .i64, .i .i64, .i .i64, .s]) ⟨4, 40, [.int .i64 0, .int .i64 0, .int .i64 0, .str ⟨#[]⟩], true, .st [(0, 2), (1, 2), (2, 2), (3, 9)], true⟩ h v1107 fun v1108 =>
  gVA v1108 fun c1109 =>
  (c1109[0]?).bind fun x1110 =>
  gI .i64 x1110 fun i1111 =>
  (c1109[1]?).bind fun x1112 =>
  gI .i64 x1112 fun i1113 =>
  (c1109[2]?).bind fun x1114 =>
  gI .i64 x1114 fun i1115 =>
  (c1109[3]?).bind fun x1116 =>
  gS x1116 fun y1117 =>
  if c1109.length = 4 then
  idxK 9 s4 (iv .i64 s19) fun v1118 =>
  (padd 0 v1118).bind fun v1119 =>
  ldK (.agg [.i .i64, .i .i64, .i .i64, .s]) ⟨4, 40, [.int .i64 0, .int .i64 0, .int .i64 0, .str ⟨#[]⟩], true, .st [(0, 2), (1, 2), (2, 2), (3, 9)], true⟩ h v1119 fun v1120 =>
  gVA v1120 fun c1121 =>
  (c1121[0]?).bind fun x1122 =>
  gI .i64 x1122 fun i1123 =>
  (c1121[1]?).bind fun x1124 =>
  gI .i64 x1124 fun i1125 =>
  (c1121[2]?).bind fun x1126 =>
  gI .i64 x1126 fun i1127 =>
  (c1121[3]?).bind fun x1128 =>
  gS x1128 fun y1129 =>
  if c1121.length = 4 then
  pcallS (call Ev) Fn.impl_IsBefore [.agg [.int .i64 i1111, .int .i64 i1113, .int .i64 i1115, .str y1117], .agg [.int .i64 i1123, .int .i64 i1125, .int .i64 i1127, .str y1129]] fun v1130 =>
  gV1 v1130 fun x1131 =>
  gB x1131 fun q1132 =>
  hchk h h (
  vcase (bv (!q1132))
  (some (.ret (.tup [.s (.sl none 0), .s (.int .i64 8)]) h))
  (Lp.impl_look 9 [s4, iv .i64 (IntKind.i64.wrap (s19 + 1))] (tidy h [s4, iv .i64 (IntKind.i64.wrap (s19 + 1))] h)))
  else none
  else none)
  (some (.done [s4] (tidy h [s4] h))) := by
  unfold Lp.impl_look; rw [loop_eq]; kernel_rfl

theorem eq_impl_view (a0 : List (List S)) (n : Nat) : call Ev Fn.impl_view [lv a0] (D n) =
  vcase (bv (decide ((a0.length : Int) > 12)))
  (some (.tup [.s (.sl none 0), .s (.int .i64 2)], (D n)))
  ((Lp.impl_view 0 [lv a0, lv a0, iv .i64 (a0.length : Int), iv .i64 0] (D n)).bind fun o102 => lcase o102 (fun l103 h104 =>
  (l103[0]?).bind fun w107 =>
  gV1 w107 fun x108 =>
  gF x108 fun z109 =>
  pcallF (call Ev) Fn.impl_look true [lv z109] h104 fun v110 h111 =>
  gVT v110 fun u112 =>
  (u112[0]?).bind fun t113 =>
  gA1 t113 fun x114 =>
  (u112[1]?).bind fun t115 =>
  gA1 t115 fun x116 =>
  gI .i64 x116 fun i117 =>
  if u112.length = 2 then
  some (.tup [.s x114, .s (.int .i64 i117)], h111)
  else none) (fun v105 h106 =>
  some (v105, h106))) := by
  rw [call_eq]; kernel_rfl

theorem eq_impl_view_l0 (s0 : List (List S)) (s11 : List (List S)) (s12 : Int) (s13 : Int) (h : H) : Lp.impl_view 0 [lv s0, lv s11, iv .i64 s12, iv .i64 s13] h =
  vcase (bv (decide (s13 < s12)))
  (idxF 1 s11 s13 fun r203 =>
  (r203[0]?).bind fun x204 =>
  gF x204 fun z205 =>
  pcallS (call Ev) Fn.impl_PageFault [lv z205] fun v206 =>
  gV1 v206 fun x207 =>
  gI .i64 x207 fun i208 =>
  vcase (bv (i208 != 0))
  (some (.ret (.tup [.s (.sl none 0), .s (.int .i64 i208)]) h))
  (pcallS (call Ev) Fn.impl_slots [lv z205] fun v210 =>
  gV1 v210 fun x211 =>
  gI .i64 x211 fun i212 =>
  (Lp.impl_view 2 [lv s0, lv z205, lv s11, iv .i64 s12, iv .i64 s13, iv .i64 i212, iv .i64 0] h).bind fun o213 => lcase o213 (fun l214 h215 =>
  (l214[0]?).bind fun w218 =>
  gV1 w218 fun x219 =>
  gF x219 fun z220 =>
  (l214[1]?).bind fun w221 =>
  gV1 w221 fun x222 =>
  gF x222 fun z223 =>
  (l214[2]?).bind fun w224 =>
  gV1 w224 fun x225 =>
  gI .i64 x225 fun i226 =>
  (l214[3]?).bind fun w227 =>
  gV1 w227 fun x228 =>
  gI .i64 x228 fun i229 =>
  Lp.impl_view 0 [lv z220, lv z223, iv .i64 i226, iv .i64 (IntKind.i64.wrap (i229 + 1))] (tidy h [lv z220, lv z223, iv .i64 i226, iv .i64 (IntKind.i64.wrap (i229 + 1))] h215)) (fun v216 h217 =>
  some (.ret v216 h217))))
  (some (.done [lv s0] (tidy h [lv s0] h))) := by
  unfold Lp.impl_view; rw [loop_eq]; kernel_rfl

theorem eq_impl_view_l2 (s0 : List (List S)) (s5 : List (List S)) (s11 : List (List S)) (s12 : Int) (s13 : Int) (s23 : Int) (s24 : Int) (h : H) : Lp.impl_view 2 [lv s0, lv s5, lv s11, iv .i64 s12, iv .i64 s13, iv .i64 s23, iv .i64 s24] h =
  vcase (bv (decide (s24 < s23)))
  (pcallS (call Ev) Fn.impl_hasSlot [lv s5, iv .i64 s24] fun v403 =>
  gV1 v403 fun x404 =>
  gB x404 fun q405 =>
  vcase (bv q405)
  ((pureV (call Ev) Fn.impl_cellAt [lv s5, iv .i64 s24]).bind fun v407 =>
  gV1 v407 fun x408 =>
  gF x408 fun z409 =>
  pcallS (call Ev) Fn.impl_UnpackCell [lv z409] fun v410 =>
  gVA v410 fun c411 =>
  (c411[0]?).bind fun x412 =>
  gI .i64 x412 fun i413 =>
  (c411[1]?).bind fun x414 =>
  gI .i64 x414 fun i415 =>
  (c411[2]?).bind fun x416 =>
  gI .i64 x416 fun i417 =>
  (c411[3]?).bind fun x418 =>
  gI .i64 x418 fun i419 =>
  (c411[4]?).bind fun x420 =>
  gI .i64 x420 fun i421 =>
  (c411[5]?).bind fun x422 =>
  gI .i64 x422 fun i423 =>
  (c411[6]?).bind fun x424 =>
  gI .i64 x424 fun i425 =>
  (c411[7]?).bind fun x426 =>
  gS x426 fun y427 =>
  if c411.length = 8 then
  vcase (bv (i413 != 0))
  (some (.ret (.tup [.s (.sl none 0), .s (.int .i64 5)]) h))
  (Lp.impl_view 2 [lv s0, lv s5, lv s11, iv .i64 s12, iv .i64 s13, iv .i64 s23, iv .i64 (IntKind.i64.wrap (s24 + 1))] (tidy h [lv s0, lv s5, lv s11, iv .i64 s12, iv .i64 s13, iv .i64 s23, iv .i64 (IntKind.i64.wrap (s24 + 1))] h))
  else none)
  (Lp.impl_view 2 [lv s0, lv s5, lv s11, iv .i64 s12, iv .i64 s13, iv .i64 s23, iv .i64 (IntKind.i64.wrap (s24 + 1))] (tidy h [lv s0, lv s5, lv s11, iv .i64 s12, iv .i64 s13, iv .i64 s23, iv .i64 (IntKind.i64.wrap (s24 + 1))] h)))
  (some (.done [lv s0, lv s11, iv .i64 s12, iv .i64 s13] (tidy h [lv s0, lv s11, iv .i64 s12, iv .i64 s13] h))) := by
  unfold Lp.impl_view; rw [loop_eq]; kernel_rfl

theorem pu_impl_PagesFault (a0 : List (List S)) : pureV (call Ev) Fn.impl_PagesFault [lv a0] =
  (pureV (call Ev) Fn.impl_view [lv a0]).bind fun v101 =>
  gVT v101 fun u102 =>
  (u102[0]?).bind fun t103 =>
  gA1 t103 fun x104 =>
  gF x104 fun z105 =>
  (u102[1]?).bind fun t106 =>
  gA1 t106 fun x107 =>
  gI .i64 x107 fun i108 =>
  if u102.length = 2 then
  some (iv .i64 i108)
  else none := by
  rw [pure_eq]; kernel_rfl

theorem pu_laws_eqByteS (a0 : List (List S)) (a1 : List (List S)) : pureV (call Ev) Fn.laws_eqByteS [lv a0, lv a1] =
  vcase (bv ((a0.length : Int) != (a1.length : Int)))
  (some (bv false))
  ((Lp.laws_eqByteS 0 [lv a0, lv a1, iv .i64 0] (D 0)).bind fun o102 => lcase o102 (fun l103 h104 =>
  some (bv true)) (fun v105 h106 =>
  frzV h106 v105)) := by
  rw [pure_eq]; kernel_rfl

theorem eq_laws_eqByteS_l0 (s0 : List (List S)) (s1 : List (List S)) (s5 : Int) (h : H) : Lp.laws_eqByteS 0 [lv s0, lv s1, iv .i64 s5] h =
  vcase (bv (decide (s5 < (s0.length : Int))))
  (idxF 1 s0 s5 fun r203 =>
  (r203[0]?).bind fun x204 =>
  gI .u8 x204 fun i205 =>
  idxF 1 s1 s5 fun r206 =>
  (r206[0]?).bind fun x207 =>
  gI .u8 x207 fun i208 =>
  vcase (bv (i205 != i208))
  (some (.ret (bv false) h))
  (Lp.laws_eqByteS 0 [lv s0, lv s1, iv .i64 (IntKind.i64.wrap (s5 + 1))] (tidy h [lv s0, lv s1, iv .i64 (IntKind.i64.wrap (s5 + 1))] h)))
  (some (.done [] (tidy h [] h))) := by
  unfold Lp.laws_eqByteS; rw [loop_eq]; kernel_rfl

theorem pu_laws_eqByteSS (a0 : List (List S)) (a1 : List (List S)) : pureV (call Ev) Fn.laws_eqByteSS [lv a0, lv a1] =
  vcase (bv ((a0.length : Int) != (a1.length : Int)))
  (some (bv false))
  ((Lp.laws_eqByteSS 0 [lv a0, lv a1, iv .i64 0] (D 0)).bind fun o102 => lcase o102 (fun l103 h104 =>
  some (bv true)) (fun v105 h106 =>
  frzV h106 v105)) := by
  rw [pure_eq]; kernel_rfl

theorem eq_laws_eqByteSS_l0 (s0 : List (List S)) (s1 : List (List S)) (s5 : Int) (h : H) : Lp.laws_eqByteSS 0 [lv s0, lv s1, iv .i64 s5] h =
  vcase (bv (decide (s5 < (s0.length : Int))))
  (idxF 1 s0 s5 fun r203 =>
  (r203[0]?).bind fun x204 =>
  gF x204 fun z205 =>
  idxF 1 s1 s5 fun r206 =>
  (r206[0]?).bind fun x207 =>
  gF x207 fun z208 =>
  pcallS (call Ev) Fn.laws_eqByteS [lv z205, lv z208] fun v209 =>
  gV1 v209 fun x210 =>
  gB x210 fun q211 =>
  hchk h h (
  vcase (bv (!q211))
  (some (.ret (bv false) h))
  (Lp.laws_eqByteSS 0 [lv s0, lv s1, iv .i64 (IntKind.i64.wrap (s5 + 1))] (tidy h [lv s0, lv s1, iv .i64 (IntKind.i64.wrap (s5 + 1))] h))))
  (some (.done [] (tidy h [] h))) := by
  unfold Lp.laws_eqByteSS; rw [loop_eq]; kernel_rfl

end Vm
