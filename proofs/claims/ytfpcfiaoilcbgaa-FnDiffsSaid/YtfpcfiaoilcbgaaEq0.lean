/-
  What each function, and each round of each loop, comes to in the small machine. Written by a program (gen3.py).
-/
import Derived.Test.YtfpcfiaoilcbgaaEnv
set_option linter.unusedVariables false
set_option maxRecDepth 100000
namespace Vm
open Go

theorem pu_laws_szRow (a0_0 : Int) (a0_1 : Int) (a0_2 : Int) (a0_3 : ByteArray) (a1 : Int) : pureV (call Ev) Fn.laws_szRow [.agg [.int .i64 a0_0, .int .i64 a0_1, .int .i64 a0_2, .str a0_3], iv .i64 a1] =
  vcase (bv (decide ((IntKind.i64.wrap (a1 - ((a0_3 : ByteArray).size : Int))) < 0)))
  (some (iv .i64 (-1)))
  (some (iv .i64 (IntKind.i64.wrap (a1 - ((a0_3 : ByteArray).size : Int))))) := by
  rw [pure_eq]; kernel_rfl

theorem pu_laws_szRowS (a0 : List (List S)) (a1 : Int) : pureV (call Ev) Fn.laws_szRowS [lv a0, iv .i64 a1] =
  vcase (bv (decide ((IntKind.i64.wrap (a1 - (a0.length : Int))) < 0)))
  (some (iv .i64 (-1)))
  ((Lp.laws_szRowS 0 [lv a0, iv .i64 (IntKind.i64.wrap (a1 - (a0.length : Int))), iv .i64 0] (D 0)).bind fun o102 => lcase o102 (fun l103 h104 =>
  (l103[0]?).bind fun w107 =>
  gV1 w107 fun x108 =>
  gI .i64 x108 fun i109 =>
  some (iv .i64 i109)) (fun v105 h106 =>
  frzV h106 v105)) := by
  rw [pure_eq]; kernel_rfl

theorem eq_laws_szRowS_l0 (s0 : List (List S)) (s1 : Int) (s5 : Int) (h : H) : Lp.laws_szRowS 0 [lv s0, iv .i64 s1, iv .i64 s5] h =
  vcase (bv (decide (s5 < (s0.length : Int))))
  (idxF 4 s0 s5 fun r203 =>
  (rowN 4 r203 0).bind fun c204 =>
  (c204[0]?).bind fun x205 =>
  gI .i64 x205 fun i206 =>
  (c204[1]?).bind fun x207 =>
  gI .i64 x207 fun i208 =>
  (c204[2]?).bind fun x209 =>
  gI .i64 x209 fun i210 =>
  (c204[3]?).bind fun x211 =>
  gS x211 fun y212 =>
  if c204.length = 4 then
  pcallS (call Ev) Fn.laws_szRow [.agg [.int .i64 i206, .int .i64 i208, .int .i64 i210, .str y212], iv .i64 s1] fun v213 =>
  gV1 v213 fun x214 =>
  gI .i64 x214 fun i215 =>
  vcase (bv (decide (i215 < 0)))
  (some (.ret (iv .i64 (-1)) h))
  (Lp.laws_szRowS 0 [lv s0, iv .i64 i215, iv .i64 (IntKind.i64.wrap (s5 + 1))] (tidy h [lv s0, iv .i64 i215, iv .i64 (IntKind.i64.wrap (s5 + 1))] h))
  else none)
  (some (.done [iv .i64 s1] (tidy h [iv .i64 s1] h))) := by
  unfold Lp.laws_szRowS; rw [loop_eq]; kernel_rfl

theorem pu_spec_l1In (a0 : Int) (a1 : Int) (a2 : Int) : pureV (call Ev) Fn.spec_l1In [iv .i64 a0, iv .i64 a1, iv .i64 a2] =
  vcase (bv (decide (a0 ≥ a1)))
  (some (bv (decide (a0 ≤ a2))))
  (some (bv false)) := by
  rw [pure_eq]; kernel_rfl

theorem pu_spec_l1Text (a0 : ByteArray) : pureV (call Ev) Fn.spec_l1Text [.s (.str a0)] =
  (Lp.spec_l1Text 0 [.s (.str a0), iv .i64 0] (D 0)).bind fun o101 => lcase o101 (fun l102 h103 =>
  (l102[0]?).bind fun w106 =>
  gV1 w106 fun x107 =>
  gS x107 fun y108 =>
  some (bv (decide (((y108 : ByteArray).size : Int) ≤ 8)))) (fun v104 h105 =>
  frzV h105 v104) := by
  rw [pure_eq]; kernel_rfl

theorem eq_spec_l1Text_l0 (s0 : ByteArray) (s3 : Int) (h : H) : Lp.spec_l1Text 0 [.s (.str s0), iv .i64 s3] h =
  vcase (bv (decide (s3 < ((s0 : ByteArray).size : Int))))
  ((idxStr (.s (.str s0)) (iv .i64 s3)).bind fun v203 =>
  gV1 v203 fun x204 =>
  gI .u8 x204 fun i205 =>
  vcase (bv (decide (i205 < 97)))
  (some (.ret (bv false) h))
  ((idxStr (.s (.str s0)) (iv .i64 s3)).bind fun v208 =>
  gV1 v208 fun x209 =>
  gI .u8 x209 fun i210 =>
  vcase (bv (decide (i210 > 122)))
  (some (.ret (bv false) h))
  (Lp.spec_l1Text 0 [.s (.str s0), iv .i64 (IntKind.i64.wrap (s3 + 1))] (tidy h [.s (.str s0), iv .i64 (IntKind.i64.wrap (s3 + 1))] h))))
  (some (.done [.s (.str s0)] (tidy h [.s (.str s0)] h))) := by
  unfold Lp.spec_l1Text; rw [loop_eq]; kernel_rfl

theorem pu_spec_l1Fault (a0_0 : Int) (a0_1 : Int) (a0_2 : Int) (a0_3 : ByteArray) : pureV (call Ev) Fn.spec_l1Fault [fv [.int .i64 a0_0, .int .i64 a0_1, .int .i64 a0_2, .str a0_3] 0] =
  pcallS (call Ev) Fn.spec_l1In [iv .i64 a0_0, iv .i64 0, iv .i64 3] fun v101 =>
  gV1 v101 fun x102 =>
  gB x102 fun q103 =>
  vcase (bv (!q103))
  (some (iv .i64 3))
  (pcallS (call Ev) Fn.spec_l1In [iv .i64 a0_1, iv .i64 1, iv .i64 99] fun v106 =>
  gV1 v106 fun x107 =>
  gB x107 fun q108 =>
  vcase (bv (!q108))
  (some (iv .i64 3))
  (pcallS (call Ev) Fn.spec_l1In [iv .i64 a0_2, iv .i64 0, iv .i64 999] fun v114 =>
  gV1 v114 fun x115 =>
  gB x115 fun q116 =>
  vcase (bv (!q116))
  (some (iv .i64 3))
  (pcallS (call Ev) Fn.spec_l1Text [.s (.str a0_3)] fun v120 =>
  gV1 v120 fun x121 =>
  gB x121 fun q122 =>
  vcase (bv (!q122))
  (some (iv .i64 5))
  (some (iv .i64 0))))) := by
  rw [pure_eq]; kernel_rfl

theorem pu_spec_l1Before (a0_0 : Int) (a0_1 : Int) (a0_2 : Int) (a0_3 : ByteArray) (a1_0 : Int) (a1_1 : Int) (a1_2 : Int) (a1_3 : ByteArray) : pureV (call Ev) Fn.spec_l1Before [fv [.int .i64 a0_0, .int .i64 a0_1, .int .i64 a0_2, .str a0_3] 0, fv [.int .i64 a1_0, .int .i64 a1_1, .int .i64 a1_2, .str a1_3] 0] =
  vcase (bv (decide (a0_0 < a1_0)))
  (some (bv true))
  (vcase (bv (a0_0 == a1_0))
  (some (bv (decide (a0_1 < a1_1))))
  (some (bv false))) := by
  rw [pure_eq]; kernel_rfl

theorem pu_spec_l6Rows (a0 : List (List S)) : pureV (call Ev) Fn.spec_l6Rows [lv a0] =
  vcase (bv (decide ((a0.length : Int) > 60)))
  (some (iv .i64 2))
  ((Lp.spec_l6Rows 0 [lv a0, iv .i64 0] (D 0)).bind fun o102 => lcase o102 (fun l103 h104 =>
  some (iv .i64 0)) (fun v105 h106 =>
  frzV h106 v105)) := by
  rw [pure_eq]; kernel_rfl

theorem eq_spec_l6Rows_l0 (s0 : List (List S)) (s3 : Int) (h : H) : Lp.spec_l6Rows 0 [lv s0, iv .i64 s3] h =
  vcase (bv (decide (s3 < (s0.length : Int))))
  (idxF 4 s0 s3 fun r203 =>
  pcallS (call Ev) Fn.spec_l1Fault [normV 4 (fv r203 0)] fun v204 =>
  gV1 v204 fun x205 =>
  gI .i64 x205 fun i206 =>
  vcase (bv (i206 != 0))
  (some (.ret (iv .i64 i206) h))
  (vcase (bv (decide (s3 > 0)))
  (idxF 4 s0 (IntKind.i64.wrap (s3 - 1)) fun r209 =>
  idxF 4 s0 s3 fun r210 =>
  pcallS (call Ev) Fn.spec_l1Before [normV 4 (fv r209 0), normV 4 (fv r210 0)] fun v211 =>
  gV1 v211 fun x212 =>
  gB x212 fun q213 =>
  hchk h h (
  vcase (bv (!q213))
  (some (.ret (iv .i64 1) h))
  (Lp.spec_l6Rows 0 [lv s0, iv .i64 (IntKind.i64.wrap (s3 + 1))] (tidy h [lv s0, iv .i64 (IntKind.i64.wrap (s3 + 1))] h))))
  (hchk h h (
  Lp.spec_l6Rows 0 [lv s0, iv .i64 (IntKind.i64.wrap (s3 + 1))] (tidy h [lv s0, iv .i64 (IntKind.i64.wrap (s3 + 1))] h)))))
  (some (.done [] (tidy h [] h))) := by
  unfold Lp.spec_l6Rows; rw [loop_eq]; kernel_rfl

theorem pu_spec_l6At (a0 : List (List S)) (a1 : Int) (a2 : Int) : pureV (call Ev) Fn.spec_l6At [lv a0, iv .i64 a1, iv .i64 a2] =
  (Lp.spec_l6At 0 [lv a0, iv .i64 a1, iv .i64 a2, iv .i64 0] (D 0)).bind fun o101 => lcase o101 (fun l102 h103 =>
  some (iv .i64 (-1))) (fun v104 h105 =>
  frzV h105 v104) := by
  rw [pure_eq]; kernel_rfl

theorem eq_spec_l6At_l0 (s0 : List (List S)) (s1 : Int) (s2 : Int) (s7 : Int) (h : H) : Lp.spec_l6At 0 [lv s0, iv .i64 s1, iv .i64 s2, iv .i64 s7] h =
  vcase (bv (decide (s7 < (s0.length : Int))))
  (idxF 4 s0 s7 fun r203 =>
  (r203[0]?).bind fun x204 =>
  gI .i64 x204 fun i205 =>
  vcase (bv (i205 == s1))
  (idxF 4 s0 s7 fun r207 =>
  (r207[1]?).bind fun x208 =>
  gI .i64 x208 fun i209 =>
  vcase (bv (i209 == s2))
  (some (.ret (iv .i64 s7) h))
  (Lp.spec_l6At 0 [lv s0, iv .i64 s1, iv .i64 s2, iv .i64 (IntKind.i64.wrap (s7 + 1))] (tidy h [lv s0, iv .i64 s1, iv .i64 s2, iv .i64 (IntKind.i64.wrap (s7 + 1))] h)))
  (Lp.spec_l6At 0 [lv s0, iv .i64 s1, iv .i64 s2, iv .i64 (IntKind.i64.wrap (s7 + 1))] (tidy h [lv s0, iv .i64 s1, iv .i64 s2, iv .i64 (IntKind.i64.wrap (s7 + 1))] h)))
  (some (.done [] (tidy h [] h))) := by
  unfold Lp.spec_l6At; rw [loop_eq]; kernel_rfl

theorem pu_spec_l8Longest (a0 : List (List S)) (a1 : Int) : pureV (call Ev) Fn.spec_l8Longest [lv a0, iv .i64 a1] =
  pcallS (call Ev) Fn.spec_l6At [lv a0, iv .i64 0, iv .i64 a1] fun v101 =>
  gV1 v101 fun x102 =>
  gI .i64 x102 fun i103 =>
  vcase (bv (decide (i103 < 0)))
  (some (iv .i64 (-1)))
  (idxF 4 a0 i103 fun r105 =>
  (r105[2]?).bind fun x106 =>
  gI .i64 x106 fun i107 =>
  some (iv .i64 i107)) := by
  rw [pure_eq]; kernel_rfl

theorem pu_spec_LongestIn (a0 : List (List S)) (a1 : Int) : pureV (call Ev) Fn.spec_LongestIn [lv a0, iv .i64 a1] =
  pcallS (call Ev) Fn.spec_l6Rows [lv a0] fun v101 =>
  gV1 v101 fun x102 =>
  gI .i64 x102 fun i103 =>
  vcase (bv (i103 != 0))
  (some (.agg [.int .i64 i103, .int .i64 0]))
  (pcallS (call Ev) Fn.spec_l1In [iv .i64 a1, iv .i64 1, iv .i64 3] fun v105 =>
  gV1 v105 fun x106 =>
  gB x106 fun q107 =>
  vcase (bv (!q107))
  (some (.agg [.int .i64 3, .int .i64 0]))
  (pcallS (call Ev) Fn.spec_l8Longest [lv a0, iv .i64 a1] fun v109 =>
  gV1 v109 fun x110 =>
  gI .i64 x110 fun i111 =>
  vcase (bv (decide (i111 < 0)))
  (some (.agg [.int .i64 4, .int .i64 0]))
  (some (.agg [.int .i64 0, .int .i64 i111])))) := by
  rw [pure_eq]; kernel_rfl

theorem pu_laws_toRow (a0_0 : Int) (a0_1 : Int) (a0_2 : Int) (a0_3 : ByteArray) : pureV (call Ev) Fn.laws_toRow [.agg [.int .i64 a0_0, .int .i64 a0_1, .int .i64 a0_2, .str a0_3]] =
  some (.agg [.int .i64 a0_0, .int .i64 a0_1, .int .i64 a0_2, .str a0_3]) := by
  rw [pure_eq]; kernel_rfl

theorem eq_laws_toRowS (a0 : List (List S)) (n : Nat) : call Ev Fn.laws_toRowS [lv a0] (D n) =
  (mkSl 4 [.int .i64 0, .int .i64 0, .int .i64 0, .str ⟨#[]⟩] (D n) (iv .i64 (a0.length : Int)) (iv .i64 (a0.length : Int))).bind fun p101 =>
  (Lp.laws_toRowS 0 [lv a0, p101.1, iv .i64 0] p101.2).bind fun o102 => lcase o102 (fun l103 h104 =>
  (l103[0]?).bind fun w107 =>
  some (w107, h104)) (fun v105 h106 =>
  some (v105, h106)) := by
  rw [call_eq]; kernel_rfl

theorem eq_laws_toRowS_l0 (s0 : List (List S)) (s3 : V) (s4 : Int) (h : H) : Lp.laws_toRowS 0 [lv s0, s3, iv .i64 s4] h =
  vcase (bv (decide (s4 < (s0.length : Int))))
  (idxF 4 s0 s4 fun r203 =>
  (rowN 4 r203 0).bind fun c204 =>
  (c204[0]?).bind fun x205 =>
  gI .i64 x205 fun i206 =>
  (c204[1]?).bind fun x207 =>
  gI .i64 x207 fun i208 =>
  (c204[2]?).bind fun x209 =>
  gI .i64 x209 fun i210 =>
  (c204[3]?).bind fun x211 =>
  gS x211 fun y212 =>
  if c204.length = 4 then
  pcallS (call Ev) Fn.laws_toRow [.agg [.int .i64 i206, .int .i64 i208, .int .i64 i210, .str y212]] fun v213 =>
  gVA v213 fun c214 =>
  (c214[0]?).bind fun x215 =>
  gI .i64 x215 fun i216 =>
  (c214[1]?).bind fun x217 =>
  gI .i64 x217 fun i218 =>
  (c214[2]?).bind fun x219 =>
  gI .i64 x219 fun i220 =>
  (c214[3]?).bind fun x221 =>
  gS x221 fun y222 =>
  if c214.length = 4 then
  idxK 4 s3 (iv .i64 s4) fun v223 =>
  stK 4 h v223 (.agg [.int .i64 i216, .int .i64 i218, .int .i64 i220, .str y222]) fun h224 =>
  Lp.laws_toRowS 0 [lv s0, s3, iv .i64 (IntKind.i64.wrap (s4 + 1))] (tidy h [lv s0, s3, iv .i64 (IntKind.i64.wrap (s4 + 1))] h224)
  else none
  else none)
  (some (.done [s3] (tidy h [s3] h))) := by
  unfold Lp.laws_toRowS; rw [loop_eq]; kernel_rfl

theorem pu_impl_in (a0 : Int) (a1 : Int) (a2 : Int) : pureV (call Ev) Fn.impl_in [iv .i64 a0, iv .i64 a1, iv .i64 a2] =
  vcase (bv (decide (a0 ≥ a1)))
  (some (bv (decide (a0 ≤ a2))))
  (some (bv false)) := by
  rw [pure_eq]; kernel_rfl

theorem pu_impl_RowFault (a0_0 : Int) (a0_1 : Int) (a0_2 : Int) (a0_3 : ByteArray) : pureV (call Ev) Fn.impl_RowFault [.agg [.int .i64 a0_0, .int .i64 a0_1, .int .i64 a0_2, .str a0_3]] =
  pcallS (call Ev) Fn.impl_in [iv .i64 a0_0, iv .i64 0, iv .i64 3] fun v101 =>
  gV1 v101 fun x102 =>
  gB x102 fun q103 =>
  vcase (bv (!q103))
  (some (iv .i64 3))
  (pcallS (call Ev) Fn.impl_in [iv .i64 a0_1, iv .i64 1, iv .i64 99] fun v106 =>
  gV1 v106 fun x107 =>
  gB x107 fun q108 =>
  vcase (bv (!q108))
  (some (iv .i64 3))
  (pcallS (call Ev) Fn.impl_in [iv .i64 a0_2, iv .i64 0, iv .i64 999] fun v114 =>
  gV1 v114 fun x115 =>
  gB x115 fun q116 =>
  vcase (bv (!q116))
  (some (iv .i64 3))
  (vcase (bv (decide (((a0_3 : ByteArray).size : Int) > 8)))
  (some (iv .i64 5))
  ((Lp.impl_RowFault 0 [pv 0 0, iv .i64 ((a0_3 : ByteArray).size : Int), iv .i64 0] ((D 0).new 0 [.int .i64 a0_0, .int .i64 a0_1, .int .i64 a0_2, .str a0_3])).bind fun o121 => lcase o121 (fun l122 h123 =>
  some (iv .i64 0)) (fun v124 h125 =>
  frzV h125 v124))))) := by
  rw [pure_eq]; kernel_rfl

theorem eq_impl_RowFault_l0 (s1 : V) (s26 : Int) (s27 : Int) (h : H) : Lp.impl_RowFault 0 [s1, iv .i64 s26, iv .i64 s27] h =
  vcase (bv (decide (s27 < s26)))
  ((padd 3 s1).bind fun v203 =>
  ldK (.one (.s)) ⟨1, 16, [.str ⟨#[]⟩], false, .str, false⟩ h v203 fun v204 =>
  gV1 v204 fun x205 =>
  gS x205 fun y206 =>
  (idxStr (.s (.str y206)) (iv .i64 s27)).bind fun v207 =>
  gV1 v207 fun x208 =>
  gI .u8 x208 fun i209 =>
  vcase (bv (decide (i209 < 97)))
  (some (.ret (iv .i64 5) h))
  ((padd 3 s1).bind fun v212 =>
  ldK (.one (.s)) ⟨1, 16, [.str ⟨#[]⟩], false, .str, false⟩ h v212 fun v213 =>
  gV1 v213 fun x214 =>
  gS x214 fun y215 =>
  (idxStr (.s (.str y215)) (iv .i64 s27)).bind fun v216 =>
  gV1 v216 fun x217 =>
  gI .u8 x217 fun i218 =>
  vcase (bv (decide (i218 > 122)))
  (some (.ret (iv .i64 5) h))
  (Lp.impl_RowFault 0 [s1, iv .i64 s26, iv .i64 (IntKind.i64.wrap (s27 + 1))] (tidy h [s1, iv .i64 s26, iv .i64 (IntKind.i64.wrap (s27 + 1))] h))))
  (some (.done [] (tidy h [] h))) := by
  unfold Lp.impl_RowFault; rw [loop_eq]; kernel_rfl

theorem pu_impl_IsBefore (a0_0 : Int) (a0_1 : Int) (a0_2 : Int) (a0_3 : ByteArray) (a1_0 : Int) (a1_1 : Int) (a1_2 : Int) (a1_3 : ByteArray) : pureV (call Ev) Fn.impl_IsBefore [.agg [.int .i64 a0_0, .int .i64 a0_1, .int .i64 a0_2, .str a0_3], .agg [.int .i64 a1_0, .int .i64 a1_1, .int .i64 a1_2, .str a1_3]] =
  vcase (bv (decide (a0_0 < a1_0)))
  (some (bv true))
  (vcase (bv (a0_0 == a1_0))
  (some (bv (decide (a0_1 < a1_1))))
  (some (bv false))) := by
  rw [pure_eq]; kernel_rfl

theorem pu_impl_RowsFault (a0 : List (List S)) : pureV (call Ev) Fn.impl_RowsFault [lv a0] =
  vcase (bv (decide ((a0.length : Int) > 60)))
  (some (iv .i64 2))
  ((Lp.impl_RowsFault 0 [lv a0, lv a0, iv .i64 (a0.length : Int), iv .i64 0] (D 0)).bind fun o102 => lcase o102 (fun l103 h104 =>
  some (iv .i64 0)) (fun v105 h106 =>
  frzV h106 v105)) := by
  rw [pure_eq]; kernel_rfl

theorem eq_impl_RowsFault_l0 (s0 : List (List S)) (s9 : List (List S)) (s10 : Int) (s11 : Int) (h : H) : Lp.impl_RowsFault 0 [lv s0, lv s9, iv .i64 s10, iv .i64 s11] h =
  vcase (bv (decide (s11 < s10)))
  (idxF 4 s9 s11 fun r203 =>
  (rowN 4 r203 0).bind fun c204 =>
  (c204[0]?).bind fun x205 =>
  gI .i64 x205 fun i206 =>
  (c204[1]?).bind fun x207 =>
  gI .i64 x207 fun i208 =>
  (c204[2]?).bind fun x209 =>
  gI .i64 x209 fun i210 =>
  (c204[3]?).bind fun x211 =>
  gS x211 fun y212 =>
  if c204.length = 4 then
  stK 4 (h.new 0 [.int .i64 0, .int .i64 0, .int .i64 0, .str (⟨#[]⟩)]) (pv h.n 0) (.agg [.int .i64 i206, .int .i64 i208, .int .i64 i210, .str y212]) fun h213 =>
  (loadN 4 h213 (pv h.n 0)).bind fun c214 =>
  (c214[0]?).bind fun x215 =>
  gI .i64 x215 fun i216 =>
  (c214[1]?).bind fun x217 =>
  gI .i64 x217 fun i218 =>
  (c214[2]?).bind fun x219 =>
  gI .i64 x219 fun i220 =>
  (c214[3]?).bind fun x221 =>
  gS x221 fun y222 =>
  if c214.length = 4 then
  pcallS (call Ev) Fn.impl_RowFault [.agg [.int .i64 i216, .int .i64 i218, .int .i64 i220, .str y222]] fun v223 =>
  gV1 v223 fun x224 =>
  gI .i64 x224 fun i225 =>
  vcase (bv (i225 != 0))
  (some (.ret (iv .i64 i225) h213))
  (vcase (bv (decide (s11 > 0)))
  (idxF 4 s0 (IntKind.i64.wrap (s11 - 1)) fun r228 =>
  (rowN 4 r228 0).bind fun c229 =>
  (c229[0]?).bind fun x230 =>
  gI .i64 x230 fun i231 =>
  (c229[1]?).bind fun x232 =>
  gI .i64 x232 fun i233 =>
  (c229[2]?).bind fun x234 =>
  gI .i64 x234 fun i235 =>
  (c229[3]?).bind fun x236 =>
  gS x236 fun y237 =>
  if c229.length = 4 then
  (loadN 4 h213 (pv h.n 0)).bind fun c238 =>
  (c238[0]?).bind fun x239 =>
  gI .i64 x239 fun i240 =>
  (c238[1]?).bind fun x241 =>
  gI .i64 x241 fun i242 =>
  (c238[2]?).bind fun x243 =>
  gI .i64 x243 fun i244 =>
  (c238[3]?).bind fun x245 =>
  gS x245 fun y246 =>
  if c238.length = 4 then
  pcallS (call Ev) Fn.impl_IsBefore [.agg [.int .i64 i231, .int .i64 i233, .int .i64 i235, .str y237], .agg [.int .i64 i240, .int .i64 i242, .int .i64 i244, .str y246]] fun v247 =>
  gV1 v247 fun x248 =>
  gB x248 fun q249 =>
  hchk h213 h213 (
  vcase (bv (!q249))
  (some (.ret (iv .i64 1) h213))
  (Lp.impl_RowsFault 0 [lv s0, lv s9, iv .i64 s10, iv .i64 (IntKind.i64.wrap (s11 + 1))] (tidy h [lv s0, lv s9, iv .i64 s10, iv .i64 (IntKind.i64.wrap (s11 + 1))] h213)))
  else none
  else none)
  (hchk h213 h213 (
  Lp.impl_RowsFault 0 [lv s0, lv s9, iv .i64 s10, iv .i64 (IntKind.i64.wrap (s11 + 1))] (tidy h [lv s0, lv s9, iv .i64 s10, iv .i64 (IntKind.i64.wrap (s11 + 1))] h213))))
  else none
  else none)
  (some (.done [] (tidy h [] h))) := by
  unfold Lp.impl_RowsFault; rw [loop_eq]; kernel_rfl

theorem pu_impl_longest (a0 : List (List S)) (a1 : Int) : pureV (call Ev) Fn.impl_longest [lv a0, iv .i64 a1] =
  (Lp.impl_longest 0 [iv .i64 a1, lv a0, iv .i64 (a0.length : Int), iv .i64 0] (D 0)).bind fun o101 => lcase o101 (fun l102 h103 =>
  some (.tup [.s (.int .i64 0), .s (.bool false)])) (fun v104 h105 =>
  frzV h105 v104) := by
  rw [pure_eq]; kernel_rfl

theorem eq_impl_longest_l0 (s1 : Int) (s8 : List (List S)) (s9 : Int) (s10 : Int) (h : H) : Lp.impl_longest 0 [iv .i64 s1, lv s8, iv .i64 s9, iv .i64 s10] h =
  vcase (bv (decide (s10 < s9)))
  (idxF 4 s8 s10 fun r203 =>
  (rowN 4 r203 0).bind fun c204 =>
  (c204[0]?).bind fun x205 =>
  gI .i64 x205 fun i206 =>
  (c204[1]?).bind fun x207 =>
  gI .i64 x207 fun i208 =>
  (c204[2]?).bind fun x209 =>
  gI .i64 x209 fun i210 =>
  (c204[3]?).bind fun x211 =>
  gS x211 fun y212 =>
  if c204.length = 4 then
  stK 4 (h.new 0 [.int .i64 0, .int .i64 0, .int .i64 0, .str (⟨#[]⟩)]) (pv h.n 0) (.agg [.int .i64 i206, .int .i64 i208, .int .i64 i210, .str y212]) fun h213 =>
  (load1 h213 (pv h.n 0)).bind fun x214 =>
  gI .i64 x214 fun i215 =>
  vcase (bv (i215 == 0))
  ((load1 h213 (pv h.n 1)).bind fun x217 =>
  gI .i64 x217 fun i218 =>
  vcase (bv (i218 == s1))
  ((load1 h213 (pv h.n 2)).bind fun x222 =>
  gI .i64 x222 fun i223 =>
  some (.ret (.tup [.s (.int .i64 i223), .s (.bool true)]) h213))
  (Lp.impl_longest 0 [iv .i64 s1, lv s8, iv .i64 s9, iv .i64 (IntKind.i64.wrap (s10 + 1))] (tidy h [iv .i64 s1, lv s8, iv .i64 s9, iv .i64 (IntKind.i64.wrap (s10 + 1))] h213)))
  (Lp.impl_longest 0 [iv .i64 s1, lv s8, iv .i64 s9, iv .i64 (IntKind.i64.wrap (s10 + 1))] (tidy h [iv .i64 s1, lv s8, iv .i64 s9, iv .i64 (IntKind.i64.wrap (s10 + 1))] h213))
  else none)
  (some (.done [] (tidy h [] h))) := by
  unfold Lp.impl_longest; rw [loop_eq]; kernel_rfl

theorem pu_impl_LongestIn (a0 : List (List S)) (a1 : Int) : pureV (call Ev) Fn.impl_LongestIn [lv a0, iv .i64 a1] =
  pcallS (call Ev) Fn.impl_RowsFault [lv a0] fun v101 =>
  gV1 v101 fun x102 =>
  gI .i64 x102 fun i103 =>
  vcase (bv (i103 != 0))
  (some (.agg [.int .i64 i103, .int .i64 0]))
  (pcallS (call Ev) Fn.impl_in [iv .i64 a1, iv .i64 1, iv .i64 3] fun v105 =>
  gV1 v105 fun x106 =>
  gB x106 fun q107 =>
  vcase (bv (!q107))
  (some (.agg [.int .i64 3, .int .i64 0]))
  (pcallS (call Ev) Fn.impl_longest [lv a0, iv .i64 a1] fun v109 =>
  gVT v109 fun u110 =>
  (u110[0]?).bind fun t111 =>
  gA1 t111 fun x112 =>
  gI .i64 x112 fun i113 =>
  (u110[1]?).bind fun t114 =>
  gA1 t114 fun x115 =>
  gB x115 fun q116 =>
  if u110.length = 2 then
  vcase (bv (!q116))
  (some (.agg [.int .i64 4, .int .i64 0]))
  (some (.agg [.int .i64 0, .int .i64 i113]))
  else none)) := by
  rw [pure_eq]; kernel_rfl

theorem pu_laws_eqIntResult (a0_0 : Int) (a0_1 : Int) (a1_0 : Int) (a1_1 : Int) : pureV (call Ev) Fn.laws_eqIntResult [.agg [.int .i64 a0_0, .int .i64 a0_1], .agg [.int .i64 a1_0, .int .i64 a1_1]] =
  vcase (bv (a0_0 != a1_0))
  (some (bv false))
  (vcase (bv (a0_1 != a1_1))
  (some (bv false))
  (some (bv true))) := by
  rw [pure_eq]; kernel_rfl

theorem pu_laws_eqRow (a0_0 : Int) (a0_1 : Int) (a0_2 : Int) (a0_3 : ByteArray) (a1_0 : Int) (a1_1 : Int) (a1_2 : Int) (a1_3 : ByteArray) : pureV (call Ev) Fn.laws_eqRow [.agg [.int .i64 a0_0, .int .i64 a0_1, .int .i64 a0_2, .str a0_3], .agg [.int .i64 a1_0, .int .i64 a1_1, .int .i64 a1_2, .str a1_3]] =
  vcase (bv (a0_0 != a1_0))
  (some (bv false))
  (vcase (bv (a0_1 != a1_1))
  (some (bv false))
  (vcase (bv (a0_2 != a1_2))
  (some (bv false))
  (vcase (bv (!((a0_3 : ByteArray).toList == (a1_3 : ByteArray).toList)))
  (some (bv false))
  (some (bv true))))) := by
  rw [pure_eq]; kernel_rfl

theorem pu_laws_eqRowS (a0 : List (List S)) (a1 : List (List S)) : pureV (call Ev) Fn.laws_eqRowS [lv a0, lv a1] =
  vcase (bv ((a0.length : Int) != (a1.length : Int)))
  (some (bv false))
  ((Lp.laws_eqRowS 0 [lv a0, lv a1, iv .i64 0] (D 0)).bind fun o102 => lcase o102 (fun l103 h104 =>
  some (bv true)) (fun v105 h106 =>
  frzV h106 v105)) := by
  rw [pure_eq]; kernel_rfl

theorem eq_laws_eqRowS_l0 (s0 : List (List S)) (s1 : List (List S)) (s5 : Int) (h : H) : Lp.laws_eqRowS 0 [lv s0, lv s1, iv .i64 s5] h =
  vcase (bv (decide (s5 < (s0.length : Int))))
  (idxF 4 s0 s5 fun r203 =>
  (rowN 4 r203 0).bind fun c204 =>
  (c204[0]?).bind fun x205 =>
  gI .i64 x205 fun i206 =>
  (c204[1]?).bind fun x207 =>
  gI .i64 x207 fun i208 =>
  (c204[2]?).bind fun x209 =>
  gI .i64 x209 fun i210 =>
  (c204[3]?).bind fun x211 =>
  gS x211 fun y212 =>
  if c204.length = 4 then
  idxF 4 s1 s5 fun r213 =>
  (rowN 4 r213 0).bind fun c214 =>
  (c214[0]?).bind fun x215 =>
  gI .i64 x215 fun i216 =>
  (c214[1]?).bind fun x217 =>
  gI .i64 x217 fun i218 =>
  (c214[2]?).bind fun x219 =>
  gI .i64 x219 fun i220 =>
  (c214[3]?).bind fun x221 =>
  gS x221 fun y222 =>
  if c214.length = 4 then
  pcallS (call Ev) Fn.laws_eqRow [.agg [.int .i64 i206, .int .i64 i208, .int .i64 i210, .str y212], .agg [.int .i64 i216, .int .i64 i218, .int .i64 i220, .str y222]] fun v223 =>
  gV1 v223 fun x224 =>
  gB x224 fun q225 =>
  hchk h h (
  vcase (bv (!q225))
  (some (.ret (bv false) h))
  (Lp.laws_eqRowS 0 [lv s0, lv s1, iv .i64 (IntKind.i64.wrap (s5 + 1))] (tidy h [lv s0, lv s1, iv .i64 (IntKind.i64.wrap (s5 + 1))] h)))
  else none
  else none)
  (some (.done [] (tidy h [] h))) := by
  unfold Lp.laws_eqRowS; rw [loop_eq]; kernel_rfl

theorem pu_laws_FnExactLongestIn (a0 : List (List S)) (a1 : Int) : pureV (call Ev) Fn.laws_FnExactLongestIn [lv a0, iv .i64 a1] =
  pcallS (call Ev) Fn.laws_szRowS [lv a0, iv .i64 1048576] fun v101 =>
  gV1 v101 fun x102 =>
  gI .i64 x102 fun i103 =>
  vcase (bv (decide (i103 < 0)))
  (some (bv true))
  ((pureV (call Ev) Fn.laws_toRowS [lv a0]).bind fun v105 =>
  gV1 v105 fun x106 =>
  gF x106 fun z107 =>
  pcallS (call Ev) Fn.spec_LongestIn [lv z107, iv .i64 a1] fun v108 =>
  gVA v108 fun c109 =>
  (c109[0]?).bind fun x110 =>
  gI .i64 x110 fun i111 =>
  (c109[1]?).bind fun x112 =>
  gI .i64 x112 fun i113 =>
  if c109.length = 2 then
  (pureV (call Ev) Fn.laws_toRowS [lv a0]).bind fun v114 =>
  gV1 v114 fun x115 =>
  gF x115 fun z116 =>
  pcallS (call Ev) Fn.impl_LongestIn [lv z116, iv .i64 a1] fun v117 =>
  gVA v117 fun c118 =>
  (c118[0]?).bind fun x119 =>
  gI .i64 x119 fun i120 =>
  (c118[1]?).bind fun x121 =>
  gI .i64 x121 fun i122 =>
  if c118.length = 2 then
  pcallS (call Ev) Fn.laws_eqIntResult [.agg [.int .i64 i120, .int .i64 i122], .agg [.int .i64 i111, .int .i64 i113]] fun v123 =>
  gV1 v123 fun x124 =>
  gB x124 fun q125 =>
  vcase (bv (!q125))
  (some (bv false))
  ((pureV (call Ev) Fn.laws_toRowS [lv a0]).bind fun v127 =>
  gV1 v127 fun x128 =>
  gF x128 fun z129 =>
  pcallS (call Ev) Fn.laws_eqRowS [lv z116, lv z129] fun v130 =>
  gV1 v130 fun x131 =>
  gB x131 fun q132 =>
  vcase (bv (!q132))
  (some (bv false))
  (some (bv true)))
  else none
  else none) := by
  rw [pure_eq]; kernel_rfl

theorem pu_spec_l8Tables (a0 : List (List S)) : pureV (call Ev) Fn.spec_l8Tables [lv a0] =
  (Lp.spec_l8Tables 0 [lv a0, sv 0 0 0, iv .i64 0] ((D 0).new 4 [])).bind fun o101 => lcase o101 (fun l102 h103 =>
  (l102[0]?).bind fun w106 =>
  frzV h103 w106) (fun v104 h105 =>
  frzV h105 v104) := by
  rw [pure_eq]; kernel_rfl

theorem eq_spec_l8Tables_l0 (s0 : List (List S)) (s3 : V) (s4 : Int) (h : H) : Lp.spec_l8Tables 0 [lv s0, s3, iv .i64 s4] h =
  vcase (bv (decide (s4 < (s0.length : Int))))
  (idxF 4 s0 s4 fun r203 =>
  (r203[0]?).bind fun x204 =>
  gI .i64 x204 fun i205 =>
  vcase (bv (i205 == 0))
  (idxF 4 s0 s4 fun r207 =>
  (rowN 4 r207 0).bind fun c208 =>
  (c208[0]?).bind fun x209 =>
  gI .i64 x209 fun i210 =>
  (c208[1]?).bind fun x211 =>
  gI .i64 x211 fun i212 =>
  (c208[2]?).bind fun x213 =>
  gI .i64 x213 fun i214 =>
  (c208[3]?).bind fun x215 =>
  gS x215 fun y216 =>
  if c208.length = 4 then
  (appS 4 (h.new 4 [.int .i64 i210, .int .i64 i212, .int .i64 i214, .str y216]) s3 (sv h.n 0 1)).bind fun p217 =>
  Lp.spec_l8Tables 0 [lv s0, p217.1, iv .i64 (IntKind.i64.wrap (s4 + 1))] (tidy h [lv s0, p217.1, iv .i64 (IntKind.i64.wrap (s4 + 1))] p217.2)
  else none)
  (Lp.spec_l8Tables 0 [lv s0, s3, iv .i64 (IntKind.i64.wrap (s4 + 1))] (tidy h [lv s0, s3, iv .i64 (IntKind.i64.wrap (s4 + 1))] h)))
  (some (.done [s3] (tidy h [s3] h))) := by
  unfold Lp.spec_l8Tables; rw [loop_eq]; kernel_rfl

theorem pu_spec_TablesIn (a0 : List (List S)) : pureV (call Ev) Fn.spec_TablesIn [lv a0] =
  pcallS (call Ev) Fn.spec_l6Rows [lv a0] fun v101 =>
  gV1 v101 fun x102 =>
  gI .i64 x102 fun i103 =>
  vcase (bv (i103 != 0))
  (some (.agg [.int .i64 i103, .fs []]))
  ((pureV (call Ev) Fn.spec_l8Tables [lv a0]).bind fun v105 =>
  gV1 v105 fun x106 =>
  gF x106 fun z107 =>
  some (.agg [.int .i64 0, .fs z107])) := by
  rw [pure_eq]; kernel_rfl

theorem eq_impl_TablesIn (a0 : List (List S)) (n : Nat) : call Ev Fn.impl_TablesIn [lv a0] (D n) =
  pcallS (call Ev) Fn.impl_RowsFault [lv a0] fun v101 =>
  gV1 v101 fun x102 =>
  gI .i64 x102 fun i103 =>
  vcase (bv (i103 != 0))
  (stK 2 ((D n).new 0 [.int .i64 0, .sl none 0]) (pv ((D n).n) 0) (.agg [.int .i64 i103, .sl none 0]) fun h105 =>
  (loadN 2 h105 (pv ((D n).n) 0)).bind fun c106 =>
  some (.agg c106, h105))
  ((Lp.impl_TablesIn 0 [pv ((D n).n) 0, .s (.sl none 0), lv a0, iv .i64 (a0.length : Int), iv .i64 0] ((D n).new 0 [.int .i64 0, .sl none 0])).bind fun o107 => lcase o107 (fun l108 h109 =>
  (l108[0]?).bind fun w112 =>
  (l108[1]?).bind fun w113 =>
  cellsK w113 fun c114 =>
  if c114.length = 1 ∧ 1 + 1 ≤ ([.int .i64 0, .sl none 0] : List S).length then
  ((setAt ([.int .i64 0, .sl none 0] : List S) 1 c114)[0]?).bind fun x115 =>
  gI .i64 x115 fun i116 =>
  ((setAt ([.int .i64 0, .sl none 0] : List S) 1 c114)[1]?).bind fun x117 =>
  if (setAt ([.int .i64 0, .sl none 0] : List S) 1 c114).length = 2 then
  stK 2 h109 w112 (.agg [.int .i64 i116, x117]) fun h118 =>
  ldT ⟨2, 32, [.int .i64 0, .sl none 0], true, .st [(0, 2), (1, 27)], false⟩ h118 w112 fun v119 =>
  some (v119, h118)
  else none
  else none) (fun v110 h111 =>
  some (v110, h111))) := by
  rw [call_eq]; kernel_rfl

theorem eq_impl_TablesIn_l0 (s2 : V) (s4 : V) (s13 : List (List S)) (s14 : Int) (s15 : Int) (h : H) : Lp.impl_TablesIn 0 [s2, s4, lv s13, iv .i64 s14, iv .i64 s15] h =
  vcase (bv (decide (s15 < s14)))
  (idxF 4 s13 s15 fun r203 =>
  (rowN 4 r203 0).bind fun c204 =>
  (c204[0]?).bind fun x205 =>
  gI .i64 x205 fun i206 =>
  (c204[1]?).bind fun x207 =>
  gI .i64 x207 fun i208 =>
  (c204[2]?).bind fun x209 =>
  gI .i64 x209 fun i210 =>
  (c204[3]?).bind fun x211 =>
  gS x211 fun y212 =>
  if c204.length = 4 then
  stK 4 (h.new 0 [.int .i64 0, .int .i64 0, .int .i64 0, .str (⟨#[]⟩)]) (pv h.n 0) (.agg [.int .i64 i206, .int .i64 i208, .int .i64 i210, .str y212]) fun h213 =>
  (load1 h213 (pv h.n 0)).bind fun x214 =>
  gI .i64 x214 fun i215 =>
  vcase (bv (i215 == 0))
  ((loadN 4 h213 (pv h.n 0)).bind fun c217 =>
  (c217[0]?).bind fun x218 =>
  gI .i64 x218 fun i219 =>
  (c217[1]?).bind fun x220 =>
  gI .i64 x220 fun i221 =>
  (c217[2]?).bind fun x222 =>
  gI .i64 x222 fun i223 =>
  (c217[3]?).bind fun x224 =>
  gS x224 fun y225 =>
  if c217.length = 4 then
  (appS 4 (h213.new 4 [.int .i64 i219, .int .i64 i221, .int .i64 i223, .str y225]) s4 (sv h213.n 0 1)).bind fun p226 =>
  Lp.impl_TablesIn 0 [s2, p226.1, lv s13, iv .i64 s14, iv .i64 (IntKind.i64.wrap (s15 + 1))] (tidy h [s2, p226.1, lv s13, iv .i64 s14, iv .i64 (IntKind.i64.wrap (s15 + 1))] p226.2)
  else none)
  (Lp.impl_TablesIn 0 [s2, s4, lv s13, iv .i64 s14, iv .i64 (IntKind.i64.wrap (s15 + 1))] (tidy h [s2, s4, lv s13, iv .i64 s14, iv .i64 (IntKind.i64.wrap (s15 + 1))] h213))
  else none)
  (some (.done [s2, s4] (tidy h [s2, s4] h))) := by
  unfold Lp.impl_TablesIn; rw [loop_eq]; kernel_rfl

theorem pu_laws_eqRowsResult (a0_0 : Int) (a0_1 : List (List S)) (a1_0 : Int) (a1_1 : List (List S)) : pureV (call Ev) Fn.laws_eqRowsResult [.agg [.int .i64 a0_0, .fs a0_1], .agg [.int .i64 a1_0, .fs a1_1]] =
  vcase (bv (a0_0 != a1_0))
  (some (bv false))
  (pcallS (call Ev) Fn.laws_eqRowS [lv a0_1, lv a1_1] fun v102 =>
  gV1 v102 fun x103 =>
  gB x103 fun q104 =>
  vcase (bv (!q104))
  (some (bv false))
  (some (bv true))) := by
  rw [pure_eq]; kernel_rfl

theorem pu_laws_markText (a0 : Int) : pureV (call Ev) Fn.laws_markText [iv .i64 a0] =
  vcase (bv (decide (a0 ≤ 0)))
  (some (.s (.str (⟨#[109, 48]⟩))))
  ((Lp.laws_markText 0 [iv .i64 a0, .s (.str (⟨#[]⟩))] (D 0)).bind fun o102 => lcase o102 (fun l103 h104 =>
  (l103[0]?).bind fun w107 =>
  gV1 w107 fun x108 =>
  gS x108 fun y109 =>
  (bin Ev .add 9 (.s (.str (⟨#[109]⟩))) (.s (.str y109))).bind fun b110 =>
  gV1 b110 fun x111 =>
  gS x111 fun y112 =>
  some (.s (.str y112))) (fun v105 h106 =>
  frzV h106 v105)) := by
  rw [pure_eq]; kernel_rfl

theorem eq_laws_markText_l0 (s0 : Int) (s3 : ByteArray) (h : H) : Lp.laws_markText 0 [iv .i64 s0, .s (.str s3)] h =
  vcase (bv (decide (s0 > 0)))
  ((bin Ev .rem 3 (iv .i64 s0) (iv .i64 10)).bind fun b203 =>
  gV1 b203 fun x204 =>
  gI .i64 x204 fun i205 =>
  (cvStr (h.new 1 [.int .u8 (IntKind.u8.wrap (IntKind.i64.wrap (48 + i205)))]) (sv h.n 0 1)).bind fun v206 =>
  gV1 v206 fun x207 =>
  gS x207 fun y208 =>
  (bin Ev .add 9 (.s (.str y208)) (.s (.str s3))).bind fun b209 =>
  gV1 b209 fun x210 =>
  gS x210 fun y211 =>
  (bin Ev .quo 3 (iv .i64 s0) (iv .i64 10)).bind fun b212 =>
  gV1 b212 fun x213 =>
  gI .i64 x213 fun i214 =>
  Lp.laws_markText 0 [iv .i64 i214, .s (.str y211)] (tidy h [iv .i64 i214, .s (.str y211)] (h.new 1 [.int .u8 (IntKind.u8.wrap (IntKind.i64.wrap (48 + i205)))])))
  (some (.done [.s (.str s3)] (tidy h [.s (.str s3)] h))) := by
  unfold Lp.laws_markText; rw [loop_eq]; kernel_rfl

theorem eq_laws_markRowS (a0 : V) (a1 : Int) (h : H) : call Ev Fn.laws_markRowS [a0, iv .i64 a1] h =
  (Lp.laws_markRowS 0 [a0, iv .i64 a1, iv .i64 0] h).bind fun o101 => lcase o101 (fun l102 h103 =>
  (l102[0]?).bind fun w106 =>
  gV1 w106 fun x107 =>
  gI .i64 x107 fun i108 =>
  some (iv .i64 i108, h103)) (fun v104 h105 =>
  some (v104, h105)) := by
  rw [call_eq]; kernel_rfl

theorem eq_laws_markRowS_l0 (s0 : V) (s1 : Int) (s5 : Int) (h : H) : Lp.laws_markRowS 0 [s0, iv .i64 s1, iv .i64 s5] h =
  (lenV (.sl 45) s0).bind fun v201 =>
  gV1 v201 fun x202 =>
  gI .i64 x202 fun i203 =>
  vcase (bv (decide (s5 < i203)))
  (idxK 4 s0 (iv .i64 s5) fun v206 =>
  (padd 0 v206).bind fun v207 =>
  stK 1 h v207 (iv .i64 s1) fun h208 =>
  idxK 4 s0 (iv .i64 s5) fun v209 =>
  (padd 1 v209).bind fun v210 =>
  stK 1 h208 v210 (iv .i64 (IntKind.i64.wrap (s1 + 1))) fun h211 =>
  idxK 4 s0 (iv .i64 s5) fun v212 =>
  (padd 2 v212).bind fun v213 =>
  stK 1 h211 v213 (iv .i64 (IntKind.i64.wrap ((IntKind.i64.wrap (s1 + 1)) + 1))) fun h214 =>
  pcallS (call Ev) Fn.laws_markText [iv .i64 (IntKind.i64.wrap ((IntKind.i64.wrap ((IntKind.i64.wrap (s1 + 1)) + 1)) + 1))] fun v215 =>
  gV1 v215 fun x216 =>
  gS x216 fun y217 =>
  idxK 4 s0 (iv .i64 s5) fun v218 =>
  (padd 3 v218).bind fun v219 =>
  stK 1 h214 v219 (.s (.str y217)) fun h220 =>
  Lp.laws_markRowS 0 [s0, iv .i64 (IntKind.i64.wrap ((IntKind.i64.wrap ((IntKind.i64.wrap ((IntKind.i64.wrap (s1 + 1)) + 1)) + 1)) + 1)), iv .i64 (IntKind.i64.wrap (s5 + 1))] (tidy h [s0, iv .i64 (IntKind.i64.wrap ((IntKind.i64.wrap ((IntKind.i64.wrap ((IntKind.i64.wrap (s1 + 1)) + 1)) + 1)) + 1)), iv .i64 (IntKind.i64.wrap (s5 + 1))] h220))
  (some (.done [iv .i64 s1] (tidy h [iv .i64 s1] h))) := by
  unfold Lp.laws_markRowS; rw [loop_eq]; kernel_rfl

end Vm
