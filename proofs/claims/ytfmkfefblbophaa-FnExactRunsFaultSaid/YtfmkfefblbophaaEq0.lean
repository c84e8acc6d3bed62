/-
  What each function, and each round of each loop, comes to in the small machine. Written by a program (gen3.py).
-/
import Derived.Test.YtfmkfefblbophaaEnv
set_option linter.unusedVariables false
set_option maxRecDepth 100000
namespace Vm
open Go

theorem pu_laws_FnExactConstants  : pureV (call Ev) Fn.laws_FnExactConstants [] =
  some (bv true) := by
  rw [pure_eq]; kernel_rfl

theorem pu_laws_szRow (a0_0 : Int) (a0_1 : Int) (a0_2 : Int) (a0_3 : ByteArray) (a1 : Int) : pureV (call Ev) Fn.laws_szRow [.agg [.int .i64 a0_0, .int .i64 a0_1, .int .i64 a0_2, .str a0_3], iv .i64 a1] =
  vcase (bv (decide ((IntKind.i64.wrap (a1 - ((a0_3 : ByteArray).size : Int))) < 0)))
  (some (iv .i64 (-1)))
  (some (iv .i64 (IntKind.i64.wrap (a1 - ((a0_3 : ByteArray).size : Int))))) := by
  rw [pure_eq]; kernel_rfl

theorem pu_spec_l1Before (a0_0 : Int) (a0_1 : Int) (a0_2 : Int) (a0_3 : ByteArray) (a1_0 : Int) (a1_1 : Int) (a1_2 : Int) (a1_3 : ByteArray) : pureV (call Ev) Fn.spec_l1Before [fv [.int .i64 a0_0, .int .i64 a0_1, .int .i64 a0_2, .str a0_3] 0, fv [.int .i64 a1_0, .int .i64 a1_1, .int .i64 a1_2, .str a1_3] 0] =
  vcase (bv (decide (a0_0 < a1_0)))
  (some (bv true))
  (vcase (bv (a0_0 == a1_0))
  (some (bv (decide (a0_1 < a1_1))))
  (some (bv false))) := by
  rw [pure_eq]; kernel_rfl

theorem pu_spec_IsBefore (a0_0 : Int) (a0_1 : Int) (a0_2 : Int) (a0_3 : ByteArray) (a1_0 : Int) (a1_1 : Int) (a1_2 : Int) (a1_3 : ByteArray) : pureV (call Ev) Fn.spec_IsBefore [.agg [.int .i64 a0_0, .int .i64 a0_1, .int .i64 a0_2, .str a0_3], .agg [.int .i64 a1_0, .int .i64 a1_1, .int .i64 a1_2, .str a1_3]] =
  pcallS (call Ev) Fn.spec_l1Before [fv [.int .i64 a0_0, .int .i64 a0_1, .int .i64 a0_2, .str a0_3] 0, fv [.int .i64 a1_0, .int .i64 a1_1, .int .i64 a1_2, .str a1_3] 0] fun v101 =>
  gV1 v101 fun x102 =>
  gB x102 fun q103 =>
  some (bv q103) := by
  rw [pure_eq]; kernel_rfl

theorem pu_laws_toRow (a0_0 : Int) (a0_1 : Int) (a0_2 : Int) (a0_3 : ByteArray) : pureV (call Ev) Fn.laws_toRow [.agg [.int .i64 a0_0, .int .i64 a0_1, .int .i64 a0_2, .str a0_3]] =
  some (.agg [.int .i64 a0_0, .int .i64 a0_1, .int .i64 a0_2, .str a0_3]) := by
  rw [pure_eq]; kernel_rfl

theorem pu_impl_IsBefore (a0_0 : Int) (a0_1 : Int) (a0_2 : Int) (a0_3 : ByteArray) (a1_0 : Int) (a1_1 : Int) (a1_2 : Int) (a1_3 : ByteArray) : pureV (call Ev) Fn.impl_IsBefore [.agg [.int .i64 a0_0, .int .i64 a0_1, .int .i64 a0_2, .str a0_3], .agg [.int .i64 a1_0, .int .i64 a1_1, .int .i64 a1_2, .str a1_3]] =
  vcase (bv (decide (a0_0 < a1_0)))
  (some (bv true))
  (vcase (bv (a0_0 == a1_0))
  (some (bv (decide (a0_1 < a1_1))))
  (some (bv false))) := by
  rw [pure_eq]; kernel_rfl

theorem pu_laws_FnExactIsBefore (a0_0 : Int) (a0_1 : Int) (a0_2 : Int) (a0_3 : ByteArray) (a1_0 : Int) (a1_1 : Int) (a1_2 : Int) (a1_3 : ByteArray) : pureV (call Ev) Fn.laws_FnExactIsBefore [.agg [.int .i64 a0_0, .int .i64 a0_1, .int .i64 a0_2, .str a0_3], .agg [.int .i64 a1_0, .int .i64 a1_1, .int .i64 a1_2, .str a1_3]] =
  pcallS (call Ev) Fn.laws_szRow [.agg [.int .i64 a0_0, .int .i64 a0_1, .int .i64 a0_2, .str a0_3], iv .i64 1048576] fun v101 =>
  gV1 v101 fun x102 =>
  gI .i64 x102 fun i103 =>
  vcase (bv (decide (i103 < 0)))
  (some (bv true))
  (pcallS (call Ev) Fn.laws_szRow [.agg [.int .i64 a1_0, .int .i64 a1_1, .int .i64 a1_2, .str a1_3], iv .i64 i103] fun v105 =>
  gV1 v105 fun x106 =>
  gI .i64 x106 fun i107 =>
  vcase (bv (decide (i107 < 0)))
  (some (bv true))
  (pcallS (call Ev) Fn.laws_toRow [.agg [.int .i64 a0_0, .int .i64 a0_1, .int .i64 a0_2, .str a0_3]] fun v109 =>
  gVA v109 fun c110 =>
  (c110[0]?).bind fun x111 =>
  gI .i64 x111 fun i112 =>
  (c110[1]?).bind fun x113 =>
  gI .i64 x113 fun i114 =>
  (c110[2]?).bind fun x115 =>
  gI .i64 x115 fun i116 =>
  (c110[3]?).bind fun x117 =>
  gS x117 fun y118 =>
  if c110.length = 4 then
  hchk (((D 0).new 0 [.int .i64 a0_0, .int .i64 a0_1, .int .i64 a0_2, .str a0_3]).new 0 [.int .i64 a1_0, .int .i64 a1_1, .int .i64 a1_2, .str a1_3]) (((D 0).new 0 [.int .i64 a0_0, .int .i64 a0_1, .int .i64 a0_2, .str a0_3]).new 0 [.int .i64 a1_0, .int .i64 a1_1, .int .i64 a1_2, .str a1_3]) (
  pcallS (call Ev) Fn.laws_toRow [.agg [.int .i64 a1_0, .int .i64 a1_1, .int .i64 a1_2, .str a1_3]] fun v119 =>
  gVA v119 fun c120 =>
  (c120[0]?).bind fun x121 =>
  gI .i64 x121 fun i122 =>
  (c120[1]?).bind fun x123 =>
  gI .i64 x123 fun i124 =>
  (c120[2]?).bind fun x125 =>
  gI .i64 x125 fun i126 =>
  (c120[3]?).bind fun x127 =>
  gS x127 fun y128 =>
  if c120.length = 4 then
  hchk (((D 0).new 0 [.int .i64 a0_0, .int .i64 a0_1, .int .i64 a0_2, .str a0_3]).new 0 [.int .i64 a1_0, .int .i64 a1_1, .int .i64 a1_2, .str a1_3]) (((D 0).new 0 [.int .i64 a0_0, .int .i64 a0_1, .int .i64 a0_2, .str a0_3]).new 0 [.int .i64 a1_0, .int .i64 a1_1, .int .i64 a1_2, .str a1_3]) (
  pcallS (call Ev) Fn.spec_IsBefore [.agg [.int .i64 i112, .int .i64 i114, .int .i64 i116, .str y118], .agg [.int .i64 i122, .int .i64 i124, .int .i64 i126, .str y128]] fun v129 =>
  gV1 v129 fun x130 =>
  gB x130 fun q131 =>
  hchk (((D 0).new 0 [.int .i64 a0_0, .int .i64 a0_1, .int .i64 a0_2, .str a0_3]).new 0 [.int .i64 a1_0, .int .i64 a1_1, .int .i64 a1_2, .str a1_3]) (((D 0).new 0 [.int .i64 a0_0, .int .i64 a0_1, .int .i64 a0_2, .str a0_3]).new 0 [.int .i64 a1_0, .int .i64 a1_1, .int .i64 a1_2, .str a1_3]) (
  pcallS (call Ev) Fn.laws_toRow [.agg [.int .i64 a0_0, .int .i64 a0_1, .int .i64 a0_2, .str a0_3]] fun v132 =>
  gVA v132 fun c133 =>
  (c133[0]?).bind fun x134 =>
  gI .i64 x134 fun i135 =>
  (c133[1]?).bind fun x136 =>
  gI .i64 x136 fun i137 =>
  (c133[2]?).bind fun x138 =>
  gI .i64 x138 fun i139 =>
  (c133[3]?).bind fun x140 =>
  gS x140 fun y141 =>
  if c133.length = 4 then
  hchk (((D 0).new 0 [.int .i64 a0_0, .int .i64 a0_1, .int .i64 a0_2, .str a0_3]).new 0 [.int .i64 a1_0, .int .i64 a1_1, .int .i64 a1_2, .str a1_3]) (((D 0).new 0 [.int .i64 a0_0, .int .i64 a0_1, .int .i64 a0_2, .str a0_3]).new 0 [.int .i64 a1_0, .int .i64 a1_1, .int .i64 a1_2, .str a1_3]) (
  pcallS (call Ev) Fn.laws_toRow [.agg [.int .i64 a1_0, .int .i64 a1_1, .int .i64 a1_2, .str a1_3]] fun v142 =>
  gVA v142 fun c143 =>
  (c143[0]?).bind fun x144 =>
  gI .i64 x144 fun i145 =>
  (c143[1]?).bind fun x146 =>
  gI .i64 x146 fun i147 =>
  (c143[2]?).bind fun x148 =>
  gI .i64 x148 fun i149 =>
  (c143[3]?).bind fun x150 =>
  gS x150 fun y151 =>
  if c143.length = 4 then
  hchk (((D 0).new 0 [.int .i64 a0_0, .int .i64 a0_1, .int .i64 a0_2, .str a0_3]).new 0 [.int .i64 a1_0, .int .i64 a1_1, .int .i64 a1_2, .str a1_3]) (((D 0).new 0 [.int .i64 a0_0, .int .i64 a0_1, .int .i64 a0_2, .str a0_3]).new 0 [.int .i64 a1_0, .int .i64 a1_1, .int .i64 a1_2, .str a1_3]) (
  pcallS (call Ev) Fn.impl_IsBefore [.agg [.int .i64 i135, .int .i64 i137, .int .i64 i139, .str y141], .agg [.int .i64 i145, .int .i64 i147, .int .i64 i149, .str y151]] fun v152 =>
  gV1 v152 fun x153 =>
  gB x153 fun q154 =>
  hchk (((D 0).new 0 [.int .i64 a0_0, .int .i64 a0_1, .int .i64 a0_2, .str a0_3]).new 0 [.int .i64 a1_0, .int .i64 a1_1, .int .i64 a1_2, .str a1_3]) (((D 0).new 0 [.int .i64 a0_0, .int .i64 a0_1, .int .i64 a0_2, .str a0_3]).new 0 [.int .i64 a1_0, .int .i64 a1_1, .int .i64 a1_2, .str a1_3]) (
  vcase (bv (!(q154 == q131)))
  (some (bv false))
  (some (bv true))))
  else none)
  else none))
  else none)
  else none)) := by
  rw [pure_eq]; kernel_rfl

theorem pu_spec_l1In (a0 : Int) (a1 : Int) (a2 : Int) : pureV (call Ev) Fn.spec_l1In [iv .i64 a0, iv .i64 a1, iv .i64 a2] =
  vcase (bv (decide (a0 ≥ a1)))
  (some (bv (decide (a0 ≤ a2))))
  (some (bv false)) := by
  rw [pure_eq]; kernel_rfl

theorem pu_spec_l1Text (a0 : ByteArray) : pureV (call Ev) Fn.spec_l1Text [.s (.str a0)] =
  (Lp.spec_l1Text 0 [.s (.str a0), iv .i64 0] (D 0)).bind fun o101 => lcase o101 (fun l102 h103 =>
  (l102[0]?).bind fun w106 =>
  gV1 w106 fun x107 =>
  gS x107 fun y108 =>
  some (bv (decide (((y108 : ByteArray).size : Int) ≤ 8)))) (fun v104 h105 =>
  frzV h105 v104) := by
  rw [pure_eq]; kernel_rfl

theorem eq_spec_l1Text_l0 (s0 : ByteArray) (s3 : Int) (h : H) : Lp.spec_l1Text 0 [.s (.str s0), iv .i64 s3] h =
  vcase (bv (decide (s3 < ((s0 : ByteArray).size : Int))))
  ((idxStr (.s (.str s0)) (iv .i64 s3)).bind fun v203 =>
  gV1 v203 fun x204 =>
  gI .u8 x204 fun i205 =>
  vcase (bv (decide (i205 < 97)))
  (some (.ret (bv false) h))
  ((idxStr (.s (.str s0)) (iv .i64 s3)).bind fun v208 =>
  gV1 v208 fun x209 =>
  gI .u8 x209 fun i210 =>
  vcase (bv (decide (i210 > 122)))
  (some (.ret (bv false) h))
  (Lp.spec_l1Text 0 [.s (.str s0), iv .i64 (IntKind.i64.wrap (s3 + 1))] (tidy h [.s (.str s0), iv .i64 (IntKind.i64.wrap (s3 + 1))] h))))
  (some (.done [.s (.str s0)] (tidy h [.s (.str s0)] h))) := by
  unfold Lp.spec_l1Text; rw [loop_eq]; kernel_rfl

theorem pu_spec_l1Fault (a0_0 : Int) (a0_1 : Int) (a0_2 : Int) (a0_3 : ByteArray) : pureV (call Ev) Fn.spec_l1Fault [fv [.int .i64 a0_0, .int .i64 a0_1, .int .i64 a0_2, .str a0_3] 0] =
  pcallS (call Ev) Fn.spec_l1In [iv .i64 a0_0, iv .i64 0, iv .i64 3] fun v101 =>
  gV1 v101 fun x102 =>
  gB x102 fun q103 =>
  vcase (bv (!q103))
  (some (iv .i64 3))
  (pcallS (call Ev) Fn.spec_l1In [iv .i64 a0_1, iv .i64 1, iv .i64 99] fun v106 =>
  gV1 v106 fun x107 =>
  gB x107 fun q108 =>
  vcase (bv (!q108))
  (some (iv .i64 3))
  (pcallS (call Ev) Fn.spec_l1In [iv .i64 a0_2, iv .i64 0, iv .i64 999] fun v114 =>
  gV1 v114 fun x115 =>
  gB x115 fun q116 =>
  vcase (bv (!q116))
  (some (iv .i64 3))
  (pcallS (call Ev) Fn.spec_l1Text [.s (.str a0_3)] fun v120 =>
  gV1 v120 fun x121 =>
  gB x121 fun q122 =>
  vcase (bv (!q122))
  (some (iv .i64 5))
  (some (iv .i64 0))))) := by
  rw [pure_eq]; kernel_rfl

theorem pu_spec_RowFault (a0_0 : Int) (a0_1 : Int) (a0_2 : Int) (a0_3 : ByteArray) : pureV (call Ev) Fn.spec_RowFault [.agg [.int .i64 a0_0, .int .i64 a0_1, .int .i64 a0_2, .str a0_3]] =
  pcallS (call Ev) Fn.spec_l1Fault [fv [.int .i64 a0_0, .int .i64 a0_1, .int .i64 a0_2, .str a0_3] 0] fun v101 =>
  gV1 v101 fun x102 =>
  gI .i64 x102 fun i103 =>
  some (iv .i64 i103) := by
  rw [pure_eq]; kernel_rfl

theorem pu_impl_in (a0 : Int) (a1 : Int) (a2 : Int) : pureV (call Ev) Fn.impl_in [iv .i64 a0, iv .i64 a1, iv .i64 a2] =
  vcase (bv (decide (a0 ≥ a1)))
  (some (bv (decide (a0 ≤ a2))))
  (some (bv false)) := by
  rw [pure_eq]; kernel_rfl

theorem pu_impl_RowFault (a0_0 : Int) (a0_1 : Int) (a0_2 : Int) (a0_3 : ByteArray) : pureV (call Ev) Fn.impl_RowFault [.agg [.int .i64 a0_0, .int .i64 a0_1, .int .i64 a0_2, .str a0_3]] =
  pcallS (call Ev) Fn.impl_in [iv .i64 a0_0, iv .i64 0, iv .i64 3] fun v101 =>
  gV1 v101 fun x102 =>
  gB x102 fun q103 =>
  vcase (bv (!q103))
  (some (iv .i64 3))
  (pcallS (call Ev) Fn.impl_in [iv .i64 a0_1, iv .i64 1, iv .i64 99] fun v106 =>
  gV1 v106 fun x107 =>
  gB x107 fun q108 =>
  vcase (bv (!q108))
  (some (iv .i64 3))
  (pcallS (call Ev) Fn.impl_in [iv .i64 a0_2, iv .i64 0, iv .i64 999] fun v114 =>
  gV1 v114 fun x115 =>
  gB x115 fun q116 =>
  vcase (bv (!q116))
  (some (iv .i64 3))
  (vcase (bv (decide (((a0_3 : ByteArray).size : Int) > 8)))
  (some (iv .i64 5))
  ((Lp.impl_RowFault 0 [pv 0 0, iv .i64 ((a0_3 : ByteArray).size : Int), iv .i64 0] ((D 0).new 0 [.int .i64 a0_0, .int .i64 a0_1, .int .i64 a0_2, .str a0_3])).bind fun o121 => lcase o121 (fun l122 h123 =>
  some (iv .i64 0)) (fun v124 h125 =>
  frzV h125 v124))))) := by
  rw [pure_eq]; kernel_rfl

theorem eq_impl_RowFault_l0 (s1 : V) (s26 : Int) (s27 : Int) (h : H) : Lp.impl_RowFault 0 [s1, iv .i64 s26, iv .i64 s27] h =
  vcase (bv (decide (s27 < s26)))
  ((padd 3 s1).bind fun v203 =>
  ldK (.one (.s)) ⟨1, 16, [.str ⟨#[]⟩], false, .str, false⟩ h v203 fun v204 =>
  gV1 v204 fun x205 =>
  gS x205 fun y206 =>
  (idxStr (.s (.str y206)) (iv .i64 s27)).bind fun v207 =>
  gV1 v207 fun x208 =>
  gI .u8 x208 fun i209 =>
  vcase (bv (decide (i209 < 97)))
  (some (.ret (iv .i64 5) h))
  ((padd 3 s1).bind fun v212 =>
  ldK (.one (.s)) ⟨1, 16, [.str ⟨#[]⟩], false, .str, false⟩ h v212 fun v213 =>
  gV1 v213 fun x214 =>
  gS x214 fun y215 =>
  (idxStr (.s (.str y215)) (iv .i64 s27)).bind fun v216 =>
  gV1 v216 fun x217 =>
  gI .u8 x217 fun i218 =>
  vcase (bv (decide (i218 > 122)))
  (some (.ret (iv .i64 5) h))
  (Lp.impl_RowFault 0 [s1, iv .i64 s26, iv .i64 (IntKind.i64.wrap (s27 + 1))] (tidy h [s1, iv .i64 s26, iv .i64 (IntKind.i64.wrap (s27 + 1))] h))))
  (some (.done [] (tidy h [] h))) := by
  unfold Lp.impl_RowFault; rw [loop_eq]; kernel_rfl

theorem pu_laws_FnExactRowFault (a0_0 : Int) (a0_1 : Int) (a0_2 : Int) (a0_3 : ByteArray) : pureV (call Ev) Fn.laws_FnExactRowFault [.agg [.int .i64 a0_0, .int .i64 a0_1, .int .i64 a0_2, .str a0_3]] =
  pcallS (call Ev) Fn.laws_szRow [.agg [.int .i64 a0_0, .int .i64 a0_1, .int .i64 a0_2, .str a0_3], iv .i64 1048576] fun v101 =>
  gV1 v101 fun x102 =>
  gI .i64 x102 fun i103 =>
  vcase (bv (decide (i103 < 0)))
  (some (bv true))
  (pcallS (call Ev) Fn.laws_toRow [.agg [.int .i64 a0_0, .int .i64 a0_1, .int .i64 a0_2, .str a0_3]] fun v105 =>
  gVA v105 fun c106 =>
  (c106[0]?).bind fun x107 =>
  gI .i64 x107 fun i108 =>
  (c106[1]?).bind fun x109 =>
  gI .i64 x109 fun i110 =>
  (c106[2]?).bind fun x111 =>
  gI .i64 x111 fun i112 =>
  (c106[3]?).bind fun x113 =>
  gS x113 fun y114 =>
  if c106.length = 4 then
  pcallS (call Ev) Fn.spec_RowFault [.agg [.int .i64 i108, .int .i64 i110, .int .i64 i112, .str y114]] fun v115 =>
  gV1 v115 fun x116 =>
  gI .i64 x116 fun i117 =>
  pcallS (call Ev) Fn.laws_toRow [.agg [.int .i64 a0_0, .int .i64 a0_1, .int .i64 a0_2, .str a0_3]] fun v118 =>
  gVA v118 fun c119 =>
  (c119[0]?).bind fun x120 =>
  gI .i64 x120 fun i121 =>
  (c119[1]?).bind fun x122 =>
  gI .i64 x122 fun i123 =>
  (c119[2]?).bind fun x124 =>
  gI .i64 x124 fun i125 =>
  (c119[3]?).bind fun x126 =>
  gS x126 fun y127 =>
  if c119.length = 4 then
  pcallS (call Ev) Fn.impl_RowFault [.agg [.int .i64 i121, .int .i64 i123, .int .i64 i125, .str y127]] fun v128 =>
  gV1 v128 fun x129 =>
  gI .i64 x129 fun i130 =>
  vcase (bv (i130 != i117))
  (some (bv false))
  (some (bv true))
  else none
  else none) := by
  rw [pure_eq]; kernel_rfl

theorem pu_spec_l1Place (a0 : Int) (a1 : Int) : pureV (call Ev) Fn.spec_l1Place [iv .i64 a0, iv .i64 a1] =
  pcallS (call Ev) Fn.spec_l1In [iv .i64 a0, iv .i64 0, iv .i64 11] fun v101 =>
  gV1 v101 fun x102 =>
  gB x102 fun q103 =>
  vcase (bv q103)
  (pcallS (call Ev) Fn.spec_l1In [iv .i64 a1, iv .i64 0, iv .i64 15] fun v105 =>
  gV1 v105 fun x106 =>
  gB x106 fun q107 =>
  some (bv q107))
  (some (bv false)) := by
  rw [pure_eq]; kernel_rfl

theorem pu_spec_l1Stub (a0 : Int) (a1 : Int) : pureV (call Ev) Fn.spec_l1Stub [iv .i64 a0, iv .i64 a1] =
  some (lv [[.int .u8 1], [.int .u8 (IntKind.u8.wrap a0)], [.int .u8 (IntKind.u8.wrap a1)]]) := by
  rw [pure_eq]; kernel_rfl

theorem pu_spec_PackStub (a0 : Int) (a1 : Int) : pureV (call Ev) Fn.spec_PackStub [iv .i64 a0, iv .i64 a1] =
  pcallS (call Ev) Fn.spec_l1Place [iv .i64 a0, iv .i64 a1] fun v101 =>
  gV1 v101 fun x102 =>
  gB x102 fun q103 =>
  vcase (bv (!q103))
  (some (.agg [.int .i64 3, .fs []]))
  ((pureV (call Ev) Fn.spec_l1Stub [iv .i64 a0, iv .i64 a1]).bind fun v105 =>
  gV1 v105 fun x106 =>
  gF x106 fun z107 =>
  some (.agg [.int .i64 0, .fs z107])) := by
  rw [pure_eq]; kernel_rfl

theorem eq_impl_stub (a0 : Int) (a1 : Int) (n : Nat) : call Ev Fn.impl_stub [iv .i64 a0, iv .i64 a1] (D n) =
  some (sv ((D n).n) 0 3, (D n).new 1 [.int .u8 1, .int .u8 (IntKind.u8.wrap a0), .int .u8 (IntKind.u8.wrap a1)]) := by
  rw [call_eq]; kernel_rfl

noncomputable def Jn.impl_PackStub_0 (q124 : Bool) (n : Nat) (a0 : Int) (a1 : Int) : Option (V × H) :=
  vcase (bv q124)
  (stK 2 ((D n).new 0 [.int .i64 0, .sl none 0]) (pv ((D n).n) 0) (.agg [.int .i64 3, .sl none 0]) fun h126 =>
  (loadN 2 h126 (pv ((D n).n) 0)).bind fun c127 =>
  some (.agg c127, h126))
  (pcallF (call Ev) Fn.impl_stub true [iv .i64 a0, iv .i64 a1] ((D n).new 0 [.int .i64 0, .sl none 0]) fun v128 h129 =>
  cellsK v128 fun c130 =>
  if c130.length = 1 ∧ 1 + 1 ≤ ([.int .i64 0, .sl none 0] : List S).length then
  ((setAt ([.int .i64 0, .sl none 0] : List S) 1 c130)[0]?).bind fun x131 =>
  gI .i64 x131 fun i132 =>
  ((setAt ([.int .i64 0, .sl none 0] : List S) 1 c130)[1]?).bind fun x133 =>
  if (setAt ([.int .i64 0, .sl none 0] : List S) 1 c130).length = 2 then
  stK 2 h129 (pv ((D n).n) 0) (.agg [.int .i64 i132, x133]) fun h134 =>
  (loadN 2 h134 (pv ((D n).n) 0)).bind fun c135 =>
  some (.agg c135, h134)
  else none
  else none)

theorem eq_impl_PackStub (a0 : Int) (a1 : Int) (n : Nat) : call Ev Fn.impl_PackStub [iv .i64 a0, iv .i64 a1] (D n) =
  pcallS (call Ev) Fn.impl_in [iv .i64 a0, iv .i64 0, iv .i64 11] fun v101 =>
  gV1 v101 fun x102 =>
  gB x102 fun q103 =>
  vcase (bv (!q103))
  (Jn.impl_PackStub_0 true n a0 a1)
  (pcallS (call Ev) Fn.impl_in [iv .i64 a1, iv .i64 0, iv .i64 15] fun v106 =>
  gV1 v106 fun x107 =>
  gB x107 fun q108 =>
  Jn.impl_PackStub_0 (!q108) n a0 a1) := by
  rw [call_eq]; kernel_rfl

theorem pu_laws_eqByteS (a0 : List (List S)) (a1 : List (List S)) : pureV (call Ev) Fn.laws_eqByteS [lv a0, lv a1] =
  vcase (bv ((a0.length : Int) != (a1.length : Int)))
  (some (bv false))
  ((Lp.laws_eqByteS 0 [lv a0, lv a1, iv .i64 0] (D 0)).bind fun o102 => lcase o102 (fun l103 h104 =>
  some (bv true)) (fun v105 h106 =>
  frzV h106 v105)) := by
  rw [pure_eq]; kernel_rfl

theorem eq_laws_eqByteS_l0 (s0 : List (List S)) (s1 : List (List S)) (s5 : Int) (h : H) : Lp.laws_eqByteS 0 [lv s0, lv s1, iv .i64 s5] h =
  vcase (bv (decide (s5 < (s0.length : Int))))
  (idxF 1 s0 s5 fun r203 =>
  (r203[0]?).bind fun x204 =>
  gI .u8 x204 fun i205 =>
  idxF 1 s1 s5 fun r206 =>
  (r206[0]?).bind fun x207 =>
  gI .u8 x207 fun i208 =>
  vcase (bv (i205 != i208))
  (some (.ret (bv false) h))
  (Lp.laws_eqByteS 0 [lv s0, lv s1, iv .i64 (IntKind.i64.wrap (s5 + 1))] (tidy h [lv s0, lv s1, iv .i64 (IntKind.i64.wrap (s5 + 1))] h)))
  (some (.done [] (tidy h [] h))) := by
  unfold Lp.laws_eqByteS; rw [loop_eq]; kernel_rfl

theorem pu_laws_eqBytesResult (a0_0 : Int) (a0_1 : List (List S)) (a1_0 : Int) (a1_1 : List (List S)) : pureV (call Ev) Fn.laws_eqBytesResult [.agg [.int .i64 a0_0, .fs a0_1], .agg [.int .i64 a1_0, .fs a1_1]] =
  vcase (bv (a0_0 != a1_0))
  (some (bv false))
  (pcallS (call Ev) Fn.laws_eqByteS [lv a0_1, lv a1_1] fun v102 =>
  gV1 v102 fun x103 =>
  gB x103 fun q104 =>
  vcase (bv (!q104))
  (some (bv false))
  (some (bv true))) := by
  rw [pure_eq]; kernel_rfl

theorem eq_laws_markByteS (a0 : V) (a1 : Int) (h : H) : call Ev Fn.laws_markByteS [a0, iv .i64 a1] h =
  (Lp.laws_markByteS 0 [a0, iv .i64 a1, iv .i64 0] h).bind fun o101 => lcase o101 (fun l102 h103 =>
  (l102[0]?).bind fun w106 =>
  gV1 w106 fun x107 =>
  gI .i64 x107 fun i108 =>
  some (iv .i64 i108, h103)) (fun v104 h105 =>
  some (v104, h105)) := by
  rw [call_eq]; kernel_rfl

theorem eq_laws_markByteS_l0 (s0 : V) (s1 : Int) (s5 : Int) (h : H) : Lp.laws_markByteS 0 [s0, iv .i64 s1, iv .i64 s5] h =
  (lenV (.sl 5) s0).bind fun v201 =>
  gV1 v201 fun x202 =>
  gI .i64 x202 fun i203 =>
  vcase (bv (decide (s5 < i203)))
  (idxK 1 s0 (iv .i64 s5) fun v206 =>
  stK 1 h v206 (iv .u8 (IntKind.u8.wrap s1)) fun h207 =>
  Lp.laws_markByteS 0 [s0, iv .i64 (IntKind.i64.wrap (s1 + 1)), iv .i64 (IntKind.i64.wrap (s5 + 1))] (tidy h [s0, iv .i64 (IntKind.i64.wrap (s1 + 1)), iv .i64 (IntKind.i64.wrap (s5 + 1))] h207))
  (some (.done [iv .i64 s1] (tidy h [iv .i64 s1] h))) := by
  unfold Lp.laws_markByteS; rw [loop_eq]; kernel_rfl

theorem eq_laws_markBytesResult (a0_0 : Int) (a0_1 : S) (a1 : Int) (h : H) : call Ev Fn.laws_markBytesResult [.agg [.int .i64 a0_0, a0_1], iv .i64 a1] h =
  (load1 (h.new 0 [.int .i64 a0_0, a0_1]) (pv h.n 1)).bind fun x101 =>
  (call Ev Fn.laws_markByteS [.s x101, iv .i64 a1] (h.new 0 [.int .i64 a0_0, a0_1])).bind fun p102 =>
  gV1 p102.1 fun x103 =>
  gI .i64 x103 fun i104 =>
  some (iv .i64 i104, tidy (h.new 0 [.int .i64 a0_0, a0_1]) [p102.1] p102.2) := by
  rw [call_eq]; kernel_rfl

theorem pu_laws_heldByteS (a0 : List (List S)) (a1 : Int) : pureV (call Ev) Fn.laws_heldByteS [lv a0, iv .i64 a1] =
  (Lp.laws_heldByteS 0 [lv a0, iv .i64 a1, iv .i64 0] (D 0)).bind fun o101 => lcase o101 (fun l102 h103 =>
  (l102[0]?).bind fun w106 =>
  gV1 w106 fun x107 =>
  gI .i64 x107 fun i108 =>
  some (iv .i64 i108)) (fun v104 h105 =>
  frzV h105 v104) := by
  rw [pure_eq]; kernel_rfl

theorem eq_laws_heldByteS_l0 (s0 : List (List S)) (s1 : Int) (s5 : Int) (h : H) : Lp.laws_heldByteS 0 [lv s0, iv .i64 s1, iv .i64 s5] h =
  vcase (bv (decide (s5 < (s0.length : Int))))
  (idxF 1 s0 s5 fun r203 =>
  (r203[0]?).bind fun x204 =>
  gI .u8 x204 fun i205 =>
  vcase (bv (i205 != (IntKind.u8.wrap s1)))
  (some (.ret (iv .i64 (-1)) h))
  (Lp.laws_heldByteS 0 [lv s0, iv .i64 (IntKind.i64.wrap (s1 + 1)), iv .i64 (IntKind.i64.wrap (s5 + 1))] (tidy h [lv s0, iv .i64 (IntKind.i64.wrap (s1 + 1)), iv .i64 (IntKind.i64.wrap (s5 + 1))] h)))
  (some (.done [iv .i64 s1] (tidy h [iv .i64 s1] h))) := by
  unfold Lp.laws_heldByteS; rw [loop_eq]; kernel_rfl

theorem pu_laws_heldBytesResult (a0_0 : Int) (a0_1 : List (List S)) (a1 : Int) : pureV (call Ev) Fn.laws_heldBytesResult [.agg [.int .i64 a0_0, .fs a0_1], iv .i64 a1] =
  pcallS (call Ev) Fn.laws_heldByteS [lv a0_1, iv .i64 a1] fun v101 =>
  gV1 v101 fun x102 =>
  gI .i64 x102 fun i103 =>
  vcase (bv (decide (i103 < 0)))
  (some (iv .i64 (-1)))
  (some (iv .i64 i103)) := by
  rw [pure_eq]; kernel_rfl

theorem pu_laws_FnExactPackStub (a0 : Int) (a1 : Int) : pureV (call Ev) Fn.laws_FnExactPackStub [iv .i64 a0, iv .i64 a1] =
  (pureV (call Ev) Fn.spec_PackStub [iv .i64 a0, iv .i64 a1]).bind fun v101 =>
  gVA v101 fun c102 =>
  (c102[0]?).bind fun x103 =>
  gI .i64 x103 fun i104 =>
  (c102[1]?).bind fun x105 =>
  gF x105 fun z106 =>
  if c102.length = 2 then
  pcallF (call Ev) Fn.impl_PackStub true [iv .i64 a0, iv .i64 a1] (((D 0).new 0 [.int .i64 0, .sl none 0]).put 0 (.rw 0 [.int .i64 i104, .fs z106])) fun v107 h108 =>
  gVA v107 fun c109 =>
  (c109[0]?).bind fun x110 =>
  gI .i64 x110 fun i111 =>
  (c109[1]?).bind fun x112 =>
  if c109.length = 2 then
  stK 2 (h108.new 0 [.int .i64 0, .sl none 0]) (pv h108.n 0) (.agg [.int .i64 i111, x112]) fun h113 =>
  (loadN 2 h113 (pv h108.n 0)).bind fun c114 =>
  (c114[0]?).bind fun x115 =>
  gI .i64 x115 fun i116 =>
  (c114[1]?).bind fun x117 =>
  if c114.length = 2 then
  (loadN 2 h113 (pv 0 0)).bind fun c118 =>
  (c118[0]?).bind fun x119 =>
  gI .i64 x119 fun i120 =>
  (c118[1]?).bind fun x121 =>
  if c118.length = 2 then
  (frzVs h113 [.agg [.int .i64 i116, x117], .agg [.int .i64 i120, x121]]).bind fun l122 =>
  pcallS (call Ev) Fn.laws_eqBytesResult (normVs [] l122) fun v123 =>
  gV1 v123 fun x124 =>
  gB x124 fun q125 =>
  vcase (bv (!q125))
  (some (bv false))
  ((loadN 2 h113 (pv h108.n 0)).bind fun c127 =>
  (c127[0]?).bind fun x128 =>
  gI .i64 x128 fun i129 =>
  (c127[1]?).bind fun x130 =>
  if c127.length = 2 then
  (call Ev Fn.laws_markBytesResult [.agg [.int .i64 i129, x130], iv .i64 1] h113).bind fun p131 =>
  gV1 p131.1 fun x132 =>
  gI .i64 x132 fun i133 =>
  (loadN 2 (tidy h113 [p131.1] p131.2) (pv h108.n 0)).bind fun c134 =>
  (c134[0]?).bind fun x135 =>
  gI .i64 x135 fun i136 =>
  (c134[1]?).bind fun x137 =>
  if c134.length = 2 then
  (frzVs (tidy h113 [p131.1] p131.2) [.agg [.int .i64 i136, x137], iv .i64 1]).bind fun l138 =>
  pcallS (call Ev) Fn.laws_heldBytesResult (normVs [] l138) fun v139 =>
  gV1 v139 fun x140 =>
  gI .i64 x140 fun i141 =>
  vcase (bv (decide (i141 < 0)))
  (some (bv false))
  (vcase (bv (i141 != i133))
  (some (bv false))
  ((pureV (call Ev) Fn.impl_PackStub [iv .i64 a0, iv .i64 a1]).bind fun v144 =>
  gVA v144 fun c145 =>
  (c145[0]?).bind fun x146 =>
  gI .i64 x146 fun i147 =>
  (c145[1]?).bind fun x148 =>
  gF x148 fun z149 =>
  if c145.length = 2 then
  stK 2 ((tidy h113 [p131.1] p131.2).new 0 [.int .i64 0, .sl none 0]) (pv ((tidy h113 [p131.1] p131.2).n) 0) (.agg [.int .i64 i147, .fs z149]) fun h150 =>
  (loadN 2 h150 (pv ((tidy h113 [p131.1] p131.2).n) 0)).bind fun c151 =>
  (c151[0]?).bind fun x152 =>
  gI .i64 x152 fun i153 =>
  (c151[1]?).bind fun x154 =>
  if c151.length = 2 then
  (loadN 2 h150 (pv 0 0)).bind fun c155 =>
  (c155[0]?).bind fun x156 =>
  gI .i64 x156 fun i157 =>
  (c155[1]?).bind fun x158 =>
  if c155.length = 2 then
  (frzVs h150 [.agg [.int .i64 i153, x154], .agg [.int .i64 i157, x158]]).bind fun l159 =>
  pcallS (call Ev) Fn.laws_eqBytesResult (normVs [] l159) fun v160 =>
  gV1 v160 fun x161 =>
  gB x161 fun q162 =>
  vcase (bv (!q162))
  (some (bv false))
  ((loadN 2 h150 (pv h108.n 0)).bind fun c164 =>
  (c164[0]?).bind fun x165 =>
  gI .i64 x165 fun i166 =>
  (c164[1]?).bind fun x167 =>
  if c164.length = 2 then
  (frzVs h150 [.agg [.int .i64 i166, x167], iv .i64 1]).bind fun l168 =>
  pcallS (call Ev) Fn.laws_heldBytesResult (normVs [] l168) fun v169 =>
  gV1 v169 fun x170 =>
  gI .i64 x170 fun i171 =>
  vcase (bv (decide (i171 < 0)))
  (some (bv false))
  (vcase (bv (i171 != i133))
  (some (bv false))
  (some (bv true)))
  else none)
  else none
  else none
  else none))
  else none
  else none)
  else none
  else none
  else none
  else none := by
  rw [pure_eq]; kernel_rfl

theorem pu_spec_l2New (a0 : Int) : pureV (call Ev) Fn.spec_l2New [iv .u8 a0] =
  (mkSl 1 [.int .u8 0] (D 0) (iv .i64 64) (iv .i64 64)).bind fun p101 =>
  (Lp.spec_l2New 0 [iv .u8 a0, p101.1, iv .i64 0] p101.2).bind fun o102 => lcase o102 (fun l103 h104 =>
  (l103[0]?).bind fun w107 =>
  idxK 1 w107 (iv .i64 0) fun v108 =>
  stK 1 h104 v108 (iv .u8 0) fun h109 =>
  idxK 1 w107 (iv .i64 1) fun v110 =>
  stK 1 h109 v110 (iv .u8 64) fun h111 =>
  frzV h111 w107) (fun v105 h106 =>
  frzV h106 v105) := by
  rw [pure_eq]; kernel_rfl

theorem eq_spec_l2New_l0 (s0 : Int) (s3 : V) (s4 : Int) (h : H) : Lp.spec_l2New 0 [iv .u8 s0, s3, iv .i64 s4] h =
  vcase (bv (decide (s4 < 64)))
  (idxK 1 s3 (iv .i64 s4) fun v203 =>
  stK 1 h v203 (iv .u8 s0) fun h204 =>
  Lp.spec_l2New 0 [iv .u8 s0, s3, iv .i64 (IntKind.i64.wrap (s4 + 1))] (tidy h [iv .u8 s0, s3, iv .i64 (IntKind.i64.wrap (s4 + 1))] h204))
  (some (.done [s3] (tidy h [s3] h))) := by
  unfold Lp.spec_l2New; rw [loop_eq]; kernel_rfl

theorem pu_spec_NewPage (a0 : Int) : pureV (call Ev) Fn.spec_NewPage [iv .u8 a0] =
  (pureV (call Ev) Fn.spec_l2New [iv .u8 a0]).bind fun v101 =>
  gV1 v101 fun x102 =>
  gF x102 fun z103 =>
  some (.agg [.int .i64 0, .int .i64 0, .fs z103]) := by
  rw [pure_eq]; kernel_rfl

theorem eq_impl_newPage (a0 : Int) (n : Nat) : call Ev Fn.impl_newPage [iv .u8 a0] (D n) =
  (mkSl 1 [.int .u8 0] (D n) (iv .i64 64) (iv .i64 64)).bind fun p101 =>
  (lenV (.sl 5) p101.1).bind fun v102 =>
  gV1 v102 fun x103 =>
  gI .i64 x103 fun i104 =>
  (Lp.impl_newPage 0 [iv .u8 a0, p101.1, iv .i64 i104, iv .i64 0] p101.2).bind fun o105 => lcase o105 (fun l106 h107 =>
  (l106[0]?).bind fun w110 =>
  idxK 1 w110 (iv .i64 0) fun v111 =>
  stK 1 h107 v111 (iv .u8 0) fun h112 =>
  idxK 1 w110 (iv .i64 1) fun v113 =>
  stK 1 h112 v113 (iv .u8 64) fun h114 =>
  some (w110, h114)) (fun v108 h109 =>
  some (v108, h109)) := by
  rw [call_eq]; kernel_rfl

theorem eq_impl_newPage_l0 (s0 : Int) (s3 : V) (s7 : Int) (s8 : Int) (h : H) : Lp.impl_newPage 0 [iv .u8 s0, s3, iv .i64 s7, iv .i64 s8] h =
  vcase (bv (decide (s8 < s7)))
  (idxK 1 s3 (iv .i64 s8) fun v203 =>
  stK 1 h v203 (iv .u8 s0) fun h204 =>
  Lp.impl_newPage 0 [iv .u8 s0, s3, iv .i64 s7, iv .i64 (IntKind.i64.wrap (s8 + 1))] (tidy h [iv .u8 s0, s3, iv .i64 s7, iv .i64 (IntKind.i64.wrap (s8 + 1))] h204))
  (some (.done [s3] (tidy h [s3] h))) := by
  unfold Lp.impl_newPage; rw [loop_eq]; kernel_rfl

theorem eq_impl_NewPage (a0 : Int) (n : Nat) : call Ev Fn.impl_NewPage [iv .u8 a0] (D n) =
  pcallF (call Ev) Fn.impl_newPage true [iv .u8 a0] ((D n).new 0 [.int .i64 0, .int .i64 0, .sl none 0]) fun v101 h102 =>
  cellsK v101 fun c103 =>
  if c103.length = 1 ∧ 2 + 1 ≤ ([.int .i64 0, .int .i64 0, .sl none 0] : List S).length then
  ((setAt ([.int .i64 0, .int .i64 0, .sl none 0] : List S) 2 c103)[0]?).bind fun x104 =>
  gI .i64 x104 fun i105 =>
  ((setAt ([.int .i64 0, .int .i64 0, .sl none 0] : List S) 2 c103)[1]?).bind fun x106 =>
  gI .i64 x106 fun i107 =>
  ((setAt ([.int .i64 0, .int .i64 0, .sl none 0] : List S) 2 c103)[2]?).bind fun x108 =>
  if (setAt ([.int .i64 0, .int .i64 0, .sl none 0] : List S) 2 c103).length = 3 then
  stK 3 h102 (pv ((D n).n) 0) (.agg [.int .i64 i105, .int .i64 i107, x108]) fun h109 =>
  (loadN 3 h109 (pv ((D n).n) 0)).bind fun c110 =>
  some (.agg c110, h109)
  else none
  else none := by
  rw [call_eq]; kernel_rfl

theorem pu_laws_eqPageResult (a0_0 : Int) (a0_1 : Int) (a0_2 : List (List S)) (a1_0 : Int) (a1_1 : Int) (a1_2 : List (List S)) : pureV (call Ev) Fn.laws_eqPageResult [.agg [.int .i64 a0_0, .int .i64 a0_1, .fs a0_2], .agg [.int .i64 a1_0, .int .i64 a1_1, .fs a1_2]] =
  vcase (bv (a0_0 != a1_0))
  (some (bv false))
  (vcase (bv (a0_1 != a1_1))
  (some (bv false))
  (pcallS (call Ev) Fn.laws_eqByteS [lv a0_2, lv a1_2] fun v103 =>
  gV1 v103 fun x104 =>
  gB x104 fun q105 =>
  vcase (bv (!q105))
  (some (bv false))
  (some (bv true)))) := by
  rw [pure_eq]; kernel_rfl

theorem eq_laws_markPageResult (a0_0 : Int) (a0_1 : Int) (a0_2 : S) (a1 : Int) (h : H) : call Ev Fn.laws_markPageResult [.agg [.int .i64 a0_0, .int .i64 a0_1, a0_2], iv .i64 a1] h =
  (load1 (h.new 0 [.int .i64 a0_0, .int .i64 a0_1, a0_2]) (pv h.n 2)).bind fun x101 =>
  (call Ev Fn.laws_markByteS [.s x101, iv .i64 a1] (h.new 0 [.int .i64 a0_0, .int .i64 a0_1, a0_2])).bind fun p102 =>
  gV1 p102.1 fun x103 =>
  gI .i64 x103 fun i104 =>
  some (iv .i64 i104, tidy (h.new 0 [.int .i64 a0_0, .int .i64 a0_1, a0_2]) [p102.1] p102.2) := by
  rw [call_eq]; kernel_rfl

end Vm
