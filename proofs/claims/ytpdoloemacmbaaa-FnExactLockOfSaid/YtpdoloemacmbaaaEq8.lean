/-
  What each function, and each round of each loop, comes to in the small machine. Written by a program (gen3.py).
-/
import Derived.Test.YtpdoloemacmbaaaEnv
set_option linter.unusedVariables false
set_option maxRecDepth 100000
namespace Vm
open Go

theorem pu_spec_LockOf (a0 : List (List S)) (a1_0 : Int) (a1_1 : Int) : pureV (call Ev) Fn.spec_LockOf [lv a0, .agg [.int .i64 a1_0, .int .i64 a1_1]] =
  pcallS (call Ev) Fn.spec_l10Fault [lv a0] fun v101 =>
  gV1 v101 fun x102 =>
  gI .i64 x102 fun i103 =>
  vcase (bv (i103 != 0))
  (some (.agg [.int .i64 i103, .int .i64 0]))
  (pcallS (call Ev) Fn.spec_l10Key [fv [.int .i64 a1_0, .int .i64 a1_1] 0] fun v105 =>
  gV1 v105 fun x106 =>
  gB x106 fun q107 =>
  vcase (bv (!q107))
  (some (.agg [.int .i64 3, .int .i64 0]))
  (pcallS (call Ev) Fn.spec_l10Lock [lv a0, .agg [.int .i64 a1_0, .int .i64 a1_1]] fun v109 =>
  gV1 v109 fun x110 =>
  gI .i64 x110 fun i111 =>
  some (.agg [.int .i64 0, .int .i64 i111]))) := by
  rw [pure_eq]; kernel_rfl

theorem pu_impl_lockOf (a0 : List (List S)) (a1_0 : Int) (a1_1 : Int) : pureV (call Ev) Fn.impl_lockOf [lv a0, .agg [.int .i64 a1_0, .int .i64 a1_1]] =
  (Lp.impl_lockOf 0 [pv 0 0, lv a0, iv .i64 (a0.length : Int), iv .i64 0] ((D 0).new 0 [.int .i64 a1_0, .int .i64 a1_1])).bind fun o101 => lcase o101 (fun l102 h103 =>
  some (iv .i64 0)) (fun v104 h105 =>
  frzV h105 v104) := by
  rw [pure_eq]; kernel_rfl

theorem eq_impl_lockOf_l0 (s3 : V) (s7 : List (List S)) (s8 : Int) (s9 : Int) (h : H) : Lp.impl_lockOf 0 [s3, lv s7, iv .i64 s8, iv .i64 s9] h =
  vcase (bv (decide (s9 < s8)))
  (idxF 4 s7 s9 fun r203 =>
  (rowN 4 r203 0).bind fun c204 =>
  (c204[0]?).bind fun x205 =>
  gI .i64 x205 fun i206 =>
  (c204[1]?).bind fun x207 =>
  gF x207 fun z208 =>
  (c204[2]?).bind fun x209 =>
  gF x209 fun z210 =>
  (c204[3]?).bind fun x211 =>
  gF x211 fun z212 =>
  if c204.length = 4 then
  stK 4 (h.new 0 [.int .i64 0, .sl none 0, .sl none 0, .sl none 0]) (pv h.n 0) (.agg [.int .i64 i206, .fs z208, .fs z210, .fs z212]) fun h213 =>
  (load1 h213 (pv h.n 3)).bind fun x214 =>
  ldK (.agg [.i .i64, .i .i64]) ⟨2, 16, [.int .i64 0, .int .i64 0], true, .st [(0, 2), (1, 2)], true⟩ h213 s3 fun v215 =>
  gVA v215 fun c216 =>
  (c216[0]?).bind fun x217 =>
  gI .i64 x217 fun i218 =>
  (c216[1]?).bind fun x219 =>
  gI .i64 x219 fun i220 =>
  if c216.length = 2 then
  (frzVs h213 [.s x214, .agg [.int .i64 i218, .int .i64 i220]]).bind fun l221 =>
  pcallS (call Ev) Fn.slices_Contains_impl_Key_impl_Key (normVs [] l221) fun v222 =>
  gV1 v222 fun x223 =>
  gB x223 fun q224 =>
  vcase (bv q224)
  ((load1 h213 (pv h.n 0)).bind fun x226 =>
  gI .i64 x226 fun i227 =>
  some (.ret (iv .i64 i227) h213))
  (Lp.impl_lockOf 0 [s3, lv s7, iv .i64 s8, iv .i64 (IntKind.i64.wrap (s9 + 1))] (tidy h [s3, lv s7, iv .i64 s8, iv .i64 (IntKind.i64.wrap (s9 + 1))] h213))
  else none
  else none)
  (some (.done [] (tidy h [] h))) := by
  unfold Lp.impl_lockOf; rw [loop_eq]; kernel_rfl

theorem pu_impl_LockOf (a0 : List (List S)) (a1_0 : Int) (a1_1 : Int) : pureV (call Ev) Fn.impl_LockOf [lv a0, .agg [.int .i64 a1_0, .int .i64 a1_1]] =
  pcallS (call Ev) Fn.impl_TxsFault [lv a0] fun v101 =>
  gV1 v101 fun x102 =>
  gI .i64 x102 fun i103 =>
  vcase (bv (i103 != 0))
  (some (.agg [.int .i64 i103, .int .i64 0]))
  (pcallS (call Ev) Fn.impl_isKey [iv .i64 a1_0, iv .i64 a1_1] fun v105 =>
  gV1 v105 fun x106 =>
  gB x106 fun q107 =>
  vcase (bv (!q107))
  (some (.agg [.int .i64 3, .int .i64 0]))
  (pcallS (call Ev) Fn.impl_lockOf [lv a0, .agg [.int .i64 a1_0, .int .i64 a1_1]] fun v109 =>
  gV1 v109 fun x110 =>
  gI .i64 x110 fun i111 =>
  some (.agg [.int .i64 0, .int .i64 i111]))) := by
  rw [pure_eq]; kernel_rfl

theorem pu_laws_eqIntResult (a0_0 : Int) (a0_1 : Int) (a1_0 : Int) (a1_1 : Int) : pureV (call Ev) Fn.laws_eqIntResult [.agg [.int .i64 a0_0, .int .i64 a0_1], .agg [.int .i64 a1_0, .int .i64 a1_1]] =
  vcase (bv (a0_0 != a1_0))
  (some (bv false))
  (vcase (bv (a0_1 != a1_1))
  (some (bv false))
  (some (bv true))) := by
  rw [pure_eq]; kernel_rfl

theorem pu_laws_FnExactLockOf (a0 : List (List S)) (a1_0 : Int) (a1_1 : Int) : pureV (call Ev) Fn.laws_FnExactLockOf [lv a0, .agg [.int .i64 a1_0, .int .i64 a1_1]] =
  pcallS (call Ev) Fn.laws_szTxS [lv a0, iv .i64 1048576] fun v101 =>
  gV1 v101 fun x102 =>
  gI .i64 x102 fun i103 =>
  vcase (bv (decide (i103 < 0)))
  (some (bv true))
  ((pureV (call Ev) Fn.laws_toTxS [lv a0]).bind fun v105 =>
  gV1 v105 fun x106 =>
  gF x106 fun z107 =>
  pcallS (call Ev) Fn.laws_toKey [.agg [.int .i64 a1_0, .int .i64 a1_1]] fun v108 =>
  gVA v108 fun c109 =>
  (c109[0]?).bind fun x110 =>
  gI .i64 x110 fun i111 =>
  (c109[1]?).bind fun x112 =>
  gI .i64 x112 fun i113 =>
  if c109.length = 2 then
  pcallS (call Ev) Fn.spec_LockOf [lv z107, .agg [.int .i64 i111, .int .i64 i113]] fun v114 =>
  gVA v114 fun c115 =>
  (c115[0]?).bind fun x116 =>
  gI .i64 x116 fun i117 =>
  (c115[1]?).bind fun x118 =>
  gI .i64 x118 fun i119 =>
  if c115.length = 2 then
  (pureV (call Ev) Fn.laws_toTxS [lv a0]).bind fun v120 =>
  gV1 v120 fun x121 =>
  gF x121 fun z122 =>
  pcallS (call Ev) Fn.laws_toKey [.agg [.int .i64 a1_0, .int .i64 a1_1]] fun v123 =>
  gVA v123 fun c124 =>
  (c124[0]?).bind fun x125 =>
  gI .i64 x125 fun i126 =>
  (c124[1]?).bind fun x127 =>
  gI .i64 x127 fun i128 =>
  if c124.length = 2 then
  pcallS (call Ev) Fn.impl_LockOf [lv z122, .agg [.int .i64 i126, .int .i64 i128]] fun v129 =>
  gVA v129 fun c130 =>
  (c130[0]?).bind fun x131 =>
  gI .i64 x131 fun i132 =>
  (c130[1]?).bind fun x133 =>
  gI .i64 x133 fun i134 =>
  if c130.length = 2 then
  pcallS (call Ev) Fn.laws_eqIntResult [.agg [.int .i64 i132, .int .i64 i134], .agg [.int .i64 i117, .int .i64 i119]] fun v135 =>
  gV1 v135 fun x136 =>
  gB x136 fun q137 =>
  vcase (bv (!q137))
  (some (bv false))
  ((pureV (call Ev) Fn.laws_toTxS [lv a0]).bind fun v139 =>
  gV1 v139 fun x140 =>
  gF x140 fun z141 =>
  pcallS (call Ev) Fn.laws_eqTxS [lv z122, lv z141] fun v142 =>
  gV1 v142 fun x143 =>
  gB x143 fun q144 =>
  vcase (bv (!q144))
  (some (bv false))
  (some (bv true)))
  else none
  else none
  else none
  else none) := by
  rw [pure_eq]; kernel_rfl

theorem pu_laws_szRowS (a0 : List (List S)) (a1 : Int) : pureV (call Ev) Fn.laws_szRowS [lv a0, iv .i64 a1] =
  vcase (bv (decide ((IntKind.i64.wrap (a1 - (a0.length : Int))) < 0)))
  (some (iv .i64 (-1)))
  ((Lp.laws_szRowS 0 [lv a0, iv .i64 (IntKind.i64.wrap (a1 - (a0.length : Int))), iv .i64 0] (D 0)).bind fun o102 => lcase o102 (fun l103 h104 =>
  (l103[0]?).bind fun w107 =>
  gV1 w107 fun x108 =>
  gI .i64 x108 fun i109 =>
  some (iv .i64 i109)) (fun v105 h106 =>
  frzV h106 v105)) := by
  rw [pure_eq]; kernel_rfl

theorem eq_laws_szRowS_l0 (s0 : List (List S)) (s1 : Int) (s5 : Int) (h : H) : Lp.laws_szRowS 0 [lv s0, iv .i64 s1, iv .i64 s5] h =
  vcase (bv (decide (s5 < (s0.length : Int))))
  (idxF 4 s0 s5 fun r203 =>
  (rowN 4 r203 0).bind fun c204 =>
  (c204[0]?).bind fun x205 =>
  gI .i64 x205 fun i206 =>
  (c204[1]?).bind fun x207 =>
  gI .i64 x207 fun i208 =>
  (c204[2]?).bind fun x209 =>
  gI .i64 x209 fun i210 =>
  (c204[3]?).bind fun x211 =>
  gS x211 fun y212 =>
  if c204.length = 4 then
  pcallS (call Ev) Fn.laws_szRow [.agg [.int .i64 i206, .int .i64 i208, .int .i64 i210, .str y212], iv .i64 s1] fun v213 =>
  gV1 v213 fun x214 =>
  gI .i64 x214 fun i215 =>
  vcase (bv (decide (i215 < 0)))
  (some (.ret (iv .i64 (-1)) h))
  (Lp.laws_szRowS 0 [lv s0, iv .i64 i215, iv .i64 (IntKind.i64.wrap (s5 + 1))] (tidy h [lv s0, iv .i64 i215, iv .i64 (IntKind.i64.wrap (s5 + 1))] h))
  else none)
  (some (.done [iv .i64 s1] (tidy h [iv .i64 s1] h))) := by
  unfold Lp.laws_szRowS; rw [loop_eq]; kernel_rfl

theorem pu_spec_l10Room (a0 : List (List S)) (a1 : List (List S)) (a2_0 : Int) (a2_1 : Int) : pureV (call Ev) Fn.spec_l10Room [lv a0, lv a1, .agg [.int .i64 a2_0, .int .i64 a2_1]] =
  (Lp.spec_l10Room 0 [lv a0, lv a1, pv 0 0, sv 1 0 0, iv .i64 0] (((D 0).new 0 [.int .i64 a2_0, .int .i64 a2_1]).new 2 [])).bind fun o101 => lcase o101 (fun l102 h103 =>
  (l102[0]?).bind fun w106 =>
  gV1 w106 fun x107 =>
  gF x107 fun z108 =>
  (l102[1]?).bind fun w109 =>
  (l102[2]?).bind fun w110 =>
  (Lp.spec_l10Room 2 [lv z108, w109, w110, iv .i64 0] h103).bind fun o111 => lcase o111 (fun l112 h113 =>
  (l112[0]?).bind fun w116 =>
  (l112[1]?).bind fun w117 =>
  (padd 1 w116).bind fun v118 =>
  ldK (.one (.i .i64)) ⟨1, 8, [.int .i64 0], false, .int .i64, false⟩ h113 v118 fun v119 =>
  gV1 v119 fun x120 =>
  gI .i64 x120 fun i121 =>
  vcase (bv (i121 != 0))
  (ldK (.agg [.i .i64, .i .i64]) ⟨2, 16, [.int .i64 0, .int .i64 0], true, .st [(0, 2), (1, 2)], true⟩ h113 w116 fun v123 =>
  gVA v123 fun c124 =>
  (c124[0]?).bind fun x125 =>
  gI .i64 x125 fun i126 =>
  (c124[1]?).bind fun x127 =>
  gI .i64 x127 fun i128 =>
  if c124.length = 2 then
  (appS 2 (h113.new 2 [.int .i64 i126, .int .i64 i128]) w117 (sv h113.n 0 1)).bind fun p129 =>
  (Lp.spec_l10Room 4 [p129.1, iv .i64 0, iv .i64 0] p129.2).bind fun o130 => lcase o130 (fun l131 h132 =>
  (l131[0]?).bind fun w135 =>
  gV1 w135 fun x136 =>
  gI .i64 x136 fun i137 =>
  some (iv .i64 i137)) (fun v133 h134 =>
  frzV h134 v133)
  else none)
  ((Lp.spec_l10Room 4 [w117, iv .i64 0, iv .i64 0] h113).bind fun o138 => lcase o138 (fun l139 h140 =>
  (l139[0]?).bind fun w143 =>
  gV1 w143 fun x144 =>
  gI .i64 x144 fun i145 =>
  some (iv .i64 i145)) (fun v141 h142 =>
  frzV h142 v141))) (fun v114 h115 =>
  frzV h115 v114)) (fun v104 h105 =>
  frzV h105 v104) := by
  rw [pure_eq]; kernel_rfl

theorem eq_spec_l10Room_l0 (s0 : List (List S)) (s1 : List (List S)) (s5 : V) (s7 : V) (s8 : Int) (h : H) : Lp.spec_l10Room 0 [lv s0, lv s1, s5, s7, iv .i64 s8] h =
  vcase (bv (decide (s8 < (s0.length : Int))))
  (idxF 4 s0 s8 fun r203 =>
  (r203[0]?).bind fun x204 =>
  gI .i64 x204 fun i205 =>
  idxF 4 s0 s8 fun r206 =>
  (r206[1]?).bind fun x207 =>
  gI .i64 x207 fun i208 =>
  hchk h (h.new 2 [.int .i64 i205, .int .i64 i208]) (
  (appS 2 (h.new 2 [.int .i64 i205, .int .i64 i208]) s7 (sv h.n 0 1)).bind fun p209 =>
  Lp.spec_l10Room 0 [lv s0, lv s1, s5, p209.1, iv .i64 (IntKind.i64.wrap (s8 + 1))] (tidy h [lv s0, lv s1, s5, p209.1, iv .i64 (IntKind.i64.wrap (s8 + 1))] p209.2)))
  (some (.done [lv s1, s5, s7] (tidy h [lv s1, s5, s7] h))) := by
  unfold Lp.spec_l10Room; rw [loop_eq]; kernel_rfl

theorem eq_spec_l10Room_l2 (s1 : List (List S)) (s5 : V) (s7 : V) (s9 : Int) (h : H) : Lp.spec_l10Room 2 [lv s1, s5, s7, iv .i64 s9] h =
  vcase (bv (decide (s9 < (s1.length : Int))))
  (idxF 4 s1 s9 fun r403 =>
  (r403[3]?).bind fun x404 =>
  gF x404 fun z405 =>
  (appS 2 h s7 (lv z405)).bind fun p406 =>
  Lp.spec_l10Room 2 [lv s1, s5, p406.1, iv .i64 (IntKind.i64.wrap (s9 + 1))] (tidy h [lv s1, s5, p406.1, iv .i64 (IntKind.i64.wrap (s9 + 1))] p406.2))
  (some (.done [s5, s7] (tidy h [s5, s7] h))) := by
  unfold Lp.spec_l10Room; rw [loop_eq]; kernel_rfl

theorem eq_spec_l10Room_l4 (s7 : V) (s10 : Int) (s11 : Int) (h : H) : Lp.spec_l10Room 4 [s7, iv .i64 s10, iv .i64 s11] h =
  (lenV (.sl 79) s7).bind fun v601 =>
  gV1 v601 fun x602 =>
  gI .i64 x602 fun i603 =>
  vcase (bv (decide (s11 < i603)))
  ((Lp.spec_l10Room 6 [s7, iv .i64 s10, iv .i64 s11, bv true, iv .i64 0] h).bind fun o606 => lcase o606 (fun l607 h608 =>
  (l607[0]?).bind fun w611 =>
  (l607[1]?).bind fun w612 =>
  gV1 w612 fun x613 =>
  gI .i64 x613 fun i614 =>
  (l607[2]?).bind fun w615 =>
  gV1 w615 fun x616 =>
  gI .i64 x616 fun i617 =>
  (l607[3]?).bind fun w618 =>
  gV1 w618 fun x619 =>
  gB x619 fun q620 =>
  vcase (bv q620)
  (Lp.spec_l10Room 4 [w611, iv .i64 (IntKind.i64.wrap (i614 + 1)), iv .i64 (IntKind.i64.wrap (i617 + 1))] (tidy h [w611, iv .i64 (IntKind.i64.wrap (i614 + 1)), iv .i64 (IntKind.i64.wrap (i617 + 1))] h608))
  (Lp.spec_l10Room 4 [w611, iv .i64 i614, iv .i64 (IntKind.i64.wrap (i617 + 1))] (tidy h [w611, iv .i64 i614, iv .i64 (IntKind.i64.wrap (i617 + 1))] h608))) (fun v609 h610 =>
  some (.ret v609 h610)))
  (some (.done [iv .i64 s10] (tidy h [iv .i64 s10] h))) := by
  unfold Lp.spec_l10Room; rw [loop_eq]; kernel_rfl

noncomputable def Jn.spec_l10Room_l6_0 (q820 : Bool) (s7 : V) (s13 : Int) (h : H) (s11 : Int) (s10 : Int) (s12 : Bool) : Option (LOut) :=
  vcase (bv q820)
  (idxK 2 s7 (iv .i64 s13) fun v823 =>
  ldK (.agg [.i .i64, .i .i64]) ⟨2, 16, [.int .i64 0, .int .i64 0], true, .st [(0, 2), (1, 2)], true⟩ h v823 fun v824 =>
  gVA v824 fun c825 =>
  (c825[0]?).bind fun x826 =>
  gI .i64 x826 fun i827 =>
  (c825[1]?).bind fun x828 =>
  gI .i64 x828 fun i829 =>
  if c825.length = 2 then
  idxK 2 s7 (iv .i64 s11) fun v830 =>
  ldK (.agg [.i .i64, .i .i64]) ⟨2, 16, [.int .i64 0, .int .i64 0], true, .st [(0, 2), (1, 2)], true⟩ h v830 fun v831 =>
  gVA v831 fun c832 =>
  (c832[0]?).bind fun x833 =>
  gI .i64 x833 fun i834 =>
  (c832[1]?).bind fun x835 =>
  gI .i64 x835 fun i836 =>
  if c832.length = 2 then
  Lp.spec_l10Room 6 [s7, iv .i64 s10, iv .i64 s11, bv (!(((i827 : Int) == i834) && (((i829 : Int) == i836) && true))), iv .i64 (IntKind.i64.wrap (s13 + 1))] (tidy h [s7, iv .i64 s10, iv .i64 s11, bv (!(((i827 : Int) == i834) && (((i829 : Int) == i836) && true))), iv .i64 (IntKind.i64.wrap (s13 + 1))] h)
  else none
  else none)
  (some (.done [s7, iv .i64 s10, iv .i64 s11, bv s12] (tidy h [s7, iv .i64 s10, iv .i64 s11, bv s12] h)))

theorem eq_spec_l10Room_l6 (s7 : V) (s10 : Int) (s11 : Int) (s12 : Bool) (s13 : Int) (h : H) : Lp.spec_l10Room 6 [s7, iv .i64 s10, iv .i64 s11, bv s12, iv .i64 s13] h =
  vcase (bv (decide (s13 < s11)))
  (Jn.spec_l10Room_l6_0 s12 s7 s13 h s11 s10 s12)
  (Jn.spec_l10Room_l6_0 false s7 s13 h s11 s10 s12) := by
  unfold Lp.spec_l10Room; rw [loop_eq]; kernel_rfl

theorem pu_spec_RoomOf (a0 : List (List S)) (a1 : List (List S)) : pureV (call Ev) Fn.spec_RoomOf [lv a0, lv a1] =
  pcallS (call Ev) Fn.spec_l6Rows [lv a0] fun v101 =>
  gV1 v101 fun x102 =>
  gI .i64 x102 fun i103 =>
  vcase (bv (i103 != 0))
  (some (.agg [.int .i64 i103, .int .i64 0]))
  (pcallS (call Ev) Fn.spec_l10Fault [lv a1] fun v105 =>
  gV1 v105 fun x106 =>
  gI .i64 x106 fun i107 =>
  vcase (bv (i107 != 0))
  (some (.agg [.int .i64 i107, .int .i64 0]))
  (pcallS (call Ev) Fn.spec_l10Room [lv a0, lv a1, .agg [.int .i64 0, .int .i64 0]] fun v109 =>
  gV1 v109 fun x110 =>
  gI .i64 x110 fun i111 =>
  some (.agg [.int .i64 0, .int .i64 i111]))) := by
  rw [pure_eq]; kernel_rfl

theorem pu_laws_toRowS (a0 : List (List S)) : pureV (call Ev) Fn.laws_toRowS [lv a0] =
  (mkSl 4 [.int .i64 0, .int .i64 0, .int .i64 0, .str ⟨#[]⟩] (D 0) (iv .i64 (a0.length : Int)) (iv .i64 (a0.length : Int))).bind fun p101 =>
  (Lp.laws_toRowS 0 [lv a0, p101.1, iv .i64 0] p101.2).bind fun o102 => lcase o102 (fun l103 h104 =>
  (l103[0]?).bind fun w107 =>
  frzV h104 w107) (fun v105 h106 =>
  frzV h106 v105) := by
  rw [pure_eq]; kernel_rfl

theorem eq_laws_toRowS_l0 (s0 : List (List S)) (s3 : V) (s4 : Int) (h : H) : Lp.laws_toRowS 0 [lv s0, s3, iv .i64 s4] h =
  vcase (bv (decide (s4 < (s0.length : Int))))
  (idxF 4 s0 s4 fun r203 =>
  (rowN 4 r203 0).bind fun c204 =>
  (c204[0]?).bind fun x205 =>
  gI .i64 x205 fun i206 =>
  (c204[1]?).bind fun x207 =>
  gI .i64 x207 fun i208 =>
  (c204[2]?).bind fun x209 =>
  gI .i64 x209 fun i210 =>
  (c204[3]?).bind fun x211 =>
  gS x211 fun y212 =>
  if c204.length = 4 then
  pcallS (call Ev) Fn.laws_toRow [.agg [.int .i64 i206, .int .i64 i208, .int .i64 i210, .str y212]] fun v213 =>
  gVA v213 fun c214 =>
  (c214[0]?).bind fun x215 =>
  gI .i64 x215 fun i216 =>
  (c214[1]?).bind fun x217 =>
  gI .i64 x217 fun i218 =>
  (c214[2]?).bind fun x219 =>
  gI .i64 x219 fun i220 =>
  (c214[3]?).bind fun x221 =>
  gS x221 fun y222 =>
  if c214.length = 4 then
  idxK 4 s3 (iv .i64 s4) fun v223 =>
  stK 4 h v223 (.agg [.int .i64 i216, .int .i64 i218, .int .i64 i220, .str y222]) fun h224 =>
  Lp.laws_toRowS 0 [lv s0, s3, iv .i64 (IntKind.i64.wrap (s4 + 1))] (tidy h [lv s0, s3, iv .i64 (IntKind.i64.wrap (s4 + 1))] h224)
  else none
  else none)
  (some (.done [s3] (tidy h [s3] h))) := by
  unfold Lp.laws_toRowS; rw [loop_eq]; kernel_rfl

theorem eq_impl_keysOf (a0 : List (List S)) (a1 : List (List S)) (n : Nat) : call Ev Fn.impl_keysOf [lv a0, lv a1] (D n) =
  (Lp.impl_keysOf 0 [lv a1, .s (.mp (some ((D n).n))), lv a0, iv .i64 (a0.length : Int), iv .i64 0] ((D n).newM)).bind fun o101 => lcase o101 (fun l102 h103 =>
  (l102[0]?).bind fun w106 =>
  gV1 w106 fun x107 =>
  gF x107 fun z108 =>
  (l102[1]?).bind fun w109 =>
  (Lp.impl_keysOf 2 [w109, lv z108, iv .i64 (z108.length : Int), iv .i64 0] h103).bind fun o110 => lcase o110 (fun l111 h112 =>
  (l111[0]?).bind fun w115 =>
  some (w115, h112)) (fun v113 h114 =>
  some (v113, h114))) (fun v104 h105 =>
  some (v104, h105)) := by
  rw [call_eq]; kernel_rfl

theorem eq_impl_keysOf_l0 (s1 : List (List S)) (s5 : V) (s13 : List (List S)) (s14 : Int) (s15 : Int) (h : H) : Lp.impl_keysOf 0 [lv s1, s5, lv s13, iv .i64 s14, iv .i64 s15] h =
  vcase (bv (decide (s15 < s14)))
  (idxF 4 s13 s15 fun r203 =>
  (rowN 4 r203 0).bind fun c204 =>
  (c204[0]?).bind fun x205 =>
  gI .i64 x205 fun i206 =>
  (c204[1]?).bind fun x207 =>
  gI .i64 x207 fun i208 =>
  (c204[2]?).bind fun x209 =>
  gI .i64 x209 fun i210 =>
  (c204[3]?).bind fun x211 =>
  gS x211 fun y212 =>
  if c204.length = 4 then
  stK 4 (h.new 0 [.int .i64 0, .int .i64 0, .int .i64 0, .str (⟨#[]⟩)]) (pv h.n 0) (.agg [.int .i64 i206, .int .i64 i208, .int .i64 i210, .str y212]) fun h213 =>
  (load1 h213 (pv h.n 0)).bind fun x214 =>
  gI .i64 x214 fun i215 =>
  (load1 h213 (pv h.n 1)).bind fun x216 =>
  gI .i64 x216 fun i217 =>
  (updM Ev 143 h213 s5 (.agg [.int .i64 i215, .int .i64 i217]) (bv true)).bind fun h218 =>
  Lp.impl_keysOf 0 [lv s1, s5, lv s13, iv .i64 s14, iv .i64 (IntKind.i64.wrap (s15 + 1))] (tidy h [lv s1, s5, lv s13, iv .i64 s14, iv .i64 (IntKind.i64.wrap (s15 + 1))] h218)
  else none)
  (some (.done [lv s1, s5] (tidy h [lv s1, s5] h))) := by
  unfold Lp.impl_keysOf; rw [loop_eq]; kernel_rfl

theorem eq_impl_keysOf_l2 (s5 : V) (s26 : List (List S)) (s27 : Int) (s28 : Int) (h : H) : Lp.impl_keysOf 2 [s5, lv s26, iv .i64 s27, iv .i64 s28] h =
  vcase (bv (decide (s28 < s27)))
  (idxF 4 s26 s28 fun r403 =>
  (rowN 4 r403 0).bind fun c404 =>
  (c404[0]?).bind fun x405 =>
  gI .i64 x405 fun i406 =>
  (c404[1]?).bind fun x407 =>
  gF x407 fun z408 =>
  (c404[2]?).bind fun x409 =>
  gF x409 fun z410 =>
  (c404[3]?).bind fun x411 =>
  gF x411 fun z412 =>
  if c404.length = 4 then
  stK 4 (h.new 0 [.int .i64 0, .sl none 0, .sl none 0, .sl none 0]) (pv h.n 0) (.agg [.int .i64 i406, .fs z408, .fs z410, .fs z412]) fun h413 =>
  (load1 h413 (pv h.n 3)).bind fun x414 =>
  (lenV (.sl 79) (.s x414)).bind fun v415 =>
  gV1 v415 fun x416 =>
  gI .i64 x416 fun i417 =>
  (Lp.impl_keysOf 4 [s5, lv s26, iv .i64 s27, iv .i64 s28, .s x414, iv .i64 i417, iv .i64 0] h413).bind fun o418 => lcase o418 (fun l419 h420 =>
  (l419[0]?).bind fun w423 =>
  (l419[1]?).bind fun w424 =>
  gV1 w424 fun x425 =>
  gF x425 fun z426 =>
  (l419[2]?).bind fun w427 =>
  gV1 w427 fun x428 =>
  gI .i64 x428 fun i429 =>
  (l419[3]?).bind fun w430 =>
  gV1 w430 fun x431 =>
  gI .i64 x431 fun i432 =>
  Lp.impl_keysOf 2 [w423, lv z426, iv .i64 i429, iv .i64 (IntKind.i64.wrap (i432 + 1))] (tidy h [w423, lv z426, iv .i64 i429, iv .i64 (IntKind.i64.wrap (i432 + 1))] h420)) (fun v421 h422 =>
  some (.ret v421 h422))
  else none)
  (some (.done [s5] (tidy h [s5] h))) := by
  unfold Lp.impl_keysOf; rw [loop_eq]; kernel_rfl

theorem eq_impl_keysOf_l4 (s5 : V) (s26 : List (List S)) (s27 : Int) (s28 : Int) (s33 : V) (s34 : Int) (s35 : Int) (h : H) : Lp.impl_keysOf 4 [s5, lv s26, iv .i64 s27, iv .i64 s28, s33, iv .i64 s34, iv .i64 s35] h =
  vcase (bv (decide (s35 < s34)))
  (idxK 2 s33 (iv .i64 s35) fun v603 =>
  ldK (.agg [.i .i64, .i .i64]) ⟨2, 16, [.int .i64 0, .int .i64 0], true, .st [(0, 2), (1, 2)], true⟩ h v603 fun v604 =>
  gVA v604 fun c605 =>
  (c605[0]?).bind fun x606 =>
  gI .i64 x606 fun i607 =>
  (c605[1]?).bind fun x608 =>
  gI .i64 x608 fun i609 =>
  if c605.length = 2 then
  stK 2 (h.new 0 [.int .i64 0, .int .i64 0]) (pv h.n 0) (.agg [.int .i64 i607, .int .i64 i609]) fun h610 =>
  (loadN 2 h610 (pv h.n 0)).bind fun c611 =>
  (c611[0]?).bind fun x612 =>
  gI .i64 x612 fun i613 =>
  (c611[1]?).bind fun x614 =>
  gI .i64 x614 fun i615 =>
  if c611.length = 2 then
  (updM Ev 143 h610 s5 (.agg [.int .i64 i613, .int .i64 i615]) (bv true)).bind fun h616 =>
  Lp.impl_keysOf 4 [s5, lv s26, iv .i64 s27, iv .i64 s28, s33, iv .i64 s34, iv .i64 (IntKind.i64.wrap (s35 + 1))] (tidy h [s5, lv s26, iv .i64 s27, iv .i64 s28, s33, iv .i64 s34, iv .i64 (IntKind.i64.wrap (s35 + 1))] h616)
  else none
  else none)
  (some (.done [s5, lv s26, iv .i64 s27, iv .i64 s28] (tidy h [s5, lv s26, iv .i64 s27, iv .i64 s28] h))) := by
  unfold Lp.impl_keysOf; rw [loop_eq]; kernel_rfl

theorem pu_impl_RoomOf (a0 : List (List S)) (a1 : List (List S)) : pureV (call Ev) Fn.impl_RoomOf [lv a0, lv a1] =
  pcallS (call Ev) Fn.impl_RowsFault [lv a0] fun v101 =>
  gV1 v101 fun x102 =>
  gI .i64 x102 fun i103 =>
  vcase (bv (i103 != 0))
  (some (.agg [.int .i64 i103, .int .i64 0]))
  (pcallS (call Ev) Fn.impl_TxsFault [lv a1] fun v105 =>
  gV1 v105 fun x106 =>
  gI .i64 x106 fun i107 =>
  vcase (bv (i107 != 0))
  (some (.agg [.int .i64 i107, .int .i64 0]))
  (pcallF (call Ev) Fn.impl_keysOf true [lv a0, lv a1] ((D 0).new 0 [.int .i64 0, .int .i64 0]) fun v109 h110 =>
  (mpOf h110 v109).bind fun q111 =>
  stK 2 h110 (pv 0 0) (.agg [.int .i64 0, .int .i64 (q111.2.length : Int)]) fun h112 =>
  (loadN 2 h112 (pv 0 0)).bind fun c113 =>
  frzV h112 (.agg c113))) := by
  rw [pure_eq]; kernel_rfl

theorem pu_laws_eqRowS (a0 : List (List S)) (a1 : List (List S)) : pureV (call Ev) Fn.laws_eqRowS [lv a0, lv a1] =
  vcase (bv ((a0.length : Int) != (a1.length : Int)))
  (some (bv false))
  ((Lp.laws_eqRowS 0 [lv a0, lv a1, iv .i64 0] (D 0)).bind fun o102 => lcase o102 (fun l103 h104 =>
  some (bv true)) (fun v105 h106 =>
  frzV h106 v105)) := by
  rw [pure_eq]; kernel_rfl

theorem eq_laws_eqRowS_l0 (s0 : List (List S)) (s1 : List (List S)) (s5 : Int) (h : H) : Lp.laws_eqRowS 0 [lv s0, lv s1, iv .i64 s5] h =
  vcase (bv (decide (s5 < (s0.length : Int))))
  (idxF 4 s0 s5 fun r203 =>
  (rowN 4 r203 0).bind fun c204 =>
  (c204[0]?).bind fun x205 =>
  gI .i64 x205 fun i206 =>
  (c204[1]?).bind fun x207 =>
  gI .i64 x207 fun i208 =>
  (c204[2]?).bind fun x209 =>
  gI .i64 x209 fun i210 =>
  (c204[3]?).bind fun x211 =>
  gS x211 fun y212 =>
  if c204.length = 4 then
  idxF 4 s1 s5 fun r213 =>
  (rowN 4 r213 0).bind fun c214 =>
  (c214[0]?).bind fun x215 =>
  gI .i64 x215 fun i216 =>
  (c214[1]?).bind fun x217 =>
  gI .i64 x217 fun i218 =>
  (c214[2]?).bind fun x219 =>
  gI .i64 x219 fun i220 =>
  (c214[3]?).bind fun x221 =>
  gS x221 fun y222 =>
  if c214.length = 4 then
  pcallS (call Ev) Fn.laws_eqRow [.agg [.int .i64 i206, .int .i64 i208, .int .i64 i210, .str y212], .agg [.int .i64 i216, .int .i64 i218, .int .i64 i220, .str y222]] fun v223 =>
  gV1 v223 fun x224 =>
  gB x224 fun q225 =>
  hchk h h (
  vcase (bv (!q225))
  (some (.ret (bv false) h))
  (Lp.laws_eqRowS 0 [lv s0, lv s1, iv .i64 (IntKind.i64.wrap (s5 + 1))] (tidy h [lv s0, lv s1, iv .i64 (IntKind.i64.wrap (s5 + 1))] h)))
  else none
  else none)
  (some (.done [] (tidy h [] h))) := by
  unfold Lp.laws_eqRowS; rw [loop_eq]; kernel_rfl

theorem pu_laws_FnExactRoomOf (a0 : List (List S)) (a1 : List (List S)) : pureV (call Ev) Fn.laws_FnExactRoomOf [lv a0, lv a1] =
  pcallS (call Ev) Fn.laws_szRowS [lv a0, iv .i64 1048576] fun v101 =>
  gV1 v101 fun x102 =>
  gI .i64 x102 fun i103 =>
  vcase (bv (decide (i103 < 0)))
  (some (bv true))
  (pcallS (call Ev) Fn.laws_szTxS [lv a1, iv .i64 i103] fun v105 =>
  gV1 v105 fun x106 =>
  gI .i64 x106 fun i107 =>
  vcase (bv (decide (i107 < 0)))
  (some (bv true))
  ((pureV (call Ev) Fn.laws_toRowS [lv a0]).bind fun v109 =>
  gV1 v109 fun x110 =>
  gF x110 fun z111 =>
  (pureV (call Ev) Fn.laws_toTxS [lv a1]).bind fun v112 =>
  gV1 v112 fun x113 =>
  gF x113 fun z114 =>
  pcallS (call Ev) Fn.spec_RoomOf [lv z111, lv z114] fun v115 =>
  gVA v115 fun c116 =>
  (c116[0]?).bind fun x117 =>
  gI .i64 x117 fun i118 =>
  (c116[1]?).bind fun x119 =>
  gI .i64 x119 fun i120 =>
  if c116.length = 2 then
  (pureV (call Ev) Fn.laws_toRowS [lv a0]).bind fun v121 =>
  gV1 v121 fun x122 =>
  gF x122 fun z123 =>
  (pureV (call Ev) Fn.laws_toTxS [lv a1]).bind fun v124 =>
  gV1 v124 fun x125 =>
  gF x125 fun z126 =>
  pcallS (call Ev) Fn.impl_RoomOf [lv z123, lv z126] fun v127 =>
  gVA v127 fun c128 =>
  (c128[0]?).bind fun x129 =>
  gI .i64 x129 fun i130 =>
  (c128[1]?).bind fun x131 =>
  gI .i64 x131 fun i132 =>
  if c128.length = 2 then
  pcallS (call Ev) Fn.laws_eqIntResult [.agg [.int .i64 i130, .int .i64 i132], .agg [.int .i64 i118, .int .i64 i120]] fun v133 =>
  gV1 v133 fun x134 =>
  gB x134 fun q135 =>
  vcase (bv (!q135))
  (some (bv false))
  ((pureV (call Ev) Fn.laws_toRowS [lv a0]).bind fun v137 =>
  gV1 v137 fun x138 =>
  gF x138 fun z139 =>
  pcallS (call Ev) Fn.laws_eqRowS [lv z123, lv z139] fun v140 =>
  gV1 v140 fun x141 =>
  gB x141 fun q142 =>
  vcase (bv (!q142))
  (some (bv false))
  ((pureV (call Ev) Fn.laws_toTxS [lv a1]).bind fun v144 =>
  gV1 v144 fun x145 =>
  gF x145 fun z146 =>
  pcallS (call Ev) Fn.laws_eqTxS [lv z126, lv z146] fun v147 =>
  gV1 v147 fun x148 =>
  gB x148 fun q149 =>
  vcase (bv (!q149))
  (some (bv false))
  (some (bv true))))
  else none
  else none)) := by
  rw [pure_eq]; kernel_rfl

end Vm
