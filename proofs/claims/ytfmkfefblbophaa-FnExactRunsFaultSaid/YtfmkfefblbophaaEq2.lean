/-
  What each function, and each round of each loop, comes to in the small machine. Written by a program (gen3.py).
-/
import Derived.Test.YtfmkfefblbophaaEnv
set_option linter.unusedVariables false
set_option maxRecDepth 100000
namespace Vm
open Go

theorem pu_laws_FnExactOpFault (a0_0 : Int) (a0_1 : Int) (a0_2 : Int) (a0_3 : Int) (a0_4 : Int) (a0_5 : ByteArray) (a0_6 : Int) : pureV (call Ev) Fn.laws_FnExactOpFault [.agg [.int .i64 a0_0, .int .i64 a0_1, .int .i64 a0_2, .int .i64 a0_3, .int .i64 a0_4, .str a0_5, .int .i64 a0_6]] =
  pcallS (call Ev) Fn.laws_szOp [.agg [.int .i64 a0_0, .int .i64 a0_1, .int .i64 a0_2, .int .i64 a0_3, .int .i64 a0_4, .str a0_5, .int .i64 a0_6], iv .i64 1048576] fun v101 =>
  gV1 v101 fun x102 =>
  gI .i64 x102 fun i103 =>
  vcase (bv (decide (i103 < 0)))
  (some (bv true))
  (pcallS (call Ev) Fn.laws_toOp [.agg [.int .i64 a0_0, .int .i64 a0_1, .int .i64 a0_2, .int .i64 a0_3, .int .i64 a0_4, .str a0_5, .int .i64 a0_6]] fun v105 =>
  gVA v105 fun c106 =>
  (c106[0]?).bind fun x107 =>
  gI .i64 x107 fun i108 =>
  (c106[1]?).bind fun x109 =>
  gI .i64 x109 fun i110 =>
  (c106[2]?).bind fun x111 =>
  gI .i64 x111 fun i112 =>
  (c106[3]?).bind fun x113 =>
  gI .i64 x113 fun i114 =>
  (c106[4]?).bind fun x115 =>
  gI .i64 x115 fun i116 =>
  (c106[5]?).bind fun x117 =>
  gS x117 fun y118 =>
  (c106[6]?).bind fun x119 =>
  gI .i64 x119 fun i120 =>
  if c106.length = 7 then
  pcallS (call Ev) Fn.spec_OpFault [.agg [.int .i64 i108, .int .i64 i110, .int .i64 i112, .int .i64 i114, .int .i64 i116, .str y118, .int .i64 i120]] fun v121 =>
  gV1 v121 fun x122 =>
  gI .i64 x122 fun i123 =>
  pcallS (call Ev) Fn.laws_toOp [.agg [.int .i64 a0_0, .int .i64 a0_1, .int .i64 a0_2, .int .i64 a0_3, .int .i64 a0_4, .str a0_5, .int .i64 a0_6]] fun v124 =>
  gVA v124 fun c125 =>
  (c125[0]?).bind fun x126 =>
  gI .i64 x126 fun i127 =>
  (c125[1]?).bind fun x128 =>
  gI .i64 x128 fun i129 =>
  (c125[2]?).bind fun x130 =>
  gI .i64 x130 fun i131 =>
  (c125[3]?).bind fun x132 =>
  gI .i64 x132 fun i133 =>
  (c125[4]?).bind fun x134 =>
  gI .i64 x134 fun i135 =>
  (c125[5]?).bind fun x136 =>
  gS x136 fun y137 =>
  (c125[6]?).bind fun x138 =>
  gI .i64 x138 fun i139 =>
  if c125.length = 7 then
  pcallS (call Ev) Fn.impl_OpFault [.agg [.int .i64 i127, .int .i64 i129, .int .i64 i131, .int .i64 i133, .int .i64 i135, .str y137, .int .i64 i139]] fun v140 =>
  gV1 v140 fun x141 =>
  gI .i64 x141 fun i142 =>
  vcase (bv (i142 != i123))
  (some (bv false))
  (some (bv true))
  else none
  else none) := by
  rw [pure_eq]; kernel_rfl

theorem pu_laws_szByteS (a0 : List (List S)) (a1 : Int) : pureV (call Ev) Fn.laws_szByteS [lv a0, iv .i64 a1] =
  vcase (bv (decide ((IntKind.i64.wrap (a1 - (a0.length : Int))) < 0)))
  (some (iv .i64 (-1)))
  (some (iv .i64 (IntKind.i64.wrap (a1 - (a0.length : Int))))) := by
  rw [pure_eq]; kernel_rfl

theorem pu_laws_szRun (a0_0 : Int) (a0_1 : List (List S)) (a1 : Int) : pureV (call Ev) Fn.laws_szRun [.agg [.int .i64 a0_0, .fs a0_1], iv .i64 a1] =
  pcallS (call Ev) Fn.laws_szByteS [lv a0_1, iv .i64 a1] fun v101 =>
  gV1 v101 fun x102 =>
  gI .i64 x102 fun i103 =>
  vcase (bv (decide (i103 < 0)))
  (some (iv .i64 (-1)))
  (some (iv .i64 i103)) := by
  rw [pure_eq]; kernel_rfl

theorem pu_laws_szRunS (a0 : List (List S)) (a1 : Int) : pureV (call Ev) Fn.laws_szRunS [lv a0, iv .i64 a1] =
  vcase (bv (decide ((IntKind.i64.wrap (a1 - (a0.length : Int))) < 0)))
  (some (iv .i64 (-1)))
  ((Lp.laws_szRunS 0 [lv a0, iv .i64 (IntKind.i64.wrap (a1 - (a0.length : Int))), iv .i64 0] (D 0)).bind fun o102 => lcase o102 (fun l103 h104 =>
  (l103[0]?).bind fun w107 =>
  gV1 w107 fun x108 =>
  gI .i64 x108 fun i109 =>
  some (iv .i64 i109)) (fun v105 h106 =>
  frzV h106 v105)) := by
  rw [pure_eq]; kernel_rfl

theorem eq_laws_szRunS_l0 (s0 : List (List S)) (s1 : Int) (s5 : Int) (h : H) : Lp.laws_szRunS 0 [lv s0, iv .i64 s1, iv .i64 s5] h =
  vcase (bv (decide (s5 < (s0.length : Int))))
  (idxF 2 s0 s5 fun r203 =>
  (rowN 2 r203 0).bind fun c204 =>
  (c204[0]?).bind fun x205 =>
  gI .i64 x205 fun i206 =>
  (c204[1]?).bind fun x207 =>
  gF x207 fun z208 =>
  if c204.length = 2 then
  pcallS (call Ev) Fn.laws_szRun [.agg [.int .i64 i206, .fs z208], iv .i64 s1] fun v209 =>
  gV1 v209 fun x210 =>
  gI .i64 x210 fun i211 =>
  vcase (bv (decide (i211 < 0)))
  (some (.ret (iv .i64 (-1)) h))
  (Lp.laws_szRunS 0 [lv s0, iv .i64 i211, iv .i64 (IntKind.i64.wrap (s5 + 1))] (tidy h [lv s0, iv .i64 i211, iv .i64 (IntKind.i64.wrap (s5 + 1))] h))
  else none)
  (some (.done [iv .i64 s1] (tidy h [iv .i64 s1] h))) := by
  unfold Lp.laws_szRunS; rw [loop_eq]; kernel_rfl

theorem pu_spec_l3Fault (a0 : List (List S)) : pureV (call Ev) Fn.spec_l3Fault [lv a0] =
  vcase (bv (decide ((a0.length : Int) > 64)))
  (some (iv .i64 2))
  ((Lp.spec_l3Fault 0 [lv a0, iv .i64 0] (D 0)).bind fun o102 => lcase o102 (fun l103 h104 =>
  some (iv .i64 0)) (fun v105 h106 =>
  frzV h106 v105)) := by
  rw [pure_eq]; kernel_rfl

theorem eq_spec_l3Fault_l0 (s0 : List (List S)) (s3 : Int) (h : H) : Lp.spec_l3Fault 0 [lv s0, iv .i64 s3] h =
  vcase (bv (decide (s3 < (s0.length : Int))))
  (idxF 2 s0 s3 fun r203 =>
  (r203[1]?).bind fun x204 =>
  gF x204 fun z205 =>
  idxF 2 s0 s3 fun r206 =>
  (r206[0]?).bind fun x207 =>
  gI .i64 x207 fun i208 =>
  pcallS (call Ev) Fn.spec_l1In [iv .i64 i208, iv .i64 0, iv .i64 63] fun v209 =>
  gV1 v209 fun x210 =>
  gB x210 fun q211 =>
  vcase (bv (!q211))
  (some (.ret (iv .i64 3) h))
  (pcallS (call Ev) Fn.spec_l1In [iv .i64 (z205.length : Int), iv .i64 1, iv .i64 64] fun v214 =>
  gV1 v214 fun x215 =>
  gB x215 fun q216 =>
  vcase (bv (!q216))
  (some (.ret (iv .i64 3) h))
  (idxF 2 s0 s3 fun r222 =>
  (r222[0]?).bind fun x223 =>
  gI .i64 x223 fun i224 =>
  vcase (bv (decide ((IntKind.i64.wrap (i224 + (z205.length : Int))) > 64)))
  (some (.ret (iv .i64 3) h))
  (vcase (bv (decide (s3 > 0)))
  (idxF 2 s0 s3 fun r229 =>
  (r229[0]?).bind fun x230 =>
  gI .i64 x230 fun i231 =>
  idxF 2 s0 (IntKind.i64.wrap (s3 - 1)) fun r232 =>
  (r232[0]?).bind fun x233 =>
  gI .i64 x233 fun i234 =>
  idxF 2 s0 (IntKind.i64.wrap (s3 - 1)) fun r235 =>
  (r235[1]?).bind fun x236 =>
  gF x236 fun z237 =>
  vcase (bv (decide (i231 ≤ (IntKind.i64.wrap (i234 + (z237.length : Int))))))
  (some (.ret (iv .i64 1) h))
  (Lp.spec_l3Fault 0 [lv s0, iv .i64 (IntKind.i64.wrap (s3 + 1))] (tidy h [lv s0, iv .i64 (IntKind.i64.wrap (s3 + 1))] h)))
  (Lp.spec_l3Fault 0 [lv s0, iv .i64 (IntKind.i64.wrap (s3 + 1))] (tidy h [lv s0, iv .i64 (IntKind.i64.wrap (s3 + 1))] h))))))
  (some (.done [] (tidy h [] h))) := by
  unfold Lp.spec_l3Fault; rw [loop_eq]; kernel_rfl

theorem pu_spec_RunsFault (a0 : List (List S)) : pureV (call Ev) Fn.spec_RunsFault [lv a0] =
  pcallS (call Ev) Fn.spec_l3Fault [lv a0] fun v101 =>
  gV1 v101 fun x102 =>
  gI .i64 x102 fun i103 =>
  some (iv .i64 i103) := by
  rw [pure_eq]; kernel_rfl

theorem pu_laws_toRun (a0_0 : Int) (a0_1 : List (List S)) : pureV (call Ev) Fn.laws_toRun [.agg [.int .i64 a0_0, .fs a0_1]] =
  (pureV (call Ev) Fn.laws_toByteS [lv a0_1]).bind fun v101 =>
  gV1 v101 fun x102 =>
  gF x102 fun z103 =>
  some (.agg [.int .i64 a0_0, .fs z103]) := by
  rw [pure_eq]; kernel_rfl

theorem pu_laws_toRunS (a0 : List (List S)) : pureV (call Ev) Fn.laws_toRunS [lv a0] =
  (mkSl 2 [.int .i64 0, .sl none 0] (D 0) (iv .i64 (a0.length : Int)) (iv .i64 (a0.length : Int))).bind fun p101 =>
  (Lp.laws_toRunS 0 [lv a0, p101.1, iv .i64 0] p101.2).bind fun o102 => lcase o102 (fun l103 h104 =>
  (l103[0]?).bind fun w107 =>
  frzV h104 w107) (fun v105 h106 =>
  frzV h106 v105) := by
  rw [pure_eq]; kernel_rfl

theorem eq_laws_toRunS_l0 (s0 : List (List S)) (s3 : V) (s4 : Int) (h : H) : Lp.laws_toRunS 0 [lv s0, s3, iv .i64 s4] h =
  vcase (bv (decide (s4 < (s0.length : Int))))
  (idxF 2 s0 s4 fun r203 =>
  (rowN 2 r203 0).bind fun c204 =>
  (c204[0]?).bind fun x205 =>
  gI .i64 x205 fun i206 =>
  (c204[1]?).bind fun x207 =>
  gF x207 fun z208 =>
  if c204.length = 2 then
  (pureV (call Ev) Fn.laws_toRun [.agg [.int .i64 i206, .fs z208]]).bind fun v209 =>
  gVA v209 fun c210 =>
  (c210[0]?).bind fun x211 =>
  gI .i64 x211 fun i212 =>
  (c210[1]?).bind fun x213 =>
  gF x213 fun z214 =>
  if c210.length = 2 then
  idxK 2 s3 (iv .i64 s4) fun v215 =>
  stK 2 h v215 (.agg [.int .i64 i212, .fs z214]) fun h216 =>
  Lp.laws_toRunS 0 [lv s0, s3, iv .i64 (IntKind.i64.wrap (s4 + 1))] (tidy h [lv s0, s3, iv .i64 (IntKind.i64.wrap (s4 + 1))] h216)
  else none
  else none)
  (some (.done [s3] (tidy h [s3] h))) := by
  unfold Lp.laws_toRunS; rw [loop_eq]; kernel_rfl

theorem pu_impl_RunsFault (a0 : List (List S)) : pureV (call Ev) Fn.impl_RunsFault [lv a0] =
  vcase (bv (decide ((a0.length : Int) > 64)))
  (some (iv .i64 2))
  ((Lp.impl_RunsFault 0 [iv .i64 0, lv a0, iv .i64 (a0.length : Int), iv .i64 0] (D 0)).bind fun o102 => lcase o102 (fun l103 h104 =>
  some (iv .i64 0)) (fun v105 h106 =>
  frzV h106 v105)) := by
  rw [pure_eq]; kernel_rfl

theorem eq_impl_RunsFault_l0 (s3 : Int) (s10 : List (List S)) (s11 : Int) (s12 : Int) (h : H) : Lp.impl_RunsFault 0 [iv .i64 s3, lv s10, iv .i64 s11, iv .i64 s12] h =
  vcase (bv (decide (s12 < s11)))
  (idxF 2 s10 s12 fun r203 =>
  (rowN 2 r203 0).bind fun c204 =>
  (c204[0]?).bind fun x205 =>
  gI .i64 x205 fun i206 =>
  (c204[1]?).bind fun x207 =>
  gF x207 fun z208 =>
  if c204.length = 2 then
  stK 2 (h.new 0 [.int .i64 0, .sl none 0]) (pv h.n 0) (.agg [.int .i64 i206, .fs z208]) fun h209 =>
  (load1 h209 (pv h.n 1)).bind fun x210 =>
  (lenV (.sl 5) (.s x210)).bind fun v211 =>
  gV1 v211 fun x212 =>
  gI .i64 x212 fun i213 =>
  (load1 h209 (pv h.n 0)).bind fun x214 =>
  gI .i64 x214 fun i215 =>
  pcallS (call Ev) Fn.impl_in [iv .i64 i215, iv .i64 0, iv .i64 63] fun v216 =>
  gV1 v216 fun x217 =>
  gB x217 fun q218 =>
  vcase (bv (!q218))
  (some (.ret (iv .i64 3) h209))
  (pcallS (call Ev) Fn.impl_in [iv .i64 i213, iv .i64 1, iv .i64 64] fun v221 =>
  gV1 v221 fun x222 =>
  gB x222 fun q223 =>
  vcase (bv (!q223))
  (some (.ret (iv .i64 3) h209))
  ((load1 h209 (pv h.n 0)).bind fun x229 =>
  gI .i64 x229 fun i230 =>
  vcase (bv (decide ((IntKind.i64.wrap (i230 + i213)) > 64)))
  (some (.ret (iv .i64 3) h209))
  ((load1 h209 (pv h.n 0)).bind fun x234 =>
  gI .i64 x234 fun i235 =>
  vcase (bv (decide (i235 < s3)))
  (some (.ret (iv .i64 1) h209))
  ((load1 h209 (pv h.n 0)).bind fun x237 =>
  gI .i64 x237 fun i238 =>
  Lp.impl_RunsFault 0 [iv .i64 (IntKind.i64.wrap ((IntKind.i64.wrap (i238 + i213)) + 1)), lv s10, iv .i64 s11, iv .i64 (IntKind.i64.wrap (s12 + 1))] (tidy h [iv .i64 (IntKind.i64.wrap ((IntKind.i64.wrap (i238 + i213)) + 1)), lv s10, iv .i64 s11, iv .i64 (IntKind.i64.wrap (s12 + 1))] h209)))))
  else none)
  (some (.done [] (tidy h [] h))) := by
  unfold Lp.impl_RunsFault; rw [loop_eq]; kernel_rfl

theorem pu_laws_eqRun (a0_0 : Int) (a0_1 : List (List S)) (a1_0 : Int) (a1_1 : List (List S)) : pureV (call Ev) Fn.laws_eqRun [.agg [.int .i64 a0_0, .fs a0_1], .agg [.int .i64 a1_0, .fs a1_1]] =
  vcase (bv (a0_0 != a1_0))
  (some (bv false))
  (pcallS (call Ev) Fn.laws_eqByteS [lv a0_1, lv a1_1] fun v102 =>
  gV1 v102 fun x103 =>
  gB x103 fun q104 =>
  vcase (bv (!q104))
  (some (bv false))
  (some (bv true))) := by
  rw [pure_eq]; kernel_rfl

theorem pu_laws_eqRunS (a0 : List (List S)) (a1 : List (List S)) : pureV (call Ev) Fn.laws_eqRunS [lv a0, lv a1] =
  vcase (bv ((a0.length : Int) != (a1.length : Int)))
  (some (bv false))
  ((Lp.laws_eqRunS 0 [lv a0, lv a1, iv .i64 0] (D 0)).bind fun o102 => lcase o102 (fun l103 h104 =>
  some (bv true)) (fun v105 h106 =>
  frzV h106 v105)) := by
  rw [pure_eq]; kernel_rfl

theorem eq_laws_eqRunS_l0 (s0 : List (List S)) (s1 : List (List S)) (s5 : Int) (h : H) : Lp.laws_eqRunS 0 [lv s0, lv s1, iv .i64 s5] h =
  vcase (bv (decide (s5 < (s0.length : Int))))
  (idxF 2 s0 s5 fun r203 =>
  (rowN 2 r203 0).bind fun c204 =>
  (c204[0]?).bind fun x205 =>
  gI .i64 x205 fun i206 =>
  (c204[1]?).bind fun x207 =>
  gF x207 fun z208 =>
  if c204.length = 2 then
  idxF 2 s1 s5 fun r209 =>
  (rowN 2 r209 0).bind fun c210 =>
  (c210[0]?).bind fun x211 =>
  gI .i64 x211 fun i212 =>
  (c210[1]?).bind fun x213 =>
  gF x213 fun z214 =>
  if c210.length = 2 then
  pcallS (call Ev) Fn.laws_eqRun [.agg [.int .i64 i206, .fs z208], .agg [.int .i64 i212, .fs z214]] fun v215 =>
  gV1 v215 fun x216 =>
  gB x216 fun q217 =>
  hchk h h (
  vcase (bv (!q217))
  (some (.ret (bv false) h))
  (Lp.laws_eqRunS 0 [lv s0, lv s1, iv .i64 (IntKind.i64.wrap (s5 + 1))] (tidy h [lv s0, lv s1, iv .i64 (IntKind.i64.wrap (s5 + 1))] h)))
  else none
  else none)
  (some (.done [] (tidy h [] h))) := by
  unfold Lp.laws_eqRunS; rw [loop_eq]; kernel_rfl

theorem pu_laws_FnExactRunsFault (a0 : List (List S)) : pureV (call Ev) Fn.laws_FnExactRunsFault [lv a0] =
  pcallS (call Ev) Fn.laws_szRunS [lv a0, iv .i64 1048576] fun v101 =>
  gV1 v101 fun x102 =>
  gI .i64 x102 fun i103 =>
  vcase (bv (decide (i103 < 0)))
  (some (bv true))
  ((pureV (call Ev) Fn.laws_toRunS [lv a0]).bind fun v105 =>
  gV1 v105 fun x106 =>
  gF x106 fun z107 =>
  pcallS (call Ev) Fn.spec_RunsFault [lv z107] fun v108 =>
  gV1 v108 fun x109 =>
  gI .i64 x109 fun i110 =>
  (pureV (call Ev) Fn.laws_toRunS [lv a0]).bind fun v111 =>
  gV1 v111 fun x112 =>
  gF x112 fun z113 =>
  pcallS (call Ev) Fn.impl_RunsFault [lv z113] fun v114 =>
  gV1 v114 fun x115 =>
  gI .i64 x115 fun i116 =>
  vcase (bv (i116 != i110))
  (some (bv false))
  ((pureV (call Ev) Fn.laws_toRunS [lv a0]).bind fun v118 =>
  gV1 v118 fun x119 =>
  gF x119 fun z120 =>
  pcallS (call Ev) Fn.laws_eqRunS [lv z113, lv z120] fun v121 =>
  gV1 v121 fun x122 =>
  gB x122 fun q123 =>
  vcase (bv (!q123))
  (some (bv false))
  (some (bv true)))) := by
  rw [pure_eq]; kernel_rfl

noncomputable def Jn.spec_l1Read_0 (q222 : Bool) (a0 : List (List S)) : Option (V) :=
  vcase (bv q222)
  (some (.tup [.agg [.int .i64 0, .int .i64 0, .int .i64 0, .int .i64 0, .int .i64 0, .int .i64 0, .int .i64 0, .str (⟨#[]⟩)], .s (.bool false)]))
  (idxF 1 a0 1 fun r224 =>
  (r224[0]?).bind fun x225 =>
  gI .u8 x225 fun i226 =>
  idxF 1 a0 2 fun r227 =>
  (r227[0]?).bind fun x228 =>
  gI .u8 x228 fun i229 =>
  idxF 1 a0 3 fun r230 =>
  (r230[0]?).bind fun x231 =>
  gI .u8 x231 fun i232 =>
  idxF 1 a0 4 fun r233 =>
  (r233[0]?).bind fun x234 =>
  gI .u8 x234 fun i235 =>
  slF 1 a0 (some (iv .i64 6)) none fun z236 =>
  (fsStr z236).bind fun v237 =>
  gV1 v237 fun x238 =>
  gS x238 fun y239 =>
  hchk ((D 0).new 0 [.int .i64 0, .int .i64 0, .int .i64 0, .int .i64 0, .int .i64 0, .int .i64 0, .int .i64 0, .str (⟨#[]⟩)]) (((D 0).new 0 [.int .i64 0, .int .i64 0, .int .i64 0, .int .i64 0, .int .i64 0, .int .i64 0, .int .i64 0, .str (⟨#[]⟩)]).new 0 [.int .i64 0, .int .i64 0, .int .i64 0, .str (⟨#[]⟩)]) (
  idxF 1 a0 0 fun r240 =>
  (r240[0]?).bind fun x241 =>
  gI .u8 x241 fun i242 =>
  pcallS (call Ev) Fn.spec_l1Fault [fv [.int .i64 (IntKind.i64.wrap i226), .int .i64 (IntKind.i64.wrap i229), .int .i64 (IntKind.i64.wrap ((IntKind.i64.wrap ((IntKind.i64.wrap i232) * 256)) + (IntKind.i64.wrap i235))), .str y239] 0] fun v243 =>
  gV1 v243 fun x244 =>
  gI .i64 x244 fun i245 =>
  hchk ((((D 0).new 0 [.int .i64 0, .int .i64 0, .int .i64 0, .int .i64 0, .int .i64 0, .int .i64 0, .int .i64 0, .str (⟨#[]⟩)]).new 0 [.int .i64 0, .int .i64 0, .int .i64 0, .str (⟨#[]⟩)]).put 1 (.rw 0 [.int .i64 (IntKind.i64.wrap i226), .int .i64 (IntKind.i64.wrap i229), .int .i64 (IntKind.i64.wrap ((IntKind.i64.wrap ((IntKind.i64.wrap i232) * 256)) + (IntKind.i64.wrap i235))), .str y239])) ((((D 0).new 0 [.int .i64 0, .int .i64 0, .int .i64 0, .int .i64 0, .int .i64 0, .int .i64 0, .int .i64 0, .str (⟨#[]⟩)]).new 0 [.int .i64 0, .int .i64 0, .int .i64 0, .str (⟨#[]⟩)]).put 1 (.rw 0 [.int .i64 (IntKind.i64.wrap i226), .int .i64 (IntKind.i64.wrap i229), .int .i64 (IntKind.i64.wrap ((IntKind.i64.wrap ((IntKind.i64.wrap i232) * 256)) + (IntKind.i64.wrap i235))), .str y239])) (
  some (.tup [.agg [.int .i64 0, .int .i64 (IntKind.i64.wrap i242), .int .i64 0, .int .i64 0, .int .i64 (IntKind.i64.wrap i226), .int .i64 (IntKind.i64.wrap i229), .int .i64 (IntKind.i64.wrap ((IntKind.i64.wrap ((IntKind.i64.wrap i232) * 256)) + (IntKind.i64.wrap i235))), .str y239], .s (.bool (i245 == 0))]))))

noncomputable def Jn.spec_l1Read_1 (q188 : Bool) (a0 : List (List S)) : Option (V) :=
  vcase (bv q188)
  (idxF 1 a0 1 fun r190 =>
  (r190[0]?).bind fun x191 =>
  gI .u8 x191 fun i192 =>
  idxF 1 a0 2 fun r193 =>
  (r193[0]?).bind fun x194 =>
  gI .u8 x194 fun i195 =>
  hchk ((D 0).new 0 [.int .i64 0, .int .i64 0, .int .i64 0, .int .i64 0, .int .i64 0, .int .i64 0, .int .i64 0, .str (⟨#[]⟩)]) (((D 0).new 0 [.int .i64 0, .int .i64 0, .int .i64 0, .int .i64 0, .int .i64 0, .int .i64 0, .int .i64 0, .str (⟨#[]⟩)]).new 0 [.int .i64 0, .int .i64 0, .int .i64 0, .int .i64 0, .int .i64 0, .int .i64 0, .int .i64 0, .str (⟨#[]⟩)]) (
  pcallS (call Ev) Fn.spec_l1Place [iv .i64 (IntKind.i64.wrap i192), iv .i64 (IntKind.i64.wrap i195)] fun v196 =>
  gV1 v196 fun x197 =>
  gB x197 fun q198 =>
  hchk ((((D 0).new 0 [.int .i64 0, .int .i64 0, .int .i64 0, .int .i64 0, .int .i64 0, .int .i64 0, .int .i64 0, .str (⟨#[]⟩)]).new 0 [.int .i64 0, .int .i64 0, .int .i64 0, .int .i64 0, .int .i64 0, .int .i64 0, .int .i64 0, .str (⟨#[]⟩)]).put 1 (.rw 0 [.int .i64 0, .int .i64 1, .int .i64 (IntKind.i64.wrap i192), .int .i64 (IntKind.i64.wrap i195), .int .i64 0, .int .i64 0, .int .i64 0, .str (⟨#[]⟩)])) ((((D 0).new 0 [.int .i64 0, .int .i64 0, .int .i64 0, .int .i64 0, .int .i64 0, .int .i64 0, .int .i64 0, .str (⟨#[]⟩)]).new 0 [.int .i64 0, .int .i64 0, .int .i64 0, .int .i64 0, .int .i64 0, .int .i64 0, .int .i64 0, .str (⟨#[]⟩)]).put 1 (.rw 0 [.int .i64 0, .int .i64 1, .int .i64 (IntKind.i64.wrap i192), .int .i64 (IntKind.i64.wrap i195), .int .i64 0, .int .i64 0, .int .i64 0, .str (⟨#[]⟩)])) (
  some (.tup [.agg [.int .i64 0, .int .i64 1, .int .i64 (IntKind.i64.wrap i192), .int .i64 (IntKind.i64.wrap i195), .int .i64 0, .int .i64 0, .int .i64 0, .str (⟨#[]⟩)], .s (.bool q198)]))))
  (vcase (bv (decide ((a0.length : Int) < 6)))
  (some (.tup [.agg [.int .i64 0, .int .i64 0, .int .i64 0, .int .i64 0, .int .i64 0, .int .i64 0, .int .i64 0, .str (⟨#[]⟩)], .s (.bool false)]))
  (idxF 1 a0 0 fun r201 =>
  (r201[0]?).bind fun x202 =>
  gI .u8 x202 fun i203 =>
  vcase (bv (i203 == 1))
  (some (.tup [.agg [.int .i64 0, .int .i64 0, .int .i64 0, .int .i64 0, .int .i64 0, .int .i64 0, .int .i64 0, .str (⟨#[]⟩)], .s (.bool false)]))
  (idxF 1 a0 0 fun r210 =>
  (r210[0]?).bind fun x211 =>
  gI .u8 x211 fun i212 =>
  vcase (bv (decide (i212 > 2)))
  (Jn.spec_l1Read_0 true a0)
  (idxF 1 a0 5 fun r218 =>
  (r218[0]?).bind fun x219 =>
  gI .u8 x219 fun i220 =>
  Jn.spec_l1Read_0 ((a0.length : Int) != (IntKind.i64.wrap (6 + (IntKind.i64.wrap i220)))) a0))))

theorem pu_spec_l1Read (a0 : List (List S)) : pureV (call Ev) Fn.spec_l1Read [lv a0] =
  vcase (bv ((a0.length : Int) == 3))
  (idxF 1 a0 0 fun r102 =>
  (r102[0]?).bind fun x103 =>
  gI .u8 x103 fun i104 =>
  Jn.spec_l1Read_1 (i104 == 1) a0)
  (Jn.spec_l1Read_1 false a0) := by
  rw [pure_eq]; kernel_rfl

theorem pu_spec_UnpackCell (a0 : List (List S)) : pureV (call Ev) Fn.spec_UnpackCell [lv a0] =
  pcallS (call Ev) Fn.spec_l1Read [lv a0] fun v101 =>
  gVT v101 fun u102 =>
  (u102[0]?).bind fun t103 =>
  gAA t103 fun c104 =>
  (c104[0]?).bind fun x105 =>
  gI .i64 x105 fun i106 =>
  (c104[1]?).bind fun x107 =>
  gI .i64 x107 fun i108 =>
  (c104[2]?).bind fun x109 =>
  gI .i64 x109 fun i110 =>
  (c104[3]?).bind fun x111 =>
  gI .i64 x111 fun i112 =>
  (c104[4]?).bind fun x113 =>
  gI .i64 x113 fun i114 =>
  (c104[5]?).bind fun x115 =>
  gI .i64 x115 fun i116 =>
  (c104[6]?).bind fun x117 =>
  gI .i64 x117 fun i118 =>
  (c104[7]?).bind fun x119 =>
  gS x119 fun y120 =>
  if c104.length = 8 then
  (u102[1]?).bind fun t121 =>
  gA1 t121 fun x122 =>
  gB x122 fun q123 =>
  if u102.length = 2 then
  vcase (bv (!q123))
  (some (.agg [.int .i64 5, .int .i64 0, .int .i64 0, .int .i64 0, .int .i64 0, .int .i64 0, .int .i64 0, .str (⟨#[]⟩)]))
  (some (.agg [.int .i64 i106, .int .i64 i108, .int .i64 i110, .int .i64 i112, .int .i64 i114, .int .i64 i116, .int .i64 i118, .str y120]))
  else none
  else none := by
  rw [pure_eq]; kernel_rfl

noncomputable def Jn.impl_UnpackCell_0 (q367 : Bool) (a0 : List (List S)) : Option (V) :=
  vcase (bv q367)
  (some (.agg [.int .i64 5, .int .i64 0, .int .i64 0, .int .i64 0, .int .i64 0, .int .i64 0, .int .i64 0, .str (⟨#[]⟩)]))
  (idxF 1 a0 1 fun r369 =>
  (r369[0]?).bind fun x370 =>
  gI .u8 x370 fun i371 =>
  idxF 1 a0 2 fun r372 =>
  (r372[0]?).bind fun x373 =>
  gI .u8 x373 fun i374 =>
  idxF 1 a0 3 fun r375 =>
  (r375[0]?).bind fun x376 =>
  gI .u8 x376 fun i377 =>
  (bin Ev .shl 2 (iv .i64 (IntKind.i64.wrap i377)) (iv .u64 8)).bind fun b378 =>
  gV1 b378 fun x379 =>
  gI .i64 x379 fun i380 =>
  idxF 1 a0 4 fun r381 =>
  (r381[0]?).bind fun x382 =>
  gI .u8 x382 fun i383 =>
  (bin Ev .or 2 (iv .i64 i380) (iv .i64 (IntKind.i64.wrap i383))).bind fun b384 =>
  gV1 b384 fun x385 =>
  gI .i64 x385 fun i386 =>
  slF 1 a0 (some (iv .i64 6)) none fun z387 =>
  (fsStr z387).bind fun v388 =>
  gV1 v388 fun x389 =>
  gS x389 fun y390 =>
  hchk ((D 0).new 0 [.int .i64 0, .int .i64 0, .int .i64 0, .int .i64 0, .int .i64 0, .int .i64 0, .int .i64 0, .str (⟨#[]⟩)]) (((D 0).new 0 [.int .i64 0, .int .i64 0, .int .i64 0, .int .i64 0, .int .i64 0, .int .i64 0, .int .i64 0, .str (⟨#[]⟩)]).new 0 [.int .i64 0, .int .i64 0, .int .i64 0, .str (⟨#[]⟩)]) (
  pcallS (call Ev) Fn.impl_RowFault [.agg [.int .i64 (IntKind.i64.wrap i371), .int .i64 (IntKind.i64.wrap i374), .int .i64 i386, .str y390]] fun v391 =>
  gV1 v391 fun x392 =>
  gI .i64 x392 fun i393 =>
  vcase (bv (i393 != 0))
  (some (.agg [.int .i64 5, .int .i64 0, .int .i64 0, .int .i64 0, .int .i64 0, .int .i64 0, .int .i64 0, .str (⟨#[]⟩)]))
  (idxF 1 a0 0 fun r395 =>
  (r395[0]?).bind fun x396 =>
  gI .u8 x396 fun i397 =>
  some (.agg [.int .i64 0, .int .i64 (IntKind.i64.wrap i397), .int .i64 0, .int .i64 0, .int .i64 (IntKind.i64.wrap i371), .int .i64 (IntKind.i64.wrap i374), .int .i64 i386, .str y390]))))

noncomputable def Jn.impl_UnpackCell_1 (q360 : Bool) (a0 : List (List S)) : Option (V) :=
  vcase (bv q360)
  (Jn.impl_UnpackCell_0 true a0)
  (idxF 1 a0 5 fun r363 =>
  (r363[0]?).bind fun x364 =>
  gI .u8 x364 fun i365 =>
  Jn.impl_UnpackCell_0 ((a0.length : Int) != (IntKind.i64.wrap (6 + (IntKind.i64.wrap i365)))) a0)

noncomputable def Jn.impl_UnpackCell_2 (q333 : Bool) (a0 : List (List S)) : Option (V) :=
  vcase (bv q333)
  (idxF 1 a0 2 fun r335 =>
  (r335[0]?).bind fun x336 =>
  gI .u8 x336 fun i337 =>
  vcase (bv (decide (i337 < 16)))
  (idxF 1 a0 1 fun r341 =>
  (r341[0]?).bind fun x342 =>
  gI .u8 x342 fun i343 =>
  idxF 1 a0 2 fun r344 =>
  (r344[0]?).bind fun x345 =>
  gI .u8 x345 fun i346 =>
  some (.agg [.int .i64 0, .int .i64 1, .int .i64 (IntKind.i64.wrap i343), .int .i64 (IntKind.i64.wrap i346), .int .i64 0, .int .i64 0, .int .i64 0, .str (⟨#[]⟩)]))
  (vcase (bv (decide ((a0.length : Int) < 6)))
  (Jn.impl_UnpackCell_1 true a0)
  (idxF 1 a0 0 fun r349 =>
  (r349[0]?).bind fun x350 =>
  gI .u8 x350 fun i351 =>
  vcase (bv (i351 != 0))
  (idxF 1 a0 0 fun r353 =>
  (r353[0]?).bind fun x354 =>
  gI .u8 x354 fun i355 =>
  Jn.impl_UnpackCell_1 (i355 != 2) a0)
  (Jn.impl_UnpackCell_1 false a0))))
  (vcase (bv (decide ((a0.length : Int) < 6)))
  (Jn.impl_UnpackCell_1 true a0)
  (idxF 1 a0 0 fun r401 =>
  (r401[0]?).bind fun x402 =>
  gI .u8 x402 fun i403 =>
  vcase (bv (i403 != 0))
  (idxF 1 a0 0 fun r405 =>
  (r405[0]?).bind fun x406 =>
  gI .u8 x406 fun i407 =>
  Jn.impl_UnpackCell_1 (i407 != 2) a0)
  (Jn.impl_UnpackCell_1 false a0)))

theorem pu_impl_UnpackCell (a0 : List (List S)) : pureV (call Ev) Fn.impl_UnpackCell [lv a0] =
  vcase (bv ((a0.length : Int) == 3))
  (idxF 1 a0 0 fun r102 =>
  (r102[0]?).bind fun x103 =>
  gI .u8 x103 fun i104 =>
  vcase (bv (i104 == 1))
  (idxF 1 a0 1 fun r108 =>
  (r108[0]?).bind fun x109 =>
  gI .u8 x109 fun i110 =>
  Jn.impl_UnpackCell_2 (decide (i110 < 12)) a0)
  (Jn.impl_UnpackCell_2 false a0))
  (vcase (bv (decide ((a0.length : Int) < 6)))
  (Jn.impl_UnpackCell_1 true a0)
  (idxF 1 a0 0 fun r455 =>
  (r455[0]?).bind fun x456 =>
  gI .u8 x456 fun i457 =>
  vcase (bv (i457 != 0))
  (idxF 1 a0 0 fun r459 =>
  (r459[0]?).bind fun x460 =>
  gI .u8 x460 fun i461 =>
  Jn.impl_UnpackCell_1 (i461 != 2) a0)
  (Jn.impl_UnpackCell_1 false a0))) := by
  rw [pure_eq]; kernel_rfl

theorem pu_laws_eqRow (a0_0 : Int) (a0_1 : Int) (a0_2 : Int) (a0_3 : ByteArray) (a1_0 : Int) (a1_1 : Int) (a1_2 : Int) (a1_3 : ByteArray) : pureV (call Ev) Fn.laws_eqRow [.agg [.int .i64 a0_0, .int .i64 a0_1, .int .i64 a0_2, .str a0_3], .agg [.int .i64 a1_0, .int .i64 a1_1, .int .i64 a1_2, .str a1_3]] =
  vcase (bv (a0_0 != a1_0))
  (some (bv false))
  (vcase (bv (a0_1 != a1_1))
  (some (bv false))
  (vcase (bv (a0_2 != a1_2))
  (some (bv false))
  (vcase (bv (!((a0_3 : ByteArray).toList == (a1_3 : ByteArray).toList)))
  (some (bv false))
  (some (bv true))))) := by
  rw [pure_eq]; kernel_rfl

theorem pu_laws_eqCellResult (a0_0 : Int) (a0_1 : Int) (a0_2 : Int) (a0_3 : Int) (a0_4 : Int) (a0_5 : Int) (a0_6 : Int) (a0_7 : ByteArray) (a1_0 : Int) (a1_1 : Int) (a1_2 : Int) (a1_3 : Int) (a1_4 : Int) (a1_5 : Int) (a1_6 : Int) (a1_7 : ByteArray) : pureV (call Ev) Fn.laws_eqCellResult [.agg [.int .i64 a0_0, .int .i64 a0_1, .int .i64 a0_2, .int .i64 a0_3, .int .i64 a0_4, .int .i64 a0_5, .int .i64 a0_6, .str a0_7], .agg [.int .i64 a1_0, .int .i64 a1_1, .int .i64 a1_2, .int .i64 a1_3, .int .i64 a1_4, .int .i64 a1_5, .int .i64 a1_6, .str a1_7]] =
  vcase (bv (a0_0 != a1_0))
  (some (bv false))
  (vcase (bv (a0_1 != a1_1))
  (some (bv false))
  (vcase (bv (a0_2 != a1_2))
  (some (bv false))
  (vcase (bv (a0_3 != a1_3))
  (some (bv false))
  (pcallS (call Ev) Fn.laws_eqRow [.agg [.int .i64 a0_4, .int .i64 a0_5, .int .i64 a0_6, .str a0_7], .agg [.int .i64 a1_4, .int .i64 a1_5, .int .i64 a1_6, .str a1_7]] fun v105 =>
  gV1 v105 fun x106 =>
  gB x106 fun q107 =>
  vcase (bv (!q107))
  (some (bv false))
  (some (bv true)))))) := by
  rw [pure_eq]; kernel_rfl

theorem pu_laws_FnExactUnpackCell (a0 : List (List S)) : pureV (call Ev) Fn.laws_FnExactUnpackCell [lv a0] =
  vcase (bv (decide ((a0.length : Int) > 1048576)))
  (some (bv true))
  ((pureV (call Ev) Fn.laws_toByteS [lv a0]).bind fun v102 =>
  gV1 v102 fun x103 =>
  gF x103 fun z104 =>
  pcallS (call Ev) Fn.spec_UnpackCell [lv z104] fun v105 =>
  gVA v105 fun c106 =>
  (c106[0]?).bind fun x107 =>
  gI .i64 x107 fun i108 =>
  (c106[1]?).bind fun x109 =>
  gI .i64 x109 fun i110 =>
  (c106[2]?).bind fun x111 =>
  gI .i64 x111 fun i112 =>
  (c106[3]?).bind fun x113 =>
  gI .i64 x113 fun i114 =>
  (c106[4]?).bind fun x115 =>
  gI .i64 x115 fun i116 =>
  (c106[5]?).bind fun x117 =>
  gI .i64 x117 fun i118 =>
  (c106[6]?).bind fun x119 =>
  gI .i64 x119 fun i120 =>
  (c106[7]?).bind fun x121 =>
  gS x121 fun y122 =>
  if c106.length = 8 then
  (pureV (call Ev) Fn.laws_toByteS [lv a0]).bind fun v123 =>
  gV1 v123 fun x124 =>
  gF x124 fun z125 =>
  pcallS (call Ev) Fn.impl_UnpackCell [lv z125] fun v126 =>
  gVA v126 fun c127 =>
  (c127[0]?).bind fun x128 =>
  gI .i64 x128 fun i129 =>
  (c127[1]?).bind fun x130 =>
  gI .i64 x130 fun i131 =>
  (c127[2]?).bind fun x132 =>
  gI .i64 x132 fun i133 =>
  (c127[3]?).bind fun x134 =>
  gI .i64 x134 fun i135 =>
  (c127[4]?).bind fun x136 =>
  gI .i64 x136 fun i137 =>
  (c127[5]?).bind fun x138 =>
  gI .i64 x138 fun i139 =>
  (c127[6]?).bind fun x140 =>
  gI .i64 x140 fun i141 =>
  (c127[7]?).bind fun x142 =>
  gS x142 fun y143 =>
  if c127.length = 8 then
  pcallS (call Ev) Fn.laws_eqCellResult [.agg [.int .i64 i129, .int .i64 i131, .int .i64 i133, .int .i64 i135, .int .i64 i137, .int .i64 i139, .int .i64 i141, .str y143], .agg [.int .i64 i108, .int .i64 i110, .int .i64 i112, .int .i64 i114, .int .i64 i116, .int .i64 i118, .int .i64 i120, .str y122]] fun v144 =>
  gV1 v144 fun x145 =>
  gB x145 fun q146 =>
  vcase (bv (!q146))
  (some (bv false))
  ((pureV (call Ev) Fn.laws_toByteS [lv a0]).bind fun v148 =>
  gV1 v148 fun x149 =>
  gF x149 fun z150 =>
  pcallS (call Ev) Fn.laws_eqByteS [lv z125, lv z150] fun v151 =>
  gV1 v151 fun x152 =>
  gB x152 fun q153 =>
  vcase (bv (!q153))
  (some (bv false))
  (some (bv true)))
  else none
  else none) := by
  rw [pure_eq]; kernel_rfl

theorem pu_spec_l1Cell (a0 : Int) (a1_0 : Int) (a1_1 : Int) (a1_2 : Int) (a1_3 : ByteArray) : pureV (call Ev) Fn.spec_l1Cell [iv .i64 a0, fv [.int .i64 a1_0, .int .i64 a1_1, .int .i64 a1_2, .str a1_3] 0] =
  (bin Ev .quo 2 (iv .i64 a1_2) (iv .i64 256)).bind fun b101 =>
  gV1 b101 fun x102 =>
  gI .i64 x102 fun i103 =>
  (bin Ev .rem 2 (iv .i64 a1_2) (iv .i64 256)).bind fun b104 =>
  gV1 b104 fun x105 =>
  gI .i64 x105 fun i106 =>
  hchk (D 0) ((D 0).new 1 [.int .u8 (IntKind.u8.wrap a0), .int .u8 (IntKind.u8.wrap a1_0), .int .u8 (IntKind.u8.wrap a1_1), .int .u8 (IntKind.u8.wrap i103), .int .u8 (IntKind.u8.wrap i106), .int .u8 (IntKind.u8.wrap ((a1_3 : ByteArray).size : Int))]) (
  (cvBytes ((D 0).new 1 [.int .u8 (IntKind.u8.wrap a0), .int .u8 (IntKind.u8.wrap a1_0), .int .u8 (IntKind.u8.wrap a1_1), .int .u8 (IntKind.u8.wrap i103), .int .u8 (IntKind.u8.wrap i106), .int .u8 (IntKind.u8.wrap ((a1_3 : ByteArray).size : Int))]) (.s (.str a1_3))).bind fun p107 =>
  (appS 1 p107.2 (sv 0 0 6) p107.1).bind fun p108 =>
  frzV p108.2 p108.1) := by
  rw [pure_eq]; kernel_rfl

theorem pu_spec_PackRow (a0 : Int) (a1_0 : Int) (a1_1 : Int) (a1_2 : Int) (a1_3 : ByteArray) : pureV (call Ev) Fn.spec_PackRow [iv .i64 a0, .agg [.int .i64 a1_0, .int .i64 a1_1, .int .i64 a1_2, .str a1_3]] =
  vcase (bv (a0 != 0))
  (vcase (bv (a0 != 2))
  (some (.agg [.int .i64 1, .fs []]))
  (pcallS (call Ev) Fn.spec_l1Fault [fv [.int .i64 a1_0, .int .i64 a1_1, .int .i64 a1_2, .str a1_3] 0] fun v105 =>
  gV1 v105 fun x106 =>
  gI .i64 x106 fun i107 =>
  vcase (bv (i107 != 0))
  (some (.agg [.int .i64 i107, .fs []]))
  (none)))
  (pcallS (call Ev) Fn.spec_l1Fault [fv [.int .i64 a1_0, .int .i64 a1_1, .int .i64 a1_2, .str a1_3] 0] fun v113 =>
  gV1 v113 fun x114 =>
  gI .i64 x114 fun i115 =>
  vcase (bv (i115 != 0))
  (some (.agg [.int .i64 i115, .fs []]))
  (none)) := by
  rw [pure_eq]; kernel_rfl

theorem eq_impl_cell (a0 : Int) (a1_0 : Int) (a1_1 : Int) (a1_2 : Int) (a1_3 : ByteArray) (n : Nat) : call Ev Fn.impl_cell [iv .i64 a0, .agg [.int .i64 a1_0, .int .i64 a1_1, .int .i64 a1_2, .str a1_3]] (D n) =
  (load1 ((D n).new 0 [.int .i64 a1_0, .int .i64 a1_1, .int .i64 a1_2, .str a1_3]) (pv ((D n).n) 0)).bind fun x101 =>
  gI .i64 x101 fun i102 =>
  (load1 ((D n).new 0 [.int .i64 a1_0, .int .i64 a1_1, .int .i64 a1_2, .str a1_3]) (pv ((D n).n) 1)).bind fun x103 =>
  gI .i64 x103 fun i104 =>
  (load1 ((D n).new 0 [.int .i64 a1_0, .int .i64 a1_1, .int .i64 a1_2, .str a1_3]) (pv ((D n).n) 2)).bind fun x105 =>
  gI .i64 x105 fun i106 =>
  (bin Ev .shr 2 (iv .i64 i106) (iv .u64 8)).bind fun b107 =>
  gV1 b107 fun x108 =>
  gI .i64 x108 fun i109 =>
  (load1 ((D n).new 0 [.int .i64 a1_0, .int .i64 a1_1, .int .i64 a1_2, .str a1_3]) (pv ((D n).n) 2)).bind fun x110 =>
  gI .i64 x110 fun i111 =>
  (load1 ((D n).new 0 [.int .i64 a1_0, .int .i64 a1_1, .int .i64 a1_2, .str a1_3]) (pv ((D n).n) 3)).bind fun x112 =>
  gS x112 fun y113 =>
  (load1 (((D n).new 0 [.int .i64 a1_0, .int .i64 a1_1, .int .i64 a1_2, .str a1_3]).new 1 [.int .u8 (IntKind.u8.wrap a0), .int .u8 (IntKind.u8.wrap i102), .int .u8 (IntKind.u8.wrap i104), .int .u8 (IntKind.u8.wrap i109), .int .u8 (IntKind.u8.wrap i111), .int .u8 (IntKind.u8.wrap ((y113 : ByteArray).size : Int))]) (pv ((D n).n) 3)).bind fun x114 =>
  gS x114 fun y115 =>
  (appS 1 (((D n).new 0 [.int .i64 a1_0, .int .i64 a1_1, .int .i64 a1_2, .str a1_3]).new 1 [.int .u8 (IntKind.u8.wrap a0), .int .u8 (IntKind.u8.wrap i102), .int .u8 (IntKind.u8.wrap i104), .int .u8 (IntKind.u8.wrap i109), .int .u8 (IntKind.u8.wrap i111), .int .u8 (IntKind.u8.wrap ((y113 : ByteArray).size : Int))]) (sv (((D n).new 0 [.int .i64 a1_0, .int .i64 a1_1, .int .i64 a1_2, .str a1_3]).n) 0 6) (.s (.str y115))).bind fun p116 =>
  some (p116.1, p116.2) := by
  rw [call_eq]; kernel_rfl

noncomputable def Jn.impl_PackRow_0 (q139 : Bool) (n : Nat) (a1_0 : Int) (a1_1 : Int) (a1_2 : Int) (a1_3 : ByteArray) (a0 : Int) : Option (V × H) :=
  vcase (bv q139)
  (stK 2 (((D n).new 0 [.int .i64 a1_0, .int .i64 a1_1, .int .i64 a1_2, .str a1_3]).new 0 [.int .i64 0, .sl none 0]) (pv (((D n).new 0 [.int .i64 a1_0, .int .i64 a1_1, .int .i64 a1_2, .str a1_3]).n) 0) (.agg [.int .i64 1, .sl none 0]) fun h141 =>
  (loadN 2 h141 (pv (((D n).new 0 [.int .i64 a1_0, .int .i64 a1_1, .int .i64 a1_2, .str a1_3]).n) 0)).bind fun c142 =>
  some (.agg c142, h141))
  ((loadN 4 (((D n).new 0 [.int .i64 a1_0, .int .i64 a1_1, .int .i64 a1_2, .str a1_3]).new 0 [.int .i64 0, .sl none 0]) (pv ((D n).n) 0)).bind fun c143 =>
  (c143[0]?).bind fun x144 =>
  gI .i64 x144 fun i145 =>
  (c143[1]?).bind fun x146 =>
  gI .i64 x146 fun i147 =>
  (c143[2]?).bind fun x148 =>
  gI .i64 x148 fun i149 =>
  (c143[3]?).bind fun x150 =>
  gS x150 fun y151 =>
  if c143.length = 4 then
  pcallS (call Ev) Fn.impl_RowFault [.agg [.int .i64 i145, .int .i64 i147, .int .i64 i149, .str y151]] fun v152 =>
  gV1 v152 fun x153 =>
  gI .i64 x153 fun i154 =>
  vcase (bv (i154 != 0))
  (stK 2 (((D n).new 0 [.int .i64 a1_0, .int .i64 a1_1, .int .i64 a1_2, .str a1_3]).new 0 [.int .i64 0, .sl none 0]) (pv (((D n).new 0 [.int .i64 a1_0, .int .i64 a1_1, .int .i64 a1_2, .str a1_3]).n) 0) (.agg [.int .i64 i154, .sl none 0]) fun h156 =>
  (loadN 2 h156 (pv (((D n).new 0 [.int .i64 a1_0, .int .i64 a1_1, .int .i64 a1_2, .str a1_3]).n) 0)).bind fun c157 =>
  some (.agg c157, h156))
  ((loadN 4 (((D n).new 0 [.int .i64 a1_0, .int .i64 a1_1, .int .i64 a1_2, .str a1_3]).new 0 [.int .i64 0, .sl none 0]) (pv ((D n).n) 0)).bind fun c158 =>
  (c158[0]?).bind fun x159 =>
  gI .i64 x159 fun i160 =>
  (c158[1]?).bind fun x161 =>
  gI .i64 x161 fun i162 =>
  (c158[2]?).bind fun x163 =>
  gI .i64 x163 fun i164 =>
  (c158[3]?).bind fun x165 =>
  gS x165 fun y166 =>
  if c158.length = 4 then
  pcallF (call Ev) Fn.impl_cell true [iv .i64 a0, .agg [.int .i64 i160, .int .i64 i162, .int .i64 i164, .str y166]] (((D n).new 0 [.int .i64 a1_0, .int .i64 a1_1, .int .i64 a1_2, .str a1_3]).new 0 [.int .i64 0, .sl none 0]) fun v167 h168 =>
  cellsK v167 fun c169 =>
  if c169.length = 1 ∧ 1 + 1 ≤ ([.int .i64 0, .sl none 0] : List S).length then
  ((setAt ([.int .i64 0, .sl none 0] : List S) 1 c169)[0]?).bind fun x170 =>
  gI .i64 x170 fun i171 =>
  ((setAt ([.int .i64 0, .sl none 0] : List S) 1 c169)[1]?).bind fun x172 =>
  if (setAt ([.int .i64 0, .sl none 0] : List S) 1 c169).length = 2 then
  stK 2 h168 (pv (((D n).new 0 [.int .i64 a1_0, .int .i64 a1_1, .int .i64 a1_2, .str a1_3]).n) 0) (.agg [.int .i64 i171, x172]) fun h173 =>
  (loadN 2 h173 (pv (((D n).new 0 [.int .i64 a1_0, .int .i64 a1_1, .int .i64 a1_2, .str a1_3]).n) 0)).bind fun c174 =>
  some (.agg c174, h173)
  else none
  else none
  else none)
  else none)

theorem eq_impl_PackRow (a0 : Int) (a1_0 : Int) (a1_1 : Int) (a1_2 : Int) (a1_3 : ByteArray) (n : Nat) : call Ev Fn.impl_PackRow [iv .i64 a0, .agg [.int .i64 a1_0, .int .i64 a1_1, .int .i64 a1_2, .str a1_3]] (D n) =
  vcase (bv (a0 != 0))
  (Jn.impl_PackRow_0 (a0 != 2) n a1_0 a1_1 a1_2 a1_3 a0)
  (Jn.impl_PackRow_0 false n a1_0 a1_1 a1_2 a1_3 a0) := by
  rw [call_eq]; kernel_rfl

theorem pu_laws_FnExactPackRow (a0 : Int) (a1_0 : Int) (a1_1 : Int) (a1_2 : Int) (a1_3 : ByteArray) : pureV (call Ev) Fn.laws_FnExactPackRow [iv .i64 a0, .agg [.int .i64 a1_0, .int .i64 a1_1, .int .i64 a1_2, .str a1_3]] =
  pcallS (call Ev) Fn.laws_szRow [.agg [.int .i64 a1_0, .int .i64 a1_1, .int .i64 a1_2, .str a1_3], iv .i64 1048576] fun v101 =>
  gV1 v101 fun x102 =>
  gI .i64 x102 fun i103 =>
  vcase (bv (decide (i103 < 0)))
  (some (bv true))
  (pcallS (call Ev) Fn.laws_toRow [.agg [.int .i64 a1_0, .int .i64 a1_1, .int .i64 a1_2, .str a1_3]] fun v105 =>
  gVA v105 fun c106 =>
  (c106[0]?).bind fun x107 =>
  gI .i64 x107 fun i108 =>
  (c106[1]?).bind fun x109 =>
  gI .i64 x109 fun i110 =>
  (c106[2]?).bind fun x111 =>
  gI .i64 x111 fun i112 =>
  (c106[3]?).bind fun x113 =>
  gS x113 fun y114 =>
  if c106.length = 4 then
  (pureV (call Ev) Fn.spec_PackRow [iv .i64 a0, .agg [.int .i64 i108, .int .i64 i110, .int .i64 i112, .str y114]]).bind fun v115 =>
  gVA v115 fun c116 =>
  (c116[0]?).bind fun x117 =>
  gI .i64 x117 fun i118 =>
  (c116[1]?).bind fun x119 =>
  gF x119 fun z120 =>
  if c116.length = 2 then
  pcallS (call Ev) Fn.laws_toRow [.agg [.int .i64 a1_0, .int .i64 a1_1, .int .i64 a1_2, .str a1_3]] fun v121 =>
  gVA v121 fun c122 =>
  (c122[0]?).bind fun x123 =>
  gI .i64 x123 fun i124 =>
  (c122[1]?).bind fun x125 =>
  gI .i64 x125 fun i126 =>
  (c122[2]?).bind fun x127 =>
  gI .i64 x127 fun i128 =>
  (c122[3]?).bind fun x129 =>
  gS x129 fun y130 =>
  if c122.length = 4 then
  pcallF (call Ev) Fn.impl_PackRow true [iv .i64 a0, .agg [.int .i64 i124, .int .i64 i126, .int .i64 i128, .str y130]] ((((D 0).new 0 [.int .i64 a1_0, .int .i64 a1_1, .int .i64 a1_2, .str a1_3]).new 0 [.int .i64 0, .sl none 0]).put 1 (.rw 0 [.int .i64 i118, .fs z120])) fun v131 h132 =>
  gVA v131 fun c133 =>
  (c133[0]?).bind fun x134 =>
  gI .i64 x134 fun i135 =>
  (c133[1]?).bind fun x136 =>
  if c133.length = 2 then
  stK 2 (h132.new 0 [.int .i64 0, .sl none 0]) (pv h132.n 0) (.agg [.int .i64 i135, x136]) fun h137 =>
  (loadN 2 h137 (pv h132.n 0)).bind fun c138 =>
  (c138[0]?).bind fun x139 =>
  gI .i64 x139 fun i140 =>
  (c138[1]?).bind fun x141 =>
  if c138.length = 2 then
  (loadN 2 h137 (pv 1 0)).bind fun c142 =>
  (c142[0]?).bind fun x143 =>
  gI .i64 x143 fun i144 =>
  (c142[1]?).bind fun x145 =>
  if c142.length = 2 then
  (frzVs h137 [.agg [.int .i64 i140, x141], .agg [.int .i64 i144, x145]]).bind fun l146 =>
  pcallS (call Ev) Fn.laws_eqBytesResult (normVs [] l146) fun v147 =>
  gV1 v147 fun x148 =>
  gB x148 fun q149 =>
  vcase (bv (!q149))
  (some (bv false))
  ((loadN 2 h137 (pv h132.n 0)).bind fun c151 =>
  (c151[0]?).bind fun x152 =>
  gI .i64 x152 fun i153 =>
  (c151[1]?).bind fun x154 =>
  if c151.length = 2 then
  (call Ev Fn.laws_markBytesResult [.agg [.int .i64 i153, x154], iv .i64 1] h137).bind fun p155 =>
  gV1 p155.1 fun x156 =>
  gI .i64 x156 fun i157 =>
  (loadN 2 (tidy h137 [p155.1] p155.2) (pv h132.n 0)).bind fun c158 =>
  (c158[0]?).bind fun x159 =>
  gI .i64 x159 fun i160 =>
  (c158[1]?).bind fun x161 =>
  if c158.length = 2 then
  (frzVs (tidy h137 [p155.1] p155.2) [.agg [.int .i64 i160, x161], iv .i64 1]).bind fun l162 =>
  pcallS (call Ev) Fn.laws_heldBytesResult (normVs [] l162) fun v163 =>
  gV1 v163 fun x164 =>
  gI .i64 x164 fun i165 =>
  vcase (bv (decide (i165 < 0)))
  (some (bv false))
  (vcase (bv (i165 != i157))
  (some (bv false))
  ((loadN 4 (tidy h137 [p155.1] p155.2) (pv 0 0)).bind fun c168 =>
  (c168[0]?).bind fun x169 =>
  gI .i64 x169 fun i170 =>
  (c168[1]?).bind fun x171 =>
  gI .i64 x171 fun i172 =>
  (c168[2]?).bind fun x173 =>
  gI .i64 x173 fun i174 =>
  (c168[3]?).bind fun x175 =>
  gS x175 fun y176 =>
  if c168.length = 4 then
  pcallS (call Ev) Fn.laws_toRow [.agg [.int .i64 i170, .int .i64 i172, .int .i64 i174, .str y176]] fun v177 =>
  gVA v177 fun c178 =>
  (c178[0]?).bind fun x179 =>
  gI .i64 x179 fun i180 =>
  (c178[1]?).bind fun x181 =>
  gI .i64 x181 fun i182 =>
  (c178[2]?).bind fun x183 =>
  gI .i64 x183 fun i184 =>
  (c178[3]?).bind fun x185 =>
  gS x185 fun y186 =>
  if c178.length = 4 then
  (pureV (call Ev) Fn.impl_PackRow [iv .i64 a0, .agg [.int .i64 i180, .int .i64 i182, .int .i64 i184, .str y186]]).bind fun v187 =>
  gVA v187 fun c188 =>
  (c188[0]?).bind fun x189 =>
  gI .i64 x189 fun i190 =>
  (c188[1]?).bind fun x191 =>
  gF x191 fun z192 =>
  if c188.length = 2 then
  stK 2 ((tidy h137 [p155.1] p155.2).new 0 [.int .i64 0, .sl none 0]) (pv ((tidy h137 [p155.1] p155.2).n) 0) (.agg [.int .i64 i190, .fs z192]) fun h193 =>
  (loadN 2 h193 (pv ((tidy h137 [p155.1] p155.2).n) 0)).bind fun c194 =>
  (c194[0]?).bind fun x195 =>
  gI .i64 x195 fun i196 =>
  (c194[1]?).bind fun x197 =>
  if c194.length = 2 then
  (loadN 2 h193 (pv 1 0)).bind fun c198 =>
  (c198[0]?).bind fun x199 =>
  gI .i64 x199 fun i200 =>
  (c198[1]?).bind fun x201 =>
  if c198.length = 2 then
  (frzVs h193 [.agg [.int .i64 i196, x197], .agg [.int .i64 i200, x201]]).bind fun l202 =>
  pcallS (call Ev) Fn.laws_eqBytesResult (normVs [] l202) fun v203 =>
  gV1 v203 fun x204 =>
  gB x204 fun q205 =>
  vcase (bv (!q205))
  (some (bv false))
  ((loadN 2 h193 (pv h132.n 0)).bind fun c207 =>
  (c207[0]?).bind fun x208 =>
  gI .i64 x208 fun i209 =>
  (c207[1]?).bind fun x210 =>
  if c207.length = 2 then
  (frzVs h193 [.agg [.int .i64 i209, x210], iv .i64 1]).bind fun l211 =>
  pcallS (call Ev) Fn.laws_heldBytesResult (normVs [] l211) fun v212 =>
  gV1 v212 fun x213 =>
  gI .i64 x213 fun i214 =>
  vcase (bv (decide (i214 < 0)))
  (some (bv false))
  (vcase (bv (i214 != i157))
  (some (bv false))
  (some (bv true)))
  else none)
  else none
  else none
  else none
  else none
  else none))
  else none
  else none)
  else none
  else none
  else none
  else none
  else none
  else none) := by
  rw [pure_eq]; kernel_rfl

theorem pu_laws_szRowS (a0 : List (List S)) (a1 : Int) : pureV (call Ev) Fn.laws_szRowS [lv a0, iv .i64 a1] =
  vcase (bv (decide ((IntKind.i64.wrap (a1 - (a0.length : Int))) < 0)))
  (some (iv .i64 (-1)))
  ((Lp.laws_szRowS 0 [lv a0, iv .i64 (IntKind.i64.wrap (a1 - (a0.length : Int))), iv .i64 0] (D 0)).bind fun o102 => lcase o102 (fun l103 h104 =>
  (l103[0]?).bind fun w107 =>
  gV1 w107 fun x108 =>
  gI .i64 x108 fun i109 =>
  some (iv .i64 i109)) (fun v105 h106 =>
  frzV h106 v105)) := by
  rw [pure_eq]; kernel_rfl

theorem eq_laws_szRowS_l0 (s0 : List (List S)) (s1 : Int) (s5 : Int) (h : H) : Lp.laws_szRowS 0 [lv s0, iv .i64 s1, iv .i64 s5] h =
  vcase (bv (decide (s5 < (s0.length : Int))))
  (idxF 4 s0 s5 fun r203 =>
  (rowN 4 r203 0).bind fun c204 =>
  (c204[0]?).bind fun x205 =>
  gI .i64 x205 fun i206 =>
  (c204[1]?).bind fun x207 =>
  gI .i64 x207 fun i208 =>
  (c204[2]?).bind fun x209 =>
  gI .i64 x209 fun i210 =>
  (c204[3]?).bind fun x211 =>
  gS x211 fun y212 =>
  if c204.length = 4 then
  pcallS (call Ev) Fn.laws_szRow [.agg [.int .i64 i206, .int .i64 i208, .int .i64 i210, .str y212], iv .i64 s1] fun v213 =>
  gV1 v213 fun x214 =>
  gI .i64 x214 fun i215 =>
  vcase (bv (decide (i215 < 0)))
  (some (.ret (iv .i64 (-1)) h))
  (Lp.laws_szRowS 0 [lv s0, iv .i64 i215, iv .i64 (IntKind.i64.wrap (s5 + 1))] (tidy h [lv s0, iv .i64 i215, iv .i64 (IntKind.i64.wrap (s5 + 1))] h))
  else none)
  (some (.done [iv .i64 s1] (tidy h [iv .i64 s1] h))) := by
  unfold Lp.laws_szRowS; rw [loop_eq]; kernel_rfl

theorem pu_spec_l6Rows (a0 : List (List S)) : pureV (call Ev) Fn.spec_l6Rows [lv a0] =
  vcase (bv (decide ((a0.length : Int) > 60)))
  (some (iv .i64 2))
  ((Lp.spec_l6Rows 0 [lv a0, iv .i64 0] (D 0)).bind fun o102 => lcase o102 (fun l103 h104 =>
  some (iv .i64 0)) (fun v105 h106 =>
  frzV h106 v105)) := by
  rw [pure_eq]; kernel_rfl

theorem eq_spec_l6Rows_l0 (s0 : List (List S)) (s3 : Int) (h : H) : Lp.spec_l6Rows 0 [lv s0, iv .i64 s3] h =
  vcase (bv (decide (s3 < (s0.length : Int))))
  (idxF 4 s0 s3 fun r203 =>
  pcallS (call Ev) Fn.spec_l1Fault [normV 4 (fv r203 0)] fun v204 =>
  gV1 v204 fun x205 =>
  gI .i64 x205 fun i206 =>
  vcase (bv (i206 != 0))
  (some (.ret (iv .i64 i206) h))
  (vcase (bv (decide (s3 > 0)))
  (idxF 4 s0 (IntKind.i64.wrap (s3 - 1)) fun r209 =>
  idxF 4 s0 s3 fun r210 =>
  pcallS (call Ev) Fn.spec_l1Before [normV 4 (fv r209 0), normV 4 (fv r210 0)] fun v211 =>
  gV1 v211 fun x212 =>
  gB x212 fun q213 =>
  hchk h h (
  vcase (bv (!q213))
  (some (.ret (iv .i64 1) h))
  (Lp.spec_l6Rows 0 [lv s0, iv .i64 (IntKind.i64.wrap (s3 + 1))] (tidy h [lv s0, iv .i64 (IntKind.i64.wrap (s3 + 1))] h))))
  (hchk h h (
  Lp.spec_l6Rows 0 [lv s0, iv .i64 (IntKind.i64.wrap (s3 + 1))] (tidy h [lv s0, iv .i64 (IntKind.i64.wrap (s3 + 1))] h)))))
  (some (.done [] (tidy h [] h))) := by
  unfold Lp.spec_l6Rows; rw [loop_eq]; kernel_rfl

theorem pu_spec_RowsFault (a0 : List (List S)) : pureV (call Ev) Fn.spec_RowsFault [lv a0] =
  pcallS (call Ev) Fn.spec_l6Rows [lv a0] fun v101 =>
  gV1 v101 fun x102 =>
  gI .i64 x102 fun i103 =>
  some (iv .i64 i103) := by
  rw [pure_eq]; kernel_rfl

end Vm
