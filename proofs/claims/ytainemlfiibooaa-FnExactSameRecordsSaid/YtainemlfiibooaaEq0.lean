/-
  What each function, and each round of each loop, comes to in the small machine. Written by a program (gen3.py).
-/
import Derived.Test.YtainemlfiibooaaEnv
set_option linter.unusedVariables false
set_option maxRecDepth 100000
namespace Vm
open Go

theorem pu_laws_szByteS (a0 : List (List S)) (a1 : Int) : pureV (call Ev) Fn.laws_szByteS [lv a0, iv .i64 a1] =
  vcase (bv (decide ((IntKind.i64.wrap (a1 - (a0.length : Int))) < 0)))
  (some (iv .i64 (-1)))
  (some (iv .i64 (IntKind.i64.wrap (a1 - (a0.length : Int))))) := by
  rw [pure_eq]; kernel_rfl

theorem pu_laws_szRun (a0_0 : Int) (a0_1 : List (List S)) (a1 : Int) : pureV (call Ev) Fn.laws_szRun [.agg [.int .i64 a0_0, .fs a0_1], iv .i64 a1] =
  pcallS (call Ev) Fn.laws_szByteS [lv a0_1, iv .i64 a1] fun v101 =>
  gV1 v101 fun x102 =>
  gI .i64 x102 fun i103 =>
  vcase (bv (decide (i103 < 0)))
  (some (iv .i64 (-1)))
  (some (iv .i64 i103)) := by
  rw [pure_eq]; kernel_rfl

theorem pu_laws_szRunS (a0 : List (List S)) (a1 : Int) : pureV (call Ev) Fn.laws_szRunS [lv a0, iv .i64 a1] =
  vcase (bv (decide ((IntKind.i64.wrap (a1 - (a0.length : Int))) < 0)))
  (some (iv .i64 (-1)))
  ((Lp.laws_szRunS 0 [lv a0, iv .i64 (IntKind.i64.wrap (a1 - (a0.length : Int))), iv .i64 0] (D 0)).bind fun o102 => lcase o102 (fun l103 h104 =>
  (l103[0]?).bind fun w107 =>
  gV1 w107 fun x108 =>
  gI .i64 x108 fun i109 =>
  some (iv .i64 i109)) (fun v105 h106 =>
  frzV h106 v105)) := by
  rw [pure_eq]; kernel_rfl

theorem eq_laws_szRunS_l0 (s0 : List (List S)) (s1 : Int) (s5 : Int) (h : H) : Lp.laws_szRunS 0 [lv s0, iv .i64 s1, iv .i64 s5] h =
  vcase (bv (decide (s5 < (s0.length : Int))))
  (idxF 2 s0 s5 fun r203 =>
  (rowN 2 r203 0).bind fun c204 =>
  (c204[0]?).bind fun x205 =>
  gI .i64 x205 fun i206 =>
  (c204[1]?).bind fun x207 =>
  gF x207 fun z208 =>
  if c204.length = 2 then
  pcallS (call Ev) Fn.laws_szRun [.agg [.int .i64 i206, .fs z208], iv .i64 s1] fun v209 =>
  gV1 v209 fun x210 =>
  gI .i64 x210 fun i211 =>
  vcase (bv (decide (i211 < 0)))
  (some (.ret (iv .i64 (-1)) h))
  (Lp.laws_szRunS 0 [lv s0, iv .i64 i211, iv .i64 (IntKind.i64.wrap (s5 + 1))] (tidy h [lv s0, iv .i64 i211, iv .i64 (IntKind.i64.wrap (s5 + 1))] h))
  else none)
  (some (.done [iv .i64 s1] (tidy h [iv .i64 s1] h))) := by
  unfold Lp.laws_szRunS; rw [loop_eq]; kernel_rfl

theorem pu_laws_szRecord (a0_0 : Int) (a0_1 : Int) (a0_2 : Int) (a0_3 : List (List S)) (a1 : Int) : pureV (call Ev) Fn.laws_szRecord [.agg [.int .i64 a0_0, .int .i64 a0_1, .int .i64 a0_2, .fs a0_3], iv .i64 a1] =
  pcallS (call Ev) Fn.laws_szRunS [lv a0_3, iv .i64 a1] fun v101 =>
  gV1 v101 fun x102 =>
  gI .i64 x102 fun i103 =>
  vcase (bv (decide (i103 < 0)))
  (some (iv .i64 (-1)))
  (some (iv .i64 i103)) := by
  rw [pure_eq]; kernel_rfl

theorem pu_spec_l1In (a0 : Int) (a1 : Int) (a2 : Int) : pureV (call Ev) Fn.spec_l1In [iv .i64 a0, iv .i64 a1, iv .i64 a2] =
  vcase (bv (decide (a0 ≥ a1)))
  (some (bv (decide (a0 ≤ a2))))
  (some (bv false)) := by
  rw [pure_eq]; kernel_rfl

theorem pu_spec_l4Runs (a0 : Int) : pureV (call Ev) Fn.spec_l4Runs [iv .i64 a0] =
  pcallS (call Ev) Fn.spec_l1In [iv .i64 a0, iv .i64 2, iv .i64 4] fun v101 =>
  gV1 v101 fun x102 =>
  gB x102 fun q103 =>
  some (bv q103) := by
  rw [pure_eq]; kernel_rfl

theorem pu_spec_l3Fault (a0 : List (List S)) : pureV (call Ev) Fn.spec_l3Fault [lv a0] =
  vcase (bv (decide ((a0.length : Int) > 64)))
  (some (iv .i64 2))
  ((Lp.spec_l3Fault 0 [lv a0, iv .i64 0] (D 0)).bind fun o102 => lcase o102 (fun l103 h104 =>
  some (iv .i64 0)) (fun v105 h106 =>
  frzV h106 v105)) := by
  rw [pure_eq]; kernel_rfl

theorem eq_spec_l3Fault_l0 (s0 : List (List S)) (s3 : Int) (h : H) : Lp.spec_l3Fault 0 [lv s0, iv .i64 s3] h =
  vcase (bv (decide (s3 < (s0.length : Int))))
  (idxF 2 s0 s3 fun r203 =>
  (r203[1]?).bind fun x204 =>
  gF x204 fun z205 =>
  idxF 2 s0 s3 fun r206 =>
  (r206[0]?).bind fun x207 =>
  gI .i64 x207 fun i208 =>
  pcallS (call Ev) Fn.spec_l1In [iv .i64 i208, iv .i64 0, iv .i64 63] fun v209 =>
  gV1 v209 fun x210 =>
  gB x210 fun q211 =>
  vcase (bv (!q211))
  (some (.ret (iv .i64 3) h))
  (pcallS (call Ev) Fn.spec_l1In [iv .i64 (z205.length : Int), iv .i64 1, iv .i64 64] fun v214 =>
  gV1 v214 fun x215 =>
  gB x215 fun q216 =>
  vcase (bv (!q216))
  (some (.ret (iv .i64 3) h))
  (idxF 2 s0 s3 fun r222 =>
  (r222[0]?).bind fun x223 =>
  gI .i64 x223 fun i224 =>
  vcase (bv (decide ((IntKind.i64.wrap (i224 + (z205.length : Int))) > 64)))
  (some (.ret (iv .i64 3) h))
  (vcase (bv (decide (s3 > 0)))
  (idxF 2 s0 s3 fun r229 =>
  (r229[0]?).bind fun x230 =>
  gI .i64 x230 fun i231 =>
  idxF 2 s0 (IntKind.i64.wrap (s3 - 1)) fun r232 =>
  (r232[0]?).bind fun x233 =>
  gI .i64 x233 fun i234 =>
  idxF 2 s0 (IntKind.i64.wrap (s3 - 1)) fun r235 =>
  (r235[1]?).bind fun x236 =>
  gF x236 fun z237 =>
  vcase (bv (decide (i231 ≤ (IntKind.i64.wrap (i234 + (z237.length : Int))))))
  (some (.ret (iv .i64 1) h))
  (Lp.spec_l3Fault 0 [lv s0, iv .i64 (IntKind.i64.wrap (s3 + 1))] (tidy h [lv s0, iv .i64 (IntKind.i64.wrap (s3 + 1))] h)))
  (Lp.spec_l3Fault 0 [lv s0, iv .i64 (IntKind.i64.wrap (s3 + 1))] (tidy h [lv s0, iv .i64 (IntKind.i64.wrap (s3 + 1))] h))))))
  (some (.done [] (tidy h [] h))) := by
  unfold Lp.spec_l3Fault; rw [loop_eq]; kernel_rfl

noncomputable def Jn.spec_l4Fault_0 (q167 : Bool) (a0_2 : Int) (a0_0 : Int) (a0_3 : List (List S)) : Option (V) :=
  vcase (bv q167)
  (some (iv .i64 3))
  (pcallS (call Ev) Fn.spec_l1In [iv .i64 a0_2, iv .i64 0, iv .i64 11] fun v170 =>
  gV1 v170 fun x171 =>
  gB x171 fun q172 =>
  vcase (bv (!q172))
  (some (iv .i64 3))
  (pcallS (call Ev) Fn.spec_l4Runs [iv .i64 a0_0] fun v176 =>
  gV1 v176 fun x177 =>
  gB x177 fun q178 =>
  vcase (bv (!q178))
  (some (iv .i64 0))
  (pcallS (call Ev) Fn.spec_l3Fault [lv a0_3] fun v180 =>
  gV1 v180 fun x181 =>
  gI .i64 x181 fun i182 =>
  vcase (bv (i182 != 0))
  (some (iv .i64 i182))
  (vcase (bv ((a0_3.length : Int) == 0))
  (some (iv .i64 1))
  (vcase (bv (a0_0 == 4))
  (idxF 2 a0_3 0 fun r187 =>
  (r187[1]?).bind fun x188 =>
  gF x188 fun z189 =>
  vcase (bv ((z189.length : Int) != 64))
  (some (iv .i64 1))
  (some (iv .i64 0)))
  (some (iv .i64 0)))))))

theorem pu_spec_l4Fault (a0_0 : Int) (a0_1 : Int) (a0_2 : Int) (a0_3 : List (List S)) : pureV (call Ev) Fn.spec_l4Fault [fv [.int .i64 a0_0, .int .i64 a0_1, .int .i64 a0_2, .fs a0_3] 0] =
  pcallS (call Ev) Fn.spec_l1In [iv .i64 a0_0, iv .i64 1, iv .i64 6] fun v101 =>
  gV1 v101 fun x102 =>
  gB x102 fun q103 =>
  vcase (bv (!q103))
  (some (iv .i64 1))
  (pcallS (call Ev) Fn.spec_l4Runs [iv .i64 a0_0] fun v106 =>
  gV1 v106 fun x107 =>
  gB x107 fun q108 =>
  vcase (bv (!q108))
  (vcase (bv (a0_2 != 0))
  (some (iv .i64 1))
  (vcase (bv (decide ((a0_3.length : Int) > 0)))
  (some (iv .i64 1))
  (vcase (bv (a0_0 == 4))
  (vcase (bv (a0_1 != 0))
  (some (iv .i64 1))
  (vcase (bv (a0_0 != 4))
  (pcallS (call Ev) Fn.spec_l1In [iv .i64 a0_1, iv .i64 1, iv .i64 99] fun v133 =>
  gV1 v133 fun x134 =>
  gB x134 fun q135 =>
  Jn.spec_l4Fault_0 (!q135) a0_2 a0_0 a0_3)
  (Jn.spec_l4Fault_0 false a0_2 a0_0 a0_3)))
  (vcase (bv (a0_0 != 4))
  (pcallS (call Ev) Fn.spec_l1In [iv .i64 a0_1, iv .i64 1, iv .i64 99] fun v199 =>
  gV1 v199 fun x200 =>
  gB x200 fun q201 =>
  Jn.spec_l4Fault_0 (!q201) a0_2 a0_0 a0_3)
  (Jn.spec_l4Fault_0 false a0_2 a0_0 a0_3)))))
  (vcase (bv (a0_0 == 4))
  (vcase (bv (a0_1 != 0))
  (some (iv .i64 1))
  (vcase (bv (a0_0 != 4))
  (pcallS (call Ev) Fn.spec_l1In [iv .i64 a0_1, iv .i64 1, iv .i64 99] fun v240 =>
  gV1 v240 fun x241 =>
  gB x241 fun q242 =>
  Jn.spec_l4Fault_0 (!q242) a0_2 a0_0 a0_3)
  (Jn.spec_l4Fault_0 false a0_2 a0_0 a0_3)))
  (vcase (bv (a0_0 != 4))
  (pcallS (call Ev) Fn.spec_l1In [iv .i64 a0_1, iv .i64 1, iv .i64 99] fun v278 =>
  gV1 v278 fun x279 =>
  gB x279 fun q280 =>
  Jn.spec_l4Fault_0 (!q280) a0_2 a0_0 a0_3)
  (Jn.spec_l4Fault_0 false a0_2 a0_0 a0_3)))) := by
  rw [pure_eq]; kernel_rfl

theorem pu_spec_RecordFault (a0_0 : Int) (a0_1 : Int) (a0_2 : Int) (a0_3 : List (List S)) : pureV (call Ev) Fn.spec_RecordFault [.agg [.int .i64 a0_0, .int .i64 a0_1, .int .i64 a0_2, .fs a0_3]] =
  pcallS (call Ev) Fn.spec_l4Fault [fv [.int .i64 a0_0, .int .i64 a0_1, .int .i64 a0_2, .fs a0_3] 0] fun v101 =>
  gV1 v101 fun x102 =>
  gI .i64 x102 fun i103 =>
  some (iv .i64 i103) := by
  rw [pure_eq]; kernel_rfl

theorem eq_laws_toByteS (a0 : List (List S)) (n : Nat) : call Ev Fn.laws_toByteS [lv a0] (D n) =
  (mkSl 1 [.int .u8 0] (D n) (iv .i64 (a0.length : Int)) (iv .i64 (a0.length : Int))).bind fun p101 =>
  (Lp.laws_toByteS 0 [lv a0, p101.1, iv .i64 0] p101.2).bind fun o102 => lcase o102 (fun l103 h104 =>
  (l103[0]?).bind fun w107 =>
  some (w107, h104)) (fun v105 h106 =>
  some (v105, h106)) := by
  rw [call_eq]; kernel_rfl

theorem eq_laws_toByteS_l0 (s0 : List (List S)) (s3 : V) (s4 : Int) (h : H) : Lp.laws_toByteS 0 [lv s0, s3, iv .i64 s4] h =
  vcase (bv (decide (s4 < (s0.length : Int))))
  (idxF 1 s0 s4 fun r203 =>
  (r203[0]?).bind fun x204 =>
  gI .u8 x204 fun i205 =>
  idxK 1 s3 (iv .i64 s4) fun v206 =>
  stK 1 h v206 (iv .u8 i205) fun h207 =>
  Lp.laws_toByteS 0 [lv s0, s3, iv .i64 (IntKind.i64.wrap (s4 + 1))] (tidy h [lv s0, s3, iv .i64 (IntKind.i64.wrap (s4 + 1))] h207))
  (some (.done [s3] (tidy h [s3] h))) := by
  unfold Lp.laws_toByteS; rw [loop_eq]; kernel_rfl

theorem eq_laws_toRun (a0_0 : Int) (a0_1 : List (List S)) (n : Nat) : call Ev Fn.laws_toRun [.agg [.int .i64 a0_0, .fs a0_1]] (D n) =
  (load1 ((((D n).new 0 [.int .i64 a0_0, .fs a0_1]).new 0 [.int .i64 0, .sl none 0]).new 0 [.int .i64 0, .sl none 0]) (pv ((D n).n) 0)).bind fun x101 =>
  gI .i64 x101 fun i102 =>
  stK 1 ((((D n).new 0 [.int .i64 a0_0, .fs a0_1]).new 0 [.int .i64 0, .sl none 0]).new 0 [.int .i64 0, .sl none 0]) (pv ((((D n).new 0 [.int .i64 a0_0, .fs a0_1]).new 0 [.int .i64 0, .sl none 0]).n) 0) (iv .i64 i102) fun h103 =>
  (load1 h103 (pv ((D n).n) 1)).bind fun x104 =>
  (frzVs h103 [.s x104]).bind fun l105 =>
  pcallF (call Ev) Fn.laws_toByteS ([.s x104].all offV) (normVs [] l105) h103 fun v106 h107 =>
  stK 1 h107 (pv ((((D n).new 0 [.int .i64 a0_0, .fs a0_1]).new 0 [.int .i64 0, .sl none 0]).n) 1) v106 fun h108 =>
  (loadN 2 h108 (pv ((((D n).new 0 [.int .i64 a0_0, .fs a0_1]).new 0 [.int .i64 0, .sl none 0]).n) 0)).bind fun c109 =>
  (c109[0]?).bind fun x110 =>
  gI .i64 x110 fun i111 =>
  (c109[1]?).bind fun x112 =>
  if c109.length = 2 then
  stK 2 h108 (pv (((D n).new 0 [.int .i64 a0_0, .fs a0_1]).n) 0) (.agg [.int .i64 i111, x112]) fun h113 =>
  (loadN 2 h113 (pv (((D n).new 0 [.int .i64 a0_0, .fs a0_1]).n) 0)).bind fun c114 =>
  some (.agg c114, h113)
  else none := by
  rw [call_eq]; kernel_rfl

theorem eq_laws_toRunS (a0 : List (List S)) (n : Nat) : call Ev Fn.laws_toRunS [lv a0] (D n) =
  (mkSl 2 [.int .i64 0, .sl none 0] (D n) (iv .i64 (a0.length : Int)) (iv .i64 (a0.length : Int))).bind fun p101 =>
  (Lp.laws_toRunS 0 [lv a0, p101.1, iv .i64 0] p101.2).bind fun o102 => lcase o102 (fun l103 h104 =>
  (l103[0]?).bind fun w107 =>
  some (w107, h104)) (fun v105 h106 =>
  some (v105, h106)) := by
  rw [call_eq]; kernel_rfl

theorem eq_laws_toRunS_l0 (s0 : List (List S)) (s3 : V) (s4 : Int) (h : H) : Lp.laws_toRunS 0 [lv s0, s3, iv .i64 s4] h =
  vcase (bv (decide (s4 < (s0.length : Int))))
  (idxF 2 s0 s4 fun r203 =>
  (rowN 2 r203 0).bind fun c204 =>
  (c204[0]?).bind fun x205 =>
  gI .i64 x205 fun i206 =>
  (c204[1]?).bind fun x207 =>
  gF x207 fun z208 =>
  if c204.length = 2 then
  pcallF (call Ev) Fn.laws_toRun true [.agg [.int .i64 i206, .fs z208]] h fun v209 h210 =>
  gVA v209 fun c211 =>
  (c211[0]?).bind fun x212 =>
  gI .i64 x212 fun i213 =>
  (c211[1]?).bind fun x214 =>
  if c211.length = 2 then
  idxK 2 s3 (iv .i64 s4) fun v215 =>
  stK 2 h210 v215 (.agg [.int .i64 i213, x214]) fun h216 =>
  Lp.laws_toRunS 0 [lv s0, s3, iv .i64 (IntKind.i64.wrap (s4 + 1))] (tidy h [lv s0, s3, iv .i64 (IntKind.i64.wrap (s4 + 1))] h216)
  else none
  else none)
  (some (.done [s3] (tidy h [s3] h))) := by
  unfold Lp.laws_toRunS; rw [loop_eq]; kernel_rfl

theorem eq_laws_toRecord (a0_0 : Int) (a0_1 : Int) (a0_2 : Int) (a0_3 : List (List S)) (n : Nat) : call Ev Fn.laws_toRecord [.agg [.int .i64 a0_0, .int .i64 a0_1, .int .i64 a0_2, .fs a0_3]] (D n) =
  (load1 ((((D n).new 0 [.int .i64 a0_0, .int .i64 a0_1, .int .i64 a0_2, .fs a0_3]).new 0 [.int .i64 0, .int .i64 0, .int .i64 0, .sl none 0]).new 0 [.int .i64 0, .int .i64 0, .int .i64 0, .sl none 0]) (pv ((D n).n) 0)).bind fun x101 =>
  gI .i64 x101 fun i102 =>
  stK 1 ((((D n).new 0 [.int .i64 a0_0, .int .i64 a0_1, .int .i64 a0_2, .fs a0_3]).new 0 [.int .i64 0, .int .i64 0, .int .i64 0, .sl none 0]).new 0 [.int .i64 0, .int .i64 0, .int .i64 0, .sl none 0]) (pv ((((D n).new 0 [.int .i64 a0_0, .int .i64 a0_1, .int .i64 a0_2, .fs a0_3]).new 0 [.int .i64 0, .int .i64 0, .int .i64 0, .sl none 0]).n) 0) (iv .i64 i102) fun h103 =>
  (load1 h103 (pv ((D n).n) 1)).bind fun x104 =>
  gI .i64 x104 fun i105 =>
  stK 1 h103 (pv ((((D n).new 0 [.int .i64 a0_0, .int .i64 a0_1, .int .i64 a0_2, .fs a0_3]).new 0 [.int .i64 0, .int .i64 0, .int .i64 0, .sl none 0]).n) 1) (iv .i64 i105) fun h106 =>
  (load1 h106 (pv ((D n).n) 2)).bind fun x107 =>
  gI .i64 x107 fun i108 =>
  stK 1 h106 (pv ((((D n).new 0 [.int .i64 a0_0, .int .i64 a0_1, .int .i64 a0_2, .fs a0_3]).new 0 [.int .i64 0, .int .i64 0, .int .i64 0, .sl none 0]).n) 2) (iv .i64 i108) fun h109 =>
  (load1 h109 (pv ((D n).n) 3)).bind fun x110 =>
  (frzVs h109 [.s x110]).bind fun l111 =>
  pcallF (call Ev) Fn.laws_toRunS ([.s x110].all offV) (normVs [] l111) h109 fun v112 h113 =>
  stK 1 h113 (pv ((((D n).new 0 [.int .i64 a0_0, .int .i64 a0_1, .int .i64 a0_2, .fs a0_3]).new 0 [.int .i64 0, .int .i64 0, .int .i64 0, .sl none 0]).n) 3) v112 fun h114 =>
  (loadN 4 h114 (pv ((((D n).new 0 [.int .i64 a0_0, .int .i64 a0_1, .int .i64 a0_2, .fs a0_3]).new 0 [.int .i64 0, .int .i64 0, .int .i64 0, .sl none 0]).n) 0)).bind fun c115 =>
  (c115[0]?).bind fun x116 =>
  gI .i64 x116 fun i117 =>
  (c115[1]?).bind fun x118 =>
  gI .i64 x118 fun i119 =>
  (c115[2]?).bind fun x120 =>
  gI .i64 x120 fun i121 =>
  (c115[3]?).bind fun x122 =>
  if c115.length = 4 then
  stK 4 h114 (pv (((D n).new 0 [.int .i64 a0_0, .int .i64 a0_1, .int .i64 a0_2, .fs a0_3]).n) 0) (.agg [.int .i64 i117, .int .i64 i119, .int .i64 i121, x122]) fun h123 =>
  (loadN 4 h123 (pv (((D n).new 0 [.int .i64 a0_0, .int .i64 a0_1, .int .i64 a0_2, .fs a0_3]).n) 0)).bind fun c124 =>
  some (.agg c124, h123)
  else none := by
  rw [call_eq]; kernel_rfl

theorem pu_impl_in (a0 : Int) (a1 : Int) (a2 : Int) : pureV (call Ev) Fn.impl_in [iv .i64 a0, iv .i64 a1, iv .i64 a2] =
  vcase (bv (decide (a0 ≥ a1)))
  (some (bv (decide (a0 ≤ a2))))
  (some (bv false)) := by
  rw [pure_eq]; kernel_rfl

theorem pu_impl_turns (a0 : Int) : pureV (call Ev) Fn.impl_turns [iv .i64 a0] =
  vcase (bv (a0 == 2))
  (some (bv true))
  (vcase (bv (a0 == 3))
  (some (bv true))
  (some (bv (a0 == 4)))) := by
  rw [pure_eq]; kernel_rfl

theorem pu_impl_isTx (a0 : Int) : pureV (call Ev) Fn.impl_isTx [iv .i64 a0] =
  pcallS (call Ev) Fn.impl_in [iv .i64 a0, iv .i64 1, iv .i64 99] fun v101 =>
  gV1 v101 fun x102 =>
  gB x102 fun q103 =>
  some (bv q103) := by
  rw [pure_eq]; kernel_rfl

theorem pu_impl_RunsFault (a0 : List (List S)) : pureV (call Ev) Fn.impl_RunsFault [lv a0] =
  vcase (bv (decide ((a0.length : Int) > 64)))
  (some (iv .i64 2))
  ((Lp.impl_RunsFault 0 [iv .i64 0, lv a0, iv .i64 (a0.length : Int), iv .i64 0] (D 0)).bind fun o102 => lcase o102 (fun l103 h104 =>
  some (iv .i64 0)) (fun v105 h106 =>
  frzV h106 v105)) := by
  rw [pure_eq]; kernel_rfl

theorem eq_impl_RunsFault_l0 (s3 : Int) (s10 : List (List S)) (s11 : Int) (s12 : Int) (h : H) : Lp.impl_RunsFault 0 [iv .i64 s3, lv s10, iv .i64 s11, iv .i64 s12] h =
  vcase (bv (decide (s12 < s11)))
  (idxF 2 s10 s12 fun r203 =>
  (rowN 2 r203 0).bind fun c204 =>
  (c204[0]?).bind fun x205 =>
  gI .i64 x205 fun i206 =>
  (c204[1]?).bind fun x207 =>
  gF x207 fun z208 =>
  if c204.length = 2 then
  stK 2 (h.new 0 [.int .i64 0, .sl none 0]) (pv h.n 0) (.agg [.int .i64 i206, .fs z208]) fun h209 =>
  (load1 h209 (pv h.n 1)).bind fun x210 =>
  (lenV (.sl 5) (.s x210)).bind fun v211 =>
  gV1 v211 fun x212 =>
  gI .i64 x212 fun i213 =>
  (load1 h209 (pv h.n 0)).bind fun x214 =>
  gI .i64 x214 fun i215 =>
  pcallS (call Ev) Fn.impl_in [iv .i64 i215, iv .i64 0, iv .i64 63] fun v216 =>
  gV1 v216 fun x217 =>
  gB x217 fun q218 =>
  vcase (bv (!q218))
  (some (.ret (iv .i64 3) h209))
  (pcallS (call Ev) Fn.impl_in [iv .i64 i213, iv .i64 1, iv .i64 64] fun v221 =>
  gV1 v221 fun x222 =>
  gB x222 fun q223 =>
  vcase (bv (!q223))
  (some (.ret (iv .i64 3) h209))
  ((load1 h209 (pv h.n 0)).bind fun x229 =>
  gI .i64 x229 fun i230 =>
  vcase (bv (decide ((IntKind.i64.wrap (i230 + i213)) > 64)))
  (some (.ret (iv .i64 3) h209))
  ((load1 h209 (pv h.n 0)).bind fun x234 =>
  gI .i64 x234 fun i235 =>
  vcase (bv (decide (i235 < s3)))
  (some (.ret (iv .i64 1) h209))
  ((load1 h209 (pv h.n 0)).bind fun x237 =>
  gI .i64 x237 fun i238 =>
  Lp.impl_RunsFault 0 [iv .i64 (IntKind.i64.wrap ((IntKind.i64.wrap (i238 + i213)) + 1)), lv s10, iv .i64 s11, iv .i64 (IntKind.i64.wrap (s12 + 1))] (tidy h [iv .i64 (IntKind.i64.wrap ((IntKind.i64.wrap (i238 + i213)) + 1)), lv s10, iv .i64 s11, iv .i64 (IntKind.i64.wrap (s12 + 1))] h209)))))
  else none)
  (some (.done [] (tidy h [] h))) := by
  unfold Lp.impl_RunsFault; rw [loop_eq]; kernel_rfl

noncomputable def Jn.impl_RecordFault_0 (q295 : Bool) (a0_3 : List (List S)) (a0_0 : Int) : Option (V) :=
  vcase (bv q295)
  (some (iv .i64 3))
  (pcallS (call Ev) Fn.impl_RunsFault [lv a0_3] fun v297 =>
  gV1 v297 fun x298 =>
  gI .i64 x298 fun i299 =>
  vcase (bv (i299 != 0))
  (some (iv .i64 i299))
  (pcallS (call Ev) Fn.impl_turns [iv .i64 a0_0] fun v301 =>
  gV1 v301 fun x302 =>
  gB x302 fun q303 =>
  vcase (bv q303)
  (vcase (bv ((a0_3.length : Int) == 0))
  (some (iv .i64 1))
  (vcase (bv (a0_0 == 4))
  (vcase (bv ((a0_3.length : Int) != 1))
  (some (iv .i64 1))
  (idxF 2 a0_3 0 fun r312 =>
  (r312[1]?).bind fun x313 =>
  gF x313 fun z314 =>
  vcase (bv ((z314.length : Int) != 64))
  (some (iv .i64 1))
  (some (iv .i64 0))))
  (some (iv .i64 0))))
  (vcase (bv (a0_0 == 4))
  (vcase (bv ((a0_3.length : Int) != 1))
  (some (iv .i64 1))
  (idxF 2 a0_3 0 fun r329 =>
  (r329[1]?).bind fun x330 =>
  gF x330 fun z331 =>
  vcase (bv ((z331.length : Int) != 64))
  (some (iv .i64 1))
  (some (iv .i64 0))))
  (some (iv .i64 0)))))

noncomputable def Jn.impl_RecordFault_1 (q288 : Bool) (a0_2 : Int) (a0_3 : List (List S)) (a0_0 : Int) : Option (V) :=
  vcase (bv q288)
  (Jn.impl_RecordFault_0 true a0_3 a0_0)
  (pcallS (call Ev) Fn.impl_in [iv .i64 a0_2, iv .i64 0, iv .i64 11] fun v291 =>
  gV1 v291 fun x292 =>
  gB x292 fun q293 =>
  Jn.impl_RecordFault_0 (!q293) a0_3 a0_0)

theorem pu_impl_RecordFault (a0_0 : Int) (a0_1 : Int) (a0_2 : Int) (a0_3 : List (List S)) : pureV (call Ev) Fn.impl_RecordFault [.agg [.int .i64 a0_0, .int .i64 a0_1, .int .i64 a0_2, .fs a0_3]] =
  pcallS (call Ev) Fn.impl_in [iv .i64 a0_0, iv .i64 1, iv .i64 6] fun v101 =>
  gV1 v101 fun x102 =>
  gB x102 fun q103 =>
  vcase (bv (!q103))
  (some (iv .i64 1))
  (pcallS (call Ev) Fn.impl_turns [iv .i64 a0_0] fun v106 =>
  gV1 v106 fun x107 =>
  gB x107 fun q108 =>
  vcase (bv (!q108))
  (vcase (bv (a0_2 != 0))
  (some (iv .i64 1))
  (vcase (bv (decide ((a0_3.length : Int) > 0)))
  (some (iv .i64 1))
  (vcase (bv (a0_0 == 4))
  (vcase (bv (a0_1 != 0))
  (some (iv .i64 1))
  (vcase (bv (a0_0 != 4))
  (pcallS (call Ev) Fn.impl_isTx [iv .i64 a0_1] fun v133 =>
  gV1 v133 fun x134 =>
  gB x134 fun q135 =>
  Jn.impl_RecordFault_1 (!q135) a0_2 a0_3 a0_0)
  (Jn.impl_RecordFault_1 false a0_2 a0_3 a0_0)))
  (vcase (bv (a0_0 != 4))
  (pcallS (call Ev) Fn.impl_isTx [iv .i64 a0_1] fun v344 =>
  gV1 v344 fun x345 =>
  gB x345 fun q346 =>
  Jn.impl_RecordFault_1 (!q346) a0_2 a0_3 a0_0)
  (Jn.impl_RecordFault_1 false a0_2 a0_3 a0_0)))))
  (vcase (bv (a0_0 == 4))
  (vcase (bv (a0_1 != 0))
  (some (iv .i64 1))
  (vcase (bv (a0_0 != 4))
  (pcallS (call Ev) Fn.impl_isTx [iv .i64 a0_1] fun v409 =>
  gV1 v409 fun x410 =>
  gB x410 fun q411 =>
  Jn.impl_RecordFault_1 (!q411) a0_2 a0_3 a0_0)
  (Jn.impl_RecordFault_1 false a0_2 a0_3 a0_0)))
  (vcase (bv (a0_0 != 4))
  (pcallS (call Ev) Fn.impl_isTx [iv .i64 a0_1] fun v471 =>
  gV1 v471 fun x472 =>
  gB x472 fun q473 =>
  Jn.impl_RecordFault_1 (!q473) a0_2 a0_3 a0_0)
  (Jn.impl_RecordFault_1 false a0_2 a0_3 a0_0)))) := by
  rw [pure_eq]; kernel_rfl

theorem pu_laws_eqByteS (a0 : List (List S)) (a1 : List (List S)) : pureV (call Ev) Fn.laws_eqByteS [lv a0, lv a1] =
  vcase (bv ((a0.length : Int) != (a1.length : Int)))
  (some (bv false))
  ((Lp.laws_eqByteS 0 [lv a0, lv a1, iv .i64 0] (D 0)).bind fun o102 => lcase o102 (fun l103 h104 =>
  some (bv true)) (fun v105 h106 =>
  frzV h106 v105)) := by
  rw [pure_eq]; kernel_rfl

theorem eq_laws_eqByteS_l0 (s0 : List (List S)) (s1 : List (List S)) (s5 : Int) (h : H) : Lp.laws_eqByteS 0 [lv s0, lv s1, iv .i64 s5] h =
  vcase (bv (decide (s5 < (s0.length : Int))))
  (idxF 1 s0 s5 fun r203 =>
  (r203[0]?).bind fun x204 =>
  gI .u8 x204 fun i205 =>
  idxF 1 s1 s5 fun r206 =>
  (r206[0]?).bind fun x207 =>
  gI .u8 x207 fun i208 =>
  vcase (bv (i205 != i208))
  (some (.ret (bv false) h))
  (Lp.laws_eqByteS 0 [lv s0, lv s1, iv .i64 (IntKind.i64.wrap (s5 + 1))] (tidy h [lv s0, lv s1, iv .i64 (IntKind.i64.wrap (s5 + 1))] h)))
  (some (.done [] (tidy h [] h))) := by
  unfold Lp.laws_eqByteS; rw [loop_eq]; kernel_rfl

theorem pu_laws_eqRun (a0_0 : Int) (a0_1 : List (List S)) (a1_0 : Int) (a1_1 : List (List S)) : pureV (call Ev) Fn.laws_eqRun [.agg [.int .i64 a0_0, .fs a0_1], .agg [.int .i64 a1_0, .fs a1_1]] =
  vcase (bv (a0_0 != a1_0))
  (some (bv false))
  (pcallS (call Ev) Fn.laws_eqByteS [lv a0_1, lv a1_1] fun v102 =>
  gV1 v102 fun x103 =>
  gB x103 fun q104 =>
  vcase (bv (!q104))
  (some (bv false))
  (some (bv true))) := by
  rw [pure_eq]; kernel_rfl

theorem pu_laws_eqRunS (a0 : List (List S)) (a1 : List (List S)) : pureV (call Ev) Fn.laws_eqRunS [lv a0, lv a1] =
  vcase (bv ((a0.length : Int) != (a1.length : Int)))
  (some (bv false))
  ((Lp.laws_eqRunS 0 [lv a0, lv a1, iv .i64 0] (D 0)).bind fun o102 => lcase o102 (fun l103 h104 =>
  some (bv true)) (fun v105 h106 =>
  frzV h106 v105)) := by
  rw [pure_eq]; kernel_rfl

theorem eq_laws_eqRunS_l0 (s0 : List (List S)) (s1 : List (List S)) (s5 : Int) (h : H) : Lp.laws_eqRunS 0 [lv s0, lv s1, iv .i64 s5] h =
  vcase (bv (decide (s5 < (s0.length : Int))))
  (idxF 2 s0 s5 fun r203 =>
  (rowN 2 r203 0).bind fun c204 =>
  (c204[0]?).bind fun x205 =>
  gI .i64 x205 fun i206 =>
  (c204[1]?).bind fun x207 =>
  gF x207 fun z208 =>
  if c204.length = 2 then
  idxF 2 s1 s5 fun r209 =>
  (rowN 2 r209 0).bind fun c210 =>
  (c210[0]?).bind fun x211 =>
  gI .i64 x211 fun i212 =>
  (c210[1]?).bind fun x213 =>
  gF x213 fun z214 =>
  if c210.length = 2 then
  pcallS (call Ev) Fn.laws_eqRun [.agg [.int .i64 i206, .fs z208], .agg [.int .i64 i212, .fs z214]] fun v215 =>
  gV1 v215 fun x216 =>
  gB x216 fun q217 =>
  hchk h h (
  vcase (bv (!q217))
  (some (.ret (bv false) h))
  (Lp.laws_eqRunS 0 [lv s0, lv s1, iv .i64 (IntKind.i64.wrap (s5 + 1))] (tidy h [lv s0, lv s1, iv .i64 (IntKind.i64.wrap (s5 + 1))] h)))
  else none
  else none)
  (some (.done [] (tidy h [] h))) := by
  unfold Lp.laws_eqRunS; rw [loop_eq]; kernel_rfl

theorem pu_laws_eqRecord (a0_0 : Int) (a0_1 : Int) (a0_2 : Int) (a0_3 : List (List S)) (a1_0 : Int) (a1_1 : Int) (a1_2 : Int) (a1_3 : List (List S)) : pureV (call Ev) Fn.laws_eqRecord [.agg [.int .i64 a0_0, .int .i64 a0_1, .int .i64 a0_2, .fs a0_3], .agg [.int .i64 a1_0, .int .i64 a1_1, .int .i64 a1_2, .fs a1_3]] =
  vcase (bv (a0_0 != a1_0))
  (some (bv false))
  (vcase (bv (a0_1 != a1_1))
  (some (bv false))
  (vcase (bv (a0_2 != a1_2))
  (some (bv false))
  (pcallS (call Ev) Fn.laws_eqRunS [lv a0_3, lv a1_3] fun v104 =>
  gV1 v104 fun x105 =>
  gB x105 fun q106 =>
  vcase (bv (!q106))
  (some (bv false))
  (some (bv true))))) := by
  rw [pure_eq]; kernel_rfl

theorem pu_laws_FnExactRecordFault (a0_0 : Int) (a0_1 : Int) (a0_2 : Int) (a0_3 : List (List S)) : pureV (call Ev) Fn.laws_FnExactRecordFault [.agg [.int .i64 a0_0, .int .i64 a0_1, .int .i64 a0_2, .fs a0_3]] =
  pcallS (call Ev) Fn.laws_szRecord [.agg [.int .i64 a0_0, .int .i64 a0_1, .int .i64 a0_2, .fs a0_3], iv .i64 1048576] fun v101 =>
  gV1 v101 fun x102 =>
  gI .i64 x102 fun i103 =>
  vcase (bv (decide (i103 < 0)))
  (some (bv true))
  ((pureV (call Ev) Fn.laws_toRecord [.agg [.int .i64 a0_0, .int .i64 a0_1, .int .i64 a0_2, .fs a0_3]]).bind fun v105 =>
  gVA v105 fun c106 =>
  (c106[0]?).bind fun x107 =>
  gI .i64 x107 fun i108 =>
  (c106[1]?).bind fun x109 =>
  gI .i64 x109 fun i110 =>
  (c106[2]?).bind fun x111 =>
  gI .i64 x111 fun i112 =>
  (c106[3]?).bind fun x113 =>
  gF x113 fun z114 =>
  if c106.length = 4 then
  pcallS (call Ev) Fn.spec_RecordFault [.agg [.int .i64 i108, .int .i64 i110, .int .i64 i112, .fs z114]] fun v115 =>
  gV1 v115 fun x116 =>
  gI .i64 x116 fun i117 =>
  (pureV (call Ev) Fn.laws_toRecord [.agg [.int .i64 a0_0, .int .i64 a0_1, .int .i64 a0_2, .fs a0_3]]).bind fun v118 =>
  gVA v118 fun c119 =>
  (c119[0]?).bind fun x120 =>
  gI .i64 x120 fun i121 =>
  (c119[1]?).bind fun x122 =>
  gI .i64 x122 fun i123 =>
  (c119[2]?).bind fun x124 =>
  gI .i64 x124 fun i125 =>
  (c119[3]?).bind fun x126 =>
  gF x126 fun z127 =>
  if c119.length = 4 then
  pcallS (call Ev) Fn.impl_RecordFault [.agg [.int .i64 i121, .int .i64 i123, .int .i64 i125, .fs z127]] fun v128 =>
  gV1 v128 fun x129 =>
  gI .i64 x129 fun i130 =>
  vcase (bv (i130 != i117))
  (some (bv false))
  ((pureV (call Ev) Fn.laws_toRecord [.agg [.int .i64 a0_0, .int .i64 a0_1, .int .i64 a0_2, .fs a0_3]]).bind fun v132 =>
  gVA v132 fun c133 =>
  (c133[0]?).bind fun x134 =>
  gI .i64 x134 fun i135 =>
  (c133[1]?).bind fun x136 =>
  gI .i64 x136 fun i137 =>
  (c133[2]?).bind fun x138 =>
  gI .i64 x138 fun i139 =>
  (c133[3]?).bind fun x140 =>
  gF x140 fun z141 =>
  if c133.length = 4 then
  hchk ((((D 0).new 0 [.int .i64 a0_0, .int .i64 a0_1, .int .i64 a0_2, .fs a0_3]).new 0 [.int .i64 0, .int .i64 0, .int .i64 0, .sl none 0]).put 1 (.rw 0 [.int .i64 i121, .int .i64 i123, .int .i64 i125, .fs z127])) ((((D 0).new 0 [.int .i64 a0_0, .int .i64 a0_1, .int .i64 a0_2, .fs a0_3]).new 0 [.int .i64 0, .int .i64 0, .int .i64 0, .sl none 0]).put 1 (.rw 0 [.int .i64 i121, .int .i64 i123, .int .i64 i125, .fs z127])) (
  pcallS (call Ev) Fn.laws_eqRecord [.agg [.int .i64 i121, .int .i64 i123, .int .i64 i125, .fs z127], .agg [.int .i64 i135, .int .i64 i137, .int .i64 i139, .fs z141]] fun v142 =>
  gV1 v142 fun x143 =>
  gB x143 fun q144 =>
  hchk ((((D 0).new 0 [.int .i64 a0_0, .int .i64 a0_1, .int .i64 a0_2, .fs a0_3]).new 0 [.int .i64 0, .int .i64 0, .int .i64 0, .sl none 0]).put 1 (.rw 0 [.int .i64 i121, .int .i64 i123, .int .i64 i125, .fs z127])) ((((D 0).new 0 [.int .i64 a0_0, .int .i64 a0_1, .int .i64 a0_2, .fs a0_3]).new 0 [.int .i64 0, .int .i64 0, .int .i64 0, .sl none 0]).put 1 (.rw 0 [.int .i64 i121, .int .i64 i123, .int .i64 i125, .fs z127])) (
  hchk ((((D 0).new 0 [.int .i64 a0_0, .int .i64 a0_1, .int .i64 a0_2, .fs a0_3]).new 0 [.int .i64 0, .int .i64 0, .int .i64 0, .sl none 0]).put 1 (.rw 0 [.int .i64 i121, .int .i64 i123, .int .i64 i125, .fs z127])) ((((D 0).new 0 [.int .i64 a0_0, .int .i64 a0_1, .int .i64 a0_2, .fs a0_3]).new 0 [.int .i64 0, .int .i64 0, .int .i64 0, .sl none 0]).put 1 (.rw 0 [.int .i64 i121, .int .i64 i123, .int .i64 i125, .fs z127])) (
  vcase (bv (!q144))
  (some (bv false))
  (some (bv true)))))
  else none)
  else none
  else none) := by
  rw [pure_eq]; kernel_rfl

theorem pu_spec_l4Sum (a0 : List (List S)) : pureV (call Ev) Fn.spec_l4Sum [lv a0] =
  (Lp.spec_l4Sum 0 [lv a0, iv .i64 1, iv .i64 0] (D 0)).bind fun o101 => lcase o101 (fun l102 h103 =>
  (l102[0]?).bind fun w106 =>
  gV1 w106 fun x107 =>
  gI .i64 x107 fun i108 =>
  some (iv .i64 i108)) (fun v104 h105 =>
  frzV h105 v104) := by
  rw [pure_eq]; kernel_rfl

theorem eq_spec_l4Sum_l0 (s0 : List (List S)) (s3 : Int) (s4 : Int) (h : H) : Lp.spec_l4Sum 0 [lv s0, iv .i64 s3, iv .i64 s4] h =
  vcase (bv (decide (s4 < (s0.length : Int))))
  (idxF 1 s0 s4 fun r203 =>
  (r203[0]?).bind fun x204 =>
  gI .u8 x204 fun i205 =>
  (bin Ev .rem 2 (iv .i64 (IntKind.i64.wrap ((IntKind.i64.wrap (s3 * 31)) + (IntKind.i64.wrap i205)))) (iv .i64 65521)).bind fun b206 =>
  gV1 b206 fun x207 =>
  gI .i64 x207 fun i208 =>
  Lp.spec_l4Sum 0 [lv s0, iv .i64 i208, iv .i64 (IntKind.i64.wrap (s4 + 1))] (tidy h [lv s0, iv .i64 i208, iv .i64 (IntKind.i64.wrap (s4 + 1))] h))
  (some (.done [iv .i64 s3] (tidy h [iv .i64 s3] h))) := by
  unfold Lp.spec_l4Sum; rw [loop_eq]; kernel_rfl

theorem eq_spec_l4Pack (a0_0 : Int) (a0_1 : Int) (a0_2 : Int) (a0_3 : List (List S)) (n : Nat) : call Ev Fn.spec_l4Pack [fv [.int .i64 a0_0, .int .i64 a0_1, .int .i64 a0_2, .fs a0_3] 0] (D n) =
  hchk (D n) ((D n).new 1 [.int .u8 0, .int .u8 (IntKind.u8.wrap a0_0), .int .u8 (IntKind.u8.wrap a0_1), .int .u8 (IntKind.u8.wrap a0_2), .int .u8 (IntKind.u8.wrap (a0_3.length : Int))]) (
  (Lp.spec_l4Pack 0 [fv [.int .i64 a0_0, .int .i64 a0_1, .int .i64 a0_2, .fs a0_3] 0, sv ((D n).n) 0 5, iv .i64 0] ((D n).new 1 [.int .u8 0, .int .u8 (IntKind.u8.wrap a0_0), .int .u8 (IntKind.u8.wrap a0_1), .int .u8 (IntKind.u8.wrap a0_2), .int .u8 (IntKind.u8.wrap (a0_3.length : Int))])).bind fun o101 => lcase o101 (fun l102 h103 =>
  (l102[0]?).bind fun w106 =>
  (lenV (.sl 5) w106).bind fun v107 =>
  gV1 v107 fun x108 =>
  gI .i64 x108 fun i109 =>
  idxK 1 w106 (iv .i64 0) fun v110 =>
  stK 1 h103 v110 (iv .u8 (IntKind.u8.wrap (IntKind.i64.wrap (i109 + 2)))) fun h111 =>
  (frzVs h111 [w106]).bind fun l112 =>
  pcallS (call Ev) Fn.spec_l4Sum (normVs [] l112) fun v113 =>
  gV1 v113 fun x114 =>
  gI .i64 x114 fun i115 =>
  (bin Ev .quo 2 (iv .i64 i115) (iv .i64 256)).bind fun b116 =>
  gV1 b116 fun x117 =>
  gI .i64 x117 fun i118 =>
  (bin Ev .rem 2 (iv .i64 i115) (iv .i64 256)).bind fun b119 =>
  gV1 b119 fun x120 =>
  gI .i64 x120 fun i121 =>
  (appS 1 (h111.new 1 [.int .u8 (IntKind.u8.wrap i118), .int .u8 (IntKind.u8.wrap i121)]) w106 (sv h111.n 0 2)).bind fun p122 =>
  some (p122.1, p122.2)) (fun v104 h105 =>
  some (v104, h105))) := by
  rw [call_eq]; kernel_rfl

theorem eq_spec_l4Pack_l0 (s0_r : List S) (s0_o : Nat) (s3 : V) (s4 : Int) (h : H) : Lp.spec_l4Pack 0 [fv s0_r s0_o, s3, iv .i64 s4] h =
  (s0_r[s0_o + 3]?).bind fun x201 =>
  gF x201 fun z202 =>
  vcase (bv (decide (s4 < (z202.length : Int))))
  (killV s3 h fun h205 =>
  (s0_r[s0_o + 3]?).bind fun x206 =>
  gF x206 fun z207 =>
  idxF 2 z207 s4 fun r208 =>
  (r208[0]?).bind fun x209 =>
  gI .i64 x209 fun i210 =>
  (s0_r[s0_o + 3]?).bind fun x211 =>
  gF x211 fun z212 =>
  idxF 2 z212 s4 fun r213 =>
  (r213[1]?).bind fun x214 =>
  gF x214 fun z215 =>
  (s0_r[s0_o + 3]?).bind fun x216 =>
  gF x216 fun z217 =>
  idxF 2 z217 s4 fun r218 =>
  (r218[1]?).bind fun x219 =>
  gF x219 fun z220 =>
  hchk h205 (h.new 1 [.int .u8 (IntKind.u8.wrap i210), .int .u8 (IntKind.u8.wrap (z215.length : Int))]) (
  (appS 1 (h.new 1 [.int .u8 (IntKind.u8.wrap i210), .int .u8 (IntKind.u8.wrap (z215.length : Int))]) s3 (sv h.n 0 2)).bind fun p221 =>
  hchk h205 p221.2 (
  bif scaV p221.1 then
  (appS 1 p221.2 p221.1 (lv z220)).bind fun p222 =>
  hchk h205 p222.2 (
  bif scaV p222.1 then
  Lp.spec_l4Pack 0 [fv s0_r s0_o, p222.1, iv .i64 (IntKind.i64.wrap (s4 + 1))] (tidy h [fv s0_r s0_o, p222.1, iv .i64 (IntKind.i64.wrap (s4 + 1))] p222.2)
  else none)
  else none)))
  (some (.done [s3] (tidy h [s3] h))) := by
  unfold Lp.spec_l4Pack; rw [loop_eq]; kernel_rfl

theorem pu_spec_PackRecord (a0_0 : Int) (a0_1 : Int) (a0_2 : Int) (a0_3 : List (List S)) : pureV (call Ev) Fn.spec_PackRecord [.agg [.int .i64 a0_0, .int .i64 a0_1, .int .i64 a0_2, .fs a0_3]] =
  pcallS (call Ev) Fn.spec_l4Fault [fv [.int .i64 a0_0, .int .i64 a0_1, .int .i64 a0_2, .fs a0_3] 0] fun v101 =>
  gV1 v101 fun x102 =>
  gI .i64 x102 fun i103 =>
  vcase (bv (i103 != 0))
  (some (.agg [.int .i64 i103, .fs []]))
  (pcallF (call Ev) Fn.spec_l4Pack false [fv [.int .i64 a0_0, .int .i64 a0_1, .int .i64 a0_2, .fs a0_3] 0] (((D 0).new 0 [.int .i64 a0_0, .int .i64 a0_1, .int .i64 a0_2, .fs a0_3]).new 0 [.int .i64 0, .sl none 0]) fun v105 h106 =>
  cellsK v105 fun c107 =>
  if c107.length = 1 ∧ 1 + 1 ≤ ([.int .i64 0, .sl none 0] : List S).length then
  ((setAt ([.int .i64 0, .sl none 0] : List S) 1 c107)[0]?).bind fun x108 =>
  gI .i64 x108 fun i109 =>
  ((setAt ([.int .i64 0, .sl none 0] : List S) 1 c107)[1]?).bind fun x110 =>
  if (setAt ([.int .i64 0, .sl none 0] : List S) 1 c107).length = 2 then
  stK 2 h106 (pv 1 0) (.agg [.int .i64 i109, x110]) fun h111 =>
  (loadN 2 h111 (pv 1 0)).bind fun c112 =>
  frzV h111 (.agg c112)
  else none
  else none) := by
  rw [pure_eq]; kernel_rfl

theorem eq_impl_packed (a0_0 : Int) (a0_1 : Int) (a0_2 : Int) (a0_3 : List (List S)) (n : Nat) : call Ev Fn.impl_packed [.agg [.int .i64 a0_0, .int .i64 a0_1, .int .i64 a0_2, .fs a0_3]] (D n) =
  (load1 ((D n).new 0 [.int .i64 a0_0, .int .i64 a0_1, .int .i64 a0_2, .fs a0_3]) (pv ((D n).n) 0)).bind fun x101 =>
  gI .i64 x101 fun i102 =>
  (load1 ((D n).new 0 [.int .i64 a0_0, .int .i64 a0_1, .int .i64 a0_2, .fs a0_3]) (pv ((D n).n) 1)).bind fun x103 =>
  gI .i64 x103 fun i104 =>
  (load1 ((D n).new 0 [.int .i64 a0_0, .int .i64 a0_1, .int .i64 a0_2, .fs a0_3]) (pv ((D n).n) 2)).bind fun x105 =>
  gI .i64 x105 fun i106 =>
  (load1 ((D n).new 0 [.int .i64 a0_0, .int .i64 a0_1, .int .i64 a0_2, .fs a0_3]) (pv ((D n).n) 3)).bind fun x107 =>
  (lenV (.sl 89) (.s x107)).bind fun v108 =>
  gV1 v108 fun x109 =>
  gI .i64 x109 fun i110 =>
  (load1 (((D n).new 0 [.int .i64 a0_0, .int .i64 a0_1, .int .i64 a0_2, .fs a0_3]).new 1 [.int .u8 0, .int .u8 (IntKind.u8.wrap i102), .int .u8 (IntKind.u8.wrap i104), .int .u8 (IntKind.u8.wrap i106), .int .u8 (IntKind.u8.wrap i110)]) (pv ((D n).n) 3)).bind fun x111 =>
  (lenV (.sl 89) (.s x111)).bind fun v112 =>
  gV1 v112 fun x113 =>
  gI .i64 x113 fun i114 =>
  (Lp.impl_packed 0 [sv (((D n).new 0 [.int .i64 a0_0, .int .i64 a0_1, .int .i64 a0_2, .fs a0_3]).n) 0 5, .s x111, iv .i64 i114, iv .i64 0] (((D n).new 0 [.int .i64 a0_0, .int .i64 a0_1, .int .i64 a0_2, .fs a0_3]).new 1 [.int .u8 0, .int .u8 (IntKind.u8.wrap i102), .int .u8 (IntKind.u8.wrap i104), .int .u8 (IntKind.u8.wrap i106), .int .u8 (IntKind.u8.wrap i110)])).bind fun o115 => lcase o115 (fun l116 h117 =>
  (l116[0]?).bind fun w120 =>
  (lenV (.sl 5) w120).bind fun v121 =>
  gV1 v121 fun x122 =>
  gI .i64 x122 fun i123 =>
  idxK 1 w120 (iv .i64 0) fun v124 =>
  stK 1 h117 v124 (iv .u8 (IntKind.u8.wrap (IntKind.i64.wrap (i123 + 2)))) fun h125 =>
  (lenV (.sl 5) w120).bind fun v126 =>
  gV1 v126 fun x127 =>
  gI .i64 x127 fun i128 =>
  (Lp.impl_packed 2 [w120, iv .i64 1, w120, iv .i64 i128, iv .i64 0] h125).bind fun o129 => lcase o129 (fun l130 h131 =>
  (l130[0]?).bind fun w134 =>
  (l130[1]?).bind fun w135 =>
  gV1 w135 fun x136 =>
  gI .i64 x136 fun i137 =>
  (bin Ev .shr 3 (iv .i64 i137) (iv .u64 8)).bind fun b138 =>
  gV1 b138 fun x139 =>
  gI .i64 x139 fun i140 =>
  (appS 1 (h131.new 1 [.int .u8 (IntKind.u8.wrap i140), .int .u8 (IntKind.u8.wrap i137)]) w134 (sv h131.n 0 2)).bind fun p141 =>
  some (p141.1, p141.2)) (fun v132 h133 =>
  some (v132, h133))) (fun v118 h119 =>
  some (v118, h119)) := by
  rw [call_eq]; kernel_rfl

theorem eq_impl_packed_l0 (s3 : V) (s24 : V) (s25 : Int) (s26 : Int) (h : H) : Lp.impl_packed 0 [s3, s24, iv .i64 s25, iv .i64 s26] h =
  vcase (bv (decide (s26 < s25)))
  (idxK 2 s24 (iv .i64 s26) fun v203 =>
  ldK (.agg [.i .i64, .f]) ⟨2, 32, [.int .i64 0, .sl none 0], true, .st [(0, 2), (1, 33)], false⟩ h v203 fun v204 =>
  gVA v204 fun c205 =>
  (c205[0]?).bind fun x206 =>
  gI .i64 x206 fun i207 =>
  (c205[1]?).bind fun x208 =>
  if c205.length = 2 then
  stK 2 (h.new 0 [.int .i64 0, .sl none 0]) (pv h.n 0) (.agg [.int .i64 i207, x208]) fun h209 =>
  (load1 h209 (pv h.n 0)).bind fun x210 =>
  gI .i64 x210 fun i211 =>
  (load1 h209 (pv h.n 1)).bind fun x212 =>
  (lenV (.sl 5) (.s x212)).bind fun v213 =>
  gV1 v213 fun x214 =>
  gI .i64 x214 fun i215 =>
  (appS 1 (h209.new 1 [.int .u8 (IntKind.u8.wrap i211), .int .u8 (IntKind.u8.wrap i215)]) s3 (sv h209.n 0 2)).bind fun p216 =>
  (load1 p216.2 (pv h.n 1)).bind fun x217 =>
  (appS 1 p216.2 p216.1 (.s x217)).bind fun p218 =>
  Lp.impl_packed 0 [p218.1, s24, iv .i64 s25, iv .i64 (IntKind.i64.wrap (s26 + 1))] (tidy h [p218.1, s24, iv .i64 s25, iv .i64 (IntKind.i64.wrap (s26 + 1))] p218.2)
  else none)
  (some (.done [s3] (tidy h [s3] h))) := by
  unfold Lp.impl_packed; rw [loop_eq]; kernel_rfl

theorem eq_impl_packed_l2 (s3 : V) (s6 : Int) (s51 : V) (s52 : Int) (s53 : Int) (h : H) : Lp.impl_packed 2 [s3, iv .i64 s6, s51, iv .i64 s52, iv .i64 s53] h =
  vcase (bv (decide (s53 < s52)))
  (idxK 1 s51 (iv .i64 s53) fun v403 =>
  ldK (.one (.i .u8)) ⟨1, 1, [.int .u8 0], false, .int .u8, false⟩ h v403 fun v404 =>
  gV1 v404 fun x405 =>
  gI .u8 x405 fun i406 =>
  (bin Ev .rem 3 (iv .i64 (IntKind.i64.wrap ((IntKind.i64.wrap (s6 * 31)) + (IntKind.i64.wrap i406)))) (iv .i64 65521)).bind fun b407 =>
  gV1 b407 fun x408 =>
  gI .i64 x408 fun i409 =>
  Lp.impl_packed 2 [s3, iv .i64 i409, s51, iv .i64 s52, iv .i64 (IntKind.i64.wrap (s53 + 1))] (tidy h [s3, iv .i64 i409, s51, iv .i64 s52, iv .i64 (IntKind.i64.wrap (s53 + 1))] h))
  (some (.done [s3, iv .i64 s6] (tidy h [s3, iv .i64 s6] h))) := by
  unfold Lp.impl_packed; rw [loop_eq]; kernel_rfl

end Vm
