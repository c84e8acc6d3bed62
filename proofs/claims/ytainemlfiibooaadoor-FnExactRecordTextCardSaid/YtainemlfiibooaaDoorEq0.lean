/-
  What each function, and each round of each loop, comes to in the small machine. Written by a program (gen3.py).
-/
import Derived.Test.YtainemlfiibooaaDoorEnv
set_option linter.unusedVariables false
set_option maxRecDepth 100000
namespace Vm
open Go

theorem pu_laws_szByteS (a0 : List (List S)) (a1 : Int) : pureV (call Ev) Fn.laws_szByteS [lv a0, iv .i64 a1] =
  vcase (bv (decide ((IntKind.i64.wrap (a1 - (a0.length : Int))) < 0)))
  (some (iv .i64 (-1)))
  (some (iv .i64 (IntKind.i64.wrap (a1 - (a0.length : Int))))) := by
  rw [pure_eq]; kernel_rfl

theorem pu_laws_szRun (a0_0 : Int) (a0_1 : List (List S)) (a1 : Int) : pureV (call Ev) Fn.laws_szRun [.agg [.int .i64 a0_0, .fs a0_1], iv .i64 a1] =
  pcallS (call Ev) Fn.laws_szByteS [lv a0_1, iv .i64 a1] fun v101 =>
  gV1 v101 fun x102 =>
  gI .i64 x102 fun i103 =>
  vcase (bv (decide (i103 < 0)))
  (some (iv .i64 (-1)))
  (some (iv .i64 i103)) := by
  rw [pure_eq]; kernel_rfl

theorem pu_laws_szRunS (a0 : List (List S)) (a1 : Int) : pureV (call Ev) Fn.laws_szRunS [lv a0, iv .i64 a1] =
  vcase (bv (decide ((IntKind.i64.wrap (a1 - (a0.length : Int))) < 0)))
  (some (iv .i64 (-1)))
  ((Lp.laws_szRunS 0 [lv a0, iv .i64 (IntKind.i64.wrap (a1 - (a0.length : Int))), iv .i64 0] (D 0)).bind fun o102 => lcase o102 (fun l103 h104 =>
  (l103[0]?).bind fun w107 =>
  gV1 w107 fun x108 =>
  gI .i64 x108 fun i109 =>
  some (iv .i64 i109)) (fun v105 h106 =>
  frzV h106 v105)) := by
  rw [pure_eq]; kernel_rfl

theorem eq_laws_szRunS_l0 (s0 : List (List S)) (s1 : Int) (s5 : Int) (h : H) : Lp.laws_szRunS 0 [lv s0, iv .i64 s1, iv .i64 s5] h =
  vcase (bv (decide (s5 < (s0.length : Int))))
  (idxF 2 s0 s5 fun r203 =>
  (rowN 2 r203 0).bind fun c204 =>
  (c204[0]?).bind fun x205 =>
  gI .i64 x205 fun i206 =>
  (c204[1]?).bind fun x207 =>
  gF x207 fun z208 =>
  if c204.length = 2 then
  pcallS (call Ev) Fn.laws_szRun [.agg [.int .i64 i206, .fs z208], iv .i64 s1] fun v209 =>
  gV1 v209 fun x210 =>
  gI .i64 x210 fun i211 =>
  vcase (bv (decide (i211 < 0)))
  (some (.ret (iv .i64 (-1)) h))
  (Lp.laws_szRunS 0 [lv s0, iv .i64 i211, iv .i64 (IntKind.i64.wrap (s5 + 1))] (tidy h [lv s0, iv .i64 i211, iv .i64 (IntKind.i64.wrap (s5 + 1))] h))
  else none)
  (some (.done [iv .i64 s1] (tidy h [iv .i64 s1] h))) := by
  unfold Lp.laws_szRunS; rw [loop_eq]; kernel_rfl

theorem pu_laws_szRecord (a0_0 : Int) (a0_1 : Int) (a0_2 : Int) (a0_3 : List (List S)) (a1 : Int) : pureV (call Ev) Fn.laws_szRecord [.agg [.int .i64 a0_0, .int .i64 a0_1, .int .i64 a0_2, .fs a0_3], iv .i64 a1] =
  pcallS (call Ev) Fn.laws_szRunS [lv a0_3, iv .i64 a1] fun v101 =>
  gV1 v101 fun x102 =>
  gI .i64 x102 fun i103 =>
  vcase (bv (decide (i103 < 0)))
  (some (iv .i64 (-1)))
  (some (iv .i64 i103)) := by
  rw [pure_eq]; kernel_rfl

theorem pu_spec_l1In (a0 : Int) (a1 : Int) (a2 : Int) : pureV (call Ev) Fn.spec_l1In [iv .i64 a0, iv .i64 a1, iv .i64 a2] =
  vcase (bv (decide (a0 ≥ a1)))
  (some (bv (decide (a0 ≤ a2))))
  (some (bv false)) := by
  rw [pure_eq]; kernel_rfl

theorem pu_spec_l4Runs (a0 : Int) : pureV (call Ev) Fn.spec_l4Runs [iv .i64 a0] =
  pcallS (call Ev) Fn.spec_l1In [iv .i64 a0, iv .i64 2, iv .i64 4] fun v101 =>
  gV1 v101 fun x102 =>
  gB x102 fun q103 =>
  some (bv q103) := by
  rw [pure_eq]; kernel_rfl

theorem pu_spec_l3Fault (a0 : List (List S)) : pureV (call Ev) Fn.spec_l3Fault [lv a0] =
  vcase (bv (decide ((a0.length : Int) > 64)))
  (some (iv .i64 2))
  ((Lp.spec_l3Fault 0 [lv a0, iv .i64 0] (D 0)).bind fun o102 => lcase o102 (fun l103 h104 =>
  some (iv .i64 0)) (fun v105 h106 =>
  frzV h106 v105)) := by
  rw [pure_eq]; kernel_rfl

theorem eq_spec_l3Fault_l0 (s0 : List (List S)) (s3 : Int) (h : H) : Lp.spec_l3Fault 0 [lv s0, iv .i64 s3] h =
  vcase (bv (decide (s3 < (s0.length : Int))))
  (idxF 2 s0 s3 fun r203 =>
  (r203[1]?).bind fun x204 =>
  gF x204 fun z205 =>
  idxF 2 s0 s3 fun r206 =>
  (r206[0]?).bind fun x207 =>
  gI .i64 x207 fun i208 =>
  pcallS (call Ev) Fn.spec_l1In [iv .i64 i208, iv .i64 0, iv .i64 63] fun v209 =>
  gV1 v209 fun x210 =>
  gB x210 fun q211 =>
  vcase (bv (!q211))
  (some (.ret (iv .i64 3) h))
  (pcallS (call Ev) Fn.spec_l1In [iv .i64 (z205.length : Int), iv .i64 1, iv .i64 64] fun v214 =>
  gV1 v214 fun x215 =>
  gB x215 fun q216 =>
  vcase (bv (!q216))
  (some (.ret (iv .i64 3) h))
  (idxF 2 s0 s3 fun r222 =>
  (r222[0]?).bind fun x223 =>
  gI .i64 x223 fun i224 =>
  vcase (bv (decide ((IntKind.i64.wrap (i224 + (z205.length : Int))) > 64)))
  (some (.ret (iv .i64 3) h))
  (vcase (bv (decide (s3 > 0)))
  (idxF 2 s0 s3 fun r229 =>
  (r229[0]?).bind fun x230 =>
  gI .i64 x230 fun i231 =>
  idxF 2 s0 (IntKind.i64.wrap (s3 - 1)) fun r232 =>
  (r232[0]?).bind fun x233 =>
  gI .i64 x233 fun i234 =>
  idxF 2 s0 (IntKind.i64.wrap (s3 - 1)) fun r235 =>
  (r235[1]?).bind fun x236 =>
  gF x236 fun z237 =>
  vcase (bv (decide (i231 ≤ (IntKind.i64.wrap (i234 + (z237.length : Int))))))
  (some (.ret (iv .i64 1) h))
  (Lp.spec_l3Fault 0 [lv s0, iv .i64 (IntKind.i64.wrap (s3 + 1))] (tidy h [lv s0, iv .i64 (IntKind.i64.wrap (s3 + 1))] h)))
  (Lp.spec_l3Fault 0 [lv s0, iv .i64 (IntKind.i64.wrap (s3 + 1))] (tidy h [lv s0, iv .i64 (IntKind.i64.wrap (s3 + 1))] h))))))
  (some (.done [] (tidy h [] h))) := by
  unfold Lp.spec_l3Fault; rw [loop_eq]; kernel_rfl

noncomputable def Jn.spec_l4Fault_0 (q167 : Bool) (a0_2 : Int) (a0_0 : Int) (a0_3 : List (List S)) : Option (V) :=
  vcase (bv q167)
  (some (iv .i64 3))
  (pcallS (call Ev) Fn.spec_l1In [iv .i64 a0_2, iv .i64 0, iv .i64 11] fun v170 =>
  gV1 v170 fun x171 =>
  gB x171 fun q172 =>
  vcase (bv (!q172))
  (some (iv .i64 3))
  (pcallS (call Ev) Fn.spec_l4Runs [iv .i64 a0_0] fun v176 =>
  gV1 v176 fun x177 =>
  gB x177 fun q178 =>
  vcase (bv (!q178))
  (some (iv .i64 0))
  (pcallS (call Ev) Fn.spec_l3Fault [lv a0_3] fun v180 =>
  gV1 v180 fun x181 =>
  gI .i64 x181 fun i182 =>
  vcase (bv (i182 != 0))
  (some (iv .i64 i182))
  (vcase (bv ((a0_3.length : Int) == 0))
  (some (iv .i64 1))
  (vcase (bv (a0_0 == 4))
  (idxF 2 a0_3 0 fun r187 =>
  (r187[1]?).bind fun x188 =>
  gF x188 fun z189 =>
  vcase (bv ((z189.length : Int) != 64))
  (some (iv .i64 1))
  (some (iv .i64 0)))
  (some (iv .i64 0)))))))

theorem pu_spec_l4Fault (a0_0 : Int) (a0_1 : Int) (a0_2 : Int) (a0_3 : List (List S)) : pureV (call Ev) Fn.spec_l4Fault [fv [.int .i64 a0_0, .int .i64 a0_1, .int .i64 a0_2, .fs a0_3] 0] =
  pcallS (call Ev) Fn.spec_l1In [iv .i64 a0_0, iv .i64 1, iv .i64 6] fun v101 =>
  gV1 v101 fun x102 =>
  gB x102 fun q103 =>
  vcase (bv (!q103))
  (some (iv .i64 1))
  (pcallS (call Ev) Fn.spec_l4Runs [iv .i64 a0_0] fun v106 =>
  gV1 v106 fun x107 =>
  gB x107 fun q108 =>
  vcase (bv (!q108))
  (vcase (bv (a0_2 != 0))
  (some (iv .i64 1))
  (vcase (bv (decide ((a0_3.length : Int) > 0)))
  (some (iv .i64 1))
  (vcase (bv (a0_0 == 4))
  (vcase (bv (a0_1 != 0))
  (some (iv .i64 1))
  (vcase (bv (a0_0 != 4))
  (pcallS (call Ev) Fn.spec_l1In [iv .i64 a0_1, iv .i64 1, iv .i64 99] fun v133 =>
  gV1 v133 fun x134 =>
  gB x134 fun q135 =>
  Jn.spec_l4Fault_0 (!q135) a0_2 a0_0 a0_3)
  (Jn.spec_l4Fault_0 false a0_2 a0_0 a0_3)))
  (vcase (bv (a0_0 != 4))
  (pcallS (call Ev) Fn.spec_l1In [iv .i64 a0_1, iv .i64 1, iv .i64 99] fun v199 =>
  gV1 v199 fun x200 =>
  gB x200 fun q201 =>
  Jn.spec_l4Fault_0 (!q201) a0_2 a0_0 a0_3)
  (Jn.spec_l4Fault_0 false a0_2 a0_0 a0_3)))))
  (vcase (bv (a0_0 == 4))
  (vcase (bv (a0_1 != 0))
  (some (iv .i64 1))
  (vcase (bv (a0_0 != 4))
  (pcallS (call Ev) Fn.spec_l1In [iv .i64 a0_1, iv .i64 1, iv .i64 99] fun v240 =>
  gV1 v240 fun x241 =>
  gB x241 fun q242 =>
  Jn.spec_l4Fault_0 (!q242) a0_2 a0_0 a0_3)
  (Jn.spec_l4Fault_0 false a0_2 a0_0 a0_3)))
  (vcase (bv (a0_0 != 4))
  (pcallS (call Ev) Fn.spec_l1In [iv .i64 a0_1, iv .i64 1, iv .i64 99] fun v278 =>
  gV1 v278 fun x279 =>
  gB x279 fun q280 =>
  Jn.spec_l4Fault_0 (!q280) a0_2 a0_0 a0_3)
  (Jn.spec_l4Fault_0 false a0_2 a0_0 a0_3)))) := by
  rw [pure_eq]; kernel_rfl

theorem pu_spec_l1Digits (a0 : Int) : pureV (call Ev) Fn.spec_l1Digits [iv .i64 a0] =
  vcase (bv (decide (a0 < 0)))
  (pcallS (call Ev) Fn.spec_l1Digits [iv .i64 (IntKind.i64.wrap (-a0))] fun v102 =>
  gV1 v102 fun x103 =>
  gS x103 fun y104 =>
  (bin Ev .add 9 (.s (.str (⟨#[45]⟩))) (.s (.str y104))).bind fun b105 =>
  gV1 b105 fun x106 =>
  gS x106 fun y107 =>
  some (.s (.str y107)))
  (vcase (bv (decide (a0 < 10)))
  ((cvStr ((D 0).new 1 [.int .u8 (IntKind.u8.wrap (IntKind.i64.wrap (48 + a0)))]) (sv 0 0 1)).bind fun v109 =>
  gV1 v109 fun x110 =>
  gS x110 fun y111 =>
  some (.s (.str y111)))
  ((bin Ev .quo 2 (iv .i64 a0) (iv .i64 10)).bind fun b112 =>
  gV1 b112 fun x113 =>
  gI .i64 x113 fun i114 =>
  (bin Ev .rem 2 (iv .i64 a0) (iv .i64 10)).bind fun b115 =>
  gV1 b115 fun x116 =>
  gI .i64 x116 fun i117 =>
  hchk (D 0) ((D 0).new 1 [.int .u8 (IntKind.u8.wrap (IntKind.i64.wrap (48 + i117)))]) (
  (cvStr ((D 0).new 1 [.int .u8 (IntKind.u8.wrap (IntKind.i64.wrap (48 + i117)))]) (sv 0 0 1)).bind fun v118 =>
  gV1 v118 fun x119 =>
  gS x119 fun y120 =>
  hchk (D 0) ((D 0).new 1 [.int .u8 (IntKind.u8.wrap (IntKind.i64.wrap (48 + i117)))]) (
  pcallS (call Ev) Fn.spec_l1Digits [iv .i64 i114] fun v121 =>
  gV1 v121 fun x122 =>
  gS x122 fun y123 =>
  (bin Ev .add 9 (.s (.str y123)) (.s (.str y120))).bind fun b124 =>
  gV1 b124 fun x125 =>
  gS x125 fun y126 =>
  some (.s (.str y126)))))) := by
  rw [pure_eq]; kernel_rfl

theorem pu_spec_l4Text (a0_0 : Int) (a0_1 : Int) (a0_2 : Int) (a0_3 : List (List S)) : pureV (call Ev) Fn.spec_l4Text [fv [.int .i64 a0_0, .int .i64 a0_1, .int .i64 a0_2, .fs a0_3] 0] =
  hchk (D 0) ((D 0).new 1 [.str (⟨#[]⟩), .str (⟨#[98, 101, 103, 105, 110]⟩), .str (⟨#[100, 101, 108, 116, 97]⟩), .str (⟨#[99, 111, 109, 112]⟩), .str (⟨#[105, 109, 97, 103, 101]⟩), .str (⟨#[99, 111, 109, 109, 105, 116]⟩), .str (⟨#[97, 98, 111, 114, 116]⟩)]) (
  idxK 1 (sv 0 0 7) (iv .i64 a0_0) fun v101 =>
  hchk (D 0) ((D 0).new 1 [.str (⟨#[]⟩), .str (⟨#[98, 101, 103, 105, 110]⟩), .str (⟨#[100, 101, 108, 116, 97]⟩), .str (⟨#[99, 111, 109, 112]⟩), .str (⟨#[105, 109, 97, 103, 101]⟩), .str (⟨#[99, 111, 109, 109, 105, 116]⟩), .str (⟨#[97, 98, 111, 114, 116]⟩)]) (
  ldK (.one (.s)) ⟨1, 16, [.str ⟨#[]⟩], false, .str, false⟩ ((D 0).new 1 [.str (⟨#[]⟩), .str (⟨#[98, 101, 103, 105, 110]⟩), .str (⟨#[100, 101, 108, 116, 97]⟩), .str (⟨#[99, 111, 109, 112]⟩), .str (⟨#[105, 109, 97, 103, 101]⟩), .str (⟨#[99, 111, 109, 109, 105, 116]⟩), .str (⟨#[97, 98, 111, 114, 116]⟩)]) v101 fun v102 =>
  gV1 v102 fun x103 =>
  gS x103 fun y104 =>
  hchk (D 0) ((D 0).new 1 [.str (⟨#[]⟩), .str (⟨#[98, 101, 103, 105, 110]⟩), .str (⟨#[100, 101, 108, 116, 97]⟩), .str (⟨#[99, 111, 109, 112]⟩), .str (⟨#[105, 109, 97, 103, 101]⟩), .str (⟨#[99, 111, 109, 109, 105, 116]⟩), .str (⟨#[97, 98, 111, 114, 116]⟩)]) (
  (bin Ev .add 9 (.s (.str y104)) (.s (.str (⟨#[32]⟩)))).bind fun b105 =>
  gV1 b105 fun x106 =>
  gS x106 fun y107 =>
  hchk (D 0) ((D 0).new 1 [.str (⟨#[]⟩), .str (⟨#[98, 101, 103, 105, 110]⟩), .str (⟨#[100, 101, 108, 116, 97]⟩), .str (⟨#[99, 111, 109, 112]⟩), .str (⟨#[105, 109, 97, 103, 101]⟩), .str (⟨#[99, 111, 109, 109, 105, 116]⟩), .str (⟨#[97, 98, 111, 114, 116]⟩)]) (
  pcallS (call Ev) Fn.spec_l1Digits [iv .i64 a0_1] fun v108 =>
  gV1 v108 fun x109 =>
  gS x109 fun y110 =>
  (bin Ev .add 9 (.s (.str y107)) (.s (.str y110))).bind fun b111 =>
  gV1 b111 fun x112 =>
  gS x112 fun y113 =>
  pcallS (call Ev) Fn.spec_l4Runs [iv .i64 a0_0] fun v114 =>
  gV1 v114 fun x115 =>
  gB x115 fun q116 =>
  vcase (bv (!q116))
  (some (.s (.str y113)))
  ((Lp.spec_l4Text 0 [fv [.int .i64 a0_0, .int .i64 a0_1, .int .i64 a0_2, .fs a0_3] 0, .s (.str y113), iv .i64 0, iv .i64 0] ((D 0).new 1 [.str (⟨#[]⟩), .str (⟨#[98, 101, 103, 105, 110]⟩), .str (⟨#[100, 101, 108, 116, 97]⟩), .str (⟨#[99, 111, 109, 112]⟩), .str (⟨#[105, 109, 97, 103, 101]⟩), .str (⟨#[99, 111, 109, 109, 105, 116]⟩), .str (⟨#[97, 98, 111, 114, 116]⟩)])).bind fun o118 => lcase o118 (fun l119 h120 =>
  (l119[0]?).bind fun w123 =>
  (l119[1]?).bind fun w124 =>
  gV1 w124 fun x125 =>
  gS x125 fun y126 =>
  (l119[2]?).bind fun w127 =>
  gV1 w127 fun x128 =>
  gI .i64 x128 fun i129 =>
  (bin Ev .add 9 (.s (.str y126)) (.s (.str (⟨#[32]⟩)))).bind fun b130 =>
  gV1 b130 fun x131 =>
  gS x131 fun y132 =>
  (notNil w123).bind fun v133 =>
  (padd 2 v133).bind fun v134 =>
  ldK (.one (.i .i64)) ⟨1, 8, [.int .i64 0], false, .int .i64, false⟩ h120 v134 fun v135 =>
  gV1 v135 fun x136 =>
  gI .i64 x136 fun i137 =>
  pcallS (call Ev) Fn.spec_l1Digits [iv .i64 i137] fun v138 =>
  gV1 v138 fun x139 =>
  gS x139 fun y140 =>
  (bin Ev .add 9 (.s (.str y132)) (.s (.str y140))).bind fun b141 =>
  gV1 b141 fun x142 =>
  gS x142 fun y143 =>
  (bin Ev .add 9 (.s (.str y143)) (.s (.str (⟨#[32]⟩)))).bind fun b144 =>
  gV1 b144 fun x145 =>
  gS x145 fun y146 =>
  pcallS (call Ev) Fn.spec_l1Digits [iv .i64 i129] fun v147 =>
  gV1 v147 fun x148 =>
  gS x148 fun y149 =>
  (bin Ev .add 9 (.s (.str y146)) (.s (.str y149))).bind fun b150 =>
  gV1 b150 fun x151 =>
  gS x151 fun y152 =>
  some (.s (.str y152))) (fun v121 h122 =>
  frzV h122 v121)))))) := by
  rw [pure_eq]; kernel_rfl

theorem eq_spec_l4Text_l0 (s0_r : List S) (s0_o : Nat) (s3 : ByteArray) (s4 : Int) (s5 : Int) (h : H) : Lp.spec_l4Text 0 [fv s0_r s0_o, .s (.str s3), iv .i64 s4, iv .i64 s5] h =
  (s0_r[s0_o + 3]?).bind fun x201 =>
  gF x201 fun z202 =>
  vcase (bv (decide (s5 < (z202.length : Int))))
  ((s0_r[s0_o + 3]?).bind fun x205 =>
  gF x205 fun z206 =>
  idxF 2 z206 s5 fun r207 =>
  (r207[1]?).bind fun x208 =>
  gF x208 fun z209 =>
  Lp.spec_l4Text 0 [fv s0_r s0_o, .s (.str s3), iv .i64 (IntKind.i64.wrap (s4 + (z209.length : Int))), iv .i64 (IntKind.i64.wrap (s5 + 1))] (tidy h [fv s0_r s0_o, .s (.str s3), iv .i64 (IntKind.i64.wrap (s4 + (z209.length : Int))), iv .i64 (IntKind.i64.wrap (s5 + 1))] h))
  (some (.done [fv s0_r s0_o, .s (.str s3), iv .i64 s4] (tidy h [fv s0_r s0_o, .s (.str s3), iv .i64 s4] h))) := by
  unfold Lp.spec_l4Text; rw [loop_eq]; kernel_rfl

theorem pu_spec_RecordText (a0_0 : Int) (a0_1 : Int) (a0_2 : Int) (a0_3 : List (List S)) : pureV (call Ev) Fn.spec_RecordText [.agg [.int .i64 a0_0, .int .i64 a0_1, .int .i64 a0_2, .fs a0_3]] =
  pcallS (call Ev) Fn.spec_l4Fault [fv [.int .i64 a0_0, .int .i64 a0_1, .int .i64 a0_2, .fs a0_3] 0] fun v101 =>
  gV1 v101 fun x102 =>
  gI .i64 x102 fun i103 =>
  vcase (bv (i103 != 0))
  (some (.agg [.int .i64 i103, .str (⟨#[]⟩)]))
  (pcallS (call Ev) Fn.spec_l4Text [fv [.int .i64 a0_0, .int .i64 a0_1, .int .i64 a0_2, .fs a0_3] 0] fun v105 =>
  gV1 v105 fun x106 =>
  gS x106 fun y107 =>
  some (.agg [.int .i64 0, .str y107])) := by
  rw [pure_eq]; kernel_rfl

theorem pu_laws_toByteS (a0 : List (List S)) : pureV (call Ev) Fn.laws_toByteS [lv a0] =
  (mkSl 1 [.int .u8 0] (D 0) (iv .i64 (a0.length : Int)) (iv .i64 (a0.length : Int))).bind fun p101 =>
  (Lp.laws_toByteS 0 [lv a0, p101.1, iv .i64 0] p101.2).bind fun o102 => lcase o102 (fun l103 h104 =>
  (l103[0]?).bind fun w107 =>
  frzV h104 w107) (fun v105 h106 =>
  frzV h106 v105) := by
  rw [pure_eq]; kernel_rfl

theorem eq_laws_toByteS_l0 (s0 : List (List S)) (s3 : V) (s4 : Int) (h : H) : Lp.laws_toByteS 0 [lv s0, s3, iv .i64 s4] h =
  vcase (bv (decide (s4 < (s0.length : Int))))
  (idxF 1 s0 s4 fun r203 =>
  (r203[0]?).bind fun x204 =>
  gI .u8 x204 fun i205 =>
  idxK 1 s3 (iv .i64 s4) fun v206 =>
  stK 1 h v206 (iv .u8 i205) fun h207 =>
  Lp.laws_toByteS 0 [lv s0, s3, iv .i64 (IntKind.i64.wrap (s4 + 1))] (tidy h [lv s0, s3, iv .i64 (IntKind.i64.wrap (s4 + 1))] h207))
  (some (.done [s3] (tidy h [s3] h))) := by
  unfold Lp.laws_toByteS; rw [loop_eq]; kernel_rfl

theorem pu_laws_toRun (a0_0 : Int) (a0_1 : List (List S)) : pureV (call Ev) Fn.laws_toRun [.agg [.int .i64 a0_0, .fs a0_1]] =
  (pureV (call Ev) Fn.laws_toByteS [lv a0_1]).bind fun v101 =>
  gV1 v101 fun x102 =>
  gF x102 fun z103 =>
  some (.agg [.int .i64 a0_0, .fs z103]) := by
  rw [pure_eq]; kernel_rfl

theorem pu_laws_toRunS (a0 : List (List S)) : pureV (call Ev) Fn.laws_toRunS [lv a0] =
  (mkSl 2 [.int .i64 0, .sl none 0] (D 0) (iv .i64 (a0.length : Int)) (iv .i64 (a0.length : Int))).bind fun p101 =>
  (Lp.laws_toRunS 0 [lv a0, p101.1, iv .i64 0] p101.2).bind fun o102 => lcase o102 (fun l103 h104 =>
  (l103[0]?).bind fun w107 =>
  frzV h104 w107) (fun v105 h106 =>
  frzV h106 v105) := by
  rw [pure_eq]; kernel_rfl

theorem eq_laws_toRunS_l0 (s0 : List (List S)) (s3 : V) (s4 : Int) (h : H) : Lp.laws_toRunS 0 [lv s0, s3, iv .i64 s4] h =
  vcase (bv (decide (s4 < (s0.length : Int))))
  (idxF 2 s0 s4 fun r203 =>
  (rowN 2 r203 0).bind fun c204 =>
  (c204[0]?).bind fun x205 =>
  gI .i64 x205 fun i206 =>
  (c204[1]?).bind fun x207 =>
  gF x207 fun z208 =>
  if c204.length = 2 then
  (pureV (call Ev) Fn.laws_toRun [.agg [.int .i64 i206, .fs z208]]).bind fun v209 =>
  gVA v209 fun c210 =>
  (c210[0]?).bind fun x211 =>
  gI .i64 x211 fun i212 =>
  (c210[1]?).bind fun x213 =>
  gF x213 fun z214 =>
  if c210.length = 2 then
  idxK 2 s3 (iv .i64 s4) fun v215 =>
  stK 2 h v215 (.agg [.int .i64 i212, .fs z214]) fun h216 =>
  Lp.laws_toRunS 0 [lv s0, s3, iv .i64 (IntKind.i64.wrap (s4 + 1))] (tidy h [lv s0, s3, iv .i64 (IntKind.i64.wrap (s4 + 1))] h216)
  else none
  else none)
  (some (.done [s3] (tidy h [s3] h))) := by
  unfold Lp.laws_toRunS; rw [loop_eq]; kernel_rfl

theorem pu_laws_toRecord (a0_0 : Int) (a0_1 : Int) (a0_2 : Int) (a0_3 : List (List S)) : pureV (call Ev) Fn.laws_toRecord [.agg [.int .i64 a0_0, .int .i64 a0_1, .int .i64 a0_2, .fs a0_3]] =
  (pureV (call Ev) Fn.laws_toRunS [lv a0_3]).bind fun v101 =>
  gV1 v101 fun x102 =>
  gF x102 fun z103 =>
  some (.agg [.int .i64 a0_0, .int .i64 a0_1, .int .i64 a0_2, .fs z103]) := by
  rw [pure_eq]; kernel_rfl

theorem pu_impl_in (a0 : Int) (a1 : Int) (a2 : Int) : pureV (call Ev) Fn.impl_in [iv .i64 a0, iv .i64 a1, iv .i64 a2] =
  vcase (bv (decide (a0 ≥ a1)))
  (some (bv (decide (a0 ≤ a2))))
  (some (bv false)) := by
  rw [pure_eq]; kernel_rfl

theorem pu_impl_turns (a0 : Int) : pureV (call Ev) Fn.impl_turns [iv .i64 a0] =
  vcase (bv (a0 == 2))
  (some (bv true))
  (vcase (bv (a0 == 3))
  (some (bv true))
  (some (bv (a0 == 4)))) := by
  rw [pure_eq]; kernel_rfl

theorem pu_impl_isTx (a0 : Int) : pureV (call Ev) Fn.impl_isTx [iv .i64 a0] =
  pcallS (call Ev) Fn.impl_in [iv .i64 a0, iv .i64 1, iv .i64 99] fun v101 =>
  gV1 v101 fun x102 =>
  gB x102 fun q103 =>
  some (bv q103) := by
  rw [pure_eq]; kernel_rfl

theorem pu_impl_RunsFault (a0 : List (List S)) : pureV (call Ev) Fn.impl_RunsFault [lv a0] =
  vcase (bv (decide ((a0.length : Int) > 64)))
  (some (iv .i64 2))
  ((Lp.impl_RunsFault 0 [iv .i64 0, lv a0, iv .i64 (a0.length : Int), iv .i64 0] (D 0)).bind fun o102 => lcase o102 (fun l103 h104 =>
  some (iv .i64 0)) (fun v105 h106 =>
  frzV h106 v105)) := by
  rw [pure_eq]; kernel_rfl

theorem eq_impl_RunsFault_l0 (s3 : Int) (s10 : List (List S)) (s11 : Int) (s12 : Int) (h : H) : Lp.impl_RunsFault 0 [iv .i64 s3, lv s10, iv .i64 s11, iv .i64 s12] h =
  vcase (bv (decide (s12 < s11)))
  (idxF 2 s10 s12 fun r203 =>
  (rowN 2 r203 0).bind fun c204 =>
  (c204[0]?).bind fun x205 =>
  gI .i64 x205 fun i206 =>
  (c204[1]?).bind fun x207 =>
  gF x207 fun z208 =>
  if c204.length = 2 then
  stK 2 (h.new 0 [.int .i64 0, .sl none 0]) (pv h.n 0) (.agg [.int .i64 i206, .fs z208]) fun h209 =>
  (load1 h209 (pv h.n 1)).bind fun x210 =>
  (lenV (.sl 5) (.s x210)).bind fun v211 =>
  gV1 v211 fun x212 =>
  gI .i64 x212 fun i213 =>
  (load1 h209 (pv h.n 0)).bind fun x214 =>
  gI .i64 x214 fun i215 =>
  pcallS (call Ev) Fn.impl_in [iv .i64 i215, iv .i64 0, iv .i64 63] fun v216 =>
  gV1 v216 fun x217 =>
  gB x217 fun q218 =>
  vcase (bv (!q218))
  (some (.ret (iv .i64 3) h209))
  (pcallS (call Ev) Fn.impl_in [iv .i64 i213, iv .i64 1, iv .i64 64] fun v221 =>
  gV1 v221 fun x222 =>
  gB x222 fun q223 =>
  vcase (bv (!q223))
  (some (.ret (iv .i64 3) h209))
  ((load1 h209 (pv h.n 0)).bind fun x229 =>
  gI .i64 x229 fun i230 =>
  vcase (bv (decide ((IntKind.i64.wrap (i230 + i213)) > 64)))
  (some (.ret (iv .i64 3) h209))
  ((load1 h209 (pv h.n 0)).bind fun x234 =>
  gI .i64 x234 fun i235 =>
  vcase (bv (decide (i235 < s3)))
  (some (.ret (iv .i64 1) h209))
  ((load1 h209 (pv h.n 0)).bind fun x237 =>
  gI .i64 x237 fun i238 =>
  Lp.impl_RunsFault 0 [iv .i64 (IntKind.i64.wrap ((IntKind.i64.wrap (i238 + i213)) + 1)), lv s10, iv .i64 s11, iv .i64 (IntKind.i64.wrap (s12 + 1))] (tidy h [iv .i64 (IntKind.i64.wrap ((IntKind.i64.wrap (i238 + i213)) + 1)), lv s10, iv .i64 s11, iv .i64 (IntKind.i64.wrap (s12 + 1))] h209)))))
  else none)
  (some (.done [] (tidy h [] h))) := by
  unfold Lp.impl_RunsFault; rw [loop_eq]; kernel_rfl

noncomputable def Jn.impl_RecordFault_0 (q295 : Bool) (a0_3 : List (List S)) (a0_0 : Int) : Option (V) :=
  vcase (bv q295)
  (some (iv .i64 3))
  (pcallS (call Ev) Fn.impl_RunsFault [lv a0_3] fun v297 =>
  gV1 v297 fun x298 =>
  gI .i64 x298 fun i299 =>
  vcase (bv (i299 != 0))
  (some (iv .i64 i299))
  (pcallS (call Ev) Fn.impl_turns [iv .i64 a0_0] fun v301 =>
  gV1 v301 fun x302 =>
  gB x302 fun q303 =>
  vcase (bv q303)
  (vcase (bv ((a0_3.length : Int) == 0))
  (some (iv .i64 1))
  (vcase (bv (a0_0 == 4))
  (vcase (bv ((a0_3.length : Int) != 1))
  (some (iv .i64 1))
  (idxF 2 a0_3 0 fun r312 =>
  (r312[1]?).bind fun x313 =>
  gF x313 fun z314 =>
  vcase (bv ((z314.length : Int) != 64))
  (some (iv .i64 1))
  (some (iv .i64 0))))
  (some (iv .i64 0))))
  (vcase (bv (a0_0 == 4))
  (vcase (bv ((a0_3.length : Int) != 1))
  (some (iv .i64 1))
  (idxF 2 a0_3 0 fun r329 =>
  (r329[1]?).bind fun x330 =>
  gF x330 fun z331 =>
  vcase (bv ((z331.length : Int) != 64))
  (some (iv .i64 1))
  (some (iv .i64 0))))
  (some (iv .i64 0)))))

noncomputable def Jn.impl_RecordFault_1 (q288 : Bool) (a0_2 : Int) (a0_3 : List (List S)) (a0_0 : Int) : Option (V) :=
  vcase (bv q288)
  (Jn.impl_RecordFault_0 true a0_3 a0_0)
  (pcallS (call Ev) Fn.impl_in [iv .i64 a0_2, iv .i64 0, iv .i64 11] fun v291 =>
  gV1 v291 fun x292 =>
  gB x292 fun q293 =>
  Jn.impl_RecordFault_0 (!q293) a0_3 a0_0)

theorem pu_impl_RecordFault (a0_0 : Int) (a0_1 : Int) (a0_2 : Int) (a0_3 : List (List S)) : pureV (call Ev) Fn.impl_RecordFault [.agg [.int .i64 a0_0, .int .i64 a0_1, .int .i64 a0_2, .fs a0_3]] =
  pcallS (call Ev) Fn.impl_in [iv .i64 a0_0, iv .i64 1, iv .i64 6] fun v101 =>
  gV1 v101 fun x102 =>
  gB x102 fun q103 =>
  vcase (bv (!q103))
  (some (iv .i64 1))
  (pcallS (call Ev) Fn.impl_turns [iv .i64 a0_0] fun v106 =>
  gV1 v106 fun x107 =>
  gB x107 fun q108 =>
  vcase (bv (!q108))
  (vcase (bv (a0_2 != 0))
  (some (iv .i64 1))
  (vcase (bv (decide ((a0_3.length : Int) > 0)))
  (some (iv .i64 1))
  (vcase (bv (a0_0 == 4))
  (vcase (bv (a0_1 != 0))
  (some (iv .i64 1))
  (vcase (bv (a0_0 != 4))
  (pcallS (call Ev) Fn.impl_isTx [iv .i64 a0_1] fun v133 =>
  gV1 v133 fun x134 =>
  gB x134 fun q135 =>
  Jn.impl_RecordFault_1 (!q135) a0_2 a0_3 a0_0)
  (Jn.impl_RecordFault_1 false a0_2 a0_3 a0_0)))
  (vcase (bv (a0_0 != 4))
  (pcallS (call Ev) Fn.impl_isTx [iv .i64 a0_1] fun v344 =>
  gV1 v344 fun x345 =>
  gB x345 fun q346 =>
  Jn.impl_RecordFault_1 (!q346) a0_2 a0_3 a0_0)
  (Jn.impl_RecordFault_1 false a0_2 a0_3 a0_0)))))
  (vcase (bv (a0_0 == 4))
  (vcase (bv (a0_1 != 0))
  (some (iv .i64 1))
  (vcase (bv (a0_0 != 4))
  (pcallS (call Ev) Fn.impl_isTx [iv .i64 a0_1] fun v409 =>
  gV1 v409 fun x410 =>
  gB x410 fun q411 =>
  Jn.impl_RecordFault_1 (!q411) a0_2 a0_3 a0_0)
  (Jn.impl_RecordFault_1 false a0_2 a0_3 a0_0)))
  (vcase (bv (a0_0 != 4))
  (pcallS (call Ev) Fn.impl_isTx [iv .i64 a0_1] fun v471 =>
  gV1 v471 fun x472 =>
  gB x472 fun q473 =>
  Jn.impl_RecordFault_1 (!q473) a0_2 a0_3 a0_0)
  (Jn.impl_RecordFault_1 false a0_2 a0_3 a0_0)))) := by
  rw [pure_eq]; kernel_rfl

theorem pu_strconv_small (a0 : Int) : pureV (call Ev) Fn.strconv_small [iv .i64 a0] =
  vcase (bv (decide (a0 < 10)))
  ((slStr (.s (.str (⟨#[48, 49, 50, 51, 52, 53, 54, 55, 56, 57, 97, 98, 99, 100, 101, 102, 103, 104, 105, 106, 107, 108, 109, 110, 111, 112, 113, 114, 115, 116, 117, 118, 119, 120, 121, 122]⟩))) (some (iv .i64 a0)) (some (iv .i64 (IntKind.i64.wrap (a0 + 1))))).bind fun v102 =>
  gV1 v102 fun x103 =>
  gS x103 fun y104 =>
  some (.s (.str y104)))
  ((slStr (.s (.str (⟨#[48, 48, 48, 49, 48, 50, 48, 51, 48, 52, 48, 53, 48, 54, 48, 55, 48, 56, 48, 57, 49, 48, 49, 49, 49, 50, 49, 51, 49, 52, 49, 53, 49, 54, 49, 55, 49, 56, 49, 57, 50, 48, 50, 49, 50, 50, 50, 51, 50, 52, 50, 53, 50, 54, 50, 55, 50, 56, 50, 57, 51, 48, 51, 49, 51, 50, 51, 51, 51, 52, 51, 53, 51, 54, 51, 55, 51, 56, 51, 57, 52, 48, 52, 49, 52, 50, 52, 51, 52, 52, 52, 53, 52, 54, 52, 55, 52, 56, 52, 57, 53, 48, 53, 49, 53, 50, 53, 51, 53, 52, 53, 53, 53, 54, 53, 55, 53, 56, 53, 57, 54, 48, 54, 49, 54, 50, 54, 51, 54, 52, 54, 53, 54, 54, 54, 55, 54, 56, 54, 57, 55, 48, 55, 49, 55, 50, 55, 51, 55, 52, 55, 53, 55, 54, 55, 55, 55, 56, 55, 57, 56, 48, 56, 49, 56, 50, 56, 51, 56, 52, 56, 53, 56, 54, 56, 55, 56, 56, 56, 57, 57, 48, 57, 49, 57, 50, 57, 51, 57, 52, 57, 53, 57, 54, 57, 55, 57, 56, 57, 57]⟩))) (some (iv .i64 (IntKind.i64.wrap (a0 * 2)))) (some (iv .i64 (IntKind.i64.wrap ((IntKind.i64.wrap (a0 * 2)) + 2))))).bind fun v105 =>
  gV1 v105 fun x106 =>
  gS x106 fun y107 =>
  some (.s (.str y107))) := by
  rw [pure_eq]; kernel_rfl

noncomputable def Jn.strconv_formatBase10_0 (i172 : Int) (i173 : Int) (h174 : H) (w109 : V) : Option (V × H) :=
  vcase (bv (decide (i172 ≥ 2)))
  ((bin Ev .rem 110 (iv .u32 i173) (iv .u32 100)).bind fun b176 =>
  gV1 b176 fun x177 =>
  gI .u32 x177 fun i178 =>
  (bin Ev .quo 110 (iv .u32 i173) (iv .u32 100)).bind fun b179 =>
  gV1 b179 fun x180 =>
  gI .u32 x180 fun i181 =>
  (idxStr (.s (.str (⟨#[48, 48, 48, 49, 48, 50, 48, 51, 48, 52, 48, 53, 48, 54, 48, 55, 48, 56, 48, 57, 49, 48, 49, 49, 49, 50, 49, 51, 49, 52, 49, 53, 49, 54, 49, 55, 49, 56, 49, 57, 50, 48, 50, 49, 50, 50, 50, 51, 50, 52, 50, 53, 50, 54, 50, 55, 50, 56, 50, 57, 51, 48, 51, 49, 51, 50, 51, 51, 51, 52, 51, 53, 51, 54, 51, 55, 51, 56, 51, 57, 52, 48, 52, 49, 52, 50, 52, 51, 52, 52, 52, 53, 52, 54, 52, 55, 52, 56, 52, 57, 53, 48, 53, 49, 53, 50, 53, 51, 53, 52, 53, 53, 53, 54, 53, 55, 53, 56, 53, 57, 54, 48, 54, 49, 54, 50, 54, 51, 54, 52, 54, 53, 54, 54, 54, 55, 54, 56, 54, 57, 55, 48, 55, 49, 55, 50, 55, 51, 55, 52, 55, 53, 55, 54, 55, 55, 55, 56, 55, 57, 56, 48, 56, 49, 56, 50, 56, 51, 56, 52, 56, 53, 56, 54, 56, 55, 56, 56, 56, 57, 57, 48, 57, 49, 57, 50, 57, 51, 57, 52, 57, 53, 57, 54, 57, 55, 57, 56, 57, 57]⟩))) (iv .u32 (IntKind.u32.wrap ((IntKind.u32.wrap (i178 * 2)) + 1)))).bind fun v182 =>
  gV1 v182 fun x183 =>
  gI .u8 x183 fun i184 =>
  idxK 1 w109 (iv .i64 (IntKind.i64.wrap (i172 - 1))) fun v185 =>
  (idxStr (.s (.str (⟨#[48, 48, 48, 49, 48, 50, 48, 51, 48, 52, 48, 53, 48, 54, 48, 55, 48, 56, 48, 57, 49, 48, 49, 49, 49, 50, 49, 51, 49, 52, 49, 53, 49, 54, 49, 55, 49, 56, 49, 57, 50, 48, 50, 49, 50, 50, 50, 51, 50, 52, 50, 53, 50, 54, 50, 55, 50, 56, 50, 57, 51, 48, 51, 49, 51, 50, 51, 51, 51, 52, 51, 53, 51, 54, 51, 55, 51, 56, 51, 57, 52, 48, 52, 49, 52, 50, 52, 51, 52, 52, 52, 53, 52, 54, 52, 55, 52, 56, 52, 57, 53, 48, 53, 49, 53, 50, 53, 51, 53, 52, 53, 53, 53, 54, 53, 55, 53, 56, 53, 57, 54, 48, 54, 49, 54, 50, 54, 51, 54, 52, 54, 53, 54, 54, 54, 55, 54, 56, 54, 57, 55, 48, 55, 49, 55, 50, 55, 51, 55, 52, 55, 53, 55, 54, 55, 55, 55, 56, 55, 57, 56, 48, 56, 49, 56, 50, 56, 51, 56, 52, 56, 53, 56, 54, 56, 55, 56, 56, 56, 57, 57, 48, 57, 49, 57, 50, 57, 51, 57, 52, 57, 53, 57, 54, 57, 55, 57, 56, 57, 57]⟩))) (iv .u32 (IntKind.u32.wrap (i178 * 2)))).bind fun v186 =>
  gV1 v186 fun x187 =>
  gI .u8 x187 fun i188 =>
  stK 1 h174 v185 (iv .u8 i184) fun h189 =>
  idxK 1 w109 (iv .i64 (IntKind.i64.wrap (i172 - 2))) fun v190 =>
  stK 1 h189 v190 (iv .u8 i188) fun h191 =>
  vcase (bv (decide ((IntKind.i64.wrap (i172 - 2)) > 0)))
  (idxK 1 w109 (iv .i64 0) fun v193 =>
  stK 1 h191 v193 (iv .u8 (IntKind.u8.wrap (IntKind.u32.wrap (48 + i181)))) fun h194 =>
  some (.tup [], h194))
  (some (.tup [], h191)))
  (vcase (bv (decide (i172 > 0)))
  (idxK 1 w109 (iv .i64 0) fun v196 =>
  stK 1 h174 v196 (iv .u8 (IntKind.u8.wrap (IntKind.u32.wrap (48 + i173)))) fun h197 =>
  some (.tup [], h197))
  (some (.tup [], h174)))

theorem eq_strconv_formatBase10 (a0 : V) (a1 : Int) (h : H) : call Ev Fn.strconv_formatBase10 [a0, iv .u64 a1] h =
  (lenV (.sl 5) a0).bind fun v101 =>
  gV1 v101 fun x102 =>
  gI .i64 x102 fun i103 =>
  (Lp.strconv_formatBase10 0 [a0, iv .u64 a1, iv .i64 i103] h).bind fun o104 => lcase o104 (fun l105 h106 =>
  (l105[0]?).bind fun w109 =>
  (l105[1]?).bind fun w110 =>
  gV1 w110 fun x111 =>
  gI .u64 x111 fun i112 =>
  (l105[2]?).bind fun w113 =>
  gV1 w113 fun x114 =>
  gI .i64 x114 fun i115 =>
  vcase (bv (decide (i115 ≥ 4)))
  ((bin Ev .rem 110 (iv .u32 (IntKind.u32.wrap i112)) (iv .u32 10000)).bind fun b117 =>
  gV1 b117 fun x118 =>
  gI .u32 x118 fun i119 =>
  (bin Ev .quo 110 (iv .u32 (IntKind.u32.wrap i112)) (iv .u32 10000)).bind fun b120 =>
  gV1 b120 fun x121 =>
  gI .u32 x121 fun i122 =>
  (bin Ev .quo 110 (iv .u32 i119) (iv .u32 100)).bind fun b123 =>
  gV1 b123 fun x124 =>
  gI .u32 x124 fun i125 =>
  (bin Ev .rem 110 (iv .u32 i119) (iv .u32 100)).bind fun b126 =>
  gV1 b126 fun x127 =>
  gI .u32 x127 fun i128 =>
  (idxStr (.s (.str (⟨#[48, 48, 48, 49, 48, 50, 48, 51, 48, 52, 48, 53, 48, 54, 48, 55, 48, 56, 48, 57, 49, 48, 49, 49, 49, 50, 49, 51, 49, 52, 49, 53, 49, 54, 49, 55, 49, 56, 49, 57, 50, 48, 50, 49, 50, 50, 50, 51, 50, 52, 50, 53, 50, 54, 50, 55, 50, 56, 50, 57, 51, 48, 51, 49, 51, 50, 51, 51, 51, 52, 51, 53, 51, 54, 51, 55, 51, 56, 51, 57, 52, 48, 52, 49, 52, 50, 52, 51, 52, 52, 52, 53, 52, 54, 52, 55, 52, 56, 52, 57, 53, 48, 53, 49, 53, 50, 53, 51, 53, 52, 53, 53, 53, 54, 53, 55, 53, 56, 53, 57, 54, 48, 54, 49, 54, 50, 54, 51, 54, 52, 54, 53, 54, 54, 54, 55, 54, 56, 54, 57, 55, 48, 55, 49, 55, 50, 55, 51, 55, 52, 55, 53, 55, 54, 55, 55, 55, 56, 55, 57, 56, 48, 56, 49, 56, 50, 56, 51, 56, 52, 56, 53, 56, 54, 56, 55, 56, 56, 56, 57, 57, 48, 57, 49, 57, 50, 57, 51, 57, 52, 57, 53, 57, 54, 57, 55, 57, 56, 57, 57]⟩))) (iv .u32 (IntKind.u32.wrap ((IntKind.u32.wrap (i128 * 2)) + 1)))).bind fun v129 =>
  gV1 v129 fun x130 =>
  gI .u8 x130 fun i131 =>
  idxK 1 w109 (iv .i64 (IntKind.i64.wrap (i115 - 1))) fun v132 =>
  (idxStr (.s (.str (⟨#[48, 48, 48, 49, 48, 50, 48, 51, 48, 52, 48, 53, 48, 54, 48, 55, 48, 56, 48, 57, 49, 48, 49, 49, 49, 50, 49, 51, 49, 52, 49, 53, 49, 54, 49, 55, 49, 56, 49, 57, 50, 48, 50, 49, 50, 50, 50, 51, 50, 52, 50, 53, 50, 54, 50, 55, 50, 56, 50, 57, 51, 48, 51, 49, 51, 50, 51, 51, 51, 52, 51, 53, 51, 54, 51, 55, 51, 56, 51, 57, 52, 48, 52, 49, 52, 50, 52, 51, 52, 52, 52, 53, 52, 54, 52, 55, 52, 56, 52, 57, 53, 48, 53, 49, 53, 50, 53, 51, 53, 52, 53, 53, 53, 54, 53, 55, 53, 56, 53, 57, 54, 48, 54, 49, 54, 50, 54, 51, 54, 52, 54, 53, 54, 54, 54, 55, 54, 56, 54, 57, 55, 48, 55, 49, 55, 50, 55, 51, 55, 52, 55, 53, 55, 54, 55, 55, 55, 56, 55, 57, 56, 48, 56, 49, 56, 50, 56, 51, 56, 52, 56, 53, 56, 54, 56, 55, 56, 56, 56, 57, 57, 48, 57, 49, 57, 50, 57, 51, 57, 52, 57, 53, 57, 54, 57, 55, 57, 56, 57, 57]⟩))) (iv .u32 (IntKind.u32.wrap (i128 * 2)))).bind fun v133 =>
  gV1 v133 fun x134 =>
  gI .u8 x134 fun i135 =>
  stK 1 h106 v132 (iv .u8 i131) fun h136 =>
  idxK 1 w109 (iv .i64 (IntKind.i64.wrap (i115 - 2))) fun v137 =>
  stK 1 h136 v137 (iv .u8 i135) fun h138 =>
  (idxStr (.s (.str (⟨#[48, 48, 48, 49, 48, 50, 48, 51, 48, 52, 48, 53, 48, 54, 48, 55, 48, 56, 48, 57, 49, 48, 49, 49, 49, 50, 49, 51, 49, 52, 49, 53, 49, 54, 49, 55, 49, 56, 49, 57, 50, 48, 50, 49, 50, 50, 50, 51, 50, 52, 50, 53, 50, 54, 50, 55, 50, 56, 50, 57, 51, 48, 51, 49, 51, 50, 51, 51, 51, 52, 51, 53, 51, 54, 51, 55, 51, 56, 51, 57, 52, 48, 52, 49, 52, 50, 52, 51, 52, 52, 52, 53, 52, 54, 52, 55, 52, 56, 52, 57, 53, 48, 53, 49, 53, 50, 53, 51, 53, 52, 53, 53, 53, 54, 53, 55, 53, 56, 53, 57, 54, 48, 54, 49, 54, 50, 54, 51, 54, 52, 54, 53, 54, 54, 54, 55, 54, 56, 54, 57, 55, 48, 55, 49, 55, 50, 55, 51, 55, 52, 55, 53, 55, 54, 55, 55, 55, 56, 55, 57, 56, 48, 56, 49, 56, 50, 56, 51, 56, 52, 56, 53, 56, 54, 56, 55, 56, 56, 56, 57, 57, 48, 57, 49, 57, 50, 57, 51, 57, 52, 57, 53, 57, 54, 57, 55, 57, 56, 57, 57]⟩))) (iv .u32 (IntKind.u32.wrap ((IntKind.u32.wrap (i125 * 2)) + 1)))).bind fun v139 =>
  gV1 v139 fun x140 =>
  gI .u8 x140 fun i141 =>
  idxK 1 w109 (iv .i64 (IntKind.i64.wrap (i115 - 3))) fun v142 =>
  (idxStr (.s (.str (⟨#[48, 48, 48, 49, 48, 50, 48, 51, 48, 52, 48, 53, 48, 54, 48, 55, 48, 56, 48, 57, 49, 48, 49, 49, 49, 50, 49, 51, 49, 52, 49, 53, 49, 54, 49, 55, 49, 56, 49, 57, 50, 48, 50, 49, 50, 50, 50, 51, 50, 52, 50, 53, 50, 54, 50, 55, 50, 56, 50, 57, 51, 48, 51, 49, 51, 50, 51, 51, 51, 52, 51, 53, 51, 54, 51, 55, 51, 56, 51, 57, 52, 48, 52, 49, 52, 50, 52, 51, 52, 52, 52, 53, 52, 54, 52, 55, 52, 56, 52, 57, 53, 48, 53, 49, 53, 50, 53, 51, 53, 52, 53, 53, 53, 54, 53, 55, 53, 56, 53, 57, 54, 48, 54, 49, 54, 50, 54, 51, 54, 52, 54, 53, 54, 54, 54, 55, 54, 56, 54, 57, 55, 48, 55, 49, 55, 50, 55, 51, 55, 52, 55, 53, 55, 54, 55, 55, 55, 56, 55, 57, 56, 48, 56, 49, 56, 50, 56, 51, 56, 52, 56, 53, 56, 54, 56, 55, 56, 56, 56, 57, 57, 48, 57, 49, 57, 50, 57, 51, 57, 52, 57, 53, 57, 54, 57, 55, 57, 56, 57, 57]⟩))) (iv .u32 (IntKind.u32.wrap (i125 * 2)))).bind fun v143 =>
  gV1 v143 fun x144 =>
  gI .u8 x144 fun i145 =>
  stK 1 h138 v142 (iv .u8 i141) fun h146 =>
  idxK 1 w109 (iv .i64 (IntKind.i64.wrap (i115 - 4))) fun v147 =>
  stK 1 h146 v147 (iv .u8 i145) fun h148 =>
  Jn.strconv_formatBase10_0 (IntKind.i64.wrap (i115 - 4)) i122 h148 w109)
  (Jn.strconv_formatBase10_0 i115 (IntKind.u32.wrap i112) h106 w109)) (fun v107 h108 =>
  some (v107, h108)) := by
  rw [call_eq]; kernel_rfl

theorem eq_strconv_formatBase10_l0 (s0 : V) (s1 : Int) (s4 : Int) (h : H) : Lp.strconv_formatBase10 0 [s0, iv .u64 s1, iv .i64 s4] h =
  vcase (bv (decide (s4 ≥ 8)))
  ((bin Ev .rem 94 (iv .u64 s1) (iv .u64 100000000)).bind fun b203 =>
  gV1 b203 fun x204 =>
  gI .u64 x204 fun i205 =>
  (bin Ev .quo 94 (iv .u64 s1) (iv .u64 100000000)).bind fun b206 =>
  gV1 b206 fun x207 =>
  gI .u64 x207 fun i208 =>
  (bin Ev .quo 110 (iv .u32 (IntKind.u32.wrap i205)) (iv .u32 10000)).bind fun b209 =>
  gV1 b209 fun x210 =>
  gI .u32 x210 fun i211 =>
  (bin Ev .rem 110 (iv .u32 (IntKind.u32.wrap i205)) (iv .u32 10000)).bind fun b212 =>
  gV1 b212 fun x213 =>
  gI .u32 x213 fun i214 =>
  (bin Ev .quo 110 (iv .u32 i214) (iv .u32 100)).bind fun b215 =>
  gV1 b215 fun x216 =>
  gI .u32 x216 fun i217 =>
  (bin Ev .rem 110 (iv .u32 i214) (iv .u32 100)).bind fun b218 =>
  gV1 b218 fun x219 =>
  gI .u32 x219 fun i220 =>
  (bin Ev .quo 110 (iv .u32 i211) (iv .u32 100)).bind fun b221 =>
  gV1 b221 fun x222 =>
  gI .u32 x222 fun i223 =>
  (bin Ev .rem 110 (iv .u32 i211) (iv .u32 100)).bind fun b224 =>
  gV1 b224 fun x225 =>
  gI .u32 x225 fun i226 =>
  (idxStr (.s (.str (⟨#[48, 48, 48, 49, 48, 50, 48, 51, 48, 52, 48, 53, 48, 54, 48, 55, 48, 56, 48, 57, 49, 48, 49, 49, 49, 50, 49, 51, 49, 52, 49, 53, 49, 54, 49, 55, 49, 56, 49, 57, 50, 48, 50, 49, 50, 50, 50, 51, 50, 52, 50, 53, 50, 54, 50, 55, 50, 56, 50, 57, 51, 48, 51, 49, 51, 50, 51, 51, 51, 52, 51, 53, 51, 54, 51, 55, 51, 56, 51, 57, 52, 48, 52, 49, 52, 50, 52, 51, 52, 52, 52, 53, 52, 54, 52, 55, 52, 56, 52, 57, 53, 48, 53, 49, 53, 50, 53, 51, 53, 52, 53, 53, 53, 54, 53, 55, 53, 56, 53, 57, 54, 48, 54, 49, 54, 50, 54, 51, 54, 52, 54, 53, 54, 54, 54, 55, 54, 56, 54, 57, 55, 48, 55, 49, 55, 50, 55, 51, 55, 52, 55, 53, 55, 54, 55, 55, 55, 56, 55, 57, 56, 48, 56, 49, 56, 50, 56, 51, 56, 52, 56, 53, 56, 54, 56, 55, 56, 56, 56, 57, 57, 48, 57, 49, 57, 50, 57, 51, 57, 52, 57, 53, 57, 54, 57, 55, 57, 56, 57, 57]⟩))) (iv .u32 (IntKind.u32.wrap ((IntKind.u32.wrap (i220 * 2)) + 1)))).bind fun v227 =>
  gV1 v227 fun x228 =>
  gI .u8 x228 fun i229 =>
  idxK 1 s0 (iv .i64 (IntKind.i64.wrap (s4 - 1))) fun v230 =>
  (idxStr (.s (.str (⟨#[48, 48, 48, 49, 48, 50, 48, 51, 48, 52, 48, 53, 48, 54, 48, 55, 48, 56, 48, 57, 49, 48, 49, 49, 49, 50, 49, 51, 49, 52, 49, 53, 49, 54, 49, 55, 49, 56, 49, 57, 50, 48, 50, 49, 50, 50, 50, 51, 50, 52, 50, 53, 50, 54, 50, 55, 50, 56, 50, 57, 51, 48, 51, 49, 51, 50, 51, 51, 51, 52, 51, 53, 51, 54, 51, 55, 51, 56, 51, 57, 52, 48, 52, 49, 52, 50, 52, 51, 52, 52, 52, 53, 52, 54, 52, 55, 52, 56, 52, 57, 53, 48, 53, 49, 53, 50, 53, 51, 53, 52, 53, 53, 53, 54, 53, 55, 53, 56, 53, 57, 54, 48, 54, 49, 54, 50, 54, 51, 54, 52, 54, 53, 54, 54, 54, 55, 54, 56, 54, 57, 55, 48, 55, 49, 55, 50, 55, 51, 55, 52, 55, 53, 55, 54, 55, 55, 55, 56, 55, 57, 56, 48, 56, 49, 56, 50, 56, 51, 56, 52, 56, 53, 56, 54, 56, 55, 56, 56, 56, 57, 57, 48, 57, 49, 57, 50, 57, 51, 57, 52, 57, 53, 57, 54, 57, 55, 57, 56, 57, 57]⟩))) (iv .u32 (IntKind.u32.wrap (i220 * 2)))).bind fun v231 =>
  gV1 v231 fun x232 =>
  gI .u8 x232 fun i233 =>
  stK 1 h v230 (iv .u8 i229) fun h234 =>
  idxK 1 s0 (iv .i64 (IntKind.i64.wrap (s4 - 2))) fun v235 =>
  stK 1 h234 v235 (iv .u8 i233) fun h236 =>
  (idxStr (.s (.str (⟨#[48, 48, 48, 49, 48, 50, 48, 51, 48, 52, 48, 53, 48, 54, 48, 55, 48, 56, 48, 57, 49, 48, 49, 49, 49, 50, 49, 51, 49, 52, 49, 53, 49, 54, 49, 55, 49, 56, 49, 57, 50, 48, 50, 49, 50, 50, 50, 51, 50, 52, 50, 53, 50, 54, 50, 55, 50, 56, 50, 57, 51, 48, 51, 49, 51, 50, 51, 51, 51, 52, 51, 53, 51, 54, 51, 55, 51, 56, 51, 57, 52, 48, 52, 49, 52, 50, 52, 51, 52, 52, 52, 53, 52, 54, 52, 55, 52, 56, 52, 57, 53, 48, 53, 49, 53, 50, 53, 51, 53, 52, 53, 53, 53, 54, 53, 55, 53, 56, 53, 57, 54, 48, 54, 49, 54, 50, 54, 51, 54, 52, 54, 53, 54, 54, 54, 55, 54, 56, 54, 57, 55, 48, 55, 49, 55, 50, 55, 51, 55, 52, 55, 53, 55, 54, 55, 55, 55, 56, 55, 57, 56, 48, 56, 49, 56, 50, 56, 51, 56, 52, 56, 53, 56, 54, 56, 55, 56, 56, 56, 57, 57, 48, 57, 49, 57, 50, 57, 51, 57, 52, 57, 53, 57, 54, 57, 55, 57, 56, 57, 57]⟩))) (iv .u32 (IntKind.u32.wrap ((IntKind.u32.wrap (i217 * 2)) + 1)))).bind fun v237 =>
  gV1 v237 fun x238 =>
  gI .u8 x238 fun i239 =>
  idxK 1 s0 (iv .i64 (IntKind.i64.wrap (s4 - 3))) fun v240 =>
  (idxStr (.s (.str (⟨#[48, 48, 48, 49, 48, 50, 48, 51, 48, 52, 48, 53, 48, 54, 48, 55, 48, 56, 48, 57, 49, 48, 49, 49, 49, 50, 49, 51, 49, 52, 49, 53, 49, 54, 49, 55, 49, 56, 49, 57, 50, 48, 50, 49, 50, 50, 50, 51, 50, 52, 50, 53, 50, 54, 50, 55, 50, 56, 50, 57, 51, 48, 51, 49, 51, 50, 51, 51, 51, 52, 51, 53, 51, 54, 51, 55, 51, 56, 51, 57, 52, 48, 52, 49, 52, 50, 52, 51, 52, 52, 52, 53, 52, 54, 52, 55, 52, 56, 52, 57, 53, 48, 53, 49, 53, 50, 53, 51, 53, 52, 53, 53, 53, 54, 53, 55, 53, 56, 53, 57, 54, 48, 54, 49, 54, 50, 54, 51, 54, 52, 54, 53, 54, 54, 54, 55, 54, 56, 54, 57, 55, 48, 55, 49, 55, 50, 55, 51, 55, 52, 55, 53, 55, 54, 55, 55, 55, 56, 55, 57, 56, 48, 56, 49, 56, 50, 56, 51, 56, 52, 56, 53, 56, 54, 56, 55, 56, 56, 56, 57, 57, 48, 57, 49, 57, 50, 57, 51, 57, 52, 57, 53, 57, 54, 57, 55, 57, 56, 57, 57]⟩))) (iv .u32 (IntKind.u32.wrap (i217 * 2)))).bind fun v241 =>
  gV1 v241 fun x242 =>
  gI .u8 x242 fun i243 =>
  stK 1 h236 v240 (iv .u8 i239) fun h244 =>
  idxK 1 s0 (iv .i64 (IntKind.i64.wrap (s4 - 4))) fun v245 =>
  stK 1 h244 v245 (iv .u8 i243) fun h246 =>
  (idxStr (.s (.str (⟨#[48, 48, 48, 49, 48, 50, 48, 51, 48, 52, 48, 53, 48, 54, 48, 55, 48, 56, 48, 57, 49, 48, 49, 49, 49, 50, 49, 51, 49, 52, 49, 53, 49, 54, 49, 55, 49, 56, 49, 57, 50, 48, 50, 49, 50, 50, 50, 51, 50, 52, 50, 53, 50, 54, 50, 55, 50, 56, 50, 57, 51, 48, 51, 49, 51, 50, 51, 51, 51, 52, 51, 53, 51, 54, 51, 55, 51, 56, 51, 57, 52, 48, 52, 49, 52, 50, 52, 51, 52, 52, 52, 53, 52, 54, 52, 55, 52, 56, 52, 57, 53, 48, 53, 49, 53, 50, 53, 51, 53, 52, 53, 53, 53, 54, 53, 55, 53, 56, 53, 57, 54, 48, 54, 49, 54, 50, 54, 51, 54, 52, 54, 53, 54, 54, 54, 55, 54, 56, 54, 57, 55, 48, 55, 49, 55, 50, 55, 51, 55, 52, 55, 53, 55, 54, 55, 55, 55, 56, 55, 57, 56, 48, 56, 49, 56, 50, 56, 51, 56, 52, 56, 53, 56, 54, 56, 55, 56, 56, 56, 57, 57, 48, 57, 49, 57, 50, 57, 51, 57, 52, 57, 53, 57, 54, 57, 55, 57, 56, 57, 57]⟩))) (iv .u32 (IntKind.u32.wrap ((IntKind.u32.wrap (i226 * 2)) + 1)))).bind fun v247 =>
  gV1 v247 fun x248 =>
  gI .u8 x248 fun i249 =>
  idxK 1 s0 (iv .i64 (IntKind.i64.wrap (s4 - 5))) fun v250 =>
  (idxStr (.s (.str (⟨#[48, 48, 48, 49, 48, 50, 48, 51, 48, 52, 48, 53, 48, 54, 48, 55, 48, 56, 48, 57, 49, 48, 49, 49, 49, 50, 49, 51, 49, 52, 49, 53, 49, 54, 49, 55, 49, 56, 49, 57, 50, 48, 50, 49, 50, 50, 50, 51, 50, 52, 50, 53, 50, 54, 50, 55, 50, 56, 50, 57, 51, 48, 51, 49, 51, 50, 51, 51, 51, 52, 51, 53, 51, 54, 51, 55, 51, 56, 51, 57, 52, 48, 52, 49, 52, 50, 52, 51, 52, 52, 52, 53, 52, 54, 52, 55, 52, 56, 52, 57, 53, 48, 53, 49, 53, 50, 53, 51, 53, 52, 53, 53, 53, 54, 53, 55, 53, 56, 53, 57, 54, 48, 54, 49, 54, 50, 54, 51, 54, 52, 54, 53, 54, 54, 54, 55, 54, 56, 54, 57, 55, 48, 55, 49, 55, 50, 55, 51, 55, 52, 55, 53, 55, 54, 55, 55, 55, 56, 55, 57, 56, 48, 56, 49, 56, 50, 56, 51, 56, 52, 56, 53, 56, 54, 56, 55, 56, 56, 56, 57, 57, 48, 57, 49, 57, 50, 57, 51, 57, 52, 57, 53, 57, 54, 57, 55, 57, 56, 57, 57]⟩))) (iv .u32 (IntKind.u32.wrap (i226 * 2)))).bind fun v251 =>
  gV1 v251 fun x252 =>
  gI .u8 x252 fun i253 =>
  stK 1 h246 v250 (iv .u8 i249) fun h254 =>
  idxK 1 s0 (iv .i64 (IntKind.i64.wrap (s4 - 6))) fun v255 =>
  stK 1 h254 v255 (iv .u8 i253) fun h256 =>
  (idxStr (.s (.str (⟨#[48, 48, 48, 49, 48, 50, 48, 51, 48, 52, 48, 53, 48, 54, 48, 55, 48, 56, 48, 57, 49, 48, 49, 49, 49, 50, 49, 51, 49, 52, 49, 53, 49, 54, 49, 55, 49, 56, 49, 57, 50, 48, 50, 49, 50, 50, 50, 51, 50, 52, 50, 53, 50, 54, 50, 55, 50, 56, 50, 57, 51, 48, 51, 49, 51, 50, 51, 51, 51, 52, 51, 53, 51, 54, 51, 55, 51, 56, 51, 57, 52, 48, 52, 49, 52, 50, 52, 51, 52, 52, 52, 53, 52, 54, 52, 55, 52, 56, 52, 57, 53, 48, 53, 49, 53, 50, 53, 51, 53, 52, 53, 53, 53, 54, 53, 55, 53, 56, 53, 57, 54, 48, 54, 49, 54, 50, 54, 51, 54, 52, 54, 53, 54, 54, 54, 55, 54, 56, 54, 57, 55, 48, 55, 49, 55, 50, 55, 51, 55, 52, 55, 53, 55, 54, 55, 55, 55, 56, 55, 57, 56, 48, 56, 49, 56, 50, 56, 51, 56, 52, 56, 53, 56, 54, 56, 55, 56, 56, 56, 57, 57, 48, 57, 49, 57, 50, 57, 51, 57, 52, 57, 53, 57, 54, 57, 55, 57, 56, 57, 57]⟩))) (iv .u32 (IntKind.u32.wrap ((IntKind.u32.wrap (i223 * 2)) + 1)))).bind fun v257 =>
  gV1 v257 fun x258 =>
  gI .u8 x258 fun i259 =>
  idxK 1 s0 (iv .i64 (IntKind.i64.wrap (s4 - 7))) fun v260 =>
  (idxStr (.s (.str (⟨#[48, 48, 48, 49, 48, 50, 48, 51, 48, 52, 48, 53, 48, 54, 48, 55, 48, 56, 48, 57, 49, 48, 49, 49, 49, 50, 49, 51, 49, 52, 49, 53, 49, 54, 49, 55, 49, 56, 49, 57, 50, 48, 50, 49, 50, 50, 50, 51, 50, 52, 50, 53, 50, 54, 50, 55, 50, 56, 50, 57, 51, 48, 51, 49, 51, 50, 51, 51, 51, 52, 51, 53, 51, 54, 51, 55, 51, 56, 51, 57, 52, 48, 52, 49, 52, 50, 52, 51, 52, 52, 52, 53, 52, 54, 52, 55, 52, 56, 52, 57, 53, 48, 53, 49, 53, 50, 53, 51, 53, 52, 53, 53, 53, 54, 53, 55, 53, 56, 53, 57, 54, 48, 54, 49, 54, 50, 54, 51, 54, 52, 54, 53, 54, 54, 54, 55, 54, 56, 54, 57, 55, 48, 55, 49, 55, 50, 55, 51, 55, 52, 55, 53, 55, 54, 55, 55, 55, 56, 55, 57, 56, 48, 56, 49, 56, 50, 56, 51, 56, 52, 56, 53, 56, 54, 56, 55, 56, 56, 56, 57, 57, 48, 57, 49, 57, 50, 57, 51, 57, 52, 57, 53, 57, 54, 57, 55, 57, 56, 57, 57]⟩))) (iv .u32 (IntKind.u32.wrap (i223 * 2)))).bind fun v261 =>
  gV1 v261 fun x262 =>
  gI .u8 x262 fun i263 =>
  stK 1 h256 v260 (iv .u8 i259) fun h264 =>
  idxK 1 s0 (iv .i64 (IntKind.i64.wrap (s4 - 8))) fun v265 =>
  stK 1 h264 v265 (iv .u8 i263) fun h266 =>
  Lp.strconv_formatBase10 0 [s0, iv .u64 i208, iv .i64 (IntKind.i64.wrap (s4 - 8))] (tidy h [s0, iv .u64 i208, iv .i64 (IntKind.i64.wrap (s4 - 8))] h266))
  (some (.done [s0, iv .u64 s1, iv .i64 s4] (tidy h [s0, iv .u64 s1, iv .i64 s4] h))) := by
  unfold Lp.strconv_formatBase10; rw [loop_eq]; kernel_rfl

theorem pu_strconv_isPowerOfTwo (a0 : Int) : pureV (call Ev) Fn.strconv_isPowerOfTwo [iv .i64 a0] =
  (bin Ev .and 3 (iv .i64 a0) (iv .i64 (IntKind.i64.wrap (a0 - 1)))).bind fun b101 =>
  gV1 b101 fun x102 =>
  gI .i64 x102 fun i103 =>
  some (bv (i103 == 0)) := by
  rw [pure_eq]; kernel_rfl

theorem pu_bits_TrailingZeros (a0 : Int) : pureV (call Ev) Fn.bits_TrailingZeros [iv .u64 a0] =
  pcallS (call Ev) 91 [iv .u64 a0] fun v102 =>
  gV1 v102 fun x103 =>
  gI .i64 x103 fun i104 =>
  some (iv .i64 i104) := by
  rw [pure_eq]; kernel_rfl

end Vm
