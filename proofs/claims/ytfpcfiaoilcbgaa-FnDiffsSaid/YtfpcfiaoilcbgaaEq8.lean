/-
  What each function, and each round of each loop, comes to in the small machine. Written by a program (gen3.py).
-/
import Derived.Test.YtfpcfiaoilcbgaaEnv
set_option linter.unusedVariables false
set_option maxRecDepth 100000
namespace Vm
open Go

theorem pu_spec_DiffBytes (a0 : List (List S)) (a1 : List (List S)) : pureV (call Ev) Fn.spec_DiffBytes [lv a0, lv a1] =
  vcase (bv ((a0.length : Int) != 64))
  (some (.agg [.int .i64 1, .fs []]))
  (vcase (bv ((a1.length : Int) != 64))
  (some (.agg [.int .i64 1, .fs []]))
  ((pureV (call Ev) Fn.spec_l3Diff [lv a0, lv a1]).bind fun v106 =>
  gV1 v106 fun x107 =>
  gF x107 fun z108 =>
  some (.agg [.int .i64 0, .fs z108]))) := by
  rw [pure_eq]; kernel_rfl

theorem pu_impl_RunsFault (a0 : List (List S)) : pureV (call Ev) Fn.impl_RunsFault [lv a0] =
  vcase (bv (decide ((a0.length : Int) > 64)))
  (some (iv .i64 2))
  ((Lp.impl_RunsFault 0 [iv .i64 0, lv a0, iv .i64 (a0.length : Int), iv .i64 0] (D 0)).bind fun o102 => lcase o102 (fun l103 h104 =>
  some (iv .i64 0)) (fun v105 h106 =>
  frzV h106 v105)) := by
  rw [pure_eq]; kernel_rfl

theorem eq_impl_RunsFault_l0 (s3 : Int) (s10 : List (List S)) (s11 : Int) (s12 : Int) (h : H) : Lp.impl_RunsFault 0 [iv .i64 s3, lv s10, iv .i64 s11, iv .i64 s12] h =
  vcase (bv (decide (s12 < s11)))
  (idxF 2 s10 s12 fun r203 =>
  (rowN 2 r203 0).bind fun c204 =>
  (c204[0]?).bind fun x205 =>
  gI .i64 x205 fun i206 =>
  (c204[1]?).bind fun x207 =>
  gF x207 fun z208 =>
  if c204.length = 2 then
  stK 2 (h.new 0 [.int .i64 0, .sl none 0]) (pv h.n 0) (.agg [.int .i64 i206, .fs z208]) fun h209 =>
  (load1 h209 (pv h.n 1)).bind fun x210 =>
  (lenV (.sl 5) (.s x210)).bind fun v211 =>
  gV1 v211 fun x212 =>
  gI .i64 x212 fun i213 =>
  (load1 h209 (pv h.n 0)).bind fun x214 =>
  gI .i64 x214 fun i215 =>
  pcallS (call Ev) Fn.impl_in [iv .i64 i215, iv .i64 0, iv .i64 63] fun v216 =>
  gV1 v216 fun x217 =>
  gB x217 fun q218 =>
  vcase (bv (!q218))
  (some (.ret (iv .i64 3) h209))
  (pcallS (call Ev) Fn.impl_in [iv .i64 i213, iv .i64 1, iv .i64 64] fun v221 =>
  gV1 v221 fun x222 =>
  gB x222 fun q223 =>
  vcase (bv (!q223))
  (some (.ret (iv .i64 3) h209))
  ((load1 h209 (pv h.n 0)).bind fun x229 =>
  gI .i64 x229 fun i230 =>
  vcase (bv (decide ((IntKind.i64.wrap (i230 + i213)) > 64)))
  (some (.ret (iv .i64 3) h209))
  ((load1 h209 (pv h.n 0)).bind fun x234 =>
  gI .i64 x234 fun i235 =>
  vcase (bv (decide (i235 < s3)))
  (some (.ret (iv .i64 1) h209))
  ((load1 h209 (pv h.n 0)).bind fun x237 =>
  gI .i64 x237 fun i238 =>
  Lp.impl_RunsFault 0 [iv .i64 (IntKind.i64.wrap ((IntKind.i64.wrap (i238 + i213)) + 1)), lv s10, iv .i64 s11, iv .i64 (IntKind.i64.wrap (s12 + 1))] (tidy h [iv .i64 (IntKind.i64.wrap ((IntKind.i64.wrap (i238 + i213)) + 1)), lv s10, iv .i64 s11, iv .i64 (IntKind.i64.wrap (s12 + 1))] h209)))))
  else none)
  (some (.done [] (tidy h [] h))) := by
  unfold Lp.impl_RunsFault; rw [loop_eq]; kernel_rfl

theorem pu_impl_applied (a0 : List (List S)) (a1 : List (List S)) : pureV (call Ev) Fn.impl_applied [lv a0, lv a1] =
  pcallF (call Ev) Fn.impl_copied true [lv a0] (D 0) fun v101 h102 =>
  (Lp.impl_applied 0 [v101, lv a1, iv .i64 (a1.length : Int), iv .i64 0] h102).bind fun o103 => lcase o103 (fun l104 h105 =>
  (l104[0]?).bind fun w108 =>
  frzV h105 w108) (fun v106 h107 =>
  frzV h107 v106) := by
  rw [pure_eq]; kernel_rfl

theorem eq_impl_applied_l0 (s5 : V) (s10 : List (List S)) (s11 : Int) (s12 : Int) (h : H) : Lp.impl_applied 0 [s5, lv s10, iv .i64 s11, iv .i64 s12] h =
  vcase (bv (decide (s12 < s11)))
  (idxF 2 s10 s12 fun r203 =>
  (rowN 2 r203 0).bind fun c204 =>
  (c204[0]?).bind fun x205 =>
  gI .i64 x205 fun i206 =>
  (c204[1]?).bind fun x207 =>
  gF x207 fun z208 =>
  if c204.length = 2 then
  stK 2 (h.new 0 [.int .i64 0, .sl none 0]) (pv h.n 0) (.agg [.int .i64 i206, .fs z208]) fun h209 =>
  (load1 h209 (pv h.n 0)).bind fun x210 =>
  gI .i64 x210 fun i211 =>
  slK 1 h209 s5 (some (iv .i64 i211)) none fun v212 =>
  (load1 h209 (pv h.n 1)).bind fun x213 =>
  (copS 1 h209 v212 (.s x213)).bind fun p214 =>
  gV1 p214.1 fun x215 =>
  gI .i64 x215 fun i216 =>
  Lp.impl_applied 0 [s5, lv s10, iv .i64 s11, iv .i64 (IntKind.i64.wrap (s12 + 1))] (tidy h [s5, lv s10, iv .i64 s11, iv .i64 (IntKind.i64.wrap (s12 + 1))] p214.2)
  else none)
  (some (.done [s5] (tidy h [s5] h))) := by
  unfold Lp.impl_applied; rw [loop_eq]; kernel_rfl

theorem pu_impl_ApplyRuns (a0 : List (List S)) (a1 : List (List S)) : pureV (call Ev) Fn.impl_ApplyRuns [lv a0, lv a1] =
  vcase (bv ((a0.length : Int) != 64))
  (some (.agg [.int .i64 1, .fs []]))
  (pcallS (call Ev) Fn.impl_RunsFault [lv a1] fun v102 =>
  gV1 v102 fun x103 =>
  gI .i64 x103 fun i104 =>
  vcase (bv (i104 != 0))
  (some (.agg [.int .i64 i104, .fs []]))
  ((pureV (call Ev) Fn.impl_applied [lv a0, lv a1]).bind fun v106 =>
  gV1 v106 fun x107 =>
  gF x107 fun z108 =>
  some (.agg [.int .i64 0, .fs z108]))) := by
  rw [pure_eq]; kernel_rfl

theorem pu_impl_InverseRuns (a0 : List (List S)) (a1 : List (List S)) : pureV (call Ev) Fn.impl_InverseRuns [lv a0, lv a1] =
  vcase (bv ((a0.length : Int) != 64))
  (some (.agg [.int .i64 1, .fs []]))
  (pcallS (call Ev) Fn.impl_RunsFault [lv a1] fun v102 =>
  gV1 v102 fun x103 =>
  gI .i64 x103 fun i104 =>
  vcase (bv (i104 != 0))
  (some (.agg [.int .i64 i104, .fs []]))
  ((Lp.impl_InverseRuns 0 [lv a0, pv 0 0, .s (.sl none 0), lv a1, iv .i64 (a1.length : Int), iv .i64 0] ((D 0).new 0 [.int .i64 0, .sl none 0])).bind fun o106 => lcase o106 (fun l107 h108 =>
  (l107[0]?).bind fun w111 =>
  (l107[1]?).bind fun w112 =>
  cellsK w112 fun c113 =>
  if c113.length = 1 ∧ 1 + 1 ≤ ([.int .i64 0, .sl none 0] : List S).length then
  ((setAt ([.int .i64 0, .sl none 0] : List S) 1 c113)[0]?).bind fun x114 =>
  gI .i64 x114 fun i115 =>
  ((setAt ([.int .i64 0, .sl none 0] : List S) 1 c113)[1]?).bind fun x116 =>
  if (setAt ([.int .i64 0, .sl none 0] : List S) 1 c113).length = 2 then
  stK 2 h108 w111 (.agg [.int .i64 i115, x116]) fun h117 =>
  ldT ⟨2, 32, [.int .i64 0, .sl none 0], true, .st [(0, 2), (1, 88)], false⟩ h117 w111 fun v118 =>
  frzV h117 v118
  else none
  else none) (fun v109 h110 =>
  frzV h110 v109))) := by
  rw [pure_eq]; kernel_rfl

theorem eq_impl_InverseRuns_l0 (s0 : List (List S)) (s4 : V) (s6 : V) (s19 : List (List S)) (s20 : Int) (s21 : Int) (h : H) : Lp.impl_InverseRuns 0 [lv s0, s4, s6, lv s19, iv .i64 s20, iv .i64 s21] h =
  vcase (bv (decide (s21 < s20)))
  (idxF 2 s19 s21 fun r203 =>
  (rowN 2 r203 0).bind fun c204 =>
  (c204[0]?).bind fun x205 =>
  gI .i64 x205 fun i206 =>
  (c204[1]?).bind fun x207 =>
  gF x207 fun z208 =>
  if c204.length = 2 then
  stK 2 (h.new 0 [.int .i64 0, .sl none 0]) (pv h.n 0) (.agg [.int .i64 i206, .fs z208]) fun h209 =>
  (load1 h209 (pv h.n 0)).bind fun x210 =>
  gI .i64 x210 fun i211 =>
  (load1 h209 (pv h.n 0)).bind fun x212 =>
  gI .i64 x212 fun i213 =>
  (load1 h209 (pv h.n 0)).bind fun x214 =>
  gI .i64 x214 fun i215 =>
  (load1 h209 (pv h.n 1)).bind fun x216 =>
  (lenV (.sl 5) (.s x216)).bind fun v217 =>
  gV1 v217 fun x218 =>
  gI .i64 x218 fun i219 =>
  slF 1 s0 (some (iv .i64 i213)) (some (iv .i64 (IntKind.i64.wrap (i215 + i219)))) fun z220 =>
  pcallF (call Ev) Fn.impl_copied true [lv z220] h209 fun v221 h222 =>
  hchk h209 h222 (
  bif scaV v221 then
  cellsK v221 fun c223 =>
  if c223.length = 1 ∧ 1 + 1 ≤ ([.int .i64 i211, .sl none 0] : List S).length then
  ((setAt ([.int .i64 i211, .sl none 0] : List S) 1 c223)[0]?).bind fun x224 =>
  gI .i64 x224 fun i225 =>
  ((setAt ([.int .i64 i211, .sl none 0] : List S) 1 c223)[1]?).bind fun x226 =>
  if (setAt ([.int .i64 i211, .sl none 0] : List S) 1 c223).length = 2 then
  hchk h209 (h222.new 2 [.int .i64 i225, x226]) (
  (appS 2 (h222.new 2 [.int .i64 i225, x226]) s6 (sv h222.n 0 1)).bind fun p227 =>
  Lp.impl_InverseRuns 0 [lv s0, s4, p227.1, lv s19, iv .i64 s20, iv .i64 (IntKind.i64.wrap (s21 + 1))] (tidy h [lv s0, s4, p227.1, lv s19, iv .i64 s20, iv .i64 (IntKind.i64.wrap (s21 + 1))] p227.2))
  else none
  else none
  else none)
  else none)
  (some (.done [s4, s6] (tidy h [s4, s6] h))) := by
  unfold Lp.impl_InverseRuns; rw [loop_eq]; kernel_rfl

theorem eq_spec_l2Bent (a0_b a0_o : Nat) (h : H) : call Ev Fn.spec_l2Bent [pv a0_b a0_o] h =
  (call Ev Fn.spec_l2Right [pv a0_b a0_o] h).bind fun p101 =>
  (call Ev Fn.spec_l1Next [pv a0_b a0_o, iv .i64 12] (tidy h [p101.1] p101.2)).bind fun p102 =>
  gV1 p102.1 fun x103 =>
  gI .i64 x103 fun i104 =>
  vcase (bv (i104 == 0))
  (slK 1 (tidy (tidy h [p101.1] p101.2) [p102.1] p102.2) p101.1 (some (iv .i64 1)) none fun v107 =>
  some (v107, tidy (tidy h [p101.1] p101.2) [p102.1] p102.2))
  (vcase (bv (i104 == 1))
  ((call Ev Fn.spec_l1Next [pv a0_b a0_o, iv .i64 12] (tidy (tidy h [p101.1] p101.2) [p102.1] p102.2)).bind fun p109 =>
  gV1 p109.1 fun x110 =>
  gI .i64 x110 fun i111 =>
  (call Ev Fn.spec_l1Next [pv a0_b a0_o, iv .i64 70] (tidy (tidy (tidy h [p101.1] p101.2) [p102.1] p102.2) [p109.1] p109.2)).bind fun p112 =>
  gV1 p112.1 fun x113 =>
  gI .i64 x113 fun i114 =>
  idxK 1 p101.1 (iv .i64 i111) fun v115 =>
  stK 1 (tidy (tidy (tidy (tidy h [p101.1] p101.2) [p102.1] p102.2) [p109.1] p109.2) [p112.1] p112.2) v115 (iv .u8 (IntKind.u8.wrap i114)) fun h116 =>
  some (p101.1, h116))
  (some (p101.1, tidy (tidy h [p101.1] p101.2) [p102.1] p102.2))) := by
  rw [call_eq]; kernel_rfl

theorem eq_spec_l3Bent (a0_b a0_o : Nat) (h : H) : call Ev Fn.spec_l3Bent [pv a0_b a0_o] h =
  (call Ev Fn.spec_l3Two [pv a0_b a0_o] h).bind fun p101 =>
  gVT p101.1 fun u102 =>
  (u102[0]?).bind fun t103 =>
  gA1 t103 fun x104 =>
  (u102[1]?).bind fun t105 =>
  gA1 t105 fun x106 =>
  if u102.length = 2 then
  (frzVs (tidy h [p101.1] p101.2) [.s x104, .s x106]).bind fun l107 =>
  pcallF (call Ev) Fn.spec_l3Diff ([.s x104, .s x106].all offV) (normVs [] l107) (tidy h [p101.1] p101.2) fun v108 h109 =>
  (call Ev Fn.spec_l1Next [pv a0_b a0_o, iv .i64 10] h109).bind fun p110 =>
  gV1 p110.1 fun x111 =>
  gI .i64 x111 fun i112 =>
  vcase (bv (i112 == 0))
  ((call Ev Fn.spec_l1Pick [pv a0_b a0_o, sv ((tidy h109 [p110.1] p110.2).n) 0 4] ((tidy h109 [p110.1] p110.2).new 1 [.int .i64 (-1), .int .i64 0, .int .i64 63, .int .i64 64])).bind fun p115 =>
  gV1 p115.1 fun x116 =>
  gI .i64 x116 fun i117 =>
  (call Ev Fn.spec_l1Next [pv a0_b a0_o, iv .i64 4] (tidy ((tidy h109 [p110.1] p110.2).new 1 [.int .i64 (-1), .int .i64 0, .int .i64 63, .int .i64 64]) [p115.1] p115.2)).bind fun p118 =>
  gV1 p118.1 fun x119 =>
  gI .i64 x119 fun i120 =>
  (call Ev Fn.spec_l1Some [pv a0_b a0_o, iv .i64 i120] (tidy (tidy ((tidy h109 [p110.1] p110.2).new 1 [.int .i64 (-1), .int .i64 0, .int .i64 63, .int .i64 64]) [p115.1] p115.2) [p118.1] p118.2)).bind fun p121 =>
  cellsK p121.1 fun c122 =>
  if c122.length = 1 ∧ 1 + 1 ≤ ([.int .i64 i117, .sl none 0] : List S).length then
  ((setAt ([.int .i64 i117, .sl none 0] : List S) 1 c122)[0]?).bind fun x123 =>
  gI .i64 x123 fun i124 =>
  ((setAt ([.int .i64 i117, .sl none 0] : List S) 1 c122)[1]?).bind fun x125 =>
  if (setAt ([.int .i64 i117, .sl none 0] : List S) 1 c122).length = 2 then
  (appS 2 ((tidy (tidy (tidy ((tidy h109 [p110.1] p110.2).new 1 [.int .i64 (-1), .int .i64 0, .int .i64 63, .int .i64 64]) [p115.1] p115.2) [p118.1] p118.2) [p121.1] p121.2).new 2 [.int .i64 i124, x125]) v108 (sv ((tidy (tidy (tidy ((tidy h109 [p110.1] p110.2).new 1 [.int .i64 (-1), .int .i64 0, .int .i64 63, .int .i64 64]) [p115.1] p115.2) [p118.1] p118.2) [p121.1] p121.2).n) 0 1)).bind fun p126 =>
  some (p126.1, p126.2)
  else none
  else none)
  (vcase (bv (i112 == 1))
  ((mkSl 2 [.int .i64 0, .sl none 0] (tidy h109 [p110.1] p110.2) (iv .i64 65) (iv .i64 65)).bind fun p128 =>
  some (p128.1, p128.2))
  (some (v108, tidy h109 [p110.1] p110.2)))
  else none := by
  rw [call_eq]; kernel_rfl

theorem pu_spec_DrawApplyRuns (a0 : List (List S)) : pureV (call Ev) Fn.spec_DrawApplyRuns [lv a0] =
  pcallF (call Ev) Fn.spec_l1Source true [lv a0] (D 0) fun v101 h102 =>
  (call Ev Fn.spec_l2Bent [v101] h102).bind fun p103 =>
  (call Ev Fn.spec_l3Bent [v101] (tidy h102 [p103.1] p103.2)).bind fun p104 =>
  (V.toA p103.1).bind fun t105 =>
  (V.toA p104.1).bind fun t106 =>
  frzV (tidy (tidy h102 [p103.1] p103.2) [p104.1] p104.2) (.tup [t105, t106]) := by
  rw [pure_eq]; kernel_rfl

theorem pu_laws_lwSame (a0 : List (List S)) (a1 : List (List S)) : pureV (call Ev) Fn.laws_lwSame [lv a0, lv a1] =
  (fsStr a0).bind fun v101 =>
  gV1 v101 fun x102 =>
  gS x102 fun y103 =>
  (fsStr a1).bind fun v104 =>
  gV1 v104 fun x105 =>
  gS x105 fun y106 =>
  some (bv ((y103 : ByteArray).toList == (y106 : ByteArray).toList)) := by
  rw [pure_eq]; kernel_rfl

theorem pu_spec_l3Fault (a0 : List (List S)) : pureV (call Ev) Fn.spec_l3Fault [lv a0] =
  vcase (bv (decide ((a0.length : Int) > 64)))
  (some (iv .i64 2))
  ((Lp.spec_l3Fault 0 [lv a0, iv .i64 0] (D 0)).bind fun o102 => lcase o102 (fun l103 h104 =>
  some (iv .i64 0)) (fun v105 h106 =>
  frzV h106 v105)) := by
  rw [pure_eq]; kernel_rfl

theorem eq_spec_l3Fault_l0 (s0 : List (List S)) (s3 : Int) (h : H) : Lp.spec_l3Fault 0 [lv s0, iv .i64 s3] h =
  vcase (bv (decide (s3 < (s0.length : Int))))
  (idxF 2 s0 s3 fun r203 =>
  (r203[1]?).bind fun x204 =>
  gF x204 fun z205 =>
  idxF 2 s0 s3 fun r206 =>
  (r206[0]?).bind fun x207 =>
  gI .i64 x207 fun i208 =>
  pcallS (call Ev) Fn.spec_l1In [iv .i64 i208, iv .i64 0, iv .i64 63] fun v209 =>
  gV1 v209 fun x210 =>
  gB x210 fun q211 =>
  vcase (bv (!q211))
  (some (.ret (iv .i64 3) h))
  (pcallS (call Ev) Fn.spec_l1In [iv .i64 (z205.length : Int), iv .i64 1, iv .i64 64] fun v214 =>
  gV1 v214 fun x215 =>
  gB x215 fun q216 =>
  vcase (bv (!q216))
  (some (.ret (iv .i64 3) h))
  (idxF 2 s0 s3 fun r222 =>
  (r222[0]?).bind fun x223 =>
  gI .i64 x223 fun i224 =>
  vcase (bv (decide ((IntKind.i64.wrap (i224 + (z205.length : Int))) > 64)))
  (some (.ret (iv .i64 3) h))
  (vcase (bv (decide (s3 > 0)))
  (idxF 2 s0 s3 fun r229 =>
  (r229[0]?).bind fun x230 =>
  gI .i64 x230 fun i231 =>
  idxF 2 s0 (IntKind.i64.wrap (s3 - 1)) fun r232 =>
  (r232[0]?).bind fun x233 =>
  gI .i64 x233 fun i234 =>
  idxF 2 s0 (IntKind.i64.wrap (s3 - 1)) fun r235 =>
  (r235[1]?).bind fun x236 =>
  gF x236 fun z237 =>
  vcase (bv (decide (i231 ≤ (IntKind.i64.wrap (i234 + (z237.length : Int))))))
  (some (.ret (iv .i64 1) h))
  (Lp.spec_l3Fault 0 [lv s0, iv .i64 (IntKind.i64.wrap (s3 + 1))] (tidy h [lv s0, iv .i64 (IntKind.i64.wrap (s3 + 1))] h)))
  (Lp.spec_l3Fault 0 [lv s0, iv .i64 (IntKind.i64.wrap (s3 + 1))] (tidy h [lv s0, iv .i64 (IntKind.i64.wrap (s3 + 1))] h))))))
  (some (.done [] (tidy h [] h))) := by
  unfold Lp.spec_l3Fault; rw [loop_eq]; kernel_rfl

theorem pu_spec_l3Asked (a0 : List (List S)) (a1 : List (List S)) : pureV (call Ev) Fn.spec_l3Asked [lv a0, lv a1] =
  vcase (bv ((a0.length : Int) != 64))
  (some (iv .i64 1))
  (pcallS (call Ev) Fn.spec_l3Fault [lv a1] fun v102 =>
  gV1 v102 fun x103 =>
  gI .i64 x103 fun i104 =>
  some (iv .i64 i104)) := by
  rw [pure_eq]; kernel_rfl

theorem pu_spec_l3Apply (a0 : List (List S)) (a1 : List (List S)) : pureV (call Ev) Fn.spec_l3Apply [lv a0, lv a1] =
  pcallF (call Ev) Fn.spec_l2Copy true [lv a0] (D 0) fun v101 h102 =>
  (Lp.spec_l3Apply 0 [lv a1, v101, iv .i64 0] h102).bind fun o103 => lcase o103 (fun l104 h105 =>
  (l104[0]?).bind fun w108 =>
  frzV h105 w108) (fun v106 h107 =>
  frzV h107 v106) := by
  rw [pure_eq]; kernel_rfl

theorem eq_spec_l3Apply_l0 (s1 : List (List S)) (s5 : V) (s6 : Int) (h : H) : Lp.spec_l3Apply 0 [lv s1, s5, iv .i64 s6] h =
  vcase (bv (decide (s6 < (s1.length : Int))))
  (idxF 2 s1 s6 fun r203 =>
  (r203[0]?).bind fun x204 =>
  gI .i64 x204 fun i205 =>
  slK 1 h s5 (some (iv .i64 i205)) none fun v206 =>
  idxF 2 s1 s6 fun r207 =>
  (r207[1]?).bind fun x208 =>
  gF x208 fun z209 =>
  (copS 1 h v206 (lv z209)).bind fun p210 =>
  gV1 p210.1 fun x211 =>
  gI .i64 x211 fun i212 =>
  Lp.spec_l3Apply 0 [lv s1, s5, iv .i64 (IntKind.i64.wrap (s6 + 1))] (tidy h [lv s1, s5, iv .i64 (IntKind.i64.wrap (s6 + 1))] p210.2))
  (some (.done [s5] (tidy h [s5] h))) := by
  unfold Lp.spec_l3Apply; rw [loop_eq]; kernel_rfl

theorem pu_spec_ApplyRuns (a0 : List (List S)) (a1 : List (List S)) : pureV (call Ev) Fn.spec_ApplyRuns [lv a0, lv a1] =
  pcallS (call Ev) Fn.spec_l3Asked [lv a0, lv a1] fun v101 =>
  gV1 v101 fun x102 =>
  gI .i64 x102 fun i103 =>
  vcase (bv (i103 != 0))
  (some (.agg [.int .i64 i103, .fs []]))
  ((pureV (call Ev) Fn.spec_l3Apply [lv a0, lv a1]).bind fun v105 =>
  gV1 v105 fun x106 =>
  gF x106 fun z107 =>
  some (.agg [.int .i64 0, .fs z107])) := by
  rw [pure_eq]; kernel_rfl

noncomputable def Jn.laws_FnDiffs_0 (q326 : Bool) (w327 : V) (w328 : V) (w329 : V) (q330 : Bool) (h195 : H) (h163 : H) (z185 : List (List S)) (z188 : List (List S)) : Option (V) :=
  vcase (bv q330)
  ((load1 h195 (pv h163.n 0)).bind fun x332 =>
  gI .i64 x332 fun i333 =>
  (pureV (call Ev) Fn.spec_ApplyRuns [lv z185, lv z188]).bind fun v334 =>
  gVA v334 fun c335 =>
  (c335[0]?).bind fun x336 =>
  gI .i64 x336 fun i337 =>
  (c335[1]?).bind fun x338 =>
  gF x338 fun z339 =>
  if c335.length = 2 then
  hchk h195 h195 (
  vcase (bv (i333 == i337))
  ((load1 h195 (pv h163.n 1)).bind fun x343 =>
  (pureV (call Ev) Fn.spec_ApplyRuns [lv z185, lv z188]).bind fun v344 =>
  gVA v344 fun c345 =>
  (c345[0]?).bind fun x346 =>
  gI .i64 x346 fun i347 =>
  (c345[1]?).bind fun x348 =>
  gF x348 fun z349 =>
  if c345.length = 2 then
  hchk h195 h195 (
  (frzVs h195 [.s x343, lv z349]).bind fun l350 =>
  pcallS (call Ev) Fn.laws_lwSame (normVs [] l350) fun v351 =>
  gV1 v351 fun x352 =>
  gB x352 fun q353 =>
  hchk h195 h195 (
  some (bv q353)))
  else none)
  (hchk h195 h195 (
  hchk h195 h195 (
  some (bv false)))))
  else none)
  (hchk h195 h195 (
  hchk h195 h195 (
  hchk h195 h195 (
  some (bv false)))))

noncomputable def Jn.laws_FnDiffs_1 (q301 : Bool) (w302 : V) (w303 : V) (w304 : V) (w305 : V) (q306 : Bool) (w173 : V) (h195 : H) (w174 : V) (w169 : V) (i177 : Int) (i180 : Int) (h163 : H) (z185 : List (List S)) (z188 : List (List S)) : Option (V) :=
  vcase (bv q306)
  ((padd 0 w173).bind fun v308 =>
  ldK (.one (.i .i64)) ⟨1, 8, [.int .i64 0], false, .int .i64, false⟩ h195 v308 fun v309 =>
  gV1 v309 fun x310 =>
  gI .i64 x310 fun i311 =>
  vcase (bv (i311 == 0))
  ((padd 1 w174).bind fun v315 =>
  ldK (.one (.f)) ⟨1, 24, [.sl none 0], false, .sl 5, false⟩ h195 v315 fun v316 =>
  (frzVs h195 [v316, w169]).bind fun l317 =>
  pcallS (call Ev) Fn.laws_lwSame (normVs [] l317) fun v318 =>
  gV1 v318 fun x319 =>
  gB x319 fun q320 =>
  hchk h195 h195 (
  vcase (bv q320)
  (Jn.laws_FnDiffs_0 true (iv .i64 i177) (iv .i64 i180) (bv (i177 == i180)) (i177 == i180) h195 h163 z185 z188)
  (Jn.laws_FnDiffs_0 false (.tup []) (.tup []) (.tup []) false h195 h163 z185 z188)))
  (hchk h195 h195 (
  hchk h195 h195 (
  hchk h195 h195 (
  hchk h195 h195 (
  some (bv false)))))))
  (hchk h195 h195 (
  hchk h195 h195 (
  hchk h195 h195 (
  hchk h195 h195 (
  some (bv false))))))

theorem pu_laws_FnDiffs (a0 : List (List S)) : pureV (call Ev) Fn.laws_FnDiffs [lv a0] =
  pcallS (call Ev) Fn.laws_lwBig [lv a0] fun v101 =>
  gV1 v101 fun x102 =>
  gB x102 fun q103 =>
  vcase (bv q103)
  (some (bv true))
  ((pureV (call Ev) Fn.spec_DrawDiffBytes [lv a0]).bind fun v105 =>
  gVT v105 fun u106 =>
  (u106[0]?).bind fun t107 =>
  gA1 t107 fun x108 =>
  gF x108 fun z109 =>
  (u106[1]?).bind fun t110 =>
  gA1 t110 fun x111 =>
  gF x111 fun z112 =>
  if u106.length = 2 then
  (pureV (call Ev) Fn.impl_DiffBytes [lv z109, lv z112]).bind fun v113 =>
  gVA v113 fun c114 =>
  (c114[0]?).bind fun x115 =>
  gI .i64 x115 fun i116 =>
  (c114[1]?).bind fun x117 =>
  gF x117 fun z118 =>
  if c114.length = 2 then
  vcase (bv (i116 != 0))
  ((pureV (call Ev) Fn.spec_DiffBytes [lv z109, lv z112]).bind fun v120 =>
  gVA v120 fun c121 =>
  (c121[0]?).bind fun x122 =>
  gI .i64 x122 fun i123 =>
  (c121[1]?).bind fun x124 =>
  gF x124 fun z125 =>
  if c121.length = 2 then
  hchk (((D 0).new 0 [.int .i64 0, .sl none 0]).put 0 (.rw 0 [.int .i64 i116, .fs z118])) (((D 0).new 0 [.int .i64 0, .sl none 0]).put 0 (.rw 0 [.int .i64 i116, .fs z118])) (
  hchk (((D 0).new 0 [.int .i64 0, .sl none 0]).put 0 (.rw 0 [.int .i64 i116, .fs z118])) (((D 0).new 0 [.int .i64 0, .sl none 0]).put 0 (.rw 0 [.int .i64 i116, .fs z118])) (
  hchk (((D 0).new 0 [.int .i64 0, .sl none 0]).put 0 (.rw 0 [.int .i64 i116, .fs z118])) (((D 0).new 0 [.int .i64 0, .sl none 0]).put 0 (.rw 0 [.int .i64 i116, .fs z118])) (
  hchk (((D 0).new 0 [.int .i64 0, .sl none 0]).put 0 (.rw 0 [.int .i64 i116, .fs z118])) (((D 0).new 0 [.int .i64 0, .sl none 0]).put 0 (.rw 0 [.int .i64 i116, .fs z118])) (
  some (bv (i123 == i116))))))
  else none)
  ((pureV (call Ev) Fn.impl_ApplyRuns [lv z109, lv z118]).bind fun v126 =>
  gVA v126 fun c127 =>
  (c127[0]?).bind fun x128 =>
  gI .i64 x128 fun i129 =>
  (c127[1]?).bind fun x130 =>
  gF x130 fun z131 =>
  if c127.length = 2 then
  (pureV (call Ev) Fn.impl_InverseRuns [lv z109, lv z118]).bind fun v132 =>
  gVA v132 fun c133 =>
  (c133[0]?).bind fun x134 =>
  gI .i64 x134 fun i135 =>
  (c133[1]?).bind fun x136 =>
  gF x136 fun z137 =>
  if c133.length = 2 then
  (pureV (call Ev) Fn.impl_ApplyRuns [lv z112, lv z137]).bind fun v138 =>
  gVA v138 fun c139 =>
  (c139[0]?).bind fun x140 =>
  gI .i64 x140 fun i141 =>
  (c139[1]?).bind fun x142 =>
  gF x142 fun z143 =>
  if c139.length = 2 then
  (Lp.laws_FnDiffs 0 [lv a0, lv z109, lv z112, pv 0 0, pv 1 0, pv 2 0, pv 3 0, iv .i64 0, iv .i64 0] (((((((((D 0).new 0 [.int .i64 0, .sl none 0]).put 0 (.rw 0 [.int .i64 i116, .fs z118])).new 0 [.int .i64 0, .sl none 0]).put 1 (.rw 0 [.int .i64 i129, .fs z131])).new 0 [.int .i64 0, .sl none 0]).put 2 (.rw 0 [.int .i64 i135, .fs z137])).new 0 [.int .i64 0, .sl none 0]).put 3 (.rw 0 [.int .i64 i141, .fs z143]))).bind fun o144 => lcase o144 (fun l145 h146 =>
  (l145[0]?).bind fun w149 =>
  gV1 w149 fun x150 =>
  gF x150 fun z151 =>
  (l145[1]?).bind fun w152 =>
  (l145[2]?).bind fun w153 =>
  (l145[3]?).bind fun w154 =>
  (l145[4]?).bind fun w155 =>
  (l145[5]?).bind fun w156 =>
  (l145[6]?).bind fun w157 =>
  (l145[7]?).bind fun w158 =>
  gV1 w158 fun x159 =>
  gI .i64 x159 fun i160 =>
  (Lp.laws_FnDiffs 2 [lv z151, w152, w153, w154, w155, w156, w157, iv .i64 i160, iv .i64 0, iv .i64 0] h146).bind fun o161 => lcase o161 (fun l162 h163 =>
  (l162[0]?).bind fun w166 =>
  gV1 w166 fun x167 =>
  gF x167 fun z168 =>
  (l162[1]?).bind fun w169 =>
  (l162[2]?).bind fun w170 =>
  (l162[3]?).bind fun w171 =>
  (l162[4]?).bind fun w172 =>
  (l162[5]?).bind fun w173 =>
  (l162[6]?).bind fun w174 =>
  (l162[7]?).bind fun w175 =>
  gV1 w175 fun x176 =>
  gI .i64 x176 fun i177 =>
  (l162[8]?).bind fun w178 =>
  gV1 w178 fun x179 =>
  gI .i64 x179 fun i180 =>
  (pureV (call Ev) Fn.spec_DrawApplyRuns [lv z168]).bind fun v181 =>
  gVT v181 fun u182 =>
  (u182[0]?).bind fun t183 =>
  gA1 t183 fun x184 =>
  gF x184 fun z185 =>
  (u182[1]?).bind fun t186 =>
  gA1 t186 fun x187 =>
  gF x187 fun z188 =>
  if u182.length = 2 then
  (pureV (call Ev) Fn.impl_ApplyRuns [lv z185, lv z188]).bind fun v189 =>
  gVA v189 fun c190 =>
  (c190[0]?).bind fun x191 =>
  gI .i64 x191 fun i192 =>
  (c190[1]?).bind fun x193 =>
  gF x193 fun z194 =>
  if c190.length = 2 then
  stK 2 (h163.new 0 [.int .i64 0, .sl none 0]) (pv h163.n 0) (.agg [.int .i64 i192, .fs z194]) fun h195 =>
  (padd 1 w171).bind fun v196 =>
  ldK (.one (.f)) ⟨1, 24, [.sl none 0], false, .sl 97, false⟩ h195 v196 fun v197 =>
  (frzVs h195 [v197]).bind fun l198 =>
  pcallS (call Ev) Fn.impl_RunsFault (normVs [] l198) fun v199 =>
  gV1 v199 fun x200 =>
  gI .i64 x200 fun i201 =>
  hchk h195 h195 (
  vcase (bv (i201 == 0))
  ((padd 0 w172).bind fun v203 =>
  ldK (.one (.i .i64)) ⟨1, 8, [.int .i64 0], false, .int .i64, false⟩ h195 v203 fun v204 =>
  gV1 v204 fun x205 =>
  gI .i64 x205 fun i206 =>
  vcase (bv (i206 == 0))
  ((padd 1 w172).bind fun v210 =>
  ldK (.one (.f)) ⟨1, 24, [.sl none 0], false, .sl 5, false⟩ h195 v210 fun v211 =>
  (frzVs h195 [v211, w170]).bind fun l212 =>
  pcallS (call Ev) Fn.laws_lwSame (normVs [] l212) fun v213 =>
  gV1 v213 fun x214 =>
  gB x214 fun q215 =>
  hchk h195 h195 (
  Jn.laws_FnDiffs_1 true v210 v211 w170 (bv q215) q215 w173 h195 w174 w169 i177 i180 h163 z185 z188))
  (hchk h195 h195 (
  Jn.laws_FnDiffs_1 false (.tup []) (.tup []) (.tup []) (.tup []) false w173 h195 w174 w169 i177 i180 h163 z185 z188)))
  (hchk h195 h195 (
  hchk h195 h195 (
  hchk h195 h195 (
  hchk h195 h195 (
  hchk h195 h195 (
  some (bv false))))))))
  else none
  else none) (fun v164 h165 =>
  frzV h165 v164)) (fun v147 h148 =>
  frzV h148 v147)
  else none
  else none
  else none)
  else none
  else none) := by
  rw [pure_eq]; kernel_rfl

theorem eq_laws_FnDiffs_l0 (s0 : List (List S)) (s3 : V) (s4 : V) (s5 : V) (s6 : V) (s7 : V) (s8 : V) (s9 : Int) (s10 : Int) (h : H) : Lp.laws_FnDiffs 0 [lv s0, s3, s4, s5, s6, s7, s8, iv .i64 s9, iv .i64 s10] h =
  (padd 1 s5).bind fun v201 =>
  ldK (.one (.f)) ⟨1, 24, [.sl none 0], false, .sl 97, false⟩ h v201 fun v202 =>
  (lenV (.sl 97) v202).bind fun v203 =>
  gV1 v203 fun x204 =>
  gI .i64 x204 fun i205 =>
  vcase (bv (decide (s10 < i205)))
  ((padd 1 s5).bind fun v208 =>
  ldK (.one (.f)) ⟨1, 24, [.sl none 0], false, .sl 97, false⟩ h v208 fun v209 =>
  idxK 2 v209 (iv .i64 s10) fun v210 =>
  (padd 1 v210).bind fun v211 =>
  ldK (.one (.f)) ⟨1, 24, [.sl none 0], false, .sl 5, false⟩ h v211 fun v212 =>
  (lenV (.sl 5) v212).bind fun v213 =>
  gV1 v213 fun x214 =>
  gI .i64 x214 fun i215 =>
  Lp.laws_FnDiffs 0 [lv s0, s3, s4, s5, s6, s7, s8, iv .i64 (IntKind.i64.wrap (s9 + i215)), iv .i64 (IntKind.i64.wrap (s10 + 1))] (tidy h [lv s0, s3, s4, s5, s6, s7, s8, iv .i64 (IntKind.i64.wrap (s9 + i215)), iv .i64 (IntKind.i64.wrap (s10 + 1))] h))
  (some (.done [lv s0, s3, s4, s5, s6, s7, s8, iv .i64 s9] (tidy h [lv s0, s3, s4, s5, s6, s7, s8, iv .i64 s9] h))) := by
  unfold Lp.laws_FnDiffs; rw [loop_eq]; kernel_rfl

theorem eq_laws_FnDiffs_l2 (s0 : List (List S)) (s3 : V) (s4 : V) (s5 : V) (s6 : V) (s7 : V) (s8 : V) (s9 : Int) (s11 : Int) (s12 : Int) (h : H) : Lp.laws_FnDiffs 2 [lv s0, s3, s4, s5, s6, s7, s8, iv .i64 s9, iv .i64 s11, iv .i64 s12] h =
  (lenV (.sl 5) s3).bind fun v401 =>
  gV1 v401 fun x402 =>
  gI .i64 x402 fun i403 =>
  vcase (bv (decide (s12 < i403)))
  (idxK 1 s3 (iv .i64 s12) fun v406 =>
  ldK (.one (.i .u8)) ⟨1, 1, [.int .u8 0], false, .int .u8, false⟩ h v406 fun v407 =>
  gV1 v407 fun x408 =>
  gI .u8 x408 fun i409 =>
  idxK 1 s4 (iv .i64 s12) fun v410 =>
  ldK (.one (.i .u8)) ⟨1, 1, [.int .u8 0], false, .int .u8, false⟩ h v410 fun v411 =>
  gV1 v411 fun x412 =>
  gI .u8 x412 fun i413 =>
  vcase (bv (i409 != i413))
  (Lp.laws_FnDiffs 2 [lv s0, s3, s4, s5, s6, s7, s8, iv .i64 s9, iv .i64 (IntKind.i64.wrap (s11 + 1)), iv .i64 (IntKind.i64.wrap (s12 + 1))] (tidy h [lv s0, s3, s4, s5, s6, s7, s8, iv .i64 s9, iv .i64 (IntKind.i64.wrap (s11 + 1)), iv .i64 (IntKind.i64.wrap (s12 + 1))] h))
  (Lp.laws_FnDiffs 2 [lv s0, s3, s4, s5, s6, s7, s8, iv .i64 s9, iv .i64 s11, iv .i64 (IntKind.i64.wrap (s12 + 1))] (tidy h [lv s0, s3, s4, s5, s6, s7, s8, iv .i64 s9, iv .i64 s11, iv .i64 (IntKind.i64.wrap (s12 + 1))] h)))
  (some (.done [lv s0, s3, s4, s5, s6, s7, s8, iv .i64 s9, iv .i64 s11] (tidy h [lv s0, s3, s4, s5, s6, s7, s8, iv .i64 s9, iv .i64 s11] h))) := by
  unfold Lp.laws_FnDiffs; rw [loop_eq]; kernel_rfl

end Vm
