/-
  What each function, and each round of each loop, comes to in the small machine. Written by a program (gen3.py).
-/
import Derived.Test.YtpdoloemacmbaaaEnv
set_option linter.unusedVariables false
set_option maxRecDepth 100000
namespace Vm
open Go

theorem eq_laws_toRecord (a0_0 : Int) (a0_1 : Int) (a0_2 : Int) (a0_3 : List (List S)) (n : Nat) : call Ev Fn.laws_toRecord [.agg [.int .i64 a0_0, .int .i64 a0_1, .int .i64 a0_2, .fs a0_3]] (D n) =
  (load1 ((((D n).new 0 [.int .i64 a0_0, .int .i64 a0_1, .int .i64 a0_2, .fs a0_3]).new 0 [.int .i64 0, .int .i64 0, .int .i64 0, .sl none 0]).new 0 [.int .i64 0, .int .i64 0, .int .i64 0, .sl none 0]) (pv ((D n).n) 0)).bind fun x101 =>
  gI .i64 x101 fun i102 =>
  stK 1 ((((D n).new 0 [.int .i64 a0_0, .int .i64 a0_1, .int .i64 a0_2, .fs a0_3]).new 0 [.int .i64 0, .int .i64 0, .int .i64 0, .sl none 0]).new 0 [.int .i64 0, .int .i64 0, .int .i64 0, .sl none 0]) (pv ((((D n).new 0 [.int .i64 a0_0, .int .i64 a0_1, .int .i64 a0_2, .fs a0_3]).new 0 [.int .i64 0, .int .i64 0, .int .i64 0, .sl none 0]).n) 0) (iv .i64 i102) fun h103 =>
  (load1 h103 (pv ((D n).n) 1)).bind fun x104 =>
  gI .i64 x104 fun i105 =>
  stK 1 h103 (pv ((((D n).new 0 [.int .i64 a0_0, .int .i64 a0_1, .int .i64 a0_2, .fs a0_3]).new 0 [.int .i64 0, .int .i64 0, .int .i64 0, .sl none 0]).n) 1) (iv .i64 i105) fun h106 =>
  (load1 h106 (pv ((D n).n) 2)).bind fun x107 =>
  gI .i64 x107 fun i108 =>
  stK 1 h106 (pv ((((D n).new 0 [.int .i64 a0_0, .int .i64 a0_1, .int .i64 a0_2, .fs a0_3]).new 0 [.int .i64 0, .int .i64 0, .int .i64 0, .sl none 0]).n) 2) (iv .i64 i108) fun h109 =>
  (load1 h109 (pv ((D n).n) 3)).bind fun x110 =>
  (frzVs h109 [.s x110]).bind fun l111 =>
  pcallF (call Ev) Fn.laws_toRunS ([.s x110].all offV) (normVs [] l111) h109 fun v112 h113 =>
  stK 1 h113 (pv ((((D n).new 0 [.int .i64 a0_0, .int .i64 a0_1, .int .i64 a0_2, .fs a0_3]).new 0 [.int .i64 0, .int .i64 0, .int .i64 0, .sl none 0]).n) 3) v112 fun h114 =>
  (loadN 4 h114 (pv ((((D n).new 0 [.int .i64 a0_0, .int .i64 a0_1, .int .i64 a0_2, .fs a0_3]).new 0 [.int .i64 0, .int .i64 0, .int .i64 0, .sl none 0]).n) 0)).bind fun c115 =>
  (c115[0]?).bind fun x116 =>
  gI .i64 x116 fun i117 =>
  (c115[1]?).bind fun x118 =>
  gI .i64 x118 fun i119 =>
  (c115[2]?).bind fun x120 =>
  gI .i64 x120 fun i121 =>
  (c115[3]?).bind fun x122 =>
  if c115.length = 4 then
  stK 4 h114 (pv (((D n).new 0 [.int .i64 a0_0, .int .i64 a0_1, .int .i64 a0_2, .fs a0_3]).n) 0) (.agg [.int .i64 i117, .int .i64 i119, .int .i64 i121, x122]) fun h123 =>
  (loadN 4 h123 (pv (((D n).new 0 [.int .i64 a0_0, .int .i64 a0_1, .int .i64 a0_2, .fs a0_3]).n) 0)).bind fun c124 =>
  some (.agg c124, h123)
  else none := by
  rw [call_eq]; kernel_rfl

theorem pu_impl_isTx (a0 : Int) : pureV (call Ev) Fn.impl_isTx [iv .i64 a0] =
  pcallS (call Ev) Fn.impl_in [iv .i64 a0, iv .i64 1, iv .i64 99] fun v101 =>
  gV1 v101 fun x102 =>
  gB x102 fun q103 =>
  some (bv q103) := by
  rw [pure_eq]; kernel_rfl

theorem pu_impl_turns (a0 : Int) : pureV (call Ev) Fn.impl_turns [iv .i64 a0] =
  vcase (bv (a0 == 2))
  (some (bv true))
  (vcase (bv (a0 == 3))
  (some (bv true))
  (some (bv (a0 == 4)))) := by
  rw [pure_eq]; kernel_rfl

theorem pu_impl_RunsFault (a0 : List (List S)) : pureV (call Ev) Fn.impl_RunsFault [lv a0] =
  vcase (bv (decide ((a0.length : Int) > 64)))
  (some (iv .i64 2))
  ((Lp.impl_RunsFault 0 [iv .i64 0, lv a0, iv .i64 (a0.length : Int), iv .i64 0] (D 0)).bind fun o102 => lcase o102 (fun l103 h104 =>
  some (iv .i64 0)) (fun v105 h106 =>
  frzV h106 v105)) := by
  rw [pure_eq]; kernel_rfl

theorem eq_impl_RunsFault_l0 (s3 : Int) (s10 : List (List S)) (s11 : Int) (s12 : Int) (h : H) : Lp.impl_RunsFault 0 [iv .i64 s3, lv s10, iv .i64 s11, iv .i64 s12] h =
  vcase (bv (decide (s12 < s11)))
  (idxF 2 s10 s12 fun r203 =>
  (rowN 2 r203 0).bind fun c204 =>
  (c204[0]?).bind fun x205 =>
  gI .i64 x205 fun i206 =>
  (c204[1]?).bind fun x207 =>
  gF x207 fun z208 =>
  if c204.length = 2 then
  stK 2 (h.new 0 [.int .i64 0, .sl none 0]) (pv h.n 0) (.agg [.int .i64 i206, .fs z208]) fun h209 =>
  (load1 h209 (pv h.n 1)).bind fun x210 =>
  (lenV (.sl 5) (.s x210)).bind fun v211 =>
  gV1 v211 fun x212 =>
  gI .i64 x212 fun i213 =>
  (load1 h209 (pv h.n 0)).bind fun x214 =>
  gI .i64 x214 fun i215 =>
  pcallS (call Ev) Fn.impl_in [iv .i64 i215, iv .i64 0, iv .i64 63] fun v216 =>
  gV1 v216 fun x217 =>
  gB x217 fun q218 =>
  vcase (bv (!q218))
  (some (.ret (iv .i64 3) h209))
  (pcallS (call Ev) Fn.impl_in [iv .i64 i213, iv .i64 1, iv .i64 64] fun v221 =>
  gV1 v221 fun x222 =>
  gB x222 fun q223 =>
  vcase (bv (!q223))
  (some (.ret (iv .i64 3) h209))
  ((load1 h209 (pv h.n 0)).bind fun x229 =>
  gI .i64 x229 fun i230 =>
  vcase (bv (decide ((IntKind.i64.wrap (i230 + i213)) > 64)))
  (some (.ret (iv .i64 3) h209))
  ((load1 h209 (pv h.n 0)).bind fun x234 =>
  gI .i64 x234 fun i235 =>
  vcase (bv (decide (i235 < s3)))
  (some (.ret (iv .i64 1) h209))
  ((load1 h209 (pv h.n 0)).bind fun x237 =>
  gI .i64 x237 fun i238 =>
  Lp.impl_RunsFault 0 [iv .i64 (IntKind.i64.wrap ((IntKind.i64.wrap (i238 + i213)) + 1)), lv s10, iv .i64 s11, iv .i64 (IntKind.i64.wrap (s12 + 1))] (tidy h [iv .i64 (IntKind.i64.wrap ((IntKind.i64.wrap (i238 + i213)) + 1)), lv s10, iv .i64 s11, iv .i64 (IntKind.i64.wrap (s12 + 1))] h209)))))
  else none)
  (some (.done [] (tidy h [] h))) := by
  unfold Lp.impl_RunsFault; rw [loop_eq]; kernel_rfl

noncomputable def Jn.impl_RecordFault_0 (q295 : Bool) (a0_3 : List (List S)) (a0_0 : Int) : Option (V) :=
  vcase (bv q295)
  (some (iv .i64 3))
  (pcallS (call Ev) Fn.impl_RunsFault [lv a0_3] fun v297 =>
  gV1 v297 fun x298 =>
  gI .i64 x298 fun i299 =>
  vcase (bv (i299 != 0))
  (some (iv .i64 i299))
  (pcallS (call Ev) Fn.impl_turns [iv .i64 a0_0] fun v301 =>
  gV1 v301 fun x302 =>
  gB x302 fun q303 =>
  vcase (bv q303)
  (vcase (bv ((a0_3.length : Int) == 0))
  (some (iv .i64 1))
  (vcase (bv (a0_0 == 4))
  (vcase (bv ((a0_3.length : Int) != 1))
  (some (iv .i64 1))
  (idxF 2 a0_3 0 fun r312 =>
  (r312[1]?).bind fun x313 =>
  gF x313 fun z314 =>
  vcase (bv ((z314.length : Int) != 64))
  (some (iv .i64 1))
  (some (iv .i64 0))))
  (some (iv .i64 0))))
  (vcase (bv (a0_0 == 4))
  (vcase (bv ((a0_3.length : Int) != 1))
  (some (iv .i64 1))
  (idxF 2 a0_3 0 fun r329 =>
  (r329[1]?).bind fun x330 =>
  gF x330 fun z331 =>
  vcase (bv ((z331.length : Int) != 64))
  (some (iv .i64 1))
  (some (iv .i64 0))))
  (some (iv .i64 0)))))

noncomputable def Jn.impl_RecordFault_1 (q288 : Bool) (a0_2 : Int) (a0_3 : List (List S)) (a0_0 : Int) : Option (V) :=
  vcase (bv q288)
  (Jn.impl_RecordFault_0 true a0_3 a0_0)
  (pcallS (call Ev) Fn.impl_in [iv .i64 a0_2, iv .i64 0, iv .i64 11] fun v291 =>
  gV1 v291 fun x292 =>
  gB x292 fun q293 =>
  Jn.impl_RecordFault_0 (!q293) a0_3 a0_0)

theorem pu_impl_RecordFault (a0_0 : Int) (a0_1 : Int) (a0_2 : Int) (a0_3 : List (List S)) : pureV (call Ev) Fn.impl_RecordFault [.agg [.int .i64 a0_0, .int .i64 a0_1, .int .i64 a0_2, .fs a0_3]] =
  pcallS (call Ev) Fn.impl_in [iv .i64 a0_0, iv .i64 1, iv .i64 6] fun v101 =>
  gV1 v101 fun x102 =>
  gB x102 fun q103 =>
  vcase (bv (!q103))
  (some (iv .i64 1))
  (pcallS (call Ev) Fn.impl_turns [iv .i64 a0_0] fun v106 =>
  gV1 v106 fun x107 =>
  gB x107 fun q108 =>
  vcase (bv (!q108))
  (vcase (bv (a0_2 != 0))
  (some (iv .i64 1))
  (vcase (bv (decide ((a0_3.length : Int) > 0)))
  (some (iv .i64 1))
  (vcase (bv (a0_0 == 4))
  (vcase (bv (a0_1 != 0))
  (some (iv .i64 1))
  (vcase (bv (a0_0 != 4))
  (pcallS (call Ev) Fn.impl_isTx [iv .i64 a0_1] fun v133 =>
  gV1 v133 fun x134 =>
  gB x134 fun q135 =>
  Jn.impl_RecordFault_1 (!q135) a0_2 a0_3 a0_0)
  (Jn.impl_RecordFault_1 false a0_2 a0_3 a0_0)))
  (vcase (bv (a0_0 != 4))
  (pcallS (call Ev) Fn.impl_isTx [iv .i64 a0_1] fun v344 =>
  gV1 v344 fun x345 =>
  gB x345 fun q346 =>
  Jn.impl_RecordFault_1 (!q346) a0_2 a0_3 a0_0)
  (Jn.impl_RecordFault_1 false a0_2 a0_3 a0_0)))))
  (vcase (bv (a0_0 == 4))
  (vcase (bv (a0_1 != 0))
  (some (iv .i64 1))
  (vcase (bv (a0_0 != 4))
  (pcallS (call Ev) Fn.impl_isTx [iv .i64 a0_1] fun v409 =>
  gV1 v409 fun x410 =>
  gB x410 fun q411 =>
  Jn.impl_RecordFault_1 (!q411) a0_2 a0_3 a0_0)
  (Jn.impl_RecordFault_1 false a0_2 a0_3 a0_0)))
  (vcase (bv (a0_0 != 4))
  (pcallS (call Ev) Fn.impl_isTx [iv .i64 a0_1] fun v471 =>
  gV1 v471 fun x472 =>
  gB x472 fun q473 =>
  Jn.impl_RecordFault_1 (!q473) a0_2 a0_3 a0_0)
  (Jn.impl_RecordFault_1 false a0_2 a0_3 a0_0)))) := by
  rw [pure_eq]; kernel_rfl

theorem eq_slices_Clone_byte_byte (a0 : List (List S)) (n : Nat) : call Ev Fn.slices_Clone_byte_byte [lv a0] (D n) =
  (bin Ev .eql 46 (lv a0) (.s (.sl none 0))).bind fun b101 =>
  gV1 b101 fun x102 =>
  gB x102 fun q103 =>
  vcase (bv q103)
  (some (.s (.sl none 0), (D n)))
  ((appS 1 ((D n).new 1 []) (sv ((D n).n) 0 0) (lv a0)).bind fun p105 =>
  some (p105.1, p105.2)) := by
  rw [call_eq]; kernel_rfl

theorem eq_impl_newPage (a0 : Int) (n : Nat) : call Ev Fn.impl_newPage [iv .u8 a0] (D n) =
  (mkSl 1 [.int .u8 0] (D n) (iv .i64 64) (iv .i64 64)).bind fun p101 =>
  (lenV (.sl 5) p101.1).bind fun v102 =>
  gV1 v102 fun x103 =>
  gI .i64 x103 fun i104 =>
  (Lp.impl_newPage 0 [iv .u8 a0, p101.1, iv .i64 i104, iv .i64 0] p101.2).bind fun o105 => lcase o105 (fun l106 h107 =>
  (l106[0]?).bind fun w110 =>
  idxK 1 w110 (iv .i64 0) fun v111 =>
  stK 1 h107 v111 (iv .u8 0) fun h112 =>
  idxK 1 w110 (iv .i64 1) fun v113 =>
  stK 1 h112 v113 (iv .u8 64) fun h114 =>
  some (w110, h114)) (fun v108 h109 =>
  some (v108, h109)) := by
  rw [call_eq]; kernel_rfl

theorem eq_impl_newPage_l0 (s0 : Int) (s3 : V) (s7 : Int) (s8 : Int) (h : H) : Lp.impl_newPage 0 [iv .u8 s0, s3, iv .i64 s7, iv .i64 s8] h =
  vcase (bv (decide (s8 < s7)))
  (idxK 1 s3 (iv .i64 s8) fun v203 =>
  stK 1 h v203 (iv .u8 s0) fun h204 =>
  Lp.impl_newPage 0 [iv .u8 s0, s3, iv .i64 s7, iv .i64 (IntKind.i64.wrap (s8 + 1))] (tidy h [iv .u8 s0, s3, iv .i64 s7, iv .i64 (IntKind.i64.wrap (s8 + 1))] h204))
  (some (.done [s3] (tidy h [s3] h))) := by
  unfold Lp.impl_newPage; rw [loop_eq]; kernel_rfl

theorem eq_impl_copied (a0 : List (List S)) (n : Nat) : call Ev Fn.impl_copied [lv a0] (D n) =
  (appS 1 ((D n).new 1 []) (sv ((D n).n) 0 0) (lv a0)).bind fun p101 =>
  some (p101.1, p101.2) := by
  rw [call_eq]; kernel_rfl

theorem eq_impl_applied (a0 : List (List S)) (a1 : List (List S)) (n : Nat) : call Ev Fn.impl_applied [lv a0, lv a1] (D n) =
  pcallF (call Ev) Fn.impl_copied true [lv a0] (D n) fun v101 h102 =>
  (Lp.impl_applied 0 [v101, lv a1, iv .i64 (a1.length : Int), iv .i64 0] h102).bind fun o103 => lcase o103 (fun l104 h105 =>
  (l104[0]?).bind fun w108 =>
  some (w108, h105)) (fun v106 h107 =>
  some (v106, h107)) := by
  rw [call_eq]; kernel_rfl

theorem eq_impl_applied_l0 (s5 : V) (s10 : List (List S)) (s11 : Int) (s12 : Int) (h : H) : Lp.impl_applied 0 [s5, lv s10, iv .i64 s11, iv .i64 s12] h =
  vcase (bv (decide (s12 < s11)))
  (idxF 2 s10 s12 fun r203 =>
  (rowN 2 r203 0).bind fun c204 =>
  (c204[0]?).bind fun x205 =>
  gI .i64 x205 fun i206 =>
  (c204[1]?).bind fun x207 =>
  gF x207 fun z208 =>
  if c204.length = 2 then
  stK 2 (h.new 0 [.int .i64 0, .sl none 0]) (pv h.n 0) (.agg [.int .i64 i206, .fs z208]) fun h209 =>
  (load1 h209 (pv h.n 0)).bind fun x210 =>
  gI .i64 x210 fun i211 =>
  slK 1 h209 s5 (some (iv .i64 i211)) none fun v212 =>
  (load1 h209 (pv h.n 1)).bind fun x213 =>
  (copS 1 h209 v212 (.s x213)).bind fun p214 =>
  gV1 p214.1 fun x215 =>
  gI .i64 x215 fun i216 =>
  Lp.impl_applied 0 [s5, lv s10, iv .i64 s11, iv .i64 (IntKind.i64.wrap (s12 + 1))] (tidy h [s5, lv s10, iv .i64 s11, iv .i64 (IntKind.i64.wrap (s12 + 1))] p214.2)
  else none)
  (some (.done [s5] (tidy h [s5] h))) := by
  unfold Lp.impl_applied; rw [loop_eq]; kernel_rfl

theorem eq_impl_recorded (a0 : List (List S)) (a1_0 : Int) (a1_1 : Int) (a1_2 : Int) (a1_3 : List (List S)) (n : Nat) : call Ev Fn.impl_recorded [lv a0, .agg [.int .i64 a1_0, .int .i64 a1_1, .int .i64 a1_2, .fs a1_3]] (D n) =
  (load1 ((D n).new 0 [.int .i64 a1_0, .int .i64 a1_1, .int .i64 a1_2, .fs a1_3]) (pv ((D n).n) 0)).bind fun x101 =>
  gI .i64 x101 fun i102 =>
  pcallS (call Ev) Fn.impl_turns [iv .i64 i102] fun v103 =>
  gV1 v103 fun x104 =>
  gB x104 fun q105 =>
  vcase (bv (!q105))
  (some (.tup [.s (.fs a0), .s (.int .i64 0)], (D n).new 0 [.int .i64 a1_0, .int .i64 a1_1, .int .i64 a1_2, .fs a1_3]))
  ((load1 ((D n).new 0 [.int .i64 a1_0, .int .i64 a1_1, .int .i64 a1_2, .fs a1_3]) (pv ((D n).n) 2)).bind fun x107 =>
  gI .i64 x107 fun i108 =>
  vcase (bv (decide (i108 > (a0.length : Int))))
  (some (.tup [.s (.sl none 0), .s (.int .i64 1)], (D n).new 0 [.int .i64 a1_0, .int .i64 a1_1, .int .i64 a1_2, .fs a1_3]))
  ((load1 ((D n).new 0 [.int .i64 a1_0, .int .i64 a1_1, .int .i64 a1_2, .fs a1_3]) (pv ((D n).n) 2)).bind fun x110 =>
  gI .i64 x110 fun i111 =>
  vcase (bv (i111 == 12))
  (some (.tup [.s (.sl none 0), .s (.int .i64 2)], (D n).new 0 [.int .i64 a1_0, .int .i64 a1_1, .int .i64 a1_2, .fs a1_3]))
  (pcallF (call Ev) Fn.slices_Clone_byte_byte true [lv a0] ((D n).new 0 [.int .i64 a1_0, .int .i64 a1_1, .int .i64 a1_2, .fs a1_3]) fun v113 h114 =>
  (load1 h114 (pv ((D n).n) 2)).bind fun x115 =>
  gI .i64 x115 fun i116 =>
  vcase (bv (i116 == (a0.length : Int)))
  (pcallF (call Ev) Fn.impl_newPage true [iv .u8 0] h114 fun v118 h119 =>
  cellsK v118 fun c120 =>
  if c120.length = 1 ∧ 0 + 1 ≤ ([.sl none 0] : List S).length then
  (appS 1 (h119.new 1 (setAt ([.sl none 0] : List S) 0 c120)) v113 (sv h119.n 0 1)).bind fun p121 =>
  (load1 p121.2 (pv ((D n).n) 2)).bind fun x122 =>
  gI .i64 x122 fun i123 =>
  (load1 p121.2 (pv ((D n).n) 2)).bind fun x124 =>
  gI .i64 x124 fun i125 =>
  idxK 1 p121.1 (iv .i64 i125) fun v126 =>
  ldK (.one (.f)) ⟨1, 24, [.sl none 0], false, .sl 5, false⟩ p121.2 v126 fun v127 =>
  (load1 p121.2 (pv ((D n).n) 3)).bind fun x128 =>
  (frzVs p121.2 [v127, .s x128]).bind fun l129 =>
  pcallF (call Ev) Fn.impl_applied ([v127, .s x128].all offV) (normVs [] l129) p121.2 fun v130 h131 =>
  hchk p121.2 h131 (
  bif scaV v130 then
  idxK 1 p121.1 (iv .i64 i123) fun v132 =>
  stK 1 h131 v132 v130 fun h133 =>
  (V.toA p121.1).bind fun t134 =>
  some (.tup [t134, .s (.int .i64 0)], h133)
  else none)
  else none)
  ((load1 h114 (pv ((D n).n) 2)).bind fun x135 =>
  gI .i64 x135 fun i136 =>
  (load1 h114 (pv ((D n).n) 2)).bind fun x137 =>
  gI .i64 x137 fun i138 =>
  idxK 1 v113 (iv .i64 i138) fun v139 =>
  ldK (.one (.f)) ⟨1, 24, [.sl none 0], false, .sl 5, false⟩ h114 v139 fun v140 =>
  (load1 h114 (pv ((D n).n) 3)).bind fun x141 =>
  (frzVs h114 [v140, .s x141]).bind fun l142 =>
  pcallF (call Ev) Fn.impl_applied ([v140, .s x141].all offV) (normVs [] l142) h114 fun v143 h144 =>
  hchk h114 h144 (
  bif scaV v143 then
  idxK 1 v113 (iv .i64 i136) fun v145 =>
  stK 1 h144 v145 v143 fun h146 =>
  (V.toA v113).bind fun t147 =>
  some (.tup [t147, .s (.int .i64 0)], h146)
  else none))))) := by
  rw [call_eq]; kernel_rfl

theorem eq_impl_copies (a0 : List (List S)) (n : Nat) : call Ev Fn.impl_copies [lv a0] (D n) =
  (Lp.impl_copies 0 [.s (.sl none 0), lv a0, iv .i64 (a0.length : Int), iv .i64 0] (D n)).bind fun o101 => lcase o101 (fun l102 h103 =>
  (l102[0]?).bind fun w106 =>
  some (w106, h103)) (fun v104 h105 =>
  some (v104, h105)) := by
  rw [call_eq]; kernel_rfl

theorem eq_impl_copies_l0 (s3 : V) (s6 : List (List S)) (s7 : Int) (s8 : Int) (h : H) : Lp.impl_copies 0 [s3, lv s6, iv .i64 s7, iv .i64 s8] h =
  vcase (bv (decide (s8 < s7)))
  (idxF 1 s6 s8 fun r203 =>
  (r203[0]?).bind fun x204 =>
  gF x204 fun z205 =>
  pcallF (call Ev) Fn.impl_copied true [lv z205] h fun v206 h207 =>
  cellsK v206 fun c208 =>
  if c208.length = 1 ∧ 0 + 1 ≤ ([.sl none 0] : List S).length then
  (appS 1 (h207.new 1 (setAt ([.sl none 0] : List S) 0 c208)) s3 (sv h207.n 0 1)).bind fun p209 =>
  Lp.impl_copies 0 [p209.1, lv s6, iv .i64 s7, iv .i64 (IntKind.i64.wrap (s8 + 1))] (tidy h [p209.1, lv s6, iv .i64 s7, iv .i64 (IntKind.i64.wrap (s8 + 1))] p209.2)
  else none)
  (some (.done [s3] (tidy h [s3] h))) := by
  unfold Lp.impl_copies; rw [loop_eq]; kernel_rfl

theorem eq_impl_ApplyRecord (a0 : List (List S)) (a1_0 : Int) (a1_1 : Int) (a1_2 : Int) (a1_3 : List (List S)) (n : Nat) : call Ev Fn.impl_ApplyRecord [lv a0, .agg [.int .i64 a1_0, .int .i64 a1_1, .int .i64 a1_2, .fs a1_3]] (D n) =
  vcase (bv (decide ((a0.length : Int) > 12)))
  (stK 3 (((D n).new 0 [.int .i64 a1_0, .int .i64 a1_1, .int .i64 a1_2, .fs a1_3]).new 0 [.int .i64 0, .sl none 0, .sl none 0]) (pv (((D n).new 0 [.int .i64 a1_0, .int .i64 a1_1, .int .i64 a1_2, .fs a1_3]).n) 0) (.agg [.int .i64 2, .sl none 0, .sl none 0]) fun h102 =>
  (loadN 3 h102 (pv (((D n).new 0 [.int .i64 a1_0, .int .i64 a1_1, .int .i64 a1_2, .fs a1_3]).n) 0)).bind fun c103 =>
  some (.agg c103, h102))
  ((Lp.impl_ApplyRecord 0 [lv a0, pv ((D n).n) 0, pv (((D n).new 0 [.int .i64 a1_0, .int .i64 a1_1, .int .i64 a1_2, .fs a1_3]).n) 0, lv a0, iv .i64 (a0.length : Int), iv .i64 0] (((D n).new 0 [.int .i64 a1_0, .int .i64 a1_1, .int .i64 a1_2, .fs a1_3]).new 0 [.int .i64 0, .sl none 0, .sl none 0])).bind fun o104 => lcase o104 (fun l105 h106 =>
  (l105[0]?).bind fun w109 =>
  gV1 w109 fun x110 =>
  gF x110 fun z111 =>
  (l105[1]?).bind fun w112 =>
  (l105[2]?).bind fun w113 =>
  ldK (.agg [.i .i64, .i .i64, .i .i64, .f]) ⟨4, 48, [.int .i64 0, .int .i64 0, .int .i64 0, .sl none 0], true, .st [(0, 2), (1, 2), (2, 2), (3, 57)], false⟩ h106 w112 fun v114 =>
  gVA v114 fun c115 =>
  (c115[0]?).bind fun x116 =>
  gI .i64 x116 fun i117 =>
  (c115[1]?).bind fun x118 =>
  gI .i64 x118 fun i119 =>
  (c115[2]?).bind fun x120 =>
  gI .i64 x120 fun i121 =>
  (c115[3]?).bind fun x122 =>
  if c115.length = 4 then
  (frzVs h106 [.agg [.int .i64 i117, .int .i64 i119, .int .i64 i121, x122]]).bind fun l123 =>
  pcallS (call Ev) Fn.impl_RecordFault (normVs [] l123) fun v124 =>
  gV1 v124 fun x125 =>
  gI .i64 x125 fun i126 =>
  vcase (bv (i126 != 0))
  (stK 3 h106 w113 (.agg [.int .i64 i126, .sl none 0, .sl none 0]) fun h128 =>
  ldT ⟨3, 56, [.int .i64 0, .sl none 0, .sl none 0], true, .st [(0, 2), (1, 52), (2, 46)], false⟩ h128 w113 fun v129 =>
  some (v129, h128))
  (ldK (.agg [.i .i64, .i .i64, .i .i64, .f]) ⟨4, 48, [.int .i64 0, .int .i64 0, .int .i64 0, .sl none 0], true, .st [(0, 2), (1, 2), (2, 2), (3, 57)], false⟩ h106 w112 fun v130 =>
  gVA v130 fun c131 =>
  (c131[0]?).bind fun x132 =>
  gI .i64 x132 fun i133 =>
  (c131[1]?).bind fun x134 =>
  gI .i64 x134 fun i135 =>
  (c131[2]?).bind fun x136 =>
  gI .i64 x136 fun i137 =>
  (c131[3]?).bind fun x138 =>
  if c131.length = 4 then
  (frzVs h106 [lv z111, .agg [.int .i64 i133, .int .i64 i135, .int .i64 i137, x138]]).bind fun l139 =>
  pcallF (call Ev) Fn.impl_recorded ([lv z111, .agg [.int .i64 i133, .int .i64 i135, .int .i64 i137, x138]].all offV) (normVs [] l139) h106 fun v140 h141 =>
  gVT v140 fun u142 =>
  (u142[0]?).bind fun t143 =>
  gA1 t143 fun x144 =>
  (u142[1]?).bind fun t145 =>
  gA1 t145 fun x146 =>
  gI .i64 x146 fun i147 =>
  if u142.length = 2 then
  vcase (bv (i147 != 0))
  (stK 3 h141 w113 (.agg [.int .i64 i147, .sl none 0, .sl none 0]) fun h149 =>
  ldT ⟨3, 56, [.int .i64 0, .sl none 0, .sl none 0], true, .st [(0, 2), (1, 52), (2, 46)], false⟩ h149 w113 fun v150 =>
  some (v150, h149))
  ((frzVs h141 [.s x144]).bind fun l151 =>
  pcallF (call Ev) Fn.impl_copies ([.s x144].all offV) (normVs [] l151) h141 fun v152 h153 =>
  cellsK v152 fun c154 =>
  if c154.length = 1 ∧ 2 + 1 ≤ ([.int .i64 0, .sl none 0, .sl none 0] : List S).length then
  ((setAt ([.int .i64 0, .sl none 0, .sl none 0] : List S) 2 c154)[0]?).bind fun x155 =>
  gI .i64 x155 fun i156 =>
  ((setAt ([.int .i64 0, .sl none 0, .sl none 0] : List S) 2 c154)[1]?).bind fun x157 =>
  ((setAt ([.int .i64 0, .sl none 0, .sl none 0] : List S) 2 c154)[2]?).bind fun x158 =>
  if (setAt ([.int .i64 0, .sl none 0, .sl none 0] : List S) 2 c154).length = 3 then
  stK 3 h153 w113 (.agg [.int .i64 i156, x157, x158]) fun h159 =>
  ldT ⟨3, 56, [.int .i64 0, .sl none 0, .sl none 0], true, .st [(0, 2), (1, 52), (2, 46)], false⟩ h159 w113 fun v160 =>
  some (v160, h159)
  else none
  else none)
  else none
  else none)
  else none) (fun v107 h108 =>
  some (v107, h108))) := by
  rw [call_eq]; kernel_rfl

theorem eq_impl_ApplyRecord_l0 (s0 : List (List S)) (s3 : V) (s4 : V) (s14 : List (List S)) (s15 : Int) (s16 : Int) (h : H) : Lp.impl_ApplyRecord 0 [lv s0, s3, s4, lv s14, iv .i64 s15, iv .i64 s16] h =
  vcase (bv (decide (s16 < s15)))
  (idxF 1 s14 s16 fun r203 =>
  (r203[0]?).bind fun x204 =>
  gF x204 fun z205 =>
  vcase (bv ((z205.length : Int) != 64))
  (stK 3 h s4 (.agg [.int .i64 1, .sl none 0, .sl none 0]) fun h207 =>
  ldT ⟨3, 56, [.int .i64 0, .sl none 0, .sl none 0], true, .st [(0, 2), (1, 52), (2, 46)], false⟩ h207 s4 fun v208 =>
  some (.ret v208 h207))
  (Lp.impl_ApplyRecord 0 [lv s0, s3, s4, lv s14, iv .i64 s15, iv .i64 (IntKind.i64.wrap (s16 + 1))] (tidy h [lv s0, s3, s4, lv s14, iv .i64 s15, iv .i64 (IntKind.i64.wrap (s16 + 1))] h)))
  (some (.done [lv s0, s3, s4] (tidy h [lv s0, s3, s4] h))) := by
  unfold Lp.impl_ApplyRecord; rw [loop_eq]; kernel_rfl

theorem pu_laws_eqByteS (a0 : List (List S)) (a1 : List (List S)) : pureV (call Ev) Fn.laws_eqByteS [lv a0, lv a1] =
  vcase (bv ((a0.length : Int) != (a1.length : Int)))
  (some (bv false))
  ((Lp.laws_eqByteS 0 [lv a0, lv a1, iv .i64 0] (D 0)).bind fun o102 => lcase o102 (fun l103 h104 =>
  some (bv true)) (fun v105 h106 =>
  frzV h106 v105)) := by
  rw [pure_eq]; kernel_rfl

theorem eq_laws_eqByteS_l0 (s0 : List (List S)) (s1 : List (List S)) (s5 : Int) (h : H) : Lp.laws_eqByteS 0 [lv s0, lv s1, iv .i64 s5] h =
  vcase (bv (decide (s5 < (s0.length : Int))))
  (idxF 1 s0 s5 fun r203 =>
  (r203[0]?).bind fun x204 =>
  gI .u8 x204 fun i205 =>
  idxF 1 s1 s5 fun r206 =>
  (r206[0]?).bind fun x207 =>
  gI .u8 x207 fun i208 =>
  vcase (bv (i205 != i208))
  (some (.ret (bv false) h))
  (Lp.laws_eqByteS 0 [lv s0, lv s1, iv .i64 (IntKind.i64.wrap (s5 + 1))] (tidy h [lv s0, lv s1, iv .i64 (IntKind.i64.wrap (s5 + 1))] h)))
  (some (.done [] (tidy h [] h))) := by
  unfold Lp.laws_eqByteS; rw [loop_eq]; kernel_rfl

theorem pu_laws_eqByteSS (a0 : List (List S)) (a1 : List (List S)) : pureV (call Ev) Fn.laws_eqByteSS [lv a0, lv a1] =
  vcase (bv ((a0.length : Int) != (a1.length : Int)))
  (some (bv false))
  ((Lp.laws_eqByteSS 0 [lv a0, lv a1, iv .i64 0] (D 0)).bind fun o102 => lcase o102 (fun l103 h104 =>
  some (bv true)) (fun v105 h106 =>
  frzV h106 v105)) := by
  rw [pure_eq]; kernel_rfl

theorem eq_laws_eqByteSS_l0 (s0 : List (List S)) (s1 : List (List S)) (s5 : Int) (h : H) : Lp.laws_eqByteSS 0 [lv s0, lv s1, iv .i64 s5] h =
  vcase (bv (decide (s5 < (s0.length : Int))))
  (idxF 1 s0 s5 fun r203 =>
  (r203[0]?).bind fun x204 =>
  gF x204 fun z205 =>
  idxF 1 s1 s5 fun r206 =>
  (r206[0]?).bind fun x207 =>
  gF x207 fun z208 =>
  pcallS (call Ev) Fn.laws_eqByteS [lv z205, lv z208] fun v209 =>
  gV1 v209 fun x210 =>
  gB x210 fun q211 =>
  hchk h h (
  vcase (bv (!q211))
  (some (.ret (bv false) h))
  (Lp.laws_eqByteSS 0 [lv s0, lv s1, iv .i64 (IntKind.i64.wrap (s5 + 1))] (tidy h [lv s0, lv s1, iv .i64 (IntKind.i64.wrap (s5 + 1))] h))))
  (some (.done [] (tidy h [] h))) := by
  unfold Lp.laws_eqByteSS; rw [loop_eq]; kernel_rfl

theorem pu_laws_eqEdit (a0_0 : Int) (a0_1 : List (List S)) (a1_0 : Int) (a1_1 : List (List S)) : pureV (call Ev) Fn.laws_eqEdit [.agg [.int .i64 a0_0, .fs a0_1], .agg [.int .i64 a1_0, .fs a1_1]] =
  vcase (bv (a0_0 != a1_0))
  (some (bv false))
  (pcallS (call Ev) Fn.laws_eqByteS [lv a0_1, lv a1_1] fun v102 =>
  gV1 v102 fun x103 =>
  gB x103 fun q104 =>
  vcase (bv (!q104))
  (some (bv false))
  (some (bv true))) := by
  rw [pure_eq]; kernel_rfl

theorem pu_laws_eqEditS (a0 : List (List S)) (a1 : List (List S)) : pureV (call Ev) Fn.laws_eqEditS [lv a0, lv a1] =
  vcase (bv ((a0.length : Int) != (a1.length : Int)))
  (some (bv false))
  ((Lp.laws_eqEditS 0 [lv a0, lv a1, iv .i64 0] (D 0)).bind fun o102 => lcase o102 (fun l103 h104 =>
  some (bv true)) (fun v105 h106 =>
  frzV h106 v105)) := by
  rw [pure_eq]; kernel_rfl

theorem eq_laws_eqEditS_l0 (s0 : List (List S)) (s1 : List (List S)) (s5 : Int) (h : H) : Lp.laws_eqEditS 0 [lv s0, lv s1, iv .i64 s5] h =
  vcase (bv (decide (s5 < (s0.length : Int))))
  (idxF 2 s0 s5 fun r203 =>
  (rowN 2 r203 0).bind fun c204 =>
  (c204[0]?).bind fun x205 =>
  gI .i64 x205 fun i206 =>
  (c204[1]?).bind fun x207 =>
  gF x207 fun z208 =>
  if c204.length = 2 then
  idxF 2 s1 s5 fun r209 =>
  (rowN 2 r209 0).bind fun c210 =>
  (c210[0]?).bind fun x211 =>
  gI .i64 x211 fun i212 =>
  (c210[1]?).bind fun x213 =>
  gF x213 fun z214 =>
  if c210.length = 2 then
  pcallS (call Ev) Fn.laws_eqEdit [.agg [.int .i64 i206, .fs z208], .agg [.int .i64 i212, .fs z214]] fun v215 =>
  gV1 v215 fun x216 =>
  gB x216 fun q217 =>
  hchk h h (
  vcase (bv (!q217))
  (some (.ret (bv false) h))
  (Lp.laws_eqEditS 0 [lv s0, lv s1, iv .i64 (IntKind.i64.wrap (s5 + 1))] (tidy h [lv s0, lv s1, iv .i64 (IntKind.i64.wrap (s5 + 1))] h)))
  else none
  else none)
  (some (.done [] (tidy h [] h))) := by
  unfold Lp.laws_eqEditS; rw [loop_eq]; kernel_rfl

theorem pu_laws_eqEditsResult (a0_0 : Int) (a0_1 : List (List S)) (a0_2 : List (List S)) (a1_0 : Int) (a1_1 : List (List S)) (a1_2 : List (List S)) : pureV (call Ev) Fn.laws_eqEditsResult [.agg [.int .i64 a0_0, .fs a0_1, .fs a0_2], .agg [.int .i64 a1_0, .fs a1_1, .fs a1_2]] =
  vcase (bv (a0_0 != a1_0))
  (some (bv false))
  (pcallS (call Ev) Fn.laws_eqEditS [lv a0_1, lv a1_1] fun v102 =>
  gV1 v102 fun x103 =>
  gB x103 fun q104 =>
  vcase (bv (!q104))
  (some (bv false))
  (pcallS (call Ev) Fn.laws_eqByteSS [lv a0_2, lv a1_2] fun v106 =>
  gV1 v106 fun x107 =>
  gB x107 fun q108 =>
  vcase (bv (!q108))
  (some (bv false))
  (some (bv true)))) := by
  rw [pure_eq]; kernel_rfl

theorem pu_laws_eqRun (a0_0 : Int) (a0_1 : List (List S)) (a1_0 : Int) (a1_1 : List (List S)) : pureV (call Ev) Fn.laws_eqRun [.agg [.int .i64 a0_0, .fs a0_1], .agg [.int .i64 a1_0, .fs a1_1]] =
  vcase (bv (a0_0 != a1_0))
  (some (bv false))
  (pcallS (call Ev) Fn.laws_eqByteS [lv a0_1, lv a1_1] fun v102 =>
  gV1 v102 fun x103 =>
  gB x103 fun q104 =>
  vcase (bv (!q104))
  (some (bv false))
  (some (bv true))) := by
  rw [pure_eq]; kernel_rfl

theorem pu_laws_eqRunS (a0 : List (List S)) (a1 : List (List S)) : pureV (call Ev) Fn.laws_eqRunS [lv a0, lv a1] =
  vcase (bv ((a0.length : Int) != (a1.length : Int)))
  (some (bv false))
  ((Lp.laws_eqRunS 0 [lv a0, lv a1, iv .i64 0] (D 0)).bind fun o102 => lcase o102 (fun l103 h104 =>
  some (bv true)) (fun v105 h106 =>
  frzV h106 v105)) := by
  rw [pure_eq]; kernel_rfl

theorem eq_laws_eqRunS_l0 (s0 : List (List S)) (s1 : List (List S)) (s5 : Int) (h : H) : Lp.laws_eqRunS 0 [lv s0, lv s1, iv .i64 s5] h =
  vcase (bv (decide (s5 < (s0.length : Int))))
  (idxF 2 s0 s5 fun r203 =>
  (rowN 2 r203 0).bind fun c204 =>
  (c204[0]?).bind fun x205 =>
  gI .i64 x205 fun i206 =>
  (c204[1]?).bind fun x207 =>
  gF x207 fun z208 =>
  if c204.length = 2 then
  idxF 2 s1 s5 fun r209 =>
  (rowN 2 r209 0).bind fun c210 =>
  (c210[0]?).bind fun x211 =>
  gI .i64 x211 fun i212 =>
  (c210[1]?).bind fun x213 =>
  gF x213 fun z214 =>
  if c210.length = 2 then
  pcallS (call Ev) Fn.laws_eqRun [.agg [.int .i64 i206, .fs z208], .agg [.int .i64 i212, .fs z214]] fun v215 =>
  gV1 v215 fun x216 =>
  gB x216 fun q217 =>
  hchk h h (
  vcase (bv (!q217))
  (some (.ret (bv false) h))
  (Lp.laws_eqRunS 0 [lv s0, lv s1, iv .i64 (IntKind.i64.wrap (s5 + 1))] (tidy h [lv s0, lv s1, iv .i64 (IntKind.i64.wrap (s5 + 1))] h)))
  else none
  else none)
  (some (.done [] (tidy h [] h))) := by
  unfold Lp.laws_eqRunS; rw [loop_eq]; kernel_rfl

theorem pu_laws_eqRecord (a0_0 : Int) (a0_1 : Int) (a0_2 : Int) (a0_3 : List (List S)) (a1_0 : Int) (a1_1 : Int) (a1_2 : Int) (a1_3 : List (List S)) : pureV (call Ev) Fn.laws_eqRecord [.agg [.int .i64 a0_0, .int .i64 a0_1, .int .i64 a0_2, .fs a0_3], .agg [.int .i64 a1_0, .int .i64 a1_1, .int .i64 a1_2, .fs a1_3]] =
  vcase (bv (a0_0 != a1_0))
  (some (bv false))
  (vcase (bv (a0_1 != a1_1))
  (some (bv false))
  (vcase (bv (a0_2 != a1_2))
  (some (bv false))
  (pcallS (call Ev) Fn.laws_eqRunS [lv a0_3, lv a1_3] fun v104 =>
  gV1 v104 fun x105 =>
  gB x105 fun q106 =>
  vcase (bv (!q106))
  (some (bv false))
  (some (bv true))))) := by
  rw [pure_eq]; kernel_rfl

theorem eq_laws_markByteS (a0 : V) (a1 : Int) (h : H) : call Ev Fn.laws_markByteS [a0, iv .i64 a1] h =
  (Lp.laws_markByteS 0 [a0, iv .i64 a1, iv .i64 0] h).bind fun o101 => lcase o101 (fun l102 h103 =>
  (l102[0]?).bind fun w106 =>
  gV1 w106 fun x107 =>
  gI .i64 x107 fun i108 =>
  some (iv .i64 i108, h103)) (fun v104 h105 =>
  some (v104, h105)) := by
  rw [call_eq]; kernel_rfl

theorem eq_laws_markByteS_l0 (s0 : V) (s1 : Int) (s5 : Int) (h : H) : Lp.laws_markByteS 0 [s0, iv .i64 s1, iv .i64 s5] h =
  (lenV (.sl 5) s0).bind fun v201 =>
  gV1 v201 fun x202 =>
  gI .i64 x202 fun i203 =>
  vcase (bv (decide (s5 < i203)))
  (idxK 1 s0 (iv .i64 s5) fun v206 =>
  stK 1 h v206 (iv .u8 (IntKind.u8.wrap s1)) fun h207 =>
  Lp.laws_markByteS 0 [s0, iv .i64 (IntKind.i64.wrap (s1 + 1)), iv .i64 (IntKind.i64.wrap (s5 + 1))] (tidy h [s0, iv .i64 (IntKind.i64.wrap (s1 + 1)), iv .i64 (IntKind.i64.wrap (s5 + 1))] h207))
  (some (.done [iv .i64 s1] (tidy h [iv .i64 s1] h))) := by
  unfold Lp.laws_markByteS; rw [loop_eq]; kernel_rfl

theorem eq_laws_markByteSS (a0 : V) (a1 : Int) (h : H) : call Ev Fn.laws_markByteSS [a0, iv .i64 a1] h =
  (Lp.laws_markByteSS 0 [a0, iv .i64 a1, iv .i64 0] h).bind fun o101 => lcase o101 (fun l102 h103 =>
  (l102[0]?).bind fun w106 =>
  gV1 w106 fun x107 =>
  gI .i64 x107 fun i108 =>
  some (iv .i64 i108, h103)) (fun v104 h105 =>
  some (v104, h105)) := by
  rw [call_eq]; kernel_rfl

theorem eq_laws_markByteSS_l0 (s0 : V) (s1 : Int) (s5 : Int) (h : H) : Lp.laws_markByteSS 0 [s0, iv .i64 s1, iv .i64 s5] h =
  (lenV (.sl 22) s0).bind fun v201 =>
  gV1 v201 fun x202 =>
  gI .i64 x202 fun i203 =>
  vcase (bv (decide (s5 < i203)))
  (idxK 1 s0 (iv .i64 s5) fun v206 =>
  ldK (.one (.f)) ⟨1, 24, [.sl none 0], false, .sl 5, false⟩ h v206 fun v207 =>
  (call Ev Fn.laws_markByteS [v207, iv .i64 s1] h).bind fun p208 =>
  gV1 p208.1 fun x209 =>
  gI .i64 x209 fun i210 =>
  Lp.laws_markByteSS 0 [s0, iv .i64 i210, iv .i64 (IntKind.i64.wrap (s5 + 1))] (tidy h [s0, iv .i64 i210, iv .i64 (IntKind.i64.wrap (s5 + 1))] (tidy h [p208.1] p208.2)))
  (some (.done [iv .i64 s1] (tidy h [iv .i64 s1] h))) := by
  unfold Lp.laws_markByteSS; rw [loop_eq]; kernel_rfl

theorem eq_laws_markRunS (a0 : V) (a1 : Int) (h : H) : call Ev Fn.laws_markRunS [a0, iv .i64 a1] h =
  (Lp.laws_markRunS 0 [a0, iv .i64 a1, iv .i64 0] h).bind fun o101 => lcase o101 (fun l102 h103 =>
  (l102[0]?).bind fun w106 =>
  gV1 w106 fun x107 =>
  gI .i64 x107 fun i108 =>
  some (iv .i64 i108, h103)) (fun v104 h105 =>
  some (v104, h105)) := by
  rw [call_eq]; kernel_rfl

theorem eq_laws_markRunS_l0 (s0 : V) (s1 : Int) (s5 : Int) (h : H) : Lp.laws_markRunS 0 [s0, iv .i64 s1, iv .i64 s5] h =
  (lenV (.sl 178) s0).bind fun v201 =>
  gV1 v201 fun x202 =>
  gI .i64 x202 fun i203 =>
  vcase (bv (decide (s5 < i203)))
  (idxK 2 s0 (iv .i64 s5) fun v206 =>
  (padd 0 v206).bind fun v207 =>
  stK 1 h v207 (iv .i64 s1) fun h208 =>
  idxK 2 s0 (iv .i64 s5) fun v209 =>
  (padd 1 v209).bind fun v210 =>
  ldK (.one (.f)) ⟨1, 24, [.sl none 0], false, .sl 5, false⟩ h208 v210 fun v211 =>
  (call Ev Fn.laws_markByteS [v211, iv .i64 (IntKind.i64.wrap (s1 + 1))] h208).bind fun p212 =>
  gV1 p212.1 fun x213 =>
  gI .i64 x213 fun i214 =>
  Lp.laws_markRunS 0 [s0, iv .i64 i214, iv .i64 (IntKind.i64.wrap (s5 + 1))] (tidy h [s0, iv .i64 i214, iv .i64 (IntKind.i64.wrap (s5 + 1))] (tidy h208 [p212.1] p212.2)))
  (some (.done [iv .i64 s1] (tidy h [iv .i64 s1] h))) := by
  unfold Lp.laws_markRunS; rw [loop_eq]; kernel_rfl

theorem eq_laws_markRecord (a0_0 : Int) (a0_1 : Int) (a0_2 : Int) (a0_3 : S) (a1 : Int) (h : H) : call Ev Fn.laws_markRecord [.agg [.int .i64 a0_0, .int .i64 a0_1, .int .i64 a0_2, a0_3], iv .i64 a1] h =
  (load1 (h.new 0 [.int .i64 a0_0, .int .i64 a0_1, .int .i64 a0_2, a0_3]) (pv h.n 3)).bind fun x101 =>
  (call Ev Fn.laws_markRunS [.s x101, iv .i64 a1] (h.new 0 [.int .i64 a0_0, .int .i64 a0_1, .int .i64 a0_2, a0_3])).bind fun p102 =>
  gV1 p102.1 fun x103 =>
  gI .i64 x103 fun i104 =>
  some (iv .i64 i104, tidy (h.new 0 [.int .i64 a0_0, .int .i64 a0_1, .int .i64 a0_2, a0_3]) [p102.1] p102.2) := by
  rw [call_eq]; kernel_rfl

theorem eq_laws_markEditS (a0 : V) (a1 : Int) (h : H) : call Ev Fn.laws_markEditS [a0, iv .i64 a1] h =
  (Lp.laws_markEditS 0 [a0, iv .i64 a1, iv .i64 0] h).bind fun o101 => lcase o101 (fun l102 h103 =>
  (l102[0]?).bind fun w106 =>
  gV1 w106 fun x107 =>
  gI .i64 x107 fun i108 =>
  some (iv .i64 i108, h103)) (fun v104 h105 =>
  some (v104, h105)) := by
  rw [call_eq]; kernel_rfl

theorem eq_laws_markEditS_l0 (s0 : V) (s1 : Int) (s5 : Int) (h : H) : Lp.laws_markEditS 0 [s0, iv .i64 s1, iv .i64 s5] h =
  (lenV (.sl 182) s0).bind fun v201 =>
  gV1 v201 fun x202 =>
  gI .i64 x202 fun i203 =>
  vcase (bv (decide (s5 < i203)))
  (idxK 2 s0 (iv .i64 s5) fun v206 =>
  (padd 0 v206).bind fun v207 =>
  stK 1 h v207 (iv .i64 s1) fun h208 =>
  idxK 2 s0 (iv .i64 s5) fun v209 =>
  (padd 1 v209).bind fun v210 =>
  ldK (.one (.f)) ⟨1, 24, [.sl none 0], false, .sl 5, false⟩ h208 v210 fun v211 =>
  (call Ev Fn.laws_markByteS [v211, iv .i64 (IntKind.i64.wrap (s1 + 1))] h208).bind fun p212 =>
  gV1 p212.1 fun x213 =>
  gI .i64 x213 fun i214 =>
  Lp.laws_markEditS 0 [s0, iv .i64 i214, iv .i64 (IntKind.i64.wrap (s5 + 1))] (tidy h [s0, iv .i64 i214, iv .i64 (IntKind.i64.wrap (s5 + 1))] (tidy h208 [p212.1] p212.2)))
  (some (.done [iv .i64 s1] (tidy h [iv .i64 s1] h))) := by
  unfold Lp.laws_markEditS; rw [loop_eq]; kernel_rfl

end Vm
