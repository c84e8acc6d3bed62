/-
  What each function, and each round of each loop, comes to in the small machine. Written by a program (gen3.py).
-/
import Derived.Test.YtainemlfiibooaaEnv
set_option linter.unusedVariables false
set_option maxRecDepth 100000
namespace Vm
open Go

theorem eq_spec_l5Append (a0_0 : List (List S)) (a0_1 : List (List S)) (a1_0 : Int) (a1_1 : Int) (a1_2 : Int) (a1_3 : List (List S)) (n : Nat) : call Ev Fn.spec_l5Append [.agg [.fs a0_0, .fs a0_1], fv [.int .i64 a1_0, .int .i64 a1_1, .int .i64 a1_2, .fs a1_3] 0] (D n) =
  pcallF (call Ev) Fn.spec_l4Pack true [fv [.int .i64 a1_0, .int .i64 a1_1, .int .i64 a1_2, .fs a1_3] 0] (((D n).new 0 [.fs a0_0, .fs a0_1]).new 0 [.sl none 0, .sl none 0]) fun v101 h102 =>
  (load1 h102 (pv ((D n).n) 0)).bind fun x103 =>
  (lenV (.sl 5) (.s x103)).bind fun v104 =>
  gV1 v104 fun x105 =>
  gI .i64 x105 fun i106 =>
  (load1 h102 (pv ((D n).n) 1)).bind fun x107 =>
  (lenV (.sl 5) (.s x107)).bind fun v108 =>
  gV1 v108 fun x109 =>
  gI .i64 x109 fun i110 =>
  (lenV (.sl 5) v101).bind fun v111 =>
  gV1 v111 fun x112 =>
  gI .i64 x112 fun i113 =>
  vcase (bv (decide ((IntKind.i64.wrap ((IntKind.i64.wrap (i106 + i110)) + i113)) > 16000)))
  ((loadN 2 h102 (pv ((D n).n) 0)).bind fun c115 =>
  (c115[0]?).bind fun x116 =>
  (c115[1]?).bind fun x117 =>
  if c115.length = 2 then
  stK 2 h102 (pv (((D n).new 0 [.fs a0_0, .fs a0_1]).n) 0) (.agg [x116, x117]) fun h118 =>
  (loadN 2 h118 (pv (((D n).new 0 [.fs a0_0, .fs a0_1]).n) 0)).bind fun c119 =>
  some (.tup [.agg c119, .s (.bool false)], h118)
  else none)
  ((loadN 2 h102 (pv ((D n).n) 0)).bind fun c120 =>
  (c120[0]?).bind fun x121 =>
  (c120[1]?).bind fun x122 =>
  if c120.length = 2 then
  (frzVs h102 [.agg [x121, x122]]).bind fun l123 =>
  pcallF (call Ev) Fn.spec_l5Copy ([.agg [x121, x122]].all offV) (normVs [] l123) h102 fun v124 h125 =>
  gVA v124 fun c126 =>
  (c126[0]?).bind fun x127 =>
  (c126[1]?).bind fun x128 =>
  if c126.length = 2 then
  stK 2 (h125.new 0 [.sl none 0, .sl none 0]) (pv h125.n 0) (.agg [x127, x128]) fun h129 =>
  (load1 h129 (pv h125.n 1)).bind fun x130 =>
  (appS 1 h129 (.s x130) v101).bind fun p131 =>
  stK 1 p131.2 (pv h125.n 1) p131.1 fun h132 =>
  (loadN 2 h132 (pv h125.n 0)).bind fun c133 =>
  (c133[0]?).bind fun x134 =>
  (c133[1]?).bind fun x135 =>
  if c133.length = 2 then
  stK 2 h132 (pv (((D n).new 0 [.fs a0_0, .fs a0_1]).n) 0) (.agg [x134, x135]) fun h136 =>
  (loadN 2 h136 (pv (((D n).new 0 [.fs a0_0, .fs a0_1]).n) 0)).bind fun c137 =>
  some (.tup [.agg c137, .s (.bool true)], h136)
  else none
  else none
  else none) := by
  rw [call_eq]; kernel_rfl

theorem eq_spec_l5Right (a0_b a0_o : Nat) (h : H) : call Ev Fn.spec_l5Right [pv a0_b a0_o] h =
  stK 2 ((h.new 0 [.sl none 0, .sl none 0]).new 0 [.sl none 0, .sl none 0]) (pv ((h.new 0 [.sl none 0, .sl none 0]).n) 0) (.agg [.sl none 0, .sl none 0]) fun h101 =>
  (call Ev Fn.spec_l1Next [pv a0_b a0_o, iv .i64 7] h101).bind fun p102 =>
  gV1 p102.1 fun x103 =>
  gI .i64 x103 fun i104 =>
  (Lp.spec_l5Right 0 [pv a0_b a0_o, pv h.n 0, pv ((h.new 0 [.sl none 0, .sl none 0]).n) 0, iv .i64 i104] (tidy h101 [p102.1] p102.2)).bind fun o105 => lcase o105 (fun l106 h107 =>
  (l106[0]?).bind fun w110 =>
  (l106[1]?).bind fun w111 =>
  ldK (.agg [.f, .f]) ⟨2, 48, [.sl none 0, .sl none 0], true, .st [(0, 33), (1, 33)], false⟩ h107 w111 fun v112 =>
  gVA v112 fun c113 =>
  (c113[0]?).bind fun x114 =>
  (c113[1]?).bind fun x115 =>
  if c113.length = 2 then
  stK 2 h107 w110 (.agg [x114, x115]) fun h116 =>
  ldT ⟨2, 48, [.sl none 0, .sl none 0], true, .st [(0, 33), (1, 33)], false⟩ h116 w110 fun v117 =>
  some (v117, h116)
  else none) (fun v108 h109 =>
  some (v108, h109)) := by
  rw [call_eq]; kernel_rfl

theorem eq_spec_l5Bent (a0_b a0_o : Nat) (h : H) : call Ev Fn.spec_l5Bent [pv a0_b a0_o] h =
  (call Ev Fn.spec_l5Right [pv a0_b a0_o] (h.new 0 [.sl none 0, .sl none 0])).bind fun p101 =>
  gVA p101.1 fun c102 =>
  (c102[0]?).bind fun x103 =>
  (c102[1]?).bind fun x104 =>
  if c102.length = 2 then
  stK 2 ((tidy (h.new 0 [.sl none 0, .sl none 0]) [p101.1] p101.2).new 0 [.sl none 0, .sl none 0]) (pv ((tidy (h.new 0 [.sl none 0, .sl none 0]) [p101.1] p101.2).n) 0) (.agg [x103, x104]) fun h105 =>
  (call Ev Fn.spec_l1Next [pv a0_b a0_o, iv .i64 12] h105).bind fun p106 =>
  gV1 p106.1 fun x107 =>
  gI .i64 x107 fun i108 =>
  vcase (bv (i108 == 0))
  ((load1 (tidy h105 [p106.1] p106.2) (pv ((tidy (h.new 0 [.sl none 0, .sl none 0]) [p101.1] p101.2).n) 0)).bind fun x111 =>
  (appS 1 ((tidy h105 [p106.1] p106.2).new 1 [.int .u8 9]) (.s x111) (sv ((tidy h105 [p106.1] p106.2).n) 0 1)).bind fun p112 =>
  stK 1 p112.2 (pv ((tidy (h.new 0 [.sl none 0, .sl none 0]) [p101.1] p101.2).n) 0) p112.1 fun h113 =>
  (loadN 2 h113 (pv ((tidy (h.new 0 [.sl none 0, .sl none 0]) [p101.1] p101.2).n) 0)).bind fun c121 =>
  (c121[0]?).bind fun x122 =>
  (c121[1]?).bind fun x123 =>
  if c121.length = 2 then
  stK 2 h113 (pv h.n 0) (.agg [x122, x123]) fun h124 =>
  (loadN 2 h124 (pv h.n 0)).bind fun c125 =>
  some (.agg c125, h124)
  else none)
  (vcase (bv (i108 == 1))
  ((load1 (tidy h105 [p106.1] p106.2) (pv ((tidy (h.new 0 [.sl none 0, .sl none 0]) [p101.1] p101.2).n) 1)).bind fun x115 =>
  (appS 1 ((tidy h105 [p106.1] p106.2).new 1 [.int .u8 7, .int .u8 1]) (.s x115) (sv ((tidy h105 [p106.1] p106.2).n) 0 2)).bind fun p116 =>
  stK 1 p116.2 (pv ((tidy (h.new 0 [.sl none 0, .sl none 0]) [p101.1] p101.2).n) 1) p116.1 fun h117 =>
  (loadN 2 h117 (pv ((tidy (h.new 0 [.sl none 0, .sl none 0]) [p101.1] p101.2).n) 0)).bind fun c126 =>
  (c126[0]?).bind fun x127 =>
  (c126[1]?).bind fun x128 =>
  if c126.length = 2 then
  stK 2 h117 (pv h.n 0) (.agg [x127, x128]) fun h129 =>
  (loadN 2 h129 (pv h.n 0)).bind fun c130 =>
  some (.agg c130, h129)
  else none)
  (vcase (bv (i108 == 2))
  ((mkSl 1 [.int .u8 0] (tidy h105 [p106.1] p106.2) (iv .i64 16001) (iv .i64 16001)).bind fun p119 =>
  stK 1 p119.2 (pv ((tidy (h.new 0 [.sl none 0, .sl none 0]) [p101.1] p101.2).n) 1) p119.1 fun h120 =>
  (loadN 2 h120 (pv ((tidy (h.new 0 [.sl none 0, .sl none 0]) [p101.1] p101.2).n) 0)).bind fun c131 =>
  (c131[0]?).bind fun x132 =>
  (c131[1]?).bind fun x133 =>
  if c131.length = 2 then
  stK 2 h120 (pv h.n 0) (.agg [x132, x133]) fun h134 =>
  (loadN 2 h134 (pv h.n 0)).bind fun c135 =>
  some (.agg c135, h134)
  else none)
  ((loadN 2 (tidy h105 [p106.1] p106.2) (pv ((tidy (h.new 0 [.sl none 0, .sl none 0]) [p101.1] p101.2).n) 0)).bind fun c136 =>
  (c136[0]?).bind fun x137 =>
  (c136[1]?).bind fun x138 =>
  if c136.length = 2 then
  stK 2 (tidy h105 [p106.1] p106.2) (pv h.n 0) (.agg [x137, x138]) fun h139 =>
  (loadN 2 h139 (pv h.n 0)).bind fun c140 =>
  some (.agg c140, h139)
  else none)))
  else none := by
  rw [call_eq]; kernel_rfl

theorem pu_spec_DrawCrashLog (a0 : List (List S)) : pureV (call Ev) Fn.spec_DrawCrashLog [lv a0] =
  pcallF (call Ev) Fn.spec_l1Source true [lv a0] ((D 0).new 0 [.sl none 0, .sl none 0]) fun v101 h102 =>
  (call Ev Fn.spec_l5Bent [v101] h102).bind fun p103 =>
  gVA p103.1 fun c104 =>
  (c104[0]?).bind fun x105 =>
  (c104[1]?).bind fun x106 =>
  if c104.length = 2 then
  stK 2 ((tidy h102 [p103.1] p103.2).new 0 [.sl none 0, .sl none 0]) (pv ((tidy h102 [p103.1] p103.2).n) 0) (.agg [x105, x106]) fun h107 =>
  (load1 h107 (pv ((tidy h102 [p103.1] p103.2).n) 1)).bind fun x108 =>
  (lenV (.sl 5) (.s x108)).bind fun v109 =>
  gV1 v109 fun x110 =>
  gI .i64 x110 fun i111 =>
  (loadN 2 h107 (pv ((tidy h102 [p103.1] p103.2).n) 0)).bind fun c112 =>
  (c112[0]?).bind fun x113 =>
  (c112[1]?).bind fun x114 =>
  if c112.length = 2 then
  (call Ev Fn.spec_l1Next [v101, iv .i64 (IntKind.i64.wrap (i111 + 1))] h107).bind fun p115 =>
  gV1 p115.1 fun x116 =>
  gI .i64 x116 fun i117 =>
  hchk h107 (tidy h107 [p115.1] p115.2) (
  (call Ev Fn.spec_l1Next [v101, iv .i64 (IntKind.i64.wrap (i111 + 1))] (tidy h107 [p115.1] p115.2)).bind fun p118 =>
  gV1 p118.1 fun x119 =>
  gI .i64 x119 fun i120 =>
  hchk h107 (tidy (tidy h107 [p115.1] p115.2) [p118.1] p118.2) (
  hchk h107 ((tidy (tidy h107 [p115.1] p115.2) [p118.1] p118.2).new 1 [.int .i64 i117, .int .i64 i120, .int .i64 i111, .int .i64 0, .int .i64 (IntKind.i64.wrap (i111 + 1)), .int .i64 (-1)]) (
  (call Ev Fn.spec_l1Pick [v101, sv ((tidy (tidy h107 [p115.1] p115.2) [p118.1] p118.2).n) 0 6] ((tidy (tidy h107 [p115.1] p115.2) [p118.1] p118.2).new 1 [.int .i64 i117, .int .i64 i120, .int .i64 i111, .int .i64 0, .int .i64 (IntKind.i64.wrap (i111 + 1)), .int .i64 (-1)])).bind fun p121 =>
  gV1 p121.1 fun x122 =>
  gI .i64 x122 fun i123 =>
  hchk h107 (tidy ((tidy (tidy h107 [p115.1] p115.2) [p118.1] p118.2).new 1 [.int .i64 i117, .int .i64 i120, .int .i64 i111, .int .i64 0, .int .i64 (IntKind.i64.wrap (i111 + 1)), .int .i64 (-1)]) [p121.1] p121.2) (
  stK 2 (tidy ((tidy (tidy h107 [p115.1] p115.2) [p118.1] p118.2).new 1 [.int .i64 i117, .int .i64 i120, .int .i64 i111, .int .i64 0, .int .i64 (IntKind.i64.wrap (i111 + 1)), .int .i64 (-1)]) [p121.1] p121.2) (pv 0 0) (.agg [x113, x114]) fun h124 =>
  (loadN 2 h124 (pv 0 0)).bind fun c125 =>
  frzV h124 (.tup [.agg c125, .s (.int .i64 i123)])))))
  else none
  else none := by
  rw [pure_eq]; kernel_rfl

end Vm
