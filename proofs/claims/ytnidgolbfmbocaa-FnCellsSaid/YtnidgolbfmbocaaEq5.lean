/-
  What each function, and each round of each loop, comes to in the small machine. Written by a program (gen3.py).
-/
import Derived.Test.YtnidgolbfmbocaaEnv
set_option linter.unusedVariables false
set_option maxRecDepth 100000
namespace Vm
open Go

noncomputable def Jn.spec_l1Read_0 (q222 : Bool) (a0 : List (List S)) : Option (V) :=
  vcase (bv q222)
  (some (.tup [.agg [.int .i64 0, .int .i64 0, .int .i64 0, .int .i64 0, .int .i64 0, .int .i64 0, .int .i64 0, .str (⟨#[]⟩)], .s (.bool false)]))
  (idxF 1 a0 1 fun r224 =>
  (r224[0]?).bind fun x225 =>
  gI .u8 x225 fun i226 =>
  idxF 1 a0 2 fun r227 =>
  (r227[0]?).bind fun x228 =>
  gI .u8 x228 fun i229 =>
  idxF 1 a0 3 fun r230 =>
  (r230[0]?).bind fun x231 =>
  gI .u8 x231 fun i232 =>
  idxF 1 a0 4 fun r233 =>
  (r233[0]?).bind fun x234 =>
  gI .u8 x234 fun i235 =>
  slF 1 a0 (some (iv .i64 6)) none fun z236 =>
  (fsStr z236).bind fun v237 =>
  gV1 v237 fun x238 =>
  gS x238 fun y239 =>
  hchk ((D 0).new 0 [.int .i64 0, .int .i64 0, .int .i64 0, .int .i64 0, .int .i64 0, .int .i64 0, .int .i64 0, .str (⟨#[]⟩)]) (((D 0).new 0 [.int .i64 0, .int .i64 0, .int .i64 0, .int .i64 0, .int .i64 0, .int .i64 0, .int .i64 0, .str (⟨#[]⟩)]).new 0 [.int .i64 0, .int .i64 0, .int .i64 0, .str (⟨#[]⟩)]) (
  idxF 1 a0 0 fun r240 =>
  (r240[0]?).bind fun x241 =>
  gI .u8 x241 fun i242 =>
  pcallS (call Ev) Fn.spec_l1Fault [fv [.int .i64 (IntKind.i64.wrap i226), .int .i64 (IntKind.i64.wrap i229), .int .i64 (IntKind.i64.wrap ((IntKind.i64.wrap ((IntKind.i64.wrap i232) * 256)) + (IntKind.i64.wrap i235))), .str y239] 0] fun v243 =>
  gV1 v243 fun x244 =>
  gI .i64 x244 fun i245 =>
  hchk ((((D 0).new 0 [.int .i64 0, .int .i64 0, .int .i64 0, .int .i64 0, .int .i64 0, .int .i64 0, .int .i64 0, .str (⟨#[]⟩)]).new 0 [.int .i64 0, .int .i64 0, .int .i64 0, .str (⟨#[]⟩)]).put 1 (.rw 0 [.int .i64 (IntKind.i64.wrap i226), .int .i64 (IntKind.i64.wrap i229), .int .i64 (IntKind.i64.wrap ((IntKind.i64.wrap ((IntKind.i64.wrap i232) * 256)) + (IntKind.i64.wrap i235))), .str y239])) ((((D 0).new 0 [.int .i64 0, .int .i64 0, .int .i64 0, .int .i64 0, .int .i64 0, .int .i64 0, .int .i64 0, .str (⟨#[]⟩)]).new 0 [.int .i64 0, .int .i64 0, .int .i64 0, .str (⟨#[]⟩)]).put 1 (.rw 0 [.int .i64 (IntKind.i64.wrap i226), .int .i64 (IntKind.i64.wrap i229), .int .i64 (IntKind.i64.wrap ((IntKind.i64.wrap ((IntKind.i64.wrap i232) * 256)) + (IntKind.i64.wrap i235))), .str y239])) (
  some (.tup [.agg [.int .i64 0, .int .i64 (IntKind.i64.wrap i242), .int .i64 0, .int .i64 0, .int .i64 (IntKind.i64.wrap i226), .int .i64 (IntKind.i64.wrap i229), .int .i64 (IntKind.i64.wrap ((IntKind.i64.wrap ((IntKind.i64.wrap i232) * 256)) + (IntKind.i64.wrap i235))), .str y239], .s (.bool (i245 == 0))]))))

noncomputable def Jn.spec_l1Read_1 (q188 : Bool) (a0 : List (List S)) : Option (V) :=
  vcase (bv q188)
  (idxF 1 a0 1 fun r190 =>
  (r190[0]?).bind fun x191 =>
  gI .u8 x191 fun i192 =>
  idxF 1 a0 2 fun r193 =>
  (r193[0]?).bind fun x194 =>
  gI .u8 x194 fun i195 =>
  hchk ((D 0).new 0 [.int .i64 0, .int .i64 0, .int .i64 0, .int .i64 0, .int .i64 0, .int .i64 0, .int .i64 0, .str (⟨#[]⟩)]) (((D 0).new 0 [.int .i64 0, .int .i64 0, .int .i64 0, .int .i64 0, .int .i64 0, .int .i64 0, .int .i64 0, .str (⟨#[]⟩)]).new 0 [.int .i64 0, .int .i64 0, .int .i64 0, .int .i64 0, .int .i64 0, .int .i64 0, .int .i64 0, .str (⟨#[]⟩)]) (
  pcallS (call Ev) Fn.spec_l1Place [iv .i64 (IntKind.i64.wrap i192), iv .i64 (IntKind.i64.wrap i195)] fun v196 =>
  gV1 v196 fun x197 =>
  gB x197 fun q198 =>
  hchk ((((D 0).new 0 [.int .i64 0, .int .i64 0, .int .i64 0, .int .i64 0, .int .i64 0, .int .i64 0, .int .i64 0, .str (⟨#[]⟩)]).new 0 [.int .i64 0, .int .i64 0, .int .i64 0, .int .i64 0, .int .i64 0, .int .i64 0, .int .i64 0, .str (⟨#[]⟩)]).put 1 (.rw 0 [.int .i64 0, .int .i64 1, .int .i64 (IntKind.i64.wrap i192), .int .i64 (IntKind.i64.wrap i195), .int .i64 0, .int .i64 0, .int .i64 0, .str (⟨#[]⟩)])) ((((D 0).new 0 [.int .i64 0, .int .i64 0, .int .i64 0, .int .i64 0, .int .i64 0, .int .i64 0, .int .i64 0, .str (⟨#[]⟩)]).new 0 [.int .i64 0, .int .i64 0, .int .i64 0, .int .i64 0, .int .i64 0, .int .i64 0, .int .i64 0, .str (⟨#[]⟩)]).put 1 (.rw 0 [.int .i64 0, .int .i64 1, .int .i64 (IntKind.i64.wrap i192), .int .i64 (IntKind.i64.wrap i195), .int .i64 0, .int .i64 0, .int .i64 0, .str (⟨#[]⟩)])) (
  some (.tup [.agg [.int .i64 0, .int .i64 1, .int .i64 (IntKind.i64.wrap i192), .int .i64 (IntKind.i64.wrap i195), .int .i64 0, .int .i64 0, .int .i64 0, .str (⟨#[]⟩)], .s (.bool q198)]))))
  (vcase (bv (decide ((a0.length : Int) < 6)))
  (some (.tup [.agg [.int .i64 0, .int .i64 0, .int .i64 0, .int .i64 0, .int .i64 0, .int .i64 0, .int .i64 0, .str (⟨#[]⟩)], .s (.bool false)]))
  (idxF 1 a0 0 fun r201 =>
  (r201[0]?).bind fun x202 =>
  gI .u8 x202 fun i203 =>
  vcase (bv (i203 == 1))
  (some (.tup [.agg [.int .i64 0, .int .i64 0, .int .i64 0, .int .i64 0, .int .i64 0, .int .i64 0, .int .i64 0, .str (⟨#[]⟩)], .s (.bool false)]))
  (idxF 1 a0 0 fun r210 =>
  (r210[0]?).bind fun x211 =>
  gI .u8 x211 fun i212 =>
  vcase (bv (decide (i212 > 2)))
  (Jn.spec_l1Read_0 true a0)
  (idxF 1 a0 5 fun r218 =>
  (r218[0]?).bind fun x219 =>
  gI .u8 x219 fun i220 =>
  Jn.spec_l1Read_0 ((a0.length : Int) != (IntKind.i64.wrap (6 + (IntKind.i64.wrap i220)))) a0))))

theorem pu_spec_l1Read (a0 : List (List S)) : pureV (call Ev) Fn.spec_l1Read [lv a0] =
  vcase (bv ((a0.length : Int) == 3))
  (idxF 1 a0 0 fun r102 =>
  (r102[0]?).bind fun x103 =>
  gI .u8 x103 fun i104 =>
  Jn.spec_l1Read_1 (i104 == 1) a0)
  (Jn.spec_l1Read_1 false a0) := by
  rw [pure_eq]; kernel_rfl

theorem pu_spec_UnpackCell (a0 : List (List S)) : pureV (call Ev) Fn.spec_UnpackCell [lv a0] =
  pcallS (call Ev) Fn.spec_l1Read [lv a0] fun v101 =>
  gVT v101 fun u102 =>
  (u102[0]?).bind fun t103 =>
  gAA t103 fun c104 =>
  (c104[0]?).bind fun x105 =>
  gI .i64 x105 fun i106 =>
  (c104[1]?).bind fun x107 =>
  gI .i64 x107 fun i108 =>
  (c104[2]?).bind fun x109 =>
  gI .i64 x109 fun i110 =>
  (c104[3]?).bind fun x111 =>
  gI .i64 x111 fun i112 =>
  (c104[4]?).bind fun x113 =>
  gI .i64 x113 fun i114 =>
  (c104[5]?).bind fun x115 =>
  gI .i64 x115 fun i116 =>
  (c104[6]?).bind fun x117 =>
  gI .i64 x117 fun i118 =>
  (c104[7]?).bind fun x119 =>
  gS x119 fun y120 =>
  if c104.length = 8 then
  (u102[1]?).bind fun t121 =>
  gA1 t121 fun x122 =>
  gB x122 fun q123 =>
  if u102.length = 2 then
  vcase (bv (!q123))
  (some (.agg [.int .i64 5, .int .i64 0, .int .i64 0, .int .i64 0, .int .i64 0, .int .i64 0, .int .i64 0, .str (⟨#[]⟩)]))
  (some (.agg [.int .i64 i106, .int .i64 i108, .int .i64 i110, .int .i64 i112, .int .i64 i114, .int .i64 i116, .int .i64 i118, .str y120]))
  else none
  else none := by
  rw [pure_eq]; kernel_rfl

theorem pu_impl_stub (a0 : Int) (a1 : Int) : pureV (call Ev) Fn.impl_stub [iv .i64 a0, iv .i64 a1] =
  some (lv [[.int .u8 1], [.int .u8 (IntKind.u8.wrap a0)], [.int .u8 (IntKind.u8.wrap a1)]]) := by
  rw [pure_eq]; kernel_rfl

theorem pu_impl_PackStub (a0 : Int) (a1 : Int) : pureV (call Ev) Fn.impl_PackStub [iv .i64 a0, iv .i64 a1] =
  pcallS (call Ev) Fn.impl_in [iv .i64 a0, iv .i64 0, iv .i64 11] fun v101 =>
  gV1 v101 fun x102 =>
  gB x102 fun q103 =>
  vcase (bv (!q103))
  (some (.agg [.int .i64 3, .fs []]))
  (pcallS (call Ev) Fn.impl_in [iv .i64 a1, iv .i64 0, iv .i64 15] fun v106 =>
  gV1 v106 fun x107 =>
  gB x107 fun q108 =>
  vcase (bv (!q108))
  (some (.agg [.int .i64 3, .fs []]))
  ((pureV (call Ev) Fn.impl_stub [iv .i64 a0, iv .i64 a1]).bind fun v112 =>
  gV1 v112 fun x113 =>
  gF x113 fun z114 =>
  some (.agg [.int .i64 0, .fs z114]))) := by
  rw [pure_eq]; kernel_rfl

theorem pu_impl_cell (a0 : Int) (a1_0 : Int) (a1_1 : Int) (a1_2 : Int) (a1_3 : ByteArray) : pureV (call Ev) Fn.impl_cell [iv .i64 a0, .agg [.int .i64 a1_0, .int .i64 a1_1, .int .i64 a1_2, .str a1_3]] =
  (bin Ev .shr 2 (iv .i64 a1_2) (iv .u64 8)).bind fun b101 =>
  gV1 b101 fun x102 =>
  gI .i64 x102 fun i103 =>
  (appS 1 (((D 0).new 0 [.int .i64 a1_0, .int .i64 a1_1, .int .i64 a1_2, .str a1_3]).new 1 [.int .u8 (IntKind.u8.wrap a0), .int .u8 (IntKind.u8.wrap a1_0), .int .u8 (IntKind.u8.wrap a1_1), .int .u8 (IntKind.u8.wrap i103), .int .u8 (IntKind.u8.wrap a1_2), .int .u8 (IntKind.u8.wrap ((a1_3 : ByteArray).size : Int))]) (sv 1 0 6) (.s (.str a1_3))).bind fun p104 =>
  frzV p104.2 p104.1 := by
  rw [pure_eq]; kernel_rfl

theorem pu_impl_PackRow (a0 : Int) (a1_0 : Int) (a1_1 : Int) (a1_2 : Int) (a1_3 : ByteArray) : pureV (call Ev) Fn.impl_PackRow [iv .i64 a0, .agg [.int .i64 a1_0, .int .i64 a1_1, .int .i64 a1_2, .str a1_3]] =
  vcase (bv (a0 != 0))
  (vcase (bv (a0 != 2))
  (some (.agg [.int .i64 1, .fs []]))
  (pcallS (call Ev) Fn.impl_RowFault [.agg [.int .i64 a1_0, .int .i64 a1_1, .int .i64 a1_2, .str a1_3]] fun v105 =>
  gV1 v105 fun x106 =>
  gI .i64 x106 fun i107 =>
  vcase (bv (i107 != 0))
  (some (.agg [.int .i64 i107, .fs []]))
  ((pureV (call Ev) Fn.impl_cell [iv .i64 a0, .agg [.int .i64 a1_0, .int .i64 a1_1, .int .i64 a1_2, .str a1_3]]).bind fun v109 =>
  gV1 v109 fun x110 =>
  gF x110 fun z111 =>
  some (.agg [.int .i64 0, .fs z111]))))
  (pcallS (call Ev) Fn.impl_RowFault [.agg [.int .i64 a1_0, .int .i64 a1_1, .int .i64 a1_2, .str a1_3]] fun v113 =>
  gV1 v113 fun x114 =>
  gI .i64 x114 fun i115 =>
  vcase (bv (i115 != 0))
  (some (.agg [.int .i64 i115, .fs []]))
  ((pureV (call Ev) Fn.impl_cell [iv .i64 a0, .agg [.int .i64 a1_0, .int .i64 a1_1, .int .i64 a1_2, .str a1_3]]).bind fun v117 =>
  gV1 v117 fun x118 =>
  gF x118 fun z119 =>
  some (.agg [.int .i64 0, .fs z119]))) := by
  rw [pure_eq]; kernel_rfl

theorem pu_spec_DrawPackStub (a0 : List (List S)) : pureV (call Ev) Fn.spec_DrawPackStub [lv a0] =
  pcallF (call Ev) Fn.spec_l1Source true [lv a0] (D 0) fun v101 h102 =>
  (call Ev Fn.spec_l1Next [v101, iv .i64 12] h102).bind fun p103 =>
  gV1 p103.1 fun x104 =>
  gI .i64 x104 fun i105 =>
  (call Ev Fn.spec_l1Pick [v101, sv ((tidy h102 [p103.1] p103.2).n) 0 4] ((tidy h102 [p103.1] p103.2).new 1 [.int .i64 i105, .int .i64 11, .int .i64 12, .int .i64 (-1)])).bind fun p106 =>
  gV1 p106.1 fun x107 =>
  gI .i64 x107 fun i108 =>
  (call Ev Fn.spec_l1Next [v101, iv .i64 16] (tidy ((tidy h102 [p103.1] p103.2).new 1 [.int .i64 i105, .int .i64 11, .int .i64 12, .int .i64 (-1)]) [p106.1] p106.2)).bind fun p109 =>
  gV1 p109.1 fun x110 =>
  gI .i64 x110 fun i111 =>
  (call Ev Fn.spec_l1Pick [v101, sv ((tidy (tidy ((tidy h102 [p103.1] p103.2).new 1 [.int .i64 i105, .int .i64 11, .int .i64 12, .int .i64 (-1)]) [p106.1] p106.2) [p109.1] p109.2).n) 0 3] ((tidy (tidy ((tidy h102 [p103.1] p103.2).new 1 [.int .i64 i105, .int .i64 11, .int .i64 12, .int .i64 (-1)]) [p106.1] p106.2) [p109.1] p109.2).new 1 [.int .i64 i111, .int .i64 15, .int .i64 16])).bind fun p112 =>
  gV1 p112.1 fun x113 =>
  gI .i64 x113 fun i114 =>
  some (.tup [.s (.int .i64 i108), .s (.int .i64 i114)]) := by
  rw [pure_eq]; kernel_rfl

theorem pu_spec_PackStub (a0 : Int) (a1 : Int) : pureV (call Ev) Fn.spec_PackStub [iv .i64 a0, iv .i64 a1] =
  pcallS (call Ev) Fn.spec_l1Place [iv .i64 a0, iv .i64 a1] fun v101 =>
  gV1 v101 fun x102 =>
  gB x102 fun q103 =>
  vcase (bv (!q103))
  (some (.agg [.int .i64 3, .fs []]))
  ((pureV (call Ev) Fn.spec_l1Stub [iv .i64 a0, iv .i64 a1]).bind fun v105 =>
  gV1 v105 fun x106 =>
  gF x106 fun z107 =>
  some (.agg [.int .i64 0, .fs z107])) := by
  rw [pure_eq]; kernel_rfl

theorem eq_spec_l1Bent (a0_b a0_o : Nat) (h : H) : call Ev Fn.spec_l1Bent [pv a0_b a0_o] h =
  (call Ev Fn.spec_l1Draw [pv a0_b a0_o] (h.new 0 [.int .i64 0, .int .i64 0, .int .i64 0, .str (⟨#[]⟩)])).bind fun p101 =>
  gVA p101.1 fun c102 =>
  (c102[0]?).bind fun x103 =>
  gI .i64 x103 fun i104 =>
  (c102[1]?).bind fun x105 =>
  gI .i64 x105 fun i106 =>
  (c102[2]?).bind fun x107 =>
  gI .i64 x107 fun i108 =>
  (c102[3]?).bind fun x109 =>
  gS x109 fun y110 =>
  if c102.length = 4 then
  stK 4 ((tidy (h.new 0 [.int .i64 0, .int .i64 0, .int .i64 0, .str (⟨#[]⟩)]) [p101.1] p101.2).new 0 [.int .i64 0, .int .i64 0, .int .i64 0, .str (⟨#[]⟩)]) (pv ((tidy (h.new 0 [.int .i64 0, .int .i64 0, .int .i64 0, .str (⟨#[]⟩)]) [p101.1] p101.2).n) 0) (.agg [.int .i64 i104, .int .i64 i106, .int .i64 i108, .str y110]) fun h111 =>
  (call Ev Fn.spec_l1Next [pv a0_b a0_o, iv .i64 12] h111).bind fun p112 =>
  gV1 p112.1 fun x113 =>
  gI .i64 x113 fun i114 =>
  vcase (bv (i114 == 0))
  ((call Ev Fn.spec_l1Pick [pv a0_b a0_o, sv ((tidy h111 [p112.1] p112.2).n) 0 3] ((tidy h111 [p112.1] p112.2).new 1 [.int .i64 (-1), .int .i64 3, .int .i64 4])).bind fun p117 =>
  gV1 p117.1 fun x118 =>
  gI .i64 x118 fun i119 =>
  stK 1 (tidy ((tidy h111 [p112.1] p112.2).new 1 [.int .i64 (-1), .int .i64 3, .int .i64 4]) [p117.1] p117.2) (pv ((tidy (h.new 0 [.int .i64 0, .int .i64 0, .int .i64 0, .str (⟨#[]⟩)]) [p101.1] p101.2).n) 0) (iv .i64 i119) fun h120 =>
  (loadN 4 h120 (pv ((tidy (h.new 0 [.int .i64 0, .int .i64 0, .int .i64 0, .str (⟨#[]⟩)]) [p101.1] p101.2).n) 0)).bind fun c140 =>
  (c140[0]?).bind fun x141 =>
  gI .i64 x141 fun i142 =>
  (c140[1]?).bind fun x143 =>
  gI .i64 x143 fun i144 =>
  (c140[2]?).bind fun x145 =>
  gI .i64 x145 fun i146 =>
  (c140[3]?).bind fun x147 =>
  gS x147 fun y148 =>
  if c140.length = 4 then
  stK 4 h120 (pv h.n 0) (.agg [.int .i64 i142, .int .i64 i144, .int .i64 i146, .str y148]) fun h149 =>
  (loadN 4 h149 (pv h.n 0)).bind fun c150 =>
  some (.agg c150, h149)
  else none)
  (vcase (bv (i114 == 1))
  ((call Ev Fn.spec_l1Pick [pv a0_b a0_o, sv ((tidy h111 [p112.1] p112.2).n) 0 3] ((tidy h111 [p112.1] p112.2).new 1 [.int .i64 0, .int .i64 99, .int .i64 100])).bind fun p122 =>
  gV1 p122.1 fun x123 =>
  gI .i64 x123 fun i124 =>
  stK 1 (tidy ((tidy h111 [p112.1] p112.2).new 1 [.int .i64 0, .int .i64 99, .int .i64 100]) [p122.1] p122.2) (pv ((tidy (h.new 0 [.int .i64 0, .int .i64 0, .int .i64 0, .str (⟨#[]⟩)]) [p101.1] p101.2).n) 1) (iv .i64 i124) fun h125 =>
  (loadN 4 h125 (pv ((tidy (h.new 0 [.int .i64 0, .int .i64 0, .int .i64 0, .str (⟨#[]⟩)]) [p101.1] p101.2).n) 0)).bind fun c151 =>
  (c151[0]?).bind fun x152 =>
  gI .i64 x152 fun i153 =>
  (c151[1]?).bind fun x154 =>
  gI .i64 x154 fun i155 =>
  (c151[2]?).bind fun x156 =>
  gI .i64 x156 fun i157 =>
  (c151[3]?).bind fun x158 =>
  gS x158 fun y159 =>
  if c151.length = 4 then
  stK 4 h125 (pv h.n 0) (.agg [.int .i64 i153, .int .i64 i155, .int .i64 i157, .str y159]) fun h160 =>
  (loadN 4 h160 (pv h.n 0)).bind fun c161 =>
  some (.agg c161, h160)
  else none)
  (vcase (bv (i114 == 2))
  ((call Ev Fn.spec_l1Pick [pv a0_b a0_o, sv ((tidy h111 [p112.1] p112.2).n) 0 2] ((tidy h111 [p112.1] p112.2).new 1 [.int .i64 (-1), .int .i64 1000])).bind fun p127 =>
  gV1 p127.1 fun x128 =>
  gI .i64 x128 fun i129 =>
  stK 1 (tidy ((tidy h111 [p112.1] p112.2).new 1 [.int .i64 (-1), .int .i64 1000]) [p127.1] p127.2) (pv ((tidy (h.new 0 [.int .i64 0, .int .i64 0, .int .i64 0, .str (⟨#[]⟩)]) [p101.1] p101.2).n) 2) (iv .i64 i129) fun h130 =>
  (loadN 4 h130 (pv ((tidy (h.new 0 [.int .i64 0, .int .i64 0, .int .i64 0, .str (⟨#[]⟩)]) [p101.1] p101.2).n) 0)).bind fun c162 =>
  (c162[0]?).bind fun x163 =>
  gI .i64 x163 fun i164 =>
  (c162[1]?).bind fun x165 =>
  gI .i64 x165 fun i166 =>
  (c162[2]?).bind fun x167 =>
  gI .i64 x167 fun i168 =>
  (c162[3]?).bind fun x169 =>
  gS x169 fun y170 =>
  if c162.length = 4 then
  stK 4 h130 (pv h.n 0) (.agg [.int .i64 i164, .int .i64 i166, .int .i64 i168, .str y170]) fun h171 =>
  (loadN 4 h171 (pv h.n 0)).bind fun c172 =>
  some (.agg c172, h171)
  else none)
  (vcase (bv (i114 == 3))
  ((call Ev Fn.spec_l1Next [pv a0_b a0_o, iv .i64 3] ((tidy h111 [p112.1] p112.2).new 1 [.str (⟨#[65]⟩), .str (⟨#[97, 98, 99, 100, 101, 102, 103, 104, 105]⟩), .str (⟨#[97, 32, 98]⟩)])).bind fun p132 =>
  gV1 p132.1 fun x133 =>
  gI .i64 x133 fun i134 =>
  idxK 1 (sv ((tidy h111 [p112.1] p112.2).n) 0 3) (iv .i64 i134) fun v135 =>
  ldK (.one (.s)) ⟨1, 16, [.str ⟨#[]⟩], false, .str, false⟩ (tidy ((tidy h111 [p112.1] p112.2).new 1 [.str (⟨#[65]⟩), .str (⟨#[97, 98, 99, 100, 101, 102, 103, 104, 105]⟩), .str (⟨#[97, 32, 98]⟩)]) [p132.1] p132.2) v135 fun v136 =>
  gV1 v136 fun x137 =>
  gS x137 fun y138 =>
  stK 1 (tidy ((tidy h111 [p112.1] p112.2).new 1 [.str (⟨#[65]⟩), .str (⟨#[97, 98, 99, 100, 101, 102, 103, 104, 105]⟩), .str (⟨#[97, 32, 98]⟩)]) [p132.1] p132.2) (pv ((tidy (h.new 0 [.int .i64 0, .int .i64 0, .int .i64 0, .str (⟨#[]⟩)]) [p101.1] p101.2).n) 3) (.s (.str y138)) fun h139 =>
  (loadN 4 h139 (pv ((tidy (h.new 0 [.int .i64 0, .int .i64 0, .int .i64 0, .str (⟨#[]⟩)]) [p101.1] p101.2).n) 0)).bind fun c173 =>
  (c173[0]?).bind fun x174 =>
  gI .i64 x174 fun i175 =>
  (c173[1]?).bind fun x176 =>
  gI .i64 x176 fun i177 =>
  (c173[2]?).bind fun x178 =>
  gI .i64 x178 fun i179 =>
  (c173[3]?).bind fun x180 =>
  gS x180 fun y181 =>
  if c173.length = 4 then
  stK 4 h139 (pv h.n 0) (.agg [.int .i64 i175, .int .i64 i177, .int .i64 i179, .str y181]) fun h182 =>
  (loadN 4 h182 (pv h.n 0)).bind fun c183 =>
  some (.agg c183, h182)
  else none)
  ((loadN 4 (tidy h111 [p112.1] p112.2) (pv ((tidy (h.new 0 [.int .i64 0, .int .i64 0, .int .i64 0, .str (⟨#[]⟩)]) [p101.1] p101.2).n) 0)).bind fun c184 =>
  (c184[0]?).bind fun x185 =>
  gI .i64 x185 fun i186 =>
  (c184[1]?).bind fun x187 =>
  gI .i64 x187 fun i188 =>
  (c184[2]?).bind fun x189 =>
  gI .i64 x189 fun i190 =>
  (c184[3]?).bind fun x191 =>
  gS x191 fun y192 =>
  if c184.length = 4 then
  stK 4 (tidy h111 [p112.1] p112.2) (pv h.n 0) (.agg [.int .i64 i186, .int .i64 i188, .int .i64 i190, .str y192]) fun h193 =>
  (loadN 4 h193 (pv h.n 0)).bind fun c194 =>
  some (.agg c194, h193)
  else none))))
  else none := by
  rw [call_eq]; kernel_rfl

theorem pu_spec_DrawPackRow (a0 : List (List S)) : pureV (call Ev) Fn.spec_DrawPackRow [lv a0] =
  pcallF (call Ev) Fn.spec_l1Source true [lv a0] ((D 0).new 0 [.int .i64 0, .int .i64 0, .int .i64 0, .str (⟨#[]⟩)]) fun v101 h102 =>
  (call Ev Fn.spec_l1Pick [v101, sv h102.n 0 6] (h102.new 1 [.int .i64 0, .int .i64 2, .int .i64 0, .int .i64 2, .int .i64 1, .int .i64 3])).bind fun p103 =>
  gV1 p103.1 fun x104 =>
  gI .i64 x104 fun i105 =>
  (call Ev Fn.spec_l1Bent [v101] (tidy (h102.new 1 [.int .i64 0, .int .i64 2, .int .i64 0, .int .i64 2, .int .i64 1, .int .i64 3]) [p103.1] p103.2)).bind fun p106 =>
  gVA p106.1 fun c107 =>
  (c107[0]?).bind fun x108 =>
  gI .i64 x108 fun i109 =>
  (c107[1]?).bind fun x110 =>
  gI .i64 x110 fun i111 =>
  (c107[2]?).bind fun x112 =>
  gI .i64 x112 fun i113 =>
  (c107[3]?).bind fun x114 =>
  gS x114 fun y115 =>
  if c107.length = 4 then
  stK 4 (tidy (tidy (h102.new 1 [.int .i64 0, .int .i64 2, .int .i64 0, .int .i64 2, .int .i64 1, .int .i64 3]) [p103.1] p103.2) [p106.1] p106.2) (pv 0 0) (.agg [.int .i64 i109, .int .i64 i111, .int .i64 i113, .str y115]) fun h116 =>
  (loadN 4 h116 (pv 0 0)).bind fun c117 =>
  frzV h116 (.tup [.s (.int .i64 i105), .agg c117])
  else none := by
  rw [pure_eq]; kernel_rfl

noncomputable def Jn.spec_PackRow_0 (q117 : Bool) (a1_0 : Int) (a1_1 : Int) (a1_2 : Int) (a1_3 : ByteArray) (a0 : Int) : Option (V) :=
  vcase (bv q117)
  (some (.agg [.int .i64 1, .fs []]))
  (pcallS (call Ev) Fn.spec_l1Fault [fv [.int .i64 a1_0, .int .i64 a1_1, .int .i64 a1_2, .str a1_3] 0] fun v119 =>
  gV1 v119 fun x120 =>
  gI .i64 x120 fun i121 =>
  vcase (bv (i121 != 0))
  (some (.agg [.int .i64 i121, .fs []]))
  (pcallF (call Ev) Fn.spec_l1Cell false [iv .i64 a0, fv [.int .i64 a1_0, .int .i64 a1_1, .int .i64 a1_2, .str a1_3] 0] (((D 0).new 0 [.int .i64 a1_0, .int .i64 a1_1, .int .i64 a1_2, .str a1_3]).new 0 [.int .i64 0, .sl none 0]) fun v123 h124 =>
  cellsK v123 fun c125 =>
  if c125.length = 1 ∧ 1 + 1 ≤ ([.int .i64 0, .sl none 0] : List S).length then
  ((setAt ([.int .i64 0, .sl none 0] : List S) 1 c125)[0]?).bind fun x126 =>
  gI .i64 x126 fun i127 =>
  ((setAt ([.int .i64 0, .sl none 0] : List S) 1 c125)[1]?).bind fun x128 =>
  if (setAt ([.int .i64 0, .sl none 0] : List S) 1 c125).length = 2 then
  stK 2 h124 (pv 1 0) (.agg [.int .i64 i127, x128]) fun h129 =>
  (loadN 2 h129 (pv 1 0)).bind fun c130 =>
  frzV h129 (.agg c130)
  else none
  else none))

theorem pu_spec_PackRow (a0 : Int) (a1_0 : Int) (a1_1 : Int) (a1_2 : Int) (a1_3 : ByteArray) : pureV (call Ev) Fn.spec_PackRow [iv .i64 a0, .agg [.int .i64 a1_0, .int .i64 a1_1, .int .i64 a1_2, .str a1_3]] =
  vcase (bv (a0 != 0))
  (Jn.spec_PackRow_0 (a0 != 2) a1_0 a1_1 a1_2 a1_3 a0)
  (Jn.spec_PackRow_0 false a1_0 a1_1 a1_2 a1_3 a0) := by
  rw [pure_eq]; kernel_rfl

noncomputable def Jn.laws_FnCells_0 (q1221 : Bool) (w1222 : V) (w1223 : V) (w1224 : V) (w1225 : V) (w1226 : V) (w1227 : V) (w1228 : V) (w1229 : V) (w1230 : V) (w1231 : V) (w1232 : V) (w1233 : V) (w1234 : V) (w1235 : V) (w1236 : V) (w1237 : V) (w1238 : V) (w1239 : V) (w1240 : V) (w1241 : V) (q1242 : Bool) (a0 : List (List S)) (i111 : Int) (i113 : Int) (i115 : Int) (i117 : Int) (i119 : Int) (i121 : Int) (i123 : Int) (y125 : ByteArray) (i1176 : Int) (z1178 : List (List S)) (i1182 : Int) (i1184 : Int) (i1186 : Int) (i1188 : Int) (i1190 : Int) (i1192 : Int) (i1194 : Int) (y1196 : ByteArray) : Option (V) :=
  vcase (bv q1242)
  (some (bv false))
  (pcallS (call Ev) Fn.spec_DrawPackRow [lv a0] fun v1244 =>
  gVT v1244 fun u1245 =>
  (u1245[0]?).bind fun t1246 =>
  gA1 t1246 fun x1247 =>
  gI .i64 x1247 fun i1248 =>
  (u1245[1]?).bind fun t1249 =>
  gAA t1249 fun c1250 =>
  (c1250[0]?).bind fun x1251 =>
  gI .i64 x1251 fun i1252 =>
  (c1250[1]?).bind fun x1253 =>
  gI .i64 x1253 fun i1254 =>
  (c1250[2]?).bind fun x1255 =>
  gI .i64 x1255 fun i1256 =>
  (c1250[3]?).bind fun x1257 =>
  gS x1257 fun y1258 =>
  if c1250.length = 4 then
  if u1245.length = 2 then
  (pureV (call Ev) Fn.impl_PackRow [iv .i64 i1248, .agg [.int .i64 i1252, .int .i64 i1254, .int .i64 i1256, .str y1258]]).bind fun v1259 =>
  gVA v1259 fun c1260 =>
  (c1260[0]?).bind fun x1261 =>
  gI .i64 x1261 fun i1262 =>
  (c1260[1]?).bind fun x1263 =>
  gF x1263 fun z1264 =>
  if c1260.length = 2 then
  vcase (bv (i1262 != 0))
  ((pureV (call Ev) Fn.spec_PackRow [iv .i64 i1248, .agg [.int .i64 i1252, .int .i64 i1254, .int .i64 i1256, .str y1258]]).bind fun v1266 =>
  gVA v1266 fun c1267 =>
  (c1267[0]?).bind fun x1268 =>
  gI .i64 x1268 fun i1269 =>
  (c1267[1]?).bind fun x1270 =>
  gF x1270 fun z1271 =>
  if c1267.length = 2 then
  hchk (((((((((((D 0).new 0 [.int .i64 0, .int .i64 0, .int .i64 0, .int .i64 0, .int .i64 0, .int .i64 0, .int .i64 0, .str (⟨#[]⟩)]).put 0 (.rw 0 [.int .i64 i111, .int .i64 i113, .int .i64 i115, .int .i64 i117, .int .i64 i119, .int .i64 i121, .int .i64 i123, .str y125])).new 0 [.int .i64 0, .sl none 0]).put 1 (.rw 0 [.int .i64 i1176, .fs z1178])).new 0 [.int .i64 0, .int .i64 0, .int .i64 0, .int .i64 0, .int .i64 0, .int .i64 0, .int .i64 0, .str (⟨#[]⟩)]).put 2 (.rw 0 [.int .i64 i1182, .int .i64 i1184, .int .i64 i1186, .int .i64 i1188, .int .i64 i1190, .int .i64 i1192, .int .i64 i1194, .str y1196])).new 0 [.int .i64 0, .int .i64 0, .int .i64 0, .str (⟨#[]⟩)]).put 3 (.rw 0 [.int .i64 i1252, .int .i64 i1254, .int .i64 i1256, .str y1258])).new 0 [.int .i64 0, .sl none 0]).put 4 (.rw 0 [.int .i64 i1262, .fs z1264])) (((((((((((D 0).new 0 [.int .i64 0, .int .i64 0, .int .i64 0, .int .i64 0, .int .i64 0, .int .i64 0, .int .i64 0, .str (⟨#[]⟩)]).put 0 (.rw 0 [.int .i64 i111, .int .i64 i113, .int .i64 i115, .int .i64 i117, .int .i64 i119, .int .i64 i121, .int .i64 i123, .str y125])).new 0 [.int .i64 0, .sl none 0]).put 1 (.rw 0 [.int .i64 i1176, .fs z1178])).new 0 [.int .i64 0, .int .i64 0, .int .i64 0, .int .i64 0, .int .i64 0, .int .i64 0, .int .i64 0, .str (⟨#[]⟩)]).put 2 (.rw 0 [.int .i64 i1182, .int .i64 i1184, .int .i64 i1186, .int .i64 i1188, .int .i64 i1190, .int .i64 i1192, .int .i64 i1194, .str y1196])).new 0 [.int .i64 0, .int .i64 0, .int .i64 0, .str (⟨#[]⟩)]).put 3 (.rw 0 [.int .i64 i1252, .int .i64 i1254, .int .i64 i1256, .str y1258])).new 0 [.int .i64 0, .sl none 0]).put 4 (.rw 0 [.int .i64 i1262, .fs z1264])) (
  hchk (((((((((((D 0).new 0 [.int .i64 0, .int .i64 0, .int .i64 0, .int .i64 0, .int .i64 0, .int .i64 0, .int .i64 0, .str (⟨#[]⟩)]).put 0 (.rw 0 [.int .i64 i111, .int .i64 i113, .int .i64 i115, .int .i64 i117, .int .i64 i119, .int .i64 i121, .int .i64 i123, .str y125])).new 0 [.int .i64 0, .sl none 0]).put 1 (.rw 0 [.int .i64 i1176, .fs z1178])).new 0 [.int .i64 0, .int .i64 0, .int .i64 0, .int .i64 0, .int .i64 0, .int .i64 0, .int .i64 0, .str (⟨#[]⟩)]).put 2 (.rw 0 [.int .i64 i1182, .int .i64 i1184, .int .i64 i1186, .int .i64 i1188, .int .i64 i1190, .int .i64 i1192, .int .i64 i1194, .str y1196])).new 0 [.int .i64 0, .int .i64 0, .int .i64 0, .str (⟨#[]⟩)]).put 3 (.rw 0 [.int .i64 i1252, .int .i64 i1254, .int .i64 i1256, .str y1258])).new 0 [.int .i64 0, .sl none 0]).put 4 (.rw 0 [.int .i64 i1262, .fs z1264])) (((((((((((D 0).new 0 [.int .i64 0, .int .i64 0, .int .i64 0, .int .i64 0, .int .i64 0, .int .i64 0, .int .i64 0, .str (⟨#[]⟩)]).put 0 (.rw 0 [.int .i64 i111, .int .i64 i113, .int .i64 i115, .int .i64 i117, .int .i64 i119, .int .i64 i121, .int .i64 i123, .str y125])).new 0 [.int .i64 0, .sl none 0]).put 1 (.rw 0 [.int .i64 i1176, .fs z1178])).new 0 [.int .i64 0, .int .i64 0, .int .i64 0, .int .i64 0, .int .i64 0, .int .i64 0, .int .i64 0, .str (⟨#[]⟩)]).put 2 (.rw 0 [.int .i64 i1182, .int .i64 i1184, .int .i64 i1186, .int .i64 i1188, .int .i64 i1190, .int .i64 i1192, .int .i64 i1194, .str y1196])).new 0 [.int .i64 0, .int .i64 0, .int .i64 0, .str (⟨#[]⟩)]).put 3 (.rw 0 [.int .i64 i1252, .int .i64 i1254, .int .i64 i1256, .str y1258])).new 0 [.int .i64 0, .sl none 0]).put 4 (.rw 0 [.int .i64 i1262, .fs z1264])) (
  hchk (((((((((((D 0).new 0 [.int .i64 0, .int .i64 0, .int .i64 0, .int .i64 0, .int .i64 0, .int .i64 0, .int .i64 0, .str (⟨#[]⟩)]).put 0 (.rw 0 [.int .i64 i111, .int .i64 i113, .int .i64 i115, .int .i64 i117, .int .i64 i119, .int .i64 i121, .int .i64 i123, .str y125])).new 0 [.int .i64 0, .sl none 0]).put 1 (.rw 0 [.int .i64 i1176, .fs z1178])).new 0 [.int .i64 0, .int .i64 0, .int .i64 0, .int .i64 0, .int .i64 0, .int .i64 0, .int .i64 0, .str (⟨#[]⟩)]).put 2 (.rw 0 [.int .i64 i1182, .int .i64 i1184, .int .i64 i1186, .int .i64 i1188, .int .i64 i1190, .int .i64 i1192, .int .i64 i1194, .str y1196])).new 0 [.int .i64 0, .int .i64 0, .int .i64 0, .str (⟨#[]⟩)]).put 3 (.rw 0 [.int .i64 i1252, .int .i64 i1254, .int .i64 i1256, .str y1258])).new 0 [.int .i64 0, .sl none 0]).put 4 (.rw 0 [.int .i64 i1262, .fs z1264])) (((((((((((D 0).new 0 [.int .i64 0, .int .i64 0, .int .i64 0, .int .i64 0, .int .i64 0, .int .i64 0, .int .i64 0, .str (⟨#[]⟩)]).put 0 (.rw 0 [.int .i64 i111, .int .i64 i113, .int .i64 i115, .int .i64 i117, .int .i64 i119, .int .i64 i121, .int .i64 i123, .str y125])).new 0 [.int .i64 0, .sl none 0]).put 1 (.rw 0 [.int .i64 i1176, .fs z1178])).new 0 [.int .i64 0, .int .i64 0, .int .i64 0, .int .i64 0, .int .i64 0, .int .i64 0, .int .i64 0, .str (⟨#[]⟩)]).put 2 (.rw 0 [.int .i64 i1182, .int .i64 i1184, .int .i64 i1186, .int .i64 i1188, .int .i64 i1190, .int .i64 i1192, .int .i64 i1194, .str y1196])).new 0 [.int .i64 0, .int .i64 0, .int .i64 0, .str (⟨#[]⟩)]).put 3 (.rw 0 [.int .i64 i1252, .int .i64 i1254, .int .i64 i1256, .str y1258])).new 0 [.int .i64 0, .sl none 0]).put 4 (.rw 0 [.int .i64 i1262, .fs z1264])) (
  hchk (((((((((((D 0).new 0 [.int .i64 0, .int .i64 0, .int .i64 0, .int .i64 0, .int .i64 0, .int .i64 0, .int .i64 0, .str (⟨#[]⟩)]).put 0 (.rw 0 [.int .i64 i111, .int .i64 i113, .int .i64 i115, .int .i64 i117, .int .i64 i119, .int .i64 i121, .int .i64 i123, .str y125])).new 0 [.int .i64 0, .sl none 0]).put 1 (.rw 0 [.int .i64 i1176, .fs z1178])).new 0 [.int .i64 0, .int .i64 0, .int .i64 0, .int .i64 0, .int .i64 0, .int .i64 0, .int .i64 0, .str (⟨#[]⟩)]).put 2 (.rw 0 [.int .i64 i1182, .int .i64 i1184, .int .i64 i1186, .int .i64 i1188, .int .i64 i1190, .int .i64 i1192, .int .i64 i1194, .str y1196])).new 0 [.int .i64 0, .int .i64 0, .int .i64 0, .str (⟨#[]⟩)]).put 3 (.rw 0 [.int .i64 i1252, .int .i64 i1254, .int .i64 i1256, .str y1258])).new 0 [.int .i64 0, .sl none 0]).put 4 (.rw 0 [.int .i64 i1262, .fs z1264])) (((((((((((D 0).new 0 [.int .i64 0, .int .i64 0, .int .i64 0, .int .i64 0, .int .i64 0, .int .i64 0, .int .i64 0, .str (⟨#[]⟩)]).put 0 (.rw 0 [.int .i64 i111, .int .i64 i113, .int .i64 i115, .int .i64 i117, .int .i64 i119, .int .i64 i121, .int .i64 i123, .str y125])).new 0 [.int .i64 0, .sl none 0]).put 1 (.rw 0 [.int .i64 i1176, .fs z1178])).new 0 [.int .i64 0, .int .i64 0, .int .i64 0, .int .i64 0, .int .i64 0, .int .i64 0, .int .i64 0, .str (⟨#[]⟩)]).put 2 (.rw 0 [.int .i64 i1182, .int .i64 i1184, .int .i64 i1186, .int .i64 i1188, .int .i64 i1190, .int .i64 i1192, .int .i64 i1194, .str y1196])).new 0 [.int .i64 0, .int .i64 0, .int .i64 0, .str (⟨#[]⟩)]).put 3 (.rw 0 [.int .i64 i1252, .int .i64 i1254, .int .i64 i1256, .str y1258])).new 0 [.int .i64 0, .sl none 0]).put 4 (.rw 0 [.int .i64 i1262, .fs z1264])) (
  some (bv (i1269 == i1262))))))
  else none)
  (pcallS (call Ev) Fn.impl_UnpackCell [lv z1264] fun v1272 =>
  gVA v1272 fun c1273 =>
  (c1273[0]?).bind fun x1274 =>
  gI .i64 x1274 fun i1275 =>
  (c1273[1]?).bind fun x1276 =>
  gI .i64 x1276 fun i1277 =>
  (c1273[2]?).bind fun x1278 =>
  gI .i64 x1278 fun i1279 =>
  (c1273[3]?).bind fun x1280 =>
  gI .i64 x1280 fun i1281 =>
  (c1273[4]?).bind fun x1282 =>
  gI .i64 x1282 fun i1283 =>
  (c1273[5]?).bind fun x1284 =>
  gI .i64 x1284 fun i1285 =>
  (c1273[6]?).bind fun x1286 =>
  gI .i64 x1286 fun i1287 =>
  (c1273[7]?).bind fun x1288 =>
  gS x1288 fun y1289 =>
  if c1273.length = 8 then
  vcase (bv (i1275 == 0))
  (vcase (bv (i1277 == i1248))
  (vcase (bv (((i1283 : Int) == i1252) && (((i1285 : Int) == i1254) && (((i1287 : Int) == i1256) && (((y1289 : ByteArray).toList == (y1258 : ByteArray).toList) && true)))))
  (some (bv ((z1264.length : Int) == (IntKind.i64.wrap (6 + ((y1258 : ByteArray).size : Int))))))
  (some (bv false)))
  (some (bv false)))
  (some (bv false))
  else none)
  else none
  else none
  else none)

noncomputable def Jn.laws_FnCells_1 (q1163 : Bool) (a0 : List (List S)) (i111 : Int) (i113 : Int) (i115 : Int) (i117 : Int) (i119 : Int) (i121 : Int) (i123 : Int) (y125 : ByteArray) : Option (V) :=
  vcase (bv q1163)
  (some (bv false))
  (pcallS (call Ev) Fn.spec_DrawPackStub [lv a0] fun v1165 =>
  gVT v1165 fun u1166 =>
  (u1166[0]?).bind fun t1167 =>
  gA1 t1167 fun x1168 =>
  gI .i64 x1168 fun i1169 =>
  (u1166[1]?).bind fun t1170 =>
  gA1 t1170 fun x1171 =>
  gI .i64 x1171 fun i1172 =>
  if u1166.length = 2 then
  (pureV (call Ev) Fn.impl_PackStub [iv .i64 i1169, iv .i64 i1172]).bind fun v1173 =>
  gVA v1173 fun c1174 =>
  (c1174[0]?).bind fun x1175 =>
  gI .i64 x1175 fun i1176 =>
  (c1174[1]?).bind fun x1177 =>
  gF x1177 fun z1178 =>
  if c1174.length = 2 then
  pcallS (call Ev) Fn.impl_UnpackCell [lv z1178] fun v1179 =>
  gVA v1179 fun c1180 =>
  (c1180[0]?).bind fun x1181 =>
  gI .i64 x1181 fun i1182 =>
  (c1180[1]?).bind fun x1183 =>
  gI .i64 x1183 fun i1184 =>
  (c1180[2]?).bind fun x1185 =>
  gI .i64 x1185 fun i1186 =>
  (c1180[3]?).bind fun x1187 =>
  gI .i64 x1187 fun i1188 =>
  (c1180[4]?).bind fun x1189 =>
  gI .i64 x1189 fun i1190 =>
  (c1180[5]?).bind fun x1191 =>
  gI .i64 x1191 fun i1192 =>
  (c1180[6]?).bind fun x1193 =>
  gI .i64 x1193 fun i1194 =>
  (c1180[7]?).bind fun x1195 =>
  gS x1195 fun y1196 =>
  if c1180.length = 8 then
  (pureV (call Ev) Fn.spec_PackStub [iv .i64 i1169, iv .i64 i1172]).bind fun v1197 =>
  gVA v1197 fun c1198 =>
  (c1198[0]?).bind fun x1199 =>
  gI .i64 x1199 fun i1200 =>
  (c1198[1]?).bind fun x1201 =>
  gF x1201 fun z1202 =>
  if c1198.length = 2 then
  hchk (((((((D 0).new 0 [.int .i64 0, .int .i64 0, .int .i64 0, .int .i64 0, .int .i64 0, .int .i64 0, .int .i64 0, .str (⟨#[]⟩)]).put 0 (.rw 0 [.int .i64 i111, .int .i64 i113, .int .i64 i115, .int .i64 i117, .int .i64 i119, .int .i64 i121, .int .i64 i123, .str y125])).new 0 [.int .i64 0, .sl none 0]).put 1 (.rw 0 [.int .i64 i1176, .fs z1178])).new 0 [.int .i64 0, .int .i64 0, .int .i64 0, .int .i64 0, .int .i64 0, .int .i64 0, .int .i64 0, .str (⟨#[]⟩)]).put 2 (.rw 0 [.int .i64 i1182, .int .i64 i1184, .int .i64 i1186, .int .i64 i1188, .int .i64 i1190, .int .i64 i1192, .int .i64 i1194, .str y1196])) (((((((D 0).new 0 [.int .i64 0, .int .i64 0, .int .i64 0, .int .i64 0, .int .i64 0, .int .i64 0, .int .i64 0, .str (⟨#[]⟩)]).put 0 (.rw 0 [.int .i64 i111, .int .i64 i113, .int .i64 i115, .int .i64 i117, .int .i64 i119, .int .i64 i121, .int .i64 i123, .str y125])).new 0 [.int .i64 0, .sl none 0]).put 1 (.rw 0 [.int .i64 i1176, .fs z1178])).new 0 [.int .i64 0, .int .i64 0, .int .i64 0, .int .i64 0, .int .i64 0, .int .i64 0, .int .i64 0, .str (⟨#[]⟩)]).put 2 (.rw 0 [.int .i64 i1182, .int .i64 i1184, .int .i64 i1186, .int .i64 i1188, .int .i64 i1190, .int .i64 i1192, .int .i64 i1194, .str y1196])) (
  vcase (bv (i1176 != i1200))
  (Jn.laws_FnCells_0 true (.tup []) (.tup []) (.tup []) (.tup []) (.tup []) (.tup []) (.tup []) (.tup []) (.tup []) (.tup []) (.tup []) (.tup []) (.tup []) (.tup []) (.tup []) (.tup []) (.tup []) (.tup []) (.tup []) (.tup []) true a0 i111 i113 i115 i117 i119 i121 i123 y125 i1176 z1178 i1182 i1184 i1186 i1188 i1190 i1192 i1194 y1196)
  (vcase (bv (i1176 == 0))
  (vcase (bv (i1186 != i1169))
  (Jn.laws_FnCells_0 false (pv 1 0) (iv .i64 i1176) (bv (i1176 == 0)) (bv true) (pv 2 2) (iv .i64 i1169) (iv .i64 i1186) (bv (i1186 != i1169)) (bv true) (.tup []) (.tup []) (.tup []) (.tup []) (bv true) (bv true) (.tup []) (.tup []) (.tup []) (bv true) (bv true) true a0 i111 i113 i115 i117 i119 i121 i123 y125 i1176 z1178 i1182 i1184 i1186 i1188 i1190 i1192 i1194 y1196)
  (vcase (bv (i1188 != i1172))
  (Jn.laws_FnCells_0 false (pv 1 0) (iv .i64 i1176) (bv (i1176 == 0)) (bv true) (pv 2 2) (iv .i64 i1169) (iv .i64 i1186) (bv (i1186 != i1169)) (bv false) (pv 2 3) (iv .i64 i1172) (iv .i64 i1188) (bv (i1188 != i1172)) (bv (i1188 != i1172)) (bv true) (.tup []) (.tup []) (.tup []) (bv true) (bv true) true a0 i111 i113 i115 i117 i119 i121 i123 y125 i1176 z1178 i1182 i1184 i1186 i1188 i1190 i1192 i1194 y1196)
  (Jn.laws_FnCells_0 false (pv 1 0) (iv .i64 i1176) (bv (i1176 == 0)) (bv true) (pv 2 2) (iv .i64 i1169) (iv .i64 i1186) (bv (i1186 != i1169)) (bv false) (pv 2 3) (iv .i64 i1172) (iv .i64 i1188) (bv (i1188 != i1172)) (bv (i1188 != i1172)) (bv false) (pv 2 1) (iv .i64 i1184) (bv (i1184 != 1)) (bv (i1184 != 1)) (bv (i1184 != 1)) (i1184 != 1) a0 i111 i113 i115 i117 i119 i121 i123 y125 i1176 z1178 i1182 i1184 i1186 i1188 i1190 i1192 i1194 y1196)))
  (Jn.laws_FnCells_0 false (pv 1 0) (iv .i64 i1176) (bv (i1176 == 0)) (bv false) (.tup []) (.tup []) (.tup []) (.tup []) (.tup []) (.tup []) (.tup []) (.tup []) (.tup []) (.tup []) (.tup []) (.tup []) (.tup []) (.tup []) (.tup []) (bv false) false a0 i111 i113 i115 i117 i119 i121 i123 y125 i1176 z1178 i1182 i1184 i1186 i1188 i1190 i1192 i1194 y1196)))
  else none
  else none
  else none
  else none)

noncomputable def Jn.laws_FnCells_2 (q1150 : Bool) (i113 : Int) (i119 : Int) (i121 : Int) (i123 : Int) (y125 : ByteArray) (z107 : List (List S)) (a0 : List (List S)) (i111 : Int) (i115 : Int) (i117 : Int) : Option (V) :=
  vcase (bv q1150)
  ((pureV (call Ev) Fn.impl_PackRow [iv .i64 i113, .agg [.int .i64 i119, .int .i64 i121, .int .i64 i123, .str y125]]).bind fun v1152 =>
  gVA v1152 fun c1153 =>
  (c1153[0]?).bind fun x1154 =>
  gI .i64 x1154 fun i1155 =>
  (c1153[1]?).bind fun x1156 =>
  gF x1156 fun z1157 =>
  if c1153.length = 2 then
  pcallS (call Ev) Fn.laws_lwSame [lv z1157, lv z107] fun v1158 =>
  gV1 v1158 fun x1159 =>
  gB x1159 fun q1160 =>
  Jn.laws_FnCells_1 (!q1160) a0 i111 i113 i115 i117 i119 i121 i123 y125
  else none)
  (Jn.laws_FnCells_1 false a0 i111 i113 i115 i117 i119 i121 i123 y125)

noncomputable def Jn.laws_FnCells_3 (q1122 : Bool) (w1123 : V) (w1124 : V) (w1125 : V) (w1126 : V) (w1127 : V) (w1128 : V) (q1129 : Bool) (i111 : Int) (i113 : Int) (i115 : Int) (i117 : Int) (z107 : List (List S)) (i119 : Int) (i121 : Int) (i123 : Int) (y125 : ByteArray) (a0 : List (List S)) : Option (V) :=
  vcase (bv q1129)
  (some (bv false))
  (vcase (bv (i111 == 0))
  (vcase (bv (i113 == 1))
  ((pureV (call Ev) Fn.impl_PackStub [iv .i64 i115, iv .i64 i117]).bind fun v1135 =>
  gVA v1135 fun c1136 =>
  (c1136[0]?).bind fun x1137 =>
  gI .i64 x1137 fun i1138 =>
  (c1136[1]?).bind fun x1139 =>
  gF x1139 fun z1140 =>
  if c1136.length = 2 then
  pcallS (call Ev) Fn.laws_lwSame [lv z1140, lv z107] fun v1141 =>
  gV1 v1141 fun x1142 =>
  gB x1142 fun q1143 =>
  vcase (bv (!q1143))
  (some (bv false))
  (vcase (bv (i111 == 0))
  (Jn.laws_FnCells_2 (i113 != 1) i113 i119 i121 i123 y125 z107 a0 i111 i115 i117)
  (Jn.laws_FnCells_2 false i113 i119 i121 i123 y125 z107 a0 i111 i115 i117))
  else none)
  (vcase (bv (i111 == 0))
  (Jn.laws_FnCells_2 (i113 != 1) i113 i119 i121 i123 y125 z107 a0 i111 i115 i117)
  (Jn.laws_FnCells_2 false i113 i119 i121 i123 y125 z107 a0 i111 i115 i117)))
  (vcase (bv (i111 == 0))
  (Jn.laws_FnCells_2 (i113 != 1) i113 i119 i121 i123 y125 z107 a0 i111 i115 i117)
  (Jn.laws_FnCells_2 false i113 i119 i121 i123 y125 z107 a0 i111 i115 i117)))

theorem pu_laws_FnCells (a0 : List (List S)) : pureV (call Ev) Fn.laws_FnCells [lv a0] =
  pcallS (call Ev) Fn.laws_lwBig [lv a0] fun v101 =>
  gV1 v101 fun x102 =>
  gB x102 fun q103 =>
  vcase (bv q103)
  (some (bv true))
  ((pureV (call Ev) Fn.spec_DrawUnpackCell [lv a0]).bind fun v105 =>
  gV1 v105 fun x106 =>
  gF x106 fun z107 =>
  pcallS (call Ev) Fn.impl_UnpackCell [lv z107] fun v108 =>
  gVA v108 fun c109 =>
  (c109[0]?).bind fun x110 =>
  gI .i64 x110 fun i111 =>
  (c109[1]?).bind fun x112 =>
  gI .i64 x112 fun i113 =>
  (c109[2]?).bind fun x114 =>
  gI .i64 x114 fun i115 =>
  (c109[3]?).bind fun x116 =>
  gI .i64 x116 fun i117 =>
  (c109[4]?).bind fun x118 =>
  gI .i64 x118 fun i119 =>
  (c109[5]?).bind fun x120 =>
  gI .i64 x120 fun i121 =>
  (c109[6]?).bind fun x122 =>
  gI .i64 x122 fun i123 =>
  (c109[7]?).bind fun x124 =>
  gS x124 fun y125 =>
  if c109.length = 8 then
  vcase (bv (i111 != 0))
  (pcallS (call Ev) Fn.spec_UnpackCell [lv z107] fun v127 =>
  gVA v127 fun c128 =>
  (c128[0]?).bind fun x129 =>
  gI .i64 x129 fun i130 =>
  (c128[1]?).bind fun x131 =>
  gI .i64 x131 fun i132 =>
  (c128[2]?).bind fun x133 =>
  gI .i64 x133 fun i134 =>
  (c128[3]?).bind fun x135 =>
  gI .i64 x135 fun i136 =>
  (c128[4]?).bind fun x137 =>
  gI .i64 x137 fun i138 =>
  (c128[5]?).bind fun x139 =>
  gI .i64 x139 fun i140 =>
  (c128[6]?).bind fun x141 =>
  gI .i64 x141 fun i142 =>
  (c128[7]?).bind fun x143 =>
  gS x143 fun y144 =>
  if c128.length = 8 then
  hchk (((D 0).new 0 [.int .i64 0, .int .i64 0, .int .i64 0, .int .i64 0, .int .i64 0, .int .i64 0, .int .i64 0, .str (⟨#[]⟩)]).put 0 (.rw 0 [.int .i64 i111, .int .i64 i113, .int .i64 i115, .int .i64 i117, .int .i64 i119, .int .i64 i121, .int .i64 i123, .str y125])) (((D 0).new 0 [.int .i64 0, .int .i64 0, .int .i64 0, .int .i64 0, .int .i64 0, .int .i64 0, .int .i64 0, .str (⟨#[]⟩)]).put 0 (.rw 0 [.int .i64 i111, .int .i64 i113, .int .i64 i115, .int .i64 i117, .int .i64 i119, .int .i64 i121, .int .i64 i123, .str y125])) (
  Jn.laws_FnCells_3 true (lv z107) (pv 0 0) (iv .i64 i111) (.agg [.int .i64 i130, .int .i64 i132, .int .i64 i134, .int .i64 i136, .int .i64 i138, .int .i64 i140, .int .i64 i142, .str y144]) (iv .i64 i130) (bv (i130 != i111)) (i130 != i111) i111 i113 i115 i117 z107 i119 i121 i123 y125 a0)
  else none)
  (hchk (((D 0).new 0 [.int .i64 0, .int .i64 0, .int .i64 0, .int .i64 0, .int .i64 0, .int .i64 0, .int .i64 0, .str (⟨#[]⟩)]).put 0 (.rw 0 [.int .i64 i111, .int .i64 i113, .int .i64 i115, .int .i64 i117, .int .i64 i119, .int .i64 i121, .int .i64 i123, .str y125])) (((D 0).new 0 [.int .i64 0, .int .i64 0, .int .i64 0, .int .i64 0, .int .i64 0, .int .i64 0, .int .i64 0, .str (⟨#[]⟩)]).put 0 (.rw 0 [.int .i64 i111, .int .i64 i113, .int .i64 i115, .int .i64 i117, .int .i64 i119, .int .i64 i121, .int .i64 i123, .str y125])) (
  Jn.laws_FnCells_3 false (.tup []) (.tup []) (.tup []) (.tup []) (.tup []) (.tup []) false i111 i113 i115 i117 z107 i119 i121 i123 y125 a0))
  else none) := by
  rw [pure_eq]; kernel_rfl

theorem pu_spec_l3Diff (a0 : List (List S)) (a1 : List (List S)) : pureV (call Ev) Fn.spec_l3Diff [lv a0, lv a1] =
  (Lp.spec_l3Diff 0 [lv a0, lv a1, sv 0 0 0, bv false, iv .i64 0] ((D 0).new 2 [])).bind fun o101 => lcase o101 (fun l102 h103 =>
  (l102[0]?).bind fun w106 =>
  frzV h103 w106) (fun v104 h105 =>
  frzV h105 v104) := by
  rw [pure_eq]; kernel_rfl

theorem eq_spec_l3Diff_l0 (s0 : List (List S)) (s1 : List (List S)) (s5 : V) (s6 : Bool) (s7 : Int) (h : H) : Lp.spec_l3Diff 0 [lv s0, lv s1, s5, bv s6, iv .i64 s7] h =
  vcase (bv (decide (s7 < (s0.length : Int))))
  (idxF 1 s0 s7 fun r203 =>
  (r203[0]?).bind fun x204 =>
  gI .u8 x204 fun i205 =>
  idxF 1 s1 s7 fun r206 =>
  (r206[0]?).bind fun x207 =>
  gI .u8 x207 fun i208 =>
  vcase (bv (i205 == i208))
  (Lp.spec_l3Diff 0 [lv s0, lv s1, s5, bv false, iv .i64 (IntKind.i64.wrap (s7 + 1))] (tidy h [lv s0, lv s1, s5, bv false, iv .i64 (IntKind.i64.wrap (s7 + 1))] h))
  (vcase (bv (!s6))
  ((appS 2 (h.new 2 [.int .i64 s7, .sl none 0]) s5 (sv h.n 0 1)).bind fun p211 =>
  (lenV (.sl 116) p211.1).bind fun v212 =>
  gV1 v212 fun x213 =>
  gI .i64 x213 fun i214 =>
  idxK 2 p211.1 (iv .i64 (IntKind.i64.wrap (i214 - 1))) fun v215 =>
  (notNil v215).bind fun v216 =>
  (padd 1 v216).bind fun v217 =>
  ldK (.one (.f)) ⟨1, 24, [.sl none 0], false, .sl 5, false⟩ p211.2 v217 fun v218 =>
  idxF 1 s1 s7 fun r219 =>
  (r219[0]?).bind fun x220 =>
  gI .u8 x220 fun i221 =>
  hchk p211.2 (p211.2.new 1 [.int .u8 i221]) (
  (appS 1 (p211.2.new 1 [.int .u8 i221]) v218 (sv p211.2.n 0 1)).bind fun p222 =>
  (notNil v215).bind fun v223 =>
  (padd 1 v223).bind fun v224 =>
  stK 1 p222.2 v224 p222.1 fun h225 =>
  Lp.spec_l3Diff 0 [lv s0, lv s1, p211.1, bv true, iv .i64 (IntKind.i64.wrap (s7 + 1))] (tidy h [lv s0, lv s1, p211.1, bv true, iv .i64 (IntKind.i64.wrap (s7 + 1))] h225)))
  ((lenV (.sl 116) s5).bind fun v226 =>
  gV1 v226 fun x227 =>
  gI .i64 x227 fun i228 =>
  idxK 2 s5 (iv .i64 (IntKind.i64.wrap (i228 - 1))) fun v229 =>
  (notNil v229).bind fun v230 =>
  (padd 1 v230).bind fun v231 =>
  ldK (.one (.f)) ⟨1, 24, [.sl none 0], false, .sl 5, false⟩ h v231 fun v232 =>
  idxF 1 s1 s7 fun r233 =>
  (r233[0]?).bind fun x234 =>
  gI .u8 x234 fun i235 =>
  hchk h (h.new 1 [.int .u8 i235]) (
  (appS 1 (h.new 1 [.int .u8 i235]) v232 (sv h.n 0 1)).bind fun p236 =>
  (notNil v229).bind fun v237 =>
  (padd 1 v237).bind fun v238 =>
  stK 1 p236.2 v238 p236.1 fun h239 =>
  Lp.spec_l3Diff 0 [lv s0, lv s1, s5, bv true, iv .i64 (IntKind.i64.wrap (s7 + 1))] (tidy h [lv s0, lv s1, s5, bv true, iv .i64 (IntKind.i64.wrap (s7 + 1))] h239)))))
  (some (.done [s5] (tidy h [s5] h))) := by
  unfold Lp.spec_l3Diff; rw [loop_eq]; kernel_rfl

theorem pu_spec_DiffBytes (a0 : List (List S)) (a1 : List (List S)) : pureV (call Ev) Fn.spec_DiffBytes [lv a0, lv a1] =
  vcase (bv ((a0.length : Int) != 64))
  (some (.agg [.int .i64 1, .fs []]))
  (vcase (bv ((a1.length : Int) != 64))
  (some (.agg [.int .i64 1, .fs []]))
  ((pureV (call Ev) Fn.spec_l3Diff [lv a0, lv a1]).bind fun v106 =>
  gV1 v106 fun x107 =>
  gF x107 fun z108 =>
  some (.agg [.int .i64 0, .fs z108]))) := by
  rw [pure_eq]; kernel_rfl

end Vm
