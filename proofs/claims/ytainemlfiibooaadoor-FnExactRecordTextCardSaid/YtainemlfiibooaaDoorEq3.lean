/-
  What each function, and each round of each loop, comes to in the small machine. Written by a program (gen3.py).
-/
import Derived.Test.YtainemlfiibooaaDoorEnv
set_option linter.unusedVariables false
set_option maxRecDepth 100000
namespace Vm
open Go

noncomputable def Jn.spec_ReadRecord_0 (q214 : Bool) (w215 : V) (w216 : V) (w217 : V) (w218 : V) (w219 : V) (w220 : V) (w221 : V) (q222 : Bool) (h223 : H) (i187 : Int) : Option (V) :=
  vcase (bv q222)
  (stK 6 h223 (pv 0 0) (.agg [.int .i64 5, .int .i64 0, .int .i64 0, .int .i64 0, .int .i64 0, .sl none 0]) fun h225 =>
  (loadN 6 h225 (pv 0 0)).bind fun c226 =>
  frzV h225 (.agg c226))
  ((loadN 4 h223 (pv 1 0)).bind fun c227 =>
  (c227[0]?).bind fun x228 =>
  gI .i64 x228 fun i229 =>
  (c227[1]?).bind fun x230 =>
  gI .i64 x230 fun i231 =>
  (c227[2]?).bind fun x232 =>
  gI .i64 x232 fun i233 =>
  (c227[3]?).bind fun x234 =>
  if c227.length = 4 then
  stK 6 h223 (pv 0 0) (.agg [.int .i64 0, .int .i64 (IntKind.i64.wrap i187), .int .i64 i229, .int .i64 i231, .int .i64 i233, x234]) fun h235 =>
  (loadN 6 h235 (pv 0 0)).bind fun c236 =>
  frzV h235 (.agg c236)
  else none)

noncomputable def Jn.spec_ReadRecord_1 (q183 : Bool) (a0 : List (List S)) : Option (V) :=
  vcase (bv q183)
  (some (.agg [.int .i64 5, .int .i64 0, .int .i64 0, .int .i64 0, .int .i64 0, .fs []]))
  (idxF 1 a0 0 fun r185 =>
  (r185[0]?).bind fun x186 =>
  gI .u8 x186 fun i187 =>
  slF 1 a0 none (some (iv .i64 (IntKind.i64.wrap i187))) fun z188 =>
  (pureV (call Ev) Fn.spec_l4Read [lv z188]).bind fun v189 =>
  gVA v189 fun c190 =>
  (c190[0]?).bind fun x191 =>
  gI .i64 x191 fun i192 =>
  (c190[1]?).bind fun x193 =>
  gI .i64 x193 fun i194 =>
  (c190[2]?).bind fun x195 =>
  gI .i64 x195 fun i196 =>
  (c190[3]?).bind fun x197 =>
  gF x197 fun z198 =>
  if c190.length = 4 then
  pcallS (call Ev) Fn.spec_l4Fault [fv [.int .i64 i192, .int .i64 i194, .int .i64 i196, .fs z198] 0] fun v199 =>
  gV1 v199 fun x200 =>
  gI .i64 x200 fun i201 =>
  hchk ((((D 0).new 0 [.int .i64 0, .int .i64 0, .int .i64 0, .int .i64 0, .int .i64 0, .sl none 0]).new 0 [.int .i64 0, .int .i64 0, .int .i64 0, .sl none 0]).put 1 (.rw 0 [.int .i64 i192, .int .i64 i194, .int .i64 i196, .fs z198])) ((((D 0).new 0 [.int .i64 0, .int .i64 0, .int .i64 0, .int .i64 0, .int .i64 0, .sl none 0]).new 0 [.int .i64 0, .int .i64 0, .int .i64 0, .sl none 0]).put 1 (.rw 0 [.int .i64 i192, .int .i64 i194, .int .i64 i196, .fs z198])) (
  vcase (bv (i201 != 0))
  (hchk ((((D 0).new 0 [.int .i64 0, .int .i64 0, .int .i64 0, .int .i64 0, .int .i64 0, .sl none 0]).new 0 [.int .i64 0, .int .i64 0, .int .i64 0, .sl none 0]).put 1 (.rw 0 [.int .i64 i192, .int .i64 i194, .int .i64 i196, .fs z198])) ((((D 0).new 0 [.int .i64 0, .int .i64 0, .int .i64 0, .int .i64 0, .int .i64 0, .sl none 0]).new 0 [.int .i64 0, .int .i64 0, .int .i64 0, .sl none 0]).put 1 (.rw 0 [.int .i64 i192, .int .i64 i194, .int .i64 i196, .fs z198])) (
  hchk ((((D 0).new 0 [.int .i64 0, .int .i64 0, .int .i64 0, .int .i64 0, .int .i64 0, .sl none 0]).new 0 [.int .i64 0, .int .i64 0, .int .i64 0, .sl none 0]).put 1 (.rw 0 [.int .i64 i192, .int .i64 i194, .int .i64 i196, .fs z198])) ((((D 0).new 0 [.int .i64 0, .int .i64 0, .int .i64 0, .int .i64 0, .int .i64 0, .sl none 0]).new 0 [.int .i64 0, .int .i64 0, .int .i64 0, .sl none 0]).put 1 (.rw 0 [.int .i64 i192, .int .i64 i194, .int .i64 i196, .fs z198])) (
  Jn.spec_ReadRecord_0 true (.tup []) (.tup []) (.tup []) (.tup []) (.tup []) (.tup []) (.tup []) true ((((D 0).new 0 [.int .i64 0, .int .i64 0, .int .i64 0, .int .i64 0, .int .i64 0, .sl none 0]).new 0 [.int .i64 0, .int .i64 0, .int .i64 0, .sl none 0]).put 1 (.rw 0 [.int .i64 i192, .int .i64 i194, .int .i64 i196, .fs z198])) i187)))
  (slF 1 a0 none (some (iv .i64 (IntKind.i64.wrap i187))) fun z204 =>
  (fsStr z204).bind fun v205 =>
  gV1 v205 fun x206 =>
  gS x206 fun y207 =>
  pcallF (call Ev) Fn.spec_l4Pack false [fv [.int .i64 i192, .int .i64 i194, .int .i64 i196, .fs z198] 0] ((((D 0).new 0 [.int .i64 0, .int .i64 0, .int .i64 0, .int .i64 0, .int .i64 0, .sl none 0]).new 0 [.int .i64 0, .int .i64 0, .int .i64 0, .sl none 0]).put 1 (.rw 0 [.int .i64 i192, .int .i64 i194, .int .i64 i196, .fs z198])) fun v208 h209 =>
  hchk ((((D 0).new 0 [.int .i64 0, .int .i64 0, .int .i64 0, .int .i64 0, .int .i64 0, .sl none 0]).new 0 [.int .i64 0, .int .i64 0, .int .i64 0, .sl none 0]).put 1 (.rw 0 [.int .i64 i192, .int .i64 i194, .int .i64 i196, .fs z198])) h209 (
  bif scaV v208 then
  (cvStr h209 v208).bind fun v210 =>
  gV1 v210 fun x211 =>
  gS x211 fun y212 =>
  hchk ((((D 0).new 0 [.int .i64 0, .int .i64 0, .int .i64 0, .int .i64 0, .int .i64 0, .sl none 0]).new 0 [.int .i64 0, .int .i64 0, .int .i64 0, .sl none 0]).put 1 (.rw 0 [.int .i64 i192, .int .i64 i194, .int .i64 i196, .fs z198])) h209 (
  Jn.spec_ReadRecord_0 false (lv a0) (iv .i64 (IntKind.i64.wrap i187)) (lv z204) (.s (.str y207)) v208 (.s (.str y212)) (bv (!((y212 : ByteArray).toList == (y207 : ByteArray).toList))) (!((y212 : ByteArray).toList == (y207 : ByteArray).toList)) h209 i187)
  else none)))
  else none)

theorem pu_spec_ReadRecord (a0 : List (List S)) : pureV (call Ev) Fn.spec_ReadRecord [lv a0] =
  vcase (bv (decide ((a0.length : Int) < 7)))
  (some (.agg [.int .i64 5, .int .i64 0, .int .i64 0, .int .i64 0, .int .i64 0, .fs []]))
  (idxF 1 a0 0 fun r103 =>
  (r103[0]?).bind fun x104 =>
  gI .u8 x104 fun i105 =>
  vcase (bv (decide ((IntKind.i64.wrap i105) < 7)))
  (Jn.spec_ReadRecord_1 true a0)
  (idxF 1 a0 0 fun r111 =>
  (r111[0]?).bind fun x112 =>
  gI .u8 x112 fun i113 =>
  Jn.spec_ReadRecord_1 (decide ((a0.length : Int) < (IntKind.i64.wrap i113))) a0)) := by
  rw [pure_eq]; kernel_rfl

theorem pu_laws_lwSame (a0 : List (List S)) (a1 : List (List S)) : pureV (call Ev) Fn.laws_lwSame [lv a0, lv a1] =
  (fsStr a0).bind fun v101 =>
  gV1 v101 fun x102 =>
  gS x102 fun y103 =>
  (fsStr a1).bind fun v104 =>
  gV1 v104 fun x105 =>
  gS x105 fun y106 =>
  some (bv ((y103 : ByteArray).toList == (y106 : ByteArray).toList)) := by
  rw [pure_eq]; kernel_rfl

theorem pu_impl_PackRecord (a0_0 : Int) (a0_1 : Int) (a0_2 : Int) (a0_3 : List (List S)) : pureV (call Ev) Fn.impl_PackRecord [.agg [.int .i64 a0_0, .int .i64 a0_1, .int .i64 a0_2, .fs a0_3]] =
  pcallS (call Ev) Fn.impl_RecordFault [.agg [.int .i64 a0_0, .int .i64 a0_1, .int .i64 a0_2, .fs a0_3]] fun v101 =>
  gV1 v101 fun x102 =>
  gI .i64 x102 fun i103 =>
  vcase (bv (i103 != 0))
  (some (.agg [.int .i64 i103, .fs []]))
  ((pureV (call Ev) Fn.impl_packed [.agg [.int .i64 a0_0, .int .i64 a0_1, .int .i64 a0_2, .fs a0_3]]).bind fun v105 =>
  gV1 v105 fun x106 =>
  gF x106 fun z107 =>
  some (.agg [.int .i64 0, .fs z107])) := by
  rw [pure_eq]; kernel_rfl

theorem eq_spec_l3Bent (a0_b a0_o : Nat) (h : H) : call Ev Fn.spec_l3Bent [pv a0_b a0_o] h =
  (call Ev Fn.spec_l3Two [pv a0_b a0_o] h).bind fun p101 =>
  gVT p101.1 fun u102 =>
  (u102[0]?).bind fun t103 =>
  gA1 t103 fun x104 =>
  (u102[1]?).bind fun t105 =>
  gA1 t105 fun x106 =>
  if u102.length = 2 then
  (frzVs (tidy h [p101.1] p101.2) [.s x104, .s x106]).bind fun l107 =>
  pcallF (call Ev) Fn.spec_l3Diff ([.s x104, .s x106].all offV) (normVs [] l107) (tidy h [p101.1] p101.2) fun v108 h109 =>
  (call Ev Fn.spec_l1Next [pv a0_b a0_o, iv .i64 10] h109).bind fun p110 =>
  gV1 p110.1 fun x111 =>
  gI .i64 x111 fun i112 =>
  vcase (bv (i112 == 0))
  ((call Ev Fn.spec_l1Pick [pv a0_b a0_o, sv ((tidy h109 [p110.1] p110.2).n) 0 4] ((tidy h109 [p110.1] p110.2).new 1 [.int .i64 (-1), .int .i64 0, .int .i64 63, .int .i64 64])).bind fun p115 =>
  gV1 p115.1 fun x116 =>
  gI .i64 x116 fun i117 =>
  (call Ev Fn.spec_l1Next [pv a0_b a0_o, iv .i64 4] (tidy ((tidy h109 [p110.1] p110.2).new 1 [.int .i64 (-1), .int .i64 0, .int .i64 63, .int .i64 64]) [p115.1] p115.2)).bind fun p118 =>
  gV1 p118.1 fun x119 =>
  gI .i64 x119 fun i120 =>
  (call Ev Fn.spec_l1Some [pv a0_b a0_o, iv .i64 i120] (tidy (tidy ((tidy h109 [p110.1] p110.2).new 1 [.int .i64 (-1), .int .i64 0, .int .i64 63, .int .i64 64]) [p115.1] p115.2) [p118.1] p118.2)).bind fun p121 =>
  cellsK p121.1 fun c122 =>
  if c122.length = 1 ∧ 1 + 1 ≤ ([.int .i64 i117, .sl none 0] : List S).length then
  ((setAt ([.int .i64 i117, .sl none 0] : List S) 1 c122)[0]?).bind fun x123 =>
  gI .i64 x123 fun i124 =>
  ((setAt ([.int .i64 i117, .sl none 0] : List S) 1 c122)[1]?).bind fun x125 =>
  if (setAt ([.int .i64 i117, .sl none 0] : List S) 1 c122).length = 2 then
  (appS 2 ((tidy (tidy (tidy ((tidy h109 [p110.1] p110.2).new 1 [.int .i64 (-1), .int .i64 0, .int .i64 63, .int .i64 64]) [p115.1] p115.2) [p118.1] p118.2) [p121.1] p121.2).new 2 [.int .i64 i124, x125]) v108 (sv ((tidy (tidy (tidy ((tidy h109 [p110.1] p110.2).new 1 [.int .i64 (-1), .int .i64 0, .int .i64 63, .int .i64 64]) [p115.1] p115.2) [p118.1] p118.2) [p121.1] p121.2).n) 0 1)).bind fun p126 =>
  some (p126.1, p126.2)
  else none
  else none)
  (vcase (bv (i112 == 1))
  ((mkSl 2 [.int .i64 0, .sl none 0] (tidy h109 [p110.1] p110.2) (iv .i64 65) (iv .i64 65)).bind fun p128 =>
  some (p128.1, p128.2))
  (some (v108, tidy h109 [p110.1] p110.2)))
  else none := by
  rw [call_eq]; kernel_rfl

theorem eq_spec_l4Bent (a0_b a0_o : Nat) (h : H) : call Ev Fn.spec_l4Bent [pv a0_b a0_o] h =
  (call Ev Fn.spec_l4Draw [pv a0_b a0_o] (h.new 0 [.int .i64 0, .int .i64 0, .int .i64 0, .sl none 0])).bind fun p101 =>
  gVA p101.1 fun c102 =>
  (c102[0]?).bind fun x103 =>
  gI .i64 x103 fun i104 =>
  (c102[1]?).bind fun x105 =>
  gI .i64 x105 fun i106 =>
  (c102[2]?).bind fun x107 =>
  gI .i64 x107 fun i108 =>
  (c102[3]?).bind fun x109 =>
  if c102.length = 4 then
  stK 4 ((tidy (h.new 0 [.int .i64 0, .int .i64 0, .int .i64 0, .sl none 0]) [p101.1] p101.2).new 0 [.int .i64 0, .int .i64 0, .int .i64 0, .sl none 0]) (pv ((tidy (h.new 0 [.int .i64 0, .int .i64 0, .int .i64 0, .sl none 0]) [p101.1] p101.2).n) 0) (.agg [.int .i64 i104, .int .i64 i106, .int .i64 i108, x109]) fun h110 =>
  (call Ev Fn.spec_l1Next [pv a0_b a0_o, iv .i64 12] h110).bind fun p111 =>
  gV1 p111.1 fun x112 =>
  gI .i64 x112 fun i113 =>
  vcase (bv (i113 == 0))
  ((call Ev Fn.spec_l1Pick [pv a0_b a0_o, sv ((tidy h110 [p111.1] p111.2).n) 0 5] ((tidy h110 [p111.1] p111.2).new 1 [.int .i64 0, .int .i64 1, .int .i64 2, .int .i64 4, .int .i64 7])).bind fun p116 =>
  gV1 p116.1 fun x117 =>
  gI .i64 x117 fun i118 =>
  stK 1 (tidy ((tidy h110 [p111.1] p111.2).new 1 [.int .i64 0, .int .i64 1, .int .i64 2, .int .i64 4, .int .i64 7]) [p116.1] p116.2) (pv ((tidy (h.new 0 [.int .i64 0, .int .i64 0, .int .i64 0, .sl none 0]) [p101.1] p101.2).n) 0) (iv .i64 i118) fun h119 =>
  (loadN 4 h119 (pv ((tidy (h.new 0 [.int .i64 0, .int .i64 0, .int .i64 0, .sl none 0]) [p101.1] p101.2).n) 0)).bind fun c133 =>
  (c133[0]?).bind fun x134 =>
  gI .i64 x134 fun i135 =>
  (c133[1]?).bind fun x136 =>
  gI .i64 x136 fun i137 =>
  (c133[2]?).bind fun x138 =>
  gI .i64 x138 fun i139 =>
  (c133[3]?).bind fun x140 =>
  if c133.length = 4 then
  stK 4 h119 (pv h.n 0) (.agg [.int .i64 i135, .int .i64 i137, .int .i64 i139, x140]) fun h141 =>
  (loadN 4 h141 (pv h.n 0)).bind fun c142 =>
  some (.agg c142, h141)
  else none)
  (vcase (bv (i113 == 1))
  ((call Ev Fn.spec_l1Pick [pv a0_b a0_o, sv ((tidy h110 [p111.1] p111.2).n) 0 3] ((tidy h110 [p111.1] p111.2).new 1 [.int .i64 0, .int .i64 99, .int .i64 100])).bind fun p121 =>
  gV1 p121.1 fun x122 =>
  gI .i64 x122 fun i123 =>
  stK 1 (tidy ((tidy h110 [p111.1] p111.2).new 1 [.int .i64 0, .int .i64 99, .int .i64 100]) [p121.1] p121.2) (pv ((tidy (h.new 0 [.int .i64 0, .int .i64 0, .int .i64 0, .sl none 0]) [p101.1] p101.2).n) 1) (iv .i64 i123) fun h124 =>
  (loadN 4 h124 (pv ((tidy (h.new 0 [.int .i64 0, .int .i64 0, .int .i64 0, .sl none 0]) [p101.1] p101.2).n) 0)).bind fun c143 =>
  (c143[0]?).bind fun x144 =>
  gI .i64 x144 fun i145 =>
  (c143[1]?).bind fun x146 =>
  gI .i64 x146 fun i147 =>
  (c143[2]?).bind fun x148 =>
  gI .i64 x148 fun i149 =>
  (c143[3]?).bind fun x150 =>
  if c143.length = 4 then
  stK 4 h124 (pv h.n 0) (.agg [.int .i64 i145, .int .i64 i147, .int .i64 i149, x150]) fun h151 =>
  (loadN 4 h151 (pv h.n 0)).bind fun c152 =>
  some (.agg c152, h151)
  else none)
  (vcase (bv (i113 == 2))
  ((call Ev Fn.spec_l1Pick [pv a0_b a0_o, sv ((tidy h110 [p111.1] p111.2).n) 0 3] ((tidy h110 [p111.1] p111.2).new 1 [.int .i64 11, .int .i64 12, .int .i64 (-1)])).bind fun p126 =>
  gV1 p126.1 fun x127 =>
  gI .i64 x127 fun i128 =>
  stK 1 (tidy ((tidy h110 [p111.1] p111.2).new 1 [.int .i64 11, .int .i64 12, .int .i64 (-1)]) [p126.1] p126.2) (pv ((tidy (h.new 0 [.int .i64 0, .int .i64 0, .int .i64 0, .sl none 0]) [p101.1] p101.2).n) 2) (iv .i64 i128) fun h129 =>
  (loadN 4 h129 (pv ((tidy (h.new 0 [.int .i64 0, .int .i64 0, .int .i64 0, .sl none 0]) [p101.1] p101.2).n) 0)).bind fun c153 =>
  (c153[0]?).bind fun x154 =>
  gI .i64 x154 fun i155 =>
  (c153[1]?).bind fun x156 =>
  gI .i64 x156 fun i157 =>
  (c153[2]?).bind fun x158 =>
  gI .i64 x158 fun i159 =>
  (c153[3]?).bind fun x160 =>
  if c153.length = 4 then
  stK 4 h129 (pv h.n 0) (.agg [.int .i64 i155, .int .i64 i157, .int .i64 i159, x160]) fun h161 =>
  (loadN 4 h161 (pv h.n 0)).bind fun c162 =>
  some (.agg c162, h161)
  else none)
  (vcase (bv (i113 == 3))
  ((call Ev Fn.spec_l3Bent [pv a0_b a0_o] (tidy h110 [p111.1] p111.2)).bind fun p131 =>
  stK 1 (tidy (tidy h110 [p111.1] p111.2) [p131.1] p131.2) (pv ((tidy (h.new 0 [.int .i64 0, .int .i64 0, .int .i64 0, .sl none 0]) [p101.1] p101.2).n) 3) p131.1 fun h132 =>
  (loadN 4 h132 (pv ((tidy (h.new 0 [.int .i64 0, .int .i64 0, .int .i64 0, .sl none 0]) [p101.1] p101.2).n) 0)).bind fun c163 =>
  (c163[0]?).bind fun x164 =>
  gI .i64 x164 fun i165 =>
  (c163[1]?).bind fun x166 =>
  gI .i64 x166 fun i167 =>
  (c163[2]?).bind fun x168 =>
  gI .i64 x168 fun i169 =>
  (c163[3]?).bind fun x170 =>
  if c163.length = 4 then
  stK 4 h132 (pv h.n 0) (.agg [.int .i64 i165, .int .i64 i167, .int .i64 i169, x170]) fun h171 =>
  (loadN 4 h171 (pv h.n 0)).bind fun c172 =>
  some (.agg c172, h171)
  else none)
  ((loadN 4 (tidy h110 [p111.1] p111.2) (pv ((tidy (h.new 0 [.int .i64 0, .int .i64 0, .int .i64 0, .sl none 0]) [p101.1] p101.2).n) 0)).bind fun c173 =>
  (c173[0]?).bind fun x174 =>
  gI .i64 x174 fun i175 =>
  (c173[1]?).bind fun x176 =>
  gI .i64 x176 fun i177 =>
  (c173[2]?).bind fun x178 =>
  gI .i64 x178 fun i179 =>
  (c173[3]?).bind fun x180 =>
  if c173.length = 4 then
  stK 4 (tidy h110 [p111.1] p111.2) (pv h.n 0) (.agg [.int .i64 i175, .int .i64 i177, .int .i64 i179, x180]) fun h181 =>
  (loadN 4 h181 (pv h.n 0)).bind fun c182 =>
  some (.agg c182, h181)
  else none))))
  else none := by
  rw [call_eq]; kernel_rfl

theorem pu_spec_DrawPackRecord (a0 : List (List S)) : pureV (call Ev) Fn.spec_DrawPackRecord [lv a0] =
  pcallF (call Ev) Fn.spec_l1Source true [lv a0] ((D 0).new 0 [.int .i64 0, .int .i64 0, .int .i64 0, .sl none 0]) fun v101 h102 =>
  (call Ev Fn.spec_l4Bent [v101] h102).bind fun p103 =>
  gVA p103.1 fun c104 =>
  (c104[0]?).bind fun x105 =>
  gI .i64 x105 fun i106 =>
  (c104[1]?).bind fun x107 =>
  gI .i64 x107 fun i108 =>
  (c104[2]?).bind fun x109 =>
  gI .i64 x109 fun i110 =>
  (c104[3]?).bind fun x111 =>
  if c104.length = 4 then
  stK 4 (tidy h102 [p103.1] p103.2) (pv 0 0) (.agg [.int .i64 i106, .int .i64 i108, .int .i64 i110, x111]) fun h112 =>
  (loadN 4 h112 (pv 0 0)).bind fun c113 =>
  frzV h112 (.agg c113)
  else none := by
  rw [pure_eq]; kernel_rfl

theorem pu_spec_PackRecord (a0_0 : Int) (a0_1 : Int) (a0_2 : Int) (a0_3 : List (List S)) : pureV (call Ev) Fn.spec_PackRecord [.agg [.int .i64 a0_0, .int .i64 a0_1, .int .i64 a0_2, .fs a0_3]] =
  pcallS (call Ev) Fn.spec_l4Fault [fv [.int .i64 a0_0, .int .i64 a0_1, .int .i64 a0_2, .fs a0_3] 0] fun v101 =>
  gV1 v101 fun x102 =>
  gI .i64 x102 fun i103 =>
  vcase (bv (i103 != 0))
  (some (.agg [.int .i64 i103, .fs []]))
  (pcallF (call Ev) Fn.spec_l4Pack false [fv [.int .i64 a0_0, .int .i64 a0_1, .int .i64 a0_2, .fs a0_3] 0] (((D 0).new 0 [.int .i64 a0_0, .int .i64 a0_1, .int .i64 a0_2, .fs a0_3]).new 0 [.int .i64 0, .sl none 0]) fun v105 h106 =>
  cellsK v105 fun c107 =>
  if c107.length = 1 ∧ 1 + 1 ≤ ([.int .i64 0, .sl none 0] : List S).length then
  ((setAt ([.int .i64 0, .sl none 0] : List S) 1 c107)[0]?).bind fun x108 =>
  gI .i64 x108 fun i109 =>
  ((setAt ([.int .i64 0, .sl none 0] : List S) 1 c107)[1]?).bind fun x110 =>
  if (setAt ([.int .i64 0, .sl none 0] : List S) 1 c107).length = 2 then
  stK 2 h106 (pv 1 0) (.agg [.int .i64 i109, x110]) fun h111 =>
  (loadN 2 h111 (pv 1 0)).bind fun c112 =>
  frzV h111 (.agg c112)
  else none
  else none) := by
  rw [pure_eq]; kernel_rfl

theorem pu_slices_EqualFunc_impl_Record_impl_Record_impl_Record_impl_Record (a0 : List (List S)) (a1 : List (List S)) : pureV (call Ev) Fn.slices_EqualFunc_impl_Record_impl_Record_impl_Record_impl_Record [lv a0, lv a1, .s (.fn Fn.impl_SameRecords_1 [])] =
  vcase (bv ((a0.length : Int) != (a1.length : Int)))
  (some (bv false))
  ((Lp.slices_EqualFunc_impl_Record_impl_Record_impl_Record_impl_Record 0 [lv a1, .s (.fn Fn.impl_SameRecords_1 []), lv a0, iv .i64 (a0.length : Int), iv .i64 0] (D 0)).bind fun o102 => lcase o102 (fun l103 h104 =>
  some (bv true)) (fun v105 h106 =>
  frzV h106 v105)) := by
  rw [pure_eq]; kernel_rfl

theorem eq_slices_EqualFunc_impl_Record_impl_Record_impl_Record_impl_Record_l0 (s1 : List (List S)) (s15 : List (List S)) (s16 : Int) (s17 : Int) (h : H) : Lp.slices_EqualFunc_impl_Record_impl_Record_impl_Record_impl_Record 0 [lv s1, .s (.fn Fn.impl_SameRecords_1 []), lv s15, iv .i64 s16, iv .i64 s17] h =
  vcase (bv (decide (s17 < s16)))
  (idxF 4 s15 s17 fun r203 =>
  (rowN 4 r203 0).bind fun c204 =>
  (c204[0]?).bind fun x205 =>
  gI .i64 x205 fun i206 =>
  (c204[1]?).bind fun x207 =>
  gI .i64 x207 fun i208 =>
  (c204[2]?).bind fun x209 =>
  gI .i64 x209 fun i210 =>
  (c204[3]?).bind fun x211 =>
  gF x211 fun z212 =>
  if c204.length = 4 then
  stK 4 (h.new 0 [.int .i64 0, .int .i64 0, .int .i64 0, .sl none 0]) (pv h.n 0) (.agg [.int .i64 i206, .int .i64 i208, .int .i64 i210, .fs z212]) fun h213 =>
  idxF 4 s1 s17 fun r214 =>
  (rowN 4 r214 0).bind fun c215 =>
  (c215[0]?).bind fun x216 =>
  gI .i64 x216 fun i217 =>
  (c215[1]?).bind fun x218 =>
  gI .i64 x218 fun i219 =>
  (c215[2]?).bind fun x220 =>
  gI .i64 x220 fun i221 =>
  (c215[3]?).bind fun x222 =>
  gF x222 fun z223 =>
  if c215.length = 4 then
  stK 4 (h213.new 0 [.int .i64 0, .int .i64 0, .int .i64 0, .sl none 0]) (pv h213.n 0) (.agg [.int .i64 i217, .int .i64 i219, .int .i64 i221, .fs z223]) fun h224 =>
  (loadN 4 h224 (pv h.n 0)).bind fun c225 =>
  (c225[0]?).bind fun x226 =>
  gI .i64 x226 fun i227 =>
  (c225[1]?).bind fun x228 =>
  gI .i64 x228 fun i229 =>
  (c225[2]?).bind fun x230 =>
  gI .i64 x230 fun i231 =>
  (c225[3]?).bind fun x232 =>
  if c225.length = 4 then
  (loadN 4 h224 (pv h213.n 0)).bind fun c233 =>
  (c233[0]?).bind fun x234 =>
  gI .i64 x234 fun i235 =>
  (c233[1]?).bind fun x236 =>
  gI .i64 x236 fun i237 =>
  (c233[2]?).bind fun x238 =>
  gI .i64 x238 fun i239 =>
  (c233[3]?).bind fun x240 =>
  if c233.length = 4 then
  (frzVs h224 [.agg [.int .i64 i227, .int .i64 i229, .int .i64 i231, x232], .agg [.int .i64 i235, .int .i64 i237, .int .i64 i239, x240]]).bind fun l241 =>
  pcallS (call Ev) Fn.impl_SameRecords_1 (normVs [] l241) fun v242 =>
  gV1 v242 fun x243 =>
  gB x243 fun q244 =>
  vcase (bv (!q244))
  (some (.ret (bv false) h224))
  (Lp.slices_EqualFunc_impl_Record_impl_Record_impl_Record_impl_Record 0 [lv s1, .s (.fn Fn.impl_SameRecords_1 []), lv s15, iv .i64 s16, iv .i64 (IntKind.i64.wrap (s17 + 1))] (tidy h [lv s1, .s (.fn Fn.impl_SameRecords_1 []), lv s15, iv .i64 s16, iv .i64 (IntKind.i64.wrap (s17 + 1))] h224))
  else none
  else none
  else none
  else none)
  (some (.done [] (tidy h [] h))) := by
  unfold Lp.slices_EqualFunc_impl_Record_impl_Record_impl_Record_impl_Record; rw [loop_eq]; kernel_rfl

theorem pu_slices_EqualFunc_impl_Run_impl_Run_impl_Run_impl_Run (a0 : List (List S)) (a1 : List (List S)) : pureV (call Ev) Fn.slices_EqualFunc_impl_Run_impl_Run_impl_Run_impl_Run [lv a0, lv a1, .s (.fn Fn.impl_sameRuns_1 [])] =
  vcase (bv ((a0.length : Int) != (a1.length : Int)))
  (some (bv false))
  ((Lp.slices_EqualFunc_impl_Run_impl_Run_impl_Run_impl_Run 0 [lv a1, .s (.fn Fn.impl_sameRuns_1 []), lv a0, iv .i64 (a0.length : Int), iv .i64 0] (D 0)).bind fun o102 => lcase o102 (fun l103 h104 =>
  some (bv true)) (fun v105 h106 =>
  frzV h106 v105)) := by
  rw [pure_eq]; kernel_rfl

theorem eq_slices_EqualFunc_impl_Run_impl_Run_impl_Run_impl_Run_l0 (s1 : List (List S)) (s15 : List (List S)) (s16 : Int) (s17 : Int) (h : H) : Lp.slices_EqualFunc_impl_Run_impl_Run_impl_Run_impl_Run 0 [lv s1, .s (.fn Fn.impl_sameRuns_1 []), lv s15, iv .i64 s16, iv .i64 s17] h =
  vcase (bv (decide (s17 < s16)))
  (idxF 2 s15 s17 fun r203 =>
  (rowN 2 r203 0).bind fun c204 =>
  (c204[0]?).bind fun x205 =>
  gI .i64 x205 fun i206 =>
  (c204[1]?).bind fun x207 =>
  gF x207 fun z208 =>
  if c204.length = 2 then
  stK 2 (h.new 0 [.int .i64 0, .sl none 0]) (pv h.n 0) (.agg [.int .i64 i206, .fs z208]) fun h209 =>
  idxF 2 s1 s17 fun r210 =>
  (rowN 2 r210 0).bind fun c211 =>
  (c211[0]?).bind fun x212 =>
  gI .i64 x212 fun i213 =>
  (c211[1]?).bind fun x214 =>
  gF x214 fun z215 =>
  if c211.length = 2 then
  stK 2 (h209.new 0 [.int .i64 0, .sl none 0]) (pv h209.n 0) (.agg [.int .i64 i213, .fs z215]) fun h216 =>
  (loadN 2 h216 (pv h.n 0)).bind fun c217 =>
  (c217[0]?).bind fun x218 =>
  gI .i64 x218 fun i219 =>
  (c217[1]?).bind fun x220 =>
  if c217.length = 2 then
  (loadN 2 h216 (pv h209.n 0)).bind fun c221 =>
  (c221[0]?).bind fun x222 =>
  gI .i64 x222 fun i223 =>
  (c221[1]?).bind fun x224 =>
  if c221.length = 2 then
  (frzVs h216 [.agg [.int .i64 i219, x220], .agg [.int .i64 i223, x224]]).bind fun l225 =>
  pcallS (call Ev) Fn.impl_sameRuns_1 (normVs [] l225) fun v226 =>
  gV1 v226 fun x227 =>
  gB x227 fun q228 =>
  vcase (bv (!q228))
  (some (.ret (bv false) h216))
  (Lp.slices_EqualFunc_impl_Run_impl_Run_impl_Run_impl_Run 0 [lv s1, .s (.fn Fn.impl_sameRuns_1 []), lv s15, iv .i64 s16, iv .i64 (IntKind.i64.wrap (s17 + 1))] (tidy h [lv s1, .s (.fn Fn.impl_sameRuns_1 []), lv s15, iv .i64 s16, iv .i64 (IntKind.i64.wrap (s17 + 1))] h216))
  else none
  else none
  else none
  else none)
  (some (.done [] (tidy h [] h))) := by
  unfold Lp.slices_EqualFunc_impl_Run_impl_Run_impl_Run_impl_Run; rw [loop_eq]; kernel_rfl

theorem pu_impl_sameRuns_1 (a0_0 : Int) (a0_1 : List (List S)) (a1_0 : Int) (a1_1 : List (List S)) : pureV (call Ev) Fn.impl_sameRuns_1 [.agg [.int .i64 a0_0, .fs a0_1], .agg [.int .i64 a1_0, .fs a1_1]] =
  vcase (bv (a0_0 == a1_0))
  (pcallS (call Ev) Fn.slices_Equal_byte_byte [lv a0_1, lv a1_1] fun v102 =>
  gV1 v102 fun x103 =>
  gB x103 fun q104 =>
  some (bv q104))
  (some (bv false)) := by
  rw [pure_eq]; kernel_rfl

theorem pu_impl_sameRuns (a0 : List (List S)) (a1 : List (List S)) : pureV (call Ev) Fn.impl_sameRuns [lv a0, lv a1] =
  pcallS (call Ev) Fn.slices_EqualFunc_impl_Run_impl_Run_impl_Run_impl_Run [lv a0, lv a1, .s (.fn Fn.impl_sameRuns_1 [])] fun v101 =>
  gV1 v101 fun x102 =>
  gB x102 fun q103 =>
  some (bv q103) := by
  rw [pure_eq]; kernel_rfl

theorem pu_impl_SameRecords_1 (a0_0 : Int) (a0_1 : Int) (a0_2 : Int) (a0_3 : List (List S)) (a1_0 : Int) (a1_1 : Int) (a1_2 : Int) (a1_3 : List (List S)) : pureV (call Ev) Fn.impl_SameRecords_1 [.agg [.int .i64 a0_0, .int .i64 a0_1, .int .i64 a0_2, .fs a0_3], .agg [.int .i64 a1_0, .int .i64 a1_1, .int .i64 a1_2, .fs a1_3]] =
  vcase (bv (a0_0 == a1_0))
  (vcase (bv (a0_1 == a1_1))
  (vcase (bv (a0_2 == a1_2))
  (pcallS (call Ev) Fn.impl_sameRuns [lv a0_3, lv a1_3] fun v108 =>
  gV1 v108 fun x109 =>
  gB x109 fun q110 =>
  some (bv q110))
  (some (bv false)))
  (some (bv false)))
  (some (bv false)) := by
  rw [pure_eq]; kernel_rfl

theorem pu_impl_SameRecords (a0 : List (List S)) (a1 : List (List S)) : pureV (call Ev) Fn.impl_SameRecords [lv a0, lv a1] =
  pcallS (call Ev) Fn.slices_EqualFunc_impl_Record_impl_Record_impl_Record_impl_Record [lv a0, lv a1, .s (.fn Fn.impl_SameRecords_1 [])] fun v101 =>
  gV1 v101 fun x102 =>
  gB x102 fun q103 =>
  some (bv q103) := by
  rw [pure_eq]; kernel_rfl

end Vm
