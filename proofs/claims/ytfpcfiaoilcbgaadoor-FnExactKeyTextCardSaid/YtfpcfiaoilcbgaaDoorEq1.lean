/-
  What each function, and each round of each loop, comes to in the small machine. Written by a program (gen3.py).
-/
import Derived.Test.YtfpcfiaoilcbgaaDoorEnv
set_option linter.unusedVariables false
set_option maxRecDepth 100000
namespace Vm
open Go

noncomputable def Jn.spec_l1Words_0 (q171 : Bool) (w172 : V) (w173 : V) (w174 : V) (q175 : Bool) (i154 : Int) (i157 : Int) (i160 : Int) (y164 : ByteArray) : Option (V) :=
  hchk ((((((D 0).new 0 [.int .i64 0, .int .i64 0, .int .i64 0, .str (⟨#[]⟩)]).new 0 [.int .i64 0, .int .i64 0, .int .i64 0, .str (⟨#[]⟩)]).put 1 (.rw 0 [.int .i64 i154, .int .i64 i157, .int .i64 i160, .str (⟨#[]⟩)])).put 1 (.rw 0 [.int .i64 i154, .int .i64 i157, .int .i64 i160, .str y164])).put 0 .dead) ((((((D 0).new 0 [.int .i64 0, .int .i64 0, .int .i64 0, .str (⟨#[]⟩)]).new 0 [.int .i64 0, .int .i64 0, .int .i64 0, .str (⟨#[]⟩)]).put 1 (.rw 0 [.int .i64 i154, .int .i64 i157, .int .i64 i160, .str (⟨#[]⟩)])).put 1 (.rw 0 [.int .i64 i154, .int .i64 i157, .int .i64 i160, .str y164])).put 0 (.rw 0 [.int .i64 i154, .int .i64 i157, .int .i64 i160, .str y164])) (
  some (.tup [.agg [.int .i64 i154, .int .i64 i157, .int .i64 i160, .str y164], .s (.bool q175)]))

noncomputable def Jn.spec_l1Words_1 (q141 : Bool) (a0 : List (List S)) : Option (V) :=
  vcase (bv q141)
  (some (.tup [.agg [.int .i64 0, .int .i64 0, .int .i64 0, .str (⟨#[]⟩)], .s (.bool false)]))
  (idxF 1 a0 0 fun r143 =>
  (r143[0]?).bind fun x144 =>
  gS x144 fun y145 =>
  idxF 1 a0 1 fun r146 =>
  (r146[0]?).bind fun x147 =>
  gS x147 fun y148 =>
  idxF 1 a0 2 fun r149 =>
  (r149[0]?).bind fun x150 =>
  gS x150 fun y151 =>
  pcallS (call Ev) Fn.spec_l1Number [.s (.str y145)] fun v152 =>
  gV1 v152 fun x153 =>
  gI .i64 x153 fun i154 =>
  pcallS (call Ev) Fn.spec_l1Number [.s (.str y148)] fun v155 =>
  gV1 v155 fun x156 =>
  gI .i64 x156 fun i157 =>
  pcallS (call Ev) Fn.spec_l1Number [.s (.str y151)] fun v158 =>
  gV1 v158 fun x159 =>
  gI .i64 x159 fun i160 =>
  vcase (bv ((a0.length : Int) == 4))
  (idxF 1 a0 3 fun r162 =>
  (r162[0]?).bind fun x163 =>
  gS x163 fun y164 =>
  pcallS (call Ev) Fn.spec_l1Fault [fv [.int .i64 i154, .int .i64 i157, .int .i64 i160, .str y164] 0] fun v165 =>
  gV1 v165 fun x166 =>
  gI .i64 x166 fun i167 =>
  hchk ((((((D 0).new 0 [.int .i64 0, .int .i64 0, .int .i64 0, .str (⟨#[]⟩)]).new 0 [.int .i64 0, .int .i64 0, .int .i64 0, .str (⟨#[]⟩)]).put 1 (.rw 0 [.int .i64 i154, .int .i64 i157, .int .i64 i160, .str (⟨#[]⟩)])).put 1 (.rw 0 [.int .i64 i154, .int .i64 i157, .int .i64 i160, .str y164])).put 0 .dead) (((((D 0).new 0 [.int .i64 0, .int .i64 0, .int .i64 0, .str (⟨#[]⟩)]).new 0 [.int .i64 0, .int .i64 0, .int .i64 0, .str (⟨#[]⟩)]).put 1 (.rw 0 [.int .i64 i154, .int .i64 i157, .int .i64 i160, .str (⟨#[]⟩)])).put 1 (.rw 0 [.int .i64 i154, .int .i64 i157, .int .i64 i160, .str y164])) (
  vcase (bv (i167 == 0))
  (Jn.spec_l1Words_0 true (pv 1 3) (.s (.str y164)) (bv (!((y164 : ByteArray).toList == ((⟨#[]⟩) : ByteArray).toList))) (!((y164 : ByteArray).toList == ((⟨#[]⟩) : ByteArray).toList)) i154 i157 i160 y164)
  (Jn.spec_l1Words_0 false (.tup []) (.tup []) (.tup []) false i154 i157 i160 y164)))
  (pcallS (call Ev) Fn.spec_l1Fault [fv [.int .i64 i154, .int .i64 i157, .int .i64 i160, .str (⟨#[]⟩)] 0] fun v176 =>
  gV1 v176 fun x177 =>
  gI .i64 x177 fun i178 =>
  hchk ((((D 0).new 0 [.int .i64 0, .int .i64 0, .int .i64 0, .str (⟨#[]⟩)]).new 0 [.int .i64 0, .int .i64 0, .int .i64 0, .str (⟨#[]⟩)]).put 1 (.rw 0 [.int .i64 i154, .int .i64 i157, .int .i64 i160, .str (⟨#[]⟩)])) ((((D 0).new 0 [.int .i64 0, .int .i64 0, .int .i64 0, .str (⟨#[]⟩)]).new 0 [.int .i64 0, .int .i64 0, .int .i64 0, .str (⟨#[]⟩)]).put 1 (.rw 0 [.int .i64 i154, .int .i64 i157, .int .i64 i160, .str (⟨#[]⟩)])) (
  some (.tup [.agg [.int .i64 i154, .int .i64 i157, .int .i64 i160, .str (⟨#[]⟩)], .s (.bool (i178 == 0))]))))

theorem pu_spec_l1Words (a0 : List (List S)) : pureV (call Ev) Fn.spec_l1Words [lv a0] =
  vcase (bv ((a0.length : Int) != 3))
  (Jn.spec_l1Words_1 ((a0.length : Int) != 4) a0)
  (Jn.spec_l1Words_1 false a0) := by
  rw [pure_eq]; kernel_rfl

theorem pu_spec_l1Cut (a0 : ByteArray) (a1 : Int) : pureV (call Ev) Fn.spec_l1Cut [.s (.str a0), iv .u8 a1] =
  (Lp.spec_l1Cut 0 [.s (.str a0), iv .u8 a1, sv 0 0 0, iv .i64 0, iv .i64 0] ((D 0).new 1 [])).bind fun o101 => lcase o101 (fun l102 h103 =>
  (l102[0]?).bind fun w106 =>
  frzV h103 w106) (fun v104 h105 =>
  frzV h105 v104) := by
  rw [pure_eq]; kernel_rfl

theorem eq_spec_l1Cut_l0 (s0 : ByteArray) (s1 : Int) (s5 : V) (s6 : Int) (s7 : Int) (h : H) : Lp.spec_l1Cut 0 [.s (.str s0), iv .u8 s1, s5, iv .i64 s6, iv .i64 s7] h =
  vcase (bv (decide (s7 ≤ ((s0 : ByteArray).size : Int))))
  (vcase (bv (s7 == ((s0 : ByteArray).size : Int)))
  ((slStr (.s (.str s0)) (some (iv .i64 s6)) (some (iv .i64 s7))).bind fun v210 =>
  gV1 v210 fun x211 =>
  gS x211 fun y212 =>
  (appS 1 (h.new 1 [.str y212]) s5 (sv h.n 0 1)).bind fun p213 =>
  Lp.spec_l1Cut 0 [.s (.str s0), iv .u8 s1, p213.1, iv .i64 (IntKind.i64.wrap (s7 + 1)), iv .i64 (IntKind.i64.wrap (s7 + 1))] (tidy h [.s (.str s0), iv .u8 s1, p213.1, iv .i64 (IntKind.i64.wrap (s7 + 1)), iv .i64 (IntKind.i64.wrap (s7 + 1))] p213.2))
  ((idxStr (.s (.str s0)) (iv .i64 s7)).bind fun v205 =>
  gV1 v205 fun x206 =>
  gI .u8 x206 fun i207 =>
  vcase (bv (i207 == s1))
  ((slStr (.s (.str s0)) (some (iv .i64 s6)) (some (iv .i64 s7))).bind fun v215 =>
  gV1 v215 fun x216 =>
  gS x216 fun y217 =>
  (appS 1 (h.new 1 [.str y217]) s5 (sv h.n 0 1)).bind fun p218 =>
  Lp.spec_l1Cut 0 [.s (.str s0), iv .u8 s1, p218.1, iv .i64 (IntKind.i64.wrap (s7 + 1)), iv .i64 (IntKind.i64.wrap (s7 + 1))] (tidy h [.s (.str s0), iv .u8 s1, p218.1, iv .i64 (IntKind.i64.wrap (s7 + 1)), iv .i64 (IntKind.i64.wrap (s7 + 1))] p218.2))
  (Lp.spec_l1Cut 0 [.s (.str s0), iv .u8 s1, s5, iv .i64 s6, iv .i64 (IntKind.i64.wrap (s7 + 1))] (tidy h [.s (.str s0), iv .u8 s1, s5, iv .i64 s6, iv .i64 (IntKind.i64.wrap (s7 + 1))] h))))
  (some (.done [s5] (tidy h [s5] h))) := by
  unfold Lp.spec_l1Cut; rw [loop_eq]; kernel_rfl

theorem pu_spec_ParseRow (a0 : ByteArray) : pureV (call Ev) Fn.spec_ParseRow [.s (.str a0)] =
  (pureV (call Ev) Fn.spec_l1Cut [.s (.str a0), iv .u8 32]).bind fun v101 =>
  gV1 v101 fun x102 =>
  gF x102 fun z103 =>
  pcallS (call Ev) Fn.spec_l1Words [lv z103] fun v104 =>
  gVT v104 fun u105 =>
  (u105[0]?).bind fun t106 =>
  gAA t106 fun c107 =>
  (c107[0]?).bind fun x108 =>
  gI .i64 x108 fun i109 =>
  (c107[1]?).bind fun x110 =>
  gI .i64 x110 fun i111 =>
  (c107[2]?).bind fun x112 =>
  gI .i64 x112 fun i113 =>
  (c107[3]?).bind fun x114 =>
  gS x114 fun y115 =>
  if c107.length = 4 then
  (u105[1]?).bind fun t116 =>
  gA1 t116 fun x117 =>
  gB x117 fun q118 =>
  if u105.length = 2 then
  vcase (bv (!q118))
  (some (.agg [.int .i64 5, .int .i64 0, .int .i64 0, .int .i64 0, .str (⟨#[]⟩)]))
  (some (.agg [.int .i64 0, .int .i64 i109, .int .i64 i111, .int .i64 i113, .str y115]))
  else none
  else none := by
  rw [pure_eq]; kernel_rfl

noncomputable def Jn.strings_explode_0 (q157 : Bool) (i103 : Int) (a0 : ByteArray) (a1 : Int) : Option (V) :=
  vcase (bv q157)
  ((mkSl 1 [.str ⟨#[]⟩] (D 0) (iv .i64 i103) (iv .i64 i103)).bind fun p159 =>
  (Lp.strings_explode 0 [.s (.str a0), iv .i64 i103, p159.1, iv .i64 0] p159.2).bind fun o160 => lcase o160 (fun l161 h162 =>
  (l161[0]?).bind fun w165 =>
  gV1 w165 fun x166 =>
  gS x166 fun y167 =>
  (l161[1]?).bind fun w168 =>
  gV1 w168 fun x169 =>
  gI .i64 x169 fun i170 =>
  (l161[2]?).bind fun w171 =>
  vcase (bv (decide (i170 > 0)))
  (idxK 1 w171 (iv .i64 (IntKind.i64.wrap (i170 - 1))) fun v173 =>
  stK 1 h162 v173 (.s (.str y167)) fun h174 =>
  frzV h174 w171)
  (frzV h162 w171)) (fun v163 h164 =>
  frzV h164 v163))
  ((mkSl 1 [.str ⟨#[]⟩] (D 0) (iv .i64 a1) (iv .i64 a1)).bind fun p175 =>
  (Lp.strings_explode 0 [.s (.str a0), iv .i64 a1, p175.1, iv .i64 0] p175.2).bind fun o176 => lcase o176 (fun l177 h178 =>
  (l177[0]?).bind fun w181 =>
  gV1 w181 fun x182 =>
  gS x182 fun y183 =>
  (l177[1]?).bind fun w184 =>
  gV1 w184 fun x185 =>
  gI .i64 x185 fun i186 =>
  (l177[2]?).bind fun w187 =>
  vcase (bv (decide (i186 > 0)))
  (idxK 1 w187 (iv .i64 (IntKind.i64.wrap (i186 - 1))) fun v189 =>
  stK 1 h178 v189 (.s (.str y183)) fun h190 =>
  frzV h190 w187)
  (frzV h178 w187)) (fun v179 h180 =>
  frzV h180 v179))

theorem pu_strings_explode (a0 : ByteArray) (a1 : Int) : pureV (call Ev) Fn.strings_explode [.s (.str a0), iv .i64 a1] =
  pcallS (call Ev) Fn.utf8_RuneCountInString [.s (.str a0)] fun v101 =>
  gV1 v101 fun x102 =>
  gI .i64 x102 fun i103 =>
  vcase (bv (decide (a1 < 0)))
  (Jn.strings_explode_0 true i103 a0 a1)
  (Jn.strings_explode_0 (decide (a1 > i103)) i103 a0 a1) := by
  rw [pure_eq]; kernel_rfl

theorem eq_strings_explode_l0 (s0 : ByteArray) (s1 : Int) (s6 : V) (s7 : Int) (h : H) : Lp.strings_explode 0 [.s (.str s0), iv .i64 s1, s6, iv .i64 s7] h =
  vcase (bv (decide (s7 < (IntKind.i64.wrap (s1 - 1)))))
  (pcallS (call Ev) Fn.utf8_DecodeRuneInString [.s (.str s0)] fun v203 =>
  gVT v203 fun u204 =>
  (u204[0]?).bind fun t205 =>
  gA1 t205 fun x206 =>
  gI .i32 x206 fun i207 =>
  (u204[1]?).bind fun t208 =>
  gA1 t208 fun x209 =>
  gI .i64 x209 fun i210 =>
  if u204.length = 2 then
  (slStr (.s (.str s0)) none (some (iv .i64 i210))).bind fun v211 =>
  gV1 v211 fun x212 =>
  gS x212 fun y213 =>
  idxK 1 s6 (iv .i64 s7) fun v214 =>
  stK 1 h v214 (.s (.str y213)) fun h215 =>
  (slStr (.s (.str s0)) (some (iv .i64 i210)) none).bind fun v216 =>
  gV1 v216 fun x217 =>
  gS x217 fun y218 =>
  Lp.strings_explode 0 [.s (.str y218), iv .i64 s1, s6, iv .i64 (IntKind.i64.wrap (s7 + 1))] (tidy h [.s (.str y218), iv .i64 s1, s6, iv .i64 (IntKind.i64.wrap (s7 + 1))] h215)
  else none)
  (some (.done [.s (.str s0), iv .i64 s1, s6] (tidy h [.s (.str s0), iv .i64 s1, s6] h))) := by
  unfold Lp.strings_explode; rw [loop_eq]; kernel_rfl

theorem eq_strings_Count_l0 (s0 : ByteArray) (s1 : ByteArray) (s5 : Int) (h : H) : Lp.strings_Count 0 [.s (.str s0), .s (.str s1), iv .i64 s5] h =
  pcallS (call Ev) Fn.strings_Index [.s (.str s0), .s (.str s1)] fun v202 =>
  gV1 v202 fun x203 =>
  gI .i64 x203 fun i204 =>
  vcase (bv (i204 == (-1)))
  (some (.ret (iv .i64 s5) h))
  ((slStr (.s (.str s0)) (some (iv .i64 (IntKind.i64.wrap (i204 + ((s1 : ByteArray).size : Int))))) none).bind fun v206 =>
  gV1 v206 fun x207 =>
  gS x207 fun y208 =>
  Lp.strings_Count 0 [.s (.str y208), .s (.str s1), iv .i64 (IntKind.i64.wrap (s5 + 1))] (tidy h [.s (.str y208), .s (.str s1), iv .i64 (IntKind.i64.wrap (s5 + 1))] h)) := by
  unfold Lp.strings_Count; rw [loop_eq]; kernel_rfl

noncomputable def Jn.impl_number_0 (q135 : Bool) (a0 : ByteArray) : Option (V) :=
  vcase (bv q135)
  (some (.tup [.s (.int .i64 0), .s (.bool false)]))
  ((idxStr (.s (.str a0)) (iv .i64 0)).bind fun v138 =>
  gV1 v138 fun x139 =>
  gI .u8 x139 fun i140 =>
  vcase (bv (i140 == 48))
  (vcase (bv (decide (((a0 : ByteArray).size : Int) > 1)))
  (some (.tup [.s (.int .i64 0), .s (.bool false)]))
  ((Lp.impl_number 0 [.s (.str a0), iv .i64 0, iv .i64 ((a0 : ByteArray).size : Int), iv .i64 0] (D 0)).bind fun o148 => lcase o148 (fun l149 h150 =>
  (l149[0]?).bind fun w153 =>
  gV1 w153 fun x154 =>
  gI .i64 x154 fun i155 =>
  some (.tup [.s (.int .i64 i155), .s (.bool true)])) (fun v151 h152 =>
  frzV h152 v151)))
  ((Lp.impl_number 0 [.s (.str a0), iv .i64 0, iv .i64 ((a0 : ByteArray).size : Int), iv .i64 0] (D 0)).bind fun o157 => lcase o157 (fun l158 h159 =>
  (l158[0]?).bind fun w162 =>
  gV1 w162 fun x163 =>
  gI .i64 x163 fun i164 =>
  some (.tup [.s (.int .i64 i164), .s (.bool true)])) (fun v160 h161 =>
  frzV h161 v160)))

theorem pu_impl_number (a0 : ByteArray) : pureV (call Ev) Fn.impl_number [.s (.str a0)] =
  vcase (bv (decide (((a0 : ByteArray).size : Int) < 1)))
  (Jn.impl_number_0 true a0)
  (Jn.impl_number_0 (decide (((a0 : ByteArray).size : Int) > 4)) a0) := by
  rw [pure_eq]; kernel_rfl

theorem eq_impl_number_l0 (s0 : ByteArray) (s4 : Int) (s25 : Int) (s26 : Int) (h : H) : Lp.impl_number 0 [.s (.str s0), iv .i64 s4, iv .i64 s25, iv .i64 s26] h =
  vcase (bv (decide (s26 < s25)))
  ((idxStr (.s (.str s0)) (iv .i64 s26)).bind fun v203 =>
  gV1 v203 fun x204 =>
  gI .u8 x204 fun i205 =>
  vcase (bv (decide (i205 < 48)))
  (some (.ret (.tup [.s (.int .i64 0), .s (.bool false)]) h))
  ((idxStr (.s (.str s0)) (iv .i64 s26)).bind fun v208 =>
  gV1 v208 fun x209 =>
  gI .u8 x209 fun i210 =>
  vcase (bv (decide (i210 > 57)))
  (some (.ret (.tup [.s (.int .i64 0), .s (.bool false)]) h))
  ((idxStr (.s (.str s0)) (iv .i64 s26)).bind fun v214 =>
  gV1 v214 fun x215 =>
  gI .u8 x215 fun i216 =>
  Lp.impl_number 0 [.s (.str s0), iv .i64 (IntKind.i64.wrap ((IntKind.i64.wrap (s4 * 10)) + (IntKind.i64.wrap (IntKind.u8.wrap (i216 - 48))))), iv .i64 s25, iv .i64 (IntKind.i64.wrap (s26 + 1))] (tidy h [.s (.str s0), iv .i64 (IntKind.i64.wrap ((IntKind.i64.wrap (s4 * 10)) + (IntKind.i64.wrap (IntKind.u8.wrap (i216 - 48))))), iv .i64 s25, iv .i64 (IntKind.i64.wrap (s26 + 1))] h))))
  (some (.done [iv .i64 s4] (tidy h [iv .i64 s4] h))) := by
  unfold Lp.impl_number; rw [loop_eq]; kernel_rfl

noncomputable def Jn.impl_ParseRow_0 (q285 : Bool) (z103 : List (List S)) (y274 : ByteArray) (i245 : Int) (i256 : Int) (i267 : Int) : Option (V) :=
  vcase (bv q285)
  (some (.agg [.int .i64 5, .int .i64 0, .int .i64 0, .int .i64 0, .str (⟨#[]⟩)]))
  (vcase (bv ((z103.length : Int) == 4))
  (vcase (bv ((y274 : ByteArray).toList == ((⟨#[]⟩) : ByteArray).toList))
  (some (.agg [.int .i64 5, .int .i64 0, .int .i64 0, .int .i64 0, .str (⟨#[]⟩)]))
  (pcallS (call Ev) Fn.impl_RowFault [.agg [.int .i64 i245, .int .i64 i256, .int .i64 i267, .str y274]] fun v297 =>
  gV1 v297 fun x298 =>
  gI .i64 x298 fun i299 =>
  vcase (bv (i299 != 0))
  (some (.agg [.int .i64 5, .int .i64 0, .int .i64 0, .int .i64 0, .str (⟨#[]⟩)]))
  (some (.agg [.int .i64 0, .int .i64 i245, .int .i64 i256, .int .i64 i267, .str y274]))))
  (pcallS (call Ev) Fn.impl_RowFault [.agg [.int .i64 i245, .int .i64 i256, .int .i64 i267, .str y274]] fun v303 =>
  gV1 v303 fun x304 =>
  gI .i64 x304 fun i305 =>
  vcase (bv (i305 != 0))
  (some (.agg [.int .i64 5, .int .i64 0, .int .i64 0, .int .i64 0, .str (⟨#[]⟩)]))
  (some (.agg [.int .i64 0, .int .i64 i245, .int .i64 i256, .int .i64 i267, .str y274]))))

noncomputable def Jn.impl_ParseRow_1 (q318 : Bool) (z103 : List (List S)) (i245 : Int) (i256 : Int) (i267 : Int) : Option (V) :=
  vcase (bv q318)
  (some (.agg [.int .i64 5, .int .i64 0, .int .i64 0, .int .i64 0, .str (⟨#[]⟩)]))
  (vcase (bv ((z103.length : Int) == 4))
  (vcase (bv (((⟨#[]⟩) : ByteArray).toList == ((⟨#[]⟩) : ByteArray).toList))
  (some (.agg [.int .i64 5, .int .i64 0, .int .i64 0, .int .i64 0, .str (⟨#[]⟩)]))
  (pcallS (call Ev) Fn.impl_RowFault [.agg [.int .i64 i245, .int .i64 i256, .int .i64 i267, .str (⟨#[]⟩)]] fun v330 =>
  gV1 v330 fun x331 =>
  gI .i64 x331 fun i332 =>
  vcase (bv (i332 != 0))
  (some (.agg [.int .i64 5, .int .i64 0, .int .i64 0, .int .i64 0, .str (⟨#[]⟩)]))
  (some (.agg [.int .i64 0, .int .i64 i245, .int .i64 i256, .int .i64 i267, .str (⟨#[]⟩)]))))
  (pcallS (call Ev) Fn.impl_RowFault [.agg [.int .i64 i245, .int .i64 i256, .int .i64 i267, .str (⟨#[]⟩)]] fun v336 =>
  gV1 v336 fun x337 =>
  gI .i64 x337 fun i338 =>
  vcase (bv (i338 != 0))
  (some (.agg [.int .i64 5, .int .i64 0, .int .i64 0, .int .i64 0, .str (⟨#[]⟩)]))
  (some (.agg [.int .i64 0, .int .i64 i245, .int .i64 i256, .int .i64 i267, .str (⟨#[]⟩)]))))

noncomputable def Jn.impl_ParseRow_2 (q236 : Bool) (z103 : List (List S)) : Option (V) :=
  vcase (bv q236)
  (some (.agg [.int .i64 5, .int .i64 0, .int .i64 0, .int .i64 0, .str (⟨#[]⟩)]))
  (idxF 1 z103 0 fun r238 =>
  (r238[0]?).bind fun x239 =>
  gS x239 fun y240 =>
  pcallS (call Ev) Fn.impl_number [.s (.str y240)] fun v241 =>
  gVT v241 fun u242 =>
  (u242[0]?).bind fun t243 =>
  gA1 t243 fun x244 =>
  gI .i64 x244 fun i245 =>
  (u242[1]?).bind fun t246 =>
  gA1 t246 fun x247 =>
  gB x247 fun q248 =>
  if u242.length = 2 then
  idxF 1 z103 1 fun r249 =>
  (r249[0]?).bind fun x250 =>
  gS x250 fun y251 =>
  pcallS (call Ev) Fn.impl_number [.s (.str y251)] fun v252 =>
  gVT v252 fun u253 =>
  (u253[0]?).bind fun t254 =>
  gA1 t254 fun x255 =>
  gI .i64 x255 fun i256 =>
  (u253[1]?).bind fun t257 =>
  gA1 t257 fun x258 =>
  gB x258 fun q259 =>
  if u253.length = 2 then
  idxF 1 z103 2 fun r260 =>
  (r260[0]?).bind fun x261 =>
  gS x261 fun y262 =>
  pcallS (call Ev) Fn.impl_number [.s (.str y262)] fun v263 =>
  gVT v263 fun u264 =>
  (u264[0]?).bind fun t265 =>
  gA1 t265 fun x266 =>
  gI .i64 x266 fun i267 =>
  (u264[1]?).bind fun t268 =>
  gA1 t268 fun x269 =>
  gB x269 fun q270 =>
  if u264.length = 2 then
  vcase (bv ((z103.length : Int) == 4))
  (idxF 1 z103 3 fun r272 =>
  (r272[0]?).bind fun x273 =>
  gS x273 fun y274 =>
  vcase (bv (!q248))
  (some (.agg [.int .i64 5, .int .i64 0, .int .i64 0, .int .i64 0, .str (⟨#[]⟩)]))
  (vcase (bv (!q259))
  (Jn.impl_ParseRow_0 true z103 y274 i245 i256 i267)
  (Jn.impl_ParseRow_0 (!q270) z103 y274 i245 i256 i267)))
  (vcase (bv (!q248))
  (some (.agg [.int .i64 5, .int .i64 0, .int .i64 0, .int .i64 0, .str (⟨#[]⟩)]))
  (vcase (bv (!q259))
  (Jn.impl_ParseRow_1 true z103 i245 i256 i267)
  (Jn.impl_ParseRow_1 (!q270) z103 i245 i256 i267)))
  else none
  else none
  else none)

theorem pu_impl_ParseRow (a0 : ByteArray) : pureV (call Ev) Fn.impl_ParseRow [.s (.str a0)] =
  (pureV (call Ev) Fn.strings_Split [.s (.str a0), .s (.str (⟨#[32]⟩))]).bind fun v101 =>
  gV1 v101 fun x102 =>
  gF x102 fun z103 =>
  vcase (bv ((z103.length : Int) != 3))
  (Jn.impl_ParseRow_2 ((z103.length : Int) != 4) z103)
  (Jn.impl_ParseRow_2 false z103) := by
  rw [pure_eq]; kernel_rfl

theorem pu_laws_eqRow (a0_0 : Int) (a0_1 : Int) (a0_2 : Int) (a0_3 : ByteArray) (a1_0 : Int) (a1_1 : Int) (a1_2 : Int) (a1_3 : ByteArray) : pureV (call Ev) Fn.laws_eqRow [.agg [.int .i64 a0_0, .int .i64 a0_1, .int .i64 a0_2, .str a0_3], .agg [.int .i64 a1_0, .int .i64 a1_1, .int .i64 a1_2, .str a1_3]] =
  vcase (bv (a0_0 != a1_0))
  (some (bv false))
  (vcase (bv (a0_1 != a1_1))
  (some (bv false))
  (vcase (bv (a0_2 != a1_2))
  (some (bv false))
  (vcase (bv (!((a0_3 : ByteArray).toList == (a1_3 : ByteArray).toList)))
  (some (bv false))
  (some (bv true))))) := by
  rw [pure_eq]; kernel_rfl

theorem pu_laws_eqRowResult (a0_0 : Int) (a0_1 : Int) (a0_2 : Int) (a0_3 : Int) (a0_4 : ByteArray) (a1_0 : Int) (a1_1 : Int) (a1_2 : Int) (a1_3 : Int) (a1_4 : ByteArray) : pureV (call Ev) Fn.laws_eqRowResult [.agg [.int .i64 a0_0, .int .i64 a0_1, .int .i64 a0_2, .int .i64 a0_3, .str a0_4], .agg [.int .i64 a1_0, .int .i64 a1_1, .int .i64 a1_2, .int .i64 a1_3, .str a1_4]] =
  vcase (bv (a0_0 != a1_0))
  (some (bv false))
  (pcallS (call Ev) Fn.laws_eqRow [.agg [.int .i64 a0_1, .int .i64 a0_2, .int .i64 a0_3, .str a0_4], .agg [.int .i64 a1_1, .int .i64 a1_2, .int .i64 a1_3, .str a1_4]] fun v102 =>
  gV1 v102 fun x103 =>
  gB x103 fun q104 =>
  vcase (bv (!q104))
  (some (bv false))
  (some (bv true))) := by
  rw [pure_eq]; kernel_rfl

theorem pu_laws_FnExactParseRow (a0 : ByteArray) : pureV (call Ev) Fn.laws_FnExactParseRow [.s (.str a0)] =
  vcase (bv (decide (((a0 : ByteArray).size : Int) > 1048576)))
  (some (bv true))
  (pcallS (call Ev) Fn.spec_ParseRow [.s (.str a0)] fun v102 =>
  gVA v102 fun c103 =>
  (c103[0]?).bind fun x104 =>
  gI .i64 x104 fun i105 =>
  (c103[1]?).bind fun x106 =>
  gI .i64 x106 fun i107 =>
  (c103[2]?).bind fun x108 =>
  gI .i64 x108 fun i109 =>
  (c103[3]?).bind fun x110 =>
  gI .i64 x110 fun i111 =>
  (c103[4]?).bind fun x112 =>
  gS x112 fun y113 =>
  if c103.length = 5 then
  pcallS (call Ev) Fn.impl_ParseRow [.s (.str a0)] fun v114 =>
  gVA v114 fun c115 =>
  (c115[0]?).bind fun x116 =>
  gI .i64 x116 fun i117 =>
  (c115[1]?).bind fun x118 =>
  gI .i64 x118 fun i119 =>
  (c115[2]?).bind fun x120 =>
  gI .i64 x120 fun i121 =>
  (c115[3]?).bind fun x122 =>
  gI .i64 x122 fun i123 =>
  (c115[4]?).bind fun x124 =>
  gS x124 fun y125 =>
  if c115.length = 5 then
  pcallS (call Ev) Fn.laws_eqRowResult [.agg [.int .i64 i117, .int .i64 i119, .int .i64 i121, .int .i64 i123, .str y125], .agg [.int .i64 i105, .int .i64 i107, .int .i64 i109, .int .i64 i111, .str y113]] fun v126 =>
  gV1 v126 fun x127 =>
  gB x127 fun q128 =>
  vcase (bv (!q128))
  (some (bv false))
  (some (bv true))
  else none
  else none) := by
  rw [pure_eq]; kernel_rfl

end Vm
