/-
  What each function, and each round of each loop, comes to in the small machine. Written by a program (gen3.py).
-/
import Derived.Test.YtainemlfiibooaaDoorEnv
set_option linter.unusedVariables false
set_option maxRecDepth 100000
namespace Vm
open Go

theorem pu_strconv_FormatInt_1 (a0 : Int) (a1 : Int) : pureV (call Ev) Fn.strconv_FormatInt_1 [iv .i64 a0, iv .i64 a1] =
  vcase (bv (a1 == 10))
  (vcase (bv (decide (0 ≤ a0)))
  (vcase (bv (decide (a0 < 100)))
  (pcallS (call Ev) Fn.strconv_small [iv .i64 a0] fun v106 =>
  gV1 v106 fun x107 =>
  gS x107 fun y108 =>
  some (.s (.str y108)))
  (vcase (bv (decide (a0 < 0)))
  (pcallS (call Ev) 67 [iv .u64 (IntKind.u64.wrap (-(IntKind.u64.wrap a0)))] fun v110 =>
  gV1 v110 fun x111 =>
  gI .i64 x111 fun i112 =>
  (none))
  (pcallS (call Ev) 67 [iv .u64 (IntKind.u64.wrap a0)] fun v113 =>
  gV1 v113 fun x114 =>
  gI .i64 x114 fun i115 =>
  (none))))
  (vcase (bv (decide (a0 < 0)))
  (pcallS (call Ev) 67 [iv .u64 (IntKind.u64.wrap (-(IntKind.u64.wrap a0)))] fun v118 =>
  gV1 v118 fun x119 =>
  gI .i64 x119 fun i120 =>
  (none))
  (pcallS (call Ev) 67 [iv .u64 (IntKind.u64.wrap a0)] fun v121 =>
  gV1 v121 fun x122 =>
  gI .i64 x122 fun i123 =>
  (none))))
  ((call Ev Fn.strconv_formatBits [.s (.sl none 0), iv .u64 (IntKind.u64.wrap a0), iv .i64 a1, bv (decide (a0 < 0)), bv false] (D 0)).bind fun p124 =>
  gVT p124.1 fun u125 =>
  (u125[0]?).bind fun t126 =>
  gA1 t126 fun x127 =>
  (u125[1]?).bind fun t128 =>
  gA1 t128 fun x129 =>
  gS x129 fun y130 =>
  if u125.length = 2 then
  some (.s (.str y130))
  else none) := by
  rw [pure_eq]; kernel_rfl

theorem pu_strconv_FormatInt_0 (a0 : Int) (a1 : Int) : pureV (call Ev) Fn.strconv_FormatInt_0 [iv .i64 a0, iv .i64 a1] =
  pcallS (call Ev) Fn.strconv_FormatInt_1 [iv .i64 a0, iv .i64 a1] fun v101 =>
  gV1 v101 fun x102 =>
  gS x102 fun y103 =>
  some (.s (.str y103)) := by
  rw [pure_eq]; kernel_rfl

theorem pu_impl_digits (a0 : Int) : pureV (call Ev) Fn.impl_digits [iv .i64 a0] =
  pcallS (call Ev) Fn.strconv_FormatInt_0 [iv .i64 a0, iv .i64 10] fun v101 =>
  gV1 v101 fun x102 =>
  gS x102 fun y103 =>
  some (.s (.str y103)) := by
  rw [pure_eq]; kernel_rfl

theorem pu_impl_RecordText (a0_0 : Int) (a0_1 : Int) (a0_2 : Int) (a0_3 : List (List S)) : pureV (call Ev) Fn.impl_RecordText [.agg [.int .i64 a0_0, .int .i64 a0_1, .int .i64 a0_2, .fs a0_3]] =
  pcallS (call Ev) Fn.impl_RecordFault [.agg [.int .i64 a0_0, .int .i64 a0_1, .int .i64 a0_2, .fs a0_3]] fun v101 =>
  gV1 v101 fun x102 =>
  gI .i64 x102 fun i103 =>
  vcase (bv (i103 != 0))
  (some (.agg [.int .i64 i103, .str (⟨#[]⟩)]))
  (idxK 1 (sv 2 0 6) (iv .i64 (IntKind.i64.wrap (a0_0 - 1))) fun v105 =>
  ldK (.one (.s)) ⟨1, 16, [.str ⟨#[]⟩], false, .str, false⟩ ((((D 0).new 0 [.int .i64 a0_0, .int .i64 a0_1, .int .i64 a0_2, .fs a0_3]).new 0 [.int .i64 0, .str (⟨#[]⟩)]).new 1 [.str (⟨#[98, 101, 103, 105, 110]⟩), .str (⟨#[100, 101, 108, 116, 97]⟩), .str (⟨#[99, 111, 109, 112]⟩), .str (⟨#[105, 109, 97, 103, 101]⟩), .str (⟨#[99, 111, 109, 109, 105, 116]⟩), .str (⟨#[97, 98, 111, 114, 116]⟩)]) v105 fun v106 =>
  gV1 v106 fun x107 =>
  gS x107 fun y108 =>
  (bin Ev .add 9 (.s (.str y108)) (.s (.str (⟨#[32]⟩)))).bind fun b109 =>
  gV1 b109 fun x110 =>
  gS x110 fun y111 =>
  pcallS (call Ev) Fn.impl_digits [iv .i64 a0_1] fun v112 =>
  gV1 v112 fun x113 =>
  gS x113 fun y114 =>
  hchk ((((D 0).new 0 [.int .i64 a0_0, .int .i64 a0_1, .int .i64 a0_2, .fs a0_3]).new 0 [.int .i64 0, .str (⟨#[]⟩)]).new 1 [.str (⟨#[98, 101, 103, 105, 110]⟩), .str (⟨#[100, 101, 108, 116, 97]⟩), .str (⟨#[99, 111, 109, 112]⟩), .str (⟨#[105, 109, 97, 103, 101]⟩), .str (⟨#[99, 111, 109, 109, 105, 116]⟩), .str (⟨#[97, 98, 111, 114, 116]⟩)]) ((((D 0).new 0 [.int .i64 a0_0, .int .i64 a0_1, .int .i64 a0_2, .fs a0_3]).new 0 [.int .i64 0, .str (⟨#[]⟩)]).new 1 [.str (⟨#[98, 101, 103, 105, 110]⟩), .str (⟨#[100, 101, 108, 116, 97]⟩), .str (⟨#[99, 111, 109, 112]⟩), .str (⟨#[105, 109, 97, 103, 101]⟩), .str (⟨#[99, 111, 109, 109, 105, 116]⟩), .str (⟨#[97, 98, 111, 114, 116]⟩)]) (
  (bin Ev .add 9 (.s (.str y111)) (.s (.str y114))).bind fun b115 =>
  gV1 b115 fun x116 =>
  gS x116 fun y117 =>
  vcase (bv (decide ((a0_3.length : Int) > 0)))
  ((Lp.impl_RecordText 0 [pv 0 0, pv 1 0, .s (.str y117), iv .i64 0, lv a0_3, iv .i64 (a0_3.length : Int), iv .i64 0] ((((D 0).new 0 [.int .i64 a0_0, .int .i64 a0_1, .int .i64 a0_2, .fs a0_3]).new 0 [.int .i64 0, .str (⟨#[]⟩)]).new 1 [.str (⟨#[98, 101, 103, 105, 110]⟩), .str (⟨#[100, 101, 108, 116, 97]⟩), .str (⟨#[99, 111, 109, 112]⟩), .str (⟨#[105, 109, 97, 103, 101]⟩), .str (⟨#[99, 111, 109, 109, 105, 116]⟩), .str (⟨#[97, 98, 111, 114, 116]⟩)])).bind fun o119 => lcase o119 (fun l120 h121 =>
  (l120[0]?).bind fun w124 =>
  (l120[1]?).bind fun w125 =>
  (l120[2]?).bind fun w126 =>
  gV1 w126 fun x127 =>
  gS x127 fun y128 =>
  (l120[3]?).bind fun w129 =>
  gV1 w129 fun x130 =>
  gI .i64 x130 fun i131 =>
  (padd 2 w124).bind fun v132 =>
  ldK (.one (.i .i64)) ⟨1, 8, [.int .i64 0], false, .int .i64, false⟩ h121 v132 fun v133 =>
  gV1 v133 fun x134 =>
  gI .i64 x134 fun i135 =>
  pcallS (call Ev) Fn.impl_digits [iv .i64 i135] fun v136 =>
  gV1 v136 fun x137 =>
  gS x137 fun y138 =>
  (bin Ev .add 9 (.s (.str (⟨#[32]⟩))) (.s (.str y138))).bind fun b139 =>
  gV1 b139 fun x140 =>
  gS x140 fun y141 =>
  (bin Ev .add 9 (.s (.str y141)) (.s (.str (⟨#[32]⟩)))).bind fun b142 =>
  gV1 b142 fun x143 =>
  gS x143 fun y144 =>
  pcallS (call Ev) Fn.impl_digits [iv .i64 i131] fun v145 =>
  gV1 v145 fun x146 =>
  gS x146 fun y147 =>
  (bin Ev .add 9 (.s (.str y144)) (.s (.str y147))).bind fun b148 =>
  gV1 b148 fun x149 =>
  gS x149 fun y150 =>
  (bin Ev .add 9 (.s (.str y128)) (.s (.str y150))).bind fun b151 =>
  gV1 b151 fun x152 =>
  gS x152 fun y153 =>
  stK 2 h121 w125 (.agg [.int .i64 0, .str y153]) fun h154 =>
  ldT ⟨2, 24, [.int .i64 0, .str ⟨#[]⟩], true, .st [(0, 2), (1, 9)], true⟩ h154 w125 fun v155 =>
  frzV h154 v155) (fun v122 h123 =>
  frzV h123 v122))
  (some (.agg [.int .i64 0, .str y117])))) := by
  rw [pure_eq]; kernel_rfl

theorem eq_impl_RecordText_l0 (s1 : V) (s2 : V) (s5 : ByteArray) (s6 : Int) (s32 : V) (s33 : Int) (s34 : Int) (h : H) : Lp.impl_RecordText 0 [s1, s2, .s (.str s5), iv .i64 s6, s32, iv .i64 s33, iv .i64 s34] h =
  vcase (bv (decide (s34 < s33)))
  (idxK 2 s32 (iv .i64 s34) fun v203 =>
  ldK (.agg [.i .i64, .f]) ⟨2, 32, [.int .i64 0, .sl none 0], true, .st [(0, 2), (1, 36)], false⟩ h v203 fun v204 =>
  gVA v204 fun c205 =>
  (c205[0]?).bind fun x206 =>
  gI .i64 x206 fun i207 =>
  (c205[1]?).bind fun x208 =>
  if c205.length = 2 then
  stK 2 (h.new 0 [.int .i64 0, .sl none 0]) (pv h.n 0) (.agg [.int .i64 i207, x208]) fun h209 =>
  (load1 h209 (pv h.n 1)).bind fun x210 =>
  (lenV (.sl 5) (.s x210)).bind fun v211 =>
  gV1 v211 fun x212 =>
  gI .i64 x212 fun i213 =>
  Lp.impl_RecordText 0 [s1, s2, .s (.str s5), iv .i64 (IntKind.i64.wrap (s6 + i213)), s32, iv .i64 s33, iv .i64 (IntKind.i64.wrap (s34 + 1))] (tidy h [s1, s2, .s (.str s5), iv .i64 (IntKind.i64.wrap (s6 + i213)), s32, iv .i64 s33, iv .i64 (IntKind.i64.wrap (s34 + 1))] h209)
  else none)
  (some (.done [s1, s2, .s (.str s5), iv .i64 s6] (tidy h [s1, s2, .s (.str s5), iv .i64 s6] h))) := by
  unfold Lp.impl_RecordText; rw [loop_eq]; kernel_rfl

theorem pu_laws_eqTextResult (a0_0 : Int) (a0_1 : ByteArray) (a1_0 : Int) (a1_1 : ByteArray) : pureV (call Ev) Fn.laws_eqTextResult [.agg [.int .i64 a0_0, .str a0_1], .agg [.int .i64 a1_0, .str a1_1]] =
  vcase (bv (a0_0 != a1_0))
  (some (bv false))
  (vcase (bv (!((a0_1 : ByteArray).toList == (a1_1 : ByteArray).toList)))
  (some (bv false))
  (some (bv true))) := by
  rw [pure_eq]; kernel_rfl

theorem pu_laws_eqByteS (a0 : List (List S)) (a1 : List (List S)) : pureV (call Ev) Fn.laws_eqByteS [lv a0, lv a1] =
  vcase (bv ((a0.length : Int) != (a1.length : Int)))
  (some (bv false))
  ((Lp.laws_eqByteS 0 [lv a0, lv a1, iv .i64 0] (D 0)).bind fun o102 => lcase o102 (fun l103 h104 =>
  some (bv true)) (fun v105 h106 =>
  frzV h106 v105)) := by
  rw [pure_eq]; kernel_rfl

theorem eq_laws_eqByteS_l0 (s0 : List (List S)) (s1 : List (List S)) (s5 : Int) (h : H) : Lp.laws_eqByteS 0 [lv s0, lv s1, iv .i64 s5] h =
  vcase (bv (decide (s5 < (s0.length : Int))))
  (idxF 1 s0 s5 fun r203 =>
  (r203[0]?).bind fun x204 =>
  gI .u8 x204 fun i205 =>
  idxF 1 s1 s5 fun r206 =>
  (r206[0]?).bind fun x207 =>
  gI .u8 x207 fun i208 =>
  vcase (bv (i205 != i208))
  (some (.ret (bv false) h))
  (Lp.laws_eqByteS 0 [lv s0, lv s1, iv .i64 (IntKind.i64.wrap (s5 + 1))] (tidy h [lv s0, lv s1, iv .i64 (IntKind.i64.wrap (s5 + 1))] h)))
  (some (.done [] (tidy h [] h))) := by
  unfold Lp.laws_eqByteS; rw [loop_eq]; kernel_rfl

theorem pu_laws_eqRun (a0_0 : Int) (a0_1 : List (List S)) (a1_0 : Int) (a1_1 : List (List S)) : pureV (call Ev) Fn.laws_eqRun [.agg [.int .i64 a0_0, .fs a0_1], .agg [.int .i64 a1_0, .fs a1_1]] =
  vcase (bv (a0_0 != a1_0))
  (some (bv false))
  (pcallS (call Ev) Fn.laws_eqByteS [lv a0_1, lv a1_1] fun v102 =>
  gV1 v102 fun x103 =>
  gB x103 fun q104 =>
  vcase (bv (!q104))
  (some (bv false))
  (some (bv true))) := by
  rw [pure_eq]; kernel_rfl

theorem pu_laws_eqRunS (a0 : List (List S)) (a1 : List (List S)) : pureV (call Ev) Fn.laws_eqRunS [lv a0, lv a1] =
  vcase (bv ((a0.length : Int) != (a1.length : Int)))
  (some (bv false))
  ((Lp.laws_eqRunS 0 [lv a0, lv a1, iv .i64 0] (D 0)).bind fun o102 => lcase o102 (fun l103 h104 =>
  some (bv true)) (fun v105 h106 =>
  frzV h106 v105)) := by
  rw [pure_eq]; kernel_rfl

theorem eq_laws_eqRunS_l0 (s0 : List (List S)) (s1 : List (List S)) (s5 : Int) (h : H) : Lp.laws_eqRunS 0 [lv s0, lv s1, iv .i64 s5] h =
  vcase (bv (decide (s5 < (s0.length : Int))))
  (idxF 2 s0 s5 fun r203 =>
  (rowN 2 r203 0).bind fun c204 =>
  (c204[0]?).bind fun x205 =>
  gI .i64 x205 fun i206 =>
  (c204[1]?).bind fun x207 =>
  gF x207 fun z208 =>
  if c204.length = 2 then
  idxF 2 s1 s5 fun r209 =>
  (rowN 2 r209 0).bind fun c210 =>
  (c210[0]?).bind fun x211 =>
  gI .i64 x211 fun i212 =>
  (c210[1]?).bind fun x213 =>
  gF x213 fun z214 =>
  if c210.length = 2 then
  pcallS (call Ev) Fn.laws_eqRun [.agg [.int .i64 i206, .fs z208], .agg [.int .i64 i212, .fs z214]] fun v215 =>
  gV1 v215 fun x216 =>
  gB x216 fun q217 =>
  hchk h h (
  vcase (bv (!q217))
  (some (.ret (bv false) h))
  (Lp.laws_eqRunS 0 [lv s0, lv s1, iv .i64 (IntKind.i64.wrap (s5 + 1))] (tidy h [lv s0, lv s1, iv .i64 (IntKind.i64.wrap (s5 + 1))] h)))
  else none
  else none)
  (some (.done [] (tidy h [] h))) := by
  unfold Lp.laws_eqRunS; rw [loop_eq]; kernel_rfl

theorem pu_laws_eqRecord (a0_0 : Int) (a0_1 : Int) (a0_2 : Int) (a0_3 : List (List S)) (a1_0 : Int) (a1_1 : Int) (a1_2 : Int) (a1_3 : List (List S)) : pureV (call Ev) Fn.laws_eqRecord [.agg [.int .i64 a0_0, .int .i64 a0_1, .int .i64 a0_2, .fs a0_3], .agg [.int .i64 a1_0, .int .i64 a1_1, .int .i64 a1_2, .fs a1_3]] =
  vcase (bv (a0_0 != a1_0))
  (some (bv false))
  (vcase (bv (a0_1 != a1_1))
  (some (bv false))
  (vcase (bv (a0_2 != a1_2))
  (some (bv false))
  (pcallS (call Ev) Fn.laws_eqRunS [lv a0_3, lv a1_3] fun v104 =>
  gV1 v104 fun x105 =>
  gB x105 fun q106 =>
  vcase (bv (!q106))
  (some (bv false))
  (some (bv true))))) := by
  rw [pure_eq]; kernel_rfl

theorem pu_laws_FnExactRecordText (a0_0 : Int) (a0_1 : Int) (a0_2 : Int) (a0_3 : List (List S)) : pureV (call Ev) Fn.laws_FnExactRecordText [.agg [.int .i64 a0_0, .int .i64 a0_1, .int .i64 a0_2, .fs a0_3]] =
  pcallS (call Ev) Fn.laws_szRecord [.agg [.int .i64 a0_0, .int .i64 a0_1, .int .i64 a0_2, .fs a0_3], iv .i64 1048576] fun v101 =>
  gV1 v101 fun x102 =>
  gI .i64 x102 fun i103 =>
  vcase (bv (decide (i103 < 0)))
  (some (bv true))
  ((pureV (call Ev) Fn.laws_toRecord [.agg [.int .i64 a0_0, .int .i64 a0_1, .int .i64 a0_2, .fs a0_3]]).bind fun v105 =>
  gVA v105 fun c106 =>
  (c106[0]?).bind fun x107 =>
  gI .i64 x107 fun i108 =>
  (c106[1]?).bind fun x109 =>
  gI .i64 x109 fun i110 =>
  (c106[2]?).bind fun x111 =>
  gI .i64 x111 fun i112 =>
  (c106[3]?).bind fun x113 =>
  gF x113 fun z114 =>
  if c106.length = 4 then
  pcallS (call Ev) Fn.spec_RecordText [.agg [.int .i64 i108, .int .i64 i110, .int .i64 i112, .fs z114]] fun v115 =>
  gVA v115 fun c116 =>
  (c116[0]?).bind fun x117 =>
  gI .i64 x117 fun i118 =>
  (c116[1]?).bind fun x119 =>
  gS x119 fun y120 =>
  if c116.length = 2 then
  (pureV (call Ev) Fn.laws_toRecord [.agg [.int .i64 a0_0, .int .i64 a0_1, .int .i64 a0_2, .fs a0_3]]).bind fun v121 =>
  gVA v121 fun c122 =>
  (c122[0]?).bind fun x123 =>
  gI .i64 x123 fun i124 =>
  (c122[1]?).bind fun x125 =>
  gI .i64 x125 fun i126 =>
  (c122[2]?).bind fun x127 =>
  gI .i64 x127 fun i128 =>
  (c122[3]?).bind fun x129 =>
  gF x129 fun z130 =>
  if c122.length = 4 then
  pcallS (call Ev) Fn.impl_RecordText [.agg [.int .i64 i124, .int .i64 i126, .int .i64 i128, .fs z130]] fun v131 =>
  gVA v131 fun c132 =>
  (c132[0]?).bind fun x133 =>
  gI .i64 x133 fun i134 =>
  (c132[1]?).bind fun x135 =>
  gS x135 fun y136 =>
  if c132.length = 2 then
  pcallS (call Ev) Fn.laws_eqTextResult [.agg [.int .i64 i134, .str y136], .agg [.int .i64 i118, .str y120]] fun v137 =>
  gV1 v137 fun x138 =>
  gB x138 fun q139 =>
  vcase (bv (!q139))
  (some (bv false))
  ((pureV (call Ev) Fn.laws_toRecord [.agg [.int .i64 a0_0, .int .i64 a0_1, .int .i64 a0_2, .fs a0_3]]).bind fun v141 =>
  gVA v141 fun c142 =>
  (c142[0]?).bind fun x143 =>
  gI .i64 x143 fun i144 =>
  (c142[1]?).bind fun x145 =>
  gI .i64 x145 fun i146 =>
  (c142[2]?).bind fun x147 =>
  gI .i64 x147 fun i148 =>
  (c142[3]?).bind fun x149 =>
  gF x149 fun z150 =>
  if c142.length = 4 then
  hchk ((((((((D 0).new 0 [.int .i64 a0_0, .int .i64 a0_1, .int .i64 a0_2, .fs a0_3]).new 0 [.int .i64 0, .str (⟨#[]⟩)]).put 1 (.rw 0 [.int .i64 i118, .str y120])).new 0 [.int .i64 0, .int .i64 0, .int .i64 0, .sl none 0]).put 2 (.rw 0 [.int .i64 i124, .int .i64 i126, .int .i64 i128, .fs z130])).new 0 [.int .i64 0, .str (⟨#[]⟩)]).put 3 (.rw 0 [.int .i64 i134, .str y136])) ((((((((D 0).new 0 [.int .i64 a0_0, .int .i64 a0_1, .int .i64 a0_2, .fs a0_3]).new 0 [.int .i64 0, .str (⟨#[]⟩)]).put 1 (.rw 0 [.int .i64 i118, .str y120])).new 0 [.int .i64 0, .int .i64 0, .int .i64 0, .sl none 0]).put 2 (.rw 0 [.int .i64 i124, .int .i64 i126, .int .i64 i128, .fs z130])).new 0 [.int .i64 0, .str (⟨#[]⟩)]).put 3 (.rw 0 [.int .i64 i134, .str y136])) (
  pcallS (call Ev) Fn.laws_eqRecord [.agg [.int .i64 i124, .int .i64 i126, .int .i64 i128, .fs z130], .agg [.int .i64 i144, .int .i64 i146, .int .i64 i148, .fs z150]] fun v151 =>
  gV1 v151 fun x152 =>
  gB x152 fun q153 =>
  hchk ((((((((D 0).new 0 [.int .i64 a0_0, .int .i64 a0_1, .int .i64 a0_2, .fs a0_3]).new 0 [.int .i64 0, .str (⟨#[]⟩)]).put 1 (.rw 0 [.int .i64 i118, .str y120])).new 0 [.int .i64 0, .int .i64 0, .int .i64 0, .sl none 0]).put 2 (.rw 0 [.int .i64 i124, .int .i64 i126, .int .i64 i128, .fs z130])).new 0 [.int .i64 0, .str (⟨#[]⟩)]).put 3 (.rw 0 [.int .i64 i134, .str y136])) ((((((((D 0).new 0 [.int .i64 a0_0, .int .i64 a0_1, .int .i64 a0_2, .fs a0_3]).new 0 [.int .i64 0, .str (⟨#[]⟩)]).put 1 (.rw 0 [.int .i64 i118, .str y120])).new 0 [.int .i64 0, .int .i64 0, .int .i64 0, .sl none 0]).put 2 (.rw 0 [.int .i64 i124, .int .i64 i126, .int .i64 i128, .fs z130])).new 0 [.int .i64 0, .str (⟨#[]⟩)]).put 3 (.rw 0 [.int .i64 i134, .str y136])) (
  hchk ((((((((D 0).new 0 [.int .i64 a0_0, .int .i64 a0_1, .int .i64 a0_2, .fs a0_3]).new 0 [.int .i64 0, .str (⟨#[]⟩)]).put 1 (.rw 0 [.int .i64 i118, .str y120])).new 0 [.int .i64 0, .int .i64 0, .int .i64 0, .sl none 0]).put 2 (.rw 0 [.int .i64 i124, .int .i64 i126, .int .i64 i128, .fs z130])).new 0 [.int .i64 0, .str (⟨#[]⟩)]).put 3 (.rw 0 [.int .i64 i134, .str y136])) ((((((((D 0).new 0 [.int .i64 a0_0, .int .i64 a0_1, .int .i64 a0_2, .fs a0_3]).new 0 [.int .i64 0, .str (⟨#[]⟩)]).put 1 (.rw 0 [.int .i64 i118, .str y120])).new 0 [.int .i64 0, .int .i64 0, .int .i64 0, .sl none 0]).put 2 (.rw 0 [.int .i64 i124, .int .i64 i126, .int .i64 i128, .fs z130])).new 0 [.int .i64 0, .str (⟨#[]⟩)]).put 3 (.rw 0 [.int .i64 i134, .str y136])) (
  vcase (bv (!q153))
  (some (bv false))
  (some (bv true)))))
  else none)
  else none
  else none
  else none
  else none) := by
  rw [pure_eq]; kernel_rfl

theorem pu_laws_lwBig (a0 : List (List S)) : pureV (call Ev) Fn.laws_lwBig [lv a0] =
  some (bv (decide ((a0.length : Int) > 1048576))) := by
  rw [pure_eq]; kernel_rfl

theorem eq_spec_l1Source (a0 : List (List S)) (n : Nat) : call Ev Fn.spec_l1Source [lv a0] (D n) =
  some (pv ((D n).n) 0, (D n).new 0 [.fs a0, .int .i64 0]) := by
  rw [call_eq]; kernel_rfl

theorem eq_spec_l1Next (a0_b a0_o : Nat) (a1 : Int) (h : H) : call Ev Fn.spec_l1Next [pv a0_b a0_o, iv .i64 a1] h =
  (load1 h (pv a0_b (a0_o + 1))).bind fun x101 =>
  gI .i64 x101 fun i102 =>
  stK 1 h (pv a0_b (a0_o + 1)) (iv .i64 (IntKind.i64.wrap (i102 + 1))) fun h103 =>
  vcase (bv (decide (a1 < 1)))
  (some (iv .i64 0, h103))
  ((load1 h103 (pv a0_b (a0_o + 1))).bind fun x105 =>
  gI .i64 x105 fun i106 =>
  (load1 h103 (pv a0_b (a0_o + 0))).bind fun x107 =>
  (lenV (.sl 5) (.s x107)).bind fun v108 =>
  gV1 v108 fun x109 =>
  gI .i64 x109 fun i110 =>
  vcase (bv (i110 == 0))
  ((bin Ev .rem 2 (iv .i64 (IntKind.i64.wrap ((IntKind.i64.wrap (i106 - 1)) * 7))) (iv .i64 a1)).bind fun b112 =>
  gV1 b112 fun x113 =>
  gI .i64 x113 fun i114 =>
  some (iv .i64 i114, h103))
  ((load1 h103 (pv a0_b (a0_o + 0))).bind fun x115 =>
  (bin Ev .rem 2 (iv .i64 (IntKind.i64.wrap (i106 - 1))) (iv .i64 i110)).bind fun b116 =>
  gV1 b116 fun x117 =>
  gI .i64 x117 fun i118 =>
  idxK 1 (.s x115) (iv .i64 i118) fun v119 =>
  ldK (.one (.i .u8)) ⟨1, 1, [.int .u8 0], false, .int .u8, false⟩ h103 v119 fun v120 =>
  gV1 v120 fun x121 =>
  gI .u8 x121 fun i122 =>
  (bin Ev .quo 2 (iv .i64 (IntKind.i64.wrap (i106 - 1))) (iv .i64 i110)).bind fun b123 =>
  gV1 b123 fun x124 =>
  gI .i64 x124 fun i125 =>
  vcase (bv (decide (a1 > 200)))
  ((load1 h103 (pv a0_b (a0_o + 0))).bind fun x127 =>
  (bin Ev .rem 2 (iv .i64 (IntKind.i64.wrap ((IntKind.i64.wrap (i106 - 1)) + 1))) (iv .i64 i110)).bind fun b128 =>
  gV1 b128 fun x129 =>
  gI .i64 x129 fun i130 =>
  idxK 1 (.s x127) (iv .i64 i130) fun v131 =>
  ldK (.one (.i .u8)) ⟨1, 1, [.int .u8 0], false, .int .u8, false⟩ h103 v131 fun v132 =>
  gV1 v132 fun x133 =>
  gI .u8 x133 fun i134 =>
  (bin Ev .rem 2 (iv .i64 (IntKind.i64.wrap ((IntKind.i64.wrap ((IntKind.i64.wrap ((IntKind.i64.wrap ((IntKind.i64.wrap i122) + (IntKind.i64.wrap (i125 * 37)))) * 251)) + (IntKind.i64.wrap ((IntKind.i64.wrap i134) * 13)))) + (IntKind.i64.wrap (i106 - 1))))) (iv .i64 a1)).bind fun b135 =>
  gV1 b135 fun x136 =>
  gI .i64 x136 fun i137 =>
  some (iv .i64 i137, h103))
  ((bin Ev .rem 2 (iv .i64 (IntKind.i64.wrap ((IntKind.i64.wrap i122) + (IntKind.i64.wrap (i125 * 37))))) (iv .i64 a1)).bind fun b138 =>
  gV1 b138 fun x139 =>
  gI .i64 x139 fun i140 =>
  some (iv .i64 i140, h103)))) := by
  rw [call_eq]; kernel_rfl

theorem eq_spec_l1Pick (a0_b a0_o : Nat) (a1 : V) (h : H) : call Ev Fn.spec_l1Pick [pv a0_b a0_o, a1] h =
  (lenV (.sl 2) a1).bind fun v101 =>
  gV1 v101 fun x102 =>
  gI .i64 x102 fun i103 =>
  (call Ev Fn.spec_l1Next [pv a0_b a0_o, iv .i64 i103] h).bind fun p104 =>
  gV1 p104.1 fun x105 =>
  gI .i64 x105 fun i106 =>
  idxK 1 a1 (iv .i64 i106) fun v107 =>
  ldK (.one (.i .i64)) ⟨1, 8, [.int .i64 0], false, .int .i64, false⟩ (tidy h [p104.1] p104.2) v107 fun v108 =>
  gV1 v108 fun x109 =>
  gI .i64 x109 fun i110 =>
  some (iv .i64 i110, tidy h [p104.1] p104.2) := by
  rw [call_eq]; kernel_rfl

theorem eq_spec_l2Copy (a0 : List (List S)) (n : Nat) : call Ev Fn.spec_l2Copy [lv a0] (D n) =
  (appS 1 ((D n).new 1 []) (sv ((D n).n) 0 0) (lv a0)).bind fun p101 =>
  some (p101.1, p101.2) := by
  rw [call_eq]; kernel_rfl

theorem eq_spec_l1Some (a0_b a0_o : Nat) (a1 : Int) (h : H) : call Ev Fn.spec_l1Some [pv a0_b a0_o, iv .i64 a1] h =
  (Lp.spec_l1Some 0 [pv a0_b a0_o, iv .i64 a1, sv h.n 0 0] (h.new 1 [])).bind fun o101 => lcase o101 (fun l102 h103 =>
  (l102[0]?).bind fun w106 =>
  some (w106, h103)) (fun v104 h105 =>
  some (v104, h105)) := by
  rw [call_eq]; kernel_rfl

theorem eq_spec_l1Some_l0 (s0 : V) (s1 : Int) (s5 : V) (h : H) : Lp.spec_l1Some 0 [s0, iv .i64 s1, s5] h =
  vcase (bv (decide (s1 > 0)))
  ((call Ev Fn.spec_l1Next [s0, iv .i64 256] h).bind fun p203 =>
  gV1 p203.1 fun x204 =>
  gI .i64 x204 fun i205 =>
  (appS 1 ((tidy h [p203.1] p203.2).new 1 [.int .u8 (IntKind.u8.wrap i205)]) s5 (sv ((tidy h [p203.1] p203.2).n) 0 1)).bind fun p206 =>
  Lp.spec_l1Some 0 [s0, iv .i64 (IntKind.i64.wrap (s1 - 1)), p206.1] (tidy h [s0, iv .i64 (IntKind.i64.wrap (s1 - 1)), p206.1] p206.2))
  (some (.done [s5] (tidy h [s5] h))) := by
  unfold Lp.spec_l1Some; rw [loop_eq]; kernel_rfl

theorem eq_spec_l2New (a0 : Int) (n : Nat) : call Ev Fn.spec_l2New [iv .u8 a0] (D n) =
  (mkSl 1 [.int .u8 0] (D n) (iv .i64 64) (iv .i64 64)).bind fun p101 =>
  (Lp.spec_l2New 0 [iv .u8 a0, p101.1, iv .i64 0] p101.2).bind fun o102 => lcase o102 (fun l103 h104 =>
  (l103[0]?).bind fun w107 =>
  idxK 1 w107 (iv .i64 0) fun v108 =>
  stK 1 h104 v108 (iv .u8 0) fun h109 =>
  idxK 1 w107 (iv .i64 1) fun v110 =>
  stK 1 h109 v110 (iv .u8 64) fun h111 =>
  some (w107, h111)) (fun v105 h106 =>
  some (v105, h106)) := by
  rw [call_eq]; kernel_rfl

theorem eq_spec_l2New_l0 (s0 : Int) (s3 : V) (s4 : Int) (h : H) : Lp.spec_l2New 0 [iv .u8 s0, s3, iv .i64 s4] h =
  vcase (bv (decide (s4 < 64)))
  (idxK 1 s3 (iv .i64 s4) fun v203 =>
  stK 1 h v203 (iv .u8 s0) fun h204 =>
  Lp.spec_l2New 0 [iv .u8 s0, s3, iv .i64 (IntKind.i64.wrap (s4 + 1))] (tidy h [iv .u8 s0, s3, iv .i64 (IntKind.i64.wrap (s4 + 1))] h204))
  (some (.done [s3] (tidy h [s3] h))) := by
  unfold Lp.spec_l2New; rw [loop_eq]; kernel_rfl

theorem pu_spec_l2Count (a0 : List (List S)) : pureV (call Ev) Fn.spec_l2Count [lv a0] =
  idxF 1 a0 0 fun r101 =>
  (r101[0]?).bind fun x102 =>
  gI .u8 x102 fun i103 =>
  some (iv .i64 (IntKind.i64.wrap i103)) := by
  rw [pure_eq]; kernel_rfl

theorem pu_spec_l2Size (a0 : List (List S)) (a1 : Int) : pureV (call Ev) Fn.spec_l2Size [lv a0, iv .i64 a1] =
  idxF 1 a0 (IntKind.i64.wrap (3 + (IntKind.i64.wrap (2 * a1)))) fun r101 =>
  (r101[0]?).bind fun x102 =>
  gI .u8 x102 fun i103 =>
  some (iv .i64 (IntKind.i64.wrap i103)) := by
  rw [pure_eq]; kernel_rfl

theorem pu_spec_l2Has (a0 : List (List S)) (a1 : Int) : pureV (call Ev) Fn.spec_l2Has [lv a0, iv .i64 a1] =
  pcallS (call Ev) Fn.spec_l2Count [lv a0] fun v101 =>
  gV1 v101 fun x102 =>
  gI .i64 x102 fun i103 =>
  pcallS (call Ev) Fn.spec_l1In [iv .i64 a1, iv .i64 0, iv .i64 (IntKind.i64.wrap (i103 - 1))] fun v104 =>
  gV1 v104 fun x105 =>
  gB x105 fun q106 =>
  vcase (bv q106)
  (pcallS (call Ev) Fn.spec_l2Size [lv a0, iv .i64 a1] fun v108 =>
  gV1 v108 fun x109 =>
  gI .i64 x109 fun i110 =>
  some (bv (decide (i110 > 0))))
  (some (bv false)) := by
  rw [pure_eq]; kernel_rfl

theorem eq_spec_l2Drop (a0 : List (List S)) (a1 : Int) (n : Nat) : call Ev Fn.spec_l2Drop [lv a0, iv .i64 a1] (D n) =
  pcallF (call Ev) Fn.spec_l2Copy true [lv a0] (D n) fun v101 h102 =>
  idxK 1 v101 (iv .i64 (IntKind.i64.wrap (2 + (IntKind.i64.wrap (2 * a1))))) fun v103 =>
  stK 1 h102 v103 (iv .u8 0) fun h104 =>
  idxK 1 v101 (iv .i64 (IntKind.i64.wrap (3 + (IntKind.i64.wrap (2 * a1))))) fun v105 =>
  stK 1 h104 v105 (iv .u8 0) fun h106 =>
  (Lp.spec_l2Drop 0 [v101] h106).bind fun o107 => lcase o107 (fun l108 h109 =>
  (l108[0]?).bind fun w112 =>
  some (w112, h109)) (fun v110 h111 =>
  some (v110, h111)) := by
  rw [call_eq]; kernel_rfl

theorem eq_spec_l2Drop_l0 (s5 : V) (h : H) : Lp.spec_l2Drop 0 [s5] h =
  idxK 1 s5 (iv .i64 0) fun v201 =>
  ldK (.one (.i .u8)) ⟨1, 1, [.int .u8 0], false, .int .u8, false⟩ h v201 fun v202 =>
  gV1 v202 fun x203 =>
  gI .u8 x203 fun i204 =>
  vcase (bv (decide (i204 > 0)))
  (idxK 1 s5 (iv .i64 0) fun v206 =>
  ldK (.one (.i .u8)) ⟨1, 1, [.int .u8 0], false, .int .u8, false⟩ h v206 fun v207 =>
  gV1 v207 fun x208 =>
  gI .u8 x208 fun i209 =>
  (frzVs h [s5, iv .i64 (IntKind.i64.wrap ((IntKind.i64.wrap i209) - 1))]).bind fun l210 =>
  pcallS (call Ev) Fn.spec_l2Size (normVs [] l210) fun v211 =>
  gV1 v211 fun x212 =>
  gI .i64 x212 fun i213 =>
  vcase (bv (i213 == 0))
  (idxK 1 s5 (iv .i64 0) fun v218 =>
  ldK (.one (.i .u8)) ⟨1, 1, [.int .u8 0], false, .int .u8, false⟩ h v218 fun v219 =>
  gV1 v219 fun x220 =>
  gI .u8 x220 fun i221 =>
  idxK 1 s5 (iv .i64 0) fun v222 =>
  stK 1 h v222 (iv .u8 (IntKind.u8.wrap (i221 - 1))) fun h223 =>
  Lp.spec_l2Drop 0 [s5] (tidy h [s5] h223))
  (some (.done [s5] (tidy h [s5] h))))
  (some (.done [s5] (tidy h [s5] h))) := by
  unfold Lp.spec_l2Drop; rw [loop_eq]; kernel_rfl

theorem eq_spec_l2Stand (a0 : V) (a1 : Int) (a2 : Int) (a3 : V) (h : H) : call Ev Fn.spec_l2Stand [a0, iv .i64 a1, iv .i64 a2, a3] h =
  slK 1 h a0 (some (iv .i64 a2)) none fun v101 =>
  (copS 1 h v101 a3).bind fun p102 =>
  gV1 p102.1 fun x103 =>
  gI .i64 x103 fun i104 =>
  idxK 1 a0 (iv .i64 (IntKind.i64.wrap (2 + (IntKind.i64.wrap (2 * a1))))) fun v105 =>
  stK 1 p102.2 v105 (iv .u8 (IntKind.u8.wrap a2)) fun h106 =>
  (lenV (.sl 5) a3).bind fun v107 =>
  gV1 v107 fun x108 =>
  gI .i64 x108 fun i109 =>
  idxK 1 a0 (iv .i64 (IntKind.i64.wrap (3 + (IntKind.i64.wrap (2 * a1))))) fun v110 =>
  stK 1 h106 v110 (iv .u8 (IntKind.u8.wrap i109)) fun h111 =>
  some (.tup [], h111) := by
  rw [call_eq]; kernel_rfl

theorem pu_spec_l2Place (a0 : List (List S)) (a1 : Int) : pureV (call Ev) Fn.spec_l2Place [lv a0, iv .i64 a1] =
  idxF 1 a0 (IntKind.i64.wrap (2 + (IntKind.i64.wrap (2 * a1)))) fun r101 =>
  (r101[0]?).bind fun x102 =>
  gI .u8 x102 fun i103 =>
  some (iv .i64 (IntKind.i64.wrap i103)) := by
  rw [pure_eq]; kernel_rfl

theorem pu_spec_l2Free (a0 : List (List S)) : pureV (call Ev) Fn.spec_l2Free [lv a0] =
  pcallS (call Ev) Fn.spec_l2Count [lv a0] fun v101 =>
  gV1 v101 fun x102 =>
  gI .i64 x102 fun i103 =>
  (Lp.spec_l2Free 0 [lv a0, iv .i64 (IntKind.i64.wrap (62 - (IntKind.i64.wrap (2 * i103)))), iv .i64 0] (D 0)).bind fun o104 => lcase o104 (fun l105 h106 =>
  (l105[0]?).bind fun w109 =>
  gV1 w109 fun x110 =>
  gI .i64 x110 fun i111 =>
  some (iv .i64 i111)) (fun v107 h108 =>
  frzV h108 v107) := by
  rw [pure_eq]; kernel_rfl

theorem eq_spec_l2Free_l0 (s0 : List (List S)) (s3 : Int) (s4 : Int) (h : H) : Lp.spec_l2Free 0 [lv s0, iv .i64 s3, iv .i64 s4] h =
  pcallS (call Ev) Fn.spec_l2Count [lv s0] fun v201 =>
  gV1 v201 fun x202 =>
  gI .i64 x202 fun i203 =>
  vcase (bv (decide (s4 < i203)))
  (pcallS (call Ev) Fn.spec_l2Size [lv s0, iv .i64 s4] fun v206 =>
  gV1 v206 fun x207 =>
  gI .i64 x207 fun i208 =>
  Lp.spec_l2Free 0 [lv s0, iv .i64 (IntKind.i64.wrap (s3 - i208)), iv .i64 (IntKind.i64.wrap (s4 + 1))] (tidy h [lv s0, iv .i64 (IntKind.i64.wrap (s3 - i208)), iv .i64 (IntKind.i64.wrap (s4 + 1))] h))
  (some (.done [iv .i64 s3] (tidy h [iv .i64 s3] h))) := by
  unfold Lp.spec_l2Free; rw [loop_eq]; kernel_rfl

theorem pu_spec_l2Low (a0 : List (List S)) : pureV (call Ev) Fn.spec_l2Low [lv a0] =
  idxF 1 a0 1 fun r101 =>
  (r101[0]?).bind fun x102 =>
  gI .u8 x102 fun i103 =>
  some (iv .i64 (IntKind.i64.wrap i103)) := by
  rw [pure_eq]; kernel_rfl

theorem eq_spec_l2Set (a0 : List (List S)) (a1 : Int) (a2 : List (List S)) (n : Nat) : call Ev Fn.spec_l2Set [lv a0, iv .i64 a1, lv a2] (D n) =
  pcallS (call Ev) Fn.spec_l2Size [lv a0, iv .i64 a1] fun v101 =>
  gV1 v101 fun x102 =>
  gI .i64 x102 fun i103 =>
  pcallF (call Ev) Fn.spec_l2Copy true [lv a0] (D n) fun v104 h105 =>
  vcase (bv (decide ((a2.length : Int) ≤ i103)))
  (pcallS (call Ev) Fn.spec_l2Place [lv a0, iv .i64 a1] fun v107 =>
  gV1 v107 fun x108 =>
  gI .i64 x108 fun i109 =>
  (call Ev Fn.spec_l2Stand [v104, iv .i64 a1, iv .i64 (IntKind.i64.wrap ((IntKind.i64.wrap (i109 + i103)) - (a2.length : Int))), lv a2] h105).bind fun p110 =>
  (V.toA v104).bind fun t111 =>
  some (.tup [t111, .s (.int .i64 0)], tidy h105 [p110.1] p110.2))
  (pcallS (call Ev) Fn.spec_l2Free [lv a0] fun v112 =>
  gV1 v112 fun x113 =>
  gI .i64 x113 fun i114 =>
  vcase (bv (decide ((IntKind.i64.wrap (i114 + i103)) < (a2.length : Int))))
  (some (.tup [.s (.sl none 0), .s (.int .i64 9)], h105))
  (pcallS (call Ev) Fn.spec_l2Low [lv a0] fun v116 =>
  gV1 v116 fun x117 =>
  gI .i64 x117 fun i118 =>
  pcallS (call Ev) Fn.spec_l2Count [lv a0] fun v119 =>
  gV1 v119 fun x120 =>
  gI .i64 x120 fun i121 =>
  vcase (bv (decide ((IntKind.i64.wrap (i118 - (a2.length : Int))) < (IntKind.i64.wrap (2 + (IntKind.i64.wrap (2 * i121)))))))
  (some (.tup [.s (.sl none 0), .s (.int .i64 8)], h105))
  (idxK 1 v104 (iv .i64 1) fun v123 =>
  stK 1 h105 v123 (iv .u8 (IntKind.u8.wrap (IntKind.i64.wrap (i118 - (a2.length : Int))))) fun h124 =>
  (call Ev Fn.spec_l2Stand [v104, iv .i64 a1, iv .i64 (IntKind.i64.wrap (i118 - (a2.length : Int))), lv a2] h124).bind fun p125 =>
  (V.toA v104).bind fun t126 =>
  some (.tup [t126, .s (.int .i64 0)], tidy h124 [p125.1] p125.2)))) := by
  rw [call_eq]; kernel_rfl

theorem eq_spec_l1Chance (a0_b a0_o : Nat) (a1 : Int) (h : H) : call Ev Fn.spec_l1Chance [pv a0_b a0_o, iv .i64 a1] h =
  (call Ev Fn.spec_l1Next [pv a0_b a0_o, iv .i64 a1] h).bind fun p101 =>
  gV1 p101.1 fun x102 =>
  gI .i64 x102 fun i103 =>
  some (bv (i103 == 0), tidy h [p101.1] p101.2) := by
  rw [call_eq]; kernel_rfl

theorem pu_spec_l2Cell (a0 : List (List S)) (a1 : Int) : pureV (call Ev) Fn.spec_l2Cell [lv a0, iv .i64 a1] =
  pcallS (call Ev) Fn.spec_l2Place [lv a0, iv .i64 a1] fun v101 =>
  gV1 v101 fun x102 =>
  gI .i64 x102 fun i103 =>
  pcallS (call Ev) Fn.spec_l2Size [lv a0, iv .i64 a1] fun v104 =>
  gV1 v104 fun x105 =>
  gI .i64 x105 fun i106 =>
  slF 1 a0 (some (iv .i64 i103)) (some (iv .i64 (IntKind.i64.wrap (i103 + i106)))) fun z107 =>
  (appS 1 ((D 0).new 1 []) (sv 0 0 0) (lv z107)).bind fun p108 =>
  frzV p108.2 p108.1 := by
  rw [pure_eq]; kernel_rfl

theorem eq_spec_l2Compact (a0 : List (List S)) (n : Nat) : call Ev Fn.spec_l2Compact [lv a0] (D n) =
  pcallS (call Ev) Fn.spec_l2Count [lv a0] fun v101 =>
  gV1 v101 fun x102 =>
  gI .i64 x102 fun i103 =>
  (mkSl 1 [.int .u8 0] (D n) (iv .i64 64) (iv .i64 64)).bind fun p104 =>
  slF 1 a0 none (some (iv .i64 (IntKind.i64.wrap (2 + (IntKind.i64.wrap (2 * i103)))))) fun z105 =>
  (copS 1 p104.2 p104.1 (lv z105)).bind fun p106 =>
  gV1 p106.1 fun x107 =>
  gI .i64 x107 fun i108 =>
  (Lp.spec_l2Compact 0 [lv a0, iv .i64 i103, p104.1, iv .i64 64, iv .i64 0] p106.2).bind fun o109 => lcase o109 (fun l110 h111 =>
  (l110[0]?).bind fun w114 =>
  (l110[1]?).bind fun w115 =>
  gV1 w115 fun x116 =>
  gI .i64 x116 fun i117 =>
  idxK 1 w114 (iv .i64 1) fun v118 =>
  stK 1 h111 v118 (iv .u8 (IntKind.u8.wrap i117)) fun h119 =>
  some (w114, h119)) (fun v112 h113 =>
  some (v112, h113)) := by
  rw [call_eq]; kernel_rfl

theorem eq_spec_l2Compact_l0 (s0 : List (List S)) (s3 : Int) (s4 : V) (s5 : Int) (s6 : Int) (h : H) : Lp.spec_l2Compact 0 [lv s0, iv .i64 s3, s4, iv .i64 s5, iv .i64 s6] h =
  vcase (bv (decide (s6 < s3)))
  (pcallS (call Ev) Fn.spec_l2Size [lv s0, iv .i64 s6] fun v203 =>
  gV1 v203 fun x204 =>
  gI .i64 x204 fun i205 =>
  vcase (bv (i205 == 0))
  (Lp.spec_l2Compact 0 [lv s0, iv .i64 s3, s4, iv .i64 s5, iv .i64 (IntKind.i64.wrap (s6 + 1))] (tidy h [lv s0, iv .i64 s3, s4, iv .i64 s5, iv .i64 (IntKind.i64.wrap (s6 + 1))] h))
  ((pureV (call Ev) Fn.spec_l2Cell [lv s0, iv .i64 s6]).bind fun v207 =>
  gV1 v207 fun x208 =>
  gF x208 fun z209 =>
  (call Ev Fn.spec_l2Stand [s4, iv .i64 s6, iv .i64 (IntKind.i64.wrap (s5 - (z209.length : Int))), lv z209] h).bind fun p210 =>
  Lp.spec_l2Compact 0 [lv s0, iv .i64 s3, s4, iv .i64 (IntKind.i64.wrap (s5 - (z209.length : Int))), iv .i64 (IntKind.i64.wrap (s6 + 1))] (tidy h [lv s0, iv .i64 s3, s4, iv .i64 (IntKind.i64.wrap (s5 - (z209.length : Int))), iv .i64 (IntKind.i64.wrap (s6 + 1))] (tidy h [p210.1] p210.2))))
  (some (.done [s4, iv .i64 s5] (tidy h [s4, iv .i64 s5] h))) := by
  unfold Lp.spec_l2Compact; rw [loop_eq]; kernel_rfl

theorem pu_spec_l2Empty (a0 : List (List S)) : pureV (call Ev) Fn.spec_l2Empty [lv a0] =
  (Lp.spec_l2Empty 0 [lv a0, iv .i64 0] (D 0)).bind fun o101 => lcase o101 (fun l102 h103 =>
  (l102[0]?).bind fun w106 =>
  gV1 w106 fun x107 =>
  gF x107 fun z108 =>
  pcallS (call Ev) Fn.spec_l2Count [lv z108] fun v109 =>
  gV1 v109 fun x110 =>
  gI .i64 x110 fun i111 =>
  some (iv .i64 i111)) (fun v104 h105 =>
  frzV h105 v104) := by
  rw [pure_eq]; kernel_rfl

theorem eq_spec_l2Empty_l0 (s0 : List (List S)) (s3 : Int) (h : H) : Lp.spec_l2Empty 0 [lv s0, iv .i64 s3] h =
  pcallS (call Ev) Fn.spec_l2Count [lv s0] fun v201 =>
  gV1 v201 fun x202 =>
  gI .i64 x202 fun i203 =>
  vcase (bv (decide (s3 < i203)))
  (pcallS (call Ev) Fn.spec_l2Size [lv s0, iv .i64 s3] fun v206 =>
  gV1 v206 fun x207 =>
  gI .i64 x207 fun i208 =>
  vcase (bv (i208 == 0))
  (some (.ret (iv .i64 s3) h))
  (Lp.spec_l2Empty 0 [lv s0, iv .i64 (IntKind.i64.wrap (s3 + 1))] (tidy h [lv s0, iv .i64 (IntKind.i64.wrap (s3 + 1))] h)))
  (some (.done [lv s0] (tidy h [lv s0] h))) := by
  unfold Lp.spec_l2Empty; rw [loop_eq]; kernel_rfl

noncomputable def Jn.spec_l2Put_0 (i125 : Int) (i126 : Int) (a0 : List (List S)) (a1 : List (List S)) (n : Nat) (i103 : Int) : Option (V × H) :=
  pcallS (call Ev) Fn.spec_l2Free [lv a0] fun v127 =>
  gV1 v127 fun x128 =>
  gI .i64 x128 fun i129 =>
  vcase (bv (decide (i129 < (IntKind.i64.wrap ((a1.length : Int) + i126)))))
  (some (.tup [.s (.sl none 0), .s (.int .i64 0), .s (.int .i64 9)], (D n)))
  (pcallS (call Ev) Fn.spec_l2Low [lv a0] fun v131 =>
  gV1 v131 fun x132 =>
  gI .i64 x132 fun i133 =>
  vcase (bv (decide ((IntKind.i64.wrap (i133 - (a1.length : Int))) < (IntKind.i64.wrap (2 + (IntKind.i64.wrap (2 * i125)))))))
  (some (.tup [.s (.sl none 0), .s (.int .i64 0), .s (.int .i64 8)], (D n)))
  (pcallF (call Ev) Fn.spec_l2Copy true [lv a0] (D n) fun v135 h136 =>
  idxK 1 v135 (iv .i64 0) fun v137 =>
  stK 1 h136 v137 (iv .u8 (IntKind.u8.wrap i125)) fun h138 =>
  idxK 1 v135 (iv .i64 1) fun v139 =>
  stK 1 h138 v139 (iv .u8 (IntKind.u8.wrap (IntKind.i64.wrap (i133 - (a1.length : Int))))) fun h140 =>
  (call Ev Fn.spec_l2Stand [v135, iv .i64 i103, iv .i64 (IntKind.i64.wrap (i133 - (a1.length : Int))), lv a1] h140).bind fun p141 =>
  (V.toA v135).bind fun t142 =>
  some (.tup [t142, .s (.int .i64 i103), .s (.int .i64 0)], tidy h140 [p141.1] p141.2)))

theorem eq_spec_l2Put (a0 : List (List S)) (a1 : List (List S)) (n : Nat) : call Ev Fn.spec_l2Put [lv a0, lv a1] (D n) =
  pcallS (call Ev) Fn.spec_l2Empty [lv a0] fun v101 =>
  gV1 v101 fun x102 =>
  gI .i64 x102 fun i103 =>
  pcallS (call Ev) Fn.spec_l2Count [lv a0] fun v104 =>
  gV1 v104 fun x105 =>
  gI .i64 x105 fun i106 =>
  vcase (bv (i103 == i106))
  (vcase (bv (decide (i106 ≥ 16)))
  (some (.tup [.s (.sl none 0), .s (.int .i64 0), .s (.int .i64 2)], (D n)))
  (Jn.spec_l2Put_0 (IntKind.i64.wrap (i106 + 1)) 2 a0 a1 n i103))
  (Jn.spec_l2Put_0 i106 0 a0 a1 n i103) := by
  rw [call_eq]; kernel_rfl

end Vm
