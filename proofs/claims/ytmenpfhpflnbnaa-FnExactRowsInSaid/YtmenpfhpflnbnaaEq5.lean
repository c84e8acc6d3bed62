/-
  What each function, and each round of each loop, comes to in the small machine. Written by a program (gen3.py).
-/
import Derived.Test.YtmenpfhpflnbnaaEnv
set_option linter.unusedVariables false
set_option maxRecDepth 100000
namespace Vm
open Go

theorem pu_laws_eqRow (a0_0 : Int) (a0_1 : Int) (a0_2 : Int) (a0_3 : ByteArray) (a1_0 : Int) (a1_1 : Int) (a1_2 : Int) (a1_3 : ByteArray) : pureV (call Ev) Fn.laws_eqRow [.agg [.int .i64 a0_0, .int .i64 a0_1, .int .i64 a0_2, .str a0_3], .agg [.int .i64 a1_0, .int .i64 a1_1, .int .i64 a1_2, .str a1_3]] =
  vcase (bv (a0_0 != a1_0))
  (some (bv false))
  (vcase (bv (a0_1 != a1_1))
  (some (bv false))
  (vcase (bv (a0_2 != a1_2))
  (some (bv false))
  (vcase (bv (!((a0_3 : ByteArray).toList == (a1_3 : ByteArray).toList)))
  (some (bv false))
  (some (bv true))))) := by
  rw [pure_eq]; kernel_rfl

theorem pu_spec_l1Before (a0_0 : Int) (a0_1 : Int) (a0_2 : Int) (a0_3 : ByteArray) (a1_0 : Int) (a1_1 : Int) (a1_2 : Int) (a1_3 : ByteArray) : pureV (call Ev) Fn.spec_l1Before [fv [.int .i64 a0_0, .int .i64 a0_1, .int .i64 a0_2, .str a0_3] 0, fv [.int .i64 a1_0, .int .i64 a1_1, .int .i64 a1_2, .str a1_3] 0] =
  vcase (bv (decide (a0_0 < a1_0)))
  (some (bv true))
  (vcase (bv (a0_0 == a1_0))
  (some (bv (decide (a0_1 < a1_1))))
  (some (bv false))) := by
  rw [pure_eq]; kernel_rfl

theorem pu_spec_l6Put (a0 : List (List S)) (a1_0 : Int) (a1_1 : Int) (a1_2 : Int) (a1_3 : ByteArray) : pureV (call Ev) Fn.spec_l6Put [lv a0, .agg [.int .i64 a1_0, .int .i64 a1_1, .int .i64 a1_2, .str a1_3]] =
  (Lp.spec_l6Put 0 [lv a0, pv 0 0, iv .i64 0] ((D 0).new 0 [.int .i64 a1_0, .int .i64 a1_1, .int .i64 a1_2, .str a1_3])).bind fun o101 => lcase o101 (fun l102 h103 =>
  (l102[0]?).bind fun w106 =>
  gV1 w106 fun x107 =>
  gF x107 fun z108 =>
  (l102[1]?).bind fun w109 =>
  (l102[2]?).bind fun w110 =>
  gV1 w110 fun x111 =>
  gI .i64 x111 fun i112 =>
  slF 4 z108 none (some (iv .i64 i112)) fun z113 =>
  (appS 4 (h103.new 4 []) (sv h103.n 0 0) (lv z113)).bind fun p114 =>
  ldK (.agg [.i .i64, .i .i64, .i .i64, .s]) ⟨4, 40, [.int .i64 0, .int .i64 0, .int .i64 0, .str ⟨#[]⟩], true, .st [(0, 2), (1, 2), (2, 2), (3, 9)], true⟩ p114.2 w109 fun v115 =>
  gVA v115 fun c116 =>
  (c116[0]?).bind fun x117 =>
  gI .i64 x117 fun i118 =>
  (c116[1]?).bind fun x119 =>
  gI .i64 x119 fun i120 =>
  (c116[2]?).bind fun x121 =>
  gI .i64 x121 fun i122 =>
  (c116[3]?).bind fun x123 =>
  gS x123 fun y124 =>
  if c116.length = 4 then
  slF 4 z108 (some (iv .i64 i112)) none fun z125 =>
  hchk p114.2 (p114.2.new 4 [.int .i64 i118, .int .i64 i120, .int .i64 i122, .str y124]) (
  (appS 4 (p114.2.new 4 [.int .i64 i118, .int .i64 i120, .int .i64 i122, .str y124]) p114.1 (sv p114.2.n 0 1)).bind fun p126 =>
  (appS 4 p126.2 p126.1 (lv z125)).bind fun p127 =>
  frzV p127.2 p127.1)
  else none) (fun v104 h105 =>
  frzV h105 v104) := by
  rw [pure_eq]; kernel_rfl

theorem eq_spec_l6Put_l0 (s0 : List (List S)) (s3 : V) (s5 : Int) (h : H) : Lp.spec_l6Put 0 [lv s0, s3, iv .i64 s5] h =
  vcase (bv (decide (s5 < (s0.length : Int))))
  (idxF 4 s0 s5 fun r202 =>
  (frzVs h [fv r202 0, s3]).bind fun l203 =>
  pcallS (call Ev) Fn.spec_l1Before (normVs [4, 4] l203) fun v204 =>
  gV1 v204 fun x205 =>
  gB x205 fun q206 =>
  vcase (bv q206)
  (Lp.spec_l6Put 0 [lv s0, s3, iv .i64 (IntKind.i64.wrap (s5 + 1))] (tidy h [lv s0, s3, iv .i64 (IntKind.i64.wrap (s5 + 1))] h))
  (some (.done [lv s0, s3, iv .i64 s5] (tidy h [lv s0, s3, iv .i64 s5] h))))
  (some (.done [lv s0, s3, iv .i64 s5] (tidy h [lv s0, s3, iv .i64 s5] h))) := by
  unfold Lp.spec_l6Put; rw [loop_eq]; kernel_rfl

theorem pu_spec_l6RowsIn (a0 : List (List S)) : pureV (call Ev) Fn.spec_l6RowsIn [lv a0] =
  (pureV (call Ev) Fn.spec_l6Seen [lv a0]).bind fun v101 =>
  gV1 v101 fun x102 =>
  gF x102 fun z103 =>
  (Lp.spec_l6RowsIn 0 [sv 0 0 0, lv z103, iv .i64 0] ((D 0).new 4 [])).bind fun o104 => lcase o104 (fun l105 h106 =>
  (l105[0]?).bind fun w109 =>
  frzV h106 w109) (fun v107 h108 =>
  frzV h108 v107) := by
  rw [pure_eq]; kernel_rfl

theorem eq_spec_l6RowsIn_l0 (s3 : V) (s4 : List (List S)) (s5 : Int) (h : H) : Lp.spec_l6RowsIn 0 [s3, lv s4, iv .i64 s5] h =
  vcase (bv (decide (s5 < (s4.length : Int))))
  (idxF 10 s4 s5 fun r203 =>
  (rowN 4 r203 6).bind fun c204 =>
  (c204[0]?).bind fun x205 =>
  gI .i64 x205 fun i206 =>
  (c204[1]?).bind fun x207 =>
  gI .i64 x207 fun i208 =>
  (c204[2]?).bind fun x209 =>
  gI .i64 x209 fun i210 =>
  (c204[3]?).bind fun x211 =>
  gS x211 fun y212 =>
  if c204.length = 4 then
  bif ([s3, .agg [.int .i64 i206, .int .i64 i208, .int .i64 i210, .str y212]].all offV) then
  (frzVs h [s3, .agg [.int .i64 i206, .int .i64 i208, .int .i64 i210, .str y212]]).bind fun l213 =>
  (pureV (call Ev) Fn.spec_l6Put (normVs [] l213)).bind fun v214 =>
  gV1 v214 fun x215 =>
  gF x215 fun z216 =>
  Lp.spec_l6RowsIn 0 [lv z216, lv s4, iv .i64 (IntKind.i64.wrap (s5 + 1))] (tidy h [lv z216, lv s4, iv .i64 (IntKind.i64.wrap (s5 + 1))] h)
  else none
  else none)
  (some (.done [s3] (tidy h [s3] h))) := by
  unfold Lp.spec_l6RowsIn; rw [loop_eq]; kernel_rfl

theorem pu_spec_RowsIn (a0 : List (List S)) : pureV (call Ev) Fn.spec_RowsIn [lv a0] =
  pcallS (call Ev) Fn.spec_l6Fault [lv a0] fun v101 =>
  gV1 v101 fun x102 =>
  gI .i64 x102 fun i103 =>
  vcase (bv (i103 != 0))
  (some (.agg [.int .i64 i103, .fs []]))
  ((pureV (call Ev) Fn.spec_l6RowsIn [lv a0]).bind fun v105 =>
  gV1 v105 fun x106 =>
  gF x106 fun z107 =>
  some (.agg [.int .i64 0, .fs z107])) := by
  rw [pure_eq]; kernel_rfl

theorem eq_impl_plain (a0 : List (List S)) (n : Nat) : call Ev Fn.impl_plain [lv a0] (D n) =
  (Lp.impl_plain 0 [.s (.sl none 0), lv a0, iv .i64 (a0.length : Int), iv .i64 0] (D n)).bind fun o101 => lcase o101 (fun l102 h103 =>
  (l102[0]?).bind fun w106 =>
  some (w106, h103)) (fun v104 h105 =>
  some (v104, h105)) := by
  rw [call_eq]; kernel_rfl

theorem eq_impl_plain_l0 (s3 : V) (s6 : List (List S)) (s7 : Int) (s8 : Int) (h : H) : Lp.impl_plain 0 [s3, lv s6, iv .i64 s7, iv .i64 s8] h =
  vcase (bv (decide (s8 < s7)))
  (idxF 9 s6 s8 fun r203 =>
  (rowN 9 r203 0).bind fun c204 =>
  (c204[0]?).bind fun x205 =>
  gI .i64 x205 fun i206 =>
  (c204[1]?).bind fun x207 =>
  gI .i64 x207 fun i208 =>
  (c204[2]?).bind fun x209 =>
  gI .i64 x209 fun i210 =>
  (c204[3]?).bind fun x211 =>
  gS x211 fun y212 =>
  (c204[4]?).bind fun x213 =>
  gI .i64 x213 fun i214 =>
  (c204[5]?).bind fun x215 =>
  gI .i64 x215 fun i216 =>
  (c204[6]?).bind fun x217 =>
  gB x217 fun q218 =>
  (c204[7]?).bind fun x219 =>
  gI .i64 x219 fun i220 =>
  (c204[8]?).bind fun x221 =>
  gI .i64 x221 fun i222 =>
  if c204.length = 9 then
  stK 9 (h.new 0 [.int .i64 0, .int .i64 0, .int .i64 0, .str (⟨#[]⟩), .int .i64 0, .int .i64 0, .bool false, .int .i64 0, .int .i64 0]) (pv h.n 0) (.agg [.int .i64 i206, .int .i64 i208, .int .i64 i210, .str y212, .int .i64 i214, .int .i64 i216, .bool q218, .int .i64 i220, .int .i64 i222]) fun h223 =>
  (loadN 4 h223 (pv h.n 0)).bind fun c224 =>
  (c224[0]?).bind fun x225 =>
  gI .i64 x225 fun i226 =>
  (c224[1]?).bind fun x227 =>
  gI .i64 x227 fun i228 =>
  (c224[2]?).bind fun x229 =>
  gI .i64 x229 fun i230 =>
  (c224[3]?).bind fun x231 =>
  gS x231 fun y232 =>
  if c224.length = 4 then
  (appS 4 (h223.new 4 [.int .i64 i226, .int .i64 i228, .int .i64 i230, .str y232]) s3 (sv h223.n 0 1)).bind fun p233 =>
  Lp.impl_plain 0 [p233.1, lv s6, iv .i64 s7, iv .i64 (IntKind.i64.wrap (s8 + 1))] (tidy h [p233.1, lv s6, iv .i64 s7, iv .i64 (IntKind.i64.wrap (s8 + 1))] p233.2)
  else none
  else none)
  (some (.done [s3] (tidy h [s3] h))) := by
  unfold Lp.impl_plain; rw [loop_eq]; kernel_rfl

theorem eq_impl_RowsIn (a0 : List (List S)) (n : Nat) : call Ev Fn.impl_RowsIn [lv a0] (D n) =
  pcallF (call Ev) Fn.impl_view true [lv a0] ((D n).new 0 [.int .i64 0, .sl none 0]) fun v101 h102 =>
  gVT v101 fun u103 =>
  (u103[0]?).bind fun t104 =>
  gA1 t104 fun x105 =>
  (u103[1]?).bind fun t106 =>
  gA1 t106 fun x107 =>
  gI .i64 x107 fun i108 =>
  if u103.length = 2 then
  vcase (bv (i108 != 0))
  (stK 2 h102 (pv ((D n).n) 0) (.agg [.int .i64 i108, .sl none 0]) fun h110 =>
  (loadN 2 h110 (pv ((D n).n) 0)).bind fun c111 =>
  some (.agg c111, h110))
  ((frzVs h102 [.s x105]).bind fun l112 =>
  pcallF (call Ev) Fn.impl_plain ([.s x105].all offV) (normVs [] l112) h102 fun v113 h114 =>
  cellsK v113 fun c115 =>
  if c115.length = 1 ∧ 1 + 1 ≤ ([.int .i64 0, .sl none 0] : List S).length then
  ((setAt ([.int .i64 0, .sl none 0] : List S) 1 c115)[0]?).bind fun x116 =>
  gI .i64 x116 fun i117 =>
  ((setAt ([.int .i64 0, .sl none 0] : List S) 1 c115)[1]?).bind fun x118 =>
  if (setAt ([.int .i64 0, .sl none 0] : List S) 1 c115).length = 2 then
  stK 2 h114 (pv ((D n).n) 0) (.agg [.int .i64 i117, x118]) fun h119 =>
  (loadN 2 h119 (pv ((D n).n) 0)).bind fun c120 =>
  some (.agg c120, h119)
  else none
  else none)
  else none := by
  rw [call_eq]; kernel_rfl

theorem pu_laws_eqRowS (a0 : List (List S)) (a1 : List (List S)) : pureV (call Ev) Fn.laws_eqRowS [lv a0, lv a1] =
  vcase (bv ((a0.length : Int) != (a1.length : Int)))
  (some (bv false))
  ((Lp.laws_eqRowS 0 [lv a0, lv a1, iv .i64 0] (D 0)).bind fun o102 => lcase o102 (fun l103 h104 =>
  some (bv true)) (fun v105 h106 =>
  frzV h106 v105)) := by
  rw [pure_eq]; kernel_rfl

theorem eq_laws_eqRowS_l0 (s0 : List (List S)) (s1 : List (List S)) (s5 : Int) (h : H) : Lp.laws_eqRowS 0 [lv s0, lv s1, iv .i64 s5] h =
  vcase (bv (decide (s5 < (s0.length : Int))))
  (idxF 4 s0 s5 fun r203 =>
  (rowN 4 r203 0).bind fun c204 =>
  (c204[0]?).bind fun x205 =>
  gI .i64 x205 fun i206 =>
  (c204[1]?).bind fun x207 =>
  gI .i64 x207 fun i208 =>
  (c204[2]?).bind fun x209 =>
  gI .i64 x209 fun i210 =>
  (c204[3]?).bind fun x211 =>
  gS x211 fun y212 =>
  if c204.length = 4 then
  idxF 4 s1 s5 fun r213 =>
  (rowN 4 r213 0).bind fun c214 =>
  (c214[0]?).bind fun x215 =>
  gI .i64 x215 fun i216 =>
  (c214[1]?).bind fun x217 =>
  gI .i64 x217 fun i218 =>
  (c214[2]?).bind fun x219 =>
  gI .i64 x219 fun i220 =>
  (c214[3]?).bind fun x221 =>
  gS x221 fun y222 =>
  if c214.length = 4 then
  pcallS (call Ev) Fn.laws_eqRow [.agg [.int .i64 i206, .int .i64 i208, .int .i64 i210, .str y212], .agg [.int .i64 i216, .int .i64 i218, .int .i64 i220, .str y222]] fun v223 =>
  gV1 v223 fun x224 =>
  gB x224 fun q225 =>
  hchk h h (
  vcase (bv (!q225))
  (some (.ret (bv false) h))
  (Lp.laws_eqRowS 0 [lv s0, lv s1, iv .i64 (IntKind.i64.wrap (s5 + 1))] (tidy h [lv s0, lv s1, iv .i64 (IntKind.i64.wrap (s5 + 1))] h)))
  else none
  else none)
  (some (.done [] (tidy h [] h))) := by
  unfold Lp.laws_eqRowS; rw [loop_eq]; kernel_rfl

theorem pu_laws_eqRowsResult (a0_0 : Int) (a0_1 : List (List S)) (a1_0 : Int) (a1_1 : List (List S)) : pureV (call Ev) Fn.laws_eqRowsResult [.agg [.int .i64 a0_0, .fs a0_1], .agg [.int .i64 a1_0, .fs a1_1]] =
  vcase (bv (a0_0 != a1_0))
  (some (bv false))
  (pcallS (call Ev) Fn.laws_eqRowS [lv a0_1, lv a1_1] fun v102 =>
  gV1 v102 fun x103 =>
  gB x103 fun q104 =>
  vcase (bv (!q104))
  (some (bv false))
  (some (bv true))) := by
  rw [pure_eq]; kernel_rfl

theorem eq_laws_markByteS (a0 : V) (a1 : Int) (h : H) : call Ev Fn.laws_markByteS [a0, iv .i64 a1] h =
  (Lp.laws_markByteS 0 [a0, iv .i64 a1, iv .i64 0] h).bind fun o101 => lcase o101 (fun l102 h103 =>
  (l102[0]?).bind fun w106 =>
  gV1 w106 fun x107 =>
  gI .i64 x107 fun i108 =>
  some (iv .i64 i108, h103)) (fun v104 h105 =>
  some (v104, h105)) := by
  rw [call_eq]; kernel_rfl

theorem eq_laws_markByteS_l0 (s0 : V) (s1 : Int) (s5 : Int) (h : H) : Lp.laws_markByteS 0 [s0, iv .i64 s1, iv .i64 s5] h =
  (lenV (.sl 5) s0).bind fun v201 =>
  gV1 v201 fun x202 =>
  gI .i64 x202 fun i203 =>
  vcase (bv (decide (s5 < i203)))
  (idxK 1 s0 (iv .i64 s5) fun v206 =>
  stK 1 h v206 (iv .u8 (IntKind.u8.wrap s1)) fun h207 =>
  Lp.laws_markByteS 0 [s0, iv .i64 (IntKind.i64.wrap (s1 + 1)), iv .i64 (IntKind.i64.wrap (s5 + 1))] (tidy h [s0, iv .i64 (IntKind.i64.wrap (s1 + 1)), iv .i64 (IntKind.i64.wrap (s5 + 1))] h207))
  (some (.done [iv .i64 s1] (tidy h [iv .i64 s1] h))) := by
  unfold Lp.laws_markByteS; rw [loop_eq]; kernel_rfl

theorem eq_laws_markByteSS (a0 : V) (a1 : Int) (h : H) : call Ev Fn.laws_markByteSS [a0, iv .i64 a1] h =
  (Lp.laws_markByteSS 0 [a0, iv .i64 a1, iv .i64 0] h).bind fun o101 => lcase o101 (fun l102 h103 =>
  (l102[0]?).bind fun w106 =>
  gV1 w106 fun x107 =>
  gI .i64 x107 fun i108 =>
  some (iv .i64 i108, h103)) (fun v104 h105 =>
  some (v104, h105)) := by
  rw [call_eq]; kernel_rfl

theorem eq_laws_markByteSS_l0 (s0 : V) (s1 : Int) (s5 : Int) (h : H) : Lp.laws_markByteSS 0 [s0, iv .i64 s1, iv .i64 s5] h =
  (lenV (.sl 64) s0).bind fun v201 =>
  gV1 v201 fun x202 =>
  gI .i64 x202 fun i203 =>
  vcase (bv (decide (s5 < i203)))
  (idxK 1 s0 (iv .i64 s5) fun v206 =>
  ldK (.one (.f)) ⟨1, 24, [.sl none 0], false, .sl 5, false⟩ h v206 fun v207 =>
  (call Ev Fn.laws_markByteS [v207, iv .i64 s1] h).bind fun p208 =>
  gV1 p208.1 fun x209 =>
  gI .i64 x209 fun i210 =>
  Lp.laws_markByteSS 0 [s0, iv .i64 i210, iv .i64 (IntKind.i64.wrap (s5 + 1))] (tidy h [s0, iv .i64 i210, iv .i64 (IntKind.i64.wrap (s5 + 1))] (tidy h [p208.1] p208.2)))
  (some (.done [iv .i64 s1] (tidy h [iv .i64 s1] h))) := by
  unfold Lp.laws_markByteSS; rw [loop_eq]; kernel_rfl

theorem pu_laws_markText (a0 : Int) : pureV (call Ev) Fn.laws_markText [iv .i64 a0] =
  vcase (bv (decide (a0 ≤ 0)))
  (some (.s (.str (⟨#[109, 48]⟩))))
  ((Lp.laws_markText 0 [iv .i64 a0, .s (.str (⟨#[]⟩))] (D 0)).bind fun o102 => lcase o102 (fun l103 h104 =>
  (l103[0]?).bind fun w107 =>
  gV1 w107 fun x108 =>
  gS x108 fun y109 =>
  (bin Ev .add 9 (.s (.str (⟨#[109]⟩))) (.s (.str y109))).bind fun b110 =>
  gV1 b110 fun x111 =>
  gS x111 fun y112 =>
  some (.s (.str y112))) (fun v105 h106 =>
  frzV h106 v105)) := by
  rw [pure_eq]; kernel_rfl

theorem eq_laws_markText_l0 (s0 : Int) (s3 : ByteArray) (h : H) : Lp.laws_markText 0 [iv .i64 s0, .s (.str s3)] h =
  vcase (bv (decide (s0 > 0)))
  ((bin Ev .rem 3 (iv .i64 s0) (iv .i64 10)).bind fun b203 =>
  gV1 b203 fun x204 =>
  gI .i64 x204 fun i205 =>
  (cvStr (h.new 1 [.int .u8 (IntKind.u8.wrap (IntKind.i64.wrap (48 + i205)))]) (sv h.n 0 1)).bind fun v206 =>
  gV1 v206 fun x207 =>
  gS x207 fun y208 =>
  (bin Ev .add 9 (.s (.str y208)) (.s (.str s3))).bind fun b209 =>
  gV1 b209 fun x210 =>
  gS x210 fun y211 =>
  (bin Ev .quo 3 (iv .i64 s0) (iv .i64 10)).bind fun b212 =>
  gV1 b212 fun x213 =>
  gI .i64 x213 fun i214 =>
  Lp.laws_markText 0 [iv .i64 i214, .s (.str y211)] (tidy h [iv .i64 i214, .s (.str y211)] (h.new 1 [.int .u8 (IntKind.u8.wrap (IntKind.i64.wrap (48 + i205)))])))
  (some (.done [.s (.str s3)] (tidy h [.s (.str s3)] h))) := by
  unfold Lp.laws_markText; rw [loop_eq]; kernel_rfl

theorem eq_laws_markRowS (a0 : V) (a1 : Int) (h : H) : call Ev Fn.laws_markRowS [a0, iv .i64 a1] h =
  (Lp.laws_markRowS 0 [a0, iv .i64 a1, iv .i64 0] h).bind fun o101 => lcase o101 (fun l102 h103 =>
  (l102[0]?).bind fun w106 =>
  gV1 w106 fun x107 =>
  gI .i64 x107 fun i108 =>
  some (iv .i64 i108, h103)) (fun v104 h105 =>
  some (v104, h105)) := by
  rw [call_eq]; kernel_rfl

theorem eq_laws_markRowS_l0 (s0 : V) (s1 : Int) (s5 : Int) (h : H) : Lp.laws_markRowS 0 [s0, iv .i64 s1, iv .i64 s5] h =
  (lenV (.sl 29) s0).bind fun v201 =>
  gV1 v201 fun x202 =>
  gI .i64 x202 fun i203 =>
  vcase (bv (decide (s5 < i203)))
  (idxK 4 s0 (iv .i64 s5) fun v206 =>
  (padd 0 v206).bind fun v207 =>
  stK 1 h v207 (iv .i64 s1) fun h208 =>
  idxK 4 s0 (iv .i64 s5) fun v209 =>
  (padd 1 v209).bind fun v210 =>
  stK 1 h208 v210 (iv .i64 (IntKind.i64.wrap (s1 + 1))) fun h211 =>
  idxK 4 s0 (iv .i64 s5) fun v212 =>
  (padd 2 v212).bind fun v213 =>
  stK 1 h211 v213 (iv .i64 (IntKind.i64.wrap ((IntKind.i64.wrap (s1 + 1)) + 1))) fun h214 =>
  pcallS (call Ev) Fn.laws_markText [iv .i64 (IntKind.i64.wrap ((IntKind.i64.wrap ((IntKind.i64.wrap (s1 + 1)) + 1)) + 1))] fun v215 =>
  gV1 v215 fun x216 =>
  gS x216 fun y217 =>
  idxK 4 s0 (iv .i64 s5) fun v218 =>
  (padd 3 v218).bind fun v219 =>
  stK 1 h214 v219 (.s (.str y217)) fun h220 =>
  Lp.laws_markRowS 0 [s0, iv .i64 (IntKind.i64.wrap ((IntKind.i64.wrap ((IntKind.i64.wrap ((IntKind.i64.wrap (s1 + 1)) + 1)) + 1)) + 1)), iv .i64 (IntKind.i64.wrap (s5 + 1))] (tidy h [s0, iv .i64 (IntKind.i64.wrap ((IntKind.i64.wrap ((IntKind.i64.wrap ((IntKind.i64.wrap (s1 + 1)) + 1)) + 1)) + 1)), iv .i64 (IntKind.i64.wrap (s5 + 1))] h220))
  (some (.done [iv .i64 s1] (tidy h [iv .i64 s1] h))) := by
  unfold Lp.laws_markRowS; rw [loop_eq]; kernel_rfl

theorem eq_laws_markRowsResult (a0_0 : Int) (a0_1 : S) (a1 : Int) (h : H) : call Ev Fn.laws_markRowsResult [.agg [.int .i64 a0_0, a0_1], iv .i64 a1] h =
  (load1 (h.new 0 [.int .i64 a0_0, a0_1]) (pv h.n 1)).bind fun x101 =>
  (call Ev Fn.laws_markRowS [.s x101, iv .i64 a1] (h.new 0 [.int .i64 a0_0, a0_1])).bind fun p102 =>
  gV1 p102.1 fun x103 =>
  gI .i64 x103 fun i104 =>
  some (iv .i64 i104, tidy (h.new 0 [.int .i64 a0_0, a0_1]) [p102.1] p102.2) := by
  rw [call_eq]; kernel_rfl

theorem pu_laws_heldRowS (a0 : List (List S)) (a1 : Int) : pureV (call Ev) Fn.laws_heldRowS [lv a0, iv .i64 a1] =
  (Lp.laws_heldRowS 0 [lv a0, iv .i64 a1, iv .i64 0] (D 0)).bind fun o101 => lcase o101 (fun l102 h103 =>
  (l102[0]?).bind fun w106 =>
  gV1 w106 fun x107 =>
  gI .i64 x107 fun i108 =>
  some (iv .i64 i108)) (fun v104 h105 =>
  frzV h105 v104) := by
  rw [pure_eq]; kernel_rfl

theorem eq_laws_heldRowS_l0 (s0 : List (List S)) (s1 : Int) (s5 : Int) (h : H) : Lp.laws_heldRowS 0 [lv s0, iv .i64 s1, iv .i64 s5] h =
  vcase (bv (decide (s5 < (s0.length : Int))))
  (idxF 4 s0 s5 fun r203 =>
  (r203[0]?).bind fun x204 =>
  gI .i64 x204 fun i205 =>
  vcase (bv (i205 != s1))
  (some (.ret (iv .i64 (-1)) h))
  (idxF 4 s0 s5 fun r207 =>
  (r207[1]?).bind fun x208 =>
  gI .i64 x208 fun i209 =>
  vcase (bv (i209 != (IntKind.i64.wrap (s1 + 1))))
  (some (.ret (iv .i64 (-1)) h))
  (idxF 4 s0 s5 fun r211 =>
  (r211[2]?).bind fun x212 =>
  gI .i64 x212 fun i213 =>
  vcase (bv (i213 != (IntKind.i64.wrap ((IntKind.i64.wrap (s1 + 1)) + 1))))
  (some (.ret (iv .i64 (-1)) h))
  (idxF 4 s0 s5 fun r215 =>
  (r215[3]?).bind fun x216 =>
  gS x216 fun y217 =>
  pcallS (call Ev) Fn.laws_markText [iv .i64 (IntKind.i64.wrap ((IntKind.i64.wrap ((IntKind.i64.wrap (s1 + 1)) + 1)) + 1))] fun v218 =>
  gV1 v218 fun x219 =>
  gS x219 fun y220 =>
  hchk h h (
  vcase (bv (!((y217 : ByteArray).toList == (y220 : ByteArray).toList)))
  (some (.ret (iv .i64 (-1)) h))
  (Lp.laws_heldRowS 0 [lv s0, iv .i64 (IntKind.i64.wrap ((IntKind.i64.wrap ((IntKind.i64.wrap ((IntKind.i64.wrap (s1 + 1)) + 1)) + 1)) + 1)), iv .i64 (IntKind.i64.wrap (s5 + 1))] (tidy h [lv s0, iv .i64 (IntKind.i64.wrap ((IntKind.i64.wrap ((IntKind.i64.wrap ((IntKind.i64.wrap (s1 + 1)) + 1)) + 1)) + 1)), iv .i64 (IntKind.i64.wrap (s5 + 1))] h)))))))
  (some (.done [iv .i64 s1] (tidy h [iv .i64 s1] h))) := by
  unfold Lp.laws_heldRowS; rw [loop_eq]; kernel_rfl

theorem pu_laws_heldRowsResult (a0_0 : Int) (a0_1 : List (List S)) (a1 : Int) : pureV (call Ev) Fn.laws_heldRowsResult [.agg [.int .i64 a0_0, .fs a0_1], iv .i64 a1] =
  pcallS (call Ev) Fn.laws_heldRowS [lv a0_1, iv .i64 a1] fun v101 =>
  gV1 v101 fun x102 =>
  gI .i64 x102 fun i103 =>
  vcase (bv (decide (i103 < 0)))
  (some (iv .i64 (-1)))
  (some (iv .i64 i103)) := by
  rw [pure_eq]; kernel_rfl

noncomputable def Jn.laws_FnExactRowsIn_0 (q215 : Bool) (h123 : H) (p145 : V × H) (h118 : H) (a0 : List (List S)) : Option (V) :=
  vcase (bv q215)
  (some (bv false))
  ((loadN 2 (tidy h123 [p145.1] p145.2) (pv h118.n 0)).bind fun c217 =>
  (c217[0]?).bind fun x218 =>
  gI .i64 x218 fun i219 =>
  (c217[1]?).bind fun x220 =>
  if c217.length = 2 then
  (call Ev Fn.laws_markRowsResult [.agg [.int .i64 i219, x220], iv .i64 1] (tidy h123 [p145.1] p145.2)).bind fun p221 =>
  gV1 p221.1 fun x222 =>
  gI .i64 x222 fun i223 =>
  (loadN 2 (tidy (tidy h123 [p145.1] p145.2) [p221.1] p221.2) (pv h118.n 0)).bind fun c224 =>
  (c224[0]?).bind fun x225 =>
  gI .i64 x225 fun i226 =>
  (c224[1]?).bind fun x227 =>
  if c224.length = 2 then
  (frzVs (tidy (tidy h123 [p145.1] p145.2) [p221.1] p221.2) [.agg [.int .i64 i226, x227], iv .i64 1]).bind fun l228 =>
  pcallS (call Ev) Fn.laws_heldRowsResult (normVs [] l228) fun v229 =>
  gV1 v229 fun x230 =>
  gI .i64 x230 fun i231 =>
  vcase (bv (decide (i231 < 0)))
  (some (bv false))
  (vcase (bv (i231 != i223))
  (some (bv false))
  ((pureV (call Ev) Fn.laws_toByteSS [lv a0]).bind fun v234 =>
  gV1 v234 fun x235 =>
  gF x235 fun z236 =>
  (pureV (call Ev) Fn.impl_RowsIn [lv z236]).bind fun v237 =>
  gVA v237 fun c238 =>
  (c238[0]?).bind fun x239 =>
  gI .i64 x239 fun i240 =>
  (c238[1]?).bind fun x241 =>
  gF x241 fun z242 =>
  if c238.length = 2 then
  stK 2 ((tidy (tidy h123 [p145.1] p145.2) [p221.1] p221.2).new 0 [.int .i64 0, .sl none 0]) (pv ((tidy (tidy h123 [p145.1] p145.2) [p221.1] p221.2).n) 0) (.agg [.int .i64 i240, .fs z242]) fun h243 =>
  (loadN 2 h243 (pv ((tidy (tidy h123 [p145.1] p145.2) [p221.1] p221.2).n) 0)).bind fun c244 =>
  (c244[0]?).bind fun x245 =>
  gI .i64 x245 fun i246 =>
  (c244[1]?).bind fun x247 =>
  if c244.length = 2 then
  (loadN 2 h243 (pv 0 0)).bind fun c248 =>
  (c248[0]?).bind fun x249 =>
  gI .i64 x249 fun i250 =>
  (c248[1]?).bind fun x251 =>
  if c248.length = 2 then
  (frzVs h243 [.agg [.int .i64 i246, x247], .agg [.int .i64 i250, x251]]).bind fun l252 =>
  pcallS (call Ev) Fn.laws_eqRowsResult (normVs [] l252) fun v253 =>
  gV1 v253 fun x254 =>
  gB x254 fun q255 =>
  vcase (bv (!q255))
  (some (bv false))
  ((loadN 2 h243 (pv h118.n 0)).bind fun c257 =>
  (c257[0]?).bind fun x258 =>
  gI .i64 x258 fun i259 =>
  (c257[1]?).bind fun x260 =>
  if c257.length = 2 then
  (frzVs h243 [.agg [.int .i64 i259, x260], iv .i64 1]).bind fun l261 =>
  pcallS (call Ev) Fn.laws_heldRowsResult (normVs [] l261) fun v262 =>
  gV1 v262 fun x263 =>
  gI .i64 x263 fun i264 =>
  vcase (bv (decide (i264 < 0)))
  (some (bv false))
  (vcase (bv (i264 != i223))
  (some (bv false))
  (some (bv true)))
  else none)
  else none
  else none
  else none))
  else none
  else none)

theorem pu_laws_FnExactRowsIn (a0 : List (List S)) : pureV (call Ev) Fn.laws_FnExactRowsIn [lv a0] =
  pcallS (call Ev) Fn.laws_szByteSS [lv a0, iv .i64 1048576] fun v101 =>
  gV1 v101 fun x102 =>
  gI .i64 x102 fun i103 =>
  vcase (bv (decide (i103 < 0)))
  (some (bv true))
  ((pureV (call Ev) Fn.laws_toByteSS [lv a0]).bind fun v105 =>
  gV1 v105 fun x106 =>
  gF x106 fun z107 =>
  (pureV (call Ev) Fn.spec_RowsIn [lv z107]).bind fun v108 =>
  gVA v108 fun c109 =>
  (c109[0]?).bind fun x110 =>
  gI .i64 x110 fun i111 =>
  (c109[1]?).bind fun x112 =>
  gF x112 fun z113 =>
  if c109.length = 2 then
  pcallF (call Ev) Fn.laws_toByteSS true [lv a0] (((D 0).new 0 [.int .i64 0, .sl none 0]).put 0 (.rw 0 [.int .i64 i111, .fs z113])) fun v114 h115 =>
  (frzVs h115 [v114]).bind fun l116 =>
  pcallF (call Ev) Fn.impl_RowsIn ([v114].all offV) (normVs [] l116) h115 fun v117 h118 =>
  gVA v117 fun c119 =>
  (c119[0]?).bind fun x120 =>
  gI .i64 x120 fun i121 =>
  (c119[1]?).bind fun x122 =>
  if c119.length = 2 then
  stK 2 (h118.new 0 [.int .i64 0, .sl none 0]) (pv h118.n 0) (.agg [.int .i64 i121, x122]) fun h123 =>
  (loadN 2 h123 (pv h118.n 0)).bind fun c124 =>
  (c124[0]?).bind fun x125 =>
  gI .i64 x125 fun i126 =>
  (c124[1]?).bind fun x127 =>
  if c124.length = 2 then
  (loadN 2 h123 (pv 0 0)).bind fun c128 =>
  (c128[0]?).bind fun x129 =>
  gI .i64 x129 fun i130 =>
  (c128[1]?).bind fun x131 =>
  if c128.length = 2 then
  (frzVs h123 [.agg [.int .i64 i126, x127], .agg [.int .i64 i130, x131]]).bind fun l132 =>
  pcallS (call Ev) Fn.laws_eqRowsResult (normVs [] l132) fun v133 =>
  gV1 v133 fun x134 =>
  gB x134 fun q135 =>
  vcase (bv (!q135))
  (some (bv false))
  ((pureV (call Ev) Fn.laws_toByteSS [lv a0]).bind fun v137 =>
  gV1 v137 fun x138 =>
  gF x138 fun z139 =>
  (frzVs h123 [v114, lv z139]).bind fun l140 =>
  pcallS (call Ev) Fn.laws_eqByteSS (normVs [] l140) fun v141 =>
  gV1 v141 fun x142 =>
  gB x142 fun q143 =>
  vcase (bv (!q143))
  (some (bv false))
  ((call Ev Fn.laws_markByteSS [v114, iv .i64 1] h123).bind fun p145 =>
  gV1 p145.1 fun x146 =>
  gI .i64 x146 fun i147 =>
  vcase (bv (decide (i147 < 0)))
  (Jn.laws_FnExactRowsIn_0 true h123 p145 h118 a0)
  ((loadN 2 (tidy h123 [p145.1] p145.2) (pv h118.n 0)).bind fun c150 =>
  (c150[0]?).bind fun x151 =>
  gI .i64 x151 fun i152 =>
  (c150[1]?).bind fun x153 =>
  if c150.length = 2 then
  (loadN 2 (tidy h123 [p145.1] p145.2) (pv 0 0)).bind fun c154 =>
  (c154[0]?).bind fun x155 =>
  gI .i64 x155 fun i156 =>
  (c154[1]?).bind fun x157 =>
  if c154.length = 2 then
  (frzVs (tidy h123 [p145.1] p145.2) [.agg [.int .i64 i152, x153], .agg [.int .i64 i156, x157]]).bind fun l158 =>
  pcallS (call Ev) Fn.laws_eqRowsResult (normVs [] l158) fun v159 =>
  gV1 v159 fun x160 =>
  gB x160 fun q161 =>
  Jn.laws_FnExactRowsIn_0 (!q161) h123 p145 h118 a0
  else none
  else none)))
  else none
  else none
  else none
  else none) := by
  rw [pure_eq]; kernel_rfl

end Vm
