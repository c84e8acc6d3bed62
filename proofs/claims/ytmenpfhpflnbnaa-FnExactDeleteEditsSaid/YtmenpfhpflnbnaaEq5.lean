/-
  What each function, and each round of each loop, comes to in the small machine. Written by a program (gen3.py).
-/
import Derived.Test.YtmenpfhpflnbnaaEnv
set_option linter.unusedVariables false
set_option maxRecDepth 100000
namespace Vm
open Go

theorem pu_spec_l6Find (a0 : List (List S)) (a1 : Int) (a2 : Int) : pureV (call Ev) Fn.spec_l6Find [lv a0, iv .i64 a1, iv .i64 a2] =
  (pureV (call Ev) Fn.spec_l6Seen [lv a0]).bind fun v101 =>
  gV1 v101 fun x102 =>
  gF x102 fun z103 =>
  (Lp.spec_l6Find 0 [iv .i64 a1, iv .i64 a2, pv 0 0, lv z103, iv .i64 0] ((D 0).new 0 [.int .i64 0, .int .i64 0, .int .i64 0, .int .i64 0, .int .i64 0, .int .i64 0, .int .i64 0, .int .i64 0, .int .i64 0, .str (⟨#[]⟩)])).bind fun o104 => lcase o104 (fun l105 h106 =>
  (l105[0]?).bind fun w109 =>
  stK 10 h106 w109 (.agg [.int .i64 0, .int .i64 0, .int .i64 0, .int .i64 0, .int .i64 0, .int .i64 0, .int .i64 0, .int .i64 0, .int .i64 0, .str (⟨#[]⟩)]) fun h110 =>
  ldT ⟨10, 88, [.int .i64 0, .int .i64 0, .int .i64 0, .int .i64 0, .int .i64 0, .int .i64 0, .int .i64 0, .int .i64 0, .int .i64 0, .str ⟨#[]⟩], true, .st [(0, 2), (1, 2), (2, 82)], true⟩ h110 w109 fun v111 =>
  (V.toA v111).bind fun t112 =>
  frzV h110 (.tup [t112, .s (.bool false)])) (fun v107 h108 =>
  frzV h108 v107) := by
  rw [pure_eq]; kernel_rfl

noncomputable def Jn.spec_l6Find_l0_0 (q238 : Bool) (s8 : List (List S)) (s9 : Int) (h : H) (s6 : V) (s1 : Int) (s2 : Int) : Option (LOut) :=
  vcase (bv q238)
  (idxF 10 s8 s9 fun r240 =>
  (rowN 10 r240 0).bind fun c241 =>
  (c241[0]?).bind fun x242 =>
  gI .i64 x242 fun i243 =>
  (c241[1]?).bind fun x244 =>
  gI .i64 x244 fun i245 =>
  (c241[2]?).bind fun x246 =>
  gI .i64 x246 fun i247 =>
  (c241[3]?).bind fun x248 =>
  gI .i64 x248 fun i249 =>
  (c241[4]?).bind fun x250 =>
  gI .i64 x250 fun i251 =>
  (c241[5]?).bind fun x252 =>
  gI .i64 x252 fun i253 =>
  (c241[6]?).bind fun x254 =>
  gI .i64 x254 fun i255 =>
  (c241[7]?).bind fun x256 =>
  gI .i64 x256 fun i257 =>
  (c241[8]?).bind fun x258 =>
  gI .i64 x258 fun i259 =>
  (c241[9]?).bind fun x260 =>
  gS x260 fun y261 =>
  if c241.length = 10 then
  stK 10 h s6 (.agg [.int .i64 i243, .int .i64 i245, .int .i64 i247, .int .i64 i249, .int .i64 i251, .int .i64 i253, .int .i64 i255, .int .i64 i257, .int .i64 i259, .str y261]) fun h262 =>
  ldT ⟨10, 88, [.int .i64 0, .int .i64 0, .int .i64 0, .int .i64 0, .int .i64 0, .int .i64 0, .int .i64 0, .int .i64 0, .int .i64 0, .str ⟨#[]⟩], true, .st [(0, 2), (1, 2), (2, 82)], true⟩ h262 s6 fun v263 =>
  (V.toA v263).bind fun t264 =>
  some (.ret (.tup [t264, .s (.bool true)]) h262)
  else none)
  (Lp.spec_l6Find 0 [iv .i64 s1, iv .i64 s2, s6, lv s8, iv .i64 (IntKind.i64.wrap (s9 + 1))] (tidy h [iv .i64 s1, iv .i64 s2, s6, lv s8, iv .i64 (IntKind.i64.wrap (s9 + 1))] h))

theorem eq_spec_l6Find_l0 (s1 : Int) (s2 : Int) (s6 : V) (s8 : List (List S)) (s9 : Int) (h : H) : Lp.spec_l6Find 0 [iv .i64 s1, iv .i64 s2, s6, lv s8, iv .i64 s9] h =
  vcase (bv (decide (s9 < (s8.length : Int))))
  (idxF 10 s8 s9 fun r203 =>
  (r203[6]?).bind fun x204 =>
  gI .i64 x204 fun i205 =>
  vcase (bv (i205 == s1))
  (idxF 10 s8 s9 fun r207 =>
  (r207[7]?).bind fun x208 =>
  gI .i64 x208 fun i209 =>
  Jn.spec_l6Find_l0_0 (i209 == s2) s8 s9 h s6 s1 s2)
  (Jn.spec_l6Find_l0_0 false s8 s9 h s6 s1 s2))
  (some (.done [s6] (tidy h [s6] h))) := by
  unfold Lp.spec_l6Find; rw [loop_eq]; kernel_rfl

theorem pu_impl_isKey (a0 : Int) (a1 : Int) : pureV (call Ev) Fn.impl_isKey [iv .i64 a0, iv .i64 a1] =
  pcallS (call Ev) Fn.impl_in [iv .i64 a0, iv .i64 0, iv .i64 3] fun v101 =>
  gV1 v101 fun x102 =>
  gB x102 fun q103 =>
  vcase (bv q103)
  (pcallS (call Ev) Fn.impl_in [iv .i64 a1, iv .i64 1, iv .i64 99] fun v105 =>
  gV1 v105 fun x106 =>
  gB x106 fun q107 =>
  some (bv q107))
  (some (bv false)) := by
  rw [pure_eq]; kernel_rfl

theorem pu_impl_find (a0 : List (List S)) (a1 : Int) (a2 : Int) : pureV (call Ev) Fn.impl_find [lv a0, iv .i64 a1, iv .i64 a2] =
  (Lp.impl_find 0 [iv .i64 a1, iv .i64 a2, pv 0 0, lv a0, iv .i64 (a0.length : Int), iv .i64 0] ((D 0).new 0 [.int .i64 0, .int .i64 0, .int .i64 0, .str (⟨#[]⟩), .int .i64 0, .int .i64 0, .bool false, .int .i64 0, .int .i64 0])).bind fun o101 => lcase o101 (fun l102 h103 =>
  (l102[0]?).bind fun w106 =>
  stK 9 h103 w106 (.agg [.int .i64 0, .int .i64 0, .int .i64 0, .str (⟨#[]⟩), .int .i64 0, .int .i64 0, .bool false, .int .i64 0, .int .i64 0]) fun h107 =>
  ldT ⟨9, 80, [.int .i64 0, .int .i64 0, .int .i64 0, .str ⟨#[]⟩, .int .i64 0, .int .i64 0, .bool false, .int .i64 0, .int .i64 0], true, .st [(0, 29), (4, 3), (5, 3), (6, 4), (7, 3), (8, 3)], true⟩ h107 w106 fun v108 =>
  (V.toA v108).bind fun t109 =>
  frzV h107 (.tup [t109, .s (.bool false)])) (fun v104 h105 =>
  frzV h105 v104) := by
  rw [pure_eq]; kernel_rfl

noncomputable def Jn.impl_find_l0_0 (q254 : Bool) (h223 : H) (h : H) (s6 : V) (s1 : Int) (s2 : Int) (s10 : List (List S)) (s11 : Int) (s12 : Int) : Option (LOut) :=
  vcase (bv q254)
  ((loadN 9 h223 (pv h.n 0)).bind fun c256 =>
  (c256[0]?).bind fun x257 =>
  gI .i64 x257 fun i258 =>
  (c256[1]?).bind fun x259 =>
  gI .i64 x259 fun i260 =>
  (c256[2]?).bind fun x261 =>
  gI .i64 x261 fun i262 =>
  (c256[3]?).bind fun x263 =>
  gS x263 fun y264 =>
  (c256[4]?).bind fun x265 =>
  gI .i64 x265 fun i266 =>
  (c256[5]?).bind fun x267 =>
  gI .i64 x267 fun i268 =>
  (c256[6]?).bind fun x269 =>
  gB x269 fun q270 =>
  (c256[7]?).bind fun x271 =>
  gI .i64 x271 fun i272 =>
  (c256[8]?).bind fun x273 =>
  gI .i64 x273 fun i274 =>
  if c256.length = 9 then
  stK 9 h223 s6 (.agg [.int .i64 i258, .int .i64 i260, .int .i64 i262, .str y264, .int .i64 i266, .int .i64 i268, .bool q270, .int .i64 i272, .int .i64 i274]) fun h275 =>
  ldT ⟨9, 80, [.int .i64 0, .int .i64 0, .int .i64 0, .str ⟨#[]⟩, .int .i64 0, .int .i64 0, .bool false, .int .i64 0, .int .i64 0], true, .st [(0, 29), (4, 3), (5, 3), (6, 4), (7, 3), (8, 3)], true⟩ h275 s6 fun v276 =>
  (V.toA v276).bind fun t277 =>
  some (.ret (.tup [t277, .s (.bool true)]) h275)
  else none)
  (Lp.impl_find 0 [iv .i64 s1, iv .i64 s2, s6, lv s10, iv .i64 s11, iv .i64 (IntKind.i64.wrap (s12 + 1))] (tidy h [iv .i64 s1, iv .i64 s2, s6, lv s10, iv .i64 s11, iv .i64 (IntKind.i64.wrap (s12 + 1))] h223))

theorem eq_impl_find_l0 (s1 : Int) (s2 : Int) (s6 : V) (s10 : List (List S)) (s11 : Int) (s12 : Int) (h : H) : Lp.impl_find 0 [iv .i64 s1, iv .i64 s2, s6, lv s10, iv .i64 s11, iv .i64 s12] h =
  vcase (bv (decide (s12 < s11)))
  (idxF 9 s10 s12 fun r203 =>
  (rowN 9 r203 0).bind fun c204 =>
  (c204[0]?).bind fun x205 =>
  gI .i64 x205 fun i206 =>
  (c204[1]?).bind fun x207 =>
  gI .i64 x207 fun i208 =>
  (c204[2]?).bind fun x209 =>
  gI .i64 x209 fun i210 =>
  (c204[3]?).bind fun x211 =>
  gS x211 fun y212 =>
  (c204[4]?).bind fun x213 =>
  gI .i64 x213 fun i214 =>
  (c204[5]?).bind fun x215 =>
  gI .i64 x215 fun i216 =>
  (c204[6]?).bind fun x217 =>
  gB x217 fun q218 =>
  (c204[7]?).bind fun x219 =>
  gI .i64 x219 fun i220 =>
  (c204[8]?).bind fun x221 =>
  gI .i64 x221 fun i222 =>
  if c204.length = 9 then
  stK 9 (h.new 0 [.int .i64 0, .int .i64 0, .int .i64 0, .str (⟨#[]⟩), .int .i64 0, .int .i64 0, .bool false, .int .i64 0, .int .i64 0]) (pv h.n 0) (.agg [.int .i64 i206, .int .i64 i208, .int .i64 i210, .str y212, .int .i64 i214, .int .i64 i216, .bool q218, .int .i64 i220, .int .i64 i222]) fun h223 =>
  (load1 h223 (pv h.n 0)).bind fun x224 =>
  gI .i64 x224 fun i225 =>
  vcase (bv (i225 == s1))
  ((load1 h223 (pv h.n 1)).bind fun x227 =>
  gI .i64 x227 fun i228 =>
  Jn.impl_find_l0_0 (i228 == s2) h223 h s6 s1 s2 s10 s11 s12)
  (Jn.impl_find_l0_0 false h223 h s6 s1 s2 s10 s11 s12)
  else none)
  (some (.done [s6] (tidy h [s6] h))) := by
  unfold Lp.impl_find; rw [loop_eq]; kernel_rfl

theorem eq_laws_markByteS (a0 : V) (a1 : Int) (h : H) : call Ev Fn.laws_markByteS [a0, iv .i64 a1] h =
  (Lp.laws_markByteS 0 [a0, iv .i64 a1, iv .i64 0] h).bind fun o101 => lcase o101 (fun l102 h103 =>
  (l102[0]?).bind fun w106 =>
  gV1 w106 fun x107 =>
  gI .i64 x107 fun i108 =>
  some (iv .i64 i108, h103)) (fun v104 h105 =>
  some (v104, h105)) := by
  rw [call_eq]; kernel_rfl

theorem eq_laws_markByteS_l0 (s0 : V) (s1 : Int) (s5 : Int) (h : H) : Lp.laws_markByteS 0 [s0, iv .i64 s1, iv .i64 s5] h =
  (lenV (.sl 5) s0).bind fun v201 =>
  gV1 v201 fun x202 =>
  gI .i64 x202 fun i203 =>
  vcase (bv (decide (s5 < i203)))
  (idxK 1 s0 (iv .i64 s5) fun v206 =>
  stK 1 h v206 (iv .u8 (IntKind.u8.wrap s1)) fun h207 =>
  Lp.laws_markByteS 0 [s0, iv .i64 (IntKind.i64.wrap (s1 + 1)), iv .i64 (IntKind.i64.wrap (s5 + 1))] (tidy h [s0, iv .i64 (IntKind.i64.wrap (s1 + 1)), iv .i64 (IntKind.i64.wrap (s5 + 1))] h207))
  (some (.done [iv .i64 s1] (tidy h [iv .i64 s1] h))) := by
  unfold Lp.laws_markByteS; rw [loop_eq]; kernel_rfl

theorem eq_laws_markByteSS (a0 : V) (a1 : Int) (h : H) : call Ev Fn.laws_markByteSS [a0, iv .i64 a1] h =
  (Lp.laws_markByteSS 0 [a0, iv .i64 a1, iv .i64 0] h).bind fun o101 => lcase o101 (fun l102 h103 =>
  (l102[0]?).bind fun w106 =>
  gV1 w106 fun x107 =>
  gI .i64 x107 fun i108 =>
  some (iv .i64 i108, h103)) (fun v104 h105 =>
  some (v104, h105)) := by
  rw [call_eq]; kernel_rfl

theorem eq_laws_markByteSS_l0 (s0 : V) (s1 : Int) (s5 : Int) (h : H) : Lp.laws_markByteSS 0 [s0, iv .i64 s1, iv .i64 s5] h =
  (lenV (.sl 64) s0).bind fun v201 =>
  gV1 v201 fun x202 =>
  gI .i64 x202 fun i203 =>
  vcase (bv (decide (s5 < i203)))
  (idxK 1 s0 (iv .i64 s5) fun v206 =>
  ldK (.one (.f)) ⟨1, 24, [.sl none 0], false, .sl 5, false⟩ h v206 fun v207 =>
  (call Ev Fn.laws_markByteS [v207, iv .i64 s1] h).bind fun p208 =>
  gV1 p208.1 fun x209 =>
  gI .i64 x209 fun i210 =>
  Lp.laws_markByteSS 0 [s0, iv .i64 i210, iv .i64 (IntKind.i64.wrap (s5 + 1))] (tidy h [s0, iv .i64 i210, iv .i64 (IntKind.i64.wrap (s5 + 1))] (tidy h [p208.1] p208.2)))
  (some (.done [iv .i64 s1] (tidy h [iv .i64 s1] h))) := by
  unfold Lp.laws_markByteSS; rw [loop_eq]; kernel_rfl

end Vm
