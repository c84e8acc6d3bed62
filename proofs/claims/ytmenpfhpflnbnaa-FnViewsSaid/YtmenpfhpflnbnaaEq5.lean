/-
  What each function, and each round of each loop, comes to in the small machine. Written by a program (gen3.py).
-/
import Derived.Test.YtmenpfhpflnbnaaEnv
set_option linter.unusedVariables false
set_option maxRecDepth 100000
namespace Vm
open Go

theorem pu_spec_l6Find (a0 : List (List S)) (a1 : Int) (a2 : Int) : pureV (call Ev) Fn.spec_l6Find [lv a0, iv .i64 a1, iv .i64 a2] =
  (pureV (call Ev) Fn.spec_l6Seen [lv a0]).bind fun v101 =>
  gV1 v101 fun x102 =>
  gF x102 fun z103 =>
  (Lp.spec_l6Find 0 [iv .i64 a1, iv .i64 a2, pv 0 0, lv z103, iv .i64 0] ((D 0).new 0 [.int .i64 0, .int .i64 0, .int .i64 0, .int .i64 0, .int .i64 0, .int .i64 0, .int .i64 0, .int .i64 0, .int .i64 0, .str (⟨#[]⟩)])).bind fun o104 => lcase o104 (fun l105 h106 =>
  (l105[0]?).bind fun w109 =>
  stK 10 h106 w109 (.agg [.int .i64 0, .int .i64 0, .int .i64 0, .int .i64 0, .int .i64 0, .int .i64 0, .int .i64 0, .int .i64 0, .int .i64 0, .str (⟨#[]⟩)]) fun h110 =>
  ldT ⟨10, 88, [.int .i64 0, .int .i64 0, .int .i64 0, .int .i64 0, .int .i64 0, .int .i64 0, .int .i64 0, .int .i64 0, .int .i64 0, .str ⟨#[]⟩], true, .st [(0, 2), (1, 2), (2, 82)], true⟩ h110 w109 fun v111 =>
  (V.toA v111).bind fun t112 =>
  frzV h110 (.tup [t112, .s (.bool false)])) (fun v107 h108 =>
  frzV h108 v107) := by
  rw [pure_eq]; kernel_rfl

noncomputable def Jn.spec_l6Find_l0_0 (q238 : Bool) (s8 : List (List S)) (s9 : Int) (h : H) (s6 : V) (s1 : Int) (s2 : Int) : Option (LOut) :=
  vcase (bv q238)
  (idxF 10 s8 s9 fun r240 =>
  (rowN 10 r240 0).bind fun c241 =>
  (c241[0]?).bind fun x242 =>
  gI .i64 x242 fun i243 =>
  (c241[1]?).bind fun x244 =>
  gI .i64 x244 fun i245 =>
  (c241[2]?).bind fun x246 =>
  gI .i64 x246 fun i247 =>
  (c241[3]?).bind fun x248 =>
  gI .i64 x248 fun i249 =>
  (c241[4]?).bind fun x250 =>
  gI .i64 x250 fun i251 =>
  (c241[5]?).bind fun x252 =>
  gI .i64 x252 fun i253 =>
  (c241[6]?).bind fun x254 =>
  gI .i64 x254 fun i255 =>
  (c241[7]?).bind fun x256 =>
  gI .i64 x256 fun i257 =>
  (c241[8]?).bind fun x258 =>
  gI .i64 x258 fun i259 =>
  (c241[9]?).bind fun x260 =>
  gS x260 fun y261 =>
  if c241.length = 10 then
  stK 10 h s6 (.agg [.int .i64 i243, .int .i64 i245, .int .i64 i247, .int .i64 i249, .int .i64 i251, .int .i64 i253, .int .i64 i255, .int .i64 i257, .int .i64 i259, .str y261]) fun h262 =>
  ldT ⟨10, 88, [.int .i64 0, .int .i64 0, .int .i64 0, .int .i64 0, .int .i64 0, .int .i64 0, .int .i64 0, .int .i64 0, .int .i64 0, .str ⟨#[]⟩], true, .st [(0, 2), (1, 2), (2, 82)], true⟩ h262 s6 fun v263 =>
  (V.toA v263).bind fun t264 =>
  some (.ret (.tup [t264, .s (.bool true)]) h262)
  else none)
  (Lp.spec_l6Find 0 [iv .i64 s1, iv .i64 s2, s6, lv s8, iv .i64 (IntKind.i64.wrap (s9 + 1))] (tidy h [iv .i64 s1, iv .i64 s2, s6, lv s8, iv .i64 (IntKind.i64.wrap (s9 + 1))] h))

theorem eq_spec_l6Find_l0 (s1 : Int) (s2 : Int) (s6 : V) (s8 : List (List S)) (s9 : Int) (h : H) : Lp.spec_l6Find 0 [iv .i64 s1, iv .i64 s2, s6, lv s8, iv .i64 s9] h =
  vcase (bv (decide (s9 < (s8.length : Int))))
  (idxF 10 s8 s9 fun r203 =>
  (r203[6]?).bind fun x204 =>
  gI .i64 x204 fun i205 =>
  vcase (bv (i205 == s1))
  (idxF 10 s8 s9 fun r207 =>
  (r207[7]?).bind fun x208 =>
  gI .i64 x208 fun i209 =>
  Jn.spec_l6Find_l0_0 (i209 == s2) s8 s9 h s6 s1 s2)
  (Jn.spec_l6Find_l0_0 false s8 s9 h s6 s1 s2))
  (some (.done [s6] (tidy h [s6] h))) := by
  unfold Lp.spec_l6Find; rw [loop_eq]; kernel_rfl

noncomputable def Jn.spec_FindRow_0 (q144 : Bool) (a0 : List (List S)) (a1 : Int) (a2 : Int) : Option (V) :=
  vcase (bv q144)
  (some (.agg [.int .i64 3, .int .i64 0, .int .i64 0, .int .i64 0, .int .i64 0, .int .i64 0, .str (⟨#[]⟩)]))
  (pcallS (call Ev) Fn.spec_l6Find [lv a0, iv .i64 a1, iv .i64 a2] fun v146 =>
  gVT v146 fun u147 =>
  (u147[0]?).bind fun t148 =>
  gAA t148 fun c149 =>
  (c149[0]?).bind fun x150 =>
  gI .i64 x150 fun i151 =>
  (c149[1]?).bind fun x152 =>
  gI .i64 x152 fun i153 =>
  (c149[2]?).bind fun x154 =>
  gI .i64 x154 fun i155 =>
  (c149[3]?).bind fun x156 =>
  gI .i64 x156 fun i157 =>
  (c149[4]?).bind fun x158 =>
  gI .i64 x158 fun i159 =>
  (c149[5]?).bind fun x160 =>
  gI .i64 x160 fun i161 =>
  (c149[6]?).bind fun x162 =>
  gI .i64 x162 fun i163 =>
  (c149[7]?).bind fun x164 =>
  gI .i64 x164 fun i165 =>
  (c149[8]?).bind fun x166 =>
  gI .i64 x166 fun i167 =>
  (c149[9]?).bind fun x168 =>
  gS x168 fun y169 =>
  if c149.length = 10 then
  (u147[1]?).bind fun t170 =>
  gA1 t170 fun x171 =>
  gB x171 fun q172 =>
  if u147.length = 2 then
  vcase (bv (!q172))
  (some (.agg [.int .i64 4, .int .i64 0, .int .i64 0, .int .i64 0, .int .i64 0, .int .i64 0, .str (⟨#[]⟩)]))
  (some (.agg [.int .i64 0, .int .i64 i151, .int .i64 i153, .int .i64 i163, .int .i64 i165, .int .i64 i167, .str y169]))
  else none
  else none)

theorem pu_spec_FindRow (a0 : List (List S)) (a1 : Int) (a2 : Int) : pureV (call Ev) Fn.spec_FindRow [lv a0, iv .i64 a1, iv .i64 a2] =
  pcallS (call Ev) Fn.spec_l6Fault [lv a0] fun v101 =>
  gV1 v101 fun x102 =>
  gI .i64 x102 fun i103 =>
  vcase (bv (i103 != 0))
  (some (.agg [.int .i64 i103, .int .i64 0, .int .i64 0, .int .i64 0, .int .i64 0, .int .i64 0, .str (⟨#[]⟩)]))
  (pcallS (call Ev) Fn.spec_l1In [iv .i64 a1, iv .i64 0, iv .i64 3] fun v105 =>
  gV1 v105 fun x106 =>
  gB x106 fun q107 =>
  vcase (bv (!q107))
  (Jn.spec_FindRow_0 true a0 a1 a2)
  (pcallS (call Ev) Fn.spec_l1In [iv .i64 a2, iv .i64 1, iv .i64 99] fun v110 =>
  gV1 v110 fun x111 =>
  gB x111 fun q112 =>
  Jn.spec_FindRow_0 (!q112) a0 a1 a2)) := by
  rw [pure_eq]; kernel_rfl

theorem pu_impl_isKey (a0 : Int) (a1 : Int) : pureV (call Ev) Fn.impl_isKey [iv .i64 a0, iv .i64 a1] =
  pcallS (call Ev) Fn.impl_in [iv .i64 a0, iv .i64 0, iv .i64 3] fun v101 =>
  gV1 v101 fun x102 =>
  gB x102 fun q103 =>
  vcase (bv q103)
  (pcallS (call Ev) Fn.impl_in [iv .i64 a1, iv .i64 1, iv .i64 99] fun v105 =>
  gV1 v105 fun x106 =>
  gB x106 fun q107 =>
  some (bv q107))
  (some (bv false)) := by
  rw [pure_eq]; kernel_rfl

theorem pu_impl_find (a0 : List (List S)) (a1 : Int) (a2 : Int) : pureV (call Ev) Fn.impl_find [lv a0, iv .i64 a1, iv .i64 a2] =
  (Lp.impl_find 0 [iv .i64 a1, iv .i64 a2, pv 0 0, lv a0, iv .i64 (a0.length : Int), iv .i64 0] ((D 0).new 0 [.int .i64 0, .int .i64 0, .int .i64 0, .str (⟨#[]⟩), .int .i64 0, .int .i64 0, .bool false, .int .i64 0, .int .i64 0])).bind fun o101 => lcase o101 (fun l102 h103 =>
  (l102[0]?).bind fun w106 =>
  stK 9 h103 w106 (.agg [.int .i64 0, .int .i64 0, .int .i64 0, .str (⟨#[]⟩), .int .i64 0, .int .i64 0, .bool false, .int .i64 0, .int .i64 0]) fun h107 =>
  ldT ⟨9, 80, [.int .i64 0, .int .i64 0, .int .i64 0, .str ⟨#[]⟩, .int .i64 0, .int .i64 0, .bool false, .int .i64 0, .int .i64 0], true, .st [(0, 29), (4, 3), (5, 3), (6, 4), (7, 3), (8, 3)], true⟩ h107 w106 fun v108 =>
  (V.toA v108).bind fun t109 =>
  frzV h107 (.tup [t109, .s (.bool false)])) (fun v104 h105 =>
  frzV h105 v104) := by
  rw [pure_eq]; kernel_rfl

noncomputable def Jn.impl_find_l0_0 (q254 : Bool) (h223 : H) (h : H) (s6 : V) (s1 : Int) (s2 : Int) (s10 : List (List S)) (s11 : Int) (s12 : Int) : Option (LOut) :=
  vcase (bv q254)
  ((loadN 9 h223 (pv h.n 0)).bind fun c256 =>
  (c256[0]?).bind fun x257 =>
  gI .i64 x257 fun i258 =>
  (c256[1]?).bind fun x259 =>
  gI .i64 x259 fun i260 =>
  (c256[2]?).bind fun x261 =>
  gI .i64 x261 fun i262 =>
  (c256[3]?).bind fun x263 =>
  gS x263 fun y264 =>
  (c256[4]?).bind fun x265 =>
  gI .i64 x265 fun i266 =>
  (c256[5]?).bind fun x267 =>
  gI .i64 x267 fun i268 =>
  (c256[6]?).bind fun x269 =>
  gB x269 fun q270 =>
  (c256[7]?).bind fun x271 =>
  gI .i64 x271 fun i272 =>
  (c256[8]?).bind fun x273 =>
  gI .i64 x273 fun i274 =>
  if c256.length = 9 then
  stK 9 h223 s6 (.agg [.int .i64 i258, .int .i64 i260, .int .i64 i262, .str y264, .int .i64 i266, .int .i64 i268, .bool q270, .int .i64 i272, .int .i64 i274]) fun h275 =>
  ldT ⟨9, 80, [.int .i64 0, .int .i64 0, .int .i64 0, .str ⟨#[]⟩, .int .i64 0, .int .i64 0, .bool false, .int .i64 0, .int .i64 0], true, .st [(0, 29), (4, 3), (5, 3), (6, 4), (7, 3), (8, 3)], true⟩ h275 s6 fun v276 =>
  (V.toA v276).bind fun t277 =>
  some (.ret (.tup [t277, .s (.bool true)]) h275)
  else none)
  (Lp.impl_find 0 [iv .i64 s1, iv .i64 s2, s6, lv s10, iv .i64 s11, iv .i64 (IntKind.i64.wrap (s12 + 1))] (tidy h [iv .i64 s1, iv .i64 s2, s6, lv s10, iv .i64 s11, iv .i64 (IntKind.i64.wrap (s12 + 1))] h223))

theorem eq_impl_find_l0 (s1 : Int) (s2 : Int) (s6 : V) (s10 : List (List S)) (s11 : Int) (s12 : Int) (h : H) : Lp.impl_find 0 [iv .i64 s1, iv .i64 s2, s6, lv s10, iv .i64 s11, iv .i64 s12] h =
  vcase (bv (decide (s12 < s11)))
  (idxF 9 s10 s12 fun r203 =>
  (rowN 9 r203 0).bind fun c204 =>
  (c204[0]?).bind fun x205 =>
  gI .i64 x205 fun i206 =>
  (c204[1]?).bind fun x207 =>
  gI .i64 x207 fun i208 =>
  (c204[2]?).bind fun x209 =>
  gI .i64 x209 fun i210 =>
  (c204[3]?).bind fun x211 =>
  gS x211 fun y212 =>
  (c204[4]?).bind fun x213 =>
  gI .i64 x213 fun i214 =>
  (c204[5]?).bind fun x215 =>
  gI .i64 x215 fun i216 =>
  (c204[6]?).bind fun x217 =>
  gB x217 fun q218 =>
  (c204[7]?).bind fun x219 =>
  gI .i64 x219 fun i220 =>
  (c204[8]?).bind fun x221 =>
  gI .i64 x221 fun i222 =>
  if c204.length = 9 then
  stK 9 (h.new 0 [.int .i64 0, .int .i64 0, .int .i64 0, .str (⟨#[]⟩), .int .i64 0, .int .i64 0, .bool false, .int .i64 0, .int .i64 0]) (pv h.n 0) (.agg [.int .i64 i206, .int .i64 i208, .int .i64 i210, .str y212, .int .i64 i214, .int .i64 i216, .bool q218, .int .i64 i220, .int .i64 i222]) fun h223 =>
  (load1 h223 (pv h.n 0)).bind fun x224 =>
  gI .i64 x224 fun i225 =>
  vcase (bv (i225 == s1))
  ((load1 h223 (pv h.n 1)).bind fun x227 =>
  gI .i64 x227 fun i228 =>
  Jn.impl_find_l0_0 (i228 == s2) h223 h s6 s1 s2 s10 s11 s12)
  (Jn.impl_find_l0_0 false h223 h s6 s1 s2 s10 s11 s12)
  else none)
  (some (.done [s6] (tidy h [s6] h))) := by
  unfold Lp.impl_find; rw [loop_eq]; kernel_rfl

theorem pu_impl_FindRow (a0 : List (List S)) (a1 : Int) (a2 : Int) : pureV (call Ev) Fn.impl_FindRow [lv a0, iv .i64 a1, iv .i64 a2] =
  (pureV (call Ev) Fn.impl_view [lv a0]).bind fun v101 =>
  gVT v101 fun u102 =>
  (u102[0]?).bind fun t103 =>
  gA1 t103 fun x104 =>
  gF x104 fun z105 =>
  (u102[1]?).bind fun t106 =>
  gA1 t106 fun x107 =>
  gI .i64 x107 fun i108 =>
  if u102.length = 2 then
  vcase (bv (i108 != 0))
  (some (.agg [.int .i64 i108, .int .i64 0, .int .i64 0, .int .i64 0, .int .i64 0, .int .i64 0, .str (⟨#[]⟩)]))
  (pcallS (call Ev) Fn.impl_isKey [iv .i64 a1, iv .i64 a2] fun v110 =>
  gV1 v110 fun x111 =>
  gB x111 fun q112 =>
  vcase (bv (!q112))
  (some (.agg [.int .i64 3, .int .i64 0, .int .i64 0, .int .i64 0, .int .i64 0, .int .i64 0, .str (⟨#[]⟩)]))
  (pcallS (call Ev) Fn.impl_find [lv z105, iv .i64 a1, iv .i64 a2] fun v114 =>
  gVT v114 fun u115 =>
  (u115[0]?).bind fun t116 =>
  gAA t116 fun c117 =>
  (c117[0]?).bind fun x118 =>
  gI .i64 x118 fun i119 =>
  (c117[1]?).bind fun x120 =>
  gI .i64 x120 fun i121 =>
  (c117[2]?).bind fun x122 =>
  gI .i64 x122 fun i123 =>
  (c117[3]?).bind fun x124 =>
  gS x124 fun y125 =>
  (c117[4]?).bind fun x126 =>
  gI .i64 x126 fun i127 =>
  (c117[5]?).bind fun x128 =>
  gI .i64 x128 fun i129 =>
  (c117[6]?).bind fun x130 =>
  gB x130 fun q131 =>
  (c117[7]?).bind fun x132 =>
  gI .i64 x132 fun i133 =>
  (c117[8]?).bind fun x134 =>
  gI .i64 x134 fun i135 =>
  if c117.length = 9 then
  (u115[1]?).bind fun t136 =>
  gA1 t136 fun x137 =>
  gB x137 fun q138 =>
  if u115.length = 2 then
  vcase (bv (!q138))
  (some (.agg [.int .i64 4, .int .i64 0, .int .i64 0, .int .i64 0, .int .i64 0, .int .i64 0, .str (⟨#[]⟩)]))
  (some (.agg [.int .i64 0, .int .i64 i127, .int .i64 i129, .int .i64 i119, .int .i64 i121, .int .i64 i123, .str y125]))
  else none
  else none))
  else none := by
  rw [pure_eq]; kernel_rfl

theorem pu_spec_l1Before (a0_0 : Int) (a0_1 : Int) (a0_2 : Int) (a0_3 : ByteArray) (a1_0 : Int) (a1_1 : Int) (a1_2 : Int) (a1_3 : ByteArray) : pureV (call Ev) Fn.spec_l1Before [fv [.int .i64 a0_0, .int .i64 a0_1, .int .i64 a0_2, .str a0_3] 0, fv [.int .i64 a1_0, .int .i64 a1_1, .int .i64 a1_2, .str a1_3] 0] =
  vcase (bv (decide (a0_0 < a1_0)))
  (some (bv true))
  (vcase (bv (a0_0 == a1_0))
  (some (bv (decide (a0_1 < a1_1))))
  (some (bv false))) := by
  rw [pure_eq]; kernel_rfl

theorem pu_spec_l6Put (a0 : List (List S)) (a1_0 : Int) (a1_1 : Int) (a1_2 : Int) (a1_3 : ByteArray) : pureV (call Ev) Fn.spec_l6Put [lv a0, .agg [.int .i64 a1_0, .int .i64 a1_1, .int .i64 a1_2, .str a1_3]] =
  (Lp.spec_l6Put 0 [lv a0, pv 0 0, iv .i64 0] ((D 0).new 0 [.int .i64 a1_0, .int .i64 a1_1, .int .i64 a1_2, .str a1_3])).bind fun o101 => lcase o101 (fun l102 h103 =>
  (l102[0]?).bind fun w106 =>
  gV1 w106 fun x107 =>
  gF x107 fun z108 =>
  (l102[1]?).bind fun w109 =>
  (l102[2]?).bind fun w110 =>
  gV1 w110 fun x111 =>
  gI .i64 x111 fun i112 =>
  slF 4 z108 none (some (iv .i64 i112)) fun z113 =>
  (appS 4 (h103.new 4 []) (sv h103.n 0 0) (lv z113)).bind fun p114 =>
  ldK (.agg [.i .i64, .i .i64, .i .i64, .s]) ⟨4, 40, [.int .i64 0, .int .i64 0, .int .i64 0, .str ⟨#[]⟩], true, .st [(0, 2), (1, 2), (2, 2), (3, 9)], true⟩ p114.2 w109 fun v115 =>
  gVA v115 fun c116 =>
  (c116[0]?).bind fun x117 =>
  gI .i64 x117 fun i118 =>
  (c116[1]?).bind fun x119 =>
  gI .i64 x119 fun i120 =>
  (c116[2]?).bind fun x121 =>
  gI .i64 x121 fun i122 =>
  (c116[3]?).bind fun x123 =>
  gS x123 fun y124 =>
  if c116.length = 4 then
  slF 4 z108 (some (iv .i64 i112)) none fun z125 =>
  hchk p114.2 (p114.2.new 4 [.int .i64 i118, .int .i64 i120, .int .i64 i122, .str y124]) (
  (appS 4 (p114.2.new 4 [.int .i64 i118, .int .i64 i120, .int .i64 i122, .str y124]) p114.1 (sv p114.2.n 0 1)).bind fun p126 =>
  (appS 4 p126.2 p126.1 (lv z125)).bind fun p127 =>
  frzV p127.2 p127.1)
  else none) (fun v104 h105 =>
  frzV h105 v104) := by
  rw [pure_eq]; kernel_rfl

theorem eq_spec_l6Put_l0 (s0 : List (List S)) (s3 : V) (s5 : Int) (h : H) : Lp.spec_l6Put 0 [lv s0, s3, iv .i64 s5] h =
  vcase (bv (decide (s5 < (s0.length : Int))))
  (idxF 4 s0 s5 fun r202 =>
  (frzVs h [fv r202 0, s3]).bind fun l203 =>
  pcallS (call Ev) Fn.spec_l1Before (normVs [4, 4] l203) fun v204 =>
  gV1 v204 fun x205 =>
  gB x205 fun q206 =>
  vcase (bv q206)
  (Lp.spec_l6Put 0 [lv s0, s3, iv .i64 (IntKind.i64.wrap (s5 + 1))] (tidy h [lv s0, s3, iv .i64 (IntKind.i64.wrap (s5 + 1))] h))
  (some (.done [lv s0, s3, iv .i64 s5] (tidy h [lv s0, s3, iv .i64 s5] h))))
  (some (.done [lv s0, s3, iv .i64 s5] (tidy h [lv s0, s3, iv .i64 s5] h))) := by
  unfold Lp.spec_l6Put; rw [loop_eq]; kernel_rfl

theorem pu_spec_l6RowsIn (a0 : List (List S)) : pureV (call Ev) Fn.spec_l6RowsIn [lv a0] =
  (pureV (call Ev) Fn.spec_l6Seen [lv a0]).bind fun v101 =>
  gV1 v101 fun x102 =>
  gF x102 fun z103 =>
  (Lp.spec_l6RowsIn 0 [sv 0 0 0, lv z103, iv .i64 0] ((D 0).new 4 [])).bind fun o104 => lcase o104 (fun l105 h106 =>
  (l105[0]?).bind fun w109 =>
  frzV h106 w109) (fun v107 h108 =>
  frzV h108 v107) := by
  rw [pure_eq]; kernel_rfl

theorem eq_spec_l6RowsIn_l0 (s3 : V) (s4 : List (List S)) (s5 : Int) (h : H) : Lp.spec_l6RowsIn 0 [s3, lv s4, iv .i64 s5] h =
  vcase (bv (decide (s5 < (s4.length : Int))))
  (idxF 10 s4 s5 fun r203 =>
  (rowN 4 r203 6).bind fun c204 =>
  (c204[0]?).bind fun x205 =>
  gI .i64 x205 fun i206 =>
  (c204[1]?).bind fun x207 =>
  gI .i64 x207 fun i208 =>
  (c204[2]?).bind fun x209 =>
  gI .i64 x209 fun i210 =>
  (c204[3]?).bind fun x211 =>
  gS x211 fun y212 =>
  if c204.length = 4 then
  bif ([s3, .agg [.int .i64 i206, .int .i64 i208, .int .i64 i210, .str y212]].all offV) then
  (frzVs h [s3, .agg [.int .i64 i206, .int .i64 i208, .int .i64 i210, .str y212]]).bind fun l213 =>
  (pureV (call Ev) Fn.spec_l6Put (normVs [] l213)).bind fun v214 =>
  gV1 v214 fun x215 =>
  gF x215 fun z216 =>
  Lp.spec_l6RowsIn 0 [lv z216, lv s4, iv .i64 (IntKind.i64.wrap (s5 + 1))] (tidy h [lv z216, lv s4, iv .i64 (IntKind.i64.wrap (s5 + 1))] h)
  else none
  else none)
  (some (.done [s3] (tidy h [s3] h))) := by
  unfold Lp.spec_l6RowsIn; rw [loop_eq]; kernel_rfl

theorem pu_spec_RowsIn (a0 : List (List S)) : pureV (call Ev) Fn.spec_RowsIn [lv a0] =
  pcallS (call Ev) Fn.spec_l6Fault [lv a0] fun v101 =>
  gV1 v101 fun x102 =>
  gI .i64 x102 fun i103 =>
  vcase (bv (i103 != 0))
  (some (.agg [.int .i64 i103, .fs []]))
  ((pureV (call Ev) Fn.spec_l6RowsIn [lv a0]).bind fun v105 =>
  gV1 v105 fun x106 =>
  gF x106 fun z107 =>
  some (.agg [.int .i64 0, .fs z107])) := by
  rw [pure_eq]; kernel_rfl

theorem eq_impl_plain (a0 : List (List S)) (n : Nat) : call Ev Fn.impl_plain [lv a0] (D n) =
  (Lp.impl_plain 0 [.s (.sl none 0), lv a0, iv .i64 (a0.length : Int), iv .i64 0] (D n)).bind fun o101 => lcase o101 (fun l102 h103 =>
  (l102[0]?).bind fun w106 =>
  some (w106, h103)) (fun v104 h105 =>
  some (v104, h105)) := by
  rw [call_eq]; kernel_rfl

theorem eq_impl_plain_l0 (s3 : V) (s6 : List (List S)) (s7 : Int) (s8 : Int) (h : H) : Lp.impl_plain 0 [s3, lv s6, iv .i64 s7, iv .i64 s8] h =
  vcase (bv (decide (s8 < s7)))
  (idxF 9 s6 s8 fun r203 =>
  (rowN 9 r203 0).bind fun c204 =>
  (c204[0]?).bind fun x205 =>
  gI .i64 x205 fun i206 =>
  (c204[1]?).bind fun x207 =>
  gI .i64 x207 fun i208 =>
  (c204[2]?).bind fun x209 =>
  gI .i64 x209 fun i210 =>
  (c204[3]?).bind fun x211 =>
  gS x211 fun y212 =>
  (c204[4]?).bind fun x213 =>
  gI .i64 x213 fun i214 =>
  (c204[5]?).bind fun x215 =>
  gI .i64 x215 fun i216 =>
  (c204[6]?).bind fun x217 =>
  gB x217 fun q218 =>
  (c204[7]?).bind fun x219 =>
  gI .i64 x219 fun i220 =>
  (c204[8]?).bind fun x221 =>
  gI .i64 x221 fun i222 =>
  if c204.length = 9 then
  stK 9 (h.new 0 [.int .i64 0, .int .i64 0, .int .i64 0, .str (⟨#[]⟩), .int .i64 0, .int .i64 0, .bool false, .int .i64 0, .int .i64 0]) (pv h.n 0) (.agg [.int .i64 i206, .int .i64 i208, .int .i64 i210, .str y212, .int .i64 i214, .int .i64 i216, .bool q218, .int .i64 i220, .int .i64 i222]) fun h223 =>
  (loadN 4 h223 (pv h.n 0)).bind fun c224 =>
  (c224[0]?).bind fun x225 =>
  gI .i64 x225 fun i226 =>
  (c224[1]?).bind fun x227 =>
  gI .i64 x227 fun i228 =>
  (c224[2]?).bind fun x229 =>
  gI .i64 x229 fun i230 =>
  (c224[3]?).bind fun x231 =>
  gS x231 fun y232 =>
  if c224.length = 4 then
  (appS 4 (h223.new 4 [.int .i64 i226, .int .i64 i228, .int .i64 i230, .str y232]) s3 (sv h223.n 0 1)).bind fun p233 =>
  Lp.impl_plain 0 [p233.1, lv s6, iv .i64 s7, iv .i64 (IntKind.i64.wrap (s8 + 1))] (tidy h [p233.1, lv s6, iv .i64 s7, iv .i64 (IntKind.i64.wrap (s8 + 1))] p233.2)
  else none
  else none)
  (some (.done [s3] (tidy h [s3] h))) := by
  unfold Lp.impl_plain; rw [loop_eq]; kernel_rfl

theorem eq_impl_RowsIn (a0 : List (List S)) (n : Nat) : call Ev Fn.impl_RowsIn [lv a0] (D n) =
  pcallF (call Ev) Fn.impl_view true [lv a0] ((D n).new 0 [.int .i64 0, .sl none 0]) fun v101 h102 =>
  gVT v101 fun u103 =>
  (u103[0]?).bind fun t104 =>
  gA1 t104 fun x105 =>
  (u103[1]?).bind fun t106 =>
  gA1 t106 fun x107 =>
  gI .i64 x107 fun i108 =>
  if u103.length = 2 then
  vcase (bv (i108 != 0))
  (stK 2 h102 (pv ((D n).n) 0) (.agg [.int .i64 i108, .sl none 0]) fun h110 =>
  (loadN 2 h110 (pv ((D n).n) 0)).bind fun c111 =>
  some (.agg c111, h110))
  ((frzVs h102 [.s x105]).bind fun l112 =>
  pcallF (call Ev) Fn.impl_plain ([.s x105].all offV) (normVs [] l112) h102 fun v113 h114 =>
  cellsK v113 fun c115 =>
  if c115.length = 1 ∧ 1 + 1 ≤ ([.int .i64 0, .sl none 0] : List S).length then
  ((setAt ([.int .i64 0, .sl none 0] : List S) 1 c115)[0]?).bind fun x116 =>
  gI .i64 x116 fun i117 =>
  ((setAt ([.int .i64 0, .sl none 0] : List S) 1 c115)[1]?).bind fun x118 =>
  if (setAt ([.int .i64 0, .sl none 0] : List S) 1 c115).length = 2 then
  stK 2 h114 (pv ((D n).n) 0) (.agg [.int .i64 i117, x118]) fun h119 =>
  (loadN 2 h119 (pv ((D n).n) 0)).bind fun c120 =>
  some (.agg c120, h119)
  else none
  else none)
  else none := by
  rw [call_eq]; kernel_rfl

end Vm
