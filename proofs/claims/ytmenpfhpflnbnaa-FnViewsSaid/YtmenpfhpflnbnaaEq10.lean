/-
  What each function, and each round of each loop, comes to in the small machine. Written by a program (gen3.py).
-/
import Derived.Test.YtmenpfhpflnbnaaEnv
set_option linter.unusedVariables false
set_option maxRecDepth 100000
namespace Vm
open Go

noncomputable def Jn.laws_FnViews_0 (q233 : Bool) (w234 : V) (w235 : V) (w236 : V) (w237 : V) (w238 : V) (q239 : Bool) (h183 : H) (h129 : H) (h166 : H) : Option (V) :=
  vcase (bv q239)
  ((loadN 4 h183 (pv h129.n 3)).bind fun c241 =>
  (c241[0]?).bind fun x242 =>
  gI .i64 x242 fun i243 =>
  (c241[1]?).bind fun x244 =>
  gI .i64 x244 fun i245 =>
  (c241[2]?).bind fun x246 =>
  gI .i64 x246 fun i247 =>
  (c241[3]?).bind fun x248 =>
  gS x248 fun y249 =>
  if c241.length = 4 then
  (loadN 4 h183 (pv h166.n 3)).bind fun c250 =>
  (c250[0]?).bind fun x251 =>
  gI .i64 x251 fun i252 =>
  (c250[1]?).bind fun x253 =>
  gI .i64 x253 fun i254 =>
  (c250[2]?).bind fun x255 =>
  gI .i64 x255 fun i256 =>
  (c250[3]?).bind fun x257 =>
  gS x257 fun y258 =>
  if c250.length = 4 then
  some (bv (((i243 : Int) == i252) && (((i245 : Int) == i254) && (((i247 : Int) == i256) && (((y249 : ByteArray).toList == (y258 : ByteArray).toList) && true)))))
  else none
  else none)
  (some (bv false))

theorem pu_laws_FnViews (a0 : List (List S)) : pureV (call Ev) Fn.laws_FnViews [lv a0] =
  pcallS (call Ev) Fn.laws_lwBig [lv a0] fun v101 =>
  gV1 v101 fun x102 =>
  gB x102 fun q103 =>
  vcase (bv q103)
  (some (bv true))
  ((pureV (call Ev) Fn.spec_DrawRowsIn [lv a0]).bind fun v105 =>
  gV1 v105 fun x106 =>
  gF x106 fun z107 =>
  (pureV (call Ev) Fn.impl_RowsIn [lv z107]).bind fun v108 =>
  gVA v108 fun c109 =>
  (c109[0]?).bind fun x110 =>
  gI .i64 x110 fun i111 =>
  (c109[1]?).bind fun x112 =>
  gF x112 fun z113 =>
  if c109.length = 2 then
  vcase (bv (i111 != 0))
  ((pureV (call Ev) Fn.spec_RowsIn [lv z107]).bind fun v115 =>
  gVA v115 fun c116 =>
  (c116[0]?).bind fun x117 =>
  gI .i64 x117 fun i118 =>
  (c116[1]?).bind fun x119 =>
  gF x119 fun z120 =>
  if c116.length = 2 then
  hchk (((D 0).new 0 [.int .i64 0, .sl none 0]).put 0 (.rw 0 [.int .i64 i111, .fs z113])) (((D 0).new 0 [.int .i64 0, .sl none 0]).put 0 (.rw 0 [.int .i64 i111, .fs z113])) (
  vcase (bv (i118 == i111))
  (pcallS (call Ev) Fn.impl_PagesFault [lv z107] fun v122 =>
  gV1 v122 fun x123 =>
  gI .i64 x123 fun i124 =>
  hchk (((D 0).new 0 [.int .i64 0, .sl none 0]).put 0 (.rw 0 [.int .i64 i111, .fs z113])) (((D 0).new 0 [.int .i64 0, .sl none 0]).put 0 (.rw 0 [.int .i64 i111, .fs z113])) (
  some (bv (i124 == i111))))
  (hchk (((D 0).new 0 [.int .i64 0, .sl none 0]).put 0 (.rw 0 [.int .i64 i111, .fs z113])) (((D 0).new 0 [.int .i64 0, .sl none 0]).put 0 (.rw 0 [.int .i64 i111, .fs z113])) (
  some (bv false))))
  else none)
  ((Lp.laws_FnViews 0 [lv a0, lv z107, pv 0 0, iv .i64 0] (((D 0).new 0 [.int .i64 0, .sl none 0]).put 0 (.rw 0 [.int .i64 i111, .fs z113]))).bind fun o127 => lcase o127 (fun l128 h129 =>
  (l128[0]?).bind fun w132 =>
  gV1 w132 fun x133 =>
  gF x133 fun z134 =>
  (l128[1]?).bind fun w135 =>
  gV1 w135 fun x136 =>
  gF x136 fun z137 =>
  (l128[2]?).bind fun w138 =>
  (pureV (call Ev) Fn.spec_DrawFindRow [lv z134]).bind fun v139 =>
  gVT v139 fun u140 =>
  (u140[0]?).bind fun t141 =>
  gA1 t141 fun x142 =>
  gF x142 fun z143 =>
  (u140[1]?).bind fun t144 =>
  gA1 t144 fun x145 =>
  gI .i64 x145 fun i146 =>
  (u140[2]?).bind fun t147 =>
  gA1 t147 fun x148 =>
  gI .i64 x148 fun i149 =>
  if u140.length = 3 then
  pcallS (call Ev) Fn.impl_FindRow [lv z143, iv .i64 i146, iv .i64 i149] fun v150 =>
  gVA v150 fun c151 =>
  (c151[0]?).bind fun x152 =>
  gI .i64 x152 fun i153 =>
  (c151[1]?).bind fun x154 =>
  gI .i64 x154 fun i155 =>
  (c151[2]?).bind fun x156 =>
  gI .i64 x156 fun i157 =>
  (c151[3]?).bind fun x158 =>
  gI .i64 x158 fun i159 =>
  (c151[4]?).bind fun x160 =>
  gI .i64 x160 fun i161 =>
  (c151[5]?).bind fun x162 =>
  gI .i64 x162 fun i163 =>
  (c151[6]?).bind fun x164 =>
  gS x164 fun y165 =>
  if c151.length = 7 then
  stK 7 (h129.new 0 [.int .i64 0, .int .i64 0, .int .i64 0, .int .i64 0, .int .i64 0, .int .i64 0, .str (⟨#[]⟩)]) (pv h129.n 0) (.agg [.int .i64 i153, .int .i64 i155, .int .i64 i157, .int .i64 i159, .int .i64 i161, .int .i64 i163, .str y165]) fun h166 =>
  pcallS (call Ev) Fn.spec_FindRow [lv z143, iv .i64 i146, iv .i64 i149] fun v167 =>
  gVA v167 fun c168 =>
  (c168[0]?).bind fun x169 =>
  gI .i64 x169 fun i170 =>
  (c168[1]?).bind fun x171 =>
  gI .i64 x171 fun i172 =>
  (c168[2]?).bind fun x173 =>
  gI .i64 x173 fun i174 =>
  (c168[3]?).bind fun x175 =>
  gI .i64 x175 fun i176 =>
  (c168[4]?).bind fun x177 =>
  gI .i64 x177 fun i178 =>
  (c168[5]?).bind fun x179 =>
  gI .i64 x179 fun i180 =>
  (c168[6]?).bind fun x181 =>
  gS x181 fun y182 =>
  if c168.length = 7 then
  stK 7 (h166.new 0 [.int .i64 0, .int .i64 0, .int .i64 0, .int .i64 0, .int .i64 0, .int .i64 0, .str (⟨#[]⟩)]) (pv h166.n 0) (.agg [.int .i64 i170, .int .i64 i172, .int .i64 i174, .int .i64 i176, .int .i64 i178, .int .i64 i180, .str y182]) fun h183 =>
  (padd 1 w138).bind fun v184 =>
  ldK (.one (.f)) ⟨1, 24, [.sl none 0], false, .sl 29, false⟩ h183 v184 fun v185 =>
  (frzVs h183 [v185]).bind fun l186 =>
  pcallS (call Ev) Fn.impl_RowsFault (normVs [] l186) fun v187 =>
  gV1 v187 fun x188 =>
  gI .i64 x188 fun i189 =>
  hchk h183 h183 (
  vcase (bv (i189 == 0))
  ((padd 1 w138).bind fun v191 =>
  ldK (.one (.f)) ⟨1, 24, [.sl none 0], false, .sl 29, false⟩ h183 v191 fun v192 =>
  (pureV (call Ev) Fn.spec_RowsIn [lv z137]).bind fun v193 =>
  gVA v193 fun c194 =>
  (c194[0]?).bind fun x195 =>
  gI .i64 x195 fun i196 =>
  (c194[1]?).bind fun x197 =>
  gF x197 fun z198 =>
  if c194.length = 2 then
  hchk h183 h183 (
  (frzVs h183 [v192, lv z198]).bind fun l199 =>
  pcallS (call Ev) Fn.laws_lwRows (normVs [] l199) fun v200 =>
  gV1 v200 fun x201 =>
  gB x201 fun q202 =>
  hchk h183 h183 (
  vcase (bv q202)
  ((load1 h183 (pv h129.n 0)).bind fun x206 =>
  gI .i64 x206 fun i207 =>
  (load1 h183 (pv h166.n 0)).bind fun x208 =>
  gI .i64 x208 fun i209 =>
  Jn.laws_FnViews_0 true (pv h129.n 0) (pv h166.n 0) (iv .i64 i207) (iv .i64 i209) (bv (i207 == i209)) (i207 == i209) h183 h129 h166)
  (Jn.laws_FnViews_0 false (.tup []) (.tup []) (.tup []) (.tup []) (.tup []) false h183 h129 h166)))
  else none)
  (hchk h183 h183 (
  hchk h183 h183 (
  some (bv false)))))
  else none
  else none
  else none) (fun v130 h131 =>
  frzV h131 v130))
  else none) := by
  rw [pure_eq]; kernel_rfl

noncomputable def Jn.laws_FnViews_l0_0 (q303 : Bool) (w304 : V) (w305 : V) (w306 : V) (w307 : V) (w308 : V) (q309 : Bool) (h238 : H) (h : H) (s3 : List (List S)) (s0 : List (List S)) (s4 : V) (s5 : Int) : Option (LOut) :=
  vcase (bv q309)
  (hchk h238 h238 (
  hchk h238 h238 (
  hchk h238 h238 (
  hchk h238 h238 (
  some (.ret (bv false) h238))))))
  ((load1 h238 (pv h.n 1)).bind fun x312 =>
  gI .i64 x312 fun i313 =>
  idxF 1 s3 i313 fun r314 =>
  (r314[0]?).bind fun x315 =>
  gF x315 fun z316 =>
  (load1 h238 (pv h.n 2)).bind fun x317 =>
  gI .i64 x317 fun i318 =>
  (pureV (call Ev) Fn.impl_SlotIn [lv z316, iv .i64 i318]).bind fun v319 =>
  gVA v319 fun c320 =>
  (c320[0]?).bind fun x321 =>
  gI .i64 x321 fun i322 =>
  (c320[1]?).bind fun x323 =>
  gF x323 fun z324 =>
  if c320.length = 2 then
  hchk h238 h238 (
  hchk h238 h238 (
  hchk h238 h238 (
  hchk h238 h238 (
  vcase (bv (i322 != 0))
  (some (.ret (bv false) h238))
  (Lp.laws_FnViews 0 [lv s0, lv s3, s4, iv .i64 (IntKind.i64.wrap (s5 + 1))] (tidy h [lv s0, lv s3, s4, iv .i64 (IntKind.i64.wrap (s5 + 1))] h238))))))
  else none)

theorem eq_laws_FnViews_l0 (s0 : List (List S)) (s3 : List (List S)) (s4 : V) (s5 : Int) (h : H) : Lp.laws_FnViews 0 [lv s0, lv s3, s4, iv .i64 s5] h =
  (padd 1 s4).bind fun v201 =>
  ldK (.one (.f)) ⟨1, 24, [.sl none 0], false, .sl 29, false⟩ h v201 fun v202 =>
  (lenV (.sl 29) v202).bind fun v203 =>
  gV1 v203 fun x204 =>
  gI .i64 x204 fun i205 =>
  vcase (bv (decide (s5 < i205)))
  ((padd 1 s4).bind fun v208 =>
  ldK (.one (.f)) ⟨1, 24, [.sl none 0], false, .sl 29, false⟩ h v208 fun v209 =>
  idxK 4 v209 (iv .i64 s5) fun v210 =>
  (padd 0 v210).bind fun v211 =>
  ldK (.one (.i .i64)) ⟨1, 8, [.int .i64 0], false, .int .i64, false⟩ h v211 fun v212 =>
  gV1 v212 fun x213 =>
  gI .i64 x213 fun i214 =>
  (padd 1 s4).bind fun v215 =>
  ldK (.one (.f)) ⟨1, 24, [.sl none 0], false, .sl 29, false⟩ h v215 fun v216 =>
  idxK 4 v216 (iv .i64 s5) fun v217 =>
  (padd 1 v217).bind fun v218 =>
  ldK (.one (.i .i64)) ⟨1, 8, [.int .i64 0], false, .int .i64, false⟩ h v218 fun v219 =>
  gV1 v219 fun x220 =>
  gI .i64 x220 fun i221 =>
  pcallS (call Ev) Fn.impl_FindRow [lv s3, iv .i64 i214, iv .i64 i221] fun v222 =>
  gVA v222 fun c223 =>
  (c223[0]?).bind fun x224 =>
  gI .i64 x224 fun i225 =>
  (c223[1]?).bind fun x226 =>
  gI .i64 x226 fun i227 =>
  (c223[2]?).bind fun x228 =>
  gI .i64 x228 fun i229 =>
  (c223[3]?).bind fun x230 =>
  gI .i64 x230 fun i231 =>
  (c223[4]?).bind fun x232 =>
  gI .i64 x232 fun i233 =>
  (c223[5]?).bind fun x234 =>
  gI .i64 x234 fun i235 =>
  (c223[6]?).bind fun x236 =>
  gS x236 fun y237 =>
  if c223.length = 7 then
  stK 7 (h.new 0 [.int .i64 0, .int .i64 0, .int .i64 0, .int .i64 0, .int .i64 0, .int .i64 0, .str (⟨#[]⟩)]) (pv h.n 0) (.agg [.int .i64 i225, .int .i64 i227, .int .i64 i229, .int .i64 i231, .int .i64 i233, .int .i64 i235, .str y237]) fun h238 =>
  (load1 h238 (pv h.n 0)).bind fun x239 =>
  gI .i64 x239 fun i240 =>
  vcase (bv (i240 != 0))
  (hchk h238 h238 (
  hchk h238 h238 (
  hchk h238 h238 (
  hchk h238 h238 (
  some (.ret (bv false) h238))))))
  ((loadN 4 h238 (pv h.n 3)).bind fun c243 =>
  (c243[0]?).bind fun x244 =>
  gI .i64 x244 fun i245 =>
  (c243[1]?).bind fun x246 =>
  gI .i64 x246 fun i247 =>
  (c243[2]?).bind fun x248 =>
  gI .i64 x248 fun i249 =>
  (c243[3]?).bind fun x250 =>
  gS x250 fun y251 =>
  if c243.length = 4 then
  (padd 1 s4).bind fun v252 =>
  ldK (.one (.f)) ⟨1, 24, [.sl none 0], false, .sl 29, false⟩ h238 v252 fun v253 =>
  idxK 4 v253 (iv .i64 s5) fun v254 =>
  ldK (.agg [.i .i64, .i .i64, .i .i64, .s]) ⟨4, 40, [.int .i64 0, .int .i64 0, .int .i64 0, .str ⟨#[]⟩], true, .st [(0, 2), (1, 2), (2, 2), (3, 9)], true⟩ h238 v254 fun v255 =>
  gVA v255 fun c256 =>
  (c256[0]?).bind fun x257 =>
  gI .i64 x257 fun i258 =>
  (c256[1]?).bind fun x259 =>
  gI .i64 x259 fun i260 =>
  (c256[2]?).bind fun x261 =>
  gI .i64 x261 fun i262 =>
  (c256[3]?).bind fun x263 =>
  gS x263 fun y264 =>
  if c256.length = 4 then
  vcase (bv (!(((i245 : Int) == i258) && (((i247 : Int) == i260) && (((i249 : Int) == i262) && (((y251 : ByteArray).toList == (y264 : ByteArray).toList) && true))))))
  (hchk h238 h238 (
  hchk h238 h238 (
  hchk h238 h238 (
  hchk h238 h238 (
  some (.ret (bv false) h238))))))
  ((load1 h238 (pv h.n 1)).bind fun x272 =>
  gI .i64 x272 fun i273 =>
  vcase (bv (decide (i273 < 0)))
  (Jn.laws_FnViews_l0_0 true (.tup []) (.tup []) (.tup []) (.tup []) (.tup []) true h238 h s3 s0 s4 s5)
  ((load1 h238 (pv h.n 1)).bind fun x280 =>
  gI .i64 x280 fun i281 =>
  Jn.laws_FnViews_l0_0 false (pv h.n 1) (iv .i64 i281) (lv s3) (iv .i64 (s3.length : Int)) (bv (decide (i281 ≥ (s3.length : Int)))) (decide (i281 ≥ (s3.length : Int))) h238 h s3 s0 s4 s5))
  else none
  else none)
  else none)
  (some (.done [lv s0, lv s3, s4] (tidy h [lv s0, lv s3, s4] h))) := by
  unfold Lp.laws_FnViews; rw [loop_eq]; kernel_rfl

end Vm
