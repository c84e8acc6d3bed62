/-
  What each function, and each round of each loop, comes to in the small machine. Written by a program (gen3.py).
-/
import Derived.Test.YtfpcfiaoilcbgaaEnv
set_option linter.unusedVariables false
set_option maxRecDepth 100000
namespace Vm
open Go

theorem pu_spec_ApplyRuns (a0 : List (List S)) (a1 : List (List S)) : pureV (call Ev) Fn.spec_ApplyRuns [lv a0, lv a1] =
  pcallS (call Ev) Fn.spec_l3Asked [lv a0, lv a1] fun v101 =>
  gV1 v101 fun x102 =>
  gI .i64 x102 fun i103 =>
  vcase (bv (i103 != 0))
  (some (.agg [.int .i64 i103, .fs []]))
  ((pureV (call Ev) Fn.spec_l3Apply [lv a0, lv a1]).bind fun v105 =>
  gV1 v105 fun x106 =>
  gF x106 fun z107 =>
  some (.agg [.int .i64 0, .fs z107])) := by
  rw [pure_eq]; kernel_rfl

noncomputable def Jn.laws_FnDiffs_0 (q326 : Bool) (w327 : V) (w328 : V) (w329 : V) (q330 : Bool) (h195 : H) (h163 : H) (z185 : List (List S)) (z188 : List (List S)) : Option (V) :=
  vcase (bv q330)
  ((load1 h195 (pv h163.n 0)).bind fun x332 =>
  gI .i64 x332 fun i333 =>
  (pureV (call Ev) Fn.spec_ApplyRuns [lv z185, lv z188]).bind fun v334 =>
  gVA v334 fun c335 =>
  (c335[0]?).bind fun x336 =>
  gI .i64 x336 fun i337 =>
  (c335[1]?).bind fun x338 =>
  gF x338 fun z339 =>
  if c335.length = 2 then
  hchk h195 h195 (
  vcase (bv (i333 == i337))
  ((load1 h195 (pv h163.n 1)).bind fun x343 =>
  (pureV (call Ev) Fn.spec_ApplyRuns [lv z185, lv z188]).bind fun v344 =>
  gVA v344 fun c345 =>
  (c345[0]?).bind fun x346 =>
  gI .i64 x346 fun i347 =>
  (c345[1]?).bind fun x348 =>
  gF x348 fun z349 =>
  if c345.length = 2 then
  hchk h195 h195 (
  (frzVs h195 [.s x343, lv z349]).bind fun l350 =>
  pcallS (call Ev) Fn.laws_lwSame (normVs [] l350) fun v351 =>
  gV1 v351 fun x352 =>
  gB x352 fun q353 =>
  hchk h195 h195 (
  some (bv q353)))
  else none)
  (hchk h195 h195 (
  hchk h195 h195 (
  some (bv false)))))
  else none)
  (hchk h195 h195 (
  hchk h195 h195 (
  hchk h195 h195 (
  some (bv false)))))

noncomputable def Jn.laws_FnDiffs_1 (q301 : Bool) (w302 : V) (w303 : V) (w304 : V) (w305 : V) (q306 : Bool) (w173 : V) (h195 : H) (w174 : V) (w169 : V) (i177 : Int) (i180 : Int) (h163 : H) (z185 : List (List S)) (z188 : List (List S)) : Option (V) :=
  vcase (bv q306)
  ((padd 0 w173).bind fun v308 =>
  ldK (.one (.i .i64)) ⟨1, 8, [.int .i64 0], false, .int .i64, false⟩ h195 v308 fun v309 =>
  gV1 v309 fun x310 =>
  gI .i64 x310 fun i311 =>
  vcase (bv (i311 == 0))
  ((padd 1 w174).bind fun v315 =>
  ldK (.one (.f)) ⟨1, 24, [.sl none 0], false, .sl 5, false⟩ h195 v315 fun v316 =>
  (frzVs h195 [v316, w169]).bind fun l317 =>
  pcallS (call Ev) Fn.laws_lwSame (normVs [] l317) fun v318 =>
  gV1 v318 fun x319 =>
  gB x319 fun q320 =>
  hchk h195 h195 (
  vcase (bv q320)
  (Jn.laws_FnDiffs_0 true (iv .i64 i177) (iv .i64 i180) (bv (i177 == i180)) (i177 == i180) h195 h163 z185 z188)
  (Jn.laws_FnDiffs_0 false (.tup []) (.tup []) (.tup []) false h195 h163 z185 z188)))
  (hchk h195 h195 (
  hchk h195 h195 (
  hchk h195 h195 (
  hchk h195 h195 (
  some (bv false)))))))
  (hchk h195 h195 (
  hchk h195 h195 (
  hchk h195 h195 (
  hchk h195 h195 (
  some (bv false))))))

theorem pu_laws_FnDiffs (a0 : List (List S)) : pureV (call Ev) Fn.laws_FnDiffs [lv a0] =
  pcallS (call Ev) Fn.laws_lwBig [lv a0] fun v101 =>
  gV1 v101 fun x102 =>
  gB x102 fun q103 =>
  vcase (bv q103)
  (some (bv true))
  ((pureV (call Ev) Fn.spec_DrawDiffBytes [lv a0]).bind fun v105 =>
  gVT v105 fun u106 =>
  (u106[0]?).bind fun t107 =>
  gA1 t107 fun x108 =>
  gF x108 fun z109 =>
  (u106[1]?).bind fun t110 =>
  gA1 t110 fun x111 =>
  gF x111 fun z112 =>
  if u106.length = 2 then
  (pureV (call Ev) Fn.impl_DiffBytes [lv z109, lv z112]).bind fun v113 =>
  gVA v113 fun c114 =>
  (c114[0]?).bind fun x115 =>
  gI .i64 x115 fun i116 =>
  (c114[1]?).bind fun x117 =>
  gF x117 fun z118 =>
  if c114.length = 2 then
  vcase (bv (i116 != 0))
  ((pureV (call Ev) Fn.spec_DiffBytes [lv z109, lv z112]).bind fun v120 =>
  gVA v120 fun c121 =>
  (c121[0]?).bind fun x122 =>
  gI .i64 x122 fun i123 =>
  (c121[1]?).bind fun x124 =>
  gF x124 fun z125 =>
  if c121.length = 2 then
  hchk (((D 0).new 0 [.int .i64 0, .sl none 0]).put 0 (.rw 0 [.int .i64 i116, .fs z118])) (((D 0).new 0 [.int .i64 0, .sl none 0]).put 0 (.rw 0 [.int .i64 i116, .fs z118])) (
  hchk (((D 0).new 0 [.int .i64 0, .sl none 0]).put 0 (.rw 0 [.int .i64 i116, .fs z118])) (((D 0).new 0 [.int .i64 0, .sl none 0]).put 0 (.rw 0 [.int .i64 i116, .fs z118])) (
  hchk (((D 0).new 0 [.int .i64 0, .sl none 0]).put 0 (.rw 0 [.int .i64 i116, .fs z118])) (((D 0).new 0 [.int .i64 0, .sl none 0]).put 0 (.rw 0 [.int .i64 i116, .fs z118])) (
  hchk (((D 0).new 0 [.int .i64 0, .sl none 0]).put 0 (.rw 0 [.int .i64 i116, .fs z118])) (((D 0).new 0 [.int .i64 0, .sl none 0]).put 0 (.rw 0 [.int .i64 i116, .fs z118])) (
  some (bv (i123 == i116))))))
  else none)
  ((pureV (call Ev) Fn.impl_ApplyRuns [lv z109, lv z118]).bind fun v126 =>
  gVA v126 fun c127 =>
  (c127[0]?).bind fun x128 =>
  gI .i64 x128 fun i129 =>
  (c127[1]?).bind fun x130 =>
  gF x130 fun z131 =>
  if c127.length = 2 then
  (pureV (call Ev) Fn.impl_InverseRuns [lv z109, lv z118]).bind fun v132 =>
  gVA v132 fun c133 =>
  (c133[0]?).bind fun x134 =>
  gI .i64 x134 fun i135 =>
  (c133[1]?).bind fun x136 =>
  gF x136 fun z137 =>
  if c133.length = 2 then
  (pureV (call Ev) Fn.impl_ApplyRuns [lv z112, lv z137]).bind fun v138 =>
  gVA v138 fun c139 =>
  (c139[0]?).bind fun x140 =>
  gI .i64 x140 fun i141 =>
  (c139[1]?).bind fun x142 =>
  gF x142 fun z143 =>
  if c139.length = 2 then
  (Lp.laws_FnDiffs 0 [lv a0, lv z109, lv z112, pv 0 0, pv 1 0, pv 2 0, pv 3 0, iv .i64 0, iv .i64 0] (((((((((D 0).new 0 [.int .i64 0, .sl none 0]).put 0 (.rw 0 [.int .i64 i116, .fs z118])).new 0 [.int .i64 0, .sl none 0]).put 1 (.rw 0 [.int .i64 i129, .fs z131])).new 0 [.int .i64 0, .sl none 0]).put 2 (.rw 0 [.int .i64 i135, .fs z137])).new 0 [.int .i64 0, .sl none 0]).put 3 (.rw 0 [.int .i64 i141, .fs z143]))).bind fun o144 => lcase o144 (fun l145 h146 =>
  (l145[0]?).bind fun w149 =>
  gV1 w149 fun x150 =>
  gF x150 fun z151 =>
  (l145[1]?).bind fun w152 =>
  (l145[2]?).bind fun w153 =>
  (l145[3]?).bind fun w154 =>
  (l145[4]?).bind fun w155 =>
  (l145[5]?).bind fun w156 =>
  (l145[6]?).bind fun w157 =>
  (l145[7]?).bind fun w158 =>
  gV1 w158 fun x159 =>
  gI .i64 x159 fun i160 =>
  (Lp.laws_FnDiffs 2 [lv z151, w152, w153, w154, w155, w156, w157, iv .i64 i160, iv .i64 0, iv .i64 0] h146).bind fun o161 => lcase o161 (fun l162 h163 =>
  (l162[0]?).bind fun w166 =>
  gV1 w166 fun x167 =>
  gF x167 fun z168 =>
  (l162[1]?).bind fun w169 =>
  (l162[2]?).bind fun w170 =>
  (l162[3]?).bind fun w171 =>
  (l162[4]?).bind fun w172 =>
  (l162[5]?).bind fun w173 =>
  (l162[6]?).bind fun w174 =>
  (l162[7]?).bind fun w175 =>
  gV1 w175 fun x176 =>
  gI .i64 x176 fun i177 =>
  (l162[8]?).bind fun w178 =>
  gV1 w178 fun x179 =>
  gI .i64 x179 fun i180 =>
  (pureV (call Ev) Fn.spec_DrawApplyRuns [lv z168]).bind fun v181 =>
  gVT v181 fun u182 =>
  (u182[0]?).bind fun t183 =>
  gA1 t183 fun x184 =>
  gF x184 fun z185 =>
  (u182[1]?).bind fun t186 =>
  gA1 t186 fun x187 =>
  gF x187 fun z188 =>
  if u182.length = 2 then
  (pureV (call Ev) Fn.impl_ApplyRuns [lv z185, lv z188]).bind fun v189 =>
  gVA v189 fun c190 =>
  (c190[0]?).bind fun x191 =>
  gI .i64 x191 fun i192 =>
  (c190[1]?).bind fun x193 =>
  gF x193 fun z194 =>
  if c190.length = 2 then
  stK 2 (h163.new 0 [.int .i64 0, .sl none 0]) (pv h163.n 0) (.agg [.int .i64 i192, .fs z194]) fun h195 =>
  (padd 1 w171).bind fun v196 =>
  ldK (.one (.f)) ⟨1, 24, [.sl none 0], false, .sl 97, false⟩ h195 v196 fun v197 =>
  (frzVs h195 [v197]).bind fun l198 =>
  pcallS (call Ev) Fn.impl_RunsFault (normVs [] l198) fun v199 =>
  gV1 v199 fun x200 =>
  gI .i64 x200 fun i201 =>
  hchk h195 h195 (
  vcase (bv (i201 == 0))
  ((padd 0 w172).bind fun v203 =>
  ldK (.one (.i .i64)) ⟨1, 8, [.int .i64 0], false, .int .i64, false⟩ h195 v203 fun v204 =>
  gV1 v204 fun x205 =>
  gI .i64 x205 fun i206 =>
  vcase (bv (i206 == 0))
  ((padd 1 w172).bind fun v210 =>
  ldK (.one (.f)) ⟨1, 24, [.sl none 0], false, .sl 5, false⟩ h195 v210 fun v211 =>
  (frzVs h195 [v211, w170]).bind fun l212 =>
  pcallS (call Ev) Fn.laws_lwSame (normVs [] l212) fun v213 =>
  gV1 v213 fun x214 =>
  gB x214 fun q215 =>
  hchk h195 h195 (
  Jn.laws_FnDiffs_1 true v210 v211 w170 (bv q215) q215 w173 h195 w174 w169 i177 i180 h163 z185 z188))
  (hchk h195 h195 (
  Jn.laws_FnDiffs_1 false (.tup []) (.tup []) (.tup []) (.tup []) false w173 h195 w174 w169 i177 i180 h163 z185 z188)))
  (hchk h195 h195 (
  hchk h195 h195 (
  hchk h195 h195 (
  hchk h195 h195 (
  hchk h195 h195 (
  some (bv false))))))))
  else none
  else none) (fun v164 h165 =>
  frzV h165 v164)) (fun v147 h148 =>
  frzV h148 v147)
  else none
  else none
  else none)
  else none
  else none) := by
  rw [pure_eq]; kernel_rfl

theorem eq_laws_FnDiffs_l0 (s0 : List (List S)) (s3 : V) (s4 : V) (s5 : V) (s6 : V) (s7 : V) (s8 : V) (s9 : Int) (s10 : Int) (h : H) : Lp.laws_FnDiffs 0 [lv s0, s3, s4, s5, s6, s7, s8, iv .i64 s9, iv .i64 s10] h =
  (padd 1 s5).bind fun v201 =>
  ldK (.one (.f)) ⟨1, 24, [.sl none 0], false, .sl 97, false⟩ h v201 fun v202 =>
  (lenV (.sl 97) v202).bind fun v203 =>
  gV1 v203 fun x204 =>
  gI .i64 x204 fun i205 =>
  vcase (bv (decide (s10 < i205)))
  ((padd 1 s5).bind fun v208 =>
  ldK (.one (.f)) ⟨1, 24, [.sl none 0], false, .sl 97, false⟩ h v208 fun v209 =>
  idxK 2 v209 (iv .i64 s10) fun v210 =>
  (padd 1 v210).bind fun v211 =>
  ldK (.one (.f)) ⟨1, 24, [.sl none 0], false, .sl 5, false⟩ h v211 fun v212 =>
  (lenV (.sl 5) v212).bind fun v213 =>
  gV1 v213 fun x214 =>
  gI .i64 x214 fun i215 =>
  Lp.laws_FnDiffs 0 [lv s0, s3, s4, s5, s6, s7, s8, iv .i64 (IntKind.i64.wrap (s9 + i215)), iv .i64 (IntKind.i64.wrap (s10 + 1))] (tidy h [lv s0, s3, s4, s5, s6, s7, s8, iv .i64 (IntKind.i64.wrap (s9 + i215)), iv .i64 (IntKind.i64.wrap (s10 + 1))] h))
  (some (.done [lv s0, s3, s4, s5, s6, s7, s8, iv .i64 s9] (tidy h [lv s0, s3, s4, s5, s6, s7, s8, iv .i64 s9] h))) := by
  unfold Lp.laws_FnDiffs; rw [loop_eq]; kernel_rfl

theorem eq_laws_FnDiffs_l2 (s0 : List (List S)) (s3 : V) (s4 : V) (s5 : V) (s6 : V) (s7 : V) (s8 : V) (s9 : Int) (s11 : Int) (s12 : Int) (h : H) : Lp.laws_FnDiffs 2 [lv s0, s3, s4, s5, s6, s7, s8, iv .i64 s9, iv .i64 s11, iv .i64 s12] h =
  (lenV (.sl 5) s3).bind fun v401 =>
  gV1 v401 fun x402 =>
  gI .i64 x402 fun i403 =>
  vcase (bv (decide (s12 < i403)))
  (idxK 1 s3 (iv .i64 s12) fun v406 =>
  ldK (.one (.i .u8)) ⟨1, 1, [.int .u8 0], false, .int .u8, false⟩ h v406 fun v407 =>
  gV1 v407 fun x408 =>
  gI .u8 x408 fun i409 =>
  idxK 1 s4 (iv .i64 s12) fun v410 =>
  ldK (.one (.i .u8)) ⟨1, 1, [.int .u8 0], false, .int .u8, false⟩ h v410 fun v411 =>
  gV1 v411 fun x412 =>
  gI .u8 x412 fun i413 =>
  vcase (bv (i409 != i413))
  (Lp.laws_FnDiffs 2 [lv s0, s3, s4, s5, s6, s7, s8, iv .i64 s9, iv .i64 (IntKind.i64.wrap (s11 + 1)), iv .i64 (IntKind.i64.wrap (s12 + 1))] (tidy h [lv s0, s3, s4, s5, s6, s7, s8, iv .i64 s9, iv .i64 (IntKind.i64.wrap (s11 + 1)), iv .i64 (IntKind.i64.wrap (s12 + 1))] h))
  (Lp.laws_FnDiffs 2 [lv s0, s3, s4, s5, s6, s7, s8, iv .i64 s9, iv .i64 s11, iv .i64 (IntKind.i64.wrap (s12 + 1))] (tidy h [lv s0, s3, s4, s5, s6, s7, s8, iv .i64 s9, iv .i64 s11, iv .i64 (IntKind.i64.wrap (s12 + 1))] h)))
  (some (.done [lv s0, s3, s4, s5, s6, s7, s8, iv .i64 s9, iv .i64 s11] (tidy h [lv s0, s3, s4, s5, s6, s7, s8, iv .i64 s9, iv .i64 s11] h))) := by
  unfold Lp.laws_FnDiffs; rw [loop_eq]; kernel_rfl

end Vm
