/-
  What each function, and each round of each loop, comes to in the small machine. Written by a program (gen3.py).
-/
import Derived.Test.YtainemlfiibooaaEnv
set_option linter.unusedVariables false
set_option maxRecDepth 100000
namespace Vm
open Go

theorem pu_laws_eqLogResult (a0_0 : Int) (a0_1 : List (List S)) (a0_2 : List (List S)) (a1_0 : Int) (a1_1 : List (List S)) (a1_2 : List (List S)) : pureV (call Ev) Fn.laws_eqLogResult [.agg [.int .i64 a0_0, .fs a0_1, .fs a0_2], .agg [.int .i64 a1_0, .fs a1_1, .fs a1_2]] =
  vcase (bv (a0_0 != a1_0))
  (some (bv false))
  (pcallS (call Ev) Fn.laws_eqLog [.agg [.fs a0_1, .fs a0_2], .agg [.fs a1_1, .fs a1_2]] fun v102 =>
  gV1 v102 fun x103 =>
  gB x103 fun q104 =>
  vcase (bv (!q104))
  (some (bv false))
  (some (bv true))) := by
  rw [pure_eq]; kernel_rfl

theorem eq_laws_markLog (a0_0 : S) (a0_1 : S) (a1 : Int) (h : H) : call Ev Fn.laws_markLog [.agg [a0_0, a0_1], iv .i64 a1] h =
  (load1 (h.new 0 [a0_0, a0_1]) (pv h.n 0)).bind fun x101 =>
  (call Ev Fn.laws_markByteS [.s x101, iv .i64 a1] (h.new 0 [a0_0, a0_1])).bind fun p102 =>
  gV1 p102.1 fun x103 =>
  gI .i64 x103 fun i104 =>
  (load1 (tidy (h.new 0 [a0_0, a0_1]) [p102.1] p102.2) (pv h.n 1)).bind fun x105 =>
  (call Ev Fn.laws_markByteS [.s x105, iv .i64 i104] (tidy (h.new 0 [a0_0, a0_1]) [p102.1] p102.2)).bind fun p106 =>
  gV1 p106.1 fun x107 =>
  gI .i64 x107 fun i108 =>
  some (iv .i64 i108, tidy (tidy (h.new 0 [a0_0, a0_1]) [p102.1] p102.2) [p106.1] p106.2) := by
  rw [call_eq]; kernel_rfl

theorem eq_laws_markLogResult (a0_0 : Int) (a0_1 : S) (a0_2 : S) (a1 : Int) (h : H) : call Ev Fn.laws_markLogResult [.agg [.int .i64 a0_0, a0_1, a0_2], iv .i64 a1] h =
  (loadN 2 (h.new 0 [.int .i64 a0_0, a0_1, a0_2]) (pv h.n 1)).bind fun c101 =>
  (c101[0]?).bind fun x102 =>
  (c101[1]?).bind fun x103 =>
  if c101.length = 2 then
  (call Ev Fn.laws_markLog [.agg [x102, x103], iv .i64 a1] (h.new 0 [.int .i64 a0_0, a0_1, a0_2])).bind fun p104 =>
  gV1 p104.1 fun x105 =>
  gI .i64 x105 fun i106 =>
  some (iv .i64 i106, tidy (h.new 0 [.int .i64 a0_0, a0_1, a0_2]) [p104.1] p104.2)
  else none := by
  rw [call_eq]; kernel_rfl

theorem pu_laws_heldLog (a0_0 : List (List S)) (a0_1 : List (List S)) (a1 : Int) : pureV (call Ev) Fn.laws_heldLog [.agg [.fs a0_0, .fs a0_1], iv .i64 a1] =
  pcallS (call Ev) Fn.laws_heldByteS [lv a0_0, iv .i64 a1] fun v101 =>
  gV1 v101 fun x102 =>
  gI .i64 x102 fun i103 =>
  vcase (bv (decide (i103 < 0)))
  (some (iv .i64 (-1)))
  (pcallS (call Ev) Fn.laws_heldByteS [lv a0_1, iv .i64 i103] fun v105 =>
  gV1 v105 fun x106 =>
  gI .i64 x106 fun i107 =>
  vcase (bv (decide (i107 < 0)))
  (some (iv .i64 (-1)))
  (some (iv .i64 i107))) := by
  rw [pure_eq]; kernel_rfl

theorem pu_laws_heldLogResult (a0_0 : Int) (a0_1 : List (List S)) (a0_2 : List (List S)) (a1 : Int) : pureV (call Ev) Fn.laws_heldLogResult [.agg [.int .i64 a0_0, .fs a0_1, .fs a0_2], iv .i64 a1] =
  pcallS (call Ev) Fn.laws_heldLog [.agg [.fs a0_1, .fs a0_2], iv .i64 a1] fun v101 =>
  gV1 v101 fun x102 =>
  gI .i64 x102 fun i103 =>
  vcase (bv (decide (i103 < 0)))
  (some (iv .i64 (-1)))
  (some (iv .i64 i103)) := by
  rw [pure_eq]; kernel_rfl

noncomputable def Jn.laws_FnExactSyncLog_0 (q259 : Bool) (h136 : H) (p173 : V × H) (h130 : H) : Option (V) :=
  vcase (bv q259)
  (some (bv false))
  ((loadN 3 (tidy h136 [p173.1] p173.2) (pv h130.n 0)).bind fun c261 =>
  (c261[0]?).bind fun x262 =>
  gI .i64 x262 fun i263 =>
  (c261[1]?).bind fun x264 =>
  (c261[2]?).bind fun x265 =>
  if c261.length = 3 then
  (call Ev Fn.laws_markLogResult [.agg [.int .i64 i263, x264, x265], iv .i64 1] (tidy h136 [p173.1] p173.2)).bind fun p266 =>
  gV1 p266.1 fun x267 =>
  gI .i64 x267 fun i268 =>
  (loadN 3 (tidy (tidy h136 [p173.1] p173.2) [p266.1] p266.2) (pv h130.n 0)).bind fun c269 =>
  (c269[0]?).bind fun x270 =>
  gI .i64 x270 fun i271 =>
  (c269[1]?).bind fun x272 =>
  (c269[2]?).bind fun x273 =>
  if c269.length = 3 then
  (frzVs (tidy (tidy h136 [p173.1] p173.2) [p266.1] p266.2) [.agg [.int .i64 i271, x272, x273], iv .i64 1]).bind fun l274 =>
  pcallS (call Ev) Fn.laws_heldLogResult (normVs [] l274) fun v275 =>
  gV1 v275 fun x276 =>
  gI .i64 x276 fun i277 =>
  vcase (bv (decide (i277 < 0)))
  (some (bv false))
  (vcase (bv (i277 != i268))
  (some (bv false))
  ((loadN 2 (tidy (tidy h136 [p173.1] p173.2) [p266.1] p266.2) (pv 0 0)).bind fun c280 =>
  (c280[0]?).bind fun x281 =>
  (c280[1]?).bind fun x282 =>
  if c280.length = 2 then
  bif ([.agg [x281, x282]].all offV) then
  (frzVs (tidy (tidy h136 [p173.1] p173.2) [p266.1] p266.2) [.agg [x281, x282]]).bind fun l283 =>
  (pureV (call Ev) Fn.laws_toLog (normVs [] l283)).bind fun v284 =>
  gVA v284 fun c285 =>
  (c285[0]?).bind fun x286 =>
  gF x286 fun z287 =>
  (c285[1]?).bind fun x288 =>
  gF x288 fun z289 =>
  if c285.length = 2 then
  (pureV (call Ev) Fn.impl_SyncLog [.agg [.fs z287, .fs z289]]).bind fun v290 =>
  gVA v290 fun c291 =>
  (c291[0]?).bind fun x292 =>
  gI .i64 x292 fun i293 =>
  (c291[1]?).bind fun x294 =>
  gF x294 fun z295 =>
  (c291[2]?).bind fun x296 =>
  gF x296 fun z297 =>
  if c291.length = 3 then
  stK 3 ((tidy (tidy h136 [p173.1] p173.2) [p266.1] p266.2).new 0 [.int .i64 0, .sl none 0, .sl none 0]) (pv ((tidy (tidy h136 [p173.1] p173.2) [p266.1] p266.2).n) 0) (.agg [.int .i64 i293, .fs z295, .fs z297]) fun h298 =>
  (loadN 3 h298 (pv ((tidy (tidy h136 [p173.1] p173.2) [p266.1] p266.2).n) 0)).bind fun c299 =>
  (c299[0]?).bind fun x300 =>
  gI .i64 x300 fun i301 =>
  (c299[1]?).bind fun x302 =>
  (c299[2]?).bind fun x303 =>
  if c299.length = 3 then
  (loadN 3 h298 (pv 1 0)).bind fun c304 =>
  (c304[0]?).bind fun x305 =>
  gI .i64 x305 fun i306 =>
  (c304[1]?).bind fun x307 =>
  (c304[2]?).bind fun x308 =>
  if c304.length = 3 then
  (frzVs h298 [.agg [.int .i64 i301, x302, x303], .agg [.int .i64 i306, x307, x308]]).bind fun l309 =>
  pcallS (call Ev) Fn.laws_eqLogResult (normVs [] l309) fun v310 =>
  gV1 v310 fun x311 =>
  gB x311 fun q312 =>
  vcase (bv (!q312))
  (some (bv false))
  ((loadN 3 h298 (pv h130.n 0)).bind fun c314 =>
  (c314[0]?).bind fun x315 =>
  gI .i64 x315 fun i316 =>
  (c314[1]?).bind fun x317 =>
  (c314[2]?).bind fun x318 =>
  if c314.length = 3 then
  (frzVs h298 [.agg [.int .i64 i316, x317, x318], iv .i64 1]).bind fun l319 =>
  pcallS (call Ev) Fn.laws_heldLogResult (normVs [] l319) fun v320 =>
  gV1 v320 fun x321 =>
  gI .i64 x321 fun i322 =>
  vcase (bv (decide (i322 < 0)))
  (some (bv false))
  (vcase (bv (i322 != i268))
  (some (bv false))
  (some (bv true)))
  else none)
  else none
  else none
  else none
  else none
  else none
  else none))
  else none
  else none)

theorem pu_laws_FnExactSyncLog (a0_0 : List (List S)) (a0_1 : List (List S)) : pureV (call Ev) Fn.laws_FnExactSyncLog [.agg [.fs a0_0, .fs a0_1]] =
  pcallS (call Ev) Fn.laws_szLog [.agg [.fs a0_0, .fs a0_1], iv .i64 1048576] fun v101 =>
  gV1 v101 fun x102 =>
  gI .i64 x102 fun i103 =>
  vcase (bv (decide (i103 < 0)))
  (some (bv true))
  ((pureV (call Ev) Fn.laws_toLog [.agg [.fs a0_0, .fs a0_1]]).bind fun v105 =>
  gVA v105 fun c106 =>
  (c106[0]?).bind fun x107 =>
  gF x107 fun z108 =>
  (c106[1]?).bind fun x109 =>
  gF x109 fun z110 =>
  if c106.length = 2 then
  (pureV (call Ev) Fn.spec_SyncLog [.agg [.fs z108, .fs z110]]).bind fun v111 =>
  gVA v111 fun c112 =>
  (c112[0]?).bind fun x113 =>
  gI .i64 x113 fun i114 =>
  (c112[1]?).bind fun x115 =>
  gF x115 fun z116 =>
  (c112[2]?).bind fun x117 =>
  gF x117 fun z118 =>
  if c112.length = 3 then
  pcallF (call Ev) Fn.laws_toLog true [.agg [.fs a0_0, .fs a0_1]] ((((D 0).new 0 [.fs a0_0, .fs a0_1]).new 0 [.int .i64 0, .sl none 0, .sl none 0]).put 1 (.rw 0 [.int .i64 i114, .fs z116, .fs z118])) fun v119 h120 =>
  gVA v119 fun c121 =>
  (c121[0]?).bind fun x122 =>
  (c121[1]?).bind fun x123 =>
  if c121.length = 2 then
  stK 2 (h120.new 0 [.sl none 0, .sl none 0]) (pv h120.n 0) (.agg [x122, x123]) fun h124 =>
  (loadN 2 h124 (pv h120.n 0)).bind fun c125 =>
  (c125[0]?).bind fun x126 =>
  (c125[1]?).bind fun x127 =>
  if c125.length = 2 then
  (frzVs h124 [.agg [x126, x127]]).bind fun l128 =>
  pcallF (call Ev) Fn.impl_SyncLog ([.agg [x126, x127]].all offV) (normVs [] l128) h124 fun v129 h130 =>
  gVA v129 fun c131 =>
  (c131[0]?).bind fun x132 =>
  gI .i64 x132 fun i133 =>
  (c131[1]?).bind fun x134 =>
  (c131[2]?).bind fun x135 =>
  if c131.length = 3 then
  stK 3 (h130.new 0 [.int .i64 0, .sl none 0, .sl none 0]) (pv h130.n 0) (.agg [.int .i64 i133, x134, x135]) fun h136 =>
  (loadN 3 h136 (pv h130.n 0)).bind fun c137 =>
  (c137[0]?).bind fun x138 =>
  gI .i64 x138 fun i139 =>
  (c137[1]?).bind fun x140 =>
  (c137[2]?).bind fun x141 =>
  if c137.length = 3 then
  (loadN 3 h136 (pv 1 0)).bind fun c142 =>
  (c142[0]?).bind fun x143 =>
  gI .i64 x143 fun i144 =>
  (c142[1]?).bind fun x145 =>
  (c142[2]?).bind fun x146 =>
  if c142.length = 3 then
  (frzVs h136 [.agg [.int .i64 i139, x140, x141], .agg [.int .i64 i144, x145, x146]]).bind fun l147 =>
  pcallS (call Ev) Fn.laws_eqLogResult (normVs [] l147) fun v148 =>
  gV1 v148 fun x149 =>
  gB x149 fun q150 =>
  vcase (bv (!q150))
  (some (bv false))
  ((loadN 2 h136 (pv h120.n 0)).bind fun c152 =>
  (c152[0]?).bind fun x153 =>
  (c152[1]?).bind fun x154 =>
  if c152.length = 2 then
  (loadN 2 h136 (pv 0 0)).bind fun c155 =>
  (c155[0]?).bind fun x156 =>
  (c155[1]?).bind fun x157 =>
  if c155.length = 2 then
  bif ([.agg [x156, x157]].all offV) then
  (frzVs h136 [.agg [x156, x157]]).bind fun l158 =>
  (pureV (call Ev) Fn.laws_toLog (normVs [] l158)).bind fun v159 =>
  gVA v159 fun c160 =>
  (c160[0]?).bind fun x161 =>
  gF x161 fun z162 =>
  (c160[1]?).bind fun x163 =>
  gF x163 fun z164 =>
  if c160.length = 2 then
  hchk h136 h136 (
  (frzVs h136 [.agg [x153, x154], .agg [.fs z162, .fs z164]]).bind fun l165 =>
  pcallS (call Ev) Fn.laws_eqLog (normVs [] l165) fun v166 =>
  gV1 v166 fun x167 =>
  gB x167 fun q168 =>
  hchk h136 h136 (
  hchk h136 h136 (
  vcase (bv (!q168))
  (some (bv false))
  ((loadN 2 h136 (pv h120.n 0)).bind fun c170 =>
  (c170[0]?).bind fun x171 =>
  (c170[1]?).bind fun x172 =>
  if c170.length = 2 then
  (call Ev Fn.laws_markLog [.agg [x171, x172], iv .i64 1] h136).bind fun p173 =>
  gV1 p173.1 fun x174 =>
  gI .i64 x174 fun i175 =>
  vcase (bv (decide (i175 < 0)))
  (Jn.laws_FnExactSyncLog_0 true h136 p173 h130)
  ((loadN 3 (tidy h136 [p173.1] p173.2) (pv h130.n 0)).bind fun c178 =>
  (c178[0]?).bind fun x179 =>
  gI .i64 x179 fun i180 =>
  (c178[1]?).bind fun x181 =>
  (c178[2]?).bind fun x182 =>
  if c178.length = 3 then
  (loadN 3 (tidy h136 [p173.1] p173.2) (pv 1 0)).bind fun c183 =>
  (c183[0]?).bind fun x184 =>
  gI .i64 x184 fun i185 =>
  (c183[1]?).bind fun x186 =>
  (c183[2]?).bind fun x187 =>
  if c183.length = 3 then
  (frzVs (tidy h136 [p173.1] p173.2) [.agg [.int .i64 i180, x181, x182], .agg [.int .i64 i185, x186, x187]]).bind fun l188 =>
  pcallS (call Ev) Fn.laws_eqLogResult (normVs [] l188) fun v189 =>
  gV1 v189 fun x190 =>
  gB x190 fun q191 =>
  Jn.laws_FnExactSyncLog_0 (!q191) h136 p173 h130
  else none
  else none)
  else none))))
  else none
  else none
  else none
  else none)
  else none
  else none
  else none
  else none
  else none
  else none
  else none) := by
  rw [pure_eq]; kernel_rfl

theorem pu_spec_l5Crash (a0_0 : List (List S)) (a0_1 : List (List S)) (a1 : Int) : pureV (call Ev) Fn.spec_l5Crash [.agg [.fs a0_0, .fs a0_1], iv .i64 a1] =
  slF 1 a0_1 none (some (iv .i64 a1)) fun z101 =>
  pcallF (call Ev) Fn.spec_l2Copy true [lv a0_0] (((D 0).new 0 [.fs a0_0, .fs a0_1]).new 0 [.sl none 0, .sl none 0]) fun v102 h103 =>
  hchk (((D 0).new 0 [.fs a0_0, .fs a0_1]).new 0 [.sl none 0, .sl none 0]) h103 (
  (appS 1 h103 v102 (lv z101)).bind fun p104 =>
  (frzVs p104.2 [p104.1]).bind fun l105 =>
  pcallF (call Ev) Fn.spec_l5Read ([p104.1].all offV) (normVs [] l105) p104.2 fun v106 h107 =>
  gVT v106 fun u108 =>
  (u108[0]?).bind fun t109 =>
  gA1 t109 fun x110 =>
  (u108[1]?).bind fun t111 =>
  gA1 t111 fun x112 =>
  gI .i64 x112 fun i113 =>
  if u108.length = 2 then
  slK 1 h107 p104.1 none (some (iv .i64 i113)) fun v114 =>
  cellsK v114 fun c115 =>
  if c115.length = 1 ∧ 0 + 1 ≤ ([.sl none 0, .sl none 0] : List S).length then
  ((setAt ([.sl none 0, .sl none 0] : List S) 0 c115)[0]?).bind fun x116 =>
  ((setAt ([.sl none 0, .sl none 0] : List S) 0 c115)[1]?).bind fun x117 =>
  if (setAt ([.sl none 0, .sl none 0] : List S) 0 c115).length = 2 then
  stK 2 h107 (pv 1 0) (.agg [x116, x117]) fun h118 =>
  (loadN 2 h118 (pv 1 0)).bind fun c119 =>
  frzV h118 (.agg c119)
  else none
  else none
  else none) := by
  rw [pure_eq]; kernel_rfl

theorem pu_spec_CrashLog (a0_0 : List (List S)) (a0_1 : List (List S)) (a1 : Int) : pureV (call Ev) Fn.spec_CrashLog [.agg [.fs a0_0, .fs a0_1], iv .i64 a1] =
  pcallS (call Ev) Fn.spec_l5Fault [fv [.fs a0_0, .fs a0_1] 0] fun v101 =>
  gV1 v101 fun x102 =>
  gI .i64 x102 fun i103 =>
  vcase (bv (i103 != 0))
  (some (.agg [.int .i64 i103, .fs [], .fs []]))
  (pcallS (call Ev) Fn.spec_l1In [iv .i64 a1, iv .i64 0, iv .i64 (a0_1.length : Int)] fun v105 =>
  gV1 v105 fun x106 =>
  gB x106 fun q107 =>
  vcase (bv (!q107))
  (some (.agg [.int .i64 3, .fs [], .fs []]))
  ((pureV (call Ev) Fn.spec_l5Crash [.agg [.fs a0_0, .fs a0_1], iv .i64 a1]).bind fun v109 =>
  gVA v109 fun c110 =>
  (c110[0]?).bind fun x111 =>
  gF x111 fun z112 =>
  (c110[1]?).bind fun x113 =>
  gF x113 fun z114 =>
  if c110.length = 2 then
  some (.agg [.int .i64 0, .fs z112, .fs z114])
  else none)) := by
  rw [pure_eq]; kernel_rfl

theorem eq_impl_CrashLog (a0_0 : List (List S)) (a0_1 : List (List S)) (a1 : Int) (n : Nat) : call Ev Fn.impl_CrashLog [.agg [.fs a0_0, .fs a0_1], iv .i64 a1] (D n) =
  (loadN 2 (((D n).new 0 [.fs a0_0, .fs a0_1]).new 0 [.int .i64 0, .sl none 0, .sl none 0]) (pv ((D n).n) 0)).bind fun c101 =>
  (c101[0]?).bind fun x102 =>
  (c101[1]?).bind fun x103 =>
  if c101.length = 2 then
  (frzVs (((D n).new 0 [.fs a0_0, .fs a0_1]).new 0 [.int .i64 0, .sl none 0, .sl none 0]) [.agg [x102, x103]]).bind fun l104 =>
  pcallS (call Ev) Fn.impl_LogFault (normVs [] l104) fun v105 =>
  gV1 v105 fun x106 =>
  gI .i64 x106 fun i107 =>
  vcase (bv (i107 != 0))
  (stK 3 (((D n).new 0 [.fs a0_0, .fs a0_1]).new 0 [.int .i64 0, .sl none 0, .sl none 0]) (pv (((D n).new 0 [.fs a0_0, .fs a0_1]).n) 0) (.agg [.int .i64 i107, .sl none 0, .sl none 0]) fun h109 =>
  (loadN 3 h109 (pv (((D n).new 0 [.fs a0_0, .fs a0_1]).n) 0)).bind fun c110 =>
  some (.agg c110, h109))
  ((load1 (((D n).new 0 [.fs a0_0, .fs a0_1]).new 0 [.int .i64 0, .sl none 0, .sl none 0]) (pv ((D n).n) 1)).bind fun x111 =>
  (lenV (.sl 5) (.s x111)).bind fun v112 =>
  gV1 v112 fun x113 =>
  gI .i64 x113 fun i114 =>
  pcallS (call Ev) Fn.impl_in [iv .i64 a1, iv .i64 0, iv .i64 i114] fun v115 =>
  gV1 v115 fun x116 =>
  gB x116 fun q117 =>
  vcase (bv (!q117))
  (stK 3 (((D n).new 0 [.fs a0_0, .fs a0_1]).new 0 [.int .i64 0, .sl none 0, .sl none 0]) (pv (((D n).new 0 [.fs a0_0, .fs a0_1]).n) 0) (.agg [.int .i64 3, .sl none 0, .sl none 0]) fun h119 =>
  (loadN 3 h119 (pv (((D n).new 0 [.fs a0_0, .fs a0_1]).n) 0)).bind fun c120 =>
  some (.agg c120, h119))
  ((load1 (((D n).new 0 [.fs a0_0, .fs a0_1]).new 0 [.int .i64 0, .sl none 0, .sl none 0]) (pv ((D n).n) 0)).bind fun x121 =>
  (load1 (((D n).new 0 [.fs a0_0, .fs a0_1]).new 0 [.int .i64 0, .sl none 0, .sl none 0]) (pv ((D n).n) 1)).bind fun x122 =>
  slK 1 (((D n).new 0 [.fs a0_0, .fs a0_1]).new 0 [.int .i64 0, .sl none 0, .sl none 0]) (.s x122) none (some (iv .i64 a1)) fun v123 =>
  (frzVs (((D n).new 0 [.fs a0_0, .fs a0_1]).new 0 [.int .i64 0, .sl none 0, .sl none 0]) [.s x121]).bind fun l124 =>
  pcallF (call Ev) Fn.impl_copied ([.s x121].all offV) (normVs [] l124) (((D n).new 0 [.fs a0_0, .fs a0_1]).new 0 [.int .i64 0, .sl none 0, .sl none 0]) fun v125 h126 =>
  hchk (((D n).new 0 [.fs a0_0, .fs a0_1]).new 0 [.int .i64 0, .sl none 0, .sl none 0]) h126 (
  (appS 1 h126 v125 v123).bind fun p127 =>
  (frzVs p127.2 [p127.1]).bind fun l128 =>
  pcallF (call Ev) Fn.impl_readAll ([p127.1].all offV) (normVs [] l128) p127.2 fun v129 h130 =>
  gVT v129 fun u131 =>
  (u131[0]?).bind fun t132 =>
  gA1 t132 fun x133 =>
  (u131[1]?).bind fun t134 =>
  gA1 t134 fun x135 =>
  gI .i64 x135 fun i136 =>
  if u131.length = 2 then
  slK 1 h130 p127.1 none (some (iv .i64 i136)) fun v137 =>
  (frzVs h130 [v137]).bind fun l138 =>
  pcallF (call Ev) Fn.impl_copied ([v137].all offV) (normVs [] l138) h130 fun v139 h140 =>
  cellsK v139 fun c141 =>
  if c141.length = 1 ∧ 0 + 1 ≤ ([.sl none 0, .sl none 0] : List S).length then
  ((setAt ([.sl none 0, .sl none 0] : List S) 0 c141)[0]?).bind fun x142 =>
  ((setAt ([.sl none 0, .sl none 0] : List S) 0 c141)[1]?).bind fun x143 =>
  if (setAt ([.sl none 0, .sl none 0] : List S) 0 c141).length = 2 then
  stK 3 h140 (pv (((D n).new 0 [.fs a0_0, .fs a0_1]).n) 0) (.agg [.int .i64 0, x142, x143]) fun h144 =>
  (loadN 3 h144 (pv (((D n).new 0 [.fs a0_0, .fs a0_1]).n) 0)).bind fun c145 =>
  some (.agg c145, h144)
  else none
  else none
  else none)))
  else none := by
  rw [call_eq]; kernel_rfl

noncomputable def Jn.laws_FnExactCrashLog_0 (q259 : Bool) (h136 : H) (p173 : V × H) (h130 : H) (a1 : Int) : Option (V) :=
  vcase (bv q259)
  (some (bv false))
  ((loadN 3 (tidy h136 [p173.1] p173.2) (pv h130.n 0)).bind fun c261 =>
  (c261[0]?).bind fun x262 =>
  gI .i64 x262 fun i263 =>
  (c261[1]?).bind fun x264 =>
  (c261[2]?).bind fun x265 =>
  if c261.length = 3 then
  (call Ev Fn.laws_markLogResult [.agg [.int .i64 i263, x264, x265], iv .i64 1] (tidy h136 [p173.1] p173.2)).bind fun p266 =>
  gV1 p266.1 fun x267 =>
  gI .i64 x267 fun i268 =>
  (loadN 3 (tidy (tidy h136 [p173.1] p173.2) [p266.1] p266.2) (pv h130.n 0)).bind fun c269 =>
  (c269[0]?).bind fun x270 =>
  gI .i64 x270 fun i271 =>
  (c269[1]?).bind fun x272 =>
  (c269[2]?).bind fun x273 =>
  if c269.length = 3 then
  (frzVs (tidy (tidy h136 [p173.1] p173.2) [p266.1] p266.2) [.agg [.int .i64 i271, x272, x273], iv .i64 1]).bind fun l274 =>
  pcallS (call Ev) Fn.laws_heldLogResult (normVs [] l274) fun v275 =>
  gV1 v275 fun x276 =>
  gI .i64 x276 fun i277 =>
  vcase (bv (decide (i277 < 0)))
  (some (bv false))
  (vcase (bv (i277 != i268))
  (some (bv false))
  ((loadN 2 (tidy (tidy h136 [p173.1] p173.2) [p266.1] p266.2) (pv 0 0)).bind fun c280 =>
  (c280[0]?).bind fun x281 =>
  (c280[1]?).bind fun x282 =>
  if c280.length = 2 then
  bif ([.agg [x281, x282]].all offV) then
  (frzVs (tidy (tidy h136 [p173.1] p173.2) [p266.1] p266.2) [.agg [x281, x282]]).bind fun l283 =>
  (pureV (call Ev) Fn.laws_toLog (normVs [] l283)).bind fun v284 =>
  gVA v284 fun c285 =>
  (c285[0]?).bind fun x286 =>
  gF x286 fun z287 =>
  (c285[1]?).bind fun x288 =>
  gF x288 fun z289 =>
  if c285.length = 2 then
  (pureV (call Ev) Fn.impl_CrashLog [.agg [.fs z287, .fs z289], iv .i64 a1]).bind fun v290 =>
  gVA v290 fun c291 =>
  (c291[0]?).bind fun x292 =>
  gI .i64 x292 fun i293 =>
  (c291[1]?).bind fun x294 =>
  gF x294 fun z295 =>
  (c291[2]?).bind fun x296 =>
  gF x296 fun z297 =>
  if c291.length = 3 then
  stK 3 ((tidy (tidy h136 [p173.1] p173.2) [p266.1] p266.2).new 0 [.int .i64 0, .sl none 0, .sl none 0]) (pv ((tidy (tidy h136 [p173.1] p173.2) [p266.1] p266.2).n) 0) (.agg [.int .i64 i293, .fs z295, .fs z297]) fun h298 =>
  (loadN 3 h298 (pv ((tidy (tidy h136 [p173.1] p173.2) [p266.1] p266.2).n) 0)).bind fun c299 =>
  (c299[0]?).bind fun x300 =>
  gI .i64 x300 fun i301 =>
  (c299[1]?).bind fun x302 =>
  (c299[2]?).bind fun x303 =>
  if c299.length = 3 then
  (loadN 3 h298 (pv 1 0)).bind fun c304 =>
  (c304[0]?).bind fun x305 =>
  gI .i64 x305 fun i306 =>
  (c304[1]?).bind fun x307 =>
  (c304[2]?).bind fun x308 =>
  if c304.length = 3 then
  (frzVs h298 [.agg [.int .i64 i301, x302, x303], .agg [.int .i64 i306, x307, x308]]).bind fun l309 =>
  pcallS (call Ev) Fn.laws_eqLogResult (normVs [] l309) fun v310 =>
  gV1 v310 fun x311 =>
  gB x311 fun q312 =>
  vcase (bv (!q312))
  (some (bv false))
  ((loadN 3 h298 (pv h130.n 0)).bind fun c314 =>
  (c314[0]?).bind fun x315 =>
  gI .i64 x315 fun i316 =>
  (c314[1]?).bind fun x317 =>
  (c314[2]?).bind fun x318 =>
  if c314.length = 3 then
  (frzVs h298 [.agg [.int .i64 i316, x317, x318], iv .i64 1]).bind fun l319 =>
  pcallS (call Ev) Fn.laws_heldLogResult (normVs [] l319) fun v320 =>
  gV1 v320 fun x321 =>
  gI .i64 x321 fun i322 =>
  vcase (bv (decide (i322 < 0)))
  (some (bv false))
  (vcase (bv (i322 != i268))
  (some (bv false))
  (some (bv true)))
  else none)
  else none
  else none
  else none
  else none
  else none
  else none))
  else none
  else none)

theorem pu_laws_FnExactCrashLog (a0_0 : List (List S)) (a0_1 : List (List S)) (a1 : Int) : pureV (call Ev) Fn.laws_FnExactCrashLog [.agg [.fs a0_0, .fs a0_1], iv .i64 a1] =
  pcallS (call Ev) Fn.laws_szLog [.agg [.fs a0_0, .fs a0_1], iv .i64 1048576] fun v101 =>
  gV1 v101 fun x102 =>
  gI .i64 x102 fun i103 =>
  vcase (bv (decide (i103 < 0)))
  (some (bv true))
  ((pureV (call Ev) Fn.laws_toLog [.agg [.fs a0_0, .fs a0_1]]).bind fun v105 =>
  gVA v105 fun c106 =>
  (c106[0]?).bind fun x107 =>
  gF x107 fun z108 =>
  (c106[1]?).bind fun x109 =>
  gF x109 fun z110 =>
  if c106.length = 2 then
  (pureV (call Ev) Fn.spec_CrashLog [.agg [.fs z108, .fs z110], iv .i64 a1]).bind fun v111 =>
  gVA v111 fun c112 =>
  (c112[0]?).bind fun x113 =>
  gI .i64 x113 fun i114 =>
  (c112[1]?).bind fun x115 =>
  gF x115 fun z116 =>
  (c112[2]?).bind fun x117 =>
  gF x117 fun z118 =>
  if c112.length = 3 then
  pcallF (call Ev) Fn.laws_toLog true [.agg [.fs a0_0, .fs a0_1]] ((((D 0).new 0 [.fs a0_0, .fs a0_1]).new 0 [.int .i64 0, .sl none 0, .sl none 0]).put 1 (.rw 0 [.int .i64 i114, .fs z116, .fs z118])) fun v119 h120 =>
  gVA v119 fun c121 =>
  (c121[0]?).bind fun x122 =>
  (c121[1]?).bind fun x123 =>
  if c121.length = 2 then
  stK 2 (h120.new 0 [.sl none 0, .sl none 0]) (pv h120.n 0) (.agg [x122, x123]) fun h124 =>
  (loadN 2 h124 (pv h120.n 0)).bind fun c125 =>
  (c125[0]?).bind fun x126 =>
  (c125[1]?).bind fun x127 =>
  if c125.length = 2 then
  (frzVs h124 [.agg [x126, x127], iv .i64 a1]).bind fun l128 =>
  pcallF (call Ev) Fn.impl_CrashLog ([.agg [x126, x127], iv .i64 a1].all offV) (normVs [] l128) h124 fun v129 h130 =>
  gVA v129 fun c131 =>
  (c131[0]?).bind fun x132 =>
  gI .i64 x132 fun i133 =>
  (c131[1]?).bind fun x134 =>
  (c131[2]?).bind fun x135 =>
  if c131.length = 3 then
  stK 3 (h130.new 0 [.int .i64 0, .sl none 0, .sl none 0]) (pv h130.n 0) (.agg [.int .i64 i133, x134, x135]) fun h136 =>
  (loadN 3 h136 (pv h130.n 0)).bind fun c137 =>
  (c137[0]?).bind fun x138 =>
  gI .i64 x138 fun i139 =>
  (c137[1]?).bind fun x140 =>
  (c137[2]?).bind fun x141 =>
  if c137.length = 3 then
  (loadN 3 h136 (pv 1 0)).bind fun c142 =>
  (c142[0]?).bind fun x143 =>
  gI .i64 x143 fun i144 =>
  (c142[1]?).bind fun x145 =>
  (c142[2]?).bind fun x146 =>
  if c142.length = 3 then
  (frzVs h136 [.agg [.int .i64 i139, x140, x141], .agg [.int .i64 i144, x145, x146]]).bind fun l147 =>
  pcallS (call Ev) Fn.laws_eqLogResult (normVs [] l147) fun v148 =>
  gV1 v148 fun x149 =>
  gB x149 fun q150 =>
  vcase (bv (!q150))
  (some (bv false))
  ((loadN 2 h136 (pv h120.n 0)).bind fun c152 =>
  (c152[0]?).bind fun x153 =>
  (c152[1]?).bind fun x154 =>
  if c152.length = 2 then
  (loadN 2 h136 (pv 0 0)).bind fun c155 =>
  (c155[0]?).bind fun x156 =>
  (c155[1]?).bind fun x157 =>
  if c155.length = 2 then
  bif ([.agg [x156, x157]].all offV) then
  (frzVs h136 [.agg [x156, x157]]).bind fun l158 =>
  (pureV (call Ev) Fn.laws_toLog (normVs [] l158)).bind fun v159 =>
  gVA v159 fun c160 =>
  (c160[0]?).bind fun x161 =>
  gF x161 fun z162 =>
  (c160[1]?).bind fun x163 =>
  gF x163 fun z164 =>
  if c160.length = 2 then
  hchk h136 h136 (
  (frzVs h136 [.agg [x153, x154], .agg [.fs z162, .fs z164]]).bind fun l165 =>
  pcallS (call Ev) Fn.laws_eqLog (normVs [] l165) fun v166 =>
  gV1 v166 fun x167 =>
  gB x167 fun q168 =>
  hchk h136 h136 (
  hchk h136 h136 (
  vcase (bv (!q168))
  (some (bv false))
  ((loadN 2 h136 (pv h120.n 0)).bind fun c170 =>
  (c170[0]?).bind fun x171 =>
  (c170[1]?).bind fun x172 =>
  if c170.length = 2 then
  (call Ev Fn.laws_markLog [.agg [x171, x172], iv .i64 1] h136).bind fun p173 =>
  gV1 p173.1 fun x174 =>
  gI .i64 x174 fun i175 =>
  vcase (bv (decide (i175 < 0)))
  (Jn.laws_FnExactCrashLog_0 true h136 p173 h130 a1)
  ((loadN 3 (tidy h136 [p173.1] p173.2) (pv h130.n 0)).bind fun c178 =>
  (c178[0]?).bind fun x179 =>
  gI .i64 x179 fun i180 =>
  (c178[1]?).bind fun x181 =>
  (c178[2]?).bind fun x182 =>
  if c178.length = 3 then
  (loadN 3 (tidy h136 [p173.1] p173.2) (pv 1 0)).bind fun c183 =>
  (c183[0]?).bind fun x184 =>
  gI .i64 x184 fun i185 =>
  (c183[1]?).bind fun x186 =>
  (c183[2]?).bind fun x187 =>
  if c183.length = 3 then
  (frzVs (tidy h136 [p173.1] p173.2) [.agg [.int .i64 i180, x181, x182], .agg [.int .i64 i185, x186, x187]]).bind fun l188 =>
  pcallS (call Ev) Fn.laws_eqLogResult (normVs [] l188) fun v189 =>
  gV1 v189 fun x190 =>
  gB x190 fun q191 =>
  Jn.laws_FnExactCrashLog_0 (!q191) h136 p173 h130 a1
  else none
  else none)
  else none))))
  else none
  else none
  else none
  else none)
  else none
  else none
  else none
  else none
  else none
  else none
  else none) := by
  rw [pure_eq]; kernel_rfl

theorem pu_spec_ReadLog (a0 : List (List S)) : pureV (call Ev) Fn.spec_ReadLog [lv a0] =
  vcase (bv (decide ((a0.length : Int) > 16000)))
  (some (.agg [.int .i64 2, .int .i64 0, .fs []]))
  ((pureV (call Ev) Fn.spec_l5Read [lv a0]).bind fun v102 =>
  gVT v102 fun u103 =>
  (u103[0]?).bind fun t104 =>
  gA1 t104 fun x105 =>
  gF x105 fun z106 =>
  (u103[1]?).bind fun t107 =>
  gA1 t107 fun x108 =>
  gI .i64 x108 fun i109 =>
  if u103.length = 2 then
  some (.agg [.int .i64 0, .int .i64 i109, .fs z106])
  else none) := by
  rw [pure_eq]; kernel_rfl

theorem eq_impl_ReadLog (a0 : List (List S)) (n : Nat) : call Ev Fn.impl_ReadLog [lv a0] (D n) =
  vcase (bv (decide ((a0.length : Int) > 16000)))
  (stK 3 ((D n).new 0 [.int .i64 0, .int .i64 0, .sl none 0]) (pv ((D n).n) 0) (.agg [.int .i64 2, .int .i64 0, .sl none 0]) fun h102 =>
  (loadN 3 h102 (pv ((D n).n) 0)).bind fun c103 =>
  some (.agg c103, h102))
  (pcallF (call Ev) Fn.impl_readAll true [lv a0] ((D n).new 0 [.int .i64 0, .int .i64 0, .sl none 0]) fun v104 h105 =>
  gVT v104 fun u106 =>
  (u106[0]?).bind fun t107 =>
  gA1 t107 fun x108 =>
  (u106[1]?).bind fun t109 =>
  gA1 t109 fun x110 =>
  gI .i64 x110 fun i111 =>
  if u106.length = 2 then
  bif isNo x108 then none else
  stK 3 h105 (pv ((D n).n) 0) (.agg [.int .i64 0, .int .i64 i111, x108]) fun h112 =>
  (loadN 3 h112 (pv ((D n).n) 0)).bind fun c113 =>
  some (.agg c113, h112)
  else none) := by
  rw [call_eq]; kernel_rfl

theorem pu_laws_eqRecordsResult (a0_0 : Int) (a0_1 : Int) (a0_2 : List (List S)) (a1_0 : Int) (a1_1 : Int) (a1_2 : List (List S)) : pureV (call Ev) Fn.laws_eqRecordsResult [.agg [.int .i64 a0_0, .int .i64 a0_1, .fs a0_2], .agg [.int .i64 a1_0, .int .i64 a1_1, .fs a1_2]] =
  vcase (bv (a0_0 != a1_0))
  (some (bv false))
  (vcase (bv (a0_1 != a1_1))
  (some (bv false))
  (pcallS (call Ev) Fn.laws_eqRecordS [lv a0_2, lv a1_2] fun v103 =>
  gV1 v103 fun x104 =>
  gB x104 fun q105 =>
  vcase (bv (!q105))
  (some (bv false))
  (some (bv true)))) := by
  rw [pure_eq]; kernel_rfl

theorem eq_laws_markRecordS (a0 : V) (a1 : Int) (h : H) : call Ev Fn.laws_markRecordS [a0, iv .i64 a1] h =
  (Lp.laws_markRecordS 0 [a0, iv .i64 a1, iv .i64 0] h).bind fun o101 => lcase o101 (fun l102 h103 =>
  (l102[0]?).bind fun w106 =>
  gV1 w106 fun x107 =>
  gI .i64 x107 fun i108 =>
  some (iv .i64 i108, h103)) (fun v104 h105 =>
  some (v104, h105)) := by
  rw [call_eq]; kernel_rfl

theorem eq_laws_markRecordS_l0 (s0 : V) (s1 : Int) (s5 : Int) (h : H) : Lp.laws_markRecordS 0 [s0, iv .i64 s1, iv .i64 s5] h =
  (lenV (.sl 29) s0).bind fun v201 =>
  gV1 v201 fun x202 =>
  gI .i64 x202 fun i203 =>
  vcase (bv (decide (s5 < i203)))
  (idxK 4 s0 (iv .i64 s5) fun v206 =>
  (padd 0 v206).bind fun v207 =>
  stK 1 h v207 (iv .i64 s1) fun h208 =>
  idxK 4 s0 (iv .i64 s5) fun v209 =>
  (padd 1 v209).bind fun v210 =>
  stK 1 h208 v210 (iv .i64 (IntKind.i64.wrap (s1 + 1))) fun h211 =>
  idxK 4 s0 (iv .i64 s5) fun v212 =>
  (padd 2 v212).bind fun v213 =>
  stK 1 h211 v213 (iv .i64 (IntKind.i64.wrap ((IntKind.i64.wrap (s1 + 1)) + 1))) fun h214 =>
  idxK 4 s0 (iv .i64 s5) fun v215 =>
  (padd 3 v215).bind fun v216 =>
  ldK (.one (.f)) ⟨1, 24, [.sl none 0], false, .sl 89, false⟩ h214 v216 fun v217 =>
  (call Ev Fn.laws_markRunS [v217, iv .i64 (IntKind.i64.wrap ((IntKind.i64.wrap ((IntKind.i64.wrap (s1 + 1)) + 1)) + 1))] h214).bind fun p218 =>
  gV1 p218.1 fun x219 =>
  gI .i64 x219 fun i220 =>
  Lp.laws_markRecordS 0 [s0, iv .i64 i220, iv .i64 (IntKind.i64.wrap (s5 + 1))] (tidy h [s0, iv .i64 i220, iv .i64 (IntKind.i64.wrap (s5 + 1))] (tidy h214 [p218.1] p218.2)))
  (some (.done [iv .i64 s1] (tidy h [iv .i64 s1] h))) := by
  unfold Lp.laws_markRecordS; rw [loop_eq]; kernel_rfl

theorem eq_laws_markRecordsResult (a0_0 : Int) (a0_1 : Int) (a0_2 : S) (a1 : Int) (h : H) : call Ev Fn.laws_markRecordsResult [.agg [.int .i64 a0_0, .int .i64 a0_1, a0_2], iv .i64 a1] h =
  (load1 (h.new 0 [.int .i64 a0_0, .int .i64 a0_1, a0_2]) (pv h.n 2)).bind fun x101 =>
  (call Ev Fn.laws_markRecordS [.s x101, iv .i64 a1] (h.new 0 [.int .i64 a0_0, .int .i64 a0_1, a0_2])).bind fun p102 =>
  gV1 p102.1 fun x103 =>
  gI .i64 x103 fun i104 =>
  some (iv .i64 i104, tidy (h.new 0 [.int .i64 a0_0, .int .i64 a0_1, a0_2]) [p102.1] p102.2) := by
  rw [call_eq]; kernel_rfl

theorem pu_laws_heldRecordS (a0 : List (List S)) (a1 : Int) : pureV (call Ev) Fn.laws_heldRecordS [lv a0, iv .i64 a1] =
  (Lp.laws_heldRecordS 0 [lv a0, iv .i64 a1, iv .i64 0] (D 0)).bind fun o101 => lcase o101 (fun l102 h103 =>
  (l102[0]?).bind fun w106 =>
  gV1 w106 fun x107 =>
  gI .i64 x107 fun i108 =>
  some (iv .i64 i108)) (fun v104 h105 =>
  frzV h105 v104) := by
  rw [pure_eq]; kernel_rfl

theorem eq_laws_heldRecordS_l0 (s0 : List (List S)) (s1 : Int) (s5 : Int) (h : H) : Lp.laws_heldRecordS 0 [lv s0, iv .i64 s1, iv .i64 s5] h =
  vcase (bv (decide (s5 < (s0.length : Int))))
  (idxF 4 s0 s5 fun r203 =>
  (r203[0]?).bind fun x204 =>
  gI .i64 x204 fun i205 =>
  vcase (bv (i205 != s1))
  (some (.ret (iv .i64 (-1)) h))
  (idxF 4 s0 s5 fun r207 =>
  (r207[1]?).bind fun x208 =>
  gI .i64 x208 fun i209 =>
  vcase (bv (i209 != (IntKind.i64.wrap (s1 + 1))))
  (some (.ret (iv .i64 (-1)) h))
  (idxF 4 s0 s5 fun r211 =>
  (r211[2]?).bind fun x212 =>
  gI .i64 x212 fun i213 =>
  vcase (bv (i213 != (IntKind.i64.wrap ((IntKind.i64.wrap (s1 + 1)) + 1))))
  (some (.ret (iv .i64 (-1)) h))
  (idxF 4 s0 s5 fun r215 =>
  (r215[3]?).bind fun x216 =>
  gF x216 fun z217 =>
  pcallS (call Ev) Fn.laws_heldRunS [lv z217, iv .i64 (IntKind.i64.wrap ((IntKind.i64.wrap ((IntKind.i64.wrap (s1 + 1)) + 1)) + 1))] fun v218 =>
  gV1 v218 fun x219 =>
  gI .i64 x219 fun i220 =>
  vcase (bv (decide (i220 < 0)))
  (some (.ret (iv .i64 (-1)) h))
  (Lp.laws_heldRecordS 0 [lv s0, iv .i64 i220, iv .i64 (IntKind.i64.wrap (s5 + 1))] (tidy h [lv s0, iv .i64 i220, iv .i64 (IntKind.i64.wrap (s5 + 1))] h))))))
  (some (.done [iv .i64 s1] (tidy h [iv .i64 s1] h))) := by
  unfold Lp.laws_heldRecordS; rw [loop_eq]; kernel_rfl

theorem pu_laws_heldRecordsResult (a0_0 : Int) (a0_1 : Int) (a0_2 : List (List S)) (a1 : Int) : pureV (call Ev) Fn.laws_heldRecordsResult [.agg [.int .i64 a0_0, .int .i64 a0_1, .fs a0_2], iv .i64 a1] =
  pcallS (call Ev) Fn.laws_heldRecordS [lv a0_2, iv .i64 a1] fun v101 =>
  gV1 v101 fun x102 =>
  gI .i64 x102 fun i103 =>
  vcase (bv (decide (i103 < 0)))
  (some (iv .i64 (-1)))
  (some (iv .i64 i103)) := by
  rw [pure_eq]; kernel_rfl

noncomputable def Jn.laws_FnExactReadLog_0 (q236 : Bool) (h124 : H) (p150 : V × H) (h117 : H) (a0 : List (List S)) : Option (V) :=
  vcase (bv q236)
  (some (bv false))
  ((loadN 3 (tidy h124 [p150.1] p150.2) (pv h117.n 0)).bind fun c238 =>
  (c238[0]?).bind fun x239 =>
  gI .i64 x239 fun i240 =>
  (c238[1]?).bind fun x241 =>
  gI .i64 x241 fun i242 =>
  (c238[2]?).bind fun x243 =>
  if c238.length = 3 then
  (call Ev Fn.laws_markRecordsResult [.agg [.int .i64 i240, .int .i64 i242, x243], iv .i64 1] (tidy h124 [p150.1] p150.2)).bind fun p244 =>
  gV1 p244.1 fun x245 =>
  gI .i64 x245 fun i246 =>
  (loadN 3 (tidy (tidy h124 [p150.1] p150.2) [p244.1] p244.2) (pv h117.n 0)).bind fun c247 =>
  (c247[0]?).bind fun x248 =>
  gI .i64 x248 fun i249 =>
  (c247[1]?).bind fun x250 =>
  gI .i64 x250 fun i251 =>
  (c247[2]?).bind fun x252 =>
  if c247.length = 3 then
  (frzVs (tidy (tidy h124 [p150.1] p150.2) [p244.1] p244.2) [.agg [.int .i64 i249, .int .i64 i251, x252], iv .i64 1]).bind fun l253 =>
  pcallS (call Ev) Fn.laws_heldRecordsResult (normVs [] l253) fun v254 =>
  gV1 v254 fun x255 =>
  gI .i64 x255 fun i256 =>
  vcase (bv (decide (i256 < 0)))
  (some (bv false))
  (vcase (bv (i256 != i246))
  (some (bv false))
  ((pureV (call Ev) Fn.laws_toByteS [lv a0]).bind fun v259 =>
  gV1 v259 fun x260 =>
  gF x260 fun z261 =>
  (pureV (call Ev) Fn.impl_ReadLog [lv z261]).bind fun v262 =>
  gVA v262 fun c263 =>
  (c263[0]?).bind fun x264 =>
  gI .i64 x264 fun i265 =>
  (c263[1]?).bind fun x266 =>
  gI .i64 x266 fun i267 =>
  (c263[2]?).bind fun x268 =>
  gF x268 fun z269 =>
  if c263.length = 3 then
  stK 3 ((tidy (tidy h124 [p150.1] p150.2) [p244.1] p244.2).new 0 [.int .i64 0, .int .i64 0, .sl none 0]) (pv ((tidy (tidy h124 [p150.1] p150.2) [p244.1] p244.2).n) 0) (.agg [.int .i64 i265, .int .i64 i267, .fs z269]) fun h270 =>
  (loadN 3 h270 (pv ((tidy (tidy h124 [p150.1] p150.2) [p244.1] p244.2).n) 0)).bind fun c271 =>
  (c271[0]?).bind fun x272 =>
  gI .i64 x272 fun i273 =>
  (c271[1]?).bind fun x274 =>
  gI .i64 x274 fun i275 =>
  (c271[2]?).bind fun x276 =>
  if c271.length = 3 then
  (loadN 3 h270 (pv 0 0)).bind fun c277 =>
  (c277[0]?).bind fun x278 =>
  gI .i64 x278 fun i279 =>
  (c277[1]?).bind fun x280 =>
  gI .i64 x280 fun i281 =>
  (c277[2]?).bind fun x282 =>
  if c277.length = 3 then
  (frzVs h270 [.agg [.int .i64 i273, .int .i64 i275, x276], .agg [.int .i64 i279, .int .i64 i281, x282]]).bind fun l283 =>
  pcallS (call Ev) Fn.laws_eqRecordsResult (normVs [] l283) fun v284 =>
  gV1 v284 fun x285 =>
  gB x285 fun q286 =>
  vcase (bv (!q286))
  (some (bv false))
  ((loadN 3 h270 (pv h117.n 0)).bind fun c288 =>
  (c288[0]?).bind fun x289 =>
  gI .i64 x289 fun i290 =>
  (c288[1]?).bind fun x291 =>
  gI .i64 x291 fun i292 =>
  (c288[2]?).bind fun x293 =>
  if c288.length = 3 then
  (frzVs h270 [.agg [.int .i64 i290, .int .i64 i292, x293], iv .i64 1]).bind fun l294 =>
  pcallS (call Ev) Fn.laws_heldRecordsResult (normVs [] l294) fun v295 =>
  gV1 v295 fun x296 =>
  gI .i64 x296 fun i297 =>
  vcase (bv (decide (i297 < 0)))
  (some (bv false))
  (vcase (bv (i297 != i246))
  (some (bv false))
  (some (bv true)))
  else none)
  else none
  else none
  else none))
  else none
  else none)

theorem pu_laws_FnExactReadLog (a0 : List (List S)) : pureV (call Ev) Fn.laws_FnExactReadLog [lv a0] =
  vcase (bv (decide ((a0.length : Int) > 1048576)))
  (some (bv true))
  ((pureV (call Ev) Fn.laws_toByteS [lv a0]).bind fun v102 =>
  gV1 v102 fun x103 =>
  gF x103 fun z104 =>
  (pureV (call Ev) Fn.spec_ReadLog [lv z104]).bind fun v105 =>
  gVA v105 fun c106 =>
  (c106[0]?).bind fun x107 =>
  gI .i64 x107 fun i108 =>
  (c106[1]?).bind fun x109 =>
  gI .i64 x109 fun i110 =>
  (c106[2]?).bind fun x111 =>
  gF x111 fun z112 =>
  if c106.length = 3 then
  pcallF (call Ev) Fn.laws_toByteS true [lv a0] (((D 0).new 0 [.int .i64 0, .int .i64 0, .sl none 0]).put 0 (.rw 0 [.int .i64 i108, .int .i64 i110, .fs z112])) fun v113 h114 =>
  (frzVs h114 [v113]).bind fun l115 =>
  pcallF (call Ev) Fn.impl_ReadLog ([v113].all offV) (normVs [] l115) h114 fun v116 h117 =>
  gVA v116 fun c118 =>
  (c118[0]?).bind fun x119 =>
  gI .i64 x119 fun i120 =>
  (c118[1]?).bind fun x121 =>
  gI .i64 x121 fun i122 =>
  (c118[2]?).bind fun x123 =>
  if c118.length = 3 then
  stK 3 (h117.new 0 [.int .i64 0, .int .i64 0, .sl none 0]) (pv h117.n 0) (.agg [.int .i64 i120, .int .i64 i122, x123]) fun h124 =>
  (loadN 3 h124 (pv h117.n 0)).bind fun c125 =>
  (c125[0]?).bind fun x126 =>
  gI .i64 x126 fun i127 =>
  (c125[1]?).bind fun x128 =>
  gI .i64 x128 fun i129 =>
  (c125[2]?).bind fun x130 =>
  if c125.length = 3 then
  (loadN 3 h124 (pv 0 0)).bind fun c131 =>
  (c131[0]?).bind fun x132 =>
  gI .i64 x132 fun i133 =>
  (c131[1]?).bind fun x134 =>
  gI .i64 x134 fun i135 =>
  (c131[2]?).bind fun x136 =>
  if c131.length = 3 then
  (frzVs h124 [.agg [.int .i64 i127, .int .i64 i129, x130], .agg [.int .i64 i133, .int .i64 i135, x136]]).bind fun l137 =>
  pcallS (call Ev) Fn.laws_eqRecordsResult (normVs [] l137) fun v138 =>
  gV1 v138 fun x139 =>
  gB x139 fun q140 =>
  vcase (bv (!q140))
  (some (bv false))
  ((pureV (call Ev) Fn.laws_toByteS [lv a0]).bind fun v142 =>
  gV1 v142 fun x143 =>
  gF x143 fun z144 =>
  (frzVs h124 [v113, lv z144]).bind fun l145 =>
  pcallS (call Ev) Fn.laws_eqByteS (normVs [] l145) fun v146 =>
  gV1 v146 fun x147 =>
  gB x147 fun q148 =>
  vcase (bv (!q148))
  (some (bv false))
  ((call Ev Fn.laws_markByteS [v113, iv .i64 1] h124).bind fun p150 =>
  gV1 p150.1 fun x151 =>
  gI .i64 x151 fun i152 =>
  vcase (bv (decide (i152 < 0)))
  (Jn.laws_FnExactReadLog_0 true h124 p150 h117 a0)
  ((loadN 3 (tidy h124 [p150.1] p150.2) (pv h117.n 0)).bind fun c155 =>
  (c155[0]?).bind fun x156 =>
  gI .i64 x156 fun i157 =>
  (c155[1]?).bind fun x158 =>
  gI .i64 x158 fun i159 =>
  (c155[2]?).bind fun x160 =>
  if c155.length = 3 then
  (loadN 3 (tidy h124 [p150.1] p150.2) (pv 0 0)).bind fun c161 =>
  (c161[0]?).bind fun x162 =>
  gI .i64 x162 fun i163 =>
  (c161[1]?).bind fun x164 =>
  gI .i64 x164 fun i165 =>
  (c161[2]?).bind fun x166 =>
  if c161.length = 3 then
  (frzVs (tidy h124 [p150.1] p150.2) [.agg [.int .i64 i157, .int .i64 i159, x160], .agg [.int .i64 i163, .int .i64 i165, x166]]).bind fun l167 =>
  pcallS (call Ev) Fn.laws_eqRecordsResult (normVs [] l167) fun v168 =>
  gV1 v168 fun x169 =>
  gB x169 fun q170 =>
  Jn.laws_FnExactReadLog_0 (!q170) h124 p150 h117 a0
  else none
  else none)))
  else none
  else none
  else none
  else none) := by
  rw [pure_eq]; kernel_rfl

theorem pu_spec_PackAll (a0 : List (List S)) : pureV (call Ev) Fn.spec_PackAll [lv a0] =
  (Lp.spec_PackAll 0 [lv a0, pv 0 0, sv 1 0 0, iv .i64 0] (((D 0).new 0 [.int .i64 0, .sl none 0]).new 1 [])).bind fun o101 => lcase o101 (fun l102 h103 =>
  (l102[0]?).bind fun w106 =>
  gV1 w106 fun x107 =>
  gF x107 fun z108 =>
  (l102[1]?).bind fun w109 =>
  (l102[2]?).bind fun w110 =>
  (Lp.spec_PackAll 2 [lv z108, w109, w110, iv .i64 0] h103).bind fun o111 => lcase o111 (fun l112 h113 =>
  (l112[0]?).bind fun w116 =>
  (l112[1]?).bind fun w117 =>
  (lenV (.sl 5) w117).bind fun v118 =>
  gV1 v118 fun x119 =>
  gI .i64 x119 fun i120 =>
  vcase (bv (decide (i120 > 16000)))
  (stK 2 h113 w116 (.agg [.int .i64 2, .sl none 0]) fun h122 =>
  ldT ⟨2, 32, [.int .i64 0, .sl none 0], true, .st [(0, 2), (1, 33)], false⟩ h122 w116 fun v123 =>
  frzV h122 v123)
  (cellsK w117 fun c124 =>
  if c124.length = 1 ∧ 1 + 1 ≤ ([.int .i64 0, .sl none 0] : List S).length then
  ((setAt ([.int .i64 0, .sl none 0] : List S) 1 c124)[0]?).bind fun x125 =>
  gI .i64 x125 fun i126 =>
  ((setAt ([.int .i64 0, .sl none 0] : List S) 1 c124)[1]?).bind fun x127 =>
  if (setAt ([.int .i64 0, .sl none 0] : List S) 1 c124).length = 2 then
  stK 2 h113 w116 (.agg [.int .i64 i126, x127]) fun h128 =>
  ldT ⟨2, 32, [.int .i64 0, .sl none 0], true, .st [(0, 2), (1, 33)], false⟩ h128 w116 fun v129 =>
  frzV h128 v129
  else none
  else none)) (fun v114 h115 =>
  frzV h115 v114)) (fun v104 h105 =>
  frzV h105 v104) := by
  rw [pure_eq]; kernel_rfl

theorem eq_spec_PackAll_l0 (s0 : List (List S)) (s2 : V) (s3 : V) (s4 : Int) (h : H) : Lp.spec_PackAll 0 [lv s0, s2, s3, iv .i64 s4] h =
  vcase (bv (decide (s4 < (s0.length : Int))))
  (idxF 4 s0 s4 fun r203 =>
  pcallS (call Ev) Fn.spec_l4Fault [normV 4 (fv r203 0)] fun v204 =>
  gV1 v204 fun x205 =>
  gI .i64 x205 fun i206 =>
  vcase (bv (i206 != 0))
  (stK 2 h s2 (.agg [.int .i64 i206, .sl none 0]) fun h208 =>
  ldT ⟨2, 32, [.int .i64 0, .sl none 0], true, .st [(0, 2), (1, 33)], false⟩ h208 s2 fun v209 =>
  some (.ret v209 h208))
  (Lp.spec_PackAll 0 [lv s0, s2, s3, iv .i64 (IntKind.i64.wrap (s4 + 1))] (tidy h [lv s0, s2, s3, iv .i64 (IntKind.i64.wrap (s4 + 1))] h)))
  (some (.done [lv s0, s2, s3] (tidy h [lv s0, s2, s3] h))) := by
  unfold Lp.spec_PackAll; rw [loop_eq]; kernel_rfl

theorem eq_spec_PackAll_l2 (s0 : List (List S)) (s2 : V) (s3 : V) (s6 : Int) (h : H) : Lp.spec_PackAll 2 [lv s0, s2, s3, iv .i64 s6] h =
  vcase (bv (decide (s6 < (s0.length : Int))))
  (idxF 4 s0 s6 fun r403 =>
  (pureV (call Ev) Fn.spec_l4Pack [normV 4 (fv r403 0)]).bind fun v404 =>
  gV1 v404 fun x405 =>
  gF x405 fun z406 =>
  (appS 1 h s3 (lv z406)).bind fun p407 =>
  Lp.spec_PackAll 2 [lv s0, s2, p407.1, iv .i64 (IntKind.i64.wrap (s6 + 1))] (tidy h [lv s0, s2, p407.1, iv .i64 (IntKind.i64.wrap (s6 + 1))] p407.2))
  (some (.done [s2, s3] (tidy h [s2, s3] h))) := by
  unfold Lp.spec_PackAll; rw [loop_eq]; kernel_rfl

theorem eq_impl_PackAll (a0 : List (List S)) (n : Nat) : call Ev Fn.impl_PackAll [lv a0] (D n) =
  (Lp.impl_PackAll 0 [pv ((D n).n) 0, .s (.sl none 0), lv a0, iv .i64 (a0.length : Int), iv .i64 0] ((D n).new 0 [.int .i64 0, .sl none 0])).bind fun o101 => lcase o101 (fun l102 h103 =>
  (l102[0]?).bind fun w106 =>
  (l102[1]?).bind fun w107 =>
  (lenV (.sl 5) w107).bind fun v108 =>
  gV1 v108 fun x109 =>
  gI .i64 x109 fun i110 =>
  vcase (bv (decide (i110 > 16000)))
  (stK 2 h103 w106 (.agg [.int .i64 2, .sl none 0]) fun h112 =>
  ldT ⟨2, 32, [.int .i64 0, .sl none 0], true, .st [(0, 2), (1, 33)], false⟩ h112 w106 fun v113 =>
  some (v113, h112))
  (cellsK w107 fun c114 =>
  if c114.length = 1 ∧ 1 + 1 ≤ ([.int .i64 0, .sl none 0] : List S).length then
  ((setAt ([.int .i64 0, .sl none 0] : List S) 1 c114)[0]?).bind fun x115 =>
  gI .i64 x115 fun i116 =>
  ((setAt ([.int .i64 0, .sl none 0] : List S) 1 c114)[1]?).bind fun x117 =>
  if (setAt ([.int .i64 0, .sl none 0] : List S) 1 c114).length = 2 then
  stK 2 h103 w106 (.agg [.int .i64 i116, x117]) fun h118 =>
  ldT ⟨2, 32, [.int .i64 0, .sl none 0], true, .st [(0, 2), (1, 33)], false⟩ h118 w106 fun v119 =>
  some (v119, h118)
  else none
  else none)) (fun v104 h105 =>
  some (v104, h105)) := by
  rw [call_eq]; kernel_rfl

theorem eq_impl_PackAll_l0 (s2 : V) (s3 : V) (s7 : List (List S)) (s8 : Int) (s9 : Int) (h : H) : Lp.impl_PackAll 0 [s2, s3, lv s7, iv .i64 s8, iv .i64 s9] h =
  vcase (bv (decide (s9 < s8)))
  (idxF 4 s7 s9 fun r203 =>
  (rowN 4 r203 0).bind fun c204 =>
  (c204[0]?).bind fun x205 =>
  gI .i64 x205 fun i206 =>
  (c204[1]?).bind fun x207 =>
  gI .i64 x207 fun i208 =>
  (c204[2]?).bind fun x209 =>
  gI .i64 x209 fun i210 =>
  (c204[3]?).bind fun x211 =>
  gF x211 fun z212 =>
  if c204.length = 4 then
  stK 4 (h.new 0 [.int .i64 0, .int .i64 0, .int .i64 0, .sl none 0]) (pv h.n 0) (.agg [.int .i64 i206, .int .i64 i208, .int .i64 i210, .fs z212]) fun h213 =>
  (loadN 4 h213 (pv h.n 0)).bind fun c214 =>
  (c214[0]?).bind fun x215 =>
  gI .i64 x215 fun i216 =>
  (c214[1]?).bind fun x217 =>
  gI .i64 x217 fun i218 =>
  (c214[2]?).bind fun x219 =>
  gI .i64 x219 fun i220 =>
  (c214[3]?).bind fun x221 =>
  if c214.length = 4 then
  (frzVs h213 [.agg [.int .i64 i216, .int .i64 i218, .int .i64 i220, x221]]).bind fun l222 =>
  pcallS (call Ev) Fn.impl_RecordFault (normVs [] l222) fun v223 =>
  gV1 v223 fun x224 =>
  gI .i64 x224 fun i225 =>
  vcase (bv (i225 != 0))
  (stK 2 h213 s2 (.agg [.int .i64 i225, .sl none 0]) fun h227 =>
  ldT ⟨2, 32, [.int .i64 0, .sl none 0], true, .st [(0, 2), (1, 33)], false⟩ h227 s2 fun v228 =>
  some (.ret v228 h227))
  ((lenV (.sl 5) s3).bind fun v229 =>
  gV1 v229 fun x230 =>
  gI .i64 x230 fun i231 =>
  vcase (bv (decide (i231 ≤ 16000)))
  ((loadN 4 h213 (pv h.n 0)).bind fun c233 =>
  (c233[0]?).bind fun x234 =>
  gI .i64 x234 fun i235 =>
  (c233[1]?).bind fun x236 =>
  gI .i64 x236 fun i237 =>
  (c233[2]?).bind fun x238 =>
  gI .i64 x238 fun i239 =>
  (c233[3]?).bind fun x240 =>
  if c233.length = 4 then
  (frzVs h213 [.agg [.int .i64 i235, .int .i64 i237, .int .i64 i239, x240]]).bind fun l241 =>
  pcallF (call Ev) Fn.impl_packed ([.agg [.int .i64 i235, .int .i64 i237, .int .i64 i239, x240]].all offV) (normVs [] l241) h213 fun v242 h243 =>
  (appS 1 h243 s3 v242).bind fun p244 =>
  Lp.impl_PackAll 0 [s2, p244.1, lv s7, iv .i64 s8, iv .i64 (IntKind.i64.wrap (s9 + 1))] (tidy h [s2, p244.1, lv s7, iv .i64 s8, iv .i64 (IntKind.i64.wrap (s9 + 1))] p244.2)
  else none)
  (Lp.impl_PackAll 0 [s2, s3, lv s7, iv .i64 s8, iv .i64 (IntKind.i64.wrap (s9 + 1))] (tidy h [s2, s3, lv s7, iv .i64 s8, iv .i64 (IntKind.i64.wrap (s9 + 1))] h213)))
  else none
  else none)
  (some (.done [s2, s3] (tidy h [s2, s3] h))) := by
  unfold Lp.impl_PackAll; rw [loop_eq]; kernel_rfl

end Vm
