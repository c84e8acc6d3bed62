/-
  What each function, and each round of each loop, comes to in the small machine. Written by a program (gen3.py).
-/
import Derived.Test.YtfpcfiaoilcbgaaEnv
set_option linter.unusedVariables false
set_option maxRecDepth 100000
namespace Vm
open Go

theorem pu_spec_ApplyEdits (a0 : List (List S)) (a1 : List (List S)) : pureV (call Ev) Fn.spec_ApplyEdits [lv a0, lv a1] =
  vcase (bv (decide ((a0.length : Int) > 12)))
  ((pureV (call Ev) Fn.spec_l7Bad [iv .i64 2]).bind fun v102 =>
  gVA v102 fun c103 =>
  (c103[0]?).bind fun x104 =>
  gI .i64 x104 fun i105 =>
  (c103[1]?).bind fun x106 =>
  gF x106 fun z107 =>
  (c103[2]?).bind fun x108 =>
  gF x108 fun z109 =>
  if c103.length = 3 then
  some (.agg [.int .i64 i105, .fs z107, .fs z109])
  else none)
  (pcallF (call Ev) Fn.spec_l7Copy true [lv a0] ((D 0).new 0 [.int .i64 0, .sl none 0, .sl none 0]) fun v110 h111 =>
  cellsK v110 fun c112 =>
  if c112.length = 1 ∧ 2 + 1 ≤ ([.int .i64 0, .sl none 0, .sl none 0] : List S).length then
  ((setAt ([.int .i64 0, .sl none 0, .sl none 0] : List S) 2 c112)[0]?).bind fun x113 =>
  gI .i64 x113 fun i114 =>
  ((setAt ([.int .i64 0, .sl none 0, .sl none 0] : List S) 2 c112)[1]?).bind fun x115 =>
  ((setAt ([.int .i64 0, .sl none 0, .sl none 0] : List S) 2 c112)[2]?).bind fun x116 =>
  if (setAt ([.int .i64 0, .sl none 0, .sl none 0] : List S) 2 c112).length = 3 then
  stK 3 (h111.new 0 [.int .i64 0, .sl none 0, .sl none 0]) (pv h111.n 0) (.agg [.int .i64 i114, x115, x116]) fun h117 =>
  (Lp.spec_ApplyEdits 0 [lv a1, pv 0 0, pv h111.n 0, iv .i64 0] h117).bind fun o118 => lcase o118 (fun l119 h120 =>
  (l119[0]?).bind fun w123 =>
  (l119[1]?).bind fun w124 =>
  ldK (.agg [.i .i64, .f, .f]) ⟨3, 56, [.int .i64 0, .sl none 0, .sl none 0], true, .st [(0, 2), (1, 72), (2, 68)], false⟩ h120 w124 fun v125 =>
  gVA v125 fun c126 =>
  (c126[0]?).bind fun x127 =>
  gI .i64 x127 fun i128 =>
  (c126[1]?).bind fun x129 =>
  (c126[2]?).bind fun x130 =>
  if c126.length = 3 then
  stK 3 h120 w123 (.agg [.int .i64 i128, x129, x130]) fun h131 =>
  ldT ⟨3, 56, [.int .i64 0, .sl none 0, .sl none 0], true, .st [(0, 2), (1, 72), (2, 68)], false⟩ h131 w123 fun v132 =>
  frzV h131 v132
  else none) (fun v121 h122 =>
  frzV h122 v121)
  else none
  else none) := by
  rw [pure_eq]; kernel_rfl

noncomputable def Jn.spec_ApplyEdits_l0_0 (h376 : H) (s5 : V) (r203 : List S) (s1 : List (List S)) (s4 : V) (s6 : Int) (h : H) : Option (LOut) :=
  (padd 1 s5).bind fun v377 =>
  ldK (.one (.f)) ⟨1, 24, [.sl none 0], false, .sl 138, false⟩ h376 v377 fun v378 =>
  (r203[0]?).bind fun x379 =>
  gI .i64 x379 fun i380 =>
  (r203[1]?).bind fun x381 =>
  gF x381 fun z382 =>
  pcallF (call Ev) Fn.spec_l2Copy true [lv z382] h376 fun v383 h384 =>
  hchk h376 h384 (
  bif scaV v383 then
  cellsK v383 fun c385 =>
  if c385.length = 1 ∧ 1 + 1 ≤ ([.int .i64 i380, .sl none 0] : List S).length then
  ((setAt ([.int .i64 i380, .sl none 0] : List S) 1 c385)[0]?).bind fun x386 =>
  gI .i64 x386 fun i387 =>
  ((setAt ([.int .i64 i380, .sl none 0] : List S) 1 c385)[1]?).bind fun x388 =>
  if (setAt ([.int .i64 i380, .sl none 0] : List S) 1 c385).length = 2 then
  hchk h376 (h384.new 2 [.int .i64 i387, x388]) (
  (appS 2 (h384.new 2 [.int .i64 i387, x388]) v378 (sv h384.n 0 1)).bind fun p389 =>
  (padd 1 s5).bind fun v390 =>
  stK 1 p389.2 v390 p389.1 fun h391 =>
  Lp.spec_ApplyEdits 0 [lv s1, s4, s5, iv .i64 (IntKind.i64.wrap (s6 + 1))] (tidy h [lv s1, s4, s5, iv .i64 (IntKind.i64.wrap (s6 + 1))] h391))
  else none
  else none
  else none)

noncomputable def Jn.spec_ApplyEdits_l0_1 (q313 : Bool) (w314 : V) (w315 : V) (w316 : V) (w317 : V) (w318 : V) (w319 : V) (w320 : V) (w321 : V) (w322 : V) (q323 : Bool) (h : H) (s4 : V) (r203 : List S) (s5 : V) (s1 : List (List S)) (s6 : Int) : Option (LOut) :=
  vcase (bv q323)
  ((pureV (call Ev) Fn.spec_l7Bad [iv .i64 1]).bind fun v325 =>
  gVA v325 fun c326 =>
  (c326[0]?).bind fun x327 =>
  gI .i64 x327 fun i328 =>
  (c326[1]?).bind fun x329 =>
  gF x329 fun z330 =>
  (c326[2]?).bind fun x331 =>
  gF x331 fun z332 =>
  if c326.length = 3 then
  stK 3 h s4 (.agg [.int .i64 i328, .fs z330, .fs z332]) fun h333 =>
  ldT ⟨3, 56, [.int .i64 0, .sl none 0, .sl none 0], true, .st [(0, 2), (1, 72), (2, 68)], false⟩ h333 s4 fun v334 =>
  some (.ret v334 h333)
  else none)
  ((r203[0]?).bind fun x335 =>
  gI .i64 x335 fun i336 =>
  vcase (bv (i336 == 12))
  ((pureV (call Ev) Fn.spec_l7Bad [iv .i64 2]).bind fun v338 =>
  gVA v338 fun c339 =>
  (c339[0]?).bind fun x340 =>
  gI .i64 x340 fun i341 =>
  (c339[1]?).bind fun x342 =>
  gF x342 fun z343 =>
  (c339[2]?).bind fun x344 =>
  gF x344 fun z345 =>
  if c339.length = 3 then
  stK 3 h s4 (.agg [.int .i64 i341, .fs z343, .fs z345]) fun h346 =>
  ldT ⟨3, 56, [.int .i64 0, .sl none 0, .sl none 0], true, .st [(0, 2), (1, 72), (2, 68)], false⟩ h346 s4 fun v347 =>
  some (.ret v347 h346)
  else none)
  ((r203[0]?).bind fun x348 =>
  gI .i64 x348 fun i349 =>
  (padd 2 s5).bind fun v350 =>
  ldK (.one (.f)) ⟨1, 24, [.sl none 0], false, .sl 84, false⟩ h v350 fun v351 =>
  (lenV (.sl 84) v351).bind fun v352 =>
  gV1 v352 fun x353 =>
  gI .i64 x353 fun i354 =>
  vcase (bv (i349 == i354))
  ((padd 2 s5).bind fun v356 =>
  ldK (.one (.f)) ⟨1, 24, [.sl none 0], false, .sl 84, false⟩ h v356 fun v357 =>
  (r203[1]?).bind fun x358 =>
  gF x358 fun z359 =>
  pcallF (call Ev) Fn.spec_l2Copy true [lv z359] h fun v360 h361 =>
  hchk h h361 (
  cellsK v360 fun c362 =>
  if c362.length = 1 ∧ 0 + 1 ≤ ([.sl none 0] : List S).length then
  hchk h (h361.new 1 (setAt ([.sl none 0] : List S) 0 c362)) (
  (appS 1 (h361.new 1 (setAt ([.sl none 0] : List S) 0 c362)) v357 (sv h361.n 0 1)).bind fun p363 =>
  (padd 2 s5).bind fun v364 =>
  stK 1 p363.2 v364 p363.1 fun h365 =>
  Jn.spec_ApplyEdits_l0_0 h365 s5 r203 s1 s4 s6 h)
  else none))
  ((padd 2 s5).bind fun v366 =>
  ldK (.one (.f)) ⟨1, 24, [.sl none 0], false, .sl 84, false⟩ h v366 fun v367 =>
  (r203[0]?).bind fun x368 =>
  gI .i64 x368 fun i369 =>
  (r203[1]?).bind fun x370 =>
  gF x370 fun z371 =>
  pcallF (call Ev) Fn.spec_l2Copy true [lv z371] h fun v372 h373 =>
  hchk h h373 (
  bif scaV v372 then
  idxK 1 v367 (iv .i64 i369) fun v374 =>
  stK 1 h373 v374 v372 fun h375 =>
  Jn.spec_ApplyEdits_l0_0 h375 s5 r203 s1 s4 s6 h
  else none))))

theorem eq_spec_ApplyEdits_l0 (s1 : List (List S)) (s4 : V) (s5 : V) (s6 : Int) (h : H) : Lp.spec_ApplyEdits 0 [lv s1, s4, s5, iv .i64 s6] h =
  vcase (bv (decide (s6 < (s1.length : Int))))
  (idxF 2 s1 s6 fun r203 =>
  (r203[1]?).bind fun x204 =>
  gF x204 fun z205 =>
  vcase (bv ((z205.length : Int) != 64))
  (hchk h h (
  Jn.spec_ApplyEdits_l0_1 true (.tup []) (.tup []) (.tup []) (.tup []) (.tup []) (.tup []) (.tup []) (.tup []) (.tup []) true h s4 r203 s5 s1 s6))
  ((r203[0]?).bind fun x208 =>
  gI .i64 x208 fun i209 =>
  (padd 2 s5).bind fun v210 =>
  ldK (.one (.f)) ⟨1, 24, [.sl none 0], false, .sl 84, false⟩ h v210 fun v211 =>
  (lenV (.sl 84) v211).bind fun v212 =>
  gV1 v212 fun x213 =>
  gI .i64 x213 fun i214 =>
  pcallS (call Ev) Fn.spec_l1In [iv .i64 i209, iv .i64 0, iv .i64 i214] fun v215 =>
  gV1 v215 fun x216 =>
  gB x216 fun q217 =>
  hchk h h (
  Jn.spec_ApplyEdits_l0_1 false (fv r203 0) (fv r203 0) (fv r203 0) (iv .i64 i209) v210 v211 (iv .i64 i214) (bv q217) (bv (!q217)) (!q217) h s4 r203 s5 s1 s6)))
  (some (.done [s4, s5] (tidy h [s4, s5] h))) := by
  unfold Lp.spec_ApplyEdits; rw [loop_eq]; kernel_rfl

theorem eq_laws_toByteS (a0 : List (List S)) (n : Nat) : call Ev Fn.laws_toByteS [lv a0] (D n) =
  (mkSl 1 [.int .u8 0] (D n) (iv .i64 (a0.length : Int)) (iv .i64 (a0.length : Int))).bind fun p101 =>
  (Lp.laws_toByteS 0 [lv a0, p101.1, iv .i64 0] p101.2).bind fun o102 => lcase o102 (fun l103 h104 =>
  (l103[0]?).bind fun w107 =>
  some (w107, h104)) (fun v105 h106 =>
  some (v105, h106)) := by
  rw [call_eq]; kernel_rfl

theorem eq_laws_toByteS_l0 (s0 : List (List S)) (s3 : V) (s4 : Int) (h : H) : Lp.laws_toByteS 0 [lv s0, s3, iv .i64 s4] h =
  vcase (bv (decide (s4 < (s0.length : Int))))
  (idxF 1 s0 s4 fun r203 =>
  (r203[0]?).bind fun x204 =>
  gI .u8 x204 fun i205 =>
  idxK 1 s3 (iv .i64 s4) fun v206 =>
  stK 1 h v206 (iv .u8 i205) fun h207 =>
  Lp.laws_toByteS 0 [lv s0, s3, iv .i64 (IntKind.i64.wrap (s4 + 1))] (tidy h [lv s0, s3, iv .i64 (IntKind.i64.wrap (s4 + 1))] h207))
  (some (.done [s3] (tidy h [s3] h))) := by
  unfold Lp.laws_toByteS; rw [loop_eq]; kernel_rfl

theorem eq_laws_toByteSS (a0 : List (List S)) (n : Nat) : call Ev Fn.laws_toByteSS [lv a0] (D n) =
  (mkSl 1 [.sl none 0] (D n) (iv .i64 (a0.length : Int)) (iv .i64 (a0.length : Int))).bind fun p101 =>
  (Lp.laws_toByteSS 0 [lv a0, p101.1, iv .i64 0] p101.2).bind fun o102 => lcase o102 (fun l103 h104 =>
  (l103[0]?).bind fun w107 =>
  some (w107, h104)) (fun v105 h106 =>
  some (v105, h106)) := by
  rw [call_eq]; kernel_rfl

theorem eq_laws_toByteSS_l0 (s0 : List (List S)) (s3 : V) (s4 : Int) (h : H) : Lp.laws_toByteSS 0 [lv s0, s3, iv .i64 s4] h =
  vcase (bv (decide (s4 < (s0.length : Int))))
  (idxF 1 s0 s4 fun r203 =>
  (r203[0]?).bind fun x204 =>
  gF x204 fun z205 =>
  pcallF (call Ev) Fn.laws_toByteS true [lv z205] h fun v206 h207 =>
  idxK 1 s3 (iv .i64 s4) fun v208 =>
  stK 1 h207 v208 v206 fun h209 =>
  Lp.laws_toByteSS 0 [lv s0, s3, iv .i64 (IntKind.i64.wrap (s4 + 1))] (tidy h [lv s0, s3, iv .i64 (IntKind.i64.wrap (s4 + 1))] h209))
  (some (.done [s3] (tidy h [s3] h))) := by
  unfold Lp.laws_toByteSS; rw [loop_eq]; kernel_rfl

theorem eq_laws_toEdit (a0_0 : Int) (a0_1 : List (List S)) (n : Nat) : call Ev Fn.laws_toEdit [.agg [.int .i64 a0_0, .fs a0_1]] (D n) =
  (load1 ((((D n).new 0 [.int .i64 a0_0, .fs a0_1]).new 0 [.int .i64 0, .sl none 0]).new 0 [.int .i64 0, .sl none 0]) (pv ((D n).n) 0)).bind fun x101 =>
  gI .i64 x101 fun i102 =>
  stK 1 ((((D n).new 0 [.int .i64 a0_0, .fs a0_1]).new 0 [.int .i64 0, .sl none 0]).new 0 [.int .i64 0, .sl none 0]) (pv ((((D n).new 0 [.int .i64 a0_0, .fs a0_1]).new 0 [.int .i64 0, .sl none 0]).n) 0) (iv .i64 i102) fun h103 =>
  (load1 h103 (pv ((D n).n) 1)).bind fun x104 =>
  (frzVs h103 [.s x104]).bind fun l105 =>
  pcallF (call Ev) Fn.laws_toByteS ([.s x104].all offV) (normVs [] l105) h103 fun v106 h107 =>
  stK 1 h107 (pv ((((D n).new 0 [.int .i64 a0_0, .fs a0_1]).new 0 [.int .i64 0, .sl none 0]).n) 1) v106 fun h108 =>
  (loadN 2 h108 (pv ((((D n).new 0 [.int .i64 a0_0, .fs a0_1]).new 0 [.int .i64 0, .sl none 0]).n) 0)).bind fun c109 =>
  (c109[0]?).bind fun x110 =>
  gI .i64 x110 fun i111 =>
  (c109[1]?).bind fun x112 =>
  if c109.length = 2 then
  stK 2 h108 (pv (((D n).new 0 [.int .i64 a0_0, .fs a0_1]).n) 0) (.agg [.int .i64 i111, x112]) fun h113 =>
  (loadN 2 h113 (pv (((D n).new 0 [.int .i64 a0_0, .fs a0_1]).n) 0)).bind fun c114 =>
  some (.agg c114, h113)
  else none := by
  rw [call_eq]; kernel_rfl

theorem eq_laws_toEditS (a0 : List (List S)) (n : Nat) : call Ev Fn.laws_toEditS [lv a0] (D n) =
  (mkSl 2 [.int .i64 0, .sl none 0] (D n) (iv .i64 (a0.length : Int)) (iv .i64 (a0.length : Int))).bind fun p101 =>
  (Lp.laws_toEditS 0 [lv a0, p101.1, iv .i64 0] p101.2).bind fun o102 => lcase o102 (fun l103 h104 =>
  (l103[0]?).bind fun w107 =>
  some (w107, h104)) (fun v105 h106 =>
  some (v105, h106)) := by
  rw [call_eq]; kernel_rfl

theorem eq_laws_toEditS_l0 (s0 : List (List S)) (s3 : V) (s4 : Int) (h : H) : Lp.laws_toEditS 0 [lv s0, s3, iv .i64 s4] h =
  vcase (bv (decide (s4 < (s0.length : Int))))
  (idxF 2 s0 s4 fun r203 =>
  (rowN 2 r203 0).bind fun c204 =>
  (c204[0]?).bind fun x205 =>
  gI .i64 x205 fun i206 =>
  (c204[1]?).bind fun x207 =>
  gF x207 fun z208 =>
  if c204.length = 2 then
  pcallF (call Ev) Fn.laws_toEdit true [.agg [.int .i64 i206, .fs z208]] h fun v209 h210 =>
  gVA v209 fun c211 =>
  (c211[0]?).bind fun x212 =>
  gI .i64 x212 fun i213 =>
  (c211[1]?).bind fun x214 =>
  if c211.length = 2 then
  idxK 2 s3 (iv .i64 s4) fun v215 =>
  stK 2 h210 v215 (.agg [.int .i64 i213, x214]) fun h216 =>
  Lp.laws_toEditS 0 [lv s0, s3, iv .i64 (IntKind.i64.wrap (s4 + 1))] (tidy h [lv s0, s3, iv .i64 (IntKind.i64.wrap (s4 + 1))] h216)
  else none
  else none)
  (some (.done [s3] (tidy h [s3] h))) := by
  unfold Lp.laws_toEditS; rw [loop_eq]; kernel_rfl

theorem eq_impl_copied (a0 : List (List S)) (n : Nat) : call Ev Fn.impl_copied [lv a0] (D n) =
  (appS 1 ((D n).new 1 []) (sv ((D n).n) 0 0) (lv a0)).bind fun p101 =>
  some (p101.1, p101.2) := by
  rw [call_eq]; kernel_rfl

theorem eq_impl_copies (a0 : List (List S)) (n : Nat) : call Ev Fn.impl_copies [lv a0] (D n) =
  (Lp.impl_copies 0 [.s (.sl none 0), lv a0, iv .i64 (a0.length : Int), iv .i64 0] (D n)).bind fun o101 => lcase o101 (fun l102 h103 =>
  (l102[0]?).bind fun w106 =>
  some (w106, h103)) (fun v104 h105 =>
  some (v104, h105)) := by
  rw [call_eq]; kernel_rfl

theorem eq_impl_copies_l0 (s3 : V) (s6 : List (List S)) (s7 : Int) (s8 : Int) (h : H) : Lp.impl_copies 0 [s3, lv s6, iv .i64 s7, iv .i64 s8] h =
  vcase (bv (decide (s8 < s7)))
  (idxF 1 s6 s8 fun r203 =>
  (r203[0]?).bind fun x204 =>
  gF x204 fun z205 =>
  pcallF (call Ev) Fn.impl_copied true [lv z205] h fun v206 h207 =>
  cellsK v206 fun c208 =>
  if c208.length = 1 ∧ 0 + 1 ≤ ([.sl none 0] : List S).length then
  (appS 1 (h207.new 1 (setAt ([.sl none 0] : List S) 0 c208)) s3 (sv h207.n 0 1)).bind fun p209 =>
  Lp.impl_copies 0 [p209.1, lv s6, iv .i64 s7, iv .i64 (IntKind.i64.wrap (s8 + 1))] (tidy h [p209.1, lv s6, iv .i64 s7, iv .i64 (IntKind.i64.wrap (s8 + 1))] p209.2)
  else none)
  (some (.done [s3] (tidy h [s3] h))) := by
  unfold Lp.impl_copies; rw [loop_eq]; kernel_rfl

theorem eq_impl_ownEdits (a0 : List (List S)) (n : Nat) : call Ev Fn.impl_ownEdits [lv a0] (D n) =
  (Lp.impl_ownEdits 0 [.s (.sl none 0), lv a0, iv .i64 (a0.length : Int), iv .i64 0] (D n)).bind fun o101 => lcase o101 (fun l102 h103 =>
  (l102[0]?).bind fun w106 =>
  some (w106, h103)) (fun v104 h105 =>
  some (v104, h105)) := by
  rw [call_eq]; kernel_rfl

theorem eq_impl_ownEdits_l0 (s3 : V) (s6 : List (List S)) (s7 : Int) (s8 : Int) (h : H) : Lp.impl_ownEdits 0 [s3, lv s6, iv .i64 s7, iv .i64 s8] h =
  vcase (bv (decide (s8 < s7)))
  (idxF 2 s6 s8 fun r203 =>
  (rowN 2 r203 0).bind fun c204 =>
  (c204[0]?).bind fun x205 =>
  gI .i64 x205 fun i206 =>
  (c204[1]?).bind fun x207 =>
  gF x207 fun z208 =>
  if c204.length = 2 then
  stK 2 (h.new 0 [.int .i64 0, .sl none 0]) (pv h.n 0) (.agg [.int .i64 i206, .fs z208]) fun h209 =>
  (load1 h209 (pv h.n 0)).bind fun x210 =>
  gI .i64 x210 fun i211 =>
  (load1 h209 (pv h.n 1)).bind fun x212 =>
  (frzVs h209 [.s x212]).bind fun l213 =>
  pcallF (call Ev) Fn.impl_copied ([.s x212].all offV) (normVs [] l213) h209 fun v214 h215 =>
  hchk h209 h215 (
  bif scaV v214 then
  cellsK v214 fun c216 =>
  if c216.length = 1 ∧ 1 + 1 ≤ ([.int .i64 i211, .sl none 0] : List S).length then
  ((setAt ([.int .i64 i211, .sl none 0] : List S) 1 c216)[0]?).bind fun x217 =>
  gI .i64 x217 fun i218 =>
  ((setAt ([.int .i64 i211, .sl none 0] : List S) 1 c216)[1]?).bind fun x219 =>
  if (setAt ([.int .i64 i211, .sl none 0] : List S) 1 c216).length = 2 then
  hchk h209 (h215.new 2 [.int .i64 i218, x219]) (
  (appS 2 (h215.new 2 [.int .i64 i218, x219]) s3 (sv h215.n 0 1)).bind fun p220 =>
  Lp.impl_ownEdits 0 [p220.1, lv s6, iv .i64 s7, iv .i64 (IntKind.i64.wrap (s8 + 1))] (tidy h [p220.1, lv s6, iv .i64 s7, iv .i64 (IntKind.i64.wrap (s8 + 1))] p220.2))
  else none
  else none
  else none)
  else none)
  (some (.done [s3] (tidy h [s3] h))) := by
  unfold Lp.impl_ownEdits; rw [loop_eq]; kernel_rfl

theorem eq_impl_ApplyEdits (a0 : List (List S)) (a1 : List (List S)) (n : Nat) : call Ev Fn.impl_ApplyEdits [lv a0, lv a1] (D n) =
  vcase (bv (decide ((a0.length : Int) > 12)))
  (stK 3 ((D n).new 0 [.int .i64 0, .sl none 0, .sl none 0]) (pv ((D n).n) 0) (.agg [.int .i64 2, .sl none 0, .sl none 0]) fun h102 =>
  (loadN 3 h102 (pv ((D n).n) 0)).bind fun c103 =>
  some (.agg c103, h102))
  (pcallF (call Ev) Fn.impl_copies true [lv a0] ((D n).new 0 [.int .i64 0, .sl none 0, .sl none 0]) fun v104 h105 =>
  (Lp.impl_ApplyEdits 0 [lv a1, pv ((D n).n) 0, v104, lv a1, iv .i64 (a1.length : Int), iv .i64 0] h105).bind fun o106 => lcase o106 (fun l107 h108 =>
  (l107[0]?).bind fun w111 =>
  gV1 w111 fun x112 =>
  gF x112 fun z113 =>
  (l107[1]?).bind fun w114 =>
  (l107[2]?).bind fun w115 =>
  pcallF (call Ev) Fn.impl_ownEdits true [lv z113] h108 fun v116 h117 =>
  cellsK v116 fun c118 =>
  if c118.length = 1 ∧ 1 + 1 ≤ ([.int .i64 0, .sl none 0, .sl none 0] : List S).length then
  cellsK w115 fun c119 =>
  if c119.length = 1 ∧ 2 + 1 ≤ (setAt ([.int .i64 0, .sl none 0, .sl none 0] : List S) 1 c118).length then
  ((setAt (setAt ([.int .i64 0, .sl none 0, .sl none 0] : List S) 1 c118) 2 c119)[0]?).bind fun x120 =>
  gI .i64 x120 fun i121 =>
  ((setAt (setAt ([.int .i64 0, .sl none 0, .sl none 0] : List S) 1 c118) 2 c119)[1]?).bind fun x122 =>
  ((setAt (setAt ([.int .i64 0, .sl none 0, .sl none 0] : List S) 1 c118) 2 c119)[2]?).bind fun x123 =>
  if (setAt (setAt ([.int .i64 0, .sl none 0, .sl none 0] : List S) 1 c118) 2 c119).length = 3 then
  stK 3 h117 w114 (.agg [.int .i64 i121, x122, x123]) fun h124 =>
  ldT ⟨3, 56, [.int .i64 0, .sl none 0, .sl none 0], true, .st [(0, 2), (1, 72), (2, 68)], false⟩ h124 w114 fun v125 =>
  some (v125, h124)
  else none
  else none
  else none) (fun v109 h110 =>
  some (v109, h110))) := by
  rw [call_eq]; kernel_rfl

noncomputable def Jn.impl_ApplyEdits_l0_0 (q259 : Bool) (h209 : H) (s4 : V) (h : H) (s5 : V) (s1 : List (List S)) (s14 : List (List S)) (s15 : Int) (s16 : Int) : Option (LOut) :=
  vcase (bv q259)
  (stK 3 h209 s4 (.agg [.int .i64 1, .sl none 0, .sl none 0]) fun h261 =>
  ldT ⟨3, 56, [.int .i64 0, .sl none 0, .sl none 0], true, .st [(0, 2), (1, 72), (2, 68)], false⟩ h261 s4 fun v262 =>
  some (.ret v262 h261))
  ((load1 h209 (pv h.n 0)).bind fun x263 =>
  gI .i64 x263 fun i264 =>
  vcase (bv (i264 == 12))
  (stK 3 h209 s4 (.agg [.int .i64 2, .sl none 0, .sl none 0]) fun h266 =>
  ldT ⟨3, 56, [.int .i64 0, .sl none 0, .sl none 0], true, .st [(0, 2), (1, 72), (2, 68)], false⟩ h266 s4 fun v267 =>
  some (.ret v267 h266))
  ((load1 h209 (pv h.n 0)).bind fun x268 =>
  gI .i64 x268 fun i269 =>
  (lenV (.sl 84) s5).bind fun v270 =>
  gV1 v270 fun x271 =>
  gI .i64 x271 fun i272 =>
  vcase (bv (i269 == i272))
  ((appS 1 (h209.new 1 [.sl none 0]) s5 (sv h209.n 0 1)).bind fun p274 =>
  (load1 p274.2 (pv h.n 0)).bind fun x275 =>
  gI .i64 x275 fun i276 =>
  (load1 p274.2 (pv h.n 1)).bind fun x277 =>
  (frzVs p274.2 [.s x277]).bind fun l278 =>
  pcallF (call Ev) Fn.impl_copied ([.s x277].all offV) (normVs [] l278) p274.2 fun v279 h280 =>
  hchk p274.2 h280 (
  bif scaV v279 then
  idxK 1 p274.1 (iv .i64 i276) fun v281 =>
  stK 1 h280 v281 v279 fun h282 =>
  Lp.impl_ApplyEdits 0 [lv s1, s4, p274.1, lv s14, iv .i64 s15, iv .i64 (IntKind.i64.wrap (s16 + 1))] (tidy h [lv s1, s4, p274.1, lv s14, iv .i64 s15, iv .i64 (IntKind.i64.wrap (s16 + 1))] h282)
  else none))
  ((load1 h209 (pv h.n 0)).bind fun x283 =>
  gI .i64 x283 fun i284 =>
  (load1 h209 (pv h.n 1)).bind fun x285 =>
  (frzVs h209 [.s x285]).bind fun l286 =>
  pcallF (call Ev) Fn.impl_copied ([.s x285].all offV) (normVs [] l286) h209 fun v287 h288 =>
  hchk h209 h288 (
  bif scaV v287 then
  idxK 1 s5 (iv .i64 i284) fun v289 =>
  stK 1 h288 v289 v287 fun h290 =>
  Lp.impl_ApplyEdits 0 [lv s1, s4, s5, lv s14, iv .i64 s15, iv .i64 (IntKind.i64.wrap (s16 + 1))] (tidy h [lv s1, s4, s5, lv s14, iv .i64 s15, iv .i64 (IntKind.i64.wrap (s16 + 1))] h290)
  else none))))

theorem eq_impl_ApplyEdits_l0 (s1 : List (List S)) (s4 : V) (s5 : V) (s14 : List (List S)) (s15 : Int) (s16 : Int) (h : H) : Lp.impl_ApplyEdits 0 [lv s1, s4, s5, lv s14, iv .i64 s15, iv .i64 s16] h =
  vcase (bv (decide (s16 < s15)))
  (idxF 2 s14 s16 fun r203 =>
  (rowN 2 r203 0).bind fun c204 =>
  (c204[0]?).bind fun x205 =>
  gI .i64 x205 fun i206 =>
  (c204[1]?).bind fun x207 =>
  gF x207 fun z208 =>
  if c204.length = 2 then
  stK 2 (h.new 0 [.int .i64 0, .sl none 0]) (pv h.n 0) (.agg [.int .i64 i206, .fs z208]) fun h209 =>
  (load1 h209 (pv h.n 1)).bind fun x210 =>
  (lenV (.sl 5) (.s x210)).bind fun v211 =>
  gV1 v211 fun x212 =>
  gI .i64 x212 fun i213 =>
  vcase (bv (i213 != 64))
  (Jn.impl_ApplyEdits_l0_0 true h209 s4 h s5 s1 s14 s15 s16)
  ((load1 h209 (pv h.n 0)).bind fun x216 =>
  gI .i64 x216 fun i217 =>
  (lenV (.sl 84) s5).bind fun v218 =>
  gV1 v218 fun x219 =>
  gI .i64 x219 fun i220 =>
  pcallS (call Ev) Fn.impl_in [iv .i64 i217, iv .i64 0, iv .i64 i220] fun v221 =>
  gV1 v221 fun x222 =>
  gB x222 fun q223 =>
  Jn.impl_ApplyEdits_l0_0 (!q223) h209 s4 h s5 s1 s14 s15 s16)
  else none)
  (some (.done [lv s1, s4, s5] (tidy h [lv s1, s4, s5] h))) := by
  unfold Lp.impl_ApplyEdits; rw [loop_eq]; kernel_rfl

theorem pu_laws_eqByteS (a0 : List (List S)) (a1 : List (List S)) : pureV (call Ev) Fn.laws_eqByteS [lv a0, lv a1] =
  vcase (bv ((a0.length : Int) != (a1.length : Int)))
  (some (bv false))
  ((Lp.laws_eqByteS 0 [lv a0, lv a1, iv .i64 0] (D 0)).bind fun o102 => lcase o102 (fun l103 h104 =>
  some (bv true)) (fun v105 h106 =>
  frzV h106 v105)) := by
  rw [pure_eq]; kernel_rfl

theorem eq_laws_eqByteS_l0 (s0 : List (List S)) (s1 : List (List S)) (s5 : Int) (h : H) : Lp.laws_eqByteS 0 [lv s0, lv s1, iv .i64 s5] h =
  vcase (bv (decide (s5 < (s0.length : Int))))
  (idxF 1 s0 s5 fun r203 =>
  (r203[0]?).bind fun x204 =>
  gI .u8 x204 fun i205 =>
  idxF 1 s1 s5 fun r206 =>
  (r206[0]?).bind fun x207 =>
  gI .u8 x207 fun i208 =>
  vcase (bv (i205 != i208))
  (some (.ret (bv false) h))
  (Lp.laws_eqByteS 0 [lv s0, lv s1, iv .i64 (IntKind.i64.wrap (s5 + 1))] (tidy h [lv s0, lv s1, iv .i64 (IntKind.i64.wrap (s5 + 1))] h)))
  (some (.done [] (tidy h [] h))) := by
  unfold Lp.laws_eqByteS; rw [loop_eq]; kernel_rfl

theorem pu_laws_eqByteSS (a0 : List (List S)) (a1 : List (List S)) : pureV (call Ev) Fn.laws_eqByteSS [lv a0, lv a1] =
  vcase (bv ((a0.length : Int) != (a1.length : Int)))
  (some (bv false))
  ((Lp.laws_eqByteSS 0 [lv a0, lv a1, iv .i64 0] (D 0)).bind fun o102 => lcase o102 (fun l103 h104 =>
  some (bv true)) (fun v105 h106 =>
  frzV h106 v105)) := by
  rw [pure_eq]; kernel_rfl

theorem eq_laws_eqByteSS_l0 (s0 : List (List S)) (s1 : List (List S)) (s5 : Int) (h : H) : Lp.laws_eqByteSS 0 [lv s0, lv s1, iv .i64 s5] h =
  vcase (bv (decide (s5 < (s0.length : Int))))
  (idxF 1 s0 s5 fun r203 =>
  (r203[0]?).bind fun x204 =>
  gF x204 fun z205 =>
  idxF 1 s1 s5 fun r206 =>
  (r206[0]?).bind fun x207 =>
  gF x207 fun z208 =>
  pcallS (call Ev) Fn.laws_eqByteS [lv z205, lv z208] fun v209 =>
  gV1 v209 fun x210 =>
  gB x210 fun q211 =>
  hchk h h (
  vcase (bv (!q211))
  (some (.ret (bv false) h))
  (Lp.laws_eqByteSS 0 [lv s0, lv s1, iv .i64 (IntKind.i64.wrap (s5 + 1))] (tidy h [lv s0, lv s1, iv .i64 (IntKind.i64.wrap (s5 + 1))] h))))
  (some (.done [] (tidy h [] h))) := by
  unfold Lp.laws_eqByteSS; rw [loop_eq]; kernel_rfl

theorem pu_laws_eqEdit (a0_0 : Int) (a0_1 : List (List S)) (a1_0 : Int) (a1_1 : List (List S)) : pureV (call Ev) Fn.laws_eqEdit [.agg [.int .i64 a0_0, .fs a0_1], .agg [.int .i64 a1_0, .fs a1_1]] =
  vcase (bv (a0_0 != a1_0))
  (some (bv false))
  (pcallS (call Ev) Fn.laws_eqByteS [lv a0_1, lv a1_1] fun v102 =>
  gV1 v102 fun x103 =>
  gB x103 fun q104 =>
  vcase (bv (!q104))
  (some (bv false))
  (some (bv true))) := by
  rw [pure_eq]; kernel_rfl

theorem pu_laws_eqEditS (a0 : List (List S)) (a1 : List (List S)) : pureV (call Ev) Fn.laws_eqEditS [lv a0, lv a1] =
  vcase (bv ((a0.length : Int) != (a1.length : Int)))
  (some (bv false))
  ((Lp.laws_eqEditS 0 [lv a0, lv a1, iv .i64 0] (D 0)).bind fun o102 => lcase o102 (fun l103 h104 =>
  some (bv true)) (fun v105 h106 =>
  frzV h106 v105)) := by
  rw [pure_eq]; kernel_rfl

theorem eq_laws_eqEditS_l0 (s0 : List (List S)) (s1 : List (List S)) (s5 : Int) (h : H) : Lp.laws_eqEditS 0 [lv s0, lv s1, iv .i64 s5] h =
  vcase (bv (decide (s5 < (s0.length : Int))))
  (idxF 2 s0 s5 fun r203 =>
  (rowN 2 r203 0).bind fun c204 =>
  (c204[0]?).bind fun x205 =>
  gI .i64 x205 fun i206 =>
  (c204[1]?).bind fun x207 =>
  gF x207 fun z208 =>
  if c204.length = 2 then
  idxF 2 s1 s5 fun r209 =>
  (rowN 2 r209 0).bind fun c210 =>
  (c210[0]?).bind fun x211 =>
  gI .i64 x211 fun i212 =>
  (c210[1]?).bind fun x213 =>
  gF x213 fun z214 =>
  if c210.length = 2 then
  pcallS (call Ev) Fn.laws_eqEdit [.agg [.int .i64 i206, .fs z208], .agg [.int .i64 i212, .fs z214]] fun v215 =>
  gV1 v215 fun x216 =>
  gB x216 fun q217 =>
  hchk h h (
  vcase (bv (!q217))
  (some (.ret (bv false) h))
  (Lp.laws_eqEditS 0 [lv s0, lv s1, iv .i64 (IntKind.i64.wrap (s5 + 1))] (tidy h [lv s0, lv s1, iv .i64 (IntKind.i64.wrap (s5 + 1))] h)))
  else none
  else none)
  (some (.done [] (tidy h [] h))) := by
  unfold Lp.laws_eqEditS; rw [loop_eq]; kernel_rfl

theorem pu_laws_eqEditsResult (a0_0 : Int) (a0_1 : List (List S)) (a0_2 : List (List S)) (a1_0 : Int) (a1_1 : List (List S)) (a1_2 : List (List S)) : pureV (call Ev) Fn.laws_eqEditsResult [.agg [.int .i64 a0_0, .fs a0_1, .fs a0_2], .agg [.int .i64 a1_0, .fs a1_1, .fs a1_2]] =
  vcase (bv (a0_0 != a1_0))
  (some (bv false))
  (pcallS (call Ev) Fn.laws_eqEditS [lv a0_1, lv a1_1] fun v102 =>
  gV1 v102 fun x103 =>
  gB x103 fun q104 =>
  vcase (bv (!q104))
  (some (bv false))
  (pcallS (call Ev) Fn.laws_eqByteSS [lv a0_2, lv a1_2] fun v106 =>
  gV1 v106 fun x107 =>
  gB x107 fun q108 =>
  vcase (bv (!q108))
  (some (bv false))
  (some (bv true)))) := by
  rw [pure_eq]; kernel_rfl

theorem eq_laws_markByteS (a0 : V) (a1 : Int) (h : H) : call Ev Fn.laws_markByteS [a0, iv .i64 a1] h =
  (Lp.laws_markByteS 0 [a0, iv .i64 a1, iv .i64 0] h).bind fun o101 => lcase o101 (fun l102 h103 =>
  (l102[0]?).bind fun w106 =>
  gV1 w106 fun x107 =>
  gI .i64 x107 fun i108 =>
  some (iv .i64 i108, h103)) (fun v104 h105 =>
  some (v104, h105)) := by
  rw [call_eq]; kernel_rfl

theorem eq_laws_markByteS_l0 (s0 : V) (s1 : Int) (s5 : Int) (h : H) : Lp.laws_markByteS 0 [s0, iv .i64 s1, iv .i64 s5] h =
  (lenV (.sl 5) s0).bind fun v201 =>
  gV1 v201 fun x202 =>
  gI .i64 x202 fun i203 =>
  vcase (bv (decide (s5 < i203)))
  (idxK 1 s0 (iv .i64 s5) fun v206 =>
  stK 1 h v206 (iv .u8 (IntKind.u8.wrap s1)) fun h207 =>
  Lp.laws_markByteS 0 [s0, iv .i64 (IntKind.i64.wrap (s1 + 1)), iv .i64 (IntKind.i64.wrap (s5 + 1))] (tidy h [s0, iv .i64 (IntKind.i64.wrap (s1 + 1)), iv .i64 (IntKind.i64.wrap (s5 + 1))] h207))
  (some (.done [iv .i64 s1] (tidy h [iv .i64 s1] h))) := by
  unfold Lp.laws_markByteS; rw [loop_eq]; kernel_rfl

theorem eq_laws_markByteSS (a0 : V) (a1 : Int) (h : H) : call Ev Fn.laws_markByteSS [a0, iv .i64 a1] h =
  (Lp.laws_markByteSS 0 [a0, iv .i64 a1, iv .i64 0] h).bind fun o101 => lcase o101 (fun l102 h103 =>
  (l102[0]?).bind fun w106 =>
  gV1 w106 fun x107 =>
  gI .i64 x107 fun i108 =>
  some (iv .i64 i108, h103)) (fun v104 h105 =>
  some (v104, h105)) := by
  rw [call_eq]; kernel_rfl

theorem eq_laws_markByteSS_l0 (s0 : V) (s1 : Int) (s5 : Int) (h : H) : Lp.laws_markByteSS 0 [s0, iv .i64 s1, iv .i64 s5] h =
  (lenV (.sl 84) s0).bind fun v201 =>
  gV1 v201 fun x202 =>
  gI .i64 x202 fun i203 =>
  vcase (bv (decide (s5 < i203)))
  (idxK 1 s0 (iv .i64 s5) fun v206 =>
  ldK (.one (.f)) ⟨1, 24, [.sl none 0], false, .sl 5, false⟩ h v206 fun v207 =>
  (call Ev Fn.laws_markByteS [v207, iv .i64 s1] h).bind fun p208 =>
  gV1 p208.1 fun x209 =>
  gI .i64 x209 fun i210 =>
  Lp.laws_markByteSS 0 [s0, iv .i64 i210, iv .i64 (IntKind.i64.wrap (s5 + 1))] (tidy h [s0, iv .i64 i210, iv .i64 (IntKind.i64.wrap (s5 + 1))] (tidy h [p208.1] p208.2)))
  (some (.done [iv .i64 s1] (tidy h [iv .i64 s1] h))) := by
  unfold Lp.laws_markByteSS; rw [loop_eq]; kernel_rfl

theorem eq_laws_markEditS (a0 : V) (a1 : Int) (h : H) : call Ev Fn.laws_markEditS [a0, iv .i64 a1] h =
  (Lp.laws_markEditS 0 [a0, iv .i64 a1, iv .i64 0] h).bind fun o101 => lcase o101 (fun l102 h103 =>
  (l102[0]?).bind fun w106 =>
  gV1 w106 fun x107 =>
  gI .i64 x107 fun i108 =>
  some (iv .i64 i108, h103)) (fun v104 h105 =>
  some (v104, h105)) := by
  rw [call_eq]; kernel_rfl

theorem eq_laws_markEditS_l0 (s0 : V) (s1 : Int) (s5 : Int) (h : H) : Lp.laws_markEditS 0 [s0, iv .i64 s1, iv .i64 s5] h =
  (lenV (.sl 138) s0).bind fun v201 =>
  gV1 v201 fun x202 =>
  gI .i64 x202 fun i203 =>
  vcase (bv (decide (s5 < i203)))
  (idxK 2 s0 (iv .i64 s5) fun v206 =>
  (padd 0 v206).bind fun v207 =>
  stK 1 h v207 (iv .i64 s1) fun h208 =>
  idxK 2 s0 (iv .i64 s5) fun v209 =>
  (padd 1 v209).bind fun v210 =>
  ldK (.one (.f)) ⟨1, 24, [.sl none 0], false, .sl 5, false⟩ h208 v210 fun v211 =>
  (call Ev Fn.laws_markByteS [v211, iv .i64 (IntKind.i64.wrap (s1 + 1))] h208).bind fun p212 =>
  gV1 p212.1 fun x213 =>
  gI .i64 x213 fun i214 =>
  Lp.laws_markEditS 0 [s0, iv .i64 i214, iv .i64 (IntKind.i64.wrap (s5 + 1))] (tidy h [s0, iv .i64 i214, iv .i64 (IntKind.i64.wrap (s5 + 1))] (tidy h208 [p212.1] p212.2)))
  (some (.done [iv .i64 s1] (tidy h [iv .i64 s1] h))) := by
  unfold Lp.laws_markEditS; rw [loop_eq]; kernel_rfl

theorem eq_laws_markEditsResult (a0_0 : Int) (a0_1 : S) (a0_2 : S) (a1 : Int) (h : H) : call Ev Fn.laws_markEditsResult [.agg [.int .i64 a0_0, a0_1, a0_2], iv .i64 a1] h =
  (load1 (h.new 0 [.int .i64 a0_0, a0_1, a0_2]) (pv h.n 1)).bind fun x101 =>
  (call Ev Fn.laws_markEditS [.s x101, iv .i64 a1] (h.new 0 [.int .i64 a0_0, a0_1, a0_2])).bind fun p102 =>
  gV1 p102.1 fun x103 =>
  gI .i64 x103 fun i104 =>
  (load1 (tidy (h.new 0 [.int .i64 a0_0, a0_1, a0_2]) [p102.1] p102.2) (pv h.n 2)).bind fun x105 =>
  (call Ev Fn.laws_markByteSS [.s x105, iv .i64 i104] (tidy (h.new 0 [.int .i64 a0_0, a0_1, a0_2]) [p102.1] p102.2)).bind fun p106 =>
  gV1 p106.1 fun x107 =>
  gI .i64 x107 fun i108 =>
  some (iv .i64 i108, tidy (tidy (h.new 0 [.int .i64 a0_0, a0_1, a0_2]) [p102.1] p102.2) [p106.1] p106.2) := by
  rw [call_eq]; kernel_rfl

theorem pu_laws_heldByteS (a0 : List (List S)) (a1 : Int) : pureV (call Ev) Fn.laws_heldByteS [lv a0, iv .i64 a1] =
  (Lp.laws_heldByteS 0 [lv a0, iv .i64 a1, iv .i64 0] (D 0)).bind fun o101 => lcase o101 (fun l102 h103 =>
  (l102[0]?).bind fun w106 =>
  gV1 w106 fun x107 =>
  gI .i64 x107 fun i108 =>
  some (iv .i64 i108)) (fun v104 h105 =>
  frzV h105 v104) := by
  rw [pure_eq]; kernel_rfl

theorem eq_laws_heldByteS_l0 (s0 : List (List S)) (s1 : Int) (s5 : Int) (h : H) : Lp.laws_heldByteS 0 [lv s0, iv .i64 s1, iv .i64 s5] h =
  vcase (bv (decide (s5 < (s0.length : Int))))
  (idxF 1 s0 s5 fun r203 =>
  (r203[0]?).bind fun x204 =>
  gI .u8 x204 fun i205 =>
  vcase (bv (i205 != (IntKind.u8.wrap s1)))
  (some (.ret (iv .i64 (-1)) h))
  (Lp.laws_heldByteS 0 [lv s0, iv .i64 (IntKind.i64.wrap (s1 + 1)), iv .i64 (IntKind.i64.wrap (s5 + 1))] (tidy h [lv s0, iv .i64 (IntKind.i64.wrap (s1 + 1)), iv .i64 (IntKind.i64.wrap (s5 + 1))] h)))
  (some (.done [iv .i64 s1] (tidy h [iv .i64 s1] h))) := by
  unfold Lp.laws_heldByteS; rw [loop_eq]; kernel_rfl

theorem pu_laws_heldEditS (a0 : List (List S)) (a1 : Int) : pureV (call Ev) Fn.laws_heldEditS [lv a0, iv .i64 a1] =
  (Lp.laws_heldEditS 0 [lv a0, iv .i64 a1, iv .i64 0] (D 0)).bind fun o101 => lcase o101 (fun l102 h103 =>
  (l102[0]?).bind fun w106 =>
  gV1 w106 fun x107 =>
  gI .i64 x107 fun i108 =>
  some (iv .i64 i108)) (fun v104 h105 =>
  frzV h105 v104) := by
  rw [pure_eq]; kernel_rfl

theorem eq_laws_heldEditS_l0 (s0 : List (List S)) (s1 : Int) (s5 : Int) (h : H) : Lp.laws_heldEditS 0 [lv s0, iv .i64 s1, iv .i64 s5] h =
  vcase (bv (decide (s5 < (s0.length : Int))))
  (idxF 2 s0 s5 fun r203 =>
  (r203[0]?).bind fun x204 =>
  gI .i64 x204 fun i205 =>
  vcase (bv (i205 != s1))
  (some (.ret (iv .i64 (-1)) h))
  (idxF 2 s0 s5 fun r207 =>
  (r207[1]?).bind fun x208 =>
  gF x208 fun z209 =>
  pcallS (call Ev) Fn.laws_heldByteS [lv z209, iv .i64 (IntKind.i64.wrap (s1 + 1))] fun v210 =>
  gV1 v210 fun x211 =>
  gI .i64 x211 fun i212 =>
  vcase (bv (decide (i212 < 0)))
  (some (.ret (iv .i64 (-1)) h))
  (Lp.laws_heldEditS 0 [lv s0, iv .i64 i212, iv .i64 (IntKind.i64.wrap (s5 + 1))] (tidy h [lv s0, iv .i64 i212, iv .i64 (IntKind.i64.wrap (s5 + 1))] h))))
  (some (.done [iv .i64 s1] (tidy h [iv .i64 s1] h))) := by
  unfold Lp.laws_heldEditS; rw [loop_eq]; kernel_rfl

theorem pu_laws_heldByteSS (a0 : List (List S)) (a1 : Int) : pureV (call Ev) Fn.laws_heldByteSS [lv a0, iv .i64 a1] =
  (Lp.laws_heldByteSS 0 [lv a0, iv .i64 a1, iv .i64 0] (D 0)).bind fun o101 => lcase o101 (fun l102 h103 =>
  (l102[0]?).bind fun w106 =>
  gV1 w106 fun x107 =>
  gI .i64 x107 fun i108 =>
  some (iv .i64 i108)) (fun v104 h105 =>
  frzV h105 v104) := by
  rw [pure_eq]; kernel_rfl

theorem eq_laws_heldByteSS_l0 (s0 : List (List S)) (s1 : Int) (s5 : Int) (h : H) : Lp.laws_heldByteSS 0 [lv s0, iv .i64 s1, iv .i64 s5] h =
  vcase (bv (decide (s5 < (s0.length : Int))))
  (idxF 1 s0 s5 fun r203 =>
  (r203[0]?).bind fun x204 =>
  gF x204 fun z205 =>
  pcallS (call Ev) Fn.laws_heldByteS [lv z205, iv .i64 s1] fun v206 =>
  gV1 v206 fun x207 =>
  gI .i64 x207 fun i208 =>
  vcase (bv (decide (i208 < 0)))
  (some (.ret (iv .i64 (-1)) h))
  (Lp.laws_heldByteSS 0 [lv s0, iv .i64 i208, iv .i64 (IntKind.i64.wrap (s5 + 1))] (tidy h [lv s0, iv .i64 i208, iv .i64 (IntKind.i64.wrap (s5 + 1))] h)))
  (some (.done [iv .i64 s1] (tidy h [iv .i64 s1] h))) := by
  unfold Lp.laws_heldByteSS; rw [loop_eq]; kernel_rfl

end Vm
