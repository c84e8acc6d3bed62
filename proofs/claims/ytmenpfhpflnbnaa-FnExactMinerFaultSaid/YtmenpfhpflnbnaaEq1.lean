/-
  What each function, and each round of each loop, comes to in the small machine. Written by a program (gen3.py).
-/
import Derived.Test.YtmenpfhpflnbnaaEnv
set_option linter.unusedVariables false
set_option maxRecDepth 100000
namespace Vm
open Go

theorem pu_spec_l6Fault (a0 : List (List S)) : pureV (call Ev) Fn.spec_l6Fault [lv a0] =
  vcase (bv (decide ((a0.length : Int) > 12)))
  (some (iv .i64 2))
  (pcallS (call Ev) Fn.spec_l6Cells [lv a0] fun v102 =>
  gV1 v102 fun x103 =>
  gI .i64 x103 fun i104 =>
  vcase (bv (i104 != 0))
  (some (iv .i64 i104))
  ((pureV (call Ev) Fn.spec_l6Spots [lv a0]).bind fun v106 =>
  gV1 v106 fun x107 =>
  gF x107 fun z108 =>
  pcallS (call Ev) Fn.spec_l6Stubs [lv z108, lv a0] fun v109 =>
  gV1 v109 fun x110 =>
  gI .i64 x110 fun i111 =>
  vcase (bv (i111 != 0))
  (some (iv .i64 i111))
  ((pureV (call Ev) Fn.spec_l6Seen [lv a0]).bind fun v113 =>
  gV1 v113 fun x114 =>
  gF x114 fun z115 =>
  (Lp.spec_l6Fault 0 [lv z115, iv .i64 0] (D 0)).bind fun o116 => lcase o116 (fun l117 h118 =>
  some (iv .i64 0)) (fun v119 h120 =>
  frzV h120 v119)))) := by
  rw [pure_eq]; kernel_rfl

theorem eq_spec_l6Fault_l0 (s5 : List (List S)) (s6 : Int) (h : H) : Lp.spec_l6Fault 0 [lv s5, iv .i64 s6] h =
  vcase (bv (decide (s6 < (s5.length : Int))))
  ((Lp.spec_l6Fault 2 [lv s5, iv .i64 s6, iv .i64 0] h).bind fun o203 => lcase o203 (fun l204 h205 =>
  (l204[0]?).bind fun w208 =>
  gV1 w208 fun x209 =>
  gF x209 fun z210 =>
  (l204[1]?).bind fun w211 =>
  gV1 w211 fun x212 =>
  gI .i64 x212 fun i213 =>
  Lp.spec_l6Fault 0 [lv z210, iv .i64 (IntKind.i64.wrap (i213 + 1))] (tidy h [lv z210, iv .i64 (IntKind.i64.wrap (i213 + 1))] h205)) (fun v206 h207 =>
  some (.ret v206 h207)))
  (some (.done [] (tidy h [] h))) := by
  unfold Lp.spec_l6Fault; rw [loop_eq]; kernel_rfl

theorem eq_spec_l6Fault_l2 (s5 : List (List S)) (s6 : Int) (s7 : Int) (h : H) : Lp.spec_l6Fault 2 [lv s5, iv .i64 s6, iv .i64 s7] h =
  vcase (bv (decide (s7 < s6)))
  (idxF 10 s5 s6 fun r403 =>
  (r403[6]?).bind fun x404 =>
  gI .i64 x404 fun i405 =>
  idxF 10 s5 s7 fun r406 =>
  (r406[6]?).bind fun x407 =>
  gI .i64 x407 fun i408 =>
  vcase (bv (i405 == i408))
  (idxF 10 s5 s6 fun r410 =>
  (r410[7]?).bind fun x411 =>
  gI .i64 x411 fun i412 =>
  idxF 10 s5 s7 fun r413 =>
  (r413[7]?).bind fun x414 =>
  gI .i64 x414 fun i415 =>
  vcase (bv (i412 == i415))
  (some (.ret (iv .i64 8) h))
  (Lp.spec_l6Fault 2 [lv s5, iv .i64 s6, iv .i64 (IntKind.i64.wrap (s7 + 1))] (tidy h [lv s5, iv .i64 s6, iv .i64 (IntKind.i64.wrap (s7 + 1))] h)))
  (Lp.spec_l6Fault 2 [lv s5, iv .i64 s6, iv .i64 (IntKind.i64.wrap (s7 + 1))] (tidy h [lv s5, iv .i64 s6, iv .i64 (IntKind.i64.wrap (s7 + 1))] h)))
  (some (.done [lv s5, iv .i64 s6] (tidy h [lv s5, iv .i64 s6] h))) := by
  unfold Lp.spec_l6Fault; rw [loop_eq]; kernel_rfl

theorem eq_laws_toByteS (a0 : List (List S)) (n : Nat) : call Ev Fn.laws_toByteS [lv a0] (D n) =
  (mkSl 1 [.int .u8 0] (D n) (iv .i64 (a0.length : Int)) (iv .i64 (a0.length : Int))).bind fun p101 =>
  (Lp.laws_toByteS 0 [lv a0, p101.1, iv .i64 0] p101.2).bind fun o102 => lcase o102 (fun l103 h104 =>
  (l103[0]?).bind fun w107 =>
  some (w107, h104)) (fun v105 h106 =>
  some (v105, h106)) := by
  rw [call_eq]; kernel_rfl

theorem eq_laws_toByteS_l0 (s0 : List (List S)) (s3 : V) (s4 : Int) (h : H) : Lp.laws_toByteS 0 [lv s0, s3, iv .i64 s4] h =
  vcase (bv (decide (s4 < (s0.length : Int))))
  (idxF 1 s0 s4 fun r203 =>
  (r203[0]?).bind fun x204 =>
  gI .u8 x204 fun i205 =>
  idxK 1 s3 (iv .i64 s4) fun v206 =>
  stK 1 h v206 (iv .u8 i205) fun h207 =>
  Lp.laws_toByteS 0 [lv s0, s3, iv .i64 (IntKind.i64.wrap (s4 + 1))] (tidy h [lv s0, s3, iv .i64 (IntKind.i64.wrap (s4 + 1))] h207))
  (some (.done [s3] (tidy h [s3] h))) := by
  unfold Lp.laws_toByteS; rw [loop_eq]; kernel_rfl

theorem eq_laws_toByteSS (a0 : List (List S)) (n : Nat) : call Ev Fn.laws_toByteSS [lv a0] (D n) =
  (mkSl 1 [.sl none 0] (D n) (iv .i64 (a0.length : Int)) (iv .i64 (a0.length : Int))).bind fun p101 =>
  (Lp.laws_toByteSS 0 [lv a0, p101.1, iv .i64 0] p101.2).bind fun o102 => lcase o102 (fun l103 h104 =>
  (l103[0]?).bind fun w107 =>
  some (w107, h104)) (fun v105 h106 =>
  some (v105, h106)) := by
  rw [call_eq]; kernel_rfl

theorem eq_laws_toByteSS_l0 (s0 : List (List S)) (s3 : V) (s4 : Int) (h : H) : Lp.laws_toByteSS 0 [lv s0, s3, iv .i64 s4] h =
  vcase (bv (decide (s4 < (s0.length : Int))))
  (idxF 1 s0 s4 fun r203 =>
  (r203[0]?).bind fun x204 =>
  gF x204 fun z205 =>
  pcallF (call Ev) Fn.laws_toByteS true [lv z205] h fun v206 h207 =>
  idxK 1 s3 (iv .i64 s4) fun v208 =>
  stK 1 h207 v208 v206 fun h209 =>
  Lp.laws_toByteSS 0 [lv s0, s3, iv .i64 (IntKind.i64.wrap (s4 + 1))] (tidy h [lv s0, s3, iv .i64 (IntKind.i64.wrap (s4 + 1))] h209))
  (some (.done [s3] (tidy h [s3] h))) := by
  unfold Lp.laws_toByteSS; rw [loop_eq]; kernel_rfl

theorem pu_impl_slots (a0 : List (List S)) : pureV (call Ev) Fn.impl_slots [lv a0] =
  idxF 1 a0 0 fun r101 =>
  (r101[0]?).bind fun x102 =>
  gI .u8 x102 fun i103 =>
  some (iv .i64 (IntKind.i64.wrap i103)) := by
  rw [pure_eq]; kernel_rfl

theorem pu_impl_spot (a0 : List (List S)) (a1 : Int) : pureV (call Ev) Fn.impl_spot [lv a0, iv .i64 a1] =
  idxF 1 a0 (IntKind.i64.wrap (2 + (IntKind.i64.wrap (2 * a1)))) fun r101 =>
  (r101[0]?).bind fun x102 =>
  gI .u8 x102 fun i103 =>
  idxF 1 a0 (IntKind.i64.wrap (3 + (IntKind.i64.wrap (2 * a1)))) fun r104 =>
  (r104[0]?).bind fun x105 =>
  gI .u8 x105 fun i106 =>
  some (.tup [.s (.int .i64 (IntKind.i64.wrap i103)), .s (.int .i64 (IntKind.i64.wrap i106))]) := by
  rw [pure_eq]; kernel_rfl

noncomputable def Jn.impl_PageFault_0 (q148 : Bool) (a0 : List (List S)) (i107 : Int) (i104 : Int) : Option (V) :=
  vcase (bv q148)
  (some (iv .i64 3))
  ((Lp.impl_PageFault 0 [lv a0, iv .i64 i107, iv .i64 (IntKind.i64.wrap i104), iv .i64 i107, iv .i64 0] (D 0)).bind fun o150 => lcase o150 (fun l151 h152 =>
  (l151[0]?).bind fun w155 =>
  gV1 w155 fun x156 =>
  gF x156 fun z157 =>
  (l151[1]?).bind fun w158 =>
  gV1 w158 fun x159 =>
  gI .i64 x159 fun i160 =>
  (Lp.impl_PageFault 2 [lv z157, iv .i64 i160, pv h152.n 0, iv .i64 i160, iv .i64 0] (h152.new 0 [.bool false, .bool false, .bool false, .bool false, .bool false, .bool false, .bool false, .bool false, .bool false, .bool false, .bool false, .bool false, .bool false, .bool false, .bool false, .bool false, .bool false, .bool false, .bool false, .bool false, .bool false, .bool false, .bool false, .bool false, .bool false, .bool false, .bool false, .bool false, .bool false, .bool false, .bool false, .bool false, .bool false, .bool false, .bool false, .bool false, .bool false, .bool false, .bool false, .bool false, .bool false, .bool false, .bool false, .bool false, .bool false, .bool false, .bool false, .bool false, .bool false, .bool false, .bool false, .bool false, .bool false, .bool false, .bool false, .bool false, .bool false, .bool false, .bool false, .bool false, .bool false, .bool false, .bool false, .bool false])).bind fun o161 => lcase o161 (fun l162 h163 =>
  (l162[0]?).bind fun w166 =>
  gV1 w166 fun x167 =>
  gF x167 fun z168 =>
  (l162[1]?).bind fun w169 =>
  gV1 w169 fun x170 =>
  gI .i64 x170 fun i171 =>
  vcase (bv (decide (i171 > 0)))
  (idxF 1 z168 (IntKind.i64.wrap ((IntKind.i64.wrap (2 * i171)) + 1)) fun r173 =>
  (r173[0]?).bind fun x174 =>
  gI .u8 x174 fun i175 =>
  vcase (bv (i175 == 0))
  (some (iv .i64 8))
  (some (iv .i64 0)))
  (some (iv .i64 0))) (fun v164 h165 =>
  frzV h165 v164)) (fun v153 h154 =>
  frzV h154 v153))

theorem pu_impl_PageFault (a0 : List (List S)) : pureV (call Ev) Fn.impl_PageFault [lv a0] =
  vcase (bv ((a0.length : Int) != 64))
  (some (iv .i64 1))
  (idxF 1 a0 1 fun r102 =>
  (r102[0]?).bind fun x103 =>
  gI .u8 x103 fun i104 =>
  pcallS (call Ev) Fn.impl_slots [lv a0] fun v105 =>
  gV1 v105 fun x106 =>
  gI .i64 x106 fun i107 =>
  hchk (D 0) (D 0) (
  vcase (bv (decide (i107 > 16)))
  (some (iv .i64 3))
  (vcase (bv (decide ((IntKind.i64.wrap i104) < (IntKind.i64.wrap (2 + (IntKind.i64.wrap (2 * i107)))))))
  (Jn.impl_PageFault_0 true a0 i107 i104)
  (Jn.impl_PageFault_0 (decide ((IntKind.i64.wrap i104) > 64)) a0 i107 i104)))) := by
  rw [pure_eq]; kernel_rfl

theorem eq_impl_PageFault_l0 (s0 : List (List S)) (s3 : Int) (s4 : Int) (s35 : Int) (s36 : Int) (h : H) : Lp.impl_PageFault 0 [lv s0, iv .i64 s3, iv .i64 s4, iv .i64 s35, iv .i64 s36] h =
  vcase (bv (decide (s36 < s35)))
  (pcallS (call Ev) Fn.impl_spot [lv s0, iv .i64 s36] fun v203 =>
  gVT v203 fun u204 =>
  (u204[0]?).bind fun t205 =>
  gA1 t205 fun x206 =>
  gI .i64 x206 fun i207 =>
  (u204[1]?).bind fun t208 =>
  gA1 t208 fun x209 =>
  gI .i64 x209 fun i210 =>
  if u204.length = 2 then
  vcase (bv (!((i207 == 0) == (i210 == 0))))
  (some (.ret (iv .i64 3) h))
  (vcase (bv (i207 != 0))
  (vcase (bv (decide (i207 < s4)))
  (some (.ret (iv .i64 3) h))
  (vcase (bv (decide ((IntKind.i64.wrap (i207 + i210)) > 64)))
  (some (.ret (iv .i64 3) h))
  (Lp.impl_PageFault 0 [lv s0, iv .i64 s3, iv .i64 s4, iv .i64 s35, iv .i64 (IntKind.i64.wrap (s36 + 1))] (tidy h [lv s0, iv .i64 s3, iv .i64 s4, iv .i64 s35, iv .i64 (IntKind.i64.wrap (s36 + 1))] h))))
  (vcase (bv (decide ((IntKind.i64.wrap (i207 + i210)) > 64)))
  (some (.ret (iv .i64 3) h))
  (Lp.impl_PageFault 0 [lv s0, iv .i64 s3, iv .i64 s4, iv .i64 s35, iv .i64 (IntKind.i64.wrap (s36 + 1))] (tidy h [lv s0, iv .i64 s3, iv .i64 s4, iv .i64 s35, iv .i64 (IntKind.i64.wrap (s36 + 1))] h))))
  else none)
  (some (.done [lv s0, iv .i64 s3] (tidy h [lv s0, iv .i64 s3] h))) := by
  unfold Lp.impl_PageFault; rw [loop_eq]; kernel_rfl

theorem eq_impl_PageFault_l2 (s0 : List (List S)) (s3 : Int) (s8 : V) (s66 : Int) (s67 : Int) (h : H) : Lp.impl_PageFault 2 [lv s0, iv .i64 s3, s8, iv .i64 s66, iv .i64 s67] h =
  vcase (bv (decide (s67 < s66)))
  (pcallS (call Ev) Fn.impl_spot [lv s0, iv .i64 s67] fun v403 =>
  gVT v403 fun u404 =>
  (u404[0]?).bind fun t405 =>
  gA1 t405 fun x406 =>
  gI .i64 x406 fun i407 =>
  (u404[1]?).bind fun t408 =>
  gA1 t408 fun x409 =>
  gI .i64 x409 fun i410 =>
  if u404.length = 2 then
  (Lp.impl_PageFault 4 [lv s0, iv .i64 s3, s8, iv .i64 i407, iv .i64 i410, iv .i64 i407, iv .i64 s66, iv .i64 s67] h).bind fun o411 => lcase o411 (fun l412 h413 =>
  (l412[0]?).bind fun w416 =>
  gV1 w416 fun x417 =>
  gF x417 fun z418 =>
  (l412[1]?).bind fun w419 =>
  gV1 w419 fun x420 =>
  gI .i64 x420 fun i421 =>
  (l412[2]?).bind fun w422 =>
  (l412[3]?).bind fun w423 =>
  gV1 w423 fun x424 =>
  gI .i64 x424 fun i425 =>
  (l412[4]?).bind fun w426 =>
  gV1 w426 fun x427 =>
  gI .i64 x427 fun i428 =>
  Lp.impl_PageFault 2 [lv z418, iv .i64 i421, w422, iv .i64 i425, iv .i64 (IntKind.i64.wrap (i428 + 1))] (tidy h [lv z418, iv .i64 i421, w422, iv .i64 i425, iv .i64 (IntKind.i64.wrap (i428 + 1))] h413)) (fun v414 h415 =>
  some (.ret v414 h415))
  else none)
  (some (.done [lv s0, iv .i64 s3] (tidy h [lv s0, iv .i64 s3] h))) := by
  unfold Lp.impl_PageFault; rw [loop_eq]; kernel_rfl

theorem eq_impl_PageFault_l4 (s0 : List (List S)) (s3 : Int) (s8 : V) (s10 : Int) (s11 : Int) (s12 : Int) (s66 : Int) (s67 : Int) (h : H) : Lp.impl_PageFault 4 [lv s0, iv .i64 s3, s8, iv .i64 s10, iv .i64 s11, iv .i64 s12, iv .i64 s66, iv .i64 s67] h =
  vcase (bv (decide (s12 < (IntKind.i64.wrap (s10 + s11)))))
  ((idxA 64 1 s8 (iv .i64 s12)).bind fun v603 =>
  ldK (.one (.b)) ⟨1, 1, [.bool false], false, .bool, false⟩ h v603 fun v604 =>
  gV1 v604 fun x605 =>
  gB x605 fun q606 =>
  vcase (bv q606)
  (some (.ret (iv .i64 8) h))
  ((idxA 64 1 s8 (iv .i64 s12)).bind fun v608 =>
  stK 1 h v608 (bv true) fun h609 =>
  Lp.impl_PageFault 4 [lv s0, iv .i64 s3, s8, iv .i64 s10, iv .i64 s11, iv .i64 (IntKind.i64.wrap (s12 + 1)), iv .i64 s66, iv .i64 s67] (tidy h [lv s0, iv .i64 s3, s8, iv .i64 s10, iv .i64 s11, iv .i64 (IntKind.i64.wrap (s12 + 1)), iv .i64 s66, iv .i64 s67] h609)))
  (some (.done [lv s0, iv .i64 s3, s8, iv .i64 s66, iv .i64 s67] (tidy h [lv s0, iv .i64 s3, s8, iv .i64 s66, iv .i64 s67] h))) := by
  unfold Lp.impl_PageFault; rw [loop_eq]; kernel_rfl

theorem pu_impl_hasSlot (a0 : List (List S)) (a1 : Int) : pureV (call Ev) Fn.impl_hasSlot [lv a0, iv .i64 a1] =
  vcase (bv (decide (a1 ≥ 0)))
  (pcallS (call Ev) Fn.impl_slots [lv a0] fun v102 =>
  gV1 v102 fun x103 =>
  gI .i64 x103 fun i104 =>
  vcase (bv (decide (a1 < i104)))
  (idxF 1 a0 (IntKind.i64.wrap (3 + (IntKind.i64.wrap (2 * a1)))) fun r108 =>
  (r108[0]?).bind fun x109 =>
  gI .u8 x109 fun i110 =>
  some (bv (i110 != 0)))
  (some (bv false)))
  (some (bv false)) := by
  rw [pure_eq]; kernel_rfl

theorem pu_impl_cellAt (a0 : List (List S)) (a1 : Int) : pureV (call Ev) Fn.impl_cellAt [lv a0, iv .i64 a1] =
  pcallS (call Ev) Fn.impl_spot [lv a0, iv .i64 a1] fun v101 =>
  gVT v101 fun u102 =>
  (u102[0]?).bind fun t103 =>
  gA1 t103 fun x104 =>
  gI .i64 x104 fun i105 =>
  (u102[1]?).bind fun t106 =>
  gA1 t106 fun x107 =>
  gI .i64 x107 fun i108 =>
  if u102.length = 2 then
  slF 1 a0 (some (iv .i64 i105)) (some (iv .i64 (IntKind.i64.wrap (i105 + i108)))) fun z109 =>
  some (lv z109)
  else none := by
  rw [pure_eq]; kernel_rfl

theorem pu_impl_in (a0 : Int) (a1 : Int) (a2 : Int) : pureV (call Ev) Fn.impl_in [iv .i64 a0, iv .i64 a1, iv .i64 a2] =
  vcase (bv (decide (a0 ≥ a1)))
  (some (bv (decide (a0 ≤ a2))))
  (some (bv false)) := by
  rw [pure_eq]; kernel_rfl

theorem pu_impl_RowFault (a0_0 : Int) (a0_1 : Int) (a0_2 : Int) (a0_3 : ByteArray) : pureV (call Ev) Fn.impl_RowFault [.agg [.int .i64 a0_0, .int .i64 a0_1, .int .i64 a0_2, .str a0_3]] =
  pcallS (call Ev) Fn.impl_in [iv .i64 a0_0, iv .i64 0, iv .i64 3] fun v101 =>
  gV1 v101 fun x102 =>
  gB x102 fun q103 =>
  vcase (bv (!q103))
  (some (iv .i64 3))
  (pcallS (call Ev) Fn.impl_in [iv .i64 a0_1, iv .i64 1, iv .i64 99] fun v106 =>
  gV1 v106 fun x107 =>
  gB x107 fun q108 =>
  vcase (bv (!q108))
  (some (iv .i64 3))
  (pcallS (call Ev) Fn.impl_in [iv .i64 a0_2, iv .i64 0, iv .i64 999] fun v114 =>
  gV1 v114 fun x115 =>
  gB x115 fun q116 =>
  vcase (bv (!q116))
  (some (iv .i64 3))
  (vcase (bv (decide (((a0_3 : ByteArray).size : Int) > 8)))
  (some (iv .i64 5))
  ((Lp.impl_RowFault 0 [pv 0 0, iv .i64 ((a0_3 : ByteArray).size : Int), iv .i64 0] ((D 0).new 0 [.int .i64 a0_0, .int .i64 a0_1, .int .i64 a0_2, .str a0_3])).bind fun o121 => lcase o121 (fun l122 h123 =>
  some (iv .i64 0)) (fun v124 h125 =>
  frzV h125 v124))))) := by
  rw [pure_eq]; kernel_rfl

theorem eq_impl_RowFault_l0 (s1 : V) (s26 : Int) (s27 : Int) (h : H) : Lp.impl_RowFault 0 [s1, iv .i64 s26, iv .i64 s27] h =
  vcase (bv (decide (s27 < s26)))
  ((padd 3 s1).bind fun v203 =>
  ldK (.one (.s)) ⟨1, 16, [.str ⟨#[]⟩], false, .str, false⟩ h v203 fun v204 =>
  gV1 v204 fun x205 =>
  gS x205 fun y206 =>
  (idxStr (.s (.str y206)) (iv .i64 s27)).bind fun v207 =>
  gV1 v207 fun x208 =>
  gI .u8 x208 fun i209 =>
  vcase (bv (decide (i209 < 97)))
  (some (.ret (iv .i64 5) h))
  ((padd 3 s1).bind fun v212 =>
  ldK (.one (.s)) ⟨1, 16, [.str ⟨#[]⟩], false, .str, false⟩ h v212 fun v213 =>
  gV1 v213 fun x214 =>
  gS x214 fun y215 =>
  (idxStr (.s (.str y215)) (iv .i64 s27)).bind fun v216 =>
  gV1 v216 fun x217 =>
  gI .u8 x217 fun i218 =>
  vcase (bv (decide (i218 > 122)))
  (some (.ret (iv .i64 5) h))
  (Lp.impl_RowFault 0 [s1, iv .i64 s26, iv .i64 (IntKind.i64.wrap (s27 + 1))] (tidy h [s1, iv .i64 s26, iv .i64 (IntKind.i64.wrap (s27 + 1))] h))))
  (some (.done [] (tidy h [] h))) := by
  unfold Lp.impl_RowFault; rw [loop_eq]; kernel_rfl

noncomputable def Jn.impl_UnpackCell_0 (q367 : Bool) (a0 : List (List S)) : Option (V) :=
  vcase (bv q367)
  (some (.agg [.int .i64 5, .int .i64 0, .int .i64 0, .int .i64 0, .int .i64 0, .int .i64 0, .int .i64 0, .str (⟨#[]⟩)]))
  (idxF 1 a0 1 fun r369 =>
  (r369[0]?).bind fun x370 =>
  gI .u8 x370 fun i371 =>
  idxF 1 a0 2 fun r372 =>
  (r372[0]?).bind fun x373 =>
  gI .u8 x373 fun i374 =>
  idxF 1 a0 3 fun r375 =>
  (r375[0]?).bind fun x376 =>
  gI .u8 x376 fun i377 =>
  (bin Ev .shl 2 (iv .i64 (IntKind.i64.wrap i377)) (iv .u64 8)).bind fun b378 =>
  gV1 b378 fun x379 =>
  gI .i64 x379 fun i380 =>
  idxF 1 a0 4 fun r381 =>
  (r381[0]?).bind fun x382 =>
  gI .u8 x382 fun i383 =>
  (bin Ev .or 2 (iv .i64 i380) (iv .i64 (IntKind.i64.wrap i383))).bind fun b384 =>
  gV1 b384 fun x385 =>
  gI .i64 x385 fun i386 =>
  slF 1 a0 (some (iv .i64 6)) none fun z387 =>
  (fsStr z387).bind fun v388 =>
  gV1 v388 fun x389 =>
  gS x389 fun y390 =>
  hchk ((D 0).new 0 [.int .i64 0, .int .i64 0, .int .i64 0, .int .i64 0, .int .i64 0, .int .i64 0, .int .i64 0, .str (⟨#[]⟩)]) (((D 0).new 0 [.int .i64 0, .int .i64 0, .int .i64 0, .int .i64 0, .int .i64 0, .int .i64 0, .int .i64 0, .str (⟨#[]⟩)]).new 0 [.int .i64 0, .int .i64 0, .int .i64 0, .str (⟨#[]⟩)]) (
  pcallS (call Ev) Fn.impl_RowFault [.agg [.int .i64 (IntKind.i64.wrap i371), .int .i64 (IntKind.i64.wrap i374), .int .i64 i386, .str y390]] fun v391 =>
  gV1 v391 fun x392 =>
  gI .i64 x392 fun i393 =>
  vcase (bv (i393 != 0))
  (some (.agg [.int .i64 5, .int .i64 0, .int .i64 0, .int .i64 0, .int .i64 0, .int .i64 0, .int .i64 0, .str (⟨#[]⟩)]))
  (idxF 1 a0 0 fun r395 =>
  (r395[0]?).bind fun x396 =>
  gI .u8 x396 fun i397 =>
  some (.agg [.int .i64 0, .int .i64 (IntKind.i64.wrap i397), .int .i64 0, .int .i64 0, .int .i64 (IntKind.i64.wrap i371), .int .i64 (IntKind.i64.wrap i374), .int .i64 i386, .str y390]))))

noncomputable def Jn.impl_UnpackCell_1 (q360 : Bool) (a0 : List (List S)) : Option (V) :=
  vcase (bv q360)
  (Jn.impl_UnpackCell_0 true a0)
  (idxF 1 a0 5 fun r363 =>
  (r363[0]?).bind fun x364 =>
  gI .u8 x364 fun i365 =>
  Jn.impl_UnpackCell_0 ((a0.length : Int) != (IntKind.i64.wrap (6 + (IntKind.i64.wrap i365)))) a0)

noncomputable def Jn.impl_UnpackCell_2 (q333 : Bool) (a0 : List (List S)) : Option (V) :=
  vcase (bv q333)
  (idxF 1 a0 2 fun r335 =>
  (r335[0]?).bind fun x336 =>
  gI .u8 x336 fun i337 =>
  vcase (bv (decide (i337 < 16)))
  (idxF 1 a0 1 fun r341 =>
  (r341[0]?).bind fun x342 =>
  gI .u8 x342 fun i343 =>
  idxF 1 a0 2 fun r344 =>
  (r344[0]?).bind fun x345 =>
  gI .u8 x345 fun i346 =>
  some (.agg [.int .i64 0, .int .i64 1, .int .i64 (IntKind.i64.wrap i343), .int .i64 (IntKind.i64.wrap i346), .int .i64 0, .int .i64 0, .int .i64 0, .str (⟨#[]⟩)]))
  (vcase (bv (decide ((a0.length : Int) < 6)))
  (Jn.impl_UnpackCell_1 true a0)
  (idxF 1 a0 0 fun r349 =>
  (r349[0]?).bind fun x350 =>
  gI .u8 x350 fun i351 =>
  vcase (bv (i351 != 0))
  (idxF 1 a0 0 fun r353 =>
  (r353[0]?).bind fun x354 =>
  gI .u8 x354 fun i355 =>
  Jn.impl_UnpackCell_1 (i355 != 2) a0)
  (Jn.impl_UnpackCell_1 false a0))))
  (vcase (bv (decide ((a0.length : Int) < 6)))
  (Jn.impl_UnpackCell_1 true a0)
  (idxF 1 a0 0 fun r401 =>
  (r401[0]?).bind fun x402 =>
  gI .u8 x402 fun i403 =>
  vcase (bv (i403 != 0))
  (idxF 1 a0 0 fun r405 =>
  (r405[0]?).bind fun x406 =>
  gI .u8 x406 fun i407 =>
  Jn.impl_UnpackCell_1 (i407 != 2) a0)
  (Jn.impl_UnpackCell_1 false a0)))

theorem pu_impl_UnpackCell (a0 : List (List S)) : pureV (call Ev) Fn.impl_UnpackCell [lv a0] =
  vcase (bv ((a0.length : Int) == 3))
  (idxF 1 a0 0 fun r102 =>
  (r102[0]?).bind fun x103 =>
  gI .u8 x103 fun i104 =>
  vcase (bv (i104 == 1))
  (idxF 1 a0 1 fun r108 =>
  (r108[0]?).bind fun x109 =>
  gI .u8 x109 fun i110 =>
  Jn.impl_UnpackCell_2 (decide (i110 < 12)) a0)
  (Jn.impl_UnpackCell_2 false a0))
  (vcase (bv (decide ((a0.length : Int) < 6)))
  (Jn.impl_UnpackCell_1 true a0)
  (idxF 1 a0 0 fun r455 =>
  (r455[0]?).bind fun x456 =>
  gI .u8 x456 fun i457 =>
  vcase (bv (i457 != 0))
  (idxF 1 a0 0 fun r459 =>
  (r459[0]?).bind fun x460 =>
  gI .u8 x460 fun i461 =>
  Jn.impl_UnpackCell_1 (i461 != 2) a0)
  (Jn.impl_UnpackCell_1 false a0))) := by
  rw [pure_eq]; kernel_rfl

theorem pu_impl_IsBefore (a0_0 : Int) (a0_1 : Int) (a0_2 : Int) (a0_3 : ByteArray) (a1_0 : Int) (a1_1 : Int) (a1_2 : Int) (a1_3 : ByteArray) : pureV (call Ev) Fn.impl_IsBefore [.agg [.int .i64 a0_0, .int .i64 a0_1, .int .i64 a0_2, .str a0_3], .agg [.int .i64 a1_0, .int .i64 a1_1, .int .i64 a1_2, .str a1_3]] =
  vcase (bv (decide (a0_0 < a1_0)))
  (some (bv true))
  (vcase (bv (a0_0 == a1_0))
  (some (bv (decide (a0_1 < a1_1))))
  (some (bv false))) := by
  rw [pure_eq]; kernel_rfl

theorem eq_slices_insertionSortCmpFunc_impl_seen (a0 : V) (a1 : Int) (a2 : Int) (h : H) : call Ev Fn.slices_insertionSortCmpFunc_impl_seen [a0, iv .i64 a1, iv .i64 a2, .s (.fn Fn.impl_look_1 [])] h =
  (Lp.slices_insertionSortCmpFunc_impl_seen 0 [a0, iv .i64 a1, iv .i64 a2, .s (.fn Fn.impl_look_1 []), iv .i64 (IntKind.i64.wrap (a1 + 1))] h).bind fun o101 => lcase o101 (fun l102 h103 =>
  some (.tup [], h103)) (fun v104 h105 =>
  some (v104, h105)) := by
  rw [call_eq]; kernel_rfl

theorem eq_slices_insertionSortCmpFunc_impl_seen_l0 (s0 : V) (s1 : Int) (s2 : Int) (s8 : Int) (h : H) : Lp.slices_insertionSortCmpFunc_impl_seen 0 [s0, iv .i64 s1, iv .i64 s2, .s (.fn Fn.impl_look_1 []), iv .i64 s8] h =
  vcase (bv (decide (s8 < s2)))
  ((Lp.slices_insertionSortCmpFunc_impl_seen 2 [s0, iv .i64 s1, iv .i64 s2, .s (.fn Fn.impl_look_1 []), iv .i64 s8, iv .i64 s8] h).bind fun o203 => lcase o203 (fun l204 h205 =>
  (l204[0]?).bind fun w208 =>
  (l204[1]?).bind fun w209 =>
  gV1 w209 fun x210 =>
  gI .i64 x210 fun i211 =>
  (l204[2]?).bind fun w212 =>
  gV1 w212 fun x213 =>
  gI .i64 x213 fun i214 =>
  (l204[3]?).bind fun w215 =>
  (l204[4]?).bind fun w216 =>
  gV1 w216 fun x217 =>
  gI .i64 x217 fun i218 =>
  Lp.slices_insertionSortCmpFunc_impl_seen 0 [w208, iv .i64 i211, iv .i64 i214, w215, iv .i64 (IntKind.i64.wrap (i218 + 1))] (tidy h [w208, iv .i64 i211, iv .i64 i214, w215, iv .i64 (IntKind.i64.wrap (i218 + 1))] h205)) (fun v206 h207 =>
  some (.ret v206 h207)))
  (some (.done [] (tidy h [] h))) := by
  unfold Lp.slices_insertionSortCmpFunc_impl_seen; rw [loop_eq]; kernel_rfl

noncomputable def Jn.slices_insertionSortCmpFunc_impl_seen_l2_0 (q497 : Bool) (w498 : V) (w499 : V) (w500 : V) (w501 : V) (w502 : V) (w503 : V) (w504 : V) (w505 : V) (w506 : V) (w507 : V) (w508 : V) (w509 : V) (q510 : Bool) (s0 : V) (s9 : Int) (h : H) (s1 : Int) (s2 : Int) (s8 : Int) : Option (LOut) :=
  vcase (bv q510)
  (idxK 9 s0 (iv .i64 (IntKind.i64.wrap (s9 - 1))) fun v513 =>
  ldK (.agg [.i .i64, .i .i64, .i .i64, .s, .i .i64, .i .i64, .b, .i .i64, .i .i64]) ⟨9, 80, [.int .i64 0, .int .i64 0, .int .i64 0, .str ⟨#[]⟩, .int .i64 0, .int .i64 0, .bool false, .int .i64 0, .int .i64 0], true, .st [(0, 29), (4, 3), (5, 3), (6, 4), (7, 3), (8, 3)], true⟩ h v513 fun v514 =>
  gVA v514 fun c515 =>
  (c515[0]?).bind fun x516 =>
  gI .i64 x516 fun i517 =>
  (c515[1]?).bind fun x518 =>
  gI .i64 x518 fun i519 =>
  (c515[2]?).bind fun x520 =>
  gI .i64 x520 fun i521 =>
  (c515[3]?).bind fun x522 =>
  gS x522 fun y523 =>
  (c515[4]?).bind fun x524 =>
  gI .i64 x524 fun i525 =>
  (c515[5]?).bind fun x526 =>
  gI .i64 x526 fun i527 =>
  (c515[6]?).bind fun x528 =>
  gB x528 fun q529 =>
  (c515[7]?).bind fun x530 =>
  gI .i64 x530 fun i531 =>
  (c515[8]?).bind fun x532 =>
  gI .i64 x532 fun i533 =>
  if c515.length = 9 then
  idxK 9 s0 (iv .i64 s9) fun v534 =>
  ldK (.agg [.i .i64, .i .i64, .i .i64, .s, .i .i64, .i .i64, .b, .i .i64, .i .i64]) ⟨9, 80, [.int .i64 0, .int .i64 0, .int .i64 0, .str ⟨#[]⟩, .int .i64 0, .int .i64 0, .bool false, .int .i64 0, .int .i64 0], true, .st [(0, 29), (4, 3), (5, 3), (6, 4), (7, 3), (8, 3)], true⟩ h v534 fun v535 =>
  gVA v535 fun c536 =>
  (c536[0]?).bind fun x537 =>
  gI .i64 x537 fun i538 =>
  (c536[1]?).bind fun x539 =>
  gI .i64 x539 fun i540 =>
  (c536[2]?).bind fun x541 =>
  gI .i64 x541 fun i542 =>
  (c536[3]?).bind fun x543 =>
  gS x543 fun y544 =>
  (c536[4]?).bind fun x545 =>
  gI .i64 x545 fun i546 =>
  (c536[5]?).bind fun x547 =>
  gI .i64 x547 fun i548 =>
  (c536[6]?).bind fun x549 =>
  gB x549 fun q550 =>
  (c536[7]?).bind fun x551 =>
  gI .i64 x551 fun i552 =>
  (c536[8]?).bind fun x553 =>
  gI .i64 x553 fun i554 =>
  if c536.length = 9 then
  idxK 9 s0 (iv .i64 s9) fun v555 =>
  stK 9 h v555 (.agg [.int .i64 i517, .int .i64 i519, .int .i64 i521, .str y523, .int .i64 i525, .int .i64 i527, .bool q529, .int .i64 i531, .int .i64 i533]) fun h556 =>
  idxK 9 s0 (iv .i64 (IntKind.i64.wrap (s9 - 1))) fun v557 =>
  stK 9 h556 v557 (.agg [.int .i64 i538, .int .i64 i540, .int .i64 i542, .str y544, .int .i64 i546, .int .i64 i548, .bool q550, .int .i64 i552, .int .i64 i554]) fun h558 =>
  Lp.slices_insertionSortCmpFunc_impl_seen 2 [s0, iv .i64 s1, iv .i64 s2, .s (.fn Fn.impl_look_1 []), iv .i64 s8, iv .i64 (IntKind.i64.wrap (s9 - 1))] (tidy h [s0, iv .i64 s1, iv .i64 s2, .s (.fn Fn.impl_look_1 []), iv .i64 s8, iv .i64 (IntKind.i64.wrap (s9 - 1))] h558)
  else none
  else none)
  (some (.done [s0, iv .i64 s1, iv .i64 s2, .s (.fn Fn.impl_look_1 []), iv .i64 s8] (tidy h [s0, iv .i64 s1, iv .i64 s2, .s (.fn Fn.impl_look_1 []), iv .i64 s8] h)))

theorem eq_slices_insertionSortCmpFunc_impl_seen_l2 (s0 : V) (s1 : Int) (s2 : Int) (s8 : Int) (s9 : Int) (h : H) : Lp.slices_insertionSortCmpFunc_impl_seen 2 [s0, iv .i64 s1, iv .i64 s2, .s (.fn Fn.impl_look_1 []), iv .i64 s8, iv .i64 s9] h =
  vcase (bv (decide (s9 > s1)))
  (idxK 9 s0 (iv .i64 s9) fun v402 =>
  ldK (.agg [.i .i64, .i .i64, .i .i64, .s, .i .i64, .i .i64, .b, .i .i64, .i .i64]) ⟨9, 80, [.int .i64 0, .int .i64 0, .int .i64 0, .str ⟨#[]⟩, .int .i64 0, .int .i64 0, .bool false, .int .i64 0, .int .i64 0], true, .st [(0, 29), (4, 3), (5, 3), (6, 4), (7, 3), (8, 3)], true⟩ h v402 fun v403 =>
  gVA v403 fun c404 =>
  (c404[0]?).bind fun x405 =>
  gI .i64 x405 fun i406 =>
  (c404[1]?).bind fun x407 =>
  gI .i64 x407 fun i408 =>
  (c404[2]?).bind fun x409 =>
  gI .i64 x409 fun i410 =>
  (c404[3]?).bind fun x411 =>
  gS x411 fun y412 =>
  (c404[4]?).bind fun x413 =>
  gI .i64 x413 fun i414 =>
  (c404[5]?).bind fun x415 =>
  gI .i64 x415 fun i416 =>
  (c404[6]?).bind fun x417 =>
  gB x417 fun q418 =>
  (c404[7]?).bind fun x419 =>
  gI .i64 x419 fun i420 =>
  (c404[8]?).bind fun x421 =>
  gI .i64 x421 fun i422 =>
  if c404.length = 9 then
  idxK 9 s0 (iv .i64 (IntKind.i64.wrap (s9 - 1))) fun v423 =>
  ldK (.agg [.i .i64, .i .i64, .i .i64, .s, .i .i64, .i .i64, .b, .i .i64, .i .i64]) ⟨9, 80, [.int .i64 0, .int .i64 0, .int .i64 0, .str ⟨#[]⟩, .int .i64 0, .int .i64 0, .bool false, .int .i64 0, .int .i64 0], true, .st [(0, 29), (4, 3), (5, 3), (6, 4), (7, 3), (8, 3)], true⟩ h v423 fun v424 =>
  gVA v424 fun c425 =>
  (c425[0]?).bind fun x426 =>
  gI .i64 x426 fun i427 =>
  (c425[1]?).bind fun x428 =>
  gI .i64 x428 fun i429 =>
  (c425[2]?).bind fun x430 =>
  gI .i64 x430 fun i431 =>
  (c425[3]?).bind fun x432 =>
  gS x432 fun y433 =>
  (c425[4]?).bind fun x434 =>
  gI .i64 x434 fun i435 =>
  (c425[5]?).bind fun x436 =>
  gI .i64 x436 fun i437 =>
  (c425[6]?).bind fun x438 =>
  gB x438 fun q439 =>
  (c425[7]?).bind fun x440 =>
  gI .i64 x440 fun i441 =>
  (c425[8]?).bind fun x442 =>
  gI .i64 x442 fun i443 =>
  if c425.length = 9 then
  pcallS (call Ev) Fn.impl_look_1 [.agg [.int .i64 i406, .int .i64 i408, .int .i64 i410, .str y412, .int .i64 i414, .int .i64 i416, .bool q418, .int .i64 i420, .int .i64 i422], .agg [.int .i64 i427, .int .i64 i429, .int .i64 i431, .str y433, .int .i64 i435, .int .i64 i437, .bool q439, .int .i64 i441, .int .i64 i443]] fun v444 =>
  gV1 v444 fun x445 =>
  gI .i64 x445 fun i446 =>
  hchk h h (
  Jn.slices_insertionSortCmpFunc_impl_seen_l2_0 true (.s (.fn Fn.impl_look_1 [])) s0 (iv .i64 s9) v402 (.agg [.int .i64 i406, .int .i64 i408, .int .i64 i410, .str y412, .int .i64 i414, .int .i64 i416, .bool q418, .int .i64 i420, .int .i64 i422]) s0 (iv .i64 s9) (iv .i64 (IntKind.i64.wrap (s9 - 1))) v423 (.agg [.int .i64 i427, .int .i64 i429, .int .i64 i431, .str y433, .int .i64 i435, .int .i64 i437, .bool q439, .int .i64 i441, .int .i64 i443]) (iv .i64 i446) (bv (decide (i446 < 0))) (decide (i446 < 0)) s0 s9 h s1 s2 s8)
  else none
  else none)
  (hchk h h (
  Jn.slices_insertionSortCmpFunc_impl_seen_l2_0 false (.tup []) (.tup []) (.tup []) (.tup []) (.tup []) (.tup []) (.tup []) (.tup []) (.tup []) (.tup []) (.tup []) (.tup []) false s0 s9 h s1 s2 s8)) := by
  unfold Lp.slices_insertionSortCmpFunc_impl_seen; rw [loop_eq]; kernel_rfl

theorem eq_slices_siftDownCmpFunc_impl_seen (a0 : V) (a1 : Int) (a2 : Int) (a3 : Int) (h : H) : call Ev Fn.slices_siftDownCmpFunc_impl_seen [a0, iv .i64 a1, iv .i64 a2, iv .i64 a3, .s (.fn Fn.impl_look_1 [])] h =
  (Lp.slices_siftDownCmpFunc_impl_seen 0 [a0, iv .i64 a2, iv .i64 a3, .s (.fn Fn.impl_look_1 []), iv .i64 a1] h).bind fun o101 => lcase o101 (fun l102 h103 =>
  some (.tup [], h103)) (fun v104 h105 =>
  some (v104, h105)) := by
  rw [call_eq]; kernel_rfl

noncomputable def Jn.slices_siftDownCmpFunc_impl_seen_l0_0 (i549 : Int) (s0 : V) (s3 : Int) (s10 : Int) (h : H) (s2 : Int) : Option (LOut) :=
  idxK 9 s0 (iv .i64 (IntKind.i64.wrap (s3 + s10))) fun v550 =>
  ldK (.agg [.i .i64, .i .i64, .i .i64, .s, .i .i64, .i .i64, .b, .i .i64, .i .i64]) ⟨9, 80, [.int .i64 0, .int .i64 0, .int .i64 0, .str ⟨#[]⟩, .int .i64 0, .int .i64 0, .bool false, .int .i64 0, .int .i64 0], true, .st [(0, 29), (4, 3), (5, 3), (6, 4), (7, 3), (8, 3)], true⟩ h v550 fun v551 =>
  gVA v551 fun c552 =>
  (c552[0]?).bind fun x553 =>
  gI .i64 x553 fun i554 =>
  (c552[1]?).bind fun x555 =>
  gI .i64 x555 fun i556 =>
  (c552[2]?).bind fun x557 =>
  gI .i64 x557 fun i558 =>
  (c552[3]?).bind fun x559 =>
  gS x559 fun y560 =>
  (c552[4]?).bind fun x561 =>
  gI .i64 x561 fun i562 =>
  (c552[5]?).bind fun x563 =>
  gI .i64 x563 fun i564 =>
  (c552[6]?).bind fun x565 =>
  gB x565 fun q566 =>
  (c552[7]?).bind fun x567 =>
  gI .i64 x567 fun i568 =>
  (c552[8]?).bind fun x569 =>
  gI .i64 x569 fun i570 =>
  if c552.length = 9 then
  idxK 9 s0 (iv .i64 (IntKind.i64.wrap (s3 + i549))) fun v571 =>
  ldK (.agg [.i .i64, .i .i64, .i .i64, .s, .i .i64, .i .i64, .b, .i .i64, .i .i64]) ⟨9, 80, [.int .i64 0, .int .i64 0, .int .i64 0, .str ⟨#[]⟩, .int .i64 0, .int .i64 0, .bool false, .int .i64 0, .int .i64 0], true, .st [(0, 29), (4, 3), (5, 3), (6, 4), (7, 3), (8, 3)], true⟩ h v571 fun v572 =>
  gVA v572 fun c573 =>
  (c573[0]?).bind fun x574 =>
  gI .i64 x574 fun i575 =>
  (c573[1]?).bind fun x576 =>
  gI .i64 x576 fun i577 =>
  (c573[2]?).bind fun x578 =>
  gI .i64 x578 fun i579 =>
  (c573[3]?).bind fun x580 =>
  gS x580 fun y581 =>
  (c573[4]?).bind fun x582 =>
  gI .i64 x582 fun i583 =>
  (c573[5]?).bind fun x584 =>
  gI .i64 x584 fun i585 =>
  (c573[6]?).bind fun x586 =>
  gB x586 fun q587 =>
  (c573[7]?).bind fun x588 =>
  gI .i64 x588 fun i589 =>
  (c573[8]?).bind fun x590 =>
  gI .i64 x590 fun i591 =>
  if c573.length = 9 then
  pcallS (call Ev) Fn.impl_look_1 [.agg [.int .i64 i554, .int .i64 i556, .int .i64 i558, .str y560, .int .i64 i562, .int .i64 i564, .bool q566, .int .i64 i568, .int .i64 i570], .agg [.int .i64 i575, .int .i64 i577, .int .i64 i579, .str y581, .int .i64 i583, .int .i64 i585, .bool q587, .int .i64 i589, .int .i64 i591]] fun v592 =>
  gV1 v592 fun x593 =>
  gI .i64 x593 fun i594 =>
  hchk h h (
  vcase (bv (!(decide (i594 < 0))))
  (some (.ret (.tup []) h))
  (idxK 9 s0 (iv .i64 (IntKind.i64.wrap (s3 + i549))) fun v596 =>
  ldK (.agg [.i .i64, .i .i64, .i .i64, .s, .i .i64, .i .i64, .b, .i .i64, .i .i64]) ⟨9, 80, [.int .i64 0, .int .i64 0, .int .i64 0, .str ⟨#[]⟩, .int .i64 0, .int .i64 0, .bool false, .int .i64 0, .int .i64 0], true, .st [(0, 29), (4, 3), (5, 3), (6, 4), (7, 3), (8, 3)], true⟩ h v596 fun v597 =>
  gVA v597 fun c598 =>
  (c598[0]?).bind fun x599 =>
  gI .i64 x599 fun i600 =>
  (c598[1]?).bind fun x601 =>
  gI .i64 x601 fun i602 =>
  (c598[2]?).bind fun x603 =>
  gI .i64 x603 fun i604 =>
  (c598[3]?).bind fun x605 =>
  gS x605 fun y606 =>
  (c598[4]?).bind fun x607 =>
  gI .i64 x607 fun i608 =>
  (c598[5]?).bind fun x609 =>
  gI .i64 x609 fun i610 =>
  (c598[6]?).bind fun x611 =>
  gB x611 fun q612 =>
  (c598[7]?).bind fun x613 =>
  gI .i64 x613 fun i614 =>
  (c598[8]?).bind fun x615 =>
  gI .i64 x615 fun i616 =>
  if c598.length = 9 then
  idxK 9 s0 (iv .i64 (IntKind.i64.wrap (s3 + s10))) fun v617 =>
  ldK (.agg [.i .i64, .i .i64, .i .i64, .s, .i .i64, .i .i64, .b, .i .i64, .i .i64]) ⟨9, 80, [.int .i64 0, .int .i64 0, .int .i64 0, .str ⟨#[]⟩, .int .i64 0, .int .i64 0, .bool false, .int .i64 0, .int .i64 0], true, .st [(0, 29), (4, 3), (5, 3), (6, 4), (7, 3), (8, 3)], true⟩ h v617 fun v618 =>
  gVA v618 fun c619 =>
  (c619[0]?).bind fun x620 =>
  gI .i64 x620 fun i621 =>
  (c619[1]?).bind fun x622 =>
  gI .i64 x622 fun i623 =>
  (c619[2]?).bind fun x624 =>
  gI .i64 x624 fun i625 =>
  (c619[3]?).bind fun x626 =>
  gS x626 fun y627 =>
  (c619[4]?).bind fun x628 =>
  gI .i64 x628 fun i629 =>
  (c619[5]?).bind fun x630 =>
  gI .i64 x630 fun i631 =>
  (c619[6]?).bind fun x632 =>
  gB x632 fun q633 =>
  (c619[7]?).bind fun x634 =>
  gI .i64 x634 fun i635 =>
  (c619[8]?).bind fun x636 =>
  gI .i64 x636 fun i637 =>
  if c619.length = 9 then
  idxK 9 s0 (iv .i64 (IntKind.i64.wrap (s3 + s10))) fun v638 =>
  stK 9 h v638 (.agg [.int .i64 i600, .int .i64 i602, .int .i64 i604, .str y606, .int .i64 i608, .int .i64 i610, .bool q612, .int .i64 i614, .int .i64 i616]) fun h639 =>
  idxK 9 s0 (iv .i64 (IntKind.i64.wrap (s3 + i549))) fun v640 =>
  stK 9 h639 v640 (.agg [.int .i64 i621, .int .i64 i623, .int .i64 i625, .str y627, .int .i64 i629, .int .i64 i631, .bool q633, .int .i64 i635, .int .i64 i637]) fun h641 =>
  Lp.slices_siftDownCmpFunc_impl_seen 0 [s0, iv .i64 s2, iv .i64 s3, .s (.fn Fn.impl_look_1 []), iv .i64 i549] (tidy h [s0, iv .i64 s2, iv .i64 s3, .s (.fn Fn.impl_look_1 []), iv .i64 i549] h641)
  else none
  else none))
  else none
  else none

noncomputable def Jn.slices_siftDownCmpFunc_impl_seen_l0_1 (q530 : Bool) (w531 : V) (w532 : V) (w533 : V) (w534 : V) (w535 : V) (w536 : V) (w537 : V) (w538 : V) (w539 : V) (w540 : V) (w541 : V) (w542 : V) (w543 : V) (w544 : V) (w545 : V) (w546 : V) (q547 : Bool) (s10 : Int) (s0 : V) (s3 : Int) (h : H) (s2 : Int) : Option (LOut) :=
  vcase (bv q547)
  (Jn.slices_siftDownCmpFunc_impl_seen_l0_0 (IntKind.i64.wrap ((IntKind.i64.wrap ((IntKind.i64.wrap (2 * s10)) + 1)) + 1)) s0 s3 s10 h s2)
  (Jn.slices_siftDownCmpFunc_impl_seen_l0_0 (IntKind.i64.wrap ((IntKind.i64.wrap (2 * s10)) + 1)) s0 s3 s10 h s2)

theorem eq_slices_siftDownCmpFunc_impl_seen_l0 (s0 : V) (s2 : Int) (s3 : Int) (s10 : Int) (h : H) : Lp.slices_siftDownCmpFunc_impl_seen 0 [s0, iv .i64 s2, iv .i64 s3, .s (.fn Fn.impl_look_1 []), iv .i64 s10] h =
  vcase (bv (decide ((IntKind.i64.wrap ((IntKind.i64.wrap (2 * s10)) + 1)) ≥ s2)))
  (some (.done [] (tidy h [] h)))
  (vcase (bv (decide ((IntKind.i64.wrap ((IntKind.i64.wrap ((IntKind.i64.wrap (2 * s10)) + 1)) + 1)) < s2)))
  (idxK 9 s0 (iv .i64 (IntKind.i64.wrap (s3 + (IntKind.i64.wrap ((IntKind.i64.wrap (2 * s10)) + 1))))) fun v204 =>
  ldK (.agg [.i .i64, .i .i64, .i .i64, .s, .i .i64, .i .i64, .b, .i .i64, .i .i64]) ⟨9, 80, [.int .i64 0, .int .i64 0, .int .i64 0, .str ⟨#[]⟩, .int .i64 0, .int .i64 0, .bool false, .int .i64 0, .int .i64 0], true, .st [(0, 29), (4, 3), (5, 3), (6, 4), (7, 3), (8, 3)], true⟩ h v204 fun v205 =>
  gVA v205 fun c206 =>
  (c206[0]?).bind fun x207 =>
  gI .i64 x207 fun i208 =>
  (c206[1]?).bind fun x209 =>
  gI .i64 x209 fun i210 =>
  (c206[2]?).bind fun x211 =>
  gI .i64 x211 fun i212 =>
  (c206[3]?).bind fun x213 =>
  gS x213 fun y214 =>
  (c206[4]?).bind fun x215 =>
  gI .i64 x215 fun i216 =>
  (c206[5]?).bind fun x217 =>
  gI .i64 x217 fun i218 =>
  (c206[6]?).bind fun x219 =>
  gB x219 fun q220 =>
  (c206[7]?).bind fun x221 =>
  gI .i64 x221 fun i222 =>
  (c206[8]?).bind fun x223 =>
  gI .i64 x223 fun i224 =>
  if c206.length = 9 then
  idxK 9 s0 (iv .i64 (IntKind.i64.wrap ((IntKind.i64.wrap (s3 + (IntKind.i64.wrap ((IntKind.i64.wrap (2 * s10)) + 1)))) + 1))) fun v225 =>
  ldK (.agg [.i .i64, .i .i64, .i .i64, .s, .i .i64, .i .i64, .b, .i .i64, .i .i64]) ⟨9, 80, [.int .i64 0, .int .i64 0, .int .i64 0, .str ⟨#[]⟩, .int .i64 0, .int .i64 0, .bool false, .int .i64 0, .int .i64 0], true, .st [(0, 29), (4, 3), (5, 3), (6, 4), (7, 3), (8, 3)], true⟩ h v225 fun v226 =>
  gVA v226 fun c227 =>
  (c227[0]?).bind fun x228 =>
  gI .i64 x228 fun i229 =>
  (c227[1]?).bind fun x230 =>
  gI .i64 x230 fun i231 =>
  (c227[2]?).bind fun x232 =>
  gI .i64 x232 fun i233 =>
  (c227[3]?).bind fun x234 =>
  gS x234 fun y235 =>
  (c227[4]?).bind fun x236 =>
  gI .i64 x236 fun i237 =>
  (c227[5]?).bind fun x238 =>
  gI .i64 x238 fun i239 =>
  (c227[6]?).bind fun x240 =>
  gB x240 fun q241 =>
  (c227[7]?).bind fun x242 =>
  gI .i64 x242 fun i243 =>
  (c227[8]?).bind fun x244 =>
  gI .i64 x244 fun i245 =>
  if c227.length = 9 then
  pcallS (call Ev) Fn.impl_look_1 [.agg [.int .i64 i208, .int .i64 i210, .int .i64 i212, .str y214, .int .i64 i216, .int .i64 i218, .bool q220, .int .i64 i222, .int .i64 i224], .agg [.int .i64 i229, .int .i64 i231, .int .i64 i233, .str y235, .int .i64 i237, .int .i64 i239, .bool q241, .int .i64 i243, .int .i64 i245]] fun v246 =>
  gV1 v246 fun x247 =>
  gI .i64 x247 fun i248 =>
  hchk h h (
  Jn.slices_siftDownCmpFunc_impl_seen_l0_1 true (.s (.fn Fn.impl_look_1 [])) s0 (iv .i64 s3) (iv .i64 (IntKind.i64.wrap ((IntKind.i64.wrap (2 * s10)) + 1))) (iv .i64 (IntKind.i64.wrap (s3 + (IntKind.i64.wrap ((IntKind.i64.wrap (2 * s10)) + 1))))) v204 (.agg [.int .i64 i208, .int .i64 i210, .int .i64 i212, .str y214, .int .i64 i216, .int .i64 i218, .bool q220, .int .i64 i222, .int .i64 i224]) s0 (iv .i64 s3) (iv .i64 (IntKind.i64.wrap ((IntKind.i64.wrap (2 * s10)) + 1))) (iv .i64 (IntKind.i64.wrap (s3 + (IntKind.i64.wrap ((IntKind.i64.wrap (2 * s10)) + 1))))) (iv .i64 (IntKind.i64.wrap ((IntKind.i64.wrap (s3 + (IntKind.i64.wrap ((IntKind.i64.wrap (2 * s10)) + 1)))) + 1))) v225 (.agg [.int .i64 i229, .int .i64 i231, .int .i64 i233, .str y235, .int .i64 i237, .int .i64 i239, .bool q241, .int .i64 i243, .int .i64 i245]) (iv .i64 i248) (bv (decide (i248 < 0))) (decide (i248 < 0)) s10 s0 s3 h s2)
  else none
  else none)
  (hchk h h (
  Jn.slices_siftDownCmpFunc_impl_seen_l0_1 false (.tup []) (.tup []) (.tup []) (.tup []) (.tup []) (.tup []) (.tup []) (.tup []) (.tup []) (.tup []) (.tup []) (.tup []) (.tup []) (.tup []) (.tup []) (.tup []) false s10 s0 s3 h s2))) := by
  unfold Lp.slices_siftDownCmpFunc_impl_seen; rw [loop_eq]; kernel_rfl

theorem eq_slices_heapSortCmpFunc_impl_seen (a0 : V) (a1 : Int) (a2 : Int) (h : H) : call Ev Fn.slices_heapSortCmpFunc_impl_seen [a0, iv .i64 a1, iv .i64 a2, .s (.fn Fn.impl_look_1 [])] h =
  (bin Ev .quo 3 (iv .i64 (IntKind.i64.wrap ((IntKind.i64.wrap (a2 - a1)) - 1))) (iv .i64 2)).bind fun b101 =>
  gV1 b101 fun x102 =>
  gI .i64 x102 fun i103 =>
  (Lp.slices_heapSortCmpFunc_impl_seen 0 [a0, .s (.fn Fn.impl_look_1 []), iv .i64 a1, iv .i64 0, iv .i64 (IntKind.i64.wrap (a2 - a1)), iv .i64 i103] h).bind fun o104 => lcase o104 (fun l105 h106 =>
  (l105[0]?).bind fun w109 =>
  (l105[1]?).bind fun w110 =>
  (l105[2]?).bind fun w111 =>
  gV1 w111 fun x112 =>
  gI .i64 x112 fun i113 =>
  (l105[3]?).bind fun w114 =>
  gV1 w114 fun x115 =>
  gI .i64 x115 fun i116 =>
  (l105[4]?).bind fun w117 =>
  gV1 w117 fun x118 =>
  gI .i64 x118 fun i119 =>
  (Lp.slices_heapSortCmpFunc_impl_seen 2 [w109, w110, iv .i64 i113, iv .i64 i116, iv .i64 (IntKind.i64.wrap (i119 - 1))] h106).bind fun o120 => lcase o120 (fun l121 h122 =>
  some (.tup [], h122)) (fun v123 h124 =>
  some (v123, h124))) (fun v107 h108 =>
  some (v107, h108)) := by
  rw [call_eq]; kernel_rfl

theorem eq_slices_heapSortCmpFunc_impl_seen_l0 (s0 : V) (s8 : Int) (s9 : Int) (s10 : Int) (s11 : Int) (h : H) : Lp.slices_heapSortCmpFunc_impl_seen 0 [s0, .s (.fn Fn.impl_look_1 []), iv .i64 s8, iv .i64 s9, iv .i64 s10, iv .i64 s11] h =
  vcase (bv (decide (s11 ≥ 0)))
  ((call Ev Fn.slices_siftDownCmpFunc_impl_seen [s0, iv .i64 s11, iv .i64 s10, iv .i64 s8, .s (.fn Fn.impl_look_1 [])] h).bind fun p203 =>
  Lp.slices_heapSortCmpFunc_impl_seen 0 [s0, .s (.fn Fn.impl_look_1 []), iv .i64 s8, iv .i64 s9, iv .i64 s10, iv .i64 (IntKind.i64.wrap (s11 - 1))] (tidy h [s0, .s (.fn Fn.impl_look_1 []), iv .i64 s8, iv .i64 s9, iv .i64 s10, iv .i64 (IntKind.i64.wrap (s11 - 1))] (tidy h [p203.1] p203.2)))
  (some (.done [s0, .s (.fn Fn.impl_look_1 []), iv .i64 s8, iv .i64 s9, iv .i64 s10] (tidy h [s0, .s (.fn Fn.impl_look_1 []), iv .i64 s8, iv .i64 s9, iv .i64 s10] h))) := by
  unfold Lp.slices_heapSortCmpFunc_impl_seen; rw [loop_eq]; kernel_rfl

theorem eq_slices_heapSortCmpFunc_impl_seen_l2 (s0 : V) (s8 : Int) (s9 : Int) (s12 : Int) (h : H) : Lp.slices_heapSortCmpFunc_impl_seen 2 [s0, .s (.fn Fn.impl_look_1 []), iv .i64 s8, iv .i64 s9, iv .i64 s12] h =
  vcase (bv (decide (s12 ≥ 0)))
  (idxK 9 s0 (iv .i64 (IntKind.i64.wrap (s8 + s12))) fun v403 =>
  ldK (.agg [.i .i64, .i .i64, .i .i64, .s, .i .i64, .i .i64, .b, .i .i64, .i .i64]) ⟨9, 80, [.int .i64 0, .int .i64 0, .int .i64 0, .str ⟨#[]⟩, .int .i64 0, .int .i64 0, .bool false, .int .i64 0, .int .i64 0], true, .st [(0, 29), (4, 3), (5, 3), (6, 4), (7, 3), (8, 3)], true⟩ h v403 fun v404 =>
  gVA v404 fun c405 =>
  (c405[0]?).bind fun x406 =>
  gI .i64 x406 fun i407 =>
  (c405[1]?).bind fun x408 =>
  gI .i64 x408 fun i409 =>
  (c405[2]?).bind fun x410 =>
  gI .i64 x410 fun i411 =>
  (c405[3]?).bind fun x412 =>
  gS x412 fun y413 =>
  (c405[4]?).bind fun x414 =>
  gI .i64 x414 fun i415 =>
  (c405[5]?).bind fun x416 =>
  gI .i64 x416 fun i417 =>
  (c405[6]?).bind fun x418 =>
  gB x418 fun q419 =>
  (c405[7]?).bind fun x420 =>
  gI .i64 x420 fun i421 =>
  (c405[8]?).bind fun x422 =>
  gI .i64 x422 fun i423 =>
  if c405.length = 9 then
  idxK 9 s0 (iv .i64 s8) fun v424 =>
  ldK (.agg [.i .i64, .i .i64, .i .i64, .s, .i .i64, .i .i64, .b, .i .i64, .i .i64]) ⟨9, 80, [.int .i64 0, .int .i64 0, .int .i64 0, .str ⟨#[]⟩, .int .i64 0, .int .i64 0, .bool false, .int .i64 0, .int .i64 0], true, .st [(0, 29), (4, 3), (5, 3), (6, 4), (7, 3), (8, 3)], true⟩ h v424 fun v425 =>
  gVA v425 fun c426 =>
  (c426[0]?).bind fun x427 =>
  gI .i64 x427 fun i428 =>
  (c426[1]?).bind fun x429 =>
  gI .i64 x429 fun i430 =>
  (c426[2]?).bind fun x431 =>
  gI .i64 x431 fun i432 =>
  (c426[3]?).bind fun x433 =>
  gS x433 fun y434 =>
  (c426[4]?).bind fun x435 =>
  gI .i64 x435 fun i436 =>
  (c426[5]?).bind fun x437 =>
  gI .i64 x437 fun i438 =>
  (c426[6]?).bind fun x439 =>
  gB x439 fun q440 =>
  (c426[7]?).bind fun x441 =>
  gI .i64 x441 fun i442 =>
  (c426[8]?).bind fun x443 =>
  gI .i64 x443 fun i444 =>
  if c426.length = 9 then
  idxK 9 s0 (iv .i64 s8) fun v445 =>
  stK 9 h v445 (.agg [.int .i64 i407, .int .i64 i409, .int .i64 i411, .str y413, .int .i64 i415, .int .i64 i417, .bool q419, .int .i64 i421, .int .i64 i423]) fun h446 =>
  idxK 9 s0 (iv .i64 (IntKind.i64.wrap (s8 + s12))) fun v447 =>
  stK 9 h446 v447 (.agg [.int .i64 i428, .int .i64 i430, .int .i64 i432, .str y434, .int .i64 i436, .int .i64 i438, .bool q440, .int .i64 i442, .int .i64 i444]) fun h448 =>
  (call Ev Fn.slices_siftDownCmpFunc_impl_seen [s0, iv .i64 s9, iv .i64 s12, iv .i64 s8, .s (.fn Fn.impl_look_1 [])] h448).bind fun p449 =>
  Lp.slices_heapSortCmpFunc_impl_seen 2 [s0, .s (.fn Fn.impl_look_1 []), iv .i64 s8, iv .i64 s9, iv .i64 (IntKind.i64.wrap (s12 - 1))] (tidy h [s0, .s (.fn Fn.impl_look_1 []), iv .i64 s8, iv .i64 s9, iv .i64 (IntKind.i64.wrap (s12 - 1))] (tidy h448 [p449.1] p449.2))
  else none
  else none)
  (some (.done [] (tidy h [] h))) := by
  unfold Lp.slices_heapSortCmpFunc_impl_seen; rw [loop_eq]; kernel_rfl

end Vm
