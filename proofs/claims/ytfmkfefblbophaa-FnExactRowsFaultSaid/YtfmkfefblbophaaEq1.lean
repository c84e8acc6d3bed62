/-
  What each function, and each round of each loop, comes to in the small machine. Written by a program (gen.py).
-/
import Derived.Test.YtfmkfefblbophaaEnv
set_option linter.unusedVariables false
set_option maxRecDepth 100000
namespace Vm
open Go

theorem eq_laws_FnExactNewPage (a0 : Int) (h : H) : call Ev Fn.laws_FnExactNewPage [iv .u8 a0] h =
  (call Ev Fn.spec_NewPage [iv .u8 a0] h).bind fun p1 =>
  (stV 3 ((p1.2).new 0 [.int .i64 0, .int .i64 0, .sl none 0]) (pv p1.2.n 0) p1.1).bind fun h2 =>
  (call Ev Fn.impl_NewPage [iv .u8 a0] h2).bind fun p3 =>
  (stV 3 ((p3.2).new 0 [.int .i64 0, .int .i64 0, .sl none 0]) (pv p3.2.n 0) p3.1).bind fun h4 =>
  (loadN 3 h4 (pv p3.2.n 0)).bind fun c5 =>
  (loadN 3 h4 (pv p1.2.n 0)).bind fun c6 =>
  (call Ev Fn.laws_eqPageResult [.agg c5, .agg c6] h4).bind fun p7 =>
  (unNot p7.1).bind fun v8 =>
  vcase v8
  (some (bv false, p7.2))
  ((loadN 3 p7.2 (pv p3.2.n 0)).bind fun c9 =>
  (call Ev Fn.laws_markPageResult [.agg c9, iv .i64 1] p7.2).bind fun p10 =>
  (loadN 3 p10.2 (pv p3.2.n 0)).bind fun c11 =>
  (call Ev Fn.laws_heldPageResult [.agg c11, iv .i64 1] p10.2).bind fun p12 =>
  (bin Ev .lss 3 p12.1 (iv .i64 0)).bind fun b13 =>
  vcase b13
  (some (bv false, p12.2))
  ((bin Ev .neq 3 p12.1 p10.1).bind fun b14 =>
  vcase b14
  (some (bv false, p12.2))
  ((call Ev Fn.impl_NewPage [iv .u8 a0] p12.2).bind fun p15 =>
  (stV 3 ((p15.2).new 0 [.int .i64 0, .int .i64 0, .sl none 0]) (pv p15.2.n 0) p15.1).bind fun h16 =>
  (loadN 3 h16 (pv p15.2.n 0)).bind fun c17 =>
  (loadN 3 h16 (pv p1.2.n 0)).bind fun c18 =>
  (call Ev Fn.laws_eqPageResult [.agg c17, .agg c18] h16).bind fun p19 =>
  (unNot p19.1).bind fun v20 =>
  vcase v20
  (some (bv false, p19.2))
  ((loadN 3 p19.2 (pv p3.2.n 0)).bind fun c21 =>
  (call Ev Fn.laws_heldPageResult [.agg c21, iv .i64 1] p19.2).bind fun p22 =>
  (bin Ev .lss 3 p22.1 (iv .i64 0)).bind fun b23 =>
  vcase b23
  (some (bv false, p22.2))
  ((bin Ev .neq 3 p22.1 p10.1).bind fun b24 =>
  vcase b24
  (some (bv false, p22.2))
  (some (bv true, p22.2))))))) := by
  rw [call_eq]; kernel_rfl

theorem eq_spec_l2Count (a0 : V) (h : H) : call Ev Fn.spec_l2Count [a0] h =
  (idxS 1 a0 (iv .i64 0)).bind fun v1 =>
  (load1 h v1).bind fun x2 =>
  (cvI .i64 (.s x2)).bind fun v3 =>
  some (v3, h) := by
  rw [call_eq]; kernel_rfl

theorem eq_spec_l2Low (a0 : V) (h : H) : call Ev Fn.spec_l2Low [a0] h =
  (idxS 1 a0 (iv .i64 1)).bind fun v1 =>
  (load1 h v1).bind fun x2 =>
  (cvI .i64 (.s x2)).bind fun v3 =>
  some (v3, h) := by
  rw [call_eq]; kernel_rfl

theorem eq_spec_l2Size (a0 : V) (a1 : Int) (h : H) : call Ev Fn.spec_l2Size [a0, iv .i64 a1] h =
  (idxS 1 a0 (iv .i64 (IntKind.i64.wrap (3 + (IntKind.i64.wrap (2 * a1)))))).bind fun v1 =>
  (load1 h v1).bind fun x2 =>
  (cvI .i64 (.s x2)).bind fun v3 =>
  some (v3, h) := by
  rw [call_eq]; kernel_rfl

theorem eq_spec_l2Place (a0 : V) (a1 : Int) (h : H) : call Ev Fn.spec_l2Place [a0, iv .i64 a1] h =
  (idxS 1 a0 (iv .i64 (IntKind.i64.wrap (2 + (IntKind.i64.wrap (2 * a1)))))).bind fun v1 =>
  (load1 h v1).bind fun x2 =>
  (cvI .i64 (.s x2)).bind fun v3 =>
  some (v3, h) := by
  rw [call_eq]; kernel_rfl

theorem eq_spec_l2Slot (a0 : V) (a1 : Int) (h : H) : call Ev Fn.spec_l2Slot [a0, iv .i64 a1] h =
  (call Ev Fn.spec_l2Place [a0, iv .i64 a1] h).bind fun p1 =>
  (call Ev Fn.spec_l2Size [a0, iv .i64 a1] p1.2).bind fun p2 =>
  (bin Ev .eql 3 p1.1 (iv .i64 0)).bind fun b3 =>
  gcase b3
  ((bin Ev .eql 3 p1.1 p2.1).bind fun b4 =>
  some (b4, p2.2))
  ((bin Ev .eql 3 p2.1 (iv .i64 0)).bind fun b5 =>
  vcase b5
  ((bin Ev .eql 3 p1.1 p2.1).bind fun b6 =>
  some (b6, p2.2))
  ((call Ev Fn.spec_l2Low [a0] p2.2).bind fun p7 =>
  (bin Ev .geq 3 p1.1 p7.1).bind fun b8 =>
  gcase b8
  ((bin Ev .add 3 p1.1 p2.1).bind fun b9 =>
  (bin Ev .leq 3 b9 (iv .i64 64)).bind fun b10 =>
  some (b10, p7.2))
  (some (bv false, p7.2))
  (none)))
  (none) := by
  rw [call_eq]; kernel_rfl

theorem eq_spec_l2Apart (a0 : V) (a1 : Int) (a2 : Int) (h : H) : call Ev Fn.spec_l2Apart [a0, iv .i64 a1, iv .i64 a2] h =
  (call Ev Fn.spec_l2Size [a0, iv .i64 a1] h).bind fun p1 =>
  (bin Ev .eql 3 p1.1 (iv .i64 0)).bind fun b2 =>
  gcase b2
  (some (bv true, p1.2))
  ((call Ev Fn.spec_l2Size [a0, iv .i64 a2] p1.2).bind fun p3 =>
  (bin Ev .eql 3 p3.1 (iv .i64 0)).bind fun b4 =>
  vcase b4
  (some (bv true, p3.2))
  ((call Ev Fn.spec_l2Place [a0, iv .i64 a1] p3.2).bind fun p5 =>
  (call Ev Fn.spec_l2Size [a0, iv .i64 a1] p5.2).bind fun p6 =>
  (bin Ev .add 3 p5.1 p6.1).bind fun b7 =>
  (call Ev Fn.spec_l2Place [a0, iv .i64 a2] p6.2).bind fun p8 =>
  (bin Ev .leq 3 b7 p8.1).bind fun b9 =>
  gcase b9
  (some (bv true, p8.2))
  ((call Ev Fn.spec_l2Place [a0, iv .i64 a2] p8.2).bind fun p10 =>
  (call Ev Fn.spec_l2Size [a0, iv .i64 a2] p10.2).bind fun p11 =>
  (bin Ev .add 3 p10.1 p11.1).bind fun b12 =>
  (call Ev Fn.spec_l2Place [a0, iv .i64 a1] p11.2).bind fun p13 =>
  (bin Ev .leq 3 b12 p13.1).bind fun b14 =>
  some (b14, p13.2))
  (none)))
  (none) := by
  rw [call_eq]; kernel_rfl

theorem eq_spec_l2Fault (a0 : V) (h : H) : call Ev Fn.spec_l2Fault [a0] h =
  (lenV (.sl 5) a0).bind fun v1 =>
  (bin Ev .neq 3 v1 (iv .i64 64)).bind fun b2 =>
  vcase b2
  (some (iv .i64 1, h))
  ((call Ev Fn.spec_l2Count [a0] h).bind fun p3 =>
  (bin Ev .gtr 3 p3.1 (iv .i64 16)).bind fun b4 =>
  gcase b4
  (some (iv .i64 3, p3.2))
  ((call Ev Fn.spec_l2Low [a0] p3.2).bind fun p5 =>
  (bin Ev .mul 3 (iv .i64 2) p3.1).bind fun b6 =>
  (bin Ev .add 3 (iv .i64 2) b6).bind fun b7 =>
  (bin Ev .lss 3 p5.1 b7).bind fun b8 =>
  gcase b8
  (some (iv .i64 3, p5.2))
  ((call Ev Fn.spec_l2Low [a0] p5.2).bind fun p9 =>
  (bin Ev .gtr 3 p9.1 (iv .i64 64)).bind fun b10 =>
  vcase b10
  (some (iv .i64 3, p9.2))
  ((Lp.spec_l2Fault 0 [a0, p3.1, iv .i64 0] p9.2).bind fun o11 => lcase o11 (fun l12 h13 =>
  (l12[0]?).bind fun w16 =>
  (l12[1]?).bind fun w17 =>
  (Lp.spec_l2Fault 2 [w16, w17, iv .i64 0] h13).bind fun o18 => lcase o18 (fun l19 h20 =>
  (l19[0]?).bind fun w23 =>
  (l19[1]?).bind fun w24 =>
  (bin Ev .gtr 3 w24 (iv .i64 0)).bind fun b25 =>
  gcase b25
  ((bin Ev .sub 3 w24 (iv .i64 1)).bind fun b26 =>
  (call Ev Fn.spec_l2Size [w23, b26] h20).bind fun p27 =>
  (bin Ev .eql 3 p27.1 (iv .i64 0)).bind fun b28 =>
  vcase b28
  (some (iv .i64 8, p27.2))
  (some (iv .i64 0, p27.2)))
  (some (iv .i64 0, h20))
  (none)) (fun v21 h22 =>
  some (v21, h22))) (fun v14 h15 =>
  some (v14, h15))))
  (none))
  (none)) := by
  rw [call_eq]; kernel_rfl

theorem eq_spec_l2Fault_l0 (s0 : V) (s3 : Int) (s4 : Int) (h : H) : Lp.spec_l2Fault 0 [s0, iv .i64 s3, iv .i64 s4] h =
  vcase (bv (decide (s4 < s3)))
  ((call Ev Fn.spec_l2Slot [s0, iv .i64 s4] h).bind fun p1 =>
  (unNot p1.1).bind fun v2 =>
  vcase v2
  (some (.ret (iv .i64 3) p1.2))
  (Lp.spec_l2Fault 0 [s0, iv .i64 s3, iv .i64 (IntKind.i64.wrap (s4 + 1))] p1.2))
  (some (.done [s0, iv .i64 s3] h)) := by
  unfold Lp.spec_l2Fault; rw [loop_eq]; kernel_rfl

theorem eq_spec_l2Fault_l2 (s0 : V) (s3 : Int) (s5 : Int) (h : H) : Lp.spec_l2Fault 2 [s0, iv .i64 s3, iv .i64 s5] h =
  vcase (bv (decide (s5 < s3)))
  ((Lp.spec_l2Fault 4 [s0, iv .i64 s3, iv .i64 s5, iv .i64 0] h).bind fun o1 => lcase o1 (fun l2 h3 =>
  (l2[0]?).bind fun w6 =>
  (l2[1]?).bind fun w7 =>
  (l2[2]?).bind fun w8 =>
  (bin Ev .add 3 w8 (iv .i64 1)).bind fun b9 =>
  Lp.spec_l2Fault 2 [w6, w7, b9] h3) (fun v4 h5 =>
  some (.ret v4 h5)))
  (some (.done [s0, iv .i64 s3] h)) := by
  unfold Lp.spec_l2Fault; rw [loop_eq]; kernel_rfl

theorem eq_spec_l2Fault_l4 (s0 : V) (s3 : Int) (s5 : Int) (s6 : Int) (h : H) : Lp.spec_l2Fault 4 [s0, iv .i64 s3, iv .i64 s5, iv .i64 s6] h =
  vcase (bv (decide (s6 < s5)))
  ((call Ev Fn.spec_l2Apart [s0, iv .i64 s5, iv .i64 s6] h).bind fun p1 =>
  (unNot p1.1).bind fun v2 =>
  vcase v2
  (some (.ret (iv .i64 8) p1.2))
  (Lp.spec_l2Fault 4 [s0, iv .i64 s3, iv .i64 s5, iv .i64 (IntKind.i64.wrap (s6 + 1))] p1.2))
  (some (.done [s0, iv .i64 s3, iv .i64 s5] h)) := by
  unfold Lp.spec_l2Fault; rw [loop_eq]; kernel_rfl

theorem eq_spec_PageFault (a0 : V) (h : H) : call Ev Fn.spec_PageFault [a0] h =
  (call Ev Fn.spec_l2Fault [a0] h).bind fun p1 =>
  some (p1.1, p1.2) := by
  rw [call_eq]; kernel_rfl

theorem eq_laws_toByteS (a0 : V) (h : H) : call Ev Fn.laws_toByteS [a0] h =
  (lenV (.sl 5) a0).bind fun v1 =>
  (mkSl 1 [.int .u8 0] h v1 v1).bind fun p2 =>
  (Lp.laws_toByteS 0 [a0, p2.1, iv .i64 0] p2.2).bind fun o3 => lcase o3 (fun l4 h5 =>
  (l4[0]?).bind fun w8 =>
  some (w8, h5)) (fun v6 h7 =>
  some (v6, h7)) := by
  rw [call_eq]; kernel_rfl

theorem eq_laws_toByteS_l0 (s0 : V) (s3 : V) (s4 : Int) (h : H) : Lp.laws_toByteS 0 [s0, s3, iv .i64 s4] h =
  (lenV (.sl 5) s0).bind fun v1 =>
  (bin Ev .lss 3 (iv .i64 s4) v1).bind fun b2 =>
  vcase b2
  ((idxS 1 s0 (iv .i64 s4)).bind fun v3 =>
  (load1 h v3).bind fun x4 =>
  (idxS 1 s3 (iv .i64 s4)).bind fun v5 =>
  (stV 1 h v5 (.s x4)).bind fun h6 =>
  Lp.laws_toByteS 0 [s0, s3, iv .i64 (IntKind.i64.wrap (s4 + 1))] h6)
  (some (.done [s3] h)) := by
  unfold Lp.laws_toByteS; rw [loop_eq]; kernel_rfl

theorem eq_impl_slots (a0 : V) (h : H) : call Ev Fn.impl_slots [a0] h =
  (idxS 1 a0 (iv .i64 0)).bind fun v1 =>
  (load1 h v1).bind fun x2 =>
  (cvI .i64 (.s x2)).bind fun v3 =>
  some (v3, h) := by
  rw [call_eq]; kernel_rfl

theorem eq_impl_spot (a0 : V) (a1 : Int) (h : H) : call Ev Fn.impl_spot [a0, iv .i64 a1] h =
  (idxS 1 a0 (iv .i64 (IntKind.i64.wrap (2 + (IntKind.i64.wrap (2 * a1)))))).bind fun v1 =>
  (load1 h v1).bind fun x2 =>
  (cvI .i64 (.s x2)).bind fun v3 =>
  (idxS 1 a0 (iv .i64 (IntKind.i64.wrap (3 + (IntKind.i64.wrap (2 * a1)))))).bind fun v4 =>
  (load1 h v4).bind fun x5 =>
  (cvI .i64 (.s x5)).bind fun v6 =>
  (V.toA v3).bind fun a7 =>
  (V.toA v6).bind fun a8 =>
  some (.tup [a7, a8], h) := by
  rw [call_eq]; kernel_rfl

theorem eq_impl_PageFault (a0 : V) (h : H) : call Ev Fn.impl_PageFault [a0] h =
  (lenV (.sl 5) a0).bind fun v1 =>
  (bin Ev .neq 3 v1 (iv .i64 64)).bind fun b2 =>
  vcase b2
  (some (iv .i64 1, h))
  ((idxS 1 a0 (iv .i64 1)).bind fun v3 =>
  (load1 h v3).bind fun x4 =>
  (cvI .i64 (.s x4)).bind fun v5 =>
  (call Ev Fn.impl_slots [a0] h).bind fun p6 =>
  hchk h p6.2 (
  (bin Ev .gtr 3 p6.1 (iv .i64 16)).bind fun b7 =>
  gcase b7
  (some (iv .i64 3, p6.2))
  ((bin Ev .mul 3 (iv .i64 2) p6.1).bind fun b8 =>
  (bin Ev .add 3 (iv .i64 2) b8).bind fun b9 =>
  (bin Ev .lss 3 v5 b9).bind fun b10 =>
  gcase b10
  (some (iv .i64 3, p6.2))
  ((bin Ev .gtr 3 v5 (iv .i64 64)).bind fun b11 =>
  vcase b11
  (some (iv .i64 3, p6.2))
  ((Lp.impl_PageFault 0 [a0, p6.1, v5, p6.1, iv .i64 0] p6.2).bind fun o12 => lcase o12 (fun l13 h14 =>
  (l13[0]?).bind fun w17 =>
  (l13[1]?).bind fun w18 =>
  (Lp.impl_PageFault 2 [w17, w18, pv h14.n 0, w18, iv .i64 0] ((h14).new 0 [.bool false, .bool false, .bool false, .bool false, .bool false, .bool false, .bool false, .bool false, .bool false, .bool false, .bool false, .bool false, .bool false, .bool false, .bool false, .bool false, .bool false, .bool false, .bool false, .bool false, .bool false, .bool false, .bool false, .bool false, .bool false, .bool false, .bool false, .bool false, .bool false, .bool false, .bool false, .bool false, .bool false, .bool false, .bool false, .bool false, .bool false, .bool false, .bool false, .bool false, .bool false, .bool false, .bool false, .bool false, .bool false, .bool false, .bool false, .bool false, .bool false, .bool false, .bool false, .bool false, .bool false, .bool false, .bool false, .bool false, .bool false, .bool false, .bool false, .bool false, .bool false, .bool false, .bool false, .bool false])).bind fun o19 => lcase o19 (fun l20 h21 =>
  (l20[0]?).bind fun w24 =>
  (l20[1]?).bind fun w25 =>
  (bin Ev .gtr 3 w25 (iv .i64 0)).bind fun b26 =>
  gcase b26
  ((bin Ev .mul 3 (iv .i64 2) w25).bind fun b27 =>
  (bin Ev .add 3 b27 (iv .i64 1)).bind fun b28 =>
  (idxS 1 w24 b28).bind fun v29 =>
  (load1 h21 v29).bind fun x30 =>
  (bin Ev .eql 5 (.s x30) (iv .u8 0)).bind fun b31 =>
  vcase b31
  (some (iv .i64 8, h21))
  (some (iv .i64 0, h21)))
  (some (iv .i64 0, h21))
  (none)) (fun v22 h23 =>
  some (v22, h23))) (fun v15 h16 =>
  some (v15, h16))))
  (none))
  (none))) := by
  rw [call_eq]; kernel_rfl

theorem eq_impl_PageFault_l0 (s0 : V) (s3 : Int) (s4 : Int) (s35 : Int) (s36 : Int) (h : H) : Lp.impl_PageFault 0 [s0, iv .i64 s3, iv .i64 s4, iv .i64 s35, iv .i64 s36] h =
  vcase (bv (decide (s36 < s35)))
  ((call Ev Fn.impl_spot [s0, iv .i64 s36] h).bind fun p1 =>
  (extr 0 p1.1).bind fun v2 =>
  (extr 1 p1.1).bind fun v3 =>
  (bin Ev .eql 3 v2 (iv .i64 0)).bind fun b4 =>
  (bin Ev .eql 3 v3 (iv .i64 0)).bind fun b5 =>
  (bin Ev .neq 4 b4 b5).bind fun b6 =>
  gcase b6
  (some (.ret (iv .i64 3) p1.2))
  ((bin Ev .neq 3 v2 (iv .i64 0)).bind fun b7 =>
  gcase b7
  ((bin Ev .lss 3 v2 (iv .i64 s4)).bind fun b8 =>
  gcase b8
  (some (.ret (iv .i64 3) p1.2))
  ((bin Ev .add 3 v2 v3).bind fun b9 =>
  (bin Ev .gtr 3 b9 (iv .i64 64)).bind fun b10 =>
  vcase b10
  (some (.ret (iv .i64 3) p1.2))
  (Lp.impl_PageFault 0 [s0, iv .i64 s3, iv .i64 s4, iv .i64 s35, iv .i64 (IntKind.i64.wrap (s36 + 1))] p1.2))
  (none))
  ((bin Ev .add 3 v2 v3).bind fun b11 =>
  (bin Ev .gtr 3 b11 (iv .i64 64)).bind fun b12 =>
  vcase b12
  (some (.ret (iv .i64 3) p1.2))
  (Lp.impl_PageFault 0 [s0, iv .i64 s3, iv .i64 s4, iv .i64 s35, iv .i64 (IntKind.i64.wrap (s36 + 1))] p1.2))
  (vcase (.tup [])
  (vcase (.tup [])
  (some (.ret (iv .i64 3) p1.2))
  (vcase (.tup [])
  (some (.ret (iv .i64 3) p1.2))
  (Lp.impl_PageFault 0 [s0, iv .i64 s3, iv .i64 s4, iv .i64 s35, iv .i64 (IntKind.i64.wrap (s36 + 1))] p1.2)))
  ((bin Ev .add 3 v2 v3).bind fun b13 =>
  (bin Ev .gtr 3 b13 (iv .i64 64)).bind fun b14 =>
  vcase b14
  (some (.ret (iv .i64 3) p1.2))
  (Lp.impl_PageFault 0 [s0, iv .i64 s3, iv .i64 s4, iv .i64 s35, iv .i64 (IntKind.i64.wrap (s36 + 1))] p1.2))))
  (none))
  (some (.done [s0, iv .i64 s3] h)) := by
  unfold Lp.impl_PageFault; rw [loop_eq]; kernel_rfl

theorem eq_impl_PageFault_l2 (s0 : V) (s3 : Int) (s8 : V) (s66 : Int) (s67 : Int) (h : H) : Lp.impl_PageFault 2 [s0, iv .i64 s3, s8, iv .i64 s66, iv .i64 s67] h =
  vcase (bv (decide (s67 < s66)))
  ((call Ev Fn.impl_spot [s0, iv .i64 s67] h).bind fun p1 =>
  (extr 0 p1.1).bind fun v2 =>
  (extr 1 p1.1).bind fun v3 =>
  (Lp.impl_PageFault 4 [s0, iv .i64 s3, s8, v2, v3, v2, iv .i64 s66, iv .i64 s67] p1.2).bind fun o4 => lcase o4 (fun l5 h6 =>
  (l5[0]?).bind fun w9 =>
  (l5[1]?).bind fun w10 =>
  (l5[2]?).bind fun w11 =>
  (l5[3]?).bind fun w12 =>
  (l5[4]?).bind fun w13 =>
  (bin Ev .add 3 w13 (iv .i64 1)).bind fun b14 =>
  Lp.impl_PageFault 2 [w9, w10, w11, w12, b14] h6) (fun v7 h8 =>
  some (.ret v7 h8)))
  (some (.done [s0, iv .i64 s3] h)) := by
  unfold Lp.impl_PageFault; rw [loop_eq]; kernel_rfl

theorem eq_impl_PageFault_l4 (s0 : V) (s3 : Int) (s8 : V) (s10 : Int) (s11 : Int) (s12 : Int) (s66 : Int) (s67 : Int) (h : H) : Lp.impl_PageFault 4 [s0, iv .i64 s3, s8, iv .i64 s10, iv .i64 s11, iv .i64 s12, iv .i64 s66, iv .i64 s67] h =
  vcase (bv (decide (s12 < (IntKind.i64.wrap (s10 + s11)))))
  ((idxA 64 1 s8 (iv .i64 s12)).bind fun v1 =>
  (load1 h v1).bind fun x2 =>
  vcase (.s x2)
  (some (.ret (iv .i64 8) h))
  ((idxA 64 1 s8 (iv .i64 s12)).bind fun v3 =>
  (stV 1 h v3 (bv true)).bind fun h4 =>
  Lp.impl_PageFault 4 [s0, iv .i64 s3, s8, iv .i64 s10, iv .i64 s11, iv .i64 (IntKind.i64.wrap (s12 + 1)), iv .i64 s66, iv .i64 s67] h4))
  (some (.done [s0, iv .i64 s3, s8, iv .i64 s66, iv .i64 s67] h)) := by
  unfold Lp.impl_PageFault; rw [loop_eq]; kernel_rfl

theorem eq_laws_FnExactPageFault (a0 : V) (h : H) : call Ev Fn.laws_FnExactPageFault [a0] h =
  (lenV (.sl 5) a0).bind fun v1 =>
  (bin Ev .gtr 3 v1 (iv .i64 1048576)).bind fun b2 =>
  vcase b2
  (some (bv true, h))
  ((call Ev Fn.laws_toByteS [a0] h).bind fun p3 =>
  (call Ev Fn.spec_PageFault [p3.1] p3.2).bind fun p4 =>
  (call Ev Fn.laws_toByteS [a0] p4.2).bind fun p5 =>
  (call Ev Fn.impl_PageFault [p5.1] p5.2).bind fun p6 =>
  (bin Ev .neq 2 p6.1 p4.1).bind fun b7 =>
  vcase b7
  (some (bv false, p6.2))
  ((call Ev Fn.laws_toByteS [a0] p6.2).bind fun p8 =>
  (call Ev Fn.laws_eqByteS [p5.1, p8.1] p8.2).bind fun p9 =>
  (unNot p9.1).bind fun v10 =>
  vcase v10
  (some (bv false, p9.2))
  (some (bv true, p9.2)))) := by
  rw [call_eq]; kernel_rfl

theorem eq_laws_szOp (a0 : List S) (a1 : Int) (h : H) : call Ev Fn.laws_szOp [.agg a0, iv .i64 a1] h =
  (loadN 4 ((h).new 0 a0) (pv h.n 2)).bind fun c1 =>
  (call Ev Fn.laws_szRow [.agg c1, iv .i64 a1] ((h).new 0 a0)).bind fun p2 =>
  (bin Ev .lss 3 p2.1 (iv .i64 0)).bind fun b3 =>
  vcase b3
  (some (iv .i64 (-1), p2.2))
  (some (p2.1, p2.2)) := by
  rw [call_eq]; kernel_rfl

theorem eq_spec_l10Row (a0 : Int) (h : H) : call Ev Fn.spec_l10Row [iv .i64 a0] h =
  (call Ev Fn.spec_l1In [iv .i64 a0, iv .i64 2, iv .i64 4] h).bind fun p1 =>
  some (p1.1, p1.2) := by
  rw [call_eq]; kernel_rfl

theorem eq_spec_l10Form (a0 : V) (h : H) : call Ev Fn.spec_l10Form [a0] h =
  (notNil a0).bind fun v1 =>
  (padd 0 v1).bind fun v2 =>
  (load1 h v2).bind fun x3 =>
  (call Ev Fn.spec_l1In [.s x3, iv .i64 1, iv .i64 9] h).bind fun p4 =>
  (unNot p4.1).bind fun v5 =>
  gcase v5
  (some (bv false, p4.2))
  ((notNil a0).bind fun v6 =>
  (padd 0 v6).bind fun v7 =>
  (load1 p4.2 v7).bind fun x8 =>
  (bin Ev .neq 2 (.s x8) (iv .i64 6)).bind fun b9 =>
  gcase b9
  ((notNil a0).bind fun v10 =>
  (padd 6 v10).bind fun v11 =>
  (load1 p4.2 v11).bind fun x12 =>
  (bin Ev .neq 2 (.s x12) (iv .i64 0)).bind fun b13 =>
  vcase b13
  (some (bv false, p4.2))
  ((notNil a0).bind fun v14 =>
  (padd 0 v14).bind fun v15 =>
  (load1 p4.2 v15).bind fun x16 =>
  (bin Ev .eql 2 (.s x16) (iv .i64 1)).bind fun b17 =>
  gcase b17
  ((notNil a0).bind fun v18 =>
  (padd 1 v18).bind fun v19 =>
  (load1 p4.2 v19).bind fun x20 =>
  (bin Ev .neq 2 (.s x20) (iv .i64 0)).bind fun b21 =>
  vcase b21
  (some (bv false, p4.2))
  ((notNil a0).bind fun v22 =>
  (padd 0 v22).bind fun v23 =>
  (load1 p4.2 v23).bind fun x24 =>
  (bin Ev .eql 2 (.s x24) (iv .i64 4)).bind fun b25 =>
  vcase b25
  ((notNil a0).bind fun v26 =>
  (padd 2 v26).bind fun v27 =>
  (padd 2 v27).bind fun v28 =>
  (load1 p4.2 v28).bind fun x29 =>
  (bin Ev .eql 2 (.s x29) (iv .i64 0)).bind fun b30 =>
  gcase b30
  ((notNil a0).bind fun v31 =>
  (padd 2 v31).bind fun v32 =>
  (padd 3 v32).bind fun v33 =>
  (load1 p4.2 v33).bind fun x34 =>
  (bin Ev .eql 9 (.s x34) (.s (.str (⟨#[]⟩)))).bind fun b35 =>
  some (b35, p4.2))
  (some (bv false, p4.2))
  (none))
  ((notNil a0).bind fun v36 =>
  (padd 0 v36).bind fun v37 =>
  (load1 p4.2 v37).bind fun x38 =>
  (call Ev Fn.spec_l10Row [.s x38] p4.2).bind fun p39 =>
  gcase p39.1
  (some (bv true, p39.2))
  ((notNil a0).bind fun v40 =>
  (padd 2 v40).bind fun v41 =>
  (loadN 4 p39.2 v41).bind fun c42 =>
  (bin Ev .eql 27 (.agg c42) (.agg [.int .i64 0, .int .i64 0, .int .i64 0, .str ⟨#[]⟩])).bind fun b43 =>
  some (b43, p39.2))
  (none))))
  ((notNil a0).bind fun v44 =>
  (padd 0 v44).bind fun v45 =>
  (load1 p4.2 v45).bind fun x46 =>
  (bin Ev .eql 2 (.s x46) (iv .i64 9)).bind fun b47 =>
  gcase b47
  ((notNil a0).bind fun v48 =>
  (padd 1 v48).bind fun v49 =>
  (load1 p4.2 v49).bind fun x50 =>
  (bin Ev .neq 2 (.s x50) (iv .i64 0)).bind fun b51 =>
  vcase b51
  (some (bv false, p4.2))
  ((notNil a0).bind fun v52 =>
  (padd 0 v52).bind fun v53 =>
  (load1 p4.2 v53).bind fun x54 =>
  (bin Ev .eql 2 (.s x54) (iv .i64 4)).bind fun b55 =>
  vcase b55
  ((notNil a0).bind fun v56 =>
  (padd 2 v56).bind fun v57 =>
  (padd 2 v57).bind fun v58 =>
  (load1 p4.2 v58).bind fun x59 =>
  (bin Ev .eql 2 (.s x59) (iv .i64 0)).bind fun b60 =>
  gcase b60
  ((notNil a0).bind fun v61 =>
  (padd 2 v61).bind fun v62 =>
  (padd 3 v62).bind fun v63 =>
  (load1 p4.2 v63).bind fun x64 =>
  (bin Ev .eql 9 (.s x64) (.s (.str (⟨#[]⟩)))).bind fun b65 =>
  some (b65, p4.2))
  (some (bv false, p4.2))
  (none))
  ((notNil a0).bind fun v66 =>
  (padd 0 v66).bind fun v67 =>
  (load1 p4.2 v67).bind fun x68 =>
  (call Ev Fn.spec_l10Row [.s x68] p4.2).bind fun p69 =>
  gcase p69.1
  (some (bv true, p69.2))
  ((notNil a0).bind fun v70 =>
  (padd 2 v70).bind fun v71 =>
  (loadN 4 p69.2 v71).bind fun c72 =>
  (bin Ev .eql 27 (.agg c72) (.agg [.int .i64 0, .int .i64 0, .int .i64 0, .str ⟨#[]⟩])).bind fun b73 =>
  some (b73, p69.2))
  (none))))
  ((notNil a0).bind fun v74 =>
  (padd 0 v74).bind fun v75 =>
  (load1 p4.2 v75).bind fun x76 =>
  (bin Ev .eql 2 (.s x76) (iv .i64 4)).bind fun b77 =>
  vcase b77
  ((notNil a0).bind fun v78 =>
  (padd 2 v78).bind fun v79 =>
  (padd 2 v79).bind fun v80 =>
  (load1 p4.2 v80).bind fun x81 =>
  (bin Ev .eql 2 (.s x81) (iv .i64 0)).bind fun b82 =>
  gcase b82
  ((notNil a0).bind fun v83 =>
  (padd 2 v83).bind fun v84 =>
  (padd 3 v84).bind fun v85 =>
  (load1 p4.2 v85).bind fun x86 =>
  (bin Ev .eql 9 (.s x86) (.s (.str (⟨#[]⟩)))).bind fun b87 =>
  some (b87, p4.2))
  (some (bv false, p4.2))
  (none))
  ((notNil a0).bind fun v88 =>
  (padd 0 v88).bind fun v89 =>
  (load1 p4.2 v89).bind fun x90 =>
  (call Ev Fn.spec_l10Row [.s x90] p4.2).bind fun p91 =>
  gcase p91.1
  (some (bv true, p91.2))
  ((notNil a0).bind fun v92 =>
  (padd 2 v92).bind fun v93 =>
  (loadN 4 p91.2 v93).bind fun c94 =>
  (bin Ev .eql 27 (.agg c94) (.agg [.int .i64 0, .int .i64 0, .int .i64 0, .str ⟨#[]⟩])).bind fun b95 =>
  some (b95, p91.2))
  (none)))
  (none))
  (none)))
  ((notNil a0).bind fun v96 =>
  (padd 0 v96).bind fun v97 =>
  (load1 p4.2 v97).bind fun x98 =>
  (bin Ev .eql 2 (.s x98) (iv .i64 1)).bind fun b99 =>
  gcase b99
  ((notNil a0).bind fun v100 =>
  (padd 1 v100).bind fun v101 =>
  (load1 p4.2 v101).bind fun x102 =>
  (bin Ev .neq 2 (.s x102) (iv .i64 0)).bind fun b103 =>
  vcase b103
  (some (bv false, p4.2))
  ((notNil a0).bind fun v104 =>
  (padd 0 v104).bind fun v105 =>
  (load1 p4.2 v105).bind fun x106 =>
  (bin Ev .eql 2 (.s x106) (iv .i64 4)).bind fun b107 =>
  vcase b107
  ((notNil a0).bind fun v108 =>
  (padd 2 v108).bind fun v109 =>
  (padd 2 v109).bind fun v110 =>
  (load1 p4.2 v110).bind fun x111 =>
  (bin Ev .eql 2 (.s x111) (iv .i64 0)).bind fun b112 =>
  gcase b112
  ((notNil a0).bind fun v113 =>
  (padd 2 v113).bind fun v114 =>
  (padd 3 v114).bind fun v115 =>
  (load1 p4.2 v115).bind fun x116 =>
  (bin Ev .eql 9 (.s x116) (.s (.str (⟨#[]⟩)))).bind fun b117 =>
  some (b117, p4.2))
  (some (bv false, p4.2))
  (none))
  ((notNil a0).bind fun v118 =>
  (padd 0 v118).bind fun v119 =>
  (load1 p4.2 v119).bind fun x120 =>
  (call Ev Fn.spec_l10Row [.s x120] p4.2).bind fun p121 =>
  gcase p121.1
  (some (bv true, p121.2))
  ((notNil a0).bind fun v122 =>
  (padd 2 v122).bind fun v123 =>
  (loadN 4 p121.2 v123).bind fun c124 =>
  (bin Ev .eql 27 (.agg c124) (.agg [.int .i64 0, .int .i64 0, .int .i64 0, .str ⟨#[]⟩])).bind fun b125 =>
  some (b125, p121.2))
  (none))))
  ((notNil a0).bind fun v126 =>
  (padd 0 v126).bind fun v127 =>
  (load1 p4.2 v127).bind fun x128 =>
  (bin Ev .eql 2 (.s x128) (iv .i64 9)).bind fun b129 =>
  gcase b129
  ((notNil a0).bind fun v130 =>
  (padd 1 v130).bind fun v131 =>
  (load1 p4.2 v131).bind fun x132 =>
  (bin Ev .neq 2 (.s x132) (iv .i64 0)).bind fun b133 =>
  vcase b133
  (some (bv false, p4.2))
  ((notNil a0).bind fun v134 =>
  (padd 0 v134).bind fun v135 =>
  (load1 p4.2 v135).bind fun x136 =>
  (bin Ev .eql 2 (.s x136) (iv .i64 4)).bind fun b137 =>
  vcase b137
  ((notNil a0).bind fun v138 =>
  (padd 2 v138).bind fun v139 =>
  (padd 2 v139).bind fun v140 =>
  (load1 p4.2 v140).bind fun x141 =>
  (bin Ev .eql 2 (.s x141) (iv .i64 0)).bind fun b142 =>
  gcase b142
  ((notNil a0).bind fun v143 =>
  (padd 2 v143).bind fun v144 =>
  (padd 3 v144).bind fun v145 =>
  (load1 p4.2 v145).bind fun x146 =>
  (bin Ev .eql 9 (.s x146) (.s (.str (⟨#[]⟩)))).bind fun b147 =>
  some (b147, p4.2))
  (some (bv false, p4.2))
  (none))
  ((notNil a0).bind fun v148 =>
  (padd 0 v148).bind fun v149 =>
  (load1 p4.2 v149).bind fun x150 =>
  (call Ev Fn.spec_l10Row [.s x150] p4.2).bind fun p151 =>
  gcase p151.1
  (some (bv true, p151.2))
  ((notNil a0).bind fun v152 =>
  (padd 2 v152).bind fun v153 =>
  (loadN 4 p151.2 v153).bind fun c154 =>
  (bin Ev .eql 27 (.agg c154) (.agg [.int .i64 0, .int .i64 0, .int .i64 0, .str ⟨#[]⟩])).bind fun b155 =>
  some (b155, p151.2))
  (none))))
  ((notNil a0).bind fun v156 =>
  (padd 0 v156).bind fun v157 =>
  (load1 p4.2 v157).bind fun x158 =>
  (bin Ev .eql 2 (.s x158) (iv .i64 4)).bind fun b159 =>
  vcase b159
  ((notNil a0).bind fun v160 =>
  (padd 2 v160).bind fun v161 =>
  (padd 2 v161).bind fun v162 =>
  (load1 p4.2 v162).bind fun x163 =>
  (bin Ev .eql 2 (.s x163) (iv .i64 0)).bind fun b164 =>
  gcase b164
  ((notNil a0).bind fun v165 =>
  (padd 2 v165).bind fun v166 =>
  (padd 3 v166).bind fun v167 =>
  (load1 p4.2 v167).bind fun x168 =>
  (bin Ev .eql 9 (.s x168) (.s (.str (⟨#[]⟩)))).bind fun b169 =>
  some (b169, p4.2))
  (some (bv false, p4.2))
  (none))
  ((notNil a0).bind fun v170 =>
  (padd 0 v170).bind fun v171 =>
  (load1 p4.2 v171).bind fun x172 =>
  (call Ev Fn.spec_l10Row [.s x172] p4.2).bind fun p173 =>
  gcase p173.1
  (some (bv true, p173.2))
  ((notNil a0).bind fun v174 =>
  (padd 2 v174).bind fun v175 =>
  (loadN 4 p173.2 v175).bind fun c176 =>
  (bin Ev .eql 27 (.agg c176) (.agg [.int .i64 0, .int .i64 0, .int .i64 0, .str ⟨#[]⟩])).bind fun b177 =>
  some (b177, p173.2))
  (none)))
  (none))
  (none))
  (vcase (.tup [])
  (vcase (.tup [])
  (some (bv false, p4.2))
  ((notNil a0).bind fun v178 =>
  (padd 0 v178).bind fun v179 =>
  (load1 p4.2 v179).bind fun x180 =>
  (bin Ev .eql 2 (.s x180) (iv .i64 1)).bind fun b181 =>
  gcase b181
  ((notNil a0).bind fun v182 =>
  (padd 1 v182).bind fun v183 =>
  (load1 p4.2 v183).bind fun x184 =>
  (bin Ev .neq 2 (.s x184) (iv .i64 0)).bind fun b185 =>
  vcase b185
  (some (bv false, p4.2))
  ((notNil a0).bind fun v186 =>
  (padd 0 v186).bind fun v187 =>
  (load1 p4.2 v187).bind fun x188 =>
  (bin Ev .eql 2 (.s x188) (iv .i64 4)).bind fun b189 =>
  vcase b189
  ((notNil a0).bind fun v190 =>
  (padd 2 v190).bind fun v191 =>
  (padd 2 v191).bind fun v192 =>
  (load1 p4.2 v192).bind fun x193 =>
  (bin Ev .eql 2 (.s x193) (iv .i64 0)).bind fun b194 =>
  gcase b194
  ((notNil a0).bind fun v195 =>
  (padd 2 v195).bind fun v196 =>
  (padd 3 v196).bind fun v197 =>
  (load1 p4.2 v197).bind fun x198 =>
  (bin Ev .eql 9 (.s x198) (.s (.str (⟨#[]⟩)))).bind fun b199 =>
  some (b199, p4.2))
  (some (bv false, p4.2))
  (none))
  ((notNil a0).bind fun v200 =>
  (padd 0 v200).bind fun v201 =>
  (load1 p4.2 v201).bind fun x202 =>
  (call Ev Fn.spec_l10Row [.s x202] p4.2).bind fun p203 =>
  gcase p203.1
  (some (bv true, p203.2))
  ((notNil a0).bind fun v204 =>
  (padd 2 v204).bind fun v205 =>
  (loadN 4 p203.2 v205).bind fun c206 =>
  (bin Ev .eql 27 (.agg c206) (.agg [.int .i64 0, .int .i64 0, .int .i64 0, .str ⟨#[]⟩])).bind fun b207 =>
  some (b207, p203.2))
  (none))))
  ((notNil a0).bind fun v208 =>
  (padd 0 v208).bind fun v209 =>
  (load1 p4.2 v209).bind fun x210 =>
  (bin Ev .eql 2 (.s x210) (iv .i64 9)).bind fun b211 =>
  gcase b211
  ((notNil a0).bind fun v212 =>
  (padd 1 v212).bind fun v213 =>
  (load1 p4.2 v213).bind fun x214 =>
  (bin Ev .neq 2 (.s x214) (iv .i64 0)).bind fun b215 =>
  vcase b215
  (some (bv false, p4.2))
  ((notNil a0).bind fun v216 =>
  (padd 0 v216).bind fun v217 =>
  (load1 p4.2 v217).bind fun x218 =>
  (bin Ev .eql 2 (.s x218) (iv .i64 4)).bind fun b219 =>
  vcase b219
  ((notNil a0).bind fun v220 =>
  (padd 2 v220).bind fun v221 =>
  (padd 2 v221).bind fun v222 =>
  (load1 p4.2 v222).bind fun x223 =>
  (bin Ev .eql 2 (.s x223) (iv .i64 0)).bind fun b224 =>
  gcase b224
  ((notNil a0).bind fun v225 =>
  (padd 2 v225).bind fun v226 =>
  (padd 3 v226).bind fun v227 =>
  (load1 p4.2 v227).bind fun x228 =>
  (bin Ev .eql 9 (.s x228) (.s (.str (⟨#[]⟩)))).bind fun b229 =>
  some (b229, p4.2))
  (some (bv false, p4.2))
  (none))
  ((notNil a0).bind fun v230 =>
  (padd 0 v230).bind fun v231 =>
  (load1 p4.2 v231).bind fun x232 =>
  (call Ev Fn.spec_l10Row [.s x232] p4.2).bind fun p233 =>
  gcase p233.1
  (some (bv true, p233.2))
  ((notNil a0).bind fun v234 =>
  (padd 2 v234).bind fun v235 =>
  (loadN 4 p233.2 v235).bind fun c236 =>
  (bin Ev .eql 27 (.agg c236) (.agg [.int .i64 0, .int .i64 0, .int .i64 0, .str ⟨#[]⟩])).bind fun b237 =>
  some (b237, p233.2))
  (none))))
  ((notNil a0).bind fun v238 =>
  (padd 0 v238).bind fun v239 =>
  (load1 p4.2 v239).bind fun x240 =>
  (bin Ev .eql 2 (.s x240) (iv .i64 4)).bind fun b241 =>
  vcase b241
  ((notNil a0).bind fun v242 =>
  (padd 2 v242).bind fun v243 =>
  (padd 2 v243).bind fun v244 =>
  (load1 p4.2 v244).bind fun x245 =>
  (bin Ev .eql 2 (.s x245) (iv .i64 0)).bind fun b246 =>
  gcase b246
  ((notNil a0).bind fun v247 =>
  (padd 2 v247).bind fun v248 =>
  (padd 3 v248).bind fun v249 =>
  (load1 p4.2 v249).bind fun x250 =>
  (bin Ev .eql 9 (.s x250) (.s (.str (⟨#[]⟩)))).bind fun b251 =>
  some (b251, p4.2))
  (some (bv false, p4.2))
  (none))
  ((notNil a0).bind fun v252 =>
  (padd 0 v252).bind fun v253 =>
  (load1 p4.2 v253).bind fun x254 =>
  (call Ev Fn.spec_l10Row [.s x254] p4.2).bind fun p255 =>
  gcase p255.1
  (some (bv true, p255.2))
  ((notNil a0).bind fun v256 =>
  (padd 2 v256).bind fun v257 =>
  (loadN 4 p255.2 v257).bind fun c258 =>
  (bin Ev .eql 27 (.agg c258) (.agg [.int .i64 0, .int .i64 0, .int .i64 0, .str ⟨#[]⟩])).bind fun b259 =>
  some (b259, p255.2))
  (none)))
  (none))
  (none)))
  ((notNil a0).bind fun v260 =>
  (padd 0 v260).bind fun v261 =>
  (load1 p4.2 v261).bind fun x262 =>
  (bin Ev .eql 2 (.s x262) (iv .i64 1)).bind fun b263 =>
  gcase b263
  ((notNil a0).bind fun v264 =>
  (padd 1 v264).bind fun v265 =>
  (load1 p4.2 v265).bind fun x266 =>
  (bin Ev .neq 2 (.s x266) (iv .i64 0)).bind fun b267 =>
  vcase b267
  (some (bv false, p4.2))
  ((notNil a0).bind fun v268 =>
  (padd 0 v268).bind fun v269 =>
  (load1 p4.2 v269).bind fun x270 =>
  (bin Ev .eql 2 (.s x270) (iv .i64 4)).bind fun b271 =>
  vcase b271
  ((notNil a0).bind fun v272 =>
  (padd 2 v272).bind fun v273 =>
  (padd 2 v273).bind fun v274 =>
  (load1 p4.2 v274).bind fun x275 =>
  (bin Ev .eql 2 (.s x275) (iv .i64 0)).bind fun b276 =>
  gcase b276
  ((notNil a0).bind fun v277 =>
  (padd 2 v277).bind fun v278 =>
  (padd 3 v278).bind fun v279 =>
  (load1 p4.2 v279).bind fun x280 =>
  (bin Ev .eql 9 (.s x280) (.s (.str (⟨#[]⟩)))).bind fun b281 =>
  some (b281, p4.2))
  (some (bv false, p4.2))
  (none))
  ((notNil a0).bind fun v282 =>
  (padd 0 v282).bind fun v283 =>
  (load1 p4.2 v283).bind fun x284 =>
  (call Ev Fn.spec_l10Row [.s x284] p4.2).bind fun p285 =>
  gcase p285.1
  (some (bv true, p285.2))
  ((notNil a0).bind fun v286 =>
  (padd 2 v286).bind fun v287 =>
  (loadN 4 p285.2 v287).bind fun c288 =>
  (bin Ev .eql 27 (.agg c288) (.agg [.int .i64 0, .int .i64 0, .int .i64 0, .str ⟨#[]⟩])).bind fun b289 =>
  some (b289, p285.2))
  (none))))
  ((notNil a0).bind fun v290 =>
  (padd 0 v290).bind fun v291 =>
  (load1 p4.2 v291).bind fun x292 =>
  (bin Ev .eql 2 (.s x292) (iv .i64 9)).bind fun b293 =>
  gcase b293
  ((notNil a0).bind fun v294 =>
  (padd 1 v294).bind fun v295 =>
  (load1 p4.2 v295).bind fun x296 =>
  (bin Ev .neq 2 (.s x296) (iv .i64 0)).bind fun b297 =>
  vcase b297
  (some (bv false, p4.2))
  ((notNil a0).bind fun v298 =>
  (padd 0 v298).bind fun v299 =>
  (load1 p4.2 v299).bind fun x300 =>
  (bin Ev .eql 2 (.s x300) (iv .i64 4)).bind fun b301 =>
  vcase b301
  ((notNil a0).bind fun v302 =>
  (padd 2 v302).bind fun v303 =>
  (padd 2 v303).bind fun v304 =>
  (load1 p4.2 v304).bind fun x305 =>
  (bin Ev .eql 2 (.s x305) (iv .i64 0)).bind fun b306 =>
  gcase b306
  ((notNil a0).bind fun v307 =>
  (padd 2 v307).bind fun v308 =>
  (padd 3 v308).bind fun v309 =>
  (load1 p4.2 v309).bind fun x310 =>
  (bin Ev .eql 9 (.s x310) (.s (.str (⟨#[]⟩)))).bind fun b311 =>
  some (b311, p4.2))
  (some (bv false, p4.2))
  (none))
  ((notNil a0).bind fun v312 =>
  (padd 0 v312).bind fun v313 =>
  (load1 p4.2 v313).bind fun x314 =>
  (call Ev Fn.spec_l10Row [.s x314] p4.2).bind fun p315 =>
  gcase p315.1
  (some (bv true, p315.2))
  ((notNil a0).bind fun v316 =>
  (padd 2 v316).bind fun v317 =>
  (loadN 4 p315.2 v317).bind fun c318 =>
  (bin Ev .eql 27 (.agg c318) (.agg [.int .i64 0, .int .i64 0, .int .i64 0, .str ⟨#[]⟩])).bind fun b319 =>
  some (b319, p315.2))
  (none))))
  ((notNil a0).bind fun v320 =>
  (padd 0 v320).bind fun v321 =>
  (load1 p4.2 v321).bind fun x322 =>
  (bin Ev .eql 2 (.s x322) (iv .i64 4)).bind fun b323 =>
  vcase b323
  ((notNil a0).bind fun v324 =>
  (padd 2 v324).bind fun v325 =>
  (padd 2 v325).bind fun v326 =>
  (load1 p4.2 v326).bind fun x327 =>
  (bin Ev .eql 2 (.s x327) (iv .i64 0)).bind fun b328 =>
  gcase b328
  ((notNil a0).bind fun v329 =>
  (padd 2 v329).bind fun v330 =>
  (padd 3 v330).bind fun v331 =>
  (load1 p4.2 v331).bind fun x332 =>
  (bin Ev .eql 9 (.s x332) (.s (.str (⟨#[]⟩)))).bind fun b333 =>
  some (b333, p4.2))
  (some (bv false, p4.2))
  (none))
  ((notNil a0).bind fun v334 =>
  (padd 0 v334).bind fun v335 =>
  (load1 p4.2 v335).bind fun x336 =>
  (call Ev Fn.spec_l10Row [.s x336] p4.2).bind fun p337 =>
  gcase p337.1
  (some (bv true, p337.2))
  ((notNil a0).bind fun v338 =>
  (padd 2 v338).bind fun v339 =>
  (loadN 4 p337.2 v339).bind fun c340 =>
  (bin Ev .eql 27 (.agg c340) (.agg [.int .i64 0, .int .i64 0, .int .i64 0, .str ⟨#[]⟩])).bind fun b341 =>
  some (b341, p337.2))
  (none)))
  (none))
  (none))))
  (none) := by
  rw [call_eq]; kernel_rfl

theorem eq_spec_l10Op (a0 : V) (h : H) : call Ev Fn.spec_l10Op [a0] h =
  (call Ev Fn.spec_l10Form [a0] h).bind fun p1 =>
  (unNot p1.1).bind fun v2 =>
  vcase v2
  (some (iv .i64 1, p1.2))
  ((notNil a0).bind fun v3 =>
  (padd 0 v3).bind fun v4 =>
  (load1 p1.2 v4).bind fun x5 =>
  (bin Ev .neq 2 (.s x5) (iv .i64 1)).bind fun b6 =>
  gcase b6
  ((notNil a0).bind fun v7 =>
  (padd 0 v7).bind fun v8 =>
  (load1 p1.2 v8).bind fun x9 =>
  (bin Ev .neq 2 (.s x9) (iv .i64 9)).bind fun b10 =>
  gcase b10
  ((notNil a0).bind fun v11 =>
  (padd 1 v11).bind fun v12 =>
  (load1 p1.2 v12).bind fun x13 =>
  (call Ev Fn.spec_l1In [.s x13, iv .i64 1, iv .i64 99] p1.2).bind fun p14 =>
  (unNot p14.1).bind fun v15 =>
  gcase v15
  (some (iv .i64 3, p14.2))
  ((notNil a0).bind fun v16 =>
  (padd 6 v16).bind fun v17 =>
  (load1 p14.2 v17).bind fun x18 =>
  (call Ev Fn.spec_l1In [.s x18, iv .i64 0, iv .i64 7] p14.2).bind fun p19 =>
  (unNot p19.1).bind fun v20 =>
  vcase v20
  (some (iv .i64 3, p19.2))
  ((notNil a0).bind fun v21 =>
  (padd 0 v21).bind fun v22 =>
  (load1 p19.2 v22).bind fun x23 =>
  (call Ev Fn.spec_l10Row [.s x23] p19.2).bind fun p24 =>
  vcase p24.1
  ((notNil a0).bind fun v25 =>
  (padd 2 v25).bind fun v26 =>
  (call Ev Fn.spec_l1Fault [v26] p24.2).bind fun p27 =>
  some (p27.1, p27.2))
  (some (iv .i64 0, p24.2))))
  (none))
  ((notNil a0).bind fun v28 =>
  (padd 6 v28).bind fun v29 =>
  (load1 p1.2 v29).bind fun x30 =>
  (call Ev Fn.spec_l1In [.s x30, iv .i64 0, iv .i64 7] p1.2).bind fun p31 =>
  (unNot p31.1).bind fun v32 =>
  vcase v32
  (some (iv .i64 3, p31.2))
  ((notNil a0).bind fun v33 =>
  (padd 0 v33).bind fun v34 =>
  (load1 p31.2 v34).bind fun x35 =>
  (call Ev Fn.spec_l10Row [.s x35] p31.2).bind fun p36 =>
  vcase p36.1
  ((notNil a0).bind fun v37 =>
  (padd 2 v37).bind fun v38 =>
  (call Ev Fn.spec_l1Fault [v38] p36.2).bind fun p39 =>
  some (p39.1, p39.2))
  (some (iv .i64 0, p36.2))))
  (none))
  ((notNil a0).bind fun v40 =>
  (padd 6 v40).bind fun v41 =>
  (load1 p1.2 v41).bind fun x42 =>
  (call Ev Fn.spec_l1In [.s x42, iv .i64 0, iv .i64 7] p1.2).bind fun p43 =>
  (unNot p43.1).bind fun v44 =>
  vcase v44
  (some (iv .i64 3, p43.2))
  ((notNil a0).bind fun v45 =>
  (padd 0 v45).bind fun v46 =>
  (load1 p43.2 v46).bind fun x47 =>
  (call Ev Fn.spec_l10Row [.s x47] p43.2).bind fun p48 =>
  vcase p48.1
  ((notNil a0).bind fun v49 =>
  (padd 2 v49).bind fun v50 =>
  (call Ev Fn.spec_l1Fault [v50] p48.2).bind fun p51 =>
  some (p51.1, p51.2))
  (some (iv .i64 0, p48.2))))
  (none)) := by
  rw [call_eq]; kernel_rfl

theorem eq_spec_OpFault (a0 : List S) (h : H) : call Ev Fn.spec_OpFault [.agg a0] h =
  (call Ev Fn.spec_l10Op [pv h.n 0] ((h).new 0 a0)).bind fun p1 =>
  some (p1.1, p1.2) := by
  rw [call_eq]; kernel_rfl

theorem eq_laws_toOp (a0 : List S) (h : H) : call Ev Fn.laws_toOp [.agg a0] h =
  (load1 ((((h).new 0 a0).new 0 [.int .i64 0, .int .i64 0, .int .i64 0, .int .i64 0, .int .i64 0, .str ⟨#[]⟩, .int .i64 0]).new 0 [.int .i64 0, .int .i64 0, .int .i64 0, .int .i64 0, .int .i64 0, .str ⟨#[]⟩, .int .i64 0]) (pv h.n 0)).bind fun x2 =>
  (stV 1 ((((h).new 0 a0).new 0 [.int .i64 0, .int .i64 0, .int .i64 0, .int .i64 0, .int .i64 0, .str ⟨#[]⟩, .int .i64 0]).new 0 [.int .i64 0, .int .i64 0, .int .i64 0, .int .i64 0, .int .i64 0, .str ⟨#[]⟩, .int .i64 0]) (pv ((((h).new 0 a0).new 0 [.int .i64 0, .int .i64 0, .int .i64 0, .int .i64 0, .int .i64 0, .str ⟨#[]⟩, .int .i64 0]).n) 0) (.s x2)).bind fun h3 =>
  (load1 h3 (pv h.n 1)).bind fun x4 =>
  (stV 1 h3 (pv ((((h).new 0 a0).new 0 [.int .i64 0, .int .i64 0, .int .i64 0, .int .i64 0, .int .i64 0, .str ⟨#[]⟩, .int .i64 0]).n) 1) (.s x4)).bind fun h5 =>
  (loadN 4 h5 (pv h.n 2)).bind fun c6 =>
  (call Ev Fn.laws_toRow [.agg c6] h5).bind fun p7 =>
  (stV 4 p7.2 (pv ((((h).new 0 a0).new 0 [.int .i64 0, .int .i64 0, .int .i64 0, .int .i64 0, .int .i64 0, .str ⟨#[]⟩, .int .i64 0]).n) 2) p7.1).bind fun h8 =>
  (load1 h8 (pv h.n 6)).bind fun x9 =>
  (stV 1 h8 (pv ((((h).new 0 a0).new 0 [.int .i64 0, .int .i64 0, .int .i64 0, .int .i64 0, .int .i64 0, .str ⟨#[]⟩, .int .i64 0]).n) 6) (.s x9)).bind fun h10 =>
  (loadN 7 h10 (pv ((((h).new 0 a0).new 0 [.int .i64 0, .int .i64 0, .int .i64 0, .int .i64 0, .int .i64 0, .str ⟨#[]⟩, .int .i64 0]).n) 0)).bind fun c11 =>
  (stV 7 h10 (pv (((h).new 0 a0).n) 0) (.agg c11)).bind fun h12 =>
  (loadN 7 h12 (pv (((h).new 0 a0).n) 0)).bind fun c13 =>
  some (.agg c13, h12) := by
  rw [call_eq]; kernel_rfl

theorem eq_impl_onRow (a0 : Int) (h : H) : call Ev Fn.impl_onRow [iv .i64 a0] h =
  vcase (bv (a0 == 2))
  (some (bv true, h))
  (vcase (bv (a0 == 3))
  (some (bv true, h))
  (some (bv (a0 == 4), h))) := by
  rw [call_eq]; kernel_rfl

theorem eq_impl_isTx (a0 : Int) (h : H) : call Ev Fn.impl_isTx [iv .i64 a0] h =
  (call Ev Fn.impl_in [iv .i64 a0, iv .i64 1, iv .i64 99] h).bind fun p1 =>
  some (p1.1, p1.2) := by
  rw [call_eq]; kernel_rfl

theorem eq_impl_OpFault (a0 : List S) (h : H) : call Ev Fn.impl_OpFault [.agg a0] h =
  (load1 ((h).new 0 a0) (pv h.n 0)).bind fun x1 =>
  (bin Ev .eql 2 (.s x1) (iv .i64 1)).bind fun b2 =>
  gcase b2
  ((load1 ((h).new 0 a0) (pv h.n 0)).bind fun x3 =>
  (call Ev Fn.impl_in [.s x3, iv .i64 1, iv .i64 9] ((h).new 0 a0)).bind fun p4 =>
  (unNot p4.1).bind fun v5 =>
  gcase v5
  (some (iv .i64 1, p4.2))
  ((load1 p4.2 (pv h.n 1)).bind fun x6 =>
  (bin Ev .neq 2 (.s x6) (iv .i64 0)).bind fun b7 =>
  gcase b7
  (some (iv .i64 1, p4.2))
  ((load1 p4.2 (pv h.n 0)).bind fun x8 =>
  (call Ev Fn.impl_onRow [.s x8] p4.2).bind fun p9 =>
  (unNot p9.1).bind fun v10 =>
  gcase v10
  ((loadN 4 p9.2 (pv h.n 2)).bind fun c11 =>
  (bin Ev .neq 27 (.agg c11) (.agg [.int .i64 0, .int .i64 0, .int .i64 0, .str ⟨#[]⟩])).bind fun b12 =>
  gcase b12
  (some (iv .i64 1, p9.2))
  ((load1 p9.2 (pv h.n 0)).bind fun x13 =>
  (bin Ev .neq 2 (.s x13) (iv .i64 6)).bind fun b14 =>
  gcase b14
  ((load1 p9.2 (pv h.n 6)).bind fun x15 =>
  (bin Ev .neq 2 (.s x15) (iv .i64 0)).bind fun b16 =>
  vcase b16
  (some (iv .i64 1, p9.2))
  ((load1 p9.2 (pv h.n 0)).bind fun x17 =>
  (bin Ev .eql 2 (.s x17) (iv .i64 4)).bind fun b18 =>
  gcase b18
  ((load1 p9.2 (pv h.n 4)).bind fun x19 =>
  (bin Ev .neq 2 (.s x19) (iv .i64 0)).bind fun b20 =>
  gcase b20
  (some (iv .i64 1, p9.2))
  ((load1 p9.2 (pv h.n 5)).bind fun x21 =>
  (bin Ev .neq 9 (.s x21) (.s (.str (⟨#[]⟩)))).bind fun b22 =>
  vcase b22
  (some (iv .i64 1, p9.2))
  ((load1 p9.2 (pv h.n 6)).bind fun x23 =>
  (call Ev Fn.impl_in [.s x23, iv .i64 0, iv .i64 7] p9.2).bind fun p24 =>
  (unNot p24.1).bind fun v25 =>
  vcase v25
  (some (iv .i64 3, p24.2))
  ((load1 p24.2 (pv h.n 0)).bind fun x26 =>
  (call Ev Fn.impl_onRow [.s x26] p24.2).bind fun p27 =>
  vcase p27.1
  ((loadN 4 p27.2 (pv h.n 2)).bind fun c28 =>
  (call Ev Fn.impl_RowFault [.agg c28] p27.2).bind fun p29 =>
  some (p29.1, p29.2))
  (some (iv .i64 0, p27.2)))))
  (vcase (.tup [])
  (some (iv .i64 1, p9.2))
  (vcase (.tup [])
  (some (iv .i64 1, p9.2))
  ((load1 p9.2 (pv h.n 6)).bind fun x30 =>
  (call Ev Fn.impl_in [.s x30, iv .i64 0, iv .i64 7] p9.2).bind fun p31 =>
  (unNot p31.1).bind fun v32 =>
  vcase v32
  (some (iv .i64 3, p31.2))
  ((load1 p31.2 (pv h.n 0)).bind fun x33 =>
  (call Ev Fn.impl_onRow [.s x33] p31.2).bind fun p34 =>
  vcase p34.1
  ((loadN 4 p34.2 (pv h.n 2)).bind fun c35 =>
  (call Ev Fn.impl_RowFault [.agg c35] p34.2).bind fun p36 =>
  some (p36.1, p36.2))
  (some (iv .i64 0, p34.2)))))))
  ((load1 p9.2 (pv h.n 6)).bind fun x37 =>
  (call Ev Fn.impl_in [.s x37, iv .i64 0, iv .i64 7] p9.2).bind fun p38 =>
  (unNot p38.1).bind fun v39 =>
  vcase v39
  (some (iv .i64 3, p38.2))
  ((load1 p38.2 (pv h.n 0)).bind fun x40 =>
  (call Ev Fn.impl_onRow [.s x40] p38.2).bind fun p41 =>
  vcase p41.1
  ((loadN 4 p41.2 (pv h.n 2)).bind fun c42 =>
  (call Ev Fn.impl_RowFault [.agg c42] p41.2).bind fun p43 =>
  some (p43.1, p43.2))
  (some (iv .i64 0, p41.2))))
  (none)))
  ((load1 p9.2 (pv h.n 0)).bind fun x44 =>
  (bin Ev .eql 2 (.s x44) (iv .i64 4)).bind fun b45 =>
  gcase b45
  ((load1 p9.2 (pv h.n 4)).bind fun x46 =>
  (bin Ev .neq 2 (.s x46) (iv .i64 0)).bind fun b47 =>
  gcase b47
  (some (iv .i64 1, p9.2))
  ((load1 p9.2 (pv h.n 5)).bind fun x48 =>
  (bin Ev .neq 9 (.s x48) (.s (.str (⟨#[]⟩)))).bind fun b49 =>
  vcase b49
  (some (iv .i64 1, p9.2))
  ((load1 p9.2 (pv h.n 6)).bind fun x50 =>
  (call Ev Fn.impl_in [.s x50, iv .i64 0, iv .i64 7] p9.2).bind fun p51 =>
  (unNot p51.1).bind fun v52 =>
  vcase v52
  (some (iv .i64 3, p51.2))
  ((load1 p51.2 (pv h.n 0)).bind fun x53 =>
  (call Ev Fn.impl_onRow [.s x53] p51.2).bind fun p54 =>
  vcase p54.1
  ((loadN 4 p54.2 (pv h.n 2)).bind fun c55 =>
  (call Ev Fn.impl_RowFault [.agg c55] p54.2).bind fun p56 =>
  some (p56.1, p56.2))
  (some (iv .i64 0, p54.2)))))
  (vcase (.tup [])
  (some (iv .i64 1, p9.2))
  (vcase (.tup [])
  (some (iv .i64 1, p9.2))
  ((load1 p9.2 (pv h.n 6)).bind fun x57 =>
  (call Ev Fn.impl_in [.s x57, iv .i64 0, iv .i64 7] p9.2).bind fun p58 =>
  (unNot p58.1).bind fun v59 =>
  vcase v59
  (some (iv .i64 3, p58.2))
  ((load1 p58.2 (pv h.n 0)).bind fun x60 =>
  (call Ev Fn.impl_onRow [.s x60] p58.2).bind fun p61 =>
  vcase p61.1
  ((loadN 4 p61.2 (pv h.n 2)).bind fun c62 =>
  (call Ev Fn.impl_RowFault [.agg c62] p61.2).bind fun p63 =>
  some (p63.1, p63.2))
  (some (iv .i64 0, p61.2)))))))
  ((load1 p9.2 (pv h.n 6)).bind fun x64 =>
  (call Ev Fn.impl_in [.s x64, iv .i64 0, iv .i64 7] p9.2).bind fun p65 =>
  (unNot p65.1).bind fun v66 =>
  vcase v66
  (some (iv .i64 3, p65.2))
  ((load1 p65.2 (pv h.n 0)).bind fun x67 =>
  (call Ev Fn.impl_onRow [.s x67] p65.2).bind fun p68 =>
  vcase p68.1
  ((loadN 4 p68.2 (pv h.n 2)).bind fun c69 =>
  (call Ev Fn.impl_RowFault [.agg c69] p68.2).bind fun p70 =>
  some (p70.1, p70.2))
  (some (iv .i64 0, p68.2))))
  (none))
  (vcase (.tup [])
  (vcase (.tup [])
  (some (iv .i64 1, p9.2))
  ((load1 p9.2 (pv h.n 0)).bind fun x71 =>
  (bin Ev .eql 2 (.s x71) (iv .i64 4)).bind fun b72 =>
  gcase b72
  ((load1 p9.2 (pv h.n 4)).bind fun x73 =>
  (bin Ev .neq 2 (.s x73) (iv .i64 0)).bind fun b74 =>
  gcase b74
  (some (iv .i64 1, p9.2))
  ((load1 p9.2 (pv h.n 5)).bind fun x75 =>
  (bin Ev .neq 9 (.s x75) (.s (.str (⟨#[]⟩)))).bind fun b76 =>
  vcase b76
  (some (iv .i64 1, p9.2))
  ((load1 p9.2 (pv h.n 6)).bind fun x77 =>
  (call Ev Fn.impl_in [.s x77, iv .i64 0, iv .i64 7] p9.2).bind fun p78 =>
  (unNot p78.1).bind fun v79 =>
  vcase v79
  (some (iv .i64 3, p78.2))
  ((load1 p78.2 (pv h.n 0)).bind fun x80 =>
  (call Ev Fn.impl_onRow [.s x80] p78.2).bind fun p81 =>
  vcase p81.1
  ((loadN 4 p81.2 (pv h.n 2)).bind fun c82 =>
  (call Ev Fn.impl_RowFault [.agg c82] p81.2).bind fun p83 =>
  some (p83.1, p83.2))
  (some (iv .i64 0, p81.2)))))
  (vcase (.tup [])
  (some (iv .i64 1, p9.2))
  (vcase (.tup [])
  (some (iv .i64 1, p9.2))
  ((load1 p9.2 (pv h.n 6)).bind fun x84 =>
  (call Ev Fn.impl_in [.s x84, iv .i64 0, iv .i64 7] p9.2).bind fun p85 =>
  (unNot p85.1).bind fun v86 =>
  vcase v86
  (some (iv .i64 3, p85.2))
  ((load1 p85.2 (pv h.n 0)).bind fun x87 =>
  (call Ev Fn.impl_onRow [.s x87] p85.2).bind fun p88 =>
  vcase p88.1
  ((loadN 4 p88.2 (pv h.n 2)).bind fun c89 =>
  (call Ev Fn.impl_RowFault [.agg c89] p88.2).bind fun p90 =>
  some (p90.1, p90.2))
  (some (iv .i64 0, p88.2)))))))
  ((load1 p9.2 (pv h.n 6)).bind fun x91 =>
  (call Ev Fn.impl_in [.s x91, iv .i64 0, iv .i64 7] p9.2).bind fun p92 =>
  (unNot p92.1).bind fun v93 =>
  vcase v93
  (some (iv .i64 3, p92.2))
  ((load1 p92.2 (pv h.n 0)).bind fun x94 =>
  (call Ev Fn.impl_onRow [.s x94] p92.2).bind fun p95 =>
  vcase p95.1
  ((loadN 4 p95.2 (pv h.n 2)).bind fun c96 =>
  (call Ev Fn.impl_RowFault [.agg c96] p95.2).bind fun p97 =>
  some (p97.1, p97.2))
  (some (iv .i64 0, p95.2))))
  (none)))
  ((load1 p9.2 (pv h.n 0)).bind fun x98 =>
  (bin Ev .eql 2 (.s x98) (iv .i64 4)).bind fun b99 =>
  gcase b99
  ((load1 p9.2 (pv h.n 4)).bind fun x100 =>
  (bin Ev .neq 2 (.s x100) (iv .i64 0)).bind fun b101 =>
  gcase b101
  (some (iv .i64 1, p9.2))
  ((load1 p9.2 (pv h.n 5)).bind fun x102 =>
  (bin Ev .neq 9 (.s x102) (.s (.str (⟨#[]⟩)))).bind fun b103 =>
  vcase b103
  (some (iv .i64 1, p9.2))
  ((load1 p9.2 (pv h.n 6)).bind fun x104 =>
  (call Ev Fn.impl_in [.s x104, iv .i64 0, iv .i64 7] p9.2).bind fun p105 =>
  (unNot p105.1).bind fun v106 =>
  vcase v106
  (some (iv .i64 3, p105.2))
  ((load1 p105.2 (pv h.n 0)).bind fun x107 =>
  (call Ev Fn.impl_onRow [.s x107] p105.2).bind fun p108 =>
  vcase p108.1
  ((loadN 4 p108.2 (pv h.n 2)).bind fun c109 =>
  (call Ev Fn.impl_RowFault [.agg c109] p108.2).bind fun p110 =>
  some (p110.1, p110.2))
  (some (iv .i64 0, p108.2)))))
  (vcase (.tup [])
  (some (iv .i64 1, p9.2))
  (vcase (.tup [])
  (some (iv .i64 1, p9.2))
  ((load1 p9.2 (pv h.n 6)).bind fun x111 =>
  (call Ev Fn.impl_in [.s x111, iv .i64 0, iv .i64 7] p9.2).bind fun p112 =>
  (unNot p112.1).bind fun v113 =>
  vcase v113
  (some (iv .i64 3, p112.2))
  ((load1 p112.2 (pv h.n 0)).bind fun x114 =>
  (call Ev Fn.impl_onRow [.s x114] p112.2).bind fun p115 =>
  vcase p115.1
  ((loadN 4 p115.2 (pv h.n 2)).bind fun c116 =>
  (call Ev Fn.impl_RowFault [.agg c116] p115.2).bind fun p117 =>
  some (p117.1, p117.2))
  (some (iv .i64 0, p115.2)))))))
  ((load1 p9.2 (pv h.n 6)).bind fun x118 =>
  (call Ev Fn.impl_in [.s x118, iv .i64 0, iv .i64 7] p9.2).bind fun p119 =>
  (unNot p119.1).bind fun v120 =>
  vcase v120
  (some (iv .i64 3, p119.2))
  ((load1 p119.2 (pv h.n 0)).bind fun x121 =>
  (call Ev Fn.impl_onRow [.s x121] p119.2).bind fun p122 =>
  vcase p122.1
  ((loadN 4 p122.2 (pv h.n 2)).bind fun c123 =>
  (call Ev Fn.impl_RowFault [.agg c123] p122.2).bind fun p124 =>
  some (p124.1, p124.2))
  (some (iv .i64 0, p122.2))))
  (none))))
  (none))
  ((load1 p9.2 (pv h.n 0)).bind fun x125 =>
  (bin Ev .neq 2 (.s x125) (iv .i64 6)).bind fun b126 =>
  gcase b126
  ((load1 p9.2 (pv h.n 6)).bind fun x127 =>
  (bin Ev .neq 2 (.s x127) (iv .i64 0)).bind fun b128 =>
  vcase b128
  (some (iv .i64 1, p9.2))
  ((load1 p9.2 (pv h.n 0)).bind fun x129 =>
  (bin Ev .eql 2 (.s x129) (iv .i64 4)).bind fun b130 =>
  gcase b130
  ((load1 p9.2 (pv h.n 4)).bind fun x131 =>
  (bin Ev .neq 2 (.s x131) (iv .i64 0)).bind fun b132 =>
  gcase b132
  (some (iv .i64 1, p9.2))
  ((load1 p9.2 (pv h.n 5)).bind fun x133 =>
  (bin Ev .neq 9 (.s x133) (.s (.str (⟨#[]⟩)))).bind fun b134 =>
  vcase b134
  (some (iv .i64 1, p9.2))
  ((load1 p9.2 (pv h.n 6)).bind fun x135 =>
  (call Ev Fn.impl_in [.s x135, iv .i64 0, iv .i64 7] p9.2).bind fun p136 =>
  (unNot p136.1).bind fun v137 =>
  vcase v137
  (some (iv .i64 3, p136.2))
  ((load1 p136.2 (pv h.n 0)).bind fun x138 =>
  (call Ev Fn.impl_onRow [.s x138] p136.2).bind fun p139 =>
  vcase p139.1
  ((loadN 4 p139.2 (pv h.n 2)).bind fun c140 =>
  (call Ev Fn.impl_RowFault [.agg c140] p139.2).bind fun p141 =>
  some (p141.1, p141.2))
  (some (iv .i64 0, p139.2)))))
  (vcase (.tup [])
  (some (iv .i64 1, p9.2))
  (vcase (.tup [])
  (some (iv .i64 1, p9.2))
  ((load1 p9.2 (pv h.n 6)).bind fun x142 =>
  (call Ev Fn.impl_in [.s x142, iv .i64 0, iv .i64 7] p9.2).bind fun p143 =>
  (unNot p143.1).bind fun v144 =>
  vcase v144
  (some (iv .i64 3, p143.2))
  ((load1 p143.2 (pv h.n 0)).bind fun x145 =>
  (call Ev Fn.impl_onRow [.s x145] p143.2).bind fun p146 =>
  vcase p146.1
  ((loadN 4 p146.2 (pv h.n 2)).bind fun c147 =>
  (call Ev Fn.impl_RowFault [.agg c147] p146.2).bind fun p148 =>
  some (p148.1, p148.2))
  (some (iv .i64 0, p146.2)))))))
  ((load1 p9.2 (pv h.n 6)).bind fun x149 =>
  (call Ev Fn.impl_in [.s x149, iv .i64 0, iv .i64 7] p9.2).bind fun p150 =>
  (unNot p150.1).bind fun v151 =>
  vcase v151
  (some (iv .i64 3, p150.2))
  ((load1 p150.2 (pv h.n 0)).bind fun x152 =>
  (call Ev Fn.impl_onRow [.s x152] p150.2).bind fun p153 =>
  vcase p153.1
  ((loadN 4 p153.2 (pv h.n 2)).bind fun c154 =>
  (call Ev Fn.impl_RowFault [.agg c154] p153.2).bind fun p155 =>
  some (p155.1, p155.2))
  (some (iv .i64 0, p153.2))))
  (none)))
  ((load1 p9.2 (pv h.n 0)).bind fun x156 =>
  (bin Ev .eql 2 (.s x156) (iv .i64 4)).bind fun b157 =>
  gcase b157
  ((load1 p9.2 (pv h.n 4)).bind fun x158 =>
  (bin Ev .neq 2 (.s x158) (iv .i64 0)).bind fun b159 =>
  gcase b159
  (some (iv .i64 1, p9.2))
  ((load1 p9.2 (pv h.n 5)).bind fun x160 =>
  (bin Ev .neq 9 (.s x160) (.s (.str (⟨#[]⟩)))).bind fun b161 =>
  vcase b161
  (some (iv .i64 1, p9.2))
  ((load1 p9.2 (pv h.n 6)).bind fun x162 =>
  (call Ev Fn.impl_in [.s x162, iv .i64 0, iv .i64 7] p9.2).bind fun p163 =>
  (unNot p163.1).bind fun v164 =>
  vcase v164
  (some (iv .i64 3, p163.2))
  ((load1 p163.2 (pv h.n 0)).bind fun x165 =>
  (call Ev Fn.impl_onRow [.s x165] p163.2).bind fun p166 =>
  vcase p166.1
  ((loadN 4 p166.2 (pv h.n 2)).bind fun c167 =>
  (call Ev Fn.impl_RowFault [.agg c167] p166.2).bind fun p168 =>
  some (p168.1, p168.2))
  (some (iv .i64 0, p166.2)))))
  (vcase (.tup [])
  (some (iv .i64 1, p9.2))
  (vcase (.tup [])
  (some (iv .i64 1, p9.2))
  ((load1 p9.2 (pv h.n 6)).bind fun x169 =>
  (call Ev Fn.impl_in [.s x169, iv .i64 0, iv .i64 7] p9.2).bind fun p170 =>
  (unNot p170.1).bind fun v171 =>
  vcase v171
  (some (iv .i64 3, p170.2))
  ((load1 p170.2 (pv h.n 0)).bind fun x172 =>
  (call Ev Fn.impl_onRow [.s x172] p170.2).bind fun p173 =>
  vcase p173.1
  ((loadN 4 p173.2 (pv h.n 2)).bind fun c174 =>
  (call Ev Fn.impl_RowFault [.agg c174] p173.2).bind fun p175 =>
  some (p175.1, p175.2))
  (some (iv .i64 0, p173.2)))))))
  ((load1 p9.2 (pv h.n 6)).bind fun x176 =>
  (call Ev Fn.impl_in [.s x176, iv .i64 0, iv .i64 7] p9.2).bind fun p177 =>
  (unNot p177.1).bind fun v178 =>
  vcase v178
  (some (iv .i64 3, p177.2))
  ((load1 p177.2 (pv h.n 0)).bind fun x179 =>
  (call Ev Fn.impl_onRow [.s x179] p177.2).bind fun p180 =>
  vcase p180.1
  ((loadN 4 p180.2 (pv h.n 2)).bind fun c181 =>
  (call Ev Fn.impl_RowFault [.agg c181] p180.2).bind fun p182 =>
  some (p182.1, p182.2))
  (some (iv .i64 0, p180.2))))
  (none))
  (vcase (.tup [])
  (vcase (.tup [])
  (some (iv .i64 1, p9.2))
  ((load1 p9.2 (pv h.n 0)).bind fun x183 =>
  (bin Ev .eql 2 (.s x183) (iv .i64 4)).bind fun b184 =>
  gcase b184
  ((load1 p9.2 (pv h.n 4)).bind fun x185 =>
  (bin Ev .neq 2 (.s x185) (iv .i64 0)).bind fun b186 =>
  gcase b186
  (some (iv .i64 1, p9.2))
  ((load1 p9.2 (pv h.n 5)).bind fun x187 =>
  (bin Ev .neq 9 (.s x187) (.s (.str (⟨#[]⟩)))).bind fun b188 =>
  vcase b188
  (some (iv .i64 1, p9.2))
  ((load1 p9.2 (pv h.n 6)).bind fun x189 =>
  (call Ev Fn.impl_in [.s x189, iv .i64 0, iv .i64 7] p9.2).bind fun p190 =>
  (unNot p190.1).bind fun v191 =>
  vcase v191
  (some (iv .i64 3, p190.2))
  ((load1 p190.2 (pv h.n 0)).bind fun x192 =>
  (call Ev Fn.impl_onRow [.s x192] p190.2).bind fun p193 =>
  vcase p193.1
  ((loadN 4 p193.2 (pv h.n 2)).bind fun c194 =>
  (call Ev Fn.impl_RowFault [.agg c194] p193.2).bind fun p195 =>
  some (p195.1, p195.2))
  (some (iv .i64 0, p193.2)))))
  (vcase (.tup [])
  (some (iv .i64 1, p9.2))
  (vcase (.tup [])
  (some (iv .i64 1, p9.2))
  ((load1 p9.2 (pv h.n 6)).bind fun x196 =>
  (call Ev Fn.impl_in [.s x196, iv .i64 0, iv .i64 7] p9.2).bind fun p197 =>
  (unNot p197.1).bind fun v198 =>
  vcase v198
  (some (iv .i64 3, p197.2))
  ((load1 p197.2 (pv h.n 0)).bind fun x199 =>
  (call Ev Fn.impl_onRow [.s x199] p197.2).bind fun p200 =>
  vcase p200.1
  ((loadN 4 p200.2 (pv h.n 2)).bind fun c201 =>
  (call Ev Fn.impl_RowFault [.agg c201] p200.2).bind fun p202 =>
  some (p202.1, p202.2))
  (some (iv .i64 0, p200.2)))))))
  ((load1 p9.2 (pv h.n 6)).bind fun x203 =>
  (call Ev Fn.impl_in [.s x203, iv .i64 0, iv .i64 7] p9.2).bind fun p204 =>
  (unNot p204.1).bind fun v205 =>
  vcase v205
  (some (iv .i64 3, p204.2))
  ((load1 p204.2 (pv h.n 0)).bind fun x206 =>
  (call Ev Fn.impl_onRow [.s x206] p204.2).bind fun p207 =>
  vcase p207.1
  ((loadN 4 p207.2 (pv h.n 2)).bind fun c208 =>
  (call Ev Fn.impl_RowFault [.agg c208] p207.2).bind fun p209 =>
  some (p209.1, p209.2))
  (some (iv .i64 0, p207.2))))
  (none)))
  ((load1 p9.2 (pv h.n 0)).bind fun x210 =>
  (bin Ev .eql 2 (.s x210) (iv .i64 4)).bind fun b211 =>
  gcase b211
  ((load1 p9.2 (pv h.n 4)).bind fun x212 =>
  (bin Ev .neq 2 (.s x212) (iv .i64 0)).bind fun b213 =>
  gcase b213
  (some (iv .i64 1, p9.2))
  ((load1 p9.2 (pv h.n 5)).bind fun x214 =>
  (bin Ev .neq 9 (.s x214) (.s (.str (⟨#[]⟩)))).bind fun b215 =>
  vcase b215
  (some (iv .i64 1, p9.2))
  ((load1 p9.2 (pv h.n 6)).bind fun x216 =>
  (call Ev Fn.impl_in [.s x216, iv .i64 0, iv .i64 7] p9.2).bind fun p217 =>
  (unNot p217.1).bind fun v218 =>
  vcase v218
  (some (iv .i64 3, p217.2))
  ((load1 p217.2 (pv h.n 0)).bind fun x219 =>
  (call Ev Fn.impl_onRow [.s x219] p217.2).bind fun p220 =>
  vcase p220.1
  ((loadN 4 p220.2 (pv h.n 2)).bind fun c221 =>
  (call Ev Fn.impl_RowFault [.agg c221] p220.2).bind fun p222 =>
  some (p222.1, p222.2))
  (some (iv .i64 0, p220.2)))))
  (vcase (.tup [])
  (some (iv .i64 1, p9.2))
  (vcase (.tup [])
  (some (iv .i64 1, p9.2))
  ((load1 p9.2 (pv h.n 6)).bind fun x223 =>
  (call Ev Fn.impl_in [.s x223, iv .i64 0, iv .i64 7] p9.2).bind fun p224 =>
  (unNot p224.1).bind fun v225 =>
  vcase v225
  (some (iv .i64 3, p224.2))
  ((load1 p224.2 (pv h.n 0)).bind fun x226 =>
  (call Ev Fn.impl_onRow [.s x226] p224.2).bind fun p227 =>
  vcase p227.1
  ((loadN 4 p227.2 (pv h.n 2)).bind fun c228 =>
  (call Ev Fn.impl_RowFault [.agg c228] p227.2).bind fun p229 =>
  some (p229.1, p229.2))
  (some (iv .i64 0, p227.2)))))))
  ((load1 p9.2 (pv h.n 6)).bind fun x230 =>
  (call Ev Fn.impl_in [.s x230, iv .i64 0, iv .i64 7] p9.2).bind fun p231 =>
  (unNot p231.1).bind fun v232 =>
  vcase v232
  (some (iv .i64 3, p231.2))
  ((load1 p231.2 (pv h.n 0)).bind fun x233 =>
  (call Ev Fn.impl_onRow [.s x233] p231.2).bind fun p234 =>
  vcase p234.1
  ((loadN 4 p234.2 (pv h.n 2)).bind fun c235 =>
  (call Ev Fn.impl_RowFault [.agg c235] p234.2).bind fun p236 =>
  some (p236.1, p236.2))
  (some (iv .i64 0, p234.2))))
  (none))))
  (vcase (.tup [])
  (vcase (.tup [])
  (some (iv .i64 1, p9.2))
  (vcase (.tup [])
  (some (iv .i64 1, p9.2))
  ((load1 p9.2 (pv h.n 0)).bind fun x237 =>
  (bin Ev .eql 2 (.s x237) (iv .i64 4)).bind fun b238 =>
  gcase b238
  ((load1 p9.2 (pv h.n 4)).bind fun x239 =>
  (bin Ev .neq 2 (.s x239) (iv .i64 0)).bind fun b240 =>
  gcase b240
  (some (iv .i64 1, p9.2))
  ((load1 p9.2 (pv h.n 5)).bind fun x241 =>
  (bin Ev .neq 9 (.s x241) (.s (.str (⟨#[]⟩)))).bind fun b242 =>
  vcase b242
  (some (iv .i64 1, p9.2))
  ((load1 p9.2 (pv h.n 6)).bind fun x243 =>
  (call Ev Fn.impl_in [.s x243, iv .i64 0, iv .i64 7] p9.2).bind fun p244 =>
  (unNot p244.1).bind fun v245 =>
  vcase v245
  (some (iv .i64 3, p244.2))
  ((load1 p244.2 (pv h.n 0)).bind fun x246 =>
  (call Ev Fn.impl_onRow [.s x246] p244.2).bind fun p247 =>
  vcase p247.1
  ((loadN 4 p247.2 (pv h.n 2)).bind fun c248 =>
  (call Ev Fn.impl_RowFault [.agg c248] p247.2).bind fun p249 =>
  some (p249.1, p249.2))
  (some (iv .i64 0, p247.2)))))
  (vcase (.tup [])
  (some (iv .i64 1, p9.2))
  (vcase (.tup [])
  (some (iv .i64 1, p9.2))
  ((load1 p9.2 (pv h.n 6)).bind fun x250 =>
  (call Ev Fn.impl_in [.s x250, iv .i64 0, iv .i64 7] p9.2).bind fun p251 =>
  (unNot p251.1).bind fun v252 =>
  vcase v252
  (some (iv .i64 3, p251.2))
  ((load1 p251.2 (pv h.n 0)).bind fun x253 =>
  (call Ev Fn.impl_onRow [.s x253] p251.2).bind fun p254 =>
  vcase p254.1
  ((loadN 4 p254.2 (pv h.n 2)).bind fun c255 =>
  (call Ev Fn.impl_RowFault [.agg c255] p254.2).bind fun p256 =>
  some (p256.1, p256.2))
  (some (iv .i64 0, p254.2)))))))
  ((load1 p9.2 (pv h.n 6)).bind fun x257 =>
  (call Ev Fn.impl_in [.s x257, iv .i64 0, iv .i64 7] p9.2).bind fun p258 =>
  (unNot p258.1).bind fun v259 =>
  vcase v259
  (some (iv .i64 3, p258.2))
  ((load1 p258.2 (pv h.n 0)).bind fun x260 =>
  (call Ev Fn.impl_onRow [.s x260] p258.2).bind fun p261 =>
  vcase p261.1
  ((loadN 4 p261.2 (pv h.n 2)).bind fun c262 =>
  (call Ev Fn.impl_RowFault [.agg c262] p261.2).bind fun p263 =>
  some (p263.1, p263.2))
  (some (iv .i64 0, p261.2))))
  (none))))
  ((load1 p9.2 (pv h.n 0)).bind fun x264 =>
  (bin Ev .neq 2 (.s x264) (iv .i64 6)).bind fun b265 =>
  gcase b265
  ((load1 p9.2 (pv h.n 6)).bind fun x266 =>
  (bin Ev .neq 2 (.s x266) (iv .i64 0)).bind fun b267 =>
  vcase b267
  (some (iv .i64 1, p9.2))
  ((load1 p9.2 (pv h.n 0)).bind fun x268 =>
  (bin Ev .eql 2 (.s x268) (iv .i64 4)).bind fun b269 =>
  gcase b269
  ((load1 p9.2 (pv h.n 4)).bind fun x270 =>
  (bin Ev .neq 2 (.s x270) (iv .i64 0)).bind fun b271 =>
  gcase b271
  (some (iv .i64 1, p9.2))
  ((load1 p9.2 (pv h.n 5)).bind fun x272 =>
  (bin Ev .neq 9 (.s x272) (.s (.str (⟨#[]⟩)))).bind fun b273 =>
  vcase b273
  (some (iv .i64 1, p9.2))
  ((load1 p9.2 (pv h.n 6)).bind fun x274 =>
  (call Ev Fn.impl_in [.s x274, iv .i64 0, iv .i64 7] p9.2).bind fun p275 =>
  (unNot p275.1).bind fun v276 =>
  vcase v276
  (some (iv .i64 3, p275.2))
  ((load1 p275.2 (pv h.n 0)).bind fun x277 =>
  (call Ev Fn.impl_onRow [.s x277] p275.2).bind fun p278 =>
  vcase p278.1
  ((loadN 4 p278.2 (pv h.n 2)).bind fun c279 =>
  (call Ev Fn.impl_RowFault [.agg c279] p278.2).bind fun p280 =>
  some (p280.1, p280.2))
  (some (iv .i64 0, p278.2)))))
  (vcase (.tup [])
  (some (iv .i64 1, p9.2))
  (vcase (.tup [])
  (some (iv .i64 1, p9.2))
  ((load1 p9.2 (pv h.n 6)).bind fun x281 =>
  (call Ev Fn.impl_in [.s x281, iv .i64 0, iv .i64 7] p9.2).bind fun p282 =>
  (unNot p282.1).bind fun v283 =>
  vcase v283
  (some (iv .i64 3, p282.2))
  ((load1 p282.2 (pv h.n 0)).bind fun x284 =>
  (call Ev Fn.impl_onRow [.s x284] p282.2).bind fun p285 =>
  vcase p285.1
  ((loadN 4 p285.2 (pv h.n 2)).bind fun c286 =>
  (call Ev Fn.impl_RowFault [.agg c286] p285.2).bind fun p287 =>
  some (p287.1, p287.2))
  (some (iv .i64 0, p285.2)))))))
  ((load1 p9.2 (pv h.n 6)).bind fun x288 =>
  (call Ev Fn.impl_in [.s x288, iv .i64 0, iv .i64 7] p9.2).bind fun p289 =>
  (unNot p289.1).bind fun v290 =>
  vcase v290
  (some (iv .i64 3, p289.2))
  ((load1 p289.2 (pv h.n 0)).bind fun x291 =>
  (call Ev Fn.impl_onRow [.s x291] p289.2).bind fun p292 =>
  vcase p292.1
  ((loadN 4 p292.2 (pv h.n 2)).bind fun c293 =>
  (call Ev Fn.impl_RowFault [.agg c293] p292.2).bind fun p294 =>
  some (p294.1, p294.2))
  (some (iv .i64 0, p292.2))))
  (none)))
  ((load1 p9.2 (pv h.n 0)).bind fun x295 =>
  (bin Ev .eql 2 (.s x295) (iv .i64 4)).bind fun b296 =>
  gcase b296
  ((load1 p9.2 (pv h.n 4)).bind fun x297 =>
  (bin Ev .neq 2 (.s x297) (iv .i64 0)).bind fun b298 =>
  gcase b298
  (some (iv .i64 1, p9.2))
  ((load1 p9.2 (pv h.n 5)).bind fun x299 =>
  (bin Ev .neq 9 (.s x299) (.s (.str (⟨#[]⟩)))).bind fun b300 =>
  vcase b300
  (some (iv .i64 1, p9.2))
  ((load1 p9.2 (pv h.n 6)).bind fun x301 =>
  (call Ev Fn.impl_in [.s x301, iv .i64 0, iv .i64 7] p9.2).bind fun p302 =>
  (unNot p302.1).bind fun v303 =>
  vcase v303
  (some (iv .i64 3, p302.2))
  ((load1 p302.2 (pv h.n 0)).bind fun x304 =>
  (call Ev Fn.impl_onRow [.s x304] p302.2).bind fun p305 =>
  vcase p305.1
  ((loadN 4 p305.2 (pv h.n 2)).bind fun c306 =>
  (call Ev Fn.impl_RowFault [.agg c306] p305.2).bind fun p307 =>
  some (p307.1, p307.2))
  (some (iv .i64 0, p305.2)))))
  (vcase (.tup [])
  (some (iv .i64 1, p9.2))
  (vcase (.tup [])
  (some (iv .i64 1, p9.2))
  ((load1 p9.2 (pv h.n 6)).bind fun x308 =>
  (call Ev Fn.impl_in [.s x308, iv .i64 0, iv .i64 7] p9.2).bind fun p309 =>
  (unNot p309.1).bind fun v310 =>
  vcase v310
  (some (iv .i64 3, p309.2))
  ((load1 p309.2 (pv h.n 0)).bind fun x311 =>
  (call Ev Fn.impl_onRow [.s x311] p309.2).bind fun p312 =>
  vcase p312.1
  ((loadN 4 p312.2 (pv h.n 2)).bind fun c313 =>
  (call Ev Fn.impl_RowFault [.agg c313] p312.2).bind fun p314 =>
  some (p314.1, p314.2))
  (some (iv .i64 0, p312.2)))))))
  ((load1 p9.2 (pv h.n 6)).bind fun x315 =>
  (call Ev Fn.impl_in [.s x315, iv .i64 0, iv .i64 7] p9.2).bind fun p316 =>
  (unNot p316.1).bind fun v317 =>
  vcase v317
  (some (iv .i64 3, p316.2))
  ((load1 p316.2 (pv h.n 0)).bind fun x318 =>
  (call Ev Fn.impl_onRow [.s x318] p316.2).bind fun p319 =>
  vcase p319.1
  ((loadN 4 p319.2 (pv h.n 2)).bind fun c320 =>
  (call Ev Fn.impl_RowFault [.agg c320] p319.2).bind fun p321 =>
  some (p321.1, p321.2))
  (some (iv .i64 0, p319.2))))
  (none))
  (vcase (.tup [])
  (vcase (.tup [])
  (some (iv .i64 1, p9.2))
  ((load1 p9.2 (pv h.n 0)).bind fun x322 =>
  (bin Ev .eql 2 (.s x322) (iv .i64 4)).bind fun b323 =>
  gcase b323
  ((load1 p9.2 (pv h.n 4)).bind fun x324 =>
  (bin Ev .neq 2 (.s x324) (iv .i64 0)).bind fun b325 =>
  gcase b325
  (some (iv .i64 1, p9.2))
  ((load1 p9.2 (pv h.n 5)).bind fun x326 =>
  (bin Ev .neq 9 (.s x326) (.s (.str (⟨#[]⟩)))).bind fun b327 =>
  vcase b327
  (some (iv .i64 1, p9.2))
  ((load1 p9.2 (pv h.n 6)).bind fun x328 =>
  (call Ev Fn.impl_in [.s x328, iv .i64 0, iv .i64 7] p9.2).bind fun p329 =>
  (unNot p329.1).bind fun v330 =>
  vcase v330
  (some (iv .i64 3, p329.2))
  ((load1 p329.2 (pv h.n 0)).bind fun x331 =>
  (call Ev Fn.impl_onRow [.s x331] p329.2).bind fun p332 =>
  vcase p332.1
  ((loadN 4 p332.2 (pv h.n 2)).bind fun c333 =>
  (call Ev Fn.impl_RowFault [.agg c333] p332.2).bind fun p334 =>
  some (p334.1, p334.2))
  (some (iv .i64 0, p332.2)))))
  (vcase (.tup [])
  (some (iv .i64 1, p9.2))
  (vcase (.tup [])
  (some (iv .i64 1, p9.2))
  ((load1 p9.2 (pv h.n 6)).bind fun x335 =>
  (call Ev Fn.impl_in [.s x335, iv .i64 0, iv .i64 7] p9.2).bind fun p336 =>
  (unNot p336.1).bind fun v337 =>
  vcase v337
  (some (iv .i64 3, p336.2))
  ((load1 p336.2 (pv h.n 0)).bind fun x338 =>
  (call Ev Fn.impl_onRow [.s x338] p336.2).bind fun p339 =>
  vcase p339.1
  ((loadN 4 p339.2 (pv h.n 2)).bind fun c340 =>
  (call Ev Fn.impl_RowFault [.agg c340] p339.2).bind fun p341 =>
  some (p341.1, p341.2))
  (some (iv .i64 0, p339.2)))))))
  ((load1 p9.2 (pv h.n 6)).bind fun x342 =>
  (call Ev Fn.impl_in [.s x342, iv .i64 0, iv .i64 7] p9.2).bind fun p343 =>
  (unNot p343.1).bind fun v344 =>
  vcase v344
  (some (iv .i64 3, p343.2))
  ((load1 p343.2 (pv h.n 0)).bind fun x345 =>
  (call Ev Fn.impl_onRow [.s x345] p343.2).bind fun p346 =>
  vcase p346.1
  ((loadN 4 p346.2 (pv h.n 2)).bind fun c347 =>
  (call Ev Fn.impl_RowFault [.agg c347] p346.2).bind fun p348 =>
  some (p348.1, p348.2))
  (some (iv .i64 0, p346.2))))
  (none)))
  ((load1 p9.2 (pv h.n 0)).bind fun x349 =>
  (bin Ev .eql 2 (.s x349) (iv .i64 4)).bind fun b350 =>
  gcase b350
  ((load1 p9.2 (pv h.n 4)).bind fun x351 =>
  (bin Ev .neq 2 (.s x351) (iv .i64 0)).bind fun b352 =>
  gcase b352
  (some (iv .i64 1, p9.2))
  ((load1 p9.2 (pv h.n 5)).bind fun x353 =>
  (bin Ev .neq 9 (.s x353) (.s (.str (⟨#[]⟩)))).bind fun b354 =>
  vcase b354
  (some (iv .i64 1, p9.2))
  ((load1 p9.2 (pv h.n 6)).bind fun x355 =>
  (call Ev Fn.impl_in [.s x355, iv .i64 0, iv .i64 7] p9.2).bind fun p356 =>
  (unNot p356.1).bind fun v357 =>
  vcase v357
  (some (iv .i64 3, p356.2))
  ((load1 p356.2 (pv h.n 0)).bind fun x358 =>
  (call Ev Fn.impl_onRow [.s x358] p356.2).bind fun p359 =>
  vcase p359.1
  ((loadN 4 p359.2 (pv h.n 2)).bind fun c360 =>
  (call Ev Fn.impl_RowFault [.agg c360] p359.2).bind fun p361 =>
  some (p361.1, p361.2))
  (some (iv .i64 0, p359.2)))))
  (vcase (.tup [])
  (some (iv .i64 1, p9.2))
  (vcase (.tup [])
  (some (iv .i64 1, p9.2))
  ((load1 p9.2 (pv h.n 6)).bind fun x362 =>
  (call Ev Fn.impl_in [.s x362, iv .i64 0, iv .i64 7] p9.2).bind fun p363 =>
  (unNot p363.1).bind fun v364 =>
  vcase v364
  (some (iv .i64 3, p363.2))
  ((load1 p363.2 (pv h.n 0)).bind fun x365 =>
  (call Ev Fn.impl_onRow [.s x365] p363.2).bind fun p366 =>
  vcase p366.1
  ((loadN 4 p366.2 (pv h.n 2)).bind fun c367 =>
  (call Ev Fn.impl_RowFault [.agg c367] p366.2).bind fun p368 =>
  some (p368.1, p368.2))
  (some (iv .i64 0, p366.2)))))))
  ((load1 p9.2 (pv h.n 6)).bind fun x369 =>
  (call Ev Fn.impl_in [.s x369, iv .i64 0, iv .i64 7] p9.2).bind fun p370 =>
  (unNot p370.1).bind fun v371 =>
  vcase v371
  (some (iv .i64 3, p370.2))
  ((load1 p370.2 (pv h.n 0)).bind fun x372 =>
  (call Ev Fn.impl_onRow [.s x372] p370.2).bind fun p373 =>
  vcase p373.1
  ((loadN 4 p373.2 (pv h.n 2)).bind fun c374 =>
  (call Ev Fn.impl_RowFault [.agg c374] p373.2).bind fun p375 =>
  some (p375.1, p375.2))
  (some (iv .i64 0, p373.2))))
  (none))))))
  (none))
  (none))
  ((load1 ((h).new 0 a0) (pv h.n 0)).bind fun x376 =>
  (bin Ev .eql 2 (.s x376) (iv .i64 9)).bind fun b377 =>
  (load1 ((h).new 0 a0) (pv h.n 0)).bind fun x378 =>
  (call Ev Fn.impl_in [.s x378, iv .i64 1, iv .i64 9] ((h).new 0 a0)).bind fun p379 =>
  (unNot p379.1).bind fun v380 =>
  gcase v380
  (some (iv .i64 1, p379.2))
  (gcase b377
  ((load1 p379.2 (pv h.n 1)).bind fun x381 =>
  (bin Ev .neq 2 (.s x381) (iv .i64 0)).bind fun b382 =>
  gcase b382
  (some (iv .i64 1, p379.2))
  ((load1 p379.2 (pv h.n 0)).bind fun x383 =>
  (call Ev Fn.impl_onRow [.s x383] p379.2).bind fun p384 =>
  (unNot p384.1).bind fun v385 =>
  gcase v385
  ((loadN 4 p384.2 (pv h.n 2)).bind fun c386 =>
  (bin Ev .neq 27 (.agg c386) (.agg [.int .i64 0, .int .i64 0, .int .i64 0, .str ⟨#[]⟩])).bind fun b387 =>
  gcase b387
  (some (iv .i64 1, p384.2))
  ((load1 p384.2 (pv h.n 0)).bind fun x388 =>
  (bin Ev .neq 2 (.s x388) (iv .i64 6)).bind fun b389 =>
  gcase b389
  ((load1 p384.2 (pv h.n 6)).bind fun x390 =>
  (bin Ev .neq 2 (.s x390) (iv .i64 0)).bind fun b391 =>
  vcase b391
  (some (iv .i64 1, p384.2))
  ((load1 p384.2 (pv h.n 0)).bind fun x392 =>
  (bin Ev .eql 2 (.s x392) (iv .i64 4)).bind fun b393 =>
  gcase b393
  ((load1 p384.2 (pv h.n 4)).bind fun x394 =>
  (bin Ev .neq 2 (.s x394) (iv .i64 0)).bind fun b395 =>
  gcase b395
  (some (iv .i64 1, p384.2))
  ((load1 p384.2 (pv h.n 5)).bind fun x396 =>
  (bin Ev .neq 9 (.s x396) (.s (.str (⟨#[]⟩)))).bind fun b397 =>
  vcase b397
  (some (iv .i64 1, p384.2))
  ((unNot b377).bind fun v398 =>
  gcase v398
  ((load1 p384.2 (pv h.n 1)).bind fun x399 =>
  (call Ev Fn.impl_isTx [.s x399] p384.2).bind fun p400 =>
  (unNot p400.1).bind fun v401 =>
  gcase v401
  (some (iv .i64 3, p400.2))
  ((load1 p400.2 (pv h.n 6)).bind fun x402 =>
  (call Ev Fn.impl_in [.s x402, iv .i64 0, iv .i64 7] p400.2).bind fun p403 =>
  (unNot p403.1).bind fun v404 =>
  vcase v404
  (some (iv .i64 3, p403.2))
  ((load1 p403.2 (pv h.n 0)).bind fun x405 =>
  (call Ev Fn.impl_onRow [.s x405] p403.2).bind fun p406 =>
  vcase p406.1
  ((loadN 4 p406.2 (pv h.n 2)).bind fun c407 =>
  (call Ev Fn.impl_RowFault [.agg c407] p406.2).bind fun p408 =>
  some (p408.1, p408.2))
  (some (iv .i64 0, p406.2))))
  (none))
  ((load1 p384.2 (pv h.n 6)).bind fun x409 =>
  (call Ev Fn.impl_in [.s x409, iv .i64 0, iv .i64 7] p384.2).bind fun p410 =>
  (unNot p410.1).bind fun v411 =>
  vcase v411
  (some (iv .i64 3, p410.2))
  ((load1 p410.2 (pv h.n 0)).bind fun x412 =>
  (call Ev Fn.impl_onRow [.s x412] p410.2).bind fun p413 =>
  vcase p413.1
  ((loadN 4 p413.2 (pv h.n 2)).bind fun c414 =>
  (call Ev Fn.impl_RowFault [.agg c414] p413.2).bind fun p415 =>
  some (p415.1, p415.2))
  (some (iv .i64 0, p413.2))))
  (none)))
  (vcase (.tup [])
  (some (iv .i64 1, p384.2))
  (vcase (.tup [])
  (some (iv .i64 1, p384.2))
  ((unNot b377).bind fun v416 =>
  gcase v416
  ((load1 p384.2 (pv h.n 1)).bind fun x417 =>
  (call Ev Fn.impl_isTx [.s x417] p384.2).bind fun p418 =>
  (unNot p418.1).bind fun v419 =>
  gcase v419
  (some (iv .i64 3, p418.2))
  ((load1 p418.2 (pv h.n 6)).bind fun x420 =>
  (call Ev Fn.impl_in [.s x420, iv .i64 0, iv .i64 7] p418.2).bind fun p421 =>
  (unNot p421.1).bind fun v422 =>
  vcase v422
  (some (iv .i64 3, p421.2))
  ((load1 p421.2 (pv h.n 0)).bind fun x423 =>
  (call Ev Fn.impl_onRow [.s x423] p421.2).bind fun p424 =>
  vcase p424.1
  ((loadN 4 p424.2 (pv h.n 2)).bind fun c425 =>
  (call Ev Fn.impl_RowFault [.agg c425] p424.2).bind fun p426 =>
  some (p426.1, p426.2))
  (some (iv .i64 0, p424.2))))
  (none))
  ((load1 p384.2 (pv h.n 6)).bind fun x427 =>
  (call Ev Fn.impl_in [.s x427, iv .i64 0, iv .i64 7] p384.2).bind fun p428 =>
  (unNot p428.1).bind fun v429 =>
  vcase v429
  (some (iv .i64 3, p428.2))
  ((load1 p428.2 (pv h.n 0)).bind fun x430 =>
  (call Ev Fn.impl_onRow [.s x430] p428.2).bind fun p431 =>
  vcase p431.1
  ((loadN 4 p431.2 (pv h.n 2)).bind fun c432 =>
  (call Ev Fn.impl_RowFault [.agg c432] p431.2).bind fun p433 =>
  some (p433.1, p433.2))
  (some (iv .i64 0, p431.2))))
  (none)))))
  ((unNot b377).bind fun v434 =>
  gcase v434
  ((load1 p384.2 (pv h.n 1)).bind fun x435 =>
  (call Ev Fn.impl_isTx [.s x435] p384.2).bind fun p436 =>
  (unNot p436.1).bind fun v437 =>
  gcase v437
  (some (iv .i64 3, p436.2))
  ((load1 p436.2 (pv h.n 6)).bind fun x438 =>
  (call Ev Fn.impl_in [.s x438, iv .i64 0, iv .i64 7] p436.2).bind fun p439 =>
  (unNot p439.1).bind fun v440 =>
  vcase v440
  (some (iv .i64 3, p439.2))
  ((load1 p439.2 (pv h.n 0)).bind fun x441 =>
  (call Ev Fn.impl_onRow [.s x441] p439.2).bind fun p442 =>
  vcase p442.1
  ((loadN 4 p442.2 (pv h.n 2)).bind fun c443 =>
  (call Ev Fn.impl_RowFault [.agg c443] p442.2).bind fun p444 =>
  some (p444.1, p444.2))
  (some (iv .i64 0, p442.2))))
  (none))
  ((load1 p384.2 (pv h.n 6)).bind fun x445 =>
  (call Ev Fn.impl_in [.s x445, iv .i64 0, iv .i64 7] p384.2).bind fun p446 =>
  (unNot p446.1).bind fun v447 =>
  vcase v447
  (some (iv .i64 3, p446.2))
  ((load1 p446.2 (pv h.n 0)).bind fun x448 =>
  (call Ev Fn.impl_onRow [.s x448] p446.2).bind fun p449 =>
  vcase p449.1
  ((loadN 4 p449.2 (pv h.n 2)).bind fun c450 =>
  (call Ev Fn.impl_RowFault [.agg c450] p449.2).bind fun p451 =>
  some (p451.1, p451.2))
  (some (iv .i64 0, p449.2))))
  (none))
  (none)))
  ((load1 p384.2 (pv h.n 0)).bind fun x452 =>
  (bin Ev .eql 2 (.s x452) (iv .i64 4)).bind fun b453 =>
  gcase b453
  ((load1 p384.2 (pv h.n 4)).bind fun x454 =>
  (bin Ev .neq 2 (.s x454) (iv .i64 0)).bind fun b455 =>
  gcase b455
  (some (iv .i64 1, p384.2))
  ((load1 p384.2 (pv h.n 5)).bind fun x456 =>
  (bin Ev .neq 9 (.s x456) (.s (.str (⟨#[]⟩)))).bind fun b457 =>
  vcase b457
  (some (iv .i64 1, p384.2))
  ((unNot b377).bind fun v458 =>
  gcase v458
  ((load1 p384.2 (pv h.n 1)).bind fun x459 =>
  (call Ev Fn.impl_isTx [.s x459] p384.2).bind fun p460 =>
  (unNot p460.1).bind fun v461 =>
  gcase v461
  (some (iv .i64 3, p460.2))
  ((load1 p460.2 (pv h.n 6)).bind fun x462 =>
  (call Ev Fn.impl_in [.s x462, iv .i64 0, iv .i64 7] p460.2).bind fun p463 =>
  (unNot p463.1).bind fun v464 =>
  vcase v464
  (some (iv .i64 3, p463.2))
  ((load1 p463.2 (pv h.n 0)).bind fun x465 =>
  (call Ev Fn.impl_onRow [.s x465] p463.2).bind fun p466 =>
  vcase p466.1
  ((loadN 4 p466.2 (pv h.n 2)).bind fun c467 =>
  (call Ev Fn.impl_RowFault [.agg c467] p466.2).bind fun p468 =>
  some (p468.1, p468.2))
  (some (iv .i64 0, p466.2))))
  (none))
  ((load1 p384.2 (pv h.n 6)).bind fun x469 =>
  (call Ev Fn.impl_in [.s x469, iv .i64 0, iv .i64 7] p384.2).bind fun p470 =>
  (unNot p470.1).bind fun v471 =>
  vcase v471
  (some (iv .i64 3, p470.2))
  ((load1 p470.2 (pv h.n 0)).bind fun x472 =>
  (call Ev Fn.impl_onRow [.s x472] p470.2).bind fun p473 =>
  vcase p473.1
  ((loadN 4 p473.2 (pv h.n 2)).bind fun c474 =>
  (call Ev Fn.impl_RowFault [.agg c474] p473.2).bind fun p475 =>
  some (p475.1, p475.2))
  (some (iv .i64 0, p473.2))))
  (none)))
  (vcase (.tup [])
  (some (iv .i64 1, p384.2))
  (vcase (.tup [])
  (some (iv .i64 1, p384.2))
  ((unNot b377).bind fun v476 =>
  gcase v476
  ((load1 p384.2 (pv h.n 1)).bind fun x477 =>
  (call Ev Fn.impl_isTx [.s x477] p384.2).bind fun p478 =>
  (unNot p478.1).bind fun v479 =>
  gcase v479
  (some (iv .i64 3, p478.2))
  ((load1 p478.2 (pv h.n 6)).bind fun x480 =>
  (call Ev Fn.impl_in [.s x480, iv .i64 0, iv .i64 7] p478.2).bind fun p481 =>
  (unNot p481.1).bind fun v482 =>
  vcase v482
  (some (iv .i64 3, p481.2))
  ((load1 p481.2 (pv h.n 0)).bind fun x483 =>
  (call Ev Fn.impl_onRow [.s x483] p481.2).bind fun p484 =>
  vcase p484.1
  ((loadN 4 p484.2 (pv h.n 2)).bind fun c485 =>
  (call Ev Fn.impl_RowFault [.agg c485] p484.2).bind fun p486 =>
  some (p486.1, p486.2))
  (some (iv .i64 0, p484.2))))
  (none))
  ((load1 p384.2 (pv h.n 6)).bind fun x487 =>
  (call Ev Fn.impl_in [.s x487, iv .i64 0, iv .i64 7] p384.2).bind fun p488 =>
  (unNot p488.1).bind fun v489 =>
  vcase v489
  (some (iv .i64 3, p488.2))
  ((load1 p488.2 (pv h.n 0)).bind fun x490 =>
  (call Ev Fn.impl_onRow [.s x490] p488.2).bind fun p491 =>
  vcase p491.1
  ((loadN 4 p491.2 (pv h.n 2)).bind fun c492 =>
  (call Ev Fn.impl_RowFault [.agg c492] p491.2).bind fun p493 =>
  some (p493.1, p493.2))
  (some (iv .i64 0, p491.2))))
  (none)))))
  ((unNot b377).bind fun v494 =>
  gcase v494
  ((load1 p384.2 (pv h.n 1)).bind fun x495 =>
  (call Ev Fn.impl_isTx [.s x495] p384.2).bind fun p496 =>
  (unNot p496.1).bind fun v497 =>
  gcase v497
  (some (iv .i64 3, p496.2))
  ((load1 p496.2 (pv h.n 6)).bind fun x498 =>
  (call Ev Fn.impl_in [.s x498, iv .i64 0, iv .i64 7] p496.2).bind fun p499 =>
  (unNot p499.1).bind fun v500 =>
  vcase v500
  (some (iv .i64 3, p499.2))
  ((load1 p499.2 (pv h.n 0)).bind fun x501 =>
  (call Ev Fn.impl_onRow [.s x501] p499.2).bind fun p502 =>
  vcase p502.1
  ((loadN 4 p502.2 (pv h.n 2)).bind fun c503 =>
  (call Ev Fn.impl_RowFault [.agg c503] p502.2).bind fun p504 =>
  some (p504.1, p504.2))
  (some (iv .i64 0, p502.2))))
  (none))
  ((load1 p384.2 (pv h.n 6)).bind fun x505 =>
  (call Ev Fn.impl_in [.s x505, iv .i64 0, iv .i64 7] p384.2).bind fun p506 =>
  (unNot p506.1).bind fun v507 =>
  vcase v507
  (some (iv .i64 3, p506.2))
  ((load1 p506.2 (pv h.n 0)).bind fun x508 =>
  (call Ev Fn.impl_onRow [.s x508] p506.2).bind fun p509 =>
  vcase p509.1
  ((loadN 4 p509.2 (pv h.n 2)).bind fun c510 =>
  (call Ev Fn.impl_RowFault [.agg c510] p509.2).bind fun p511 =>
  some (p511.1, p511.2))
  (some (iv .i64 0, p509.2))))
  (none))
  (none))
  (vcase (.tup [])
  (vcase (.tup [])
  (some (iv .i64 1, p384.2))
  ((load1 p384.2 (pv h.n 0)).bind fun x512 =>
  (bin Ev .eql 2 (.s x512) (iv .i64 4)).bind fun b513 =>
  gcase b513
  ((load1 p384.2 (pv h.n 4)).bind fun x514 =>
  (bin Ev .neq 2 (.s x514) (iv .i64 0)).bind fun b515 =>
  gcase b515
  (some (iv .i64 1, p384.2))
  ((load1 p384.2 (pv h.n 5)).bind fun x516 =>
  (bin Ev .neq 9 (.s x516) (.s (.str (⟨#[]⟩)))).bind fun b517 =>
  vcase b517
  (some (iv .i64 1, p384.2))
  ((unNot b377).bind fun v518 =>
  gcase v518
  ((load1 p384.2 (pv h.n 1)).bind fun x519 =>
  (call Ev Fn.impl_isTx [.s x519] p384.2).bind fun p520 =>
  (unNot p520.1).bind fun v521 =>
  gcase v521
  (some (iv .i64 3, p520.2))
  ((load1 p520.2 (pv h.n 6)).bind fun x522 =>
  (call Ev Fn.impl_in [.s x522, iv .i64 0, iv .i64 7] p520.2).bind fun p523 =>
  (unNot p523.1).bind fun v524 =>
  vcase v524
  (some (iv .i64 3, p523.2))
  ((load1 p523.2 (pv h.n 0)).bind fun x525 =>
  (call Ev Fn.impl_onRow [.s x525] p523.2).bind fun p526 =>
  vcase p526.1
  ((loadN 4 p526.2 (pv h.n 2)).bind fun c527 =>
  (call Ev Fn.impl_RowFault [.agg c527] p526.2).bind fun p528 =>
  some (p528.1, p528.2))
  (some (iv .i64 0, p526.2))))
  (none))
  ((load1 p384.2 (pv h.n 6)).bind fun x529 =>
  (call Ev Fn.impl_in [.s x529, iv .i64 0, iv .i64 7] p384.2).bind fun p530 =>
  (unNot p530.1).bind fun v531 =>
  vcase v531
  (some (iv .i64 3, p530.2))
  ((load1 p530.2 (pv h.n 0)).bind fun x532 =>
  (call Ev Fn.impl_onRow [.s x532] p530.2).bind fun p533 =>
  vcase p533.1
  ((loadN 4 p533.2 (pv h.n 2)).bind fun c534 =>
  (call Ev Fn.impl_RowFault [.agg c534] p533.2).bind fun p535 =>
  some (p535.1, p535.2))
  (some (iv .i64 0, p533.2))))
  (none)))
  (vcase (.tup [])
  (some (iv .i64 1, p384.2))
  (vcase (.tup [])
  (some (iv .i64 1, p384.2))
  ((unNot b377).bind fun v536 =>
  gcase v536
  ((load1 p384.2 (pv h.n 1)).bind fun x537 =>
  (call Ev Fn.impl_isTx [.s x537] p384.2).bind fun p538 =>
  (unNot p538.1).bind fun v539 =>
  gcase v539
  (some (iv .i64 3, p538.2))
  ((load1 p538.2 (pv h.n 6)).bind fun x540 =>
  (call Ev Fn.impl_in [.s x540, iv .i64 0, iv .i64 7] p538.2).bind fun p541 =>
  (unNot p541.1).bind fun v542 =>
  vcase v542
  (some (iv .i64 3, p541.2))
  ((load1 p541.2 (pv h.n 0)).bind fun x543 =>
  (call Ev Fn.impl_onRow [.s x543] p541.2).bind fun p544 =>
  vcase p544.1
  ((loadN 4 p544.2 (pv h.n 2)).bind fun c545 =>
  (call Ev Fn.impl_RowFault [.agg c545] p544.2).bind fun p546 =>
  some (p546.1, p546.2))
  (some (iv .i64 0, p544.2))))
  (none))
  ((load1 p384.2 (pv h.n 6)).bind fun x547 =>
  (call Ev Fn.impl_in [.s x547, iv .i64 0, iv .i64 7] p384.2).bind fun p548 =>
  (unNot p548.1).bind fun v549 =>
  vcase v549
  (some (iv .i64 3, p548.2))
  ((load1 p548.2 (pv h.n 0)).bind fun x550 =>
  (call Ev Fn.impl_onRow [.s x550] p548.2).bind fun p551 =>
  vcase p551.1
  ((loadN 4 p551.2 (pv h.n 2)).bind fun c552 =>
  (call Ev Fn.impl_RowFault [.agg c552] p551.2).bind fun p553 =>
  some (p553.1, p553.2))
  (some (iv .i64 0, p551.2))))
  (none)))))
  ((unNot b377).bind fun v554 =>
  gcase v554
  ((load1 p384.2 (pv h.n 1)).bind fun x555 =>
  (call Ev Fn.impl_isTx [.s x555] p384.2).bind fun p556 =>
  (unNot p556.1).bind fun v557 =>
  gcase v557
  (some (iv .i64 3, p556.2))
  ((load1 p556.2 (pv h.n 6)).bind fun x558 =>
  (call Ev Fn.impl_in [.s x558, iv .i64 0, iv .i64 7] p556.2).bind fun p559 =>
  (unNot p559.1).bind fun v560 =>
  vcase v560
  (some (iv .i64 3, p559.2))
  ((load1 p559.2 (pv h.n 0)).bind fun x561 =>
  (call Ev Fn.impl_onRow [.s x561] p559.2).bind fun p562 =>
  vcase p562.1
  ((loadN 4 p562.2 (pv h.n 2)).bind fun c563 =>
  (call Ev Fn.impl_RowFault [.agg c563] p562.2).bind fun p564 =>
  some (p564.1, p564.2))
  (some (iv .i64 0, p562.2))))
  (none))
  ((load1 p384.2 (pv h.n 6)).bind fun x565 =>
  (call Ev Fn.impl_in [.s x565, iv .i64 0, iv .i64 7] p384.2).bind fun p566 =>
  (unNot p566.1).bind fun v567 =>
  vcase v567
  (some (iv .i64 3, p566.2))
  ((load1 p566.2 (pv h.n 0)).bind fun x568 =>
  (call Ev Fn.impl_onRow [.s x568] p566.2).bind fun p569 =>
  vcase p569.1
  ((loadN 4 p569.2 (pv h.n 2)).bind fun c570 =>
  (call Ev Fn.impl_RowFault [.agg c570] p569.2).bind fun p571 =>
  some (p571.1, p571.2))
  (some (iv .i64 0, p569.2))))
  (none))
  (none)))
  ((load1 p384.2 (pv h.n 0)).bind fun x572 =>
  (bin Ev .eql 2 (.s x572) (iv .i64 4)).bind fun b573 =>
  gcase b573
  ((load1 p384.2 (pv h.n 4)).bind fun x574 =>
  (bin Ev .neq 2 (.s x574) (iv .i64 0)).bind fun b575 =>
  gcase b575
  (some (iv .i64 1, p384.2))
  ((load1 p384.2 (pv h.n 5)).bind fun x576 =>
  (bin Ev .neq 9 (.s x576) (.s (.str (⟨#[]⟩)))).bind fun b577 =>
  vcase b577
  (some (iv .i64 1, p384.2))
  ((unNot b377).bind fun v578 =>
  gcase v578
  ((load1 p384.2 (pv h.n 1)).bind fun x579 =>
  (call Ev Fn.impl_isTx [.s x579] p384.2).bind fun p580 =>
  (unNot p580.1).bind fun v581 =>
  gcase v581
  (some (iv .i64 3, p580.2))
  ((load1 p580.2 (pv h.n 6)).bind fun x582 =>
  (call Ev Fn.impl_in [.s x582, iv .i64 0, iv .i64 7] p580.2).bind fun p583 =>
  (unNot p583.1).bind fun v584 =>
  vcase v584
  (some (iv .i64 3, p583.2))
  ((load1 p583.2 (pv h.n 0)).bind fun x585 =>
  (call Ev Fn.impl_onRow [.s x585] p583.2).bind fun p586 =>
  vcase p586.1
  ((loadN 4 p586.2 (pv h.n 2)).bind fun c587 =>
  (call Ev Fn.impl_RowFault [.agg c587] p586.2).bind fun p588 =>
  some (p588.1, p588.2))
  (some (iv .i64 0, p586.2))))
  (none))
  ((load1 p384.2 (pv h.n 6)).bind fun x589 =>
  (call Ev Fn.impl_in [.s x589, iv .i64 0, iv .i64 7] p384.2).bind fun p590 =>
  (unNot p590.1).bind fun v591 =>
  vcase v591
  (some (iv .i64 3, p590.2))
  ((load1 p590.2 (pv h.n 0)).bind fun x592 =>
  (call Ev Fn.impl_onRow [.s x592] p590.2).bind fun p593 =>
  vcase p593.1
  ((loadN 4 p593.2 (pv h.n 2)).bind fun c594 =>
  (call Ev Fn.impl_RowFault [.agg c594] p593.2).bind fun p595 =>
  some (p595.1, p595.2))
  (some (iv .i64 0, p593.2))))
  (none)))
  (vcase (.tup [])
  (some (iv .i64 1, p384.2))
  (vcase (.tup [])
  (some (iv .i64 1, p384.2))
  ((unNot b377).bind fun v596 =>
  gcase v596
  ((load1 p384.2 (pv h.n 1)).bind fun x597 =>
  (call Ev Fn.impl_isTx [.s x597] p384.2).bind fun p598 =>
  (unNot p598.1).bind fun v599 =>
  gcase v599
  (some (iv .i64 3, p598.2))
  ((load1 p598.2 (pv h.n 6)).bind fun x600 =>
  (call Ev Fn.impl_in [.s x600, iv .i64 0, iv .i64 7] p598.2).bind fun p601 =>
  (unNot p601.1).bind fun v602 =>
  vcase v602
  (some (iv .i64 3, p601.2))
  ((load1 p601.2 (pv h.n 0)).bind fun x603 =>
  (call Ev Fn.impl_onRow [.s x603] p601.2).bind fun p604 =>
  vcase p604.1
  ((loadN 4 p604.2 (pv h.n 2)).bind fun c605 =>
  (call Ev Fn.impl_RowFault [.agg c605] p604.2).bind fun p606 =>
  some (p606.1, p606.2))
  (some (iv .i64 0, p604.2))))
  (none))
  ((load1 p384.2 (pv h.n 6)).bind fun x607 =>
  (call Ev Fn.impl_in [.s x607, iv .i64 0, iv .i64 7] p384.2).bind fun p608 =>
  (unNot p608.1).bind fun v609 =>
  vcase v609
  (some (iv .i64 3, p608.2))
  ((load1 p608.2 (pv h.n 0)).bind fun x610 =>
  (call Ev Fn.impl_onRow [.s x610] p608.2).bind fun p611 =>
  vcase p611.1
  ((loadN 4 p611.2 (pv h.n 2)).bind fun c612 =>
  (call Ev Fn.impl_RowFault [.agg c612] p611.2).bind fun p613 =>
  some (p613.1, p613.2))
  (some (iv .i64 0, p611.2))))
  (none)))))
  ((unNot b377).bind fun v614 =>
  gcase v614
  ((load1 p384.2 (pv h.n 1)).bind fun x615 =>
  (call Ev Fn.impl_isTx [.s x615] p384.2).bind fun p616 =>
  (unNot p616.1).bind fun v617 =>
  gcase v617
  (some (iv .i64 3, p616.2))
  ((load1 p616.2 (pv h.n 6)).bind fun x618 =>
  (call Ev Fn.impl_in [.s x618, iv .i64 0, iv .i64 7] p616.2).bind fun p619 =>
  (unNot p619.1).bind fun v620 =>
  vcase v620
  (some (iv .i64 3, p619.2))
  ((load1 p619.2 (pv h.n 0)).bind fun x621 =>
  (call Ev Fn.impl_onRow [.s x621] p619.2).bind fun p622 =>
  vcase p622.1
  ((loadN 4 p622.2 (pv h.n 2)).bind fun c623 =>
  (call Ev Fn.impl_RowFault [.agg c623] p622.2).bind fun p624 =>
  some (p624.1, p624.2))
  (some (iv .i64 0, p622.2))))
  (none))
  ((load1 p384.2 (pv h.n 6)).bind fun x625 =>
  (call Ev Fn.impl_in [.s x625, iv .i64 0, iv .i64 7] p384.2).bind fun p626 =>
  (unNot p626.1).bind fun v627 =>
  vcase v627
  (some (iv .i64 3, p626.2))
  ((load1 p626.2 (pv h.n 0)).bind fun x628 =>
  (call Ev Fn.impl_onRow [.s x628] p626.2).bind fun p629 =>
  vcase p629.1
  ((loadN 4 p629.2 (pv h.n 2)).bind fun c630 =>
  (call Ev Fn.impl_RowFault [.agg c630] p629.2).bind fun p631 =>
  some (p631.1, p631.2))
  (some (iv .i64 0, p629.2))))
  (none))
  (none))))
  (none))
  ((load1 p384.2 (pv h.n 0)).bind fun x632 =>
  (bin Ev .neq 2 (.s x632) (iv .i64 6)).bind fun b633 =>
  gcase b633
  ((load1 p384.2 (pv h.n 6)).bind fun x634 =>
  (bin Ev .neq 2 (.s x634) (iv .i64 0)).bind fun b635 =>
  vcase b635
  (some (iv .i64 1, p384.2))
  ((load1 p384.2 (pv h.n 0)).bind fun x636 =>
  (bin Ev .eql 2 (.s x636) (iv .i64 4)).bind fun b637 =>
  gcase b637
  ((load1 p384.2 (pv h.n 4)).bind fun x638 =>
  (bin Ev .neq 2 (.s x638) (iv .i64 0)).bind fun b639 =>
  gcase b639
  (some (iv .i64 1, p384.2))
  ((load1 p384.2 (pv h.n 5)).bind fun x640 =>
  (bin Ev .neq 9 (.s x640) (.s (.str (⟨#[]⟩)))).bind fun b641 =>
  vcase b641
  (some (iv .i64 1, p384.2))
  ((unNot b377).bind fun v642 =>
  gcase v642
  ((load1 p384.2 (pv h.n 1)).bind fun x643 =>
  (call Ev Fn.impl_isTx [.s x643] p384.2).bind fun p644 =>
  (unNot p644.1).bind fun v645 =>
  gcase v645
  (some (iv .i64 3, p644.2))
  ((load1 p644.2 (pv h.n 6)).bind fun x646 =>
  (call Ev Fn.impl_in [.s x646, iv .i64 0, iv .i64 7] p644.2).bind fun p647 =>
  (unNot p647.1).bind fun v648 =>
  vcase v648
  (some (iv .i64 3, p647.2))
  ((load1 p647.2 (pv h.n 0)).bind fun x649 =>
  (call Ev Fn.impl_onRow [.s x649] p647.2).bind fun p650 =>
  vcase p650.1
  ((loadN 4 p650.2 (pv h.n 2)).bind fun c651 =>
  (call Ev Fn.impl_RowFault [.agg c651] p650.2).bind fun p652 =>
  some (p652.1, p652.2))
  (some (iv .i64 0, p650.2))))
  (none))
  ((load1 p384.2 (pv h.n 6)).bind fun x653 =>
  (call Ev Fn.impl_in [.s x653, iv .i64 0, iv .i64 7] p384.2).bind fun p654 =>
  (unNot p654.1).bind fun v655 =>
  vcase v655
  (some (iv .i64 3, p654.2))
  ((load1 p654.2 (pv h.n 0)).bind fun x656 =>
  (call Ev Fn.impl_onRow [.s x656] p654.2).bind fun p657 =>
  vcase p657.1
  ((loadN 4 p657.2 (pv h.n 2)).bind fun c658 =>
  (call Ev Fn.impl_RowFault [.agg c658] p657.2).bind fun p659 =>
  some (p659.1, p659.2))
  (some (iv .i64 0, p657.2))))
  (none)))
  (vcase (.tup [])
  (some (iv .i64 1, p384.2))
  (vcase (.tup [])
  (some (iv .i64 1, p384.2))
  ((unNot b377).bind fun v660 =>
  gcase v660
  ((load1 p384.2 (pv h.n 1)).bind fun x661 =>
  (call Ev Fn.impl_isTx [.s x661] p384.2).bind fun p662 =>
  (unNot p662.1).bind fun v663 =>
  gcase v663
  (some (iv .i64 3, p662.2))
  ((load1 p662.2 (pv h.n 6)).bind fun x664 =>
  (call Ev Fn.impl_in [.s x664, iv .i64 0, iv .i64 7] p662.2).bind fun p665 =>
  (unNot p665.1).bind fun v666 =>
  vcase v666
  (some (iv .i64 3, p665.2))
  ((load1 p665.2 (pv h.n 0)).bind fun x667 =>
  (call Ev Fn.impl_onRow [.s x667] p665.2).bind fun p668 =>
  vcase p668.1
  ((loadN 4 p668.2 (pv h.n 2)).bind fun c669 =>
  (call Ev Fn.impl_RowFault [.agg c669] p668.2).bind fun p670 =>
  some (p670.1, p670.2))
  (some (iv .i64 0, p668.2))))
  (none))
  ((load1 p384.2 (pv h.n 6)).bind fun x671 =>
  (call Ev Fn.impl_in [.s x671, iv .i64 0, iv .i64 7] p384.2).bind fun p672 =>
  (unNot p672.1).bind fun v673 =>
  vcase v673
  (some (iv .i64 3, p672.2))
  ((load1 p672.2 (pv h.n 0)).bind fun x674 =>
  (call Ev Fn.impl_onRow [.s x674] p672.2).bind fun p675 =>
  vcase p675.1
  ((loadN 4 p675.2 (pv h.n 2)).bind fun c676 =>
  (call Ev Fn.impl_RowFault [.agg c676] p675.2).bind fun p677 =>
  some (p677.1, p677.2))
  (some (iv .i64 0, p675.2))))
  (none)))))
  ((unNot b377).bind fun v678 =>
  gcase v678
  ((load1 p384.2 (pv h.n 1)).bind fun x679 =>
  (call Ev Fn.impl_isTx [.s x679] p384.2).bind fun p680 =>
  (unNot p680.1).bind fun v681 =>
  gcase v681
  (some (iv .i64 3, p680.2))
  ((load1 p680.2 (pv h.n 6)).bind fun x682 =>
  (call Ev Fn.impl_in [.s x682, iv .i64 0, iv .i64 7] p680.2).bind fun p683 =>
  (unNot p683.1).bind fun v684 =>
  vcase v684
  (some (iv .i64 3, p683.2))
  ((load1 p683.2 (pv h.n 0)).bind fun x685 =>
  (call Ev Fn.impl_onRow [.s x685] p683.2).bind fun p686 =>
  vcase p686.1
  ((loadN 4 p686.2 (pv h.n 2)).bind fun c687 =>
  (call Ev Fn.impl_RowFault [.agg c687] p686.2).bind fun p688 =>
  some (p688.1, p688.2))
  (some (iv .i64 0, p686.2))))
  (none))
  ((load1 p384.2 (pv h.n 6)).bind fun x689 =>
  (call Ev Fn.impl_in [.s x689, iv .i64 0, iv .i64 7] p384.2).bind fun p690 =>
  (unNot p690.1).bind fun v691 =>
  vcase v691
  (some (iv .i64 3, p690.2))
  ((load1 p690.2 (pv h.n 0)).bind fun x692 =>
  (call Ev Fn.impl_onRow [.s x692] p690.2).bind fun p693 =>
  vcase p693.1
  ((loadN 4 p693.2 (pv h.n 2)).bind fun c694 =>
  (call Ev Fn.impl_RowFault [.agg c694] p693.2).bind fun p695 =>
  some (p695.1, p695.2))
  (some (iv .i64 0, p693.2))))
  (none))
  (none)))
  ((load1 p384.2 (pv h.n 0)).bind fun x696 =>
  (bin Ev .eql 2 (.s x696) (iv .i64 4)).bind fun b697 =>
  gcase b697
  ((load1 p384.2 (pv h.n 4)).bind fun x698 =>
  (bin Ev .neq 2 (.s x698) (iv .i64 0)).bind fun b699 =>
  gcase b699
  (some (iv .i64 1, p384.2))
  ((load1 p384.2 (pv h.n 5)).bind fun x700 =>
  (bin Ev .neq 9 (.s x700) (.s (.str (⟨#[]⟩)))).bind fun b701 =>
  vcase b701
  (some (iv .i64 1, p384.2))
  ((unNot b377).bind fun v702 =>
  gcase v702
  ((load1 p384.2 (pv h.n 1)).bind fun x703 =>
  (call Ev Fn.impl_isTx [.s x703] p384.2).bind fun p704 =>
  (unNot p704.1).bind fun v705 =>
  gcase v705
  (some (iv .i64 3, p704.2))
  ((load1 p704.2 (pv h.n 6)).bind fun x706 =>
  (call Ev Fn.impl_in [.s x706, iv .i64 0, iv .i64 7] p704.2).bind fun p707 =>
  (unNot p707.1).bind fun v708 =>
  vcase v708
  (some (iv .i64 3, p707.2))
  ((load1 p707.2 (pv h.n 0)).bind fun x709 =>
  (call Ev Fn.impl_onRow [.s x709] p707.2).bind fun p710 =>
  vcase p710.1
  ((loadN 4 p710.2 (pv h.n 2)).bind fun c711 =>
  (call Ev Fn.impl_RowFault [.agg c711] p710.2).bind fun p712 =>
  some (p712.1, p712.2))
  (some (iv .i64 0, p710.2))))
  (none))
  ((load1 p384.2 (pv h.n 6)).bind fun x713 =>
  (call Ev Fn.impl_in [.s x713, iv .i64 0, iv .i64 7] p384.2).bind fun p714 =>
  (unNot p714.1).bind fun v715 =>
  vcase v715
  (some (iv .i64 3, p714.2))
  ((load1 p714.2 (pv h.n 0)).bind fun x716 =>
  (call Ev Fn.impl_onRow [.s x716] p714.2).bind fun p717 =>
  vcase p717.1
  ((loadN 4 p717.2 (pv h.n 2)).bind fun c718 =>
  (call Ev Fn.impl_RowFault [.agg c718] p717.2).bind fun p719 =>
  some (p719.1, p719.2))
  (some (iv .i64 0, p717.2))))
  (none)))
  (vcase (.tup [])
  (some (iv .i64 1, p384.2))
  (vcase (.tup [])
  (some (iv .i64 1, p384.2))
  ((unNot b377).bind fun v720 =>
  gcase v720
  ((load1 p384.2 (pv h.n 1)).bind fun x721 =>
  (call Ev Fn.impl_isTx [.s x721] p384.2).bind fun p722 =>
  (unNot p722.1).bind fun v723 =>
  gcase v723
  (some (iv .i64 3, p722.2))
  ((load1 p722.2 (pv h.n 6)).bind fun x724 =>
  (call Ev Fn.impl_in [.s x724, iv .i64 0, iv .i64 7] p722.2).bind fun p725 =>
  (unNot p725.1).bind fun v726 =>
  vcase v726
  (some (iv .i64 3, p725.2))
  ((load1 p725.2 (pv h.n 0)).bind fun x727 =>
  (call Ev Fn.impl_onRow [.s x727] p725.2).bind fun p728 =>
  vcase p728.1
  ((loadN 4 p728.2 (pv h.n 2)).bind fun c729 =>
  (call Ev Fn.impl_RowFault [.agg c729] p728.2).bind fun p730 =>
  some (p730.1, p730.2))
  (some (iv .i64 0, p728.2))))
  (none))
  ((load1 p384.2 (pv h.n 6)).bind fun x731 =>
  (call Ev Fn.impl_in [.s x731, iv .i64 0, iv .i64 7] p384.2).bind fun p732 =>
  (unNot p732.1).bind fun v733 =>
  vcase v733
  (some (iv .i64 3, p732.2))
  ((load1 p732.2 (pv h.n 0)).bind fun x734 =>
  (call Ev Fn.impl_onRow [.s x734] p732.2).bind fun p735 =>
  vcase p735.1
  ((loadN 4 p735.2 (pv h.n 2)).bind fun c736 =>
  (call Ev Fn.impl_RowFault [.agg c736] p735.2).bind fun p737 =>
  some (p737.1, p737.2))
  (some (iv .i64 0, p735.2))))
  (none)))))
  ((unNot b377).bind fun v738 =>
  gcase v738
  ((load1 p384.2 (pv h.n 1)).bind fun x739 =>
  (call Ev Fn.impl_isTx [.s x739] p384.2).bind fun p740 =>
  (unNot p740.1).bind fun v741 =>
  gcase v741
  (some (iv .i64 3, p740.2))
  ((load1 p740.2 (pv h.n 6)).bind fun x742 =>
  (call Ev Fn.impl_in [.s x742, iv .i64 0, iv .i64 7] p740.2).bind fun p743 =>
  (unNot p743.1).bind fun v744 =>
  vcase v744
  (some (iv .i64 3, p743.2))
  ((load1 p743.2 (pv h.n 0)).bind fun x745 =>
  (call Ev Fn.impl_onRow [.s x745] p743.2).bind fun p746 =>
  vcase p746.1
  ((loadN 4 p746.2 (pv h.n 2)).bind fun c747 =>
  (call Ev Fn.impl_RowFault [.agg c747] p746.2).bind fun p748 =>
  some (p748.1, p748.2))
  (some (iv .i64 0, p746.2))))
  (none))
  ((load1 p384.2 (pv h.n 6)).bind fun x749 =>
  (call Ev Fn.impl_in [.s x749, iv .i64 0, iv .i64 7] p384.2).bind fun p750 =>
  (unNot p750.1).bind fun v751 =>
  vcase v751
  (some (iv .i64 3, p750.2))
  ((load1 p750.2 (pv h.n 0)).bind fun x752 =>
  (call Ev Fn.impl_onRow [.s x752] p750.2).bind fun p753 =>
  vcase p753.1
  ((loadN 4 p753.2 (pv h.n 2)).bind fun c754 =>
  (call Ev Fn.impl_RowFault [.agg c754] p753.2).bind fun p755 =>
  some (p755.1, p755.2))
  (some (iv .i64 0, p753.2))))
  (none))
  (none))
  (vcase (.tup [])
  (vcase (.tup [])
  (some (iv .i64 1, p384.2))
  ((load1 p384.2 (pv h.n 0)).bind fun x756 =>
  (bin Ev .eql 2 (.s x756) (iv .i64 4)).bind fun b757 =>
  gcase b757
  ((load1 p384.2 (pv h.n 4)).bind fun x758 =>
  (bin Ev .neq 2 (.s x758) (iv .i64 0)).bind fun b759 =>
  gcase b759
  (some (iv .i64 1, p384.2))
  ((load1 p384.2 (pv h.n 5)).bind fun x760 =>
  (bin Ev .neq 9 (.s x760) (.s (.str (⟨#[]⟩)))).bind fun b761 =>
  vcase b761
  (some (iv .i64 1, p384.2))
  ((unNot b377).bind fun v762 =>
  gcase v762
  ((load1 p384.2 (pv h.n 1)).bind fun x763 =>
  (call Ev Fn.impl_isTx [.s x763] p384.2).bind fun p764 =>
  (unNot p764.1).bind fun v765 =>
  gcase v765
  (some (iv .i64 3, p764.2))
  ((load1 p764.2 (pv h.n 6)).bind fun x766 =>
  (call Ev Fn.impl_in [.s x766, iv .i64 0, iv .i64 7] p764.2).bind fun p767 =>
  (unNot p767.1).bind fun v768 =>
  vcase v768
  (some (iv .i64 3, p767.2))
  ((load1 p767.2 (pv h.n 0)).bind fun x769 =>
  (call Ev Fn.impl_onRow [.s x769] p767.2).bind fun p770 =>
  vcase p770.1
  ((loadN 4 p770.2 (pv h.n 2)).bind fun c771 =>
  (call Ev Fn.impl_RowFault [.agg c771] p770.2).bind fun p772 =>
  some (p772.1, p772.2))
  (some (iv .i64 0, p770.2))))
  (none))
  ((load1 p384.2 (pv h.n 6)).bind fun x773 =>
  (call Ev Fn.impl_in [.s x773, iv .i64 0, iv .i64 7] p384.2).bind fun p774 =>
  (unNot p774.1).bind fun v775 =>
  vcase v775
  (some (iv .i64 3, p774.2))
  ((load1 p774.2 (pv h.n 0)).bind fun x776 =>
  (call Ev Fn.impl_onRow [.s x776] p774.2).bind fun p777 =>
  vcase p777.1
  ((loadN 4 p777.2 (pv h.n 2)).bind fun c778 =>
  (call Ev Fn.impl_RowFault [.agg c778] p777.2).bind fun p779 =>
  some (p779.1, p779.2))
  (some (iv .i64 0, p777.2))))
  (none)))
  (vcase (.tup [])
  (some (iv .i64 1, p384.2))
  (vcase (.tup [])
  (some (iv .i64 1, p384.2))
  ((unNot b377).bind fun v780 =>
  gcase v780
  ((load1 p384.2 (pv h.n 1)).bind fun x781 =>
  (call Ev Fn.impl_isTx [.s x781] p384.2).bind fun p782 =>
  (unNot p782.1).bind fun v783 =>
  gcase v783
  (some (iv .i64 3, p782.2))
  ((load1 p782.2 (pv h.n 6)).bind fun x784 =>
  (call Ev Fn.impl_in [.s x784, iv .i64 0, iv .i64 7] p782.2).bind fun p785 =>
  (unNot p785.1).bind fun v786 =>
  vcase v786
  (some (iv .i64 3, p785.2))
  ((load1 p785.2 (pv h.n 0)).bind fun x787 =>
  (call Ev Fn.impl_onRow [.s x787] p785.2).bind fun p788 =>
  vcase p788.1
  ((loadN 4 p788.2 (pv h.n 2)).bind fun c789 =>
  (call Ev Fn.impl_RowFault [.agg c789] p788.2).bind fun p790 =>
  some (p790.1, p790.2))
  (some (iv .i64 0, p788.2))))
  (none))
  ((load1 p384.2 (pv h.n 6)).bind fun x791 =>
  (call Ev Fn.impl_in [.s x791, iv .i64 0, iv .i64 7] p384.2).bind fun p792 =>
  (unNot p792.1).bind fun v793 =>
  vcase v793
  (some (iv .i64 3, p792.2))
  ((load1 p792.2 (pv h.n 0)).bind fun x794 =>
  (call Ev Fn.impl_onRow [.s x794] p792.2).bind fun p795 =>
  vcase p795.1
  ((loadN 4 p795.2 (pv h.n 2)).bind fun c796 =>
  (call Ev Fn.impl_RowFault [.agg c796] p795.2).bind fun p797 =>
  some (p797.1, p797.2))
  (some (iv .i64 0, p795.2))))
  (none)))))
  ((unNot b377).bind fun v798 =>
  gcase v798
  ((load1 p384.2 (pv h.n 1)).bind fun x799 =>
  (call Ev Fn.impl_isTx [.s x799] p384.2).bind fun p800 =>
  (unNot p800.1).bind fun v801 =>
  gcase v801
  (some (iv .i64 3, p800.2))
  ((load1 p800.2 (pv h.n 6)).bind fun x802 =>
  (call Ev Fn.impl_in [.s x802, iv .i64 0, iv .i64 7] p800.2).bind fun p803 =>
  (unNot p803.1).bind fun v804 =>
  vcase v804
  (some (iv .i64 3, p803.2))
  ((load1 p803.2 (pv h.n 0)).bind fun x805 =>
  (call Ev Fn.impl_onRow [.s x805] p803.2).bind fun p806 =>
  vcase p806.1
  ((loadN 4 p806.2 (pv h.n 2)).bind fun c807 =>
  (call Ev Fn.impl_RowFault [.agg c807] p806.2).bind fun p808 =>
  some (p808.1, p808.2))
  (some (iv .i64 0, p806.2))))
  (none))
  ((load1 p384.2 (pv h.n 6)).bind fun x809 =>
  (call Ev Fn.impl_in [.s x809, iv .i64 0, iv .i64 7] p384.2).bind fun p810 =>
  (unNot p810.1).bind fun v811 =>
  vcase v811
  (some (iv .i64 3, p810.2))
  ((load1 p810.2 (pv h.n 0)).bind fun x812 =>
  (call Ev Fn.impl_onRow [.s x812] p810.2).bind fun p813 =>
  vcase p813.1
  ((loadN 4 p813.2 (pv h.n 2)).bind fun c814 =>
  (call Ev Fn.impl_RowFault [.agg c814] p813.2).bind fun p815 =>
  some (p815.1, p815.2))
  (some (iv .i64 0, p813.2))))
  (none))
  (none)))
  ((load1 p384.2 (pv h.n 0)).bind fun x816 =>
  (bin Ev .eql 2 (.s x816) (iv .i64 4)).bind fun b817 =>
  gcase b817
  ((load1 p384.2 (pv h.n 4)).bind fun x818 =>
  (bin Ev .neq 2 (.s x818) (iv .i64 0)).bind fun b819 =>
  gcase b819
  (some (iv .i64 1, p384.2))
  ((load1 p384.2 (pv h.n 5)).bind fun x820 =>
  (bin Ev .neq 9 (.s x820) (.s (.str (⟨#[]⟩)))).bind fun b821 =>
  vcase b821
  (some (iv .i64 1, p384.2))
  ((unNot b377).bind fun v822 =>
  gcase v822
  ((load1 p384.2 (pv h.n 1)).bind fun x823 =>
  (call Ev Fn.impl_isTx [.s x823] p384.2).bind fun p824 =>
  (unNot p824.1).bind fun v825 =>
  gcase v825
  (some (iv .i64 3, p824.2))
  ((load1 p824.2 (pv h.n 6)).bind fun x826 =>
  (call Ev Fn.impl_in [.s x826, iv .i64 0, iv .i64 7] p824.2).bind fun p827 =>
  (unNot p827.1).bind fun v828 =>
  vcase v828
  (some (iv .i64 3, p827.2))
  ((load1 p827.2 (pv h.n 0)).bind fun x829 =>
  (call Ev Fn.impl_onRow [.s x829] p827.2).bind fun p830 =>
  vcase p830.1
  ((loadN 4 p830.2 (pv h.n 2)).bind fun c831 =>
  (call Ev Fn.impl_RowFault [.agg c831] p830.2).bind fun p832 =>
  some (p832.1, p832.2))
  (some (iv .i64 0, p830.2))))
  (none))
  ((load1 p384.2 (pv h.n 6)).bind fun x833 =>
  (call Ev Fn.impl_in [.s x833, iv .i64 0, iv .i64 7] p384.2).bind fun p834 =>
  (unNot p834.1).bind fun v835 =>
  vcase v835
  (some (iv .i64 3, p834.2))
  ((load1 p834.2 (pv h.n 0)).bind fun x836 =>
  (call Ev Fn.impl_onRow [.s x836] p834.2).bind fun p837 =>
  vcase p837.1
  ((loadN 4 p837.2 (pv h.n 2)).bind fun c838 =>
  (call Ev Fn.impl_RowFault [.agg c838] p837.2).bind fun p839 =>
  some (p839.1, p839.2))
  (some (iv .i64 0, p837.2))))
  (none)))
  (vcase (.tup [])
  (some (iv .i64 1, p384.2))
  (vcase (.tup [])
  (some (iv .i64 1, p384.2))
  ((unNot b377).bind fun v840 =>
  gcase v840
  ((load1 p384.2 (pv h.n 1)).bind fun x841 =>
  (call Ev Fn.impl_isTx [.s x841] p384.2).bind fun p842 =>
  (unNot p842.1).bind fun v843 =>
  gcase v843
  (some (iv .i64 3, p842.2))
  ((load1 p842.2 (pv h.n 6)).bind fun x844 =>
  (call Ev Fn.impl_in [.s x844, iv .i64 0, iv .i64 7] p842.2).bind fun p845 =>
  (unNot p845.1).bind fun v846 =>
  vcase v846
  (some (iv .i64 3, p845.2))
  ((load1 p845.2 (pv h.n 0)).bind fun x847 =>
  (call Ev Fn.impl_onRow [.s x847] p845.2).bind fun p848 =>
  vcase p848.1
  ((loadN 4 p848.2 (pv h.n 2)).bind fun c849 =>
  (call Ev Fn.impl_RowFault [.agg c849] p848.2).bind fun p850 =>
  some (p850.1, p850.2))
  (some (iv .i64 0, p848.2))))
  (none))
  ((load1 p384.2 (pv h.n 6)).bind fun x851 =>
  (call Ev Fn.impl_in [.s x851, iv .i64 0, iv .i64 7] p384.2).bind fun p852 =>
  (unNot p852.1).bind fun v853 =>
  vcase v853
  (some (iv .i64 3, p852.2))
  ((load1 p852.2 (pv h.n 0)).bind fun x854 =>
  (call Ev Fn.impl_onRow [.s x854] p852.2).bind fun p855 =>
  vcase p855.1
  ((loadN 4 p855.2 (pv h.n 2)).bind fun c856 =>
  (call Ev Fn.impl_RowFault [.agg c856] p855.2).bind fun p857 =>
  some (p857.1, p857.2))
  (some (iv .i64 0, p855.2))))
  (none)))))
  ((unNot b377).bind fun v858 =>
  gcase v858
  ((load1 p384.2 (pv h.n 1)).bind fun x859 =>
  (call Ev Fn.impl_isTx [.s x859] p384.2).bind fun p860 =>
  (unNot p860.1).bind fun v861 =>
  gcase v861
  (some (iv .i64 3, p860.2))
  ((load1 p860.2 (pv h.n 6)).bind fun x862 =>
  (call Ev Fn.impl_in [.s x862, iv .i64 0, iv .i64 7] p860.2).bind fun p863 =>
  (unNot p863.1).bind fun v864 =>
  vcase v864
  (some (iv .i64 3, p863.2))
  ((load1 p863.2 (pv h.n 0)).bind fun x865 =>
  (call Ev Fn.impl_onRow [.s x865] p863.2).bind fun p866 =>
  vcase p866.1
  ((loadN 4 p866.2 (pv h.n 2)).bind fun c867 =>
  (call Ev Fn.impl_RowFault [.agg c867] p866.2).bind fun p868 =>
  some (p868.1, p868.2))
  (some (iv .i64 0, p866.2))))
  (none))
  ((load1 p384.2 (pv h.n 6)).bind fun x869 =>
  (call Ev Fn.impl_in [.s x869, iv .i64 0, iv .i64 7] p384.2).bind fun p870 =>
  (unNot p870.1).bind fun v871 =>
  vcase v871
  (some (iv .i64 3, p870.2))
  ((load1 p870.2 (pv h.n 0)).bind fun x872 =>
  (call Ev Fn.impl_onRow [.s x872] p870.2).bind fun p873 =>
  vcase p873.1
  ((loadN 4 p873.2 (pv h.n 2)).bind fun c874 =>
  (call Ev Fn.impl_RowFault [.agg c874] p873.2).bind fun p875 =>
  some (p875.1, p875.2))
  (some (iv .i64 0, p873.2))))
  (none))
  (none))))
  (vcase (.tup [])
  (vcase (.tup [])
  (some (iv .i64 1, p384.2))
  (vcase (.tup [])
  (some (iv .i64 1, p384.2))
  ((load1 p384.2 (pv h.n 0)).bind fun x876 =>
  (bin Ev .eql 2 (.s x876) (iv .i64 4)).bind fun b877 =>
  gcase b877
  ((load1 p384.2 (pv h.n 4)).bind fun x878 =>
  (bin Ev .neq 2 (.s x878) (iv .i64 0)).bind fun b879 =>
  gcase b879
  (some (iv .i64 1, p384.2))
  ((load1 p384.2 (pv h.n 5)).bind fun x880 =>
  (bin Ev .neq 9 (.s x880) (.s (.str (⟨#[]⟩)))).bind fun b881 =>
  vcase b881
  (some (iv .i64 1, p384.2))
  ((unNot b377).bind fun v882 =>
  gcase v882
  ((load1 p384.2 (pv h.n 1)).bind fun x883 =>
  (call Ev Fn.impl_isTx [.s x883] p384.2).bind fun p884 =>
  (unNot p884.1).bind fun v885 =>
  gcase v885
  (some (iv .i64 3, p884.2))
  ((load1 p884.2 (pv h.n 6)).bind fun x886 =>
  (call Ev Fn.impl_in [.s x886, iv .i64 0, iv .i64 7] p884.2).bind fun p887 =>
  (unNot p887.1).bind fun v888 =>
  vcase v888
  (some (iv .i64 3, p887.2))
  ((load1 p887.2 (pv h.n 0)).bind fun x889 =>
  (call Ev Fn.impl_onRow [.s x889] p887.2).bind fun p890 =>
  vcase p890.1
  ((loadN 4 p890.2 (pv h.n 2)).bind fun c891 =>
  (call Ev Fn.impl_RowFault [.agg c891] p890.2).bind fun p892 =>
  some (p892.1, p892.2))
  (some (iv .i64 0, p890.2))))
  (none))
  ((load1 p384.2 (pv h.n 6)).bind fun x893 =>
  (call Ev Fn.impl_in [.s x893, iv .i64 0, iv .i64 7] p384.2).bind fun p894 =>
  (unNot p894.1).bind fun v895 =>
  vcase v895
  (some (iv .i64 3, p894.2))
  ((load1 p894.2 (pv h.n 0)).bind fun x896 =>
  (call Ev Fn.impl_onRow [.s x896] p894.2).bind fun p897 =>
  vcase p897.1
  ((loadN 4 p897.2 (pv h.n 2)).bind fun c898 =>
  (call Ev Fn.impl_RowFault [.agg c898] p897.2).bind fun p899 =>
  some (p899.1, p899.2))
  (some (iv .i64 0, p897.2))))
  (none)))
  (vcase (.tup [])
  (some (iv .i64 1, p384.2))
  (vcase (.tup [])
  (some (iv .i64 1, p384.2))
  ((unNot b377).bind fun v900 =>
  gcase v900
  ((load1 p384.2 (pv h.n 1)).bind fun x901 =>
  (call Ev Fn.impl_isTx [.s x901] p384.2).bind fun p902 =>
  (unNot p902.1).bind fun v903 =>
  gcase v903
  (some (iv .i64 3, p902.2))
  ((load1 p902.2 (pv h.n 6)).bind fun x904 =>
  (call Ev Fn.impl_in [.s x904, iv .i64 0, iv .i64 7] p902.2).bind fun p905 =>
  (unNot p905.1).bind fun v906 =>
  vcase v906
  (some (iv .i64 3, p905.2))
  ((load1 p905.2 (pv h.n 0)).bind fun x907 =>
  (call Ev Fn.impl_onRow [.s x907] p905.2).bind fun p908 =>
  vcase p908.1
  ((loadN 4 p908.2 (pv h.n 2)).bind fun c909 =>
  (call Ev Fn.impl_RowFault [.agg c909] p908.2).bind fun p910 =>
  some (p910.1, p910.2))
  (some (iv .i64 0, p908.2))))
  (none))
  ((load1 p384.2 (pv h.n 6)).bind fun x911 =>
  (call Ev Fn.impl_in [.s x911, iv .i64 0, iv .i64 7] p384.2).bind fun p912 =>
  (unNot p912.1).bind fun v913 =>
  vcase v913
  (some (iv .i64 3, p912.2))
  ((load1 p912.2 (pv h.n 0)).bind fun x914 =>
  (call Ev Fn.impl_onRow [.s x914] p912.2).bind fun p915 =>
  vcase p915.1
  ((loadN 4 p915.2 (pv h.n 2)).bind fun c916 =>
  (call Ev Fn.impl_RowFault [.agg c916] p915.2).bind fun p917 =>
  some (p917.1, p917.2))
  (some (iv .i64 0, p915.2))))
  (none)))))
  ((unNot b377).bind fun v918 =>
  gcase v918
  ((load1 p384.2 (pv h.n 1)).bind fun x919 =>
  (call Ev Fn.impl_isTx [.s x919] p384.2).bind fun p920 =>
  (unNot p920.1).bind fun v921 =>
  gcase v921
  (some (iv .i64 3, p920.2))
  ((load1 p920.2 (pv h.n 6)).bind fun x922 =>
  (call Ev Fn.impl_in [.s x922, iv .i64 0, iv .i64 7] p920.2).bind fun p923 =>
  (unNot p923.1).bind fun v924 =>
  vcase v924
  (some (iv .i64 3, p923.2))
  ((load1 p923.2 (pv h.n 0)).bind fun x925 =>
  (call Ev Fn.impl_onRow [.s x925] p923.2).bind fun p926 =>
  vcase p926.1
  ((loadN 4 p926.2 (pv h.n 2)).bind fun c927 =>
  (call Ev Fn.impl_RowFault [.agg c927] p926.2).bind fun p928 =>
  some (p928.1, p928.2))
  (some (iv .i64 0, p926.2))))
  (none))
  ((load1 p384.2 (pv h.n 6)).bind fun x929 =>
  (call Ev Fn.impl_in [.s x929, iv .i64 0, iv .i64 7] p384.2).bind fun p930 =>
  (unNot p930.1).bind fun v931 =>
  vcase v931
  (some (iv .i64 3, p930.2))
  ((load1 p930.2 (pv h.n 0)).bind fun x932 =>
  (call Ev Fn.impl_onRow [.s x932] p930.2).bind fun p933 =>
  vcase p933.1
  ((loadN 4 p933.2 (pv h.n 2)).bind fun c934 =>
  (call Ev Fn.impl_RowFault [.agg c934] p933.2).bind fun p935 =>
  some (p935.1, p935.2))
  (some (iv .i64 0, p933.2))))
  (none))
  (none))))
  ((load1 p384.2 (pv h.n 0)).bind fun x936 =>
  (bin Ev .neq 2 (.s x936) (iv .i64 6)).bind fun b937 =>
  gcase b937
  ((load1 p384.2 (pv h.n 6)).bind fun x938 =>
  (bin Ev .neq 2 (.s x938) (iv .i64 0)).bind fun b939 =>
  vcase b939
  (some (iv .i64 1, p384.2))
  ((load1 p384.2 (pv h.n 0)).bind fun x940 =>
  (bin Ev .eql 2 (.s x940) (iv .i64 4)).bind fun b941 =>
  gcase b941
  ((load1 p384.2 (pv h.n 4)).bind fun x942 =>
  (bin Ev .neq 2 (.s x942) (iv .i64 0)).bind fun b943 =>
  gcase b943
  (some (iv .i64 1, p384.2))
  ((load1 p384.2 (pv h.n 5)).bind fun x944 =>
  (bin Ev .neq 9 (.s x944) (.s (.str (⟨#[]⟩)))).bind fun b945 =>
  vcase b945
  (some (iv .i64 1, p384.2))
  ((unNot b377).bind fun v946 =>
  gcase v946
  ((load1 p384.2 (pv h.n 1)).bind fun x947 =>
  (call Ev Fn.impl_isTx [.s x947] p384.2).bind fun p948 =>
  (unNot p948.1).bind fun v949 =>
  gcase v949
  (some (iv .i64 3, p948.2))
  ((load1 p948.2 (pv h.n 6)).bind fun x950 =>
  (call Ev Fn.impl_in [.s x950, iv .i64 0, iv .i64 7] p948.2).bind fun p951 =>
  (unNot p951.1).bind fun v952 =>
  vcase v952
  (some (iv .i64 3, p951.2))
  ((load1 p951.2 (pv h.n 0)).bind fun x953 =>
  (call Ev Fn.impl_onRow [.s x953] p951.2).bind fun p954 =>
  vcase p954.1
  ((loadN 4 p954.2 (pv h.n 2)).bind fun c955 =>
  (call Ev Fn.impl_RowFault [.agg c955] p954.2).bind fun p956 =>
  some (p956.1, p956.2))
  (some (iv .i64 0, p954.2))))
  (none))
  ((load1 p384.2 (pv h.n 6)).bind fun x957 =>
  (call Ev Fn.impl_in [.s x957, iv .i64 0, iv .i64 7] p384.2).bind fun p958 =>
  (unNot p958.1).bind fun v959 =>
  vcase v959
  (some (iv .i64 3, p958.2))
  ((load1 p958.2 (pv h.n 0)).bind fun x960 =>
  (call Ev Fn.impl_onRow [.s x960] p958.2).bind fun p961 =>
  vcase p961.1
  ((loadN 4 p961.2 (pv h.n 2)).bind fun c962 =>
  (call Ev Fn.impl_RowFault [.agg c962] p961.2).bind fun p963 =>
  some (p963.1, p963.2))
  (some (iv .i64 0, p961.2))))
  (none)))
  (vcase (.tup [])
  (some (iv .i64 1, p384.2))
  (vcase (.tup [])
  (some (iv .i64 1, p384.2))
  ((unNot b377).bind fun v964 =>
  gcase v964
  ((load1 p384.2 (pv h.n 1)).bind fun x965 =>
  (call Ev Fn.impl_isTx [.s x965] p384.2).bind fun p966 =>
  (unNot p966.1).bind fun v967 =>
  gcase v967
  (some (iv .i64 3, p966.2))
  ((load1 p966.2 (pv h.n 6)).bind fun x968 =>
  (call Ev Fn.impl_in [.s x968, iv .i64 0, iv .i64 7] p966.2).bind fun p969 =>
  (unNot p969.1).bind fun v970 =>
  vcase v970
  (some (iv .i64 3, p969.2))
  ((load1 p969.2 (pv h.n 0)).bind fun x971 =>
  (call Ev Fn.impl_onRow [.s x971] p969.2).bind fun p972 =>
  vcase p972.1
  ((loadN 4 p972.2 (pv h.n 2)).bind fun c973 =>
  (call Ev Fn.impl_RowFault [.agg c973] p972.2).bind fun p974 =>
  some (p974.1, p974.2))
  (some (iv .i64 0, p972.2))))
  (none))
  ((load1 p384.2 (pv h.n 6)).bind fun x975 =>
  (call Ev Fn.impl_in [.s x975, iv .i64 0, iv .i64 7] p384.2).bind fun p976 =>
  (unNot p976.1).bind fun v977 =>
  vcase v977
  (some (iv .i64 3, p976.2))
  ((load1 p976.2 (pv h.n 0)).bind fun x978 =>
  (call Ev Fn.impl_onRow [.s x978] p976.2).bind fun p979 =>
  vcase p979.1
  ((loadN 4 p979.2 (pv h.n 2)).bind fun c980 =>
  (call Ev Fn.impl_RowFault [.agg c980] p979.2).bind fun p981 =>
  some (p981.1, p981.2))
  (some (iv .i64 0, p979.2))))
  (none)))))
  ((unNot b377).bind fun v982 =>
  gcase v982
  ((load1 p384.2 (pv h.n 1)).bind fun x983 =>
  (call Ev Fn.impl_isTx [.s x983] p384.2).bind fun p984 =>
  (unNot p984.1).bind fun v985 =>
  gcase v985
  (some (iv .i64 3, p984.2))
  ((load1 p984.2 (pv h.n 6)).bind fun x986 =>
  (call Ev Fn.impl_in [.s x986, iv .i64 0, iv .i64 7] p984.2).bind fun p987 =>
  (unNot p987.1).bind fun v988 =>
  vcase v988
  (some (iv .i64 3, p987.2))
  ((load1 p987.2 (pv h.n 0)).bind fun x989 =>
  (call Ev Fn.impl_onRow [.s x989] p987.2).bind fun p990 =>
  vcase p990.1
  ((loadN 4 p990.2 (pv h.n 2)).bind fun c991 =>
  (call Ev Fn.impl_RowFault [.agg c991] p990.2).bind fun p992 =>
  some (p992.1, p992.2))
  (some (iv .i64 0, p990.2))))
  (none))
  ((load1 p384.2 (pv h.n 6)).bind fun x993 =>
  (call Ev Fn.impl_in [.s x993, iv .i64 0, iv .i64 7] p384.2).bind fun p994 =>
  (unNot p994.1).bind fun v995 =>
  vcase v995
  (some (iv .i64 3, p994.2))
  ((load1 p994.2 (pv h.n 0)).bind fun x996 =>
  (call Ev Fn.impl_onRow [.s x996] p994.2).bind fun p997 =>
  vcase p997.1
  ((loadN 4 p997.2 (pv h.n 2)).bind fun c998 =>
  (call Ev Fn.impl_RowFault [.agg c998] p997.2).bind fun p999 =>
  some (p999.1, p999.2))
  (some (iv .i64 0, p997.2))))
  (none))
  (none)))
  ((load1 p384.2 (pv h.n 0)).bind fun x1000 =>
  (bin Ev .eql 2 (.s x1000) (iv .i64 4)).bind fun b1001 =>
  gcase b1001
  ((load1 p384.2 (pv h.n 4)).bind fun x1002 =>
  (bin Ev .neq 2 (.s x1002) (iv .i64 0)).bind fun b1003 =>
  gcase b1003
  (some (iv .i64 1, p384.2))
  ((load1 p384.2 (pv h.n 5)).bind fun x1004 =>
  (bin Ev .neq 9 (.s x1004) (.s (.str (⟨#[]⟩)))).bind fun b1005 =>
  vcase b1005
  (some (iv .i64 1, p384.2))
  ((unNot b377).bind fun v1006 =>
  gcase v1006
  ((load1 p384.2 (pv h.n 1)).bind fun x1007 =>
  (call Ev Fn.impl_isTx [.s x1007] p384.2).bind fun p1008 =>
  (unNot p1008.1).bind fun v1009 =>
  gcase v1009
  (some (iv .i64 3, p1008.2))
  ((load1 p1008.2 (pv h.n 6)).bind fun x1010 =>
  (call Ev Fn.impl_in [.s x1010, iv .i64 0, iv .i64 7] p1008.2).bind fun p1011 =>
  (unNot p1011.1).bind fun v1012 =>
  vcase v1012
  (some (iv .i64 3, p1011.2))
  ((load1 p1011.2 (pv h.n 0)).bind fun x1013 =>
  (call Ev Fn.impl_onRow [.s x1013] p1011.2).bind fun p1014 =>
  vcase p1014.1
  ((loadN 4 p1014.2 (pv h.n 2)).bind fun c1015 =>
  (call Ev Fn.impl_RowFault [.agg c1015] p1014.2).bind fun p1016 =>
  some (p1016.1, p1016.2))
  (some (iv .i64 0, p1014.2))))
  (none))
  ((load1 p384.2 (pv h.n 6)).bind fun x1017 =>
  (call Ev Fn.impl_in [.s x1017, iv .i64 0, iv .i64 7] p384.2).bind fun p1018 =>
  (unNot p1018.1).bind fun v1019 =>
  vcase v1019
  (some (iv .i64 3, p1018.2))
  ((load1 p1018.2 (pv h.n 0)).bind fun x1020 =>
  (call Ev Fn.impl_onRow [.s x1020] p1018.2).bind fun p1021 =>
  vcase p1021.1
  ((loadN 4 p1021.2 (pv h.n 2)).bind fun c1022 =>
  (call Ev Fn.impl_RowFault [.agg c1022] p1021.2).bind fun p1023 =>
  some (p1023.1, p1023.2))
  (some (iv .i64 0, p1021.2))))
  (none)))
  (vcase (.tup [])
  (some (iv .i64 1, p384.2))
  (vcase (.tup [])
  (some (iv .i64 1, p384.2))
  ((unNot b377).bind fun v1024 =>
  gcase v1024
  ((load1 p384.2 (pv h.n 1)).bind fun x1025 =>
  (call Ev Fn.impl_isTx [.s x1025] p384.2).bind fun p1026 =>
  (unNot p1026.1).bind fun v1027 =>
  gcase v1027
  (some (iv .i64 3, p1026.2))
  ((load1 p1026.2 (pv h.n 6)).bind fun x1028 =>
  (call Ev Fn.impl_in [.s x1028, iv .i64 0, iv .i64 7] p1026.2).bind fun p1029 =>
  (unNot p1029.1).bind fun v1030 =>
  vcase v1030
  (some (iv .i64 3, p1029.2))
  ((load1 p1029.2 (pv h.n 0)).bind fun x1031 =>
  (call Ev Fn.impl_onRow [.s x1031] p1029.2).bind fun p1032 =>
  vcase p1032.1
  ((loadN 4 p1032.2 (pv h.n 2)).bind fun c1033 =>
  (call Ev Fn.impl_RowFault [.agg c1033] p1032.2).bind fun p1034 =>
  some (p1034.1, p1034.2))
  (some (iv .i64 0, p1032.2))))
  (none))
  ((load1 p384.2 (pv h.n 6)).bind fun x1035 =>
  (call Ev Fn.impl_in [.s x1035, iv .i64 0, iv .i64 7] p384.2).bind fun p1036 =>
  (unNot p1036.1).bind fun v1037 =>
  vcase v1037
  (some (iv .i64 3, p1036.2))
  ((load1 p1036.2 (pv h.n 0)).bind fun x1038 =>
  (call Ev Fn.impl_onRow [.s x1038] p1036.2).bind fun p1039 =>
  vcase p1039.1
  ((loadN 4 p1039.2 (pv h.n 2)).bind fun c1040 =>
  (call Ev Fn.impl_RowFault [.agg c1040] p1039.2).bind fun p1041 =>
  some (p1041.1, p1041.2))
  (some (iv .i64 0, p1039.2))))
  (none)))))
  ((unNot b377).bind fun v1042 =>
  gcase v1042
  ((load1 p384.2 (pv h.n 1)).bind fun x1043 =>
  (call Ev Fn.impl_isTx [.s x1043] p384.2).bind fun p1044 =>
  (unNot p1044.1).bind fun v1045 =>
  gcase v1045
  (some (iv .i64 3, p1044.2))
  ((load1 p1044.2 (pv h.n 6)).bind fun x1046 =>
  (call Ev Fn.impl_in [.s x1046, iv .i64 0, iv .i64 7] p1044.2).bind fun p1047 =>
  (unNot p1047.1).bind fun v1048 =>
  vcase v1048
  (some (iv .i64 3, p1047.2))
  ((load1 p1047.2 (pv h.n 0)).bind fun x1049 =>
  (call Ev Fn.impl_onRow [.s x1049] p1047.2).bind fun p1050 =>
  vcase p1050.1
  ((loadN 4 p1050.2 (pv h.n 2)).bind fun c1051 =>
  (call Ev Fn.impl_RowFault [.agg c1051] p1050.2).bind fun p1052 =>
  some (p1052.1, p1052.2))
  (some (iv .i64 0, p1050.2))))
  (none))
  ((load1 p384.2 (pv h.n 6)).bind fun x1053 =>
  (call Ev Fn.impl_in [.s x1053, iv .i64 0, iv .i64 7] p384.2).bind fun p1054 =>
  (unNot p1054.1).bind fun v1055 =>
  vcase v1055
  (some (iv .i64 3, p1054.2))
  ((load1 p1054.2 (pv h.n 0)).bind fun x1056 =>
  (call Ev Fn.impl_onRow [.s x1056] p1054.2).bind fun p1057 =>
  vcase p1057.1
  ((loadN 4 p1057.2 (pv h.n 2)).bind fun c1058 =>
  (call Ev Fn.impl_RowFault [.agg c1058] p1057.2).bind fun p1059 =>
  some (p1059.1, p1059.2))
  (some (iv .i64 0, p1057.2))))
  (none))
  (none))
  (vcase (.tup [])
  (vcase (.tup [])
  (some (iv .i64 1, p384.2))
  ((load1 p384.2 (pv h.n 0)).bind fun x1060 =>
  (bin Ev .eql 2 (.s x1060) (iv .i64 4)).bind fun b1061 =>
  gcase b1061
  ((load1 p384.2 (pv h.n 4)).bind fun x1062 =>
  (bin Ev .neq 2 (.s x1062) (iv .i64 0)).bind fun b1063 =>
  gcase b1063
  (some (iv .i64 1, p384.2))
  ((load1 p384.2 (pv h.n 5)).bind fun x1064 =>
  (bin Ev .neq 9 (.s x1064) (.s (.str (⟨#[]⟩)))).bind fun b1065 =>
  vcase b1065
  (some (iv .i64 1, p384.2))
  ((unNot b377).bind fun v1066 =>
  gcase v1066
  ((load1 p384.2 (pv h.n 1)).bind fun x1067 =>
  (call Ev Fn.impl_isTx [.s x1067] p384.2).bind fun p1068 =>
  (unNot p1068.1).bind fun v1069 =>
  gcase v1069
  (some (iv .i64 3, p1068.2))
  ((load1 p1068.2 (pv h.n 6)).bind fun x1070 =>
  (call Ev Fn.impl_in [.s x1070, iv .i64 0, iv .i64 7] p1068.2).bind fun p1071 =>
  (unNot p1071.1).bind fun v1072 =>
  vcase v1072
  (some (iv .i64 3, p1071.2))
  ((load1 p1071.2 (pv h.n 0)).bind fun x1073 =>
  (call Ev Fn.impl_onRow [.s x1073] p1071.2).bind fun p1074 =>
  vcase p1074.1
  ((loadN 4 p1074.2 (pv h.n 2)).bind fun c1075 =>
  (call Ev Fn.impl_RowFault [.agg c1075] p1074.2).bind fun p1076 =>
  some (p1076.1, p1076.2))
  (some (iv .i64 0, p1074.2))))
  (none))
  ((load1 p384.2 (pv h.n 6)).bind fun x1077 =>
  (call Ev Fn.impl_in [.s x1077, iv .i64 0, iv .i64 7] p384.2).bind fun p1078 =>
  (unNot p1078.1).bind fun v1079 =>
  vcase v1079
  (some (iv .i64 3, p1078.2))
  ((load1 p1078.2 (pv h.n 0)).bind fun x1080 =>
  (call Ev Fn.impl_onRow [.s x1080] p1078.2).bind fun p1081 =>
  vcase p1081.1
  ((loadN 4 p1081.2 (pv h.n 2)).bind fun c1082 =>
  (call Ev Fn.impl_RowFault [.agg c1082] p1081.2).bind fun p1083 =>
  some (p1083.1, p1083.2))
  (some (iv .i64 0, p1081.2))))
  (none)))
  (vcase (.tup [])
  (some (iv .i64 1, p384.2))
  (vcase (.tup [])
  (some (iv .i64 1, p384.2))
  ((unNot b377).bind fun v1084 =>
  gcase v1084
  ((load1 p384.2 (pv h.n 1)).bind fun x1085 =>
  (call Ev Fn.impl_isTx [.s x1085] p384.2).bind fun p1086 =>
  (unNot p1086.1).bind fun v1087 =>
  gcase v1087
  (some (iv .i64 3, p1086.2))
  ((load1 p1086.2 (pv h.n 6)).bind fun x1088 =>
  (call Ev Fn.impl_in [.s x1088, iv .i64 0, iv .i64 7] p1086.2).bind fun p1089 =>
  (unNot p1089.1).bind fun v1090 =>
  vcase v1090
  (some (iv .i64 3, p1089.2))
  ((load1 p1089.2 (pv h.n 0)).bind fun x1091 =>
  (call Ev Fn.impl_onRow [.s x1091] p1089.2).bind fun p1092 =>
  vcase p1092.1
  ((loadN 4 p1092.2 (pv h.n 2)).bind fun c1093 =>
  (call Ev Fn.impl_RowFault [.agg c1093] p1092.2).bind fun p1094 =>
  some (p1094.1, p1094.2))
  (some (iv .i64 0, p1092.2))))
  (none))
  ((load1 p384.2 (pv h.n 6)).bind fun x1095 =>
  (call Ev Fn.impl_in [.s x1095, iv .i64 0, iv .i64 7] p384.2).bind fun p1096 =>
  (unNot p1096.1).bind fun v1097 =>
  vcase v1097
  (some (iv .i64 3, p1096.2))
  ((load1 p1096.2 (pv h.n 0)).bind fun x1098 =>
  (call Ev Fn.impl_onRow [.s x1098] p1096.2).bind fun p1099 =>
  vcase p1099.1
  ((loadN 4 p1099.2 (pv h.n 2)).bind fun c1100 =>
  (call Ev Fn.impl_RowFault [.agg c1100] p1099.2).bind fun p1101 =>
  some (p1101.1, p1101.2))
  (some (iv .i64 0, p1099.2))))
  (none)))))
  ((unNot b377).bind fun v1102 =>
  gcase v1102
  ((load1 p384.2 (pv h.n 1)).bind fun x1103 =>
  (call Ev Fn.impl_isTx [.s x1103] p384.2).bind fun p1104 =>
  (unNot p1104.1).bind fun v1105 =>
  gcase v1105
  (some (iv .i64 3, p1104.2))
  ((load1 p1104.2 (pv h.n 6)).bind fun x1106 =>
  (call Ev Fn.impl_in [.s x1106, iv .i64 0, iv .i64 7] p1104.2).bind fun p1107 =>
  (unNot p1107.1).bind fun v1108 =>
  vcase v1108
  (some (iv .i64 3, p1107.2))
  ((load1 p1107.2 (pv h.n 0)).bind fun x1109 =>
  (call Ev Fn.impl_onRow [.s x1109] p1107.2).bind fun p1110 =>
  vcase p1110.1
  ((loadN 4 p1110.2 (pv h.n 2)).bind fun c1111 =>
  (call Ev Fn.impl_RowFault [.agg c1111] p1110.2).bind fun p1112 =>
  some (p1112.1, p1112.2))
  (some (iv .i64 0, p1110.2))))
  (none))
  ((load1 p384.2 (pv h.n 6)).bind fun x1113 =>
  (call Ev Fn.impl_in [.s x1113, iv .i64 0, iv .i64 7] p384.2).bind fun p1114 =>
  (unNot p1114.1).bind fun v1115 =>
  vcase v1115
  (some (iv .i64 3, p1114.2))
  ((load1 p1114.2 (pv h.n 0)).bind fun x1116 =>
  (call Ev Fn.impl_onRow [.s x1116] p1114.2).bind fun p1117 =>
  vcase p1117.1
  ((loadN 4 p1117.2 (pv h.n 2)).bind fun c1118 =>
  (call Ev Fn.impl_RowFault [.agg c1118] p1117.2).bind fun p1119 =>
  some (p1119.1, p1119.2))
  (some (iv .i64 0, p1117.2))))
  (none))
  (none)))
  ((load1 p384.2 (pv h.n 0)).bind fun x1120 =>
  (bin Ev .eql 2 (.s x1120) (iv .i64 4)).bind fun b1121 =>
  gcase b1121
  ((load1 p384.2 (pv h.n 4)).bind fun x1122 =>
  (bin Ev .neq 2 (.s x1122) (iv .i64 0)).bind fun b1123 =>
  gcase b1123
  (some (iv .i64 1, p384.2))
  ((load1 p384.2 (pv h.n 5)).bind fun x1124 =>
  (bin Ev .neq 9 (.s x1124) (.s (.str (⟨#[]⟩)))).bind fun b1125 =>
  vcase b1125
  (some (iv .i64 1, p384.2))
  ((unNot b377).bind fun v1126 =>
  gcase v1126
  ((load1 p384.2 (pv h.n 1)).bind fun x1127 =>
  (call Ev Fn.impl_isTx [.s x1127] p384.2).bind fun p1128 =>
  (unNot p1128.1).bind fun v1129 =>
  gcase v1129
  (some (iv .i64 3, p1128.2))
  ((load1 p1128.2 (pv h.n 6)).bind fun x1130 =>
  (call Ev Fn.impl_in [.s x1130, iv .i64 0, iv .i64 7] p1128.2).bind fun p1131 =>
  (unNot p1131.1).bind fun v1132 =>
  vcase v1132
  (some (iv .i64 3, p1131.2))
  ((load1 p1131.2 (pv h.n 0)).bind fun x1133 =>
  (call Ev Fn.impl_onRow [.s x1133] p1131.2).bind fun p1134 =>
  vcase p1134.1
  ((loadN 4 p1134.2 (pv h.n 2)).bind fun c1135 =>
  (call Ev Fn.impl_RowFault [.agg c1135] p1134.2).bind fun p1136 =>
  some (p1136.1, p1136.2))
  (some (iv .i64 0, p1134.2))))
  (none))
  ((load1 p384.2 (pv h.n 6)).bind fun x1137 =>
  (call Ev Fn.impl_in [.s x1137, iv .i64 0, iv .i64 7] p384.2).bind fun p1138 =>
  (unNot p1138.1).bind fun v1139 =>
  vcase v1139
  (some (iv .i64 3, p1138.2))
  ((load1 p1138.2 (pv h.n 0)).bind fun x1140 =>
  (call Ev Fn.impl_onRow [.s x1140] p1138.2).bind fun p1141 =>
  vcase p1141.1
  ((loadN 4 p1141.2 (pv h.n 2)).bind fun c1142 =>
  (call Ev Fn.impl_RowFault [.agg c1142] p1141.2).bind fun p1143 =>
  some (p1143.1, p1143.2))
  (some (iv .i64 0, p1141.2))))
  (none)))
  (vcase (.tup [])
  (some (iv .i64 1, p384.2))
  (vcase (.tup [])
  (some (iv .i64 1, p384.2))
  ((unNot b377).bind fun v1144 =>
  gcase v1144
  ((load1 p384.2 (pv h.n 1)).bind fun x1145 =>
  (call Ev Fn.impl_isTx [.s x1145] p384.2).bind fun p1146 =>
  (unNot p1146.1).bind fun v1147 =>
  gcase v1147
  (some (iv .i64 3, p1146.2))
  ((load1 p1146.2 (pv h.n 6)).bind fun x1148 =>
  (call Ev Fn.impl_in [.s x1148, iv .i64 0, iv .i64 7] p1146.2).bind fun p1149 =>
  (unNot p1149.1).bind fun v1150 =>
  vcase v1150
  (some (iv .i64 3, p1149.2))
  ((load1 p1149.2 (pv h.n 0)).bind fun x1151 =>
  (call Ev Fn.impl_onRow [.s x1151] p1149.2).bind fun p1152 =>
  vcase p1152.1
  ((loadN 4 p1152.2 (pv h.n 2)).bind fun c1153 =>
  (call Ev Fn.impl_RowFault [.agg c1153] p1152.2).bind fun p1154 =>
  some (p1154.1, p1154.2))
  (some (iv .i64 0, p1152.2))))
  (none))
  ((load1 p384.2 (pv h.n 6)).bind fun x1155 =>
  (call Ev Fn.impl_in [.s x1155, iv .i64 0, iv .i64 7] p384.2).bind fun p1156 =>
  (unNot p1156.1).bind fun v1157 =>
  vcase v1157
  (some (iv .i64 3, p1156.2))
  ((load1 p1156.2 (pv h.n 0)).bind fun x1158 =>
  (call Ev Fn.impl_onRow [.s x1158] p1156.2).bind fun p1159 =>
  vcase p1159.1
  ((loadN 4 p1159.2 (pv h.n 2)).bind fun c1160 =>
  (call Ev Fn.impl_RowFault [.agg c1160] p1159.2).bind fun p1161 =>
  some (p1161.1, p1161.2))
  (some (iv .i64 0, p1159.2))))
  (none)))))
  ((unNot b377).bind fun v1162 =>
  gcase v1162
  ((load1 p384.2 (pv h.n 1)).bind fun x1163 =>
  (call Ev Fn.impl_isTx [.s x1163] p384.2).bind fun p1164 =>
  (unNot p1164.1).bind fun v1165 =>
  gcase v1165
  (some (iv .i64 3, p1164.2))
  ((load1 p1164.2 (pv h.n 6)).bind fun x1166 =>
  (call Ev Fn.impl_in [.s x1166, iv .i64 0, iv .i64 7] p1164.2).bind fun p1167 =>
  (unNot p1167.1).bind fun v1168 =>
  vcase v1168
  (some (iv .i64 3, p1167.2))
  ((load1 p1167.2 (pv h.n 0)).bind fun x1169 =>
  (call Ev Fn.impl_onRow [.s x1169] p1167.2).bind fun p1170 =>
  vcase p1170.1
  ((loadN 4 p1170.2 (pv h.n 2)).bind fun c1171 =>
  (call Ev Fn.impl_RowFault [.agg c1171] p1170.2).bind fun p1172 =>
  some (p1172.1, p1172.2))
  (some (iv .i64 0, p1170.2))))
  (none))
  ((load1 p384.2 (pv h.n 6)).bind fun x1173 =>
  (call Ev Fn.impl_in [.s x1173, iv .i64 0, iv .i64 7] p384.2).bind fun p1174 =>
  (unNot p1174.1).bind fun v1175 =>
  vcase v1175
  (some (iv .i64 3, p1174.2))
  ((load1 p1174.2 (pv h.n 0)).bind fun x1176 =>
  (call Ev Fn.impl_onRow [.s x1176] p1174.2).bind fun p1177 =>
  vcase p1177.1
  ((loadN 4 p1177.2 (pv h.n 2)).bind fun c1178 =>
  (call Ev Fn.impl_RowFault [.agg c1178] p1177.2).bind fun p1179 =>
  some (p1179.1, p1179.2))
  (some (iv .i64 0, p1177.2))))
  (none))
  (none))))))
  (none))
  ((load1 p379.2 (pv h.n 0)).bind fun x1180 =>
  (call Ev Fn.impl_onRow [.s x1180] p379.2).bind fun p1181 =>
  (unNot p1181.1).bind fun v1182 =>
  gcase v1182
  ((loadN 4 p1181.2 (pv h.n 2)).bind fun c1183 =>
  (bin Ev .neq 27 (.agg c1183) (.agg [.int .i64 0, .int .i64 0, .int .i64 0, .str ⟨#[]⟩])).bind fun b1184 =>
  gcase b1184
  (some (iv .i64 1, p1181.2))
  ((load1 p1181.2 (pv h.n 0)).bind fun x1185 =>
  (bin Ev .neq 2 (.s x1185) (iv .i64 6)).bind fun b1186 =>
  gcase b1186
  ((load1 p1181.2 (pv h.n 6)).bind fun x1187 =>
  (bin Ev .neq 2 (.s x1187) (iv .i64 0)).bind fun b1188 =>
  vcase b1188
  (some (iv .i64 1, p1181.2))
  ((load1 p1181.2 (pv h.n 0)).bind fun x1189 =>
  (bin Ev .eql 2 (.s x1189) (iv .i64 4)).bind fun b1190 =>
  gcase b1190
  ((load1 p1181.2 (pv h.n 4)).bind fun x1191 =>
  (bin Ev .neq 2 (.s x1191) (iv .i64 0)).bind fun b1192 =>
  gcase b1192
  (some (iv .i64 1, p1181.2))
  ((load1 p1181.2 (pv h.n 5)).bind fun x1193 =>
  (bin Ev .neq 9 (.s x1193) (.s (.str (⟨#[]⟩)))).bind fun b1194 =>
  vcase b1194
  (some (iv .i64 1, p1181.2))
  ((unNot b377).bind fun v1195 =>
  gcase v1195
  ((load1 p1181.2 (pv h.n 1)).bind fun x1196 =>
  (call Ev Fn.impl_isTx [.s x1196] p1181.2).bind fun p1197 =>
  (unNot p1197.1).bind fun v1198 =>
  gcase v1198
  (some (iv .i64 3, p1197.2))
  ((load1 p1197.2 (pv h.n 6)).bind fun x1199 =>
  (call Ev Fn.impl_in [.s x1199, iv .i64 0, iv .i64 7] p1197.2).bind fun p1200 =>
  (unNot p1200.1).bind fun v1201 =>
  vcase v1201
  (some (iv .i64 3, p1200.2))
  ((load1 p1200.2 (pv h.n 0)).bind fun x1202 =>
  (call Ev Fn.impl_onRow [.s x1202] p1200.2).bind fun p1203 =>
  vcase p1203.1
  ((loadN 4 p1203.2 (pv h.n 2)).bind fun c1204 =>
  (call Ev Fn.impl_RowFault [.agg c1204] p1203.2).bind fun p1205 =>
  some (p1205.1, p1205.2))
  (some (iv .i64 0, p1203.2))))
  (none))
  ((load1 p1181.2 (pv h.n 6)).bind fun x1206 =>
  (call Ev Fn.impl_in [.s x1206, iv .i64 0, iv .i64 7] p1181.2).bind fun p1207 =>
  (unNot p1207.1).bind fun v1208 =>
  vcase v1208
  (some (iv .i64 3, p1207.2))
  ((load1 p1207.2 (pv h.n 0)).bind fun x1209 =>
  (call Ev Fn.impl_onRow [.s x1209] p1207.2).bind fun p1210 =>
  vcase p1210.1
  ((loadN 4 p1210.2 (pv h.n 2)).bind fun c1211 =>
  (call Ev Fn.impl_RowFault [.agg c1211] p1210.2).bind fun p1212 =>
  some (p1212.1, p1212.2))
  (some (iv .i64 0, p1210.2))))
  (none)))
  (vcase (.tup [])
  (some (iv .i64 1, p1181.2))
  (vcase (.tup [])
  (some (iv .i64 1, p1181.2))
  ((unNot b377).bind fun v1213 =>
  gcase v1213
  ((load1 p1181.2 (pv h.n 1)).bind fun x1214 =>
  (call Ev Fn.impl_isTx [.s x1214] p1181.2).bind fun p1215 =>
  (unNot p1215.1).bind fun v1216 =>
  gcase v1216
  (some (iv .i64 3, p1215.2))
  ((load1 p1215.2 (pv h.n 6)).bind fun x1217 =>
  (call Ev Fn.impl_in [.s x1217, iv .i64 0, iv .i64 7] p1215.2).bind fun p1218 =>
  (unNot p1218.1).bind fun v1219 =>
  vcase v1219
  (some (iv .i64 3, p1218.2))
  ((load1 p1218.2 (pv h.n 0)).bind fun x1220 =>
  (call Ev Fn.impl_onRow [.s x1220] p1218.2).bind fun p1221 =>
  vcase p1221.1
  ((loadN 4 p1221.2 (pv h.n 2)).bind fun c1222 =>
  (call Ev Fn.impl_RowFault [.agg c1222] p1221.2).bind fun p1223 =>
  some (p1223.1, p1223.2))
  (some (iv .i64 0, p1221.2))))
  (none))
  ((load1 p1181.2 (pv h.n 6)).bind fun x1224 =>
  (call Ev Fn.impl_in [.s x1224, iv .i64 0, iv .i64 7] p1181.2).bind fun p1225 =>
  (unNot p1225.1).bind fun v1226 =>
  vcase v1226
  (some (iv .i64 3, p1225.2))
  ((load1 p1225.2 (pv h.n 0)).bind fun x1227 =>
  (call Ev Fn.impl_onRow [.s x1227] p1225.2).bind fun p1228 =>
  vcase p1228.1
  ((loadN 4 p1228.2 (pv h.n 2)).bind fun c1229 =>
  (call Ev Fn.impl_RowFault [.agg c1229] p1228.2).bind fun p1230 =>
  some (p1230.1, p1230.2))
  (some (iv .i64 0, p1228.2))))
  (none)))))
  ((unNot b377).bind fun v1231 =>
  gcase v1231
  ((load1 p1181.2 (pv h.n 1)).bind fun x1232 =>
  (call Ev Fn.impl_isTx [.s x1232] p1181.2).bind fun p1233 =>
  (unNot p1233.1).bind fun v1234 =>
  gcase v1234
  (some (iv .i64 3, p1233.2))
  ((load1 p1233.2 (pv h.n 6)).bind fun x1235 =>
  (call Ev Fn.impl_in [.s x1235, iv .i64 0, iv .i64 7] p1233.2).bind fun p1236 =>
  (unNot p1236.1).bind fun v1237 =>
  vcase v1237
  (some (iv .i64 3, p1236.2))
  ((load1 p1236.2 (pv h.n 0)).bind fun x1238 =>
  (call Ev Fn.impl_onRow [.s x1238] p1236.2).bind fun p1239 =>
  vcase p1239.1
  ((loadN 4 p1239.2 (pv h.n 2)).bind fun c1240 =>
  (call Ev Fn.impl_RowFault [.agg c1240] p1239.2).bind fun p1241 =>
  some (p1241.1, p1241.2))
  (some (iv .i64 0, p1239.2))))
  (none))
  ((load1 p1181.2 (pv h.n 6)).bind fun x1242 =>
  (call Ev Fn.impl_in [.s x1242, iv .i64 0, iv .i64 7] p1181.2).bind fun p1243 =>
  (unNot p1243.1).bind fun v1244 =>
  vcase v1244
  (some (iv .i64 3, p1243.2))
  ((load1 p1243.2 (pv h.n 0)).bind fun x1245 =>
  (call Ev Fn.impl_onRow [.s x1245] p1243.2).bind fun p1246 =>
  vcase p1246.1
  ((loadN 4 p1246.2 (pv h.n 2)).bind fun c1247 =>
  (call Ev Fn.impl_RowFault [.agg c1247] p1246.2).bind fun p1248 =>
  some (p1248.1, p1248.2))
  (some (iv .i64 0, p1246.2))))
  (none))
  (none)))
  ((load1 p1181.2 (pv h.n 0)).bind fun x1249 =>
  (bin Ev .eql 2 (.s x1249) (iv .i64 4)).bind fun b1250 =>
  gcase b1250
  ((load1 p1181.2 (pv h.n 4)).bind fun x1251 =>
  (bin Ev .neq 2 (.s x1251) (iv .i64 0)).bind fun b1252 =>
  gcase b1252
  (some (iv .i64 1, p1181.2))
  ((load1 p1181.2 (pv h.n 5)).bind fun x1253 =>
  (bin Ev .neq 9 (.s x1253) (.s (.str (⟨#[]⟩)))).bind fun b1254 =>
  vcase b1254
  (some (iv .i64 1, p1181.2))
  ((unNot b377).bind fun v1255 =>
  gcase v1255
  ((load1 p1181.2 (pv h.n 1)).bind fun x1256 =>
  (call Ev Fn.impl_isTx [.s x1256] p1181.2).bind fun p1257 =>
  (unNot p1257.1).bind fun v1258 =>
  gcase v1258
  (some (iv .i64 3, p1257.2))
  ((load1 p1257.2 (pv h.n 6)).bind fun x1259 =>
  (call Ev Fn.impl_in [.s x1259, iv .i64 0, iv .i64 7] p1257.2).bind fun p1260 =>
  (unNot p1260.1).bind fun v1261 =>
  vcase v1261
  (some (iv .i64 3, p1260.2))
  ((load1 p1260.2 (pv h.n 0)).bind fun x1262 =>
  (call Ev Fn.impl_onRow [.s x1262] p1260.2).bind fun p1263 =>
  vcase p1263.1
  ((loadN 4 p1263.2 (pv h.n 2)).bind fun c1264 =>
  (call Ev Fn.impl_RowFault [.agg c1264] p1263.2).bind fun p1265 =>
  some (p1265.1, p1265.2))
  (some (iv .i64 0, p1263.2))))
  (none))
  ((load1 p1181.2 (pv h.n 6)).bind fun x1266 =>
  (call Ev Fn.impl_in [.s x1266, iv .i64 0, iv .i64 7] p1181.2).bind fun p1267 =>
  (unNot p1267.1).bind fun v1268 =>
  vcase v1268
  (some (iv .i64 3, p1267.2))
  ((load1 p1267.2 (pv h.n 0)).bind fun x1269 =>
  (call Ev Fn.impl_onRow [.s x1269] p1267.2).bind fun p1270 =>
  vcase p1270.1
  ((loadN 4 p1270.2 (pv h.n 2)).bind fun c1271 =>
  (call Ev Fn.impl_RowFault [.agg c1271] p1270.2).bind fun p1272 =>
  some (p1272.1, p1272.2))
  (some (iv .i64 0, p1270.2))))
  (none)))
  (vcase (.tup [])
  (some (iv .i64 1, p1181.2))
  (vcase (.tup [])
  (some (iv .i64 1, p1181.2))
  ((unNot b377).bind fun v1273 =>
  gcase v1273
  ((load1 p1181.2 (pv h.n 1)).bind fun x1274 =>
  (call Ev Fn.impl_isTx [.s x1274] p1181.2).bind fun p1275 =>
  (unNot p1275.1).bind fun v1276 =>
  gcase v1276
  (some (iv .i64 3, p1275.2))
  ((load1 p1275.2 (pv h.n 6)).bind fun x1277 =>
  (call Ev Fn.impl_in [.s x1277, iv .i64 0, iv .i64 7] p1275.2).bind fun p1278 =>
  (unNot p1278.1).bind fun v1279 =>
  vcase v1279
  (some (iv .i64 3, p1278.2))
  ((load1 p1278.2 (pv h.n 0)).bind fun x1280 =>
  (call Ev Fn.impl_onRow [.s x1280] p1278.2).bind fun p1281 =>
  vcase p1281.1
  ((loadN 4 p1281.2 (pv h.n 2)).bind fun c1282 =>
  (call Ev Fn.impl_RowFault [.agg c1282] p1281.2).bind fun p1283 =>
  some (p1283.1, p1283.2))
  (some (iv .i64 0, p1281.2))))
  (none))
  ((load1 p1181.2 (pv h.n 6)).bind fun x1284 =>
  (call Ev Fn.impl_in [.s x1284, iv .i64 0, iv .i64 7] p1181.2).bind fun p1285 =>
  (unNot p1285.1).bind fun v1286 =>
  vcase v1286
  (some (iv .i64 3, p1285.2))
  ((load1 p1285.2 (pv h.n 0)).bind fun x1287 =>
  (call Ev Fn.impl_onRow [.s x1287] p1285.2).bind fun p1288 =>
  vcase p1288.1
  ((loadN 4 p1288.2 (pv h.n 2)).bind fun c1289 =>
  (call Ev Fn.impl_RowFault [.agg c1289] p1288.2).bind fun p1290 =>
  some (p1290.1, p1290.2))
  (some (iv .i64 0, p1288.2))))
  (none)))))
  ((unNot b377).bind fun v1291 =>
  gcase v1291
  ((load1 p1181.2 (pv h.n 1)).bind fun x1292 =>
  (call Ev Fn.impl_isTx [.s x1292] p1181.2).bind fun p1293 =>
  (unNot p1293.1).bind fun v1294 =>
  gcase v1294
  (some (iv .i64 3, p1293.2))
  ((load1 p1293.2 (pv h.n 6)).bind fun x1295 =>
  (call Ev Fn.impl_in [.s x1295, iv .i64 0, iv .i64 7] p1293.2).bind fun p1296 =>
  (unNot p1296.1).bind fun v1297 =>
  vcase v1297
  (some (iv .i64 3, p1296.2))
  ((load1 p1296.2 (pv h.n 0)).bind fun x1298 =>
  (call Ev Fn.impl_onRow [.s x1298] p1296.2).bind fun p1299 =>
  vcase p1299.1
  ((loadN 4 p1299.2 (pv h.n 2)).bind fun c1300 =>
  (call Ev Fn.impl_RowFault [.agg c1300] p1299.2).bind fun p1301 =>
  some (p1301.1, p1301.2))
  (some (iv .i64 0, p1299.2))))
  (none))
  ((load1 p1181.2 (pv h.n 6)).bind fun x1302 =>
  (call Ev Fn.impl_in [.s x1302, iv .i64 0, iv .i64 7] p1181.2).bind fun p1303 =>
  (unNot p1303.1).bind fun v1304 =>
  vcase v1304
  (some (iv .i64 3, p1303.2))
  ((load1 p1303.2 (pv h.n 0)).bind fun x1305 =>
  (call Ev Fn.impl_onRow [.s x1305] p1303.2).bind fun p1306 =>
  vcase p1306.1
  ((loadN 4 p1306.2 (pv h.n 2)).bind fun c1307 =>
  (call Ev Fn.impl_RowFault [.agg c1307] p1306.2).bind fun p1308 =>
  some (p1308.1, p1308.2))
  (some (iv .i64 0, p1306.2))))
  (none))
  (none))
  (vcase (.tup [])
  (vcase (.tup [])
  (some (iv .i64 1, p1181.2))
  ((load1 p1181.2 (pv h.n 0)).bind fun x1309 =>
  (bin Ev .eql 2 (.s x1309) (iv .i64 4)).bind fun b1310 =>
  gcase b1310
  ((load1 p1181.2 (pv h.n 4)).bind fun x1311 =>
  (bin Ev .neq 2 (.s x1311) (iv .i64 0)).bind fun b1312 =>
  gcase b1312
  (some (iv .i64 1, p1181.2))
  ((load1 p1181.2 (pv h.n 5)).bind fun x1313 =>
  (bin Ev .neq 9 (.s x1313) (.s (.str (⟨#[]⟩)))).bind fun b1314 =>
  vcase b1314
  (some (iv .i64 1, p1181.2))
  ((unNot b377).bind fun v1315 =>
  gcase v1315
  ((load1 p1181.2 (pv h.n 1)).bind fun x1316 =>
  (call Ev Fn.impl_isTx [.s x1316] p1181.2).bind fun p1317 =>
  (unNot p1317.1).bind fun v1318 =>
  gcase v1318
  (some (iv .i64 3, p1317.2))
  ((load1 p1317.2 (pv h.n 6)).bind fun x1319 =>
  (call Ev Fn.impl_in [.s x1319, iv .i64 0, iv .i64 7] p1317.2).bind fun p1320 =>
  (unNot p1320.1).bind fun v1321 =>
  vcase v1321
  (some (iv .i64 3, p1320.2))
  ((load1 p1320.2 (pv h.n 0)).bind fun x1322 =>
  (call Ev Fn.impl_onRow [.s x1322] p1320.2).bind fun p1323 =>
  vcase p1323.1
  ((loadN 4 p1323.2 (pv h.n 2)).bind fun c1324 =>
  (call Ev Fn.impl_RowFault [.agg c1324] p1323.2).bind fun p1325 =>
  some (p1325.1, p1325.2))
  (some (iv .i64 0, p1323.2))))
  (none))
  ((load1 p1181.2 (pv h.n 6)).bind fun x1326 =>
  (call Ev Fn.impl_in [.s x1326, iv .i64 0, iv .i64 7] p1181.2).bind fun p1327 =>
  (unNot p1327.1).bind fun v1328 =>
  vcase v1328
  (some (iv .i64 3, p1327.2))
  ((load1 p1327.2 (pv h.n 0)).bind fun x1329 =>
  (call Ev Fn.impl_onRow [.s x1329] p1327.2).bind fun p1330 =>
  vcase p1330.1
  ((loadN 4 p1330.2 (pv h.n 2)).bind fun c1331 =>
  (call Ev Fn.impl_RowFault [.agg c1331] p1330.2).bind fun p1332 =>
  some (p1332.1, p1332.2))
  (some (iv .i64 0, p1330.2))))
  (none)))
  (vcase (.tup [])
  (some (iv .i64 1, p1181.2))
  (vcase (.tup [])
  (some (iv .i64 1, p1181.2))
  ((unNot b377).bind fun v1333 =>
  gcase v1333
  ((load1 p1181.2 (pv h.n 1)).bind fun x1334 =>
  (call Ev Fn.impl_isTx [.s x1334] p1181.2).bind fun p1335 =>
  (unNot p1335.1).bind fun v1336 =>
  gcase v1336
  (some (iv .i64 3, p1335.2))
  ((load1 p1335.2 (pv h.n 6)).bind fun x1337 =>
  (call Ev Fn.impl_in [.s x1337, iv .i64 0, iv .i64 7] p1335.2).bind fun p1338 =>
  (unNot p1338.1).bind fun v1339 =>
  vcase v1339
  (some (iv .i64 3, p1338.2))
  ((load1 p1338.2 (pv h.n 0)).bind fun x1340 =>
  (call Ev Fn.impl_onRow [.s x1340] p1338.2).bind fun p1341 =>
  vcase p1341.1
  ((loadN 4 p1341.2 (pv h.n 2)).bind fun c1342 =>
  (call Ev Fn.impl_RowFault [.agg c1342] p1341.2).bind fun p1343 =>
  some (p1343.1, p1343.2))
  (some (iv .i64 0, p1341.2))))
  (none))
  ((load1 p1181.2 (pv h.n 6)).bind fun x1344 =>
  (call Ev Fn.impl_in [.s x1344, iv .i64 0, iv .i64 7] p1181.2).bind fun p1345 =>
  (unNot p1345.1).bind fun v1346 =>
  vcase v1346
  (some (iv .i64 3, p1345.2))
  ((load1 p1345.2 (pv h.n 0)).bind fun x1347 =>
  (call Ev Fn.impl_onRow [.s x1347] p1345.2).bind fun p1348 =>
  vcase p1348.1
  ((loadN 4 p1348.2 (pv h.n 2)).bind fun c1349 =>
  (call Ev Fn.impl_RowFault [.agg c1349] p1348.2).bind fun p1350 =>
  some (p1350.1, p1350.2))
  (some (iv .i64 0, p1348.2))))
  (none)))))
  ((unNot b377).bind fun v1351 =>
  gcase v1351
  ((load1 p1181.2 (pv h.n 1)).bind fun x1352 =>
  (call Ev Fn.impl_isTx [.s x1352] p1181.2).bind fun p1353 =>
  (unNot p1353.1).bind fun v1354 =>
  gcase v1354
  (some (iv .i64 3, p1353.2))
  ((load1 p1353.2 (pv h.n 6)).bind fun x1355 =>
  (call Ev Fn.impl_in [.s x1355, iv .i64 0, iv .i64 7] p1353.2).bind fun p1356 =>
  (unNot p1356.1).bind fun v1357 =>
  vcase v1357
  (some (iv .i64 3, p1356.2))
  ((load1 p1356.2 (pv h.n 0)).bind fun x1358 =>
  (call Ev Fn.impl_onRow [.s x1358] p1356.2).bind fun p1359 =>
  vcase p1359.1
  ((loadN 4 p1359.2 (pv h.n 2)).bind fun c1360 =>
  (call Ev Fn.impl_RowFault [.agg c1360] p1359.2).bind fun p1361 =>
  some (p1361.1, p1361.2))
  (some (iv .i64 0, p1359.2))))
  (none))
  ((load1 p1181.2 (pv h.n 6)).bind fun x1362 =>
  (call Ev Fn.impl_in [.s x1362, iv .i64 0, iv .i64 7] p1181.2).bind fun p1363 =>
  (unNot p1363.1).bind fun v1364 =>
  vcase v1364
  (some (iv .i64 3, p1363.2))
  ((load1 p1363.2 (pv h.n 0)).bind fun x1365 =>
  (call Ev Fn.impl_onRow [.s x1365] p1363.2).bind fun p1366 =>
  vcase p1366.1
  ((loadN 4 p1366.2 (pv h.n 2)).bind fun c1367 =>
  (call Ev Fn.impl_RowFault [.agg c1367] p1366.2).bind fun p1368 =>
  some (p1368.1, p1368.2))
  (some (iv .i64 0, p1366.2))))
  (none))
  (none)))
  ((load1 p1181.2 (pv h.n 0)).bind fun x1369 =>
  (bin Ev .eql 2 (.s x1369) (iv .i64 4)).bind fun b1370 =>
  gcase b1370
  ((load1 p1181.2 (pv h.n 4)).bind fun x1371 =>
  (bin Ev .neq 2 (.s x1371) (iv .i64 0)).bind fun b1372 =>
  gcase b1372
  (some (iv .i64 1, p1181.2))
  ((load1 p1181.2 (pv h.n 5)).bind fun x1373 =>
  (bin Ev .neq 9 (.s x1373) (.s (.str (⟨#[]⟩)))).bind fun b1374 =>
  vcase b1374
  (some (iv .i64 1, p1181.2))
  ((unNot b377).bind fun v1375 =>
  gcase v1375
  ((load1 p1181.2 (pv h.n 1)).bind fun x1376 =>
  (call Ev Fn.impl_isTx [.s x1376] p1181.2).bind fun p1377 =>
  (unNot p1377.1).bind fun v1378 =>
  gcase v1378
  (some (iv .i64 3, p1377.2))
  ((load1 p1377.2 (pv h.n 6)).bind fun x1379 =>
  (call Ev Fn.impl_in [.s x1379, iv .i64 0, iv .i64 7] p1377.2).bind fun p1380 =>
  (unNot p1380.1).bind fun v1381 =>
  vcase v1381
  (some (iv .i64 3, p1380.2))
  ((load1 p1380.2 (pv h.n 0)).bind fun x1382 =>
  (call Ev Fn.impl_onRow [.s x1382] p1380.2).bind fun p1383 =>
  vcase p1383.1
  ((loadN 4 p1383.2 (pv h.n 2)).bind fun c1384 =>
  (call Ev Fn.impl_RowFault [.agg c1384] p1383.2).bind fun p1385 =>
  some (p1385.1, p1385.2))
  (some (iv .i64 0, p1383.2))))
  (none))
  ((load1 p1181.2 (pv h.n 6)).bind fun x1386 =>
  (call Ev Fn.impl_in [.s x1386, iv .i64 0, iv .i64 7] p1181.2).bind fun p1387 =>
  (unNot p1387.1).bind fun v1388 =>
  vcase v1388
  (some (iv .i64 3, p1387.2))
  ((load1 p1387.2 (pv h.n 0)).bind fun x1389 =>
  (call Ev Fn.impl_onRow [.s x1389] p1387.2).bind fun p1390 =>
  vcase p1390.1
  ((loadN 4 p1390.2 (pv h.n 2)).bind fun c1391 =>
  (call Ev Fn.impl_RowFault [.agg c1391] p1390.2).bind fun p1392 =>
  some (p1392.1, p1392.2))
  (some (iv .i64 0, p1390.2))))
  (none)))
  (vcase (.tup [])
  (some (iv .i64 1, p1181.2))
  (vcase (.tup [])
  (some (iv .i64 1, p1181.2))
  ((unNot b377).bind fun v1393 =>
  gcase v1393
  ((load1 p1181.2 (pv h.n 1)).bind fun x1394 =>
  (call Ev Fn.impl_isTx [.s x1394] p1181.2).bind fun p1395 =>
  (unNot p1395.1).bind fun v1396 =>
  gcase v1396
  (some (iv .i64 3, p1395.2))
  ((load1 p1395.2 (pv h.n 6)).bind fun x1397 =>
  (call Ev Fn.impl_in [.s x1397, iv .i64 0, iv .i64 7] p1395.2).bind fun p1398 =>
  (unNot p1398.1).bind fun v1399 =>
  vcase v1399
  (some (iv .i64 3, p1398.2))
  ((load1 p1398.2 (pv h.n 0)).bind fun x1400 =>
  (call Ev Fn.impl_onRow [.s x1400] p1398.2).bind fun p1401 =>
  vcase p1401.1
  ((loadN 4 p1401.2 (pv h.n 2)).bind fun c1402 =>
  (call Ev Fn.impl_RowFault [.agg c1402] p1401.2).bind fun p1403 =>
  some (p1403.1, p1403.2))
  (some (iv .i64 0, p1401.2))))
  (none))
  ((load1 p1181.2 (pv h.n 6)).bind fun x1404 =>
  (call Ev Fn.impl_in [.s x1404, iv .i64 0, iv .i64 7] p1181.2).bind fun p1405 =>
  (unNot p1405.1).bind fun v1406 =>
  vcase v1406
  (some (iv .i64 3, p1405.2))
  ((load1 p1405.2 (pv h.n 0)).bind fun x1407 =>
  (call Ev Fn.impl_onRow [.s x1407] p1405.2).bind fun p1408 =>
  vcase p1408.1
  ((loadN 4 p1408.2 (pv h.n 2)).bind fun c1409 =>
  (call Ev Fn.impl_RowFault [.agg c1409] p1408.2).bind fun p1410 =>
  some (p1410.1, p1410.2))
  (some (iv .i64 0, p1408.2))))
  (none)))))
  ((unNot b377).bind fun v1411 =>
  gcase v1411
  ((load1 p1181.2 (pv h.n 1)).bind fun x1412 =>
  (call Ev Fn.impl_isTx [.s x1412] p1181.2).bind fun p1413 =>
  (unNot p1413.1).bind fun v1414 =>
  gcase v1414
  (some (iv .i64 3, p1413.2))
  ((load1 p1413.2 (pv h.n 6)).bind fun x1415 =>
  (call Ev Fn.impl_in [.s x1415, iv .i64 0, iv .i64 7] p1413.2).bind fun p1416 =>
  (unNot p1416.1).bind fun v1417 =>
  vcase v1417
  (some (iv .i64 3, p1416.2))
  ((load1 p1416.2 (pv h.n 0)).bind fun x1418 =>
  (call Ev Fn.impl_onRow [.s x1418] p1416.2).bind fun p1419 =>
  vcase p1419.1
  ((loadN 4 p1419.2 (pv h.n 2)).bind fun c1420 =>
  (call Ev Fn.impl_RowFault [.agg c1420] p1419.2).bind fun p1421 =>
  some (p1421.1, p1421.2))
  (some (iv .i64 0, p1419.2))))
  (none))
  ((load1 p1181.2 (pv h.n 6)).bind fun x1422 =>
  (call Ev Fn.impl_in [.s x1422, iv .i64 0, iv .i64 7] p1181.2).bind fun p1423 =>
  (unNot p1423.1).bind fun v1424 =>
  vcase v1424
  (some (iv .i64 3, p1423.2))
  ((load1 p1423.2 (pv h.n 0)).bind fun x1425 =>
  (call Ev Fn.impl_onRow [.s x1425] p1423.2).bind fun p1426 =>
  vcase p1426.1
  ((loadN 4 p1426.2 (pv h.n 2)).bind fun c1427 =>
  (call Ev Fn.impl_RowFault [.agg c1427] p1426.2).bind fun p1428 =>
  some (p1428.1, p1428.2))
  (some (iv .i64 0, p1426.2))))
  (none))
  (none))))
  (none))
  ((load1 p1181.2 (pv h.n 0)).bind fun x1429 =>
  (bin Ev .neq 2 (.s x1429) (iv .i64 6)).bind fun b1430 =>
  gcase b1430
  ((load1 p1181.2 (pv h.n 6)).bind fun x1431 =>
  (bin Ev .neq 2 (.s x1431) (iv .i64 0)).bind fun b1432 =>
  vcase b1432
  (some (iv .i64 1, p1181.2))
  ((load1 p1181.2 (pv h.n 0)).bind fun x1433 =>
  (bin Ev .eql 2 (.s x1433) (iv .i64 4)).bind fun b1434 =>
  gcase b1434
  ((load1 p1181.2 (pv h.n 4)).bind fun x1435 =>
  (bin Ev .neq 2 (.s x1435) (iv .i64 0)).bind fun b1436 =>
  gcase b1436
  (some (iv .i64 1, p1181.2))
  ((load1 p1181.2 (pv h.n 5)).bind fun x1437 =>
  (bin Ev .neq 9 (.s x1437) (.s (.str (⟨#[]⟩)))).bind fun b1438 =>
  vcase b1438
  (some (iv .i64 1, p1181.2))
  ((unNot b377).bind fun v1439 =>
  gcase v1439
  ((load1 p1181.2 (pv h.n 1)).bind fun x1440 =>
  (call Ev Fn.impl_isTx [.s x1440] p1181.2).bind fun p1441 =>
  (unNot p1441.1).bind fun v1442 =>
  gcase v1442
  (some (iv .i64 3, p1441.2))
  ((load1 p1441.2 (pv h.n 6)).bind fun x1443 =>
  (call Ev Fn.impl_in [.s x1443, iv .i64 0, iv .i64 7] p1441.2).bind fun p1444 =>
  (unNot p1444.1).bind fun v1445 =>
  vcase v1445
  (some (iv .i64 3, p1444.2))
  ((load1 p1444.2 (pv h.n 0)).bind fun x1446 =>
  (call Ev Fn.impl_onRow [.s x1446] p1444.2).bind fun p1447 =>
  vcase p1447.1
  ((loadN 4 p1447.2 (pv h.n 2)).bind fun c1448 =>
  (call Ev Fn.impl_RowFault [.agg c1448] p1447.2).bind fun p1449 =>
  some (p1449.1, p1449.2))
  (some (iv .i64 0, p1447.2))))
  (none))
  ((load1 p1181.2 (pv h.n 6)).bind fun x1450 =>
  (call Ev Fn.impl_in [.s x1450, iv .i64 0, iv .i64 7] p1181.2).bind fun p1451 =>
  (unNot p1451.1).bind fun v1452 =>
  vcase v1452
  (some (iv .i64 3, p1451.2))
  ((load1 p1451.2 (pv h.n 0)).bind fun x1453 =>
  (call Ev Fn.impl_onRow [.s x1453] p1451.2).bind fun p1454 =>
  vcase p1454.1
  ((loadN 4 p1454.2 (pv h.n 2)).bind fun c1455 =>
  (call Ev Fn.impl_RowFault [.agg c1455] p1454.2).bind fun p1456 =>
  some (p1456.1, p1456.2))
  (some (iv .i64 0, p1454.2))))
  (none)))
  (vcase (.tup [])
  (some (iv .i64 1, p1181.2))
  (vcase (.tup [])
  (some (iv .i64 1, p1181.2))
  ((unNot b377).bind fun v1457 =>
  gcase v1457
  ((load1 p1181.2 (pv h.n 1)).bind fun x1458 =>
  (call Ev Fn.impl_isTx [.s x1458] p1181.2).bind fun p1459 =>
  (unNot p1459.1).bind fun v1460 =>
  gcase v1460
  (some (iv .i64 3, p1459.2))
  ((load1 p1459.2 (pv h.n 6)).bind fun x1461 =>
  (call Ev Fn.impl_in [.s x1461, iv .i64 0, iv .i64 7] p1459.2).bind fun p1462 =>
  (unNot p1462.1).bind fun v1463 =>
  vcase v1463
  (some (iv .i64 3, p1462.2))
  ((load1 p1462.2 (pv h.n 0)).bind fun x1464 =>
  (call Ev Fn.impl_onRow [.s x1464] p1462.2).bind fun p1465 =>
  vcase p1465.1
  ((loadN 4 p1465.2 (pv h.n 2)).bind fun c1466 =>
  (call Ev Fn.impl_RowFault [.agg c1466] p1465.2).bind fun p1467 =>
  some (p1467.1, p1467.2))
  (some (iv .i64 0, p1465.2))))
  (none))
  ((load1 p1181.2 (pv h.n 6)).bind fun x1468 =>
  (call Ev Fn.impl_in [.s x1468, iv .i64 0, iv .i64 7] p1181.2).bind fun p1469 =>
  (unNot p1469.1).bind fun v1470 =>
  vcase v1470
  (some (iv .i64 3, p1469.2))
  ((load1 p1469.2 (pv h.n 0)).bind fun x1471 =>
  (call Ev Fn.impl_onRow [.s x1471] p1469.2).bind fun p1472 =>
  vcase p1472.1
  ((loadN 4 p1472.2 (pv h.n 2)).bind fun c1473 =>
  (call Ev Fn.impl_RowFault [.agg c1473] p1472.2).bind fun p1474 =>
  some (p1474.1, p1474.2))
  (some (iv .i64 0, p1472.2))))
  (none)))))
  ((unNot b377).bind fun v1475 =>
  gcase v1475
  ((load1 p1181.2 (pv h.n 1)).bind fun x1476 =>
  (call Ev Fn.impl_isTx [.s x1476] p1181.2).bind fun p1477 =>
  (unNot p1477.1).bind fun v1478 =>
  gcase v1478
  (some (iv .i64 3, p1477.2))
  ((load1 p1477.2 (pv h.n 6)).bind fun x1479 =>
  (call Ev Fn.impl_in [.s x1479, iv .i64 0, iv .i64 7] p1477.2).bind fun p1480 =>
  (unNot p1480.1).bind fun v1481 =>
  vcase v1481
  (some (iv .i64 3, p1480.2))
  ((load1 p1480.2 (pv h.n 0)).bind fun x1482 =>
  (call Ev Fn.impl_onRow [.s x1482] p1480.2).bind fun p1483 =>
  vcase p1483.1
  ((loadN 4 p1483.2 (pv h.n 2)).bind fun c1484 =>
  (call Ev Fn.impl_RowFault [.agg c1484] p1483.2).bind fun p1485 =>
  some (p1485.1, p1485.2))
  (some (iv .i64 0, p1483.2))))
  (none))
  ((load1 p1181.2 (pv h.n 6)).bind fun x1486 =>
  (call Ev Fn.impl_in [.s x1486, iv .i64 0, iv .i64 7] p1181.2).bind fun p1487 =>
  (unNot p1487.1).bind fun v1488 =>
  vcase v1488
  (some (iv .i64 3, p1487.2))
  ((load1 p1487.2 (pv h.n 0)).bind fun x1489 =>
  (call Ev Fn.impl_onRow [.s x1489] p1487.2).bind fun p1490 =>
  vcase p1490.1
  ((loadN 4 p1490.2 (pv h.n 2)).bind fun c1491 =>
  (call Ev Fn.impl_RowFault [.agg c1491] p1490.2).bind fun p1492 =>
  some (p1492.1, p1492.2))
  (some (iv .i64 0, p1490.2))))
  (none))
  (none)))
  ((load1 p1181.2 (pv h.n 0)).bind fun x1493 =>
  (bin Ev .eql 2 (.s x1493) (iv .i64 4)).bind fun b1494 =>
  gcase b1494
  ((load1 p1181.2 (pv h.n 4)).bind fun x1495 =>
  (bin Ev .neq 2 (.s x1495) (iv .i64 0)).bind fun b1496 =>
  gcase b1496
  (some (iv .i64 1, p1181.2))
  ((load1 p1181.2 (pv h.n 5)).bind fun x1497 =>
  (bin Ev .neq 9 (.s x1497) (.s (.str (⟨#[]⟩)))).bind fun b1498 =>
  vcase b1498
  (some (iv .i64 1, p1181.2))
  ((unNot b377).bind fun v1499 =>
  gcase v1499
  ((load1 p1181.2 (pv h.n 1)).bind fun x1500 =>
  (call Ev Fn.impl_isTx [.s x1500] p1181.2).bind fun p1501 =>
  (unNot p1501.1).bind fun v1502 =>
  gcase v1502
  (some (iv .i64 3, p1501.2))
  ((load1 p1501.2 (pv h.n 6)).bind fun x1503 =>
  (call Ev Fn.impl_in [.s x1503, iv .i64 0, iv .i64 7] p1501.2).bind fun p1504 =>
  (unNot p1504.1).bind fun v1505 =>
  vcase v1505
  (some (iv .i64 3, p1504.2))
  ((load1 p1504.2 (pv h.n 0)).bind fun x1506 =>
  (call Ev Fn.impl_onRow [.s x1506] p1504.2).bind fun p1507 =>
  vcase p1507.1
  ((loadN 4 p1507.2 (pv h.n 2)).bind fun c1508 =>
  (call Ev Fn.impl_RowFault [.agg c1508] p1507.2).bind fun p1509 =>
  some (p1509.1, p1509.2))
  (some (iv .i64 0, p1507.2))))
  (none))
  ((load1 p1181.2 (pv h.n 6)).bind fun x1510 =>
  (call Ev Fn.impl_in [.s x1510, iv .i64 0, iv .i64 7] p1181.2).bind fun p1511 =>
  (unNot p1511.1).bind fun v1512 =>
  vcase v1512
  (some (iv .i64 3, p1511.2))
  ((load1 p1511.2 (pv h.n 0)).bind fun x1513 =>
  (call Ev Fn.impl_onRow [.s x1513] p1511.2).bind fun p1514 =>
  vcase p1514.1
  ((loadN 4 p1514.2 (pv h.n 2)).bind fun c1515 =>
  (call Ev Fn.impl_RowFault [.agg c1515] p1514.2).bind fun p1516 =>
  some (p1516.1, p1516.2))
  (some (iv .i64 0, p1514.2))))
  (none)))
  (vcase (.tup [])
  (some (iv .i64 1, p1181.2))
  (vcase (.tup [])
  (some (iv .i64 1, p1181.2))
  ((unNot b377).bind fun v1517 =>
  gcase v1517
  ((load1 p1181.2 (pv h.n 1)).bind fun x1518 =>
  (call Ev Fn.impl_isTx [.s x1518] p1181.2).bind fun p1519 =>
  (unNot p1519.1).bind fun v1520 =>
  gcase v1520
  (some (iv .i64 3, p1519.2))
  ((load1 p1519.2 (pv h.n 6)).bind fun x1521 =>
  (call Ev Fn.impl_in [.s x1521, iv .i64 0, iv .i64 7] p1519.2).bind fun p1522 =>
  (unNot p1522.1).bind fun v1523 =>
  vcase v1523
  (some (iv .i64 3, p1522.2))
  ((load1 p1522.2 (pv h.n 0)).bind fun x1524 =>
  (call Ev Fn.impl_onRow [.s x1524] p1522.2).bind fun p1525 =>
  vcase p1525.1
  ((loadN 4 p1525.2 (pv h.n 2)).bind fun c1526 =>
  (call Ev Fn.impl_RowFault [.agg c1526] p1525.2).bind fun p1527 =>
  some (p1527.1, p1527.2))
  (some (iv .i64 0, p1525.2))))
  (none))
  ((load1 p1181.2 (pv h.n 6)).bind fun x1528 =>
  (call Ev Fn.impl_in [.s x1528, iv .i64 0, iv .i64 7] p1181.2).bind fun p1529 =>
  (unNot p1529.1).bind fun v1530 =>
  vcase v1530
  (some (iv .i64 3, p1529.2))
  ((load1 p1529.2 (pv h.n 0)).bind fun x1531 =>
  (call Ev Fn.impl_onRow [.s x1531] p1529.2).bind fun p1532 =>
  vcase p1532.1
  ((loadN 4 p1532.2 (pv h.n 2)).bind fun c1533 =>
  (call Ev Fn.impl_RowFault [.agg c1533] p1532.2).bind fun p1534 =>
  some (p1534.1, p1534.2))
  (some (iv .i64 0, p1532.2))))
  (none)))))
  ((unNot b377).bind fun v1535 =>
  gcase v1535
  ((load1 p1181.2 (pv h.n 1)).bind fun x1536 =>
  (call Ev Fn.impl_isTx [.s x1536] p1181.2).bind fun p1537 =>
  (unNot p1537.1).bind fun v1538 =>
  gcase v1538
  (some (iv .i64 3, p1537.2))
  ((load1 p1537.2 (pv h.n 6)).bind fun x1539 =>
  (call Ev Fn.impl_in [.s x1539, iv .i64 0, iv .i64 7] p1537.2).bind fun p1540 =>
  (unNot p1540.1).bind fun v1541 =>
  vcase v1541
  (some (iv .i64 3, p1540.2))
  ((load1 p1540.2 (pv h.n 0)).bind fun x1542 =>
  (call Ev Fn.impl_onRow [.s x1542] p1540.2).bind fun p1543 =>
  vcase p1543.1
  ((loadN 4 p1543.2 (pv h.n 2)).bind fun c1544 =>
  (call Ev Fn.impl_RowFault [.agg c1544] p1543.2).bind fun p1545 =>
  some (p1545.1, p1545.2))
  (some (iv .i64 0, p1543.2))))
  (none))
  ((load1 p1181.2 (pv h.n 6)).bind fun x1546 =>
  (call Ev Fn.impl_in [.s x1546, iv .i64 0, iv .i64 7] p1181.2).bind fun p1547 =>
  (unNot p1547.1).bind fun v1548 =>
  vcase v1548
  (some (iv .i64 3, p1547.2))
  ((load1 p1547.2 (pv h.n 0)).bind fun x1549 =>
  (call Ev Fn.impl_onRow [.s x1549] p1547.2).bind fun p1550 =>
  vcase p1550.1
  ((loadN 4 p1550.2 (pv h.n 2)).bind fun c1551 =>
  (call Ev Fn.impl_RowFault [.agg c1551] p1550.2).bind fun p1552 =>
  some (p1552.1, p1552.2))
  (some (iv .i64 0, p1550.2))))
  (none))
  (none))
  (vcase (.tup [])
  (vcase (.tup [])
  (some (iv .i64 1, p1181.2))
  ((load1 p1181.2 (pv h.n 0)).bind fun x1553 =>
  (bin Ev .eql 2 (.s x1553) (iv .i64 4)).bind fun b1554 =>
  gcase b1554
  ((load1 p1181.2 (pv h.n 4)).bind fun x1555 =>
  (bin Ev .neq 2 (.s x1555) (iv .i64 0)).bind fun b1556 =>
  gcase b1556
  (some (iv .i64 1, p1181.2))
  ((load1 p1181.2 (pv h.n 5)).bind fun x1557 =>
  (bin Ev .neq 9 (.s x1557) (.s (.str (⟨#[]⟩)))).bind fun b1558 =>
  vcase b1558
  (some (iv .i64 1, p1181.2))
  ((unNot b377).bind fun v1559 =>
  gcase v1559
  ((load1 p1181.2 (pv h.n 1)).bind fun x1560 =>
  (call Ev Fn.impl_isTx [.s x1560] p1181.2).bind fun p1561 =>
  (unNot p1561.1).bind fun v1562 =>
  gcase v1562
  (some (iv .i64 3, p1561.2))
  ((load1 p1561.2 (pv h.n 6)).bind fun x1563 =>
  (call Ev Fn.impl_in [.s x1563, iv .i64 0, iv .i64 7] p1561.2).bind fun p1564 =>
  (unNot p1564.1).bind fun v1565 =>
  vcase v1565
  (some (iv .i64 3, p1564.2))
  ((load1 p1564.2 (pv h.n 0)).bind fun x1566 =>
  (call Ev Fn.impl_onRow [.s x1566] p1564.2).bind fun p1567 =>
  vcase p1567.1
  ((loadN 4 p1567.2 (pv h.n 2)).bind fun c1568 =>
  (call Ev Fn.impl_RowFault [.agg c1568] p1567.2).bind fun p1569 =>
  some (p1569.1, p1569.2))
  (some (iv .i64 0, p1567.2))))
  (none))
  ((load1 p1181.2 (pv h.n 6)).bind fun x1570 =>
  (call Ev Fn.impl_in [.s x1570, iv .i64 0, iv .i64 7] p1181.2).bind fun p1571 =>
  (unNot p1571.1).bind fun v1572 =>
  vcase v1572
  (some (iv .i64 3, p1571.2))
  ((load1 p1571.2 (pv h.n 0)).bind fun x1573 =>
  (call Ev Fn.impl_onRow [.s x1573] p1571.2).bind fun p1574 =>
  vcase p1574.1
  ((loadN 4 p1574.2 (pv h.n 2)).bind fun c1575 =>
  (call Ev Fn.impl_RowFault [.agg c1575] p1574.2).bind fun p1576 =>
  some (p1576.1, p1576.2))
  (some (iv .i64 0, p1574.2))))
  (none)))
  (vcase (.tup [])
  (some (iv .i64 1, p1181.2))
  (vcase (.tup [])
  (some (iv .i64 1, p1181.2))
  ((unNot b377).bind fun v1577 =>
  gcase v1577
  ((load1 p1181.2 (pv h.n 1)).bind fun x1578 =>
  (call Ev Fn.impl_isTx [.s x1578] p1181.2).bind fun p1579 =>
  (unNot p1579.1).bind fun v1580 =>
  gcase v1580
  (some (iv .i64 3, p1579.2))
  ((load1 p1579.2 (pv h.n 6)).bind fun x1581 =>
  (call Ev Fn.impl_in [.s x1581, iv .i64 0, iv .i64 7] p1579.2).bind fun p1582 =>
  (unNot p1582.1).bind fun v1583 =>
  vcase v1583
  (some (iv .i64 3, p1582.2))
  ((load1 p1582.2 (pv h.n 0)).bind fun x1584 =>
  (call Ev Fn.impl_onRow [.s x1584] p1582.2).bind fun p1585 =>
  vcase p1585.1
  ((loadN 4 p1585.2 (pv h.n 2)).bind fun c1586 =>
  (call Ev Fn.impl_RowFault [.agg c1586] p1585.2).bind fun p1587 =>
  some (p1587.1, p1587.2))
  (some (iv .i64 0, p1585.2))))
  (none))
  ((load1 p1181.2 (pv h.n 6)).bind fun x1588 =>
  (call Ev Fn.impl_in [.s x1588, iv .i64 0, iv .i64 7] p1181.2).bind fun p1589 =>
  (unNot p1589.1).bind fun v1590 =>
  vcase v1590
  (some (iv .i64 3, p1589.2))
  ((load1 p1589.2 (pv h.n 0)).bind fun x1591 =>
  (call Ev Fn.impl_onRow [.s x1591] p1589.2).bind fun p1592 =>
  vcase p1592.1
  ((loadN 4 p1592.2 (pv h.n 2)).bind fun c1593 =>
  (call Ev Fn.impl_RowFault [.agg c1593] p1592.2).bind fun p1594 =>
  some (p1594.1, p1594.2))
  (some (iv .i64 0, p1592.2))))
  (none)))))
  ((unNot b377).bind fun v1595 =>
  gcase v1595
  ((load1 p1181.2 (pv h.n 1)).bind fun x1596 =>
  (call Ev Fn.impl_isTx [.s x1596] p1181.2).bind fun p1597 =>
  (unNot p1597.1).bind fun v1598 =>
  gcase v1598
  (some (iv .i64 3, p1597.2))
  ((load1 p1597.2 (pv h.n 6)).bind fun x1599 =>
  (call Ev Fn.impl_in [.s x1599, iv .i64 0, iv .i64 7] p1597.2).bind fun p1600 =>
  (unNot p1600.1).bind fun v1601 =>
  vcase v1601
  (some (iv .i64 3, p1600.2))
  ((load1 p1600.2 (pv h.n 0)).bind fun x1602 =>
  (call Ev Fn.impl_onRow [.s x1602] p1600.2).bind fun p1603 =>
  vcase p1603.1
  ((loadN 4 p1603.2 (pv h.n 2)).bind fun c1604 =>
  (call Ev Fn.impl_RowFault [.agg c1604] p1603.2).bind fun p1605 =>
  some (p1605.1, p1605.2))
  (some (iv .i64 0, p1603.2))))
  (none))
  ((load1 p1181.2 (pv h.n 6)).bind fun x1606 =>
  (call Ev Fn.impl_in [.s x1606, iv .i64 0, iv .i64 7] p1181.2).bind fun p1607 =>
  (unNot p1607.1).bind fun v1608 =>
  vcase v1608
  (some (iv .i64 3, p1607.2))
  ((load1 p1607.2 (pv h.n 0)).bind fun x1609 =>
  (call Ev Fn.impl_onRow [.s x1609] p1607.2).bind fun p1610 =>
  vcase p1610.1
  ((loadN 4 p1610.2 (pv h.n 2)).bind fun c1611 =>
  (call Ev Fn.impl_RowFault [.agg c1611] p1610.2).bind fun p1612 =>
  some (p1612.1, p1612.2))
  (some (iv .i64 0, p1610.2))))
  (none))
  (none)))
  ((load1 p1181.2 (pv h.n 0)).bind fun x1613 =>
  (bin Ev .eql 2 (.s x1613) (iv .i64 4)).bind fun b1614 =>
  gcase b1614
  ((load1 p1181.2 (pv h.n 4)).bind fun x1615 =>
  (bin Ev .neq 2 (.s x1615) (iv .i64 0)).bind fun b1616 =>
  gcase b1616
  (some (iv .i64 1, p1181.2))
  ((load1 p1181.2 (pv h.n 5)).bind fun x1617 =>
  (bin Ev .neq 9 (.s x1617) (.s (.str (⟨#[]⟩)))).bind fun b1618 =>
  vcase b1618
  (some (iv .i64 1, p1181.2))
  ((unNot b377).bind fun v1619 =>
  gcase v1619
  ((load1 p1181.2 (pv h.n 1)).bind fun x1620 =>
  (call Ev Fn.impl_isTx [.s x1620] p1181.2).bind fun p1621 =>
  (unNot p1621.1).bind fun v1622 =>
  gcase v1622
  (some (iv .i64 3, p1621.2))
  ((load1 p1621.2 (pv h.n 6)).bind fun x1623 =>
  (call Ev Fn.impl_in [.s x1623, iv .i64 0, iv .i64 7] p1621.2).bind fun p1624 =>
  (unNot p1624.1).bind fun v1625 =>
  vcase v1625
  (some (iv .i64 3, p1624.2))
  ((load1 p1624.2 (pv h.n 0)).bind fun x1626 =>
  (call Ev Fn.impl_onRow [.s x1626] p1624.2).bind fun p1627 =>
  vcase p1627.1
  ((loadN 4 p1627.2 (pv h.n 2)).bind fun c1628 =>
  (call Ev Fn.impl_RowFault [.agg c1628] p1627.2).bind fun p1629 =>
  some (p1629.1, p1629.2))
  (some (iv .i64 0, p1627.2))))
  (none))
  ((load1 p1181.2 (pv h.n 6)).bind fun x1630 =>
  (call Ev Fn.impl_in [.s x1630, iv .i64 0, iv .i64 7] p1181.2).bind fun p1631 =>
  (unNot p1631.1).bind fun v1632 =>
  vcase v1632
  (some (iv .i64 3, p1631.2))
  ((load1 p1631.2 (pv h.n 0)).bind fun x1633 =>
  (call Ev Fn.impl_onRow [.s x1633] p1631.2).bind fun p1634 =>
  vcase p1634.1
  ((loadN 4 p1634.2 (pv h.n 2)).bind fun c1635 =>
  (call Ev Fn.impl_RowFault [.agg c1635] p1634.2).bind fun p1636 =>
  some (p1636.1, p1636.2))
  (some (iv .i64 0, p1634.2))))
  (none)))
  (vcase (.tup [])
  (some (iv .i64 1, p1181.2))
  (vcase (.tup [])
  (some (iv .i64 1, p1181.2))
  ((unNot b377).bind fun v1637 =>
  gcase v1637
  ((load1 p1181.2 (pv h.n 1)).bind fun x1638 =>
  (call Ev Fn.impl_isTx [.s x1638] p1181.2).bind fun p1639 =>
  (unNot p1639.1).bind fun v1640 =>
  gcase v1640
  (some (iv .i64 3, p1639.2))
  ((load1 p1639.2 (pv h.n 6)).bind fun x1641 =>
  (call Ev Fn.impl_in [.s x1641, iv .i64 0, iv .i64 7] p1639.2).bind fun p1642 =>
  (unNot p1642.1).bind fun v1643 =>
  vcase v1643
  (some (iv .i64 3, p1642.2))
  ((load1 p1642.2 (pv h.n 0)).bind fun x1644 =>
  (call Ev Fn.impl_onRow [.s x1644] p1642.2).bind fun p1645 =>
  vcase p1645.1
  ((loadN 4 p1645.2 (pv h.n 2)).bind fun c1646 =>
  (call Ev Fn.impl_RowFault [.agg c1646] p1645.2).bind fun p1647 =>
  some (p1647.1, p1647.2))
  (some (iv .i64 0, p1645.2))))
  (none))
  ((load1 p1181.2 (pv h.n 6)).bind fun x1648 =>
  (call Ev Fn.impl_in [.s x1648, iv .i64 0, iv .i64 7] p1181.2).bind fun p1649 =>
  (unNot p1649.1).bind fun v1650 =>
  vcase v1650
  (some (iv .i64 3, p1649.2))
  ((load1 p1649.2 (pv h.n 0)).bind fun x1651 =>
  (call Ev Fn.impl_onRow [.s x1651] p1649.2).bind fun p1652 =>
  vcase p1652.1
  ((loadN 4 p1652.2 (pv h.n 2)).bind fun c1653 =>
  (call Ev Fn.impl_RowFault [.agg c1653] p1652.2).bind fun p1654 =>
  some (p1654.1, p1654.2))
  (some (iv .i64 0, p1652.2))))
  (none)))))
  ((unNot b377).bind fun v1655 =>
  gcase v1655
  ((load1 p1181.2 (pv h.n 1)).bind fun x1656 =>
  (call Ev Fn.impl_isTx [.s x1656] p1181.2).bind fun p1657 =>
  (unNot p1657.1).bind fun v1658 =>
  gcase v1658
  (some (iv .i64 3, p1657.2))
  ((load1 p1657.2 (pv h.n 6)).bind fun x1659 =>
  (call Ev Fn.impl_in [.s x1659, iv .i64 0, iv .i64 7] p1657.2).bind fun p1660 =>
  (unNot p1660.1).bind fun v1661 =>
  vcase v1661
  (some (iv .i64 3, p1660.2))
  ((load1 p1660.2 (pv h.n 0)).bind fun x1662 =>
  (call Ev Fn.impl_onRow [.s x1662] p1660.2).bind fun p1663 =>
  vcase p1663.1
  ((loadN 4 p1663.2 (pv h.n 2)).bind fun c1664 =>
  (call Ev Fn.impl_RowFault [.agg c1664] p1663.2).bind fun p1665 =>
  some (p1665.1, p1665.2))
  (some (iv .i64 0, p1663.2))))
  (none))
  ((load1 p1181.2 (pv h.n 6)).bind fun x1666 =>
  (call Ev Fn.impl_in [.s x1666, iv .i64 0, iv .i64 7] p1181.2).bind fun p1667 =>
  (unNot p1667.1).bind fun v1668 =>
  vcase v1668
  (some (iv .i64 3, p1667.2))
  ((load1 p1667.2 (pv h.n 0)).bind fun x1669 =>
  (call Ev Fn.impl_onRow [.s x1669] p1667.2).bind fun p1670 =>
  vcase p1670.1
  ((loadN 4 p1670.2 (pv h.n 2)).bind fun c1671 =>
  (call Ev Fn.impl_RowFault [.agg c1671] p1670.2).bind fun p1672 =>
  some (p1672.1, p1672.2))
  (some (iv .i64 0, p1670.2))))
  (none))
  (none))))
  (vcase (.tup [])
  (vcase (.tup [])
  (some (iv .i64 1, p1181.2))
  (vcase (.tup [])
  (some (iv .i64 1, p1181.2))
  ((load1 p1181.2 (pv h.n 0)).bind fun x1673 =>
  (bin Ev .eql 2 (.s x1673) (iv .i64 4)).bind fun b1674 =>
  gcase b1674
  ((load1 p1181.2 (pv h.n 4)).bind fun x1675 =>
  (bin Ev .neq 2 (.s x1675) (iv .i64 0)).bind fun b1676 =>
  gcase b1676
  (some (iv .i64 1, p1181.2))
  ((load1 p1181.2 (pv h.n 5)).bind fun x1677 =>
  (bin Ev .neq 9 (.s x1677) (.s (.str (⟨#[]⟩)))).bind fun b1678 =>
  vcase b1678
  (some (iv .i64 1, p1181.2))
  ((unNot b377).bind fun v1679 =>
  gcase v1679
  ((load1 p1181.2 (pv h.n 1)).bind fun x1680 =>
  (call Ev Fn.impl_isTx [.s x1680] p1181.2).bind fun p1681 =>
  (unNot p1681.1).bind fun v1682 =>
  gcase v1682
  (some (iv .i64 3, p1681.2))
  ((load1 p1681.2 (pv h.n 6)).bind fun x1683 =>
  (call Ev Fn.impl_in [.s x1683, iv .i64 0, iv .i64 7] p1681.2).bind fun p1684 =>
  (unNot p1684.1).bind fun v1685 =>
  vcase v1685
  (some (iv .i64 3, p1684.2))
  ((load1 p1684.2 (pv h.n 0)).bind fun x1686 =>
  (call Ev Fn.impl_onRow [.s x1686] p1684.2).bind fun p1687 =>
  vcase p1687.1
  ((loadN 4 p1687.2 (pv h.n 2)).bind fun c1688 =>
  (call Ev Fn.impl_RowFault [.agg c1688] p1687.2).bind fun p1689 =>
  some (p1689.1, p1689.2))
  (some (iv .i64 0, p1687.2))))
  (none))
  ((load1 p1181.2 (pv h.n 6)).bind fun x1690 =>
  (call Ev Fn.impl_in [.s x1690, iv .i64 0, iv .i64 7] p1181.2).bind fun p1691 =>
  (unNot p1691.1).bind fun v1692 =>
  vcase v1692
  (some (iv .i64 3, p1691.2))
  ((load1 p1691.2 (pv h.n 0)).bind fun x1693 =>
  (call Ev Fn.impl_onRow [.s x1693] p1691.2).bind fun p1694 =>
  vcase p1694.1
  ((loadN 4 p1694.2 (pv h.n 2)).bind fun c1695 =>
  (call Ev Fn.impl_RowFault [.agg c1695] p1694.2).bind fun p1696 =>
  some (p1696.1, p1696.2))
  (some (iv .i64 0, p1694.2))))
  (none)))
  (vcase (.tup [])
  (some (iv .i64 1, p1181.2))
  (vcase (.tup [])
  (some (iv .i64 1, p1181.2))
  ((unNot b377).bind fun v1697 =>
  gcase v1697
  ((load1 p1181.2 (pv h.n 1)).bind fun x1698 =>
  (call Ev Fn.impl_isTx [.s x1698] p1181.2).bind fun p1699 =>
  (unNot p1699.1).bind fun v1700 =>
  gcase v1700
  (some (iv .i64 3, p1699.2))
  ((load1 p1699.2 (pv h.n 6)).bind fun x1701 =>
  (call Ev Fn.impl_in [.s x1701, iv .i64 0, iv .i64 7] p1699.2).bind fun p1702 =>
  (unNot p1702.1).bind fun v1703 =>
  vcase v1703
  (some (iv .i64 3, p1702.2))
  ((load1 p1702.2 (pv h.n 0)).bind fun x1704 =>
  (call Ev Fn.impl_onRow [.s x1704] p1702.2).bind fun p1705 =>
  vcase p1705.1
  ((loadN 4 p1705.2 (pv h.n 2)).bind fun c1706 =>
  (call Ev Fn.impl_RowFault [.agg c1706] p1705.2).bind fun p1707 =>
  some (p1707.1, p1707.2))
  (some (iv .i64 0, p1705.2))))
  (none))
  ((load1 p1181.2 (pv h.n 6)).bind fun x1708 =>
  (call Ev Fn.impl_in [.s x1708, iv .i64 0, iv .i64 7] p1181.2).bind fun p1709 =>
  (unNot p1709.1).bind fun v1710 =>
  vcase v1710
  (some (iv .i64 3, p1709.2))
  ((load1 p1709.2 (pv h.n 0)).bind fun x1711 =>
  (call Ev Fn.impl_onRow [.s x1711] p1709.2).bind fun p1712 =>
  vcase p1712.1
  ((loadN 4 p1712.2 (pv h.n 2)).bind fun c1713 =>
  (call Ev Fn.impl_RowFault [.agg c1713] p1712.2).bind fun p1714 =>
  some (p1714.1, p1714.2))
  (some (iv .i64 0, p1712.2))))
  (none)))))
  ((unNot b377).bind fun v1715 =>
  gcase v1715
  ((load1 p1181.2 (pv h.n 1)).bind fun x1716 =>
  (call Ev Fn.impl_isTx [.s x1716] p1181.2).bind fun p1717 =>
  (unNot p1717.1).bind fun v1718 =>
  gcase v1718
  (some (iv .i64 3, p1717.2))
  ((load1 p1717.2 (pv h.n 6)).bind fun x1719 =>
  (call Ev Fn.impl_in [.s x1719, iv .i64 0, iv .i64 7] p1717.2).bind fun p1720 =>
  (unNot p1720.1).bind fun v1721 =>
  vcase v1721
  (some (iv .i64 3, p1720.2))
  ((load1 p1720.2 (pv h.n 0)).bind fun x1722 =>
  (call Ev Fn.impl_onRow [.s x1722] p1720.2).bind fun p1723 =>
  vcase p1723.1
  ((loadN 4 p1723.2 (pv h.n 2)).bind fun c1724 =>
  (call Ev Fn.impl_RowFault [.agg c1724] p1723.2).bind fun p1725 =>
  some (p1725.1, p1725.2))
  (some (iv .i64 0, p1723.2))))
  (none))
  ((load1 p1181.2 (pv h.n 6)).bind fun x1726 =>
  (call Ev Fn.impl_in [.s x1726, iv .i64 0, iv .i64 7] p1181.2).bind fun p1727 =>
  (unNot p1727.1).bind fun v1728 =>
  vcase v1728
  (some (iv .i64 3, p1727.2))
  ((load1 p1727.2 (pv h.n 0)).bind fun x1729 =>
  (call Ev Fn.impl_onRow [.s x1729] p1727.2).bind fun p1730 =>
  vcase p1730.1
  ((loadN 4 p1730.2 (pv h.n 2)).bind fun c1731 =>
  (call Ev Fn.impl_RowFault [.agg c1731] p1730.2).bind fun p1732 =>
  some (p1732.1, p1732.2))
  (some (iv .i64 0, p1730.2))))
  (none))
  (none))))
  ((load1 p1181.2 (pv h.n 0)).bind fun x1733 =>
  (bin Ev .neq 2 (.s x1733) (iv .i64 6)).bind fun b1734 =>
  gcase b1734
  ((load1 p1181.2 (pv h.n 6)).bind fun x1735 =>
  (bin Ev .neq 2 (.s x1735) (iv .i64 0)).bind fun b1736 =>
  vcase b1736
  (some (iv .i64 1, p1181.2))
  ((load1 p1181.2 (pv h.n 0)).bind fun x1737 =>
  (bin Ev .eql 2 (.s x1737) (iv .i64 4)).bind fun b1738 =>
  gcase b1738
  ((load1 p1181.2 (pv h.n 4)).bind fun x1739 =>
  (bin Ev .neq 2 (.s x1739) (iv .i64 0)).bind fun b1740 =>
  gcase b1740
  (some (iv .i64 1, p1181.2))
  ((load1 p1181.2 (pv h.n 5)).bind fun x1741 =>
  (bin Ev .neq 9 (.s x1741) (.s (.str (⟨#[]⟩)))).bind fun b1742 =>
  vcase b1742
  (some (iv .i64 1, p1181.2))
  ((unNot b377).bind fun v1743 =>
  gcase v1743
  ((load1 p1181.2 (pv h.n 1)).bind fun x1744 =>
  (call Ev Fn.impl_isTx [.s x1744] p1181.2).bind fun p1745 =>
  (unNot p1745.1).bind fun v1746 =>
  gcase v1746
  (some (iv .i64 3, p1745.2))
  ((load1 p1745.2 (pv h.n 6)).bind fun x1747 =>
  (call Ev Fn.impl_in [.s x1747, iv .i64 0, iv .i64 7] p1745.2).bind fun p1748 =>
  (unNot p1748.1).bind fun v1749 =>
  vcase v1749
  (some (iv .i64 3, p1748.2))
  ((load1 p1748.2 (pv h.n 0)).bind fun x1750 =>
  (call Ev Fn.impl_onRow [.s x1750] p1748.2).bind fun p1751 =>
  vcase p1751.1
  ((loadN 4 p1751.2 (pv h.n 2)).bind fun c1752 =>
  (call Ev Fn.impl_RowFault [.agg c1752] p1751.2).bind fun p1753 =>
  some (p1753.1, p1753.2))
  (some (iv .i64 0, p1751.2))))
  (none))
  ((load1 p1181.2 (pv h.n 6)).bind fun x1754 =>
  (call Ev Fn.impl_in [.s x1754, iv .i64 0, iv .i64 7] p1181.2).bind fun p1755 =>
  (unNot p1755.1).bind fun v1756 =>
  vcase v1756
  (some (iv .i64 3, p1755.2))
  ((load1 p1755.2 (pv h.n 0)).bind fun x1757 =>
  (call Ev Fn.impl_onRow [.s x1757] p1755.2).bind fun p1758 =>
  vcase p1758.1
  ((loadN 4 p1758.2 (pv h.n 2)).bind fun c1759 =>
  (call Ev Fn.impl_RowFault [.agg c1759] p1758.2).bind fun p1760 =>
  some (p1760.1, p1760.2))
  (some (iv .i64 0, p1758.2))))
  (none)))
  (vcase (.tup [])
  (some (iv .i64 1, p1181.2))
  (vcase (.tup [])
  (some (iv .i64 1, p1181.2))
  ((unNot b377).bind fun v1761 =>
  gcase v1761
  ((load1 p1181.2 (pv h.n 1)).bind fun x1762 =>
  (call Ev Fn.impl_isTx [.s x1762] p1181.2).bind fun p1763 =>
  (unNot p1763.1).bind fun v1764 =>
  gcase v1764
  (some (iv .i64 3, p1763.2))
  ((load1 p1763.2 (pv h.n 6)).bind fun x1765 =>
  (call Ev Fn.impl_in [.s x1765, iv .i64 0, iv .i64 7] p1763.2).bind fun p1766 =>
  (unNot p1766.1).bind fun v1767 =>
  vcase v1767
  (some (iv .i64 3, p1766.2))
  ((load1 p1766.2 (pv h.n 0)).bind fun x1768 =>
  (call Ev Fn.impl_onRow [.s x1768] p1766.2).bind fun p1769 =>
  vcase p1769.1
  ((loadN 4 p1769.2 (pv h.n 2)).bind fun c1770 =>
  (call Ev Fn.impl_RowFault [.agg c1770] p1769.2).bind fun p1771 =>
  some (p1771.1, p1771.2))
  (some (iv .i64 0, p1769.2))))
  (none))
  ((load1 p1181.2 (pv h.n 6)).bind fun x1772 =>
  (call Ev Fn.impl_in [.s x1772, iv .i64 0, iv .i64 7] p1181.2).bind fun p1773 =>
  (unNot p1773.1).bind fun v1774 =>
  vcase v1774
  (some (iv .i64 3, p1773.2))
  ((load1 p1773.2 (pv h.n 0)).bind fun x1775 =>
  (call Ev Fn.impl_onRow [.s x1775] p1773.2).bind fun p1776 =>
  vcase p1776.1
  ((loadN 4 p1776.2 (pv h.n 2)).bind fun c1777 =>
  (call Ev Fn.impl_RowFault [.agg c1777] p1776.2).bind fun p1778 =>
  some (p1778.1, p1778.2))
  (some (iv .i64 0, p1776.2))))
  (none)))))
  ((unNot b377).bind fun v1779 =>
  gcase v1779
  ((load1 p1181.2 (pv h.n 1)).bind fun x1780 =>
  (call Ev Fn.impl_isTx [.s x1780] p1181.2).bind fun p1781 =>
  (unNot p1781.1).bind fun v1782 =>
  gcase v1782
  (some (iv .i64 3, p1781.2))
  ((load1 p1781.2 (pv h.n 6)).bind fun x1783 =>
  (call Ev Fn.impl_in [.s x1783, iv .i64 0, iv .i64 7] p1781.2).bind fun p1784 =>
  (unNot p1784.1).bind fun v1785 =>
  vcase v1785
  (some (iv .i64 3, p1784.2))
  ((load1 p1784.2 (pv h.n 0)).bind fun x1786 =>
  (call Ev Fn.impl_onRow [.s x1786] p1784.2).bind fun p1787 =>
  vcase p1787.1
  ((loadN 4 p1787.2 (pv h.n 2)).bind fun c1788 =>
  (call Ev Fn.impl_RowFault [.agg c1788] p1787.2).bind fun p1789 =>
  some (p1789.1, p1789.2))
  (some (iv .i64 0, p1787.2))))
  (none))
  ((load1 p1181.2 (pv h.n 6)).bind fun x1790 =>
  (call Ev Fn.impl_in [.s x1790, iv .i64 0, iv .i64 7] p1181.2).bind fun p1791 =>
  (unNot p1791.1).bind fun v1792 =>
  vcase v1792
  (some (iv .i64 3, p1791.2))
  ((load1 p1791.2 (pv h.n 0)).bind fun x1793 =>
  (call Ev Fn.impl_onRow [.s x1793] p1791.2).bind fun p1794 =>
  vcase p1794.1
  ((loadN 4 p1794.2 (pv h.n 2)).bind fun c1795 =>
  (call Ev Fn.impl_RowFault [.agg c1795] p1794.2).bind fun p1796 =>
  some (p1796.1, p1796.2))
  (some (iv .i64 0, p1794.2))))
  (none))
  (none)))
  ((load1 p1181.2 (pv h.n 0)).bind fun x1797 =>
  (bin Ev .eql 2 (.s x1797) (iv .i64 4)).bind fun b1798 =>
  gcase b1798
  ((load1 p1181.2 (pv h.n 4)).bind fun x1799 =>
  (bin Ev .neq 2 (.s x1799) (iv .i64 0)).bind fun b1800 =>
  gcase b1800
  (some (iv .i64 1, p1181.2))
  ((load1 p1181.2 (pv h.n 5)).bind fun x1801 =>
  (bin Ev .neq 9 (.s x1801) (.s (.str (⟨#[]⟩)))).bind fun b1802 =>
  vcase b1802
  (some (iv .i64 1, p1181.2))
  ((unNot b377).bind fun v1803 =>
  gcase v1803
  ((load1 p1181.2 (pv h.n 1)).bind fun x1804 =>
  (call Ev Fn.impl_isTx [.s x1804] p1181.2).bind fun p1805 =>
  (unNot p1805.1).bind fun v1806 =>
  gcase v1806
  (some (iv .i64 3, p1805.2))
  ((load1 p1805.2 (pv h.n 6)).bind fun x1807 =>
  (call Ev Fn.impl_in [.s x1807, iv .i64 0, iv .i64 7] p1805.2).bind fun p1808 =>
  (unNot p1808.1).bind fun v1809 =>
  vcase v1809
  (some (iv .i64 3, p1808.2))
  ((load1 p1808.2 (pv h.n 0)).bind fun x1810 =>
  (call Ev Fn.impl_onRow [.s x1810] p1808.2).bind fun p1811 =>
  vcase p1811.1
  ((loadN 4 p1811.2 (pv h.n 2)).bind fun c1812 =>
  (call Ev Fn.impl_RowFault [.agg c1812] p1811.2).bind fun p1813 =>
  some (p1813.1, p1813.2))
  (some (iv .i64 0, p1811.2))))
  (none))
  ((load1 p1181.2 (pv h.n 6)).bind fun x1814 =>
  (call Ev Fn.impl_in [.s x1814, iv .i64 0, iv .i64 7] p1181.2).bind fun p1815 =>
  (unNot p1815.1).bind fun v1816 =>
  vcase v1816
  (some (iv .i64 3, p1815.2))
  ((load1 p1815.2 (pv h.n 0)).bind fun x1817 =>
  (call Ev Fn.impl_onRow [.s x1817] p1815.2).bind fun p1818 =>
  vcase p1818.1
  ((loadN 4 p1818.2 (pv h.n 2)).bind fun c1819 =>
  (call Ev Fn.impl_RowFault [.agg c1819] p1818.2).bind fun p1820 =>
  some (p1820.1, p1820.2))
  (some (iv .i64 0, p1818.2))))
  (none)))
  (vcase (.tup [])
  (some (iv .i64 1, p1181.2))
  (vcase (.tup [])
  (some (iv .i64 1, p1181.2))
  ((unNot b377).bind fun v1821 =>
  gcase v1821
  ((load1 p1181.2 (pv h.n 1)).bind fun x1822 =>
  (call Ev Fn.impl_isTx [.s x1822] p1181.2).bind fun p1823 =>
  (unNot p1823.1).bind fun v1824 =>
  gcase v1824
  (some (iv .i64 3, p1823.2))
  ((load1 p1823.2 (pv h.n 6)).bind fun x1825 =>
  (call Ev Fn.impl_in [.s x1825, iv .i64 0, iv .i64 7] p1823.2).bind fun p1826 =>
  (unNot p1826.1).bind fun v1827 =>
  vcase v1827
  (some (iv .i64 3, p1826.2))
  ((load1 p1826.2 (pv h.n 0)).bind fun x1828 =>
  (call Ev Fn.impl_onRow [.s x1828] p1826.2).bind fun p1829 =>
  vcase p1829.1
  ((loadN 4 p1829.2 (pv h.n 2)).bind fun c1830 =>
  (call Ev Fn.impl_RowFault [.agg c1830] p1829.2).bind fun p1831 =>
  some (p1831.1, p1831.2))
  (some (iv .i64 0, p1829.2))))
  (none))
  ((load1 p1181.2 (pv h.n 6)).bind fun x1832 =>
  (call Ev Fn.impl_in [.s x1832, iv .i64 0, iv .i64 7] p1181.2).bind fun p1833 =>
  (unNot p1833.1).bind fun v1834 =>
  vcase v1834
  (some (iv .i64 3, p1833.2))
  ((load1 p1833.2 (pv h.n 0)).bind fun x1835 =>
  (call Ev Fn.impl_onRow [.s x1835] p1833.2).bind fun p1836 =>
  vcase p1836.1
  ((loadN 4 p1836.2 (pv h.n 2)).bind fun c1837 =>
  (call Ev Fn.impl_RowFault [.agg c1837] p1836.2).bind fun p1838 =>
  some (p1838.1, p1838.2))
  (some (iv .i64 0, p1836.2))))
  (none)))))
  ((unNot b377).bind fun v1839 =>
  gcase v1839
  ((load1 p1181.2 (pv h.n 1)).bind fun x1840 =>
  (call Ev Fn.impl_isTx [.s x1840] p1181.2).bind fun p1841 =>
  (unNot p1841.1).bind fun v1842 =>
  gcase v1842
  (some (iv .i64 3, p1841.2))
  ((load1 p1841.2 (pv h.n 6)).bind fun x1843 =>
  (call Ev Fn.impl_in [.s x1843, iv .i64 0, iv .i64 7] p1841.2).bind fun p1844 =>
  (unNot p1844.1).bind fun v1845 =>
  vcase v1845
  (some (iv .i64 3, p1844.2))
  ((load1 p1844.2 (pv h.n 0)).bind fun x1846 =>
  (call Ev Fn.impl_onRow [.s x1846] p1844.2).bind fun p1847 =>
  vcase p1847.1
  ((loadN 4 p1847.2 (pv h.n 2)).bind fun c1848 =>
  (call Ev Fn.impl_RowFault [.agg c1848] p1847.2).bind fun p1849 =>
  some (p1849.1, p1849.2))
  (some (iv .i64 0, p1847.2))))
  (none))
  ((load1 p1181.2 (pv h.n 6)).bind fun x1850 =>
  (call Ev Fn.impl_in [.s x1850, iv .i64 0, iv .i64 7] p1181.2).bind fun p1851 =>
  (unNot p1851.1).bind fun v1852 =>
  vcase v1852
  (some (iv .i64 3, p1851.2))
  ((load1 p1851.2 (pv h.n 0)).bind fun x1853 =>
  (call Ev Fn.impl_onRow [.s x1853] p1851.2).bind fun p1854 =>
  vcase p1854.1
  ((loadN 4 p1854.2 (pv h.n 2)).bind fun c1855 =>
  (call Ev Fn.impl_RowFault [.agg c1855] p1854.2).bind fun p1856 =>
  some (p1856.1, p1856.2))
  (some (iv .i64 0, p1854.2))))
  (none))
  (none))
  (vcase (.tup [])
  (vcase (.tup [])
  (some (iv .i64 1, p1181.2))
  ((load1 p1181.2 (pv h.n 0)).bind fun x1857 =>
  (bin Ev .eql 2 (.s x1857) (iv .i64 4)).bind fun b1858 =>
  gcase b1858
  ((load1 p1181.2 (pv h.n 4)).bind fun x1859 =>
  (bin Ev .neq 2 (.s x1859) (iv .i64 0)).bind fun b1860 =>
  gcase b1860
  (some (iv .i64 1, p1181.2))
  ((load1 p1181.2 (pv h.n 5)).bind fun x1861 =>
  (bin Ev .neq 9 (.s x1861) (.s (.str (⟨#[]⟩)))).bind fun b1862 =>
  vcase b1862
  (some (iv .i64 1, p1181.2))
  ((unNot b377).bind fun v1863 =>
  gcase v1863
  ((load1 p1181.2 (pv h.n 1)).bind fun x1864 =>
  (call Ev Fn.impl_isTx [.s x1864] p1181.2).bind fun p1865 =>
  (unNot p1865.1).bind fun v1866 =>
  gcase v1866
  (some (iv .i64 3, p1865.2))
  ((load1 p1865.2 (pv h.n 6)).bind fun x1867 =>
  (call Ev Fn.impl_in [.s x1867, iv .i64 0, iv .i64 7] p1865.2).bind fun p1868 =>
  (unNot p1868.1).bind fun v1869 =>
  vcase v1869
  (some (iv .i64 3, p1868.2))
  ((load1 p1868.2 (pv h.n 0)).bind fun x1870 =>
  (call Ev Fn.impl_onRow [.s x1870] p1868.2).bind fun p1871 =>
  vcase p1871.1
  ((loadN 4 p1871.2 (pv h.n 2)).bind fun c1872 =>
  (call Ev Fn.impl_RowFault [.agg c1872] p1871.2).bind fun p1873 =>
  some (p1873.1, p1873.2))
  (some (iv .i64 0, p1871.2))))
  (none))
  ((load1 p1181.2 (pv h.n 6)).bind fun x1874 =>
  (call Ev Fn.impl_in [.s x1874, iv .i64 0, iv .i64 7] p1181.2).bind fun p1875 =>
  (unNot p1875.1).bind fun v1876 =>
  vcase v1876
  (some (iv .i64 3, p1875.2))
  ((load1 p1875.2 (pv h.n 0)).bind fun x1877 =>
  (call Ev Fn.impl_onRow [.s x1877] p1875.2).bind fun p1878 =>
  vcase p1878.1
  ((loadN 4 p1878.2 (pv h.n 2)).bind fun c1879 =>
  (call Ev Fn.impl_RowFault [.agg c1879] p1878.2).bind fun p1880 =>
  some (p1880.1, p1880.2))
  (some (iv .i64 0, p1878.2))))
  (none)))
  (vcase (.tup [])
  (some (iv .i64 1, p1181.2))
  (vcase (.tup [])
  (some (iv .i64 1, p1181.2))
  ((unNot b377).bind fun v1881 =>
  gcase v1881
  ((load1 p1181.2 (pv h.n 1)).bind fun x1882 =>
  (call Ev Fn.impl_isTx [.s x1882] p1181.2).bind fun p1883 =>
  (unNot p1883.1).bind fun v1884 =>
  gcase v1884
  (some (iv .i64 3, p1883.2))
  ((load1 p1883.2 (pv h.n 6)).bind fun x1885 =>
  (call Ev Fn.impl_in [.s x1885, iv .i64 0, iv .i64 7] p1883.2).bind fun p1886 =>
  (unNot p1886.1).bind fun v1887 =>
  vcase v1887
  (some (iv .i64 3, p1886.2))
  ((load1 p1886.2 (pv h.n 0)).bind fun x1888 =>
  (call Ev Fn.impl_onRow [.s x1888] p1886.2).bind fun p1889 =>
  vcase p1889.1
  ((loadN 4 p1889.2 (pv h.n 2)).bind fun c1890 =>
  (call Ev Fn.impl_RowFault [.agg c1890] p1889.2).bind fun p1891 =>
  some (p1891.1, p1891.2))
  (some (iv .i64 0, p1889.2))))
  (none))
  ((load1 p1181.2 (pv h.n 6)).bind fun x1892 =>
  (call Ev Fn.impl_in [.s x1892, iv .i64 0, iv .i64 7] p1181.2).bind fun p1893 =>
  (unNot p1893.1).bind fun v1894 =>
  vcase v1894
  (some (iv .i64 3, p1893.2))
  ((load1 p1893.2 (pv h.n 0)).bind fun x1895 =>
  (call Ev Fn.impl_onRow [.s x1895] p1893.2).bind fun p1896 =>
  vcase p1896.1
  ((loadN 4 p1896.2 (pv h.n 2)).bind fun c1897 =>
  (call Ev Fn.impl_RowFault [.agg c1897] p1896.2).bind fun p1898 =>
  some (p1898.1, p1898.2))
  (some (iv .i64 0, p1896.2))))
  (none)))))
  ((unNot b377).bind fun v1899 =>
  gcase v1899
  ((load1 p1181.2 (pv h.n 1)).bind fun x1900 =>
  (call Ev Fn.impl_isTx [.s x1900] p1181.2).bind fun p1901 =>
  (unNot p1901.1).bind fun v1902 =>
  gcase v1902
  (some (iv .i64 3, p1901.2))
  ((load1 p1901.2 (pv h.n 6)).bind fun x1903 =>
  (call Ev Fn.impl_in [.s x1903, iv .i64 0, iv .i64 7] p1901.2).bind fun p1904 =>
  (unNot p1904.1).bind fun v1905 =>
  vcase v1905
  (some (iv .i64 3, p1904.2))
  ((load1 p1904.2 (pv h.n 0)).bind fun x1906 =>
  (call Ev Fn.impl_onRow [.s x1906] p1904.2).bind fun p1907 =>
  vcase p1907.1
  ((loadN 4 p1907.2 (pv h.n 2)).bind fun c1908 =>
  (call Ev Fn.impl_RowFault [.agg c1908] p1907.2).bind fun p1909 =>
  some (p1909.1, p1909.2))
  (some (iv .i64 0, p1907.2))))
  (none))
  ((load1 p1181.2 (pv h.n 6)).bind fun x1910 =>
  (call Ev Fn.impl_in [.s x1910, iv .i64 0, iv .i64 7] p1181.2).bind fun p1911 =>
  (unNot p1911.1).bind fun v1912 =>
  vcase v1912
  (some (iv .i64 3, p1911.2))
  ((load1 p1911.2 (pv h.n 0)).bind fun x1913 =>
  (call Ev Fn.impl_onRow [.s x1913] p1911.2).bind fun p1914 =>
  vcase p1914.1
  ((loadN 4 p1914.2 (pv h.n 2)).bind fun c1915 =>
  (call Ev Fn.impl_RowFault [.agg c1915] p1914.2).bind fun p1916 =>
  some (p1916.1, p1916.2))
  (some (iv .i64 0, p1914.2))))
  (none))
  (none)))
  ((load1 p1181.2 (pv h.n 0)).bind fun x1917 =>
  (bin Ev .eql 2 (.s x1917) (iv .i64 4)).bind fun b1918 =>
  gcase b1918
  ((load1 p1181.2 (pv h.n 4)).bind fun x1919 =>
  (bin Ev .neq 2 (.s x1919) (iv .i64 0)).bind fun b1920 =>
  gcase b1920
  (some (iv .i64 1, p1181.2))
  ((load1 p1181.2 (pv h.n 5)).bind fun x1921 =>
  (bin Ev .neq 9 (.s x1921) (.s (.str (⟨#[]⟩)))).bind fun b1922 =>
  vcase b1922
  (some (iv .i64 1, p1181.2))
  ((unNot b377).bind fun v1923 =>
  gcase v1923
  ((load1 p1181.2 (pv h.n 1)).bind fun x1924 =>
  (call Ev Fn.impl_isTx [.s x1924] p1181.2).bind fun p1925 =>
  (unNot p1925.1).bind fun v1926 =>
  gcase v1926
  (some (iv .i64 3, p1925.2))
  ((load1 p1925.2 (pv h.n 6)).bind fun x1927 =>
  (call Ev Fn.impl_in [.s x1927, iv .i64 0, iv .i64 7] p1925.2).bind fun p1928 =>
  (unNot p1928.1).bind fun v1929 =>
  vcase v1929
  (some (iv .i64 3, p1928.2))
  ((load1 p1928.2 (pv h.n 0)).bind fun x1930 =>
  (call Ev Fn.impl_onRow [.s x1930] p1928.2).bind fun p1931 =>
  vcase p1931.1
  ((loadN 4 p1931.2 (pv h.n 2)).bind fun c1932 =>
  (call Ev Fn.impl_RowFault [.agg c1932] p1931.2).bind fun p1933 =>
  some (p1933.1, p1933.2))
  (some (iv .i64 0, p1931.2))))
  (none))
  ((load1 p1181.2 (pv h.n 6)).bind fun x1934 =>
  (call Ev Fn.impl_in [.s x1934, iv .i64 0, iv .i64 7] p1181.2).bind fun p1935 =>
  (unNot p1935.1).bind fun v1936 =>
  vcase v1936
  (some (iv .i64 3, p1935.2))
  ((load1 p1935.2 (pv h.n 0)).bind fun x1937 =>
  (call Ev Fn.impl_onRow [.s x1937] p1935.2).bind fun p1938 =>
  vcase p1938.1
  ((loadN 4 p1938.2 (pv h.n 2)).bind fun c1939 =>
  (call Ev Fn.impl_RowFault [.agg c1939] p1938.2).bind fun p1940 =>
  some (p1940.1, p1940.2))
  (some (iv .i64 0, p1938.2))))
  (none)))
  (vcase (.tup [])
  (some (iv .i64 1, p1181.2))
  (vcase (.tup [])
  (some (iv .i64 1, p1181.2))
  ((unNot b377).bind fun v1941 =>
  gcase v1941
  ((load1 p1181.2 (pv h.n 1)).bind fun x1942 =>
  (call Ev Fn.impl_isTx [.s x1942] p1181.2).bind fun p1943 =>
  (unNot p1943.1).bind fun v1944 =>
  gcase v1944
  (some (iv .i64 3, p1943.2))
  ((load1 p1943.2 (pv h.n 6)).bind fun x1945 =>
  (call Ev Fn.impl_in [.s x1945, iv .i64 0, iv .i64 7] p1943.2).bind fun p1946 =>
  (unNot p1946.1).bind fun v1947 =>
  vcase v1947
  (some (iv .i64 3, p1946.2))
  ((load1 p1946.2 (pv h.n 0)).bind fun x1948 =>
  (call Ev Fn.impl_onRow [.s x1948] p1946.2).bind fun p1949 =>
  vcase p1949.1
  ((loadN 4 p1949.2 (pv h.n 2)).bind fun c1950 =>
  (call Ev Fn.impl_RowFault [.agg c1950] p1949.2).bind fun p1951 =>
  some (p1951.1, p1951.2))
  (some (iv .i64 0, p1949.2))))
  (none))
  ((load1 p1181.2 (pv h.n 6)).bind fun x1952 =>
  (call Ev Fn.impl_in [.s x1952, iv .i64 0, iv .i64 7] p1181.2).bind fun p1953 =>
  (unNot p1953.1).bind fun v1954 =>
  vcase v1954
  (some (iv .i64 3, p1953.2))
  ((load1 p1953.2 (pv h.n 0)).bind fun x1955 =>
  (call Ev Fn.impl_onRow [.s x1955] p1953.2).bind fun p1956 =>
  vcase p1956.1
  ((loadN 4 p1956.2 (pv h.n 2)).bind fun c1957 =>
  (call Ev Fn.impl_RowFault [.agg c1957] p1956.2).bind fun p1958 =>
  some (p1958.1, p1958.2))
  (some (iv .i64 0, p1956.2))))
  (none)))))
  ((unNot b377).bind fun v1959 =>
  gcase v1959
  ((load1 p1181.2 (pv h.n 1)).bind fun x1960 =>
  (call Ev Fn.impl_isTx [.s x1960] p1181.2).bind fun p1961 =>
  (unNot p1961.1).bind fun v1962 =>
  gcase v1962
  (some (iv .i64 3, p1961.2))
  ((load1 p1961.2 (pv h.n 6)).bind fun x1963 =>
  (call Ev Fn.impl_in [.s x1963, iv .i64 0, iv .i64 7] p1961.2).bind fun p1964 =>
  (unNot p1964.1).bind fun v1965 =>
  vcase v1965
  (some (iv .i64 3, p1964.2))
  ((load1 p1964.2 (pv h.n 0)).bind fun x1966 =>
  (call Ev Fn.impl_onRow [.s x1966] p1964.2).bind fun p1967 =>
  vcase p1967.1
  ((loadN 4 p1967.2 (pv h.n 2)).bind fun c1968 =>
  (call Ev Fn.impl_RowFault [.agg c1968] p1967.2).bind fun p1969 =>
  some (p1969.1, p1969.2))
  (some (iv .i64 0, p1967.2))))
  (none))
  ((load1 p1181.2 (pv h.n 6)).bind fun x1970 =>
  (call Ev Fn.impl_in [.s x1970, iv .i64 0, iv .i64 7] p1181.2).bind fun p1971 =>
  (unNot p1971.1).bind fun v1972 =>
  vcase v1972
  (some (iv .i64 3, p1971.2))
  ((load1 p1971.2 (pv h.n 0)).bind fun x1973 =>
  (call Ev Fn.impl_onRow [.s x1973] p1971.2).bind fun p1974 =>
  vcase p1974.1
  ((loadN 4 p1974.2 (pv h.n 2)).bind fun c1975 =>
  (call Ev Fn.impl_RowFault [.agg c1975] p1974.2).bind fun p1976 =>
  some (p1976.1, p1976.2))
  (some (iv .i64 0, p1974.2))))
  (none))
  (none))))))
  (vcase (.tup [])
  (vcase (.tup [])
  (some (iv .i64 1, p379.2))
  (vcase (.tup [])
  (some (iv .i64 1, p379.2))
  (vcase (.tup [])
  (some (iv .i64 1, p379.2))
  ((load1 p379.2 (pv h.n 0)).bind fun x1977 =>
  (bin Ev .eql 2 (.s x1977) (iv .i64 4)).bind fun b1978 =>
  gcase b1978
  ((load1 p379.2 (pv h.n 4)).bind fun x1979 =>
  (bin Ev .neq 2 (.s x1979) (iv .i64 0)).bind fun b1980 =>
  gcase b1980
  (some (iv .i64 1, p379.2))
  ((load1 p379.2 (pv h.n 5)).bind fun x1981 =>
  (bin Ev .neq 9 (.s x1981) (.s (.str (⟨#[]⟩)))).bind fun b1982 =>
  vcase b1982
  (some (iv .i64 1, p379.2))
  ((unNot b377).bind fun v1983 =>
  gcase v1983
  ((load1 p379.2 (pv h.n 1)).bind fun x1984 =>
  (call Ev Fn.impl_isTx [.s x1984] p379.2).bind fun p1985 =>
  (unNot p1985.1).bind fun v1986 =>
  gcase v1986
  (some (iv .i64 3, p1985.2))
  ((load1 p1985.2 (pv h.n 6)).bind fun x1987 =>
  (call Ev Fn.impl_in [.s x1987, iv .i64 0, iv .i64 7] p1985.2).bind fun p1988 =>
  (unNot p1988.1).bind fun v1989 =>
  vcase v1989
  (some (iv .i64 3, p1988.2))
  ((load1 p1988.2 (pv h.n 0)).bind fun x1990 =>
  (call Ev Fn.impl_onRow [.s x1990] p1988.2).bind fun p1991 =>
  vcase p1991.1
  ((loadN 4 p1991.2 (pv h.n 2)).bind fun c1992 =>
  (call Ev Fn.impl_RowFault [.agg c1992] p1991.2).bind fun p1993 =>
  some (p1993.1, p1993.2))
  (some (iv .i64 0, p1991.2))))
  (none))
  ((load1 p379.2 (pv h.n 6)).bind fun x1994 =>
  (call Ev Fn.impl_in [.s x1994, iv .i64 0, iv .i64 7] p379.2).bind fun p1995 =>
  (unNot p1995.1).bind fun v1996 =>
  vcase v1996
  (some (iv .i64 3, p1995.2))
  ((load1 p1995.2 (pv h.n 0)).bind fun x1997 =>
  (call Ev Fn.impl_onRow [.s x1997] p1995.2).bind fun p1998 =>
  vcase p1998.1
  ((loadN 4 p1998.2 (pv h.n 2)).bind fun c1999 =>
  (call Ev Fn.impl_RowFault [.agg c1999] p1998.2).bind fun p2000 =>
  some (p2000.1, p2000.2))
  (some (iv .i64 0, p1998.2))))
  (none)))
  (vcase (.tup [])
  (some (iv .i64 1, p379.2))
  (vcase (.tup [])
  (some (iv .i64 1, p379.2))
  ((unNot b377).bind fun v2001 =>
  gcase v2001
  ((load1 p379.2 (pv h.n 1)).bind fun x2002 =>
  (call Ev Fn.impl_isTx [.s x2002] p379.2).bind fun p2003 =>
  (unNot p2003.1).bind fun v2004 =>
  gcase v2004
  (some (iv .i64 3, p2003.2))
  ((load1 p2003.2 (pv h.n 6)).bind fun x2005 =>
  (call Ev Fn.impl_in [.s x2005, iv .i64 0, iv .i64 7] p2003.2).bind fun p2006 =>
  (unNot p2006.1).bind fun v2007 =>
  vcase v2007
  (some (iv .i64 3, p2006.2))
  ((load1 p2006.2 (pv h.n 0)).bind fun x2008 =>
  (call Ev Fn.impl_onRow [.s x2008] p2006.2).bind fun p2009 =>
  vcase p2009.1
  ((loadN 4 p2009.2 (pv h.n 2)).bind fun c2010 =>
  (call Ev Fn.impl_RowFault [.agg c2010] p2009.2).bind fun p2011 =>
  some (p2011.1, p2011.2))
  (some (iv .i64 0, p2009.2))))
  (none))
  ((load1 p379.2 (pv h.n 6)).bind fun x2012 =>
  (call Ev Fn.impl_in [.s x2012, iv .i64 0, iv .i64 7] p379.2).bind fun p2013 =>
  (unNot p2013.1).bind fun v2014 =>
  vcase v2014
  (some (iv .i64 3, p2013.2))
  ((load1 p2013.2 (pv h.n 0)).bind fun x2015 =>
  (call Ev Fn.impl_onRow [.s x2015] p2013.2).bind fun p2016 =>
  vcase p2016.1
  ((loadN 4 p2016.2 (pv h.n 2)).bind fun c2017 =>
  (call Ev Fn.impl_RowFault [.agg c2017] p2016.2).bind fun p2018 =>
  some (p2018.1, p2018.2))
  (some (iv .i64 0, p2016.2))))
  (none)))))
  ((unNot b377).bind fun v2019 =>
  gcase v2019
  ((load1 p379.2 (pv h.n 1)).bind fun x2020 =>
  (call Ev Fn.impl_isTx [.s x2020] p379.2).bind fun p2021 =>
  (unNot p2021.1).bind fun v2022 =>
  gcase v2022
  (some (iv .i64 3, p2021.2))
  ((load1 p2021.2 (pv h.n 6)).bind fun x2023 =>
  (call Ev Fn.impl_in [.s x2023, iv .i64 0, iv .i64 7] p2021.2).bind fun p2024 =>
  (unNot p2024.1).bind fun v2025 =>
  vcase v2025
  (some (iv .i64 3, p2024.2))
  ((load1 p2024.2 (pv h.n 0)).bind fun x2026 =>
  (call Ev Fn.impl_onRow [.s x2026] p2024.2).bind fun p2027 =>
  vcase p2027.1
  ((loadN 4 p2027.2 (pv h.n 2)).bind fun c2028 =>
  (call Ev Fn.impl_RowFault [.agg c2028] p2027.2).bind fun p2029 =>
  some (p2029.1, p2029.2))
  (some (iv .i64 0, p2027.2))))
  (none))
  ((load1 p379.2 (pv h.n 6)).bind fun x2030 =>
  (call Ev Fn.impl_in [.s x2030, iv .i64 0, iv .i64 7] p379.2).bind fun p2031 =>
  (unNot p2031.1).bind fun v2032 =>
  vcase v2032
  (some (iv .i64 3, p2031.2))
  ((load1 p2031.2 (pv h.n 0)).bind fun x2033 =>
  (call Ev Fn.impl_onRow [.s x2033] p2031.2).bind fun p2034 =>
  vcase p2034.1
  ((loadN 4 p2034.2 (pv h.n 2)).bind fun c2035 =>
  (call Ev Fn.impl_RowFault [.agg c2035] p2034.2).bind fun p2036 =>
  some (p2036.1, p2036.2))
  (some (iv .i64 0, p2034.2))))
  (none))
  (none)))))
  ((load1 p379.2 (pv h.n 0)).bind fun x2037 =>
  (call Ev Fn.impl_onRow [.s x2037] p379.2).bind fun p2038 =>
  (unNot p2038.1).bind fun v2039 =>
  gcase v2039
  ((loadN 4 p2038.2 (pv h.n 2)).bind fun c2040 =>
  (bin Ev .neq 27 (.agg c2040) (.agg [.int .i64 0, .int .i64 0, .int .i64 0, .str ⟨#[]⟩])).bind fun b2041 =>
  gcase b2041
  (some (iv .i64 1, p2038.2))
  ((load1 p2038.2 (pv h.n 0)).bind fun x2042 =>
  (bin Ev .neq 2 (.s x2042) (iv .i64 6)).bind fun b2043 =>
  gcase b2043
  ((load1 p2038.2 (pv h.n 6)).bind fun x2044 =>
  (bin Ev .neq 2 (.s x2044) (iv .i64 0)).bind fun b2045 =>
  vcase b2045
  (some (iv .i64 1, p2038.2))
  ((load1 p2038.2 (pv h.n 0)).bind fun x2046 =>
  (bin Ev .eql 2 (.s x2046) (iv .i64 4)).bind fun b2047 =>
  gcase b2047
  ((load1 p2038.2 (pv h.n 4)).bind fun x2048 =>
  (bin Ev .neq 2 (.s x2048) (iv .i64 0)).bind fun b2049 =>
  gcase b2049
  (some (iv .i64 1, p2038.2))
  ((load1 p2038.2 (pv h.n 5)).bind fun x2050 =>
  (bin Ev .neq 9 (.s x2050) (.s (.str (⟨#[]⟩)))).bind fun b2051 =>
  vcase b2051
  (some (iv .i64 1, p2038.2))
  ((unNot b377).bind fun v2052 =>
  gcase v2052
  ((load1 p2038.2 (pv h.n 1)).bind fun x2053 =>
  (call Ev Fn.impl_isTx [.s x2053] p2038.2).bind fun p2054 =>
  (unNot p2054.1).bind fun v2055 =>
  gcase v2055
  (some (iv .i64 3, p2054.2))
  ((load1 p2054.2 (pv h.n 6)).bind fun x2056 =>
  (call Ev Fn.impl_in [.s x2056, iv .i64 0, iv .i64 7] p2054.2).bind fun p2057 =>
  (unNot p2057.1).bind fun v2058 =>
  vcase v2058
  (some (iv .i64 3, p2057.2))
  ((load1 p2057.2 (pv h.n 0)).bind fun x2059 =>
  (call Ev Fn.impl_onRow [.s x2059] p2057.2).bind fun p2060 =>
  vcase p2060.1
  ((loadN 4 p2060.2 (pv h.n 2)).bind fun c2061 =>
  (call Ev Fn.impl_RowFault [.agg c2061] p2060.2).bind fun p2062 =>
  some (p2062.1, p2062.2))
  (some (iv .i64 0, p2060.2))))
  (none))
  ((load1 p2038.2 (pv h.n 6)).bind fun x2063 =>
  (call Ev Fn.impl_in [.s x2063, iv .i64 0, iv .i64 7] p2038.2).bind fun p2064 =>
  (unNot p2064.1).bind fun v2065 =>
  vcase v2065
  (some (iv .i64 3, p2064.2))
  ((load1 p2064.2 (pv h.n 0)).bind fun x2066 =>
  (call Ev Fn.impl_onRow [.s x2066] p2064.2).bind fun p2067 =>
  vcase p2067.1
  ((loadN 4 p2067.2 (pv h.n 2)).bind fun c2068 =>
  (call Ev Fn.impl_RowFault [.agg c2068] p2067.2).bind fun p2069 =>
  some (p2069.1, p2069.2))
  (some (iv .i64 0, p2067.2))))
  (none)))
  (vcase (.tup [])
  (some (iv .i64 1, p2038.2))
  (vcase (.tup [])
  (some (iv .i64 1, p2038.2))
  ((unNot b377).bind fun v2070 =>
  gcase v2070
  ((load1 p2038.2 (pv h.n 1)).bind fun x2071 =>
  (call Ev Fn.impl_isTx [.s x2071] p2038.2).bind fun p2072 =>
  (unNot p2072.1).bind fun v2073 =>
  gcase v2073
  (some (iv .i64 3, p2072.2))
  ((load1 p2072.2 (pv h.n 6)).bind fun x2074 =>
  (call Ev Fn.impl_in [.s x2074, iv .i64 0, iv .i64 7] p2072.2).bind fun p2075 =>
  (unNot p2075.1).bind fun v2076 =>
  vcase v2076
  (some (iv .i64 3, p2075.2))
  ((load1 p2075.2 (pv h.n 0)).bind fun x2077 =>
  (call Ev Fn.impl_onRow [.s x2077] p2075.2).bind fun p2078 =>
  vcase p2078.1
  ((loadN 4 p2078.2 (pv h.n 2)).bind fun c2079 =>
  (call Ev Fn.impl_RowFault [.agg c2079] p2078.2).bind fun p2080 =>
  some (p2080.1, p2080.2))
  (some (iv .i64 0, p2078.2))))
  (none))
  ((load1 p2038.2 (pv h.n 6)).bind fun x2081 =>
  (call Ev Fn.impl_in [.s x2081, iv .i64 0, iv .i64 7] p2038.2).bind fun p2082 =>
  (unNot p2082.1).bind fun v2083 =>
  vcase v2083
  (some (iv .i64 3, p2082.2))
  ((load1 p2082.2 (pv h.n 0)).bind fun x2084 =>
  (call Ev Fn.impl_onRow [.s x2084] p2082.2).bind fun p2085 =>
  vcase p2085.1
  ((loadN 4 p2085.2 (pv h.n 2)).bind fun c2086 =>
  (call Ev Fn.impl_RowFault [.agg c2086] p2085.2).bind fun p2087 =>
  some (p2087.1, p2087.2))
  (some (iv .i64 0, p2085.2))))
  (none)))))
  ((unNot b377).bind fun v2088 =>
  gcase v2088
  ((load1 p2038.2 (pv h.n 1)).bind fun x2089 =>
  (call Ev Fn.impl_isTx [.s x2089] p2038.2).bind fun p2090 =>
  (unNot p2090.1).bind fun v2091 =>
  gcase v2091
  (some (iv .i64 3, p2090.2))
  ((load1 p2090.2 (pv h.n 6)).bind fun x2092 =>
  (call Ev Fn.impl_in [.s x2092, iv .i64 0, iv .i64 7] p2090.2).bind fun p2093 =>
  (unNot p2093.1).bind fun v2094 =>
  vcase v2094
  (some (iv .i64 3, p2093.2))
  ((load1 p2093.2 (pv h.n 0)).bind fun x2095 =>
  (call Ev Fn.impl_onRow [.s x2095] p2093.2).bind fun p2096 =>
  vcase p2096.1
  ((loadN 4 p2096.2 (pv h.n 2)).bind fun c2097 =>
  (call Ev Fn.impl_RowFault [.agg c2097] p2096.2).bind fun p2098 =>
  some (p2098.1, p2098.2))
  (some (iv .i64 0, p2096.2))))
  (none))
  ((load1 p2038.2 (pv h.n 6)).bind fun x2099 =>
  (call Ev Fn.impl_in [.s x2099, iv .i64 0, iv .i64 7] p2038.2).bind fun p2100 =>
  (unNot p2100.1).bind fun v2101 =>
  vcase v2101
  (some (iv .i64 3, p2100.2))
  ((load1 p2100.2 (pv h.n 0)).bind fun x2102 =>
  (call Ev Fn.impl_onRow [.s x2102] p2100.2).bind fun p2103 =>
  vcase p2103.1
  ((loadN 4 p2103.2 (pv h.n 2)).bind fun c2104 =>
  (call Ev Fn.impl_RowFault [.agg c2104] p2103.2).bind fun p2105 =>
  some (p2105.1, p2105.2))
  (some (iv .i64 0, p2103.2))))
  (none))
  (none)))
  ((load1 p2038.2 (pv h.n 0)).bind fun x2106 =>
  (bin Ev .eql 2 (.s x2106) (iv .i64 4)).bind fun b2107 =>
  gcase b2107
  ((load1 p2038.2 (pv h.n 4)).bind fun x2108 =>
  (bin Ev .neq 2 (.s x2108) (iv .i64 0)).bind fun b2109 =>
  gcase b2109
  (some (iv .i64 1, p2038.2))
  ((load1 p2038.2 (pv h.n 5)).bind fun x2110 =>
  (bin Ev .neq 9 (.s x2110) (.s (.str (⟨#[]⟩)))).bind fun b2111 =>
  vcase b2111
  (some (iv .i64 1, p2038.2))
  ((unNot b377).bind fun v2112 =>
  gcase v2112
  ((load1 p2038.2 (pv h.n 1)).bind fun x2113 =>
  (call Ev Fn.impl_isTx [.s x2113] p2038.2).bind fun p2114 =>
  (unNot p2114.1).bind fun v2115 =>
  gcase v2115
  (some (iv .i64 3, p2114.2))
  ((load1 p2114.2 (pv h.n 6)).bind fun x2116 =>
  (call Ev Fn.impl_in [.s x2116, iv .i64 0, iv .i64 7] p2114.2).bind fun p2117 =>
  (unNot p2117.1).bind fun v2118 =>
  vcase v2118
  (some (iv .i64 3, p2117.2))
  ((load1 p2117.2 (pv h.n 0)).bind fun x2119 =>
  (call Ev Fn.impl_onRow [.s x2119] p2117.2).bind fun p2120 =>
  vcase p2120.1
  ((loadN 4 p2120.2 (pv h.n 2)).bind fun c2121 =>
  (call Ev Fn.impl_RowFault [.agg c2121] p2120.2).bind fun p2122 =>
  some (p2122.1, p2122.2))
  (some (iv .i64 0, p2120.2))))
  (none))
  ((load1 p2038.2 (pv h.n 6)).bind fun x2123 =>
  (call Ev Fn.impl_in [.s x2123, iv .i64 0, iv .i64 7] p2038.2).bind fun p2124 =>
  (unNot p2124.1).bind fun v2125 =>
  vcase v2125
  (some (iv .i64 3, p2124.2))
  ((load1 p2124.2 (pv h.n 0)).bind fun x2126 =>
  (call Ev Fn.impl_onRow [.s x2126] p2124.2).bind fun p2127 =>
  vcase p2127.1
  ((loadN 4 p2127.2 (pv h.n 2)).bind fun c2128 =>
  (call Ev Fn.impl_RowFault [.agg c2128] p2127.2).bind fun p2129 =>
  some (p2129.1, p2129.2))
  (some (iv .i64 0, p2127.2))))
  (none)))
  (vcase (.tup [])
  (some (iv .i64 1, p2038.2))
  (vcase (.tup [])
  (some (iv .i64 1, p2038.2))
  ((unNot b377).bind fun v2130 =>
  gcase v2130
  ((load1 p2038.2 (pv h.n 1)).bind fun x2131 =>
  (call Ev Fn.impl_isTx [.s x2131] p2038.2).bind fun p2132 =>
  (unNot p2132.1).bind fun v2133 =>
  gcase v2133
  (some (iv .i64 3, p2132.2))
  ((load1 p2132.2 (pv h.n 6)).bind fun x2134 =>
  (call Ev Fn.impl_in [.s x2134, iv .i64 0, iv .i64 7] p2132.2).bind fun p2135 =>
  (unNot p2135.1).bind fun v2136 =>
  vcase v2136
  (some (iv .i64 3, p2135.2))
  ((load1 p2135.2 (pv h.n 0)).bind fun x2137 =>
  (call Ev Fn.impl_onRow [.s x2137] p2135.2).bind fun p2138 =>
  vcase p2138.1
  ((loadN 4 p2138.2 (pv h.n 2)).bind fun c2139 =>
  (call Ev Fn.impl_RowFault [.agg c2139] p2138.2).bind fun p2140 =>
  some (p2140.1, p2140.2))
  (some (iv .i64 0, p2138.2))))
  (none))
  ((load1 p2038.2 (pv h.n 6)).bind fun x2141 =>
  (call Ev Fn.impl_in [.s x2141, iv .i64 0, iv .i64 7] p2038.2).bind fun p2142 =>
  (unNot p2142.1).bind fun v2143 =>
  vcase v2143
  (some (iv .i64 3, p2142.2))
  ((load1 p2142.2 (pv h.n 0)).bind fun x2144 =>
  (call Ev Fn.impl_onRow [.s x2144] p2142.2).bind fun p2145 =>
  vcase p2145.1
  ((loadN 4 p2145.2 (pv h.n 2)).bind fun c2146 =>
  (call Ev Fn.impl_RowFault [.agg c2146] p2145.2).bind fun p2147 =>
  some (p2147.1, p2147.2))
  (some (iv .i64 0, p2145.2))))
  (none)))))
  ((unNot b377).bind fun v2148 =>
  gcase v2148
  ((load1 p2038.2 (pv h.n 1)).bind fun x2149 =>
  (call Ev Fn.impl_isTx [.s x2149] p2038.2).bind fun p2150 =>
  (unNot p2150.1).bind fun v2151 =>
  gcase v2151
  (some (iv .i64 3, p2150.2))
  ((load1 p2150.2 (pv h.n 6)).bind fun x2152 =>
  (call Ev Fn.impl_in [.s x2152, iv .i64 0, iv .i64 7] p2150.2).bind fun p2153 =>
  (unNot p2153.1).bind fun v2154 =>
  vcase v2154
  (some (iv .i64 3, p2153.2))
  ((load1 p2153.2 (pv h.n 0)).bind fun x2155 =>
  (call Ev Fn.impl_onRow [.s x2155] p2153.2).bind fun p2156 =>
  vcase p2156.1
  ((loadN 4 p2156.2 (pv h.n 2)).bind fun c2157 =>
  (call Ev Fn.impl_RowFault [.agg c2157] p2156.2).bind fun p2158 =>
  some (p2158.1, p2158.2))
  (some (iv .i64 0, p2156.2))))
  (none))
  ((load1 p2038.2 (pv h.n 6)).bind fun x2159 =>
  (call Ev Fn.impl_in [.s x2159, iv .i64 0, iv .i64 7] p2038.2).bind fun p2160 =>
  (unNot p2160.1).bind fun v2161 =>
  vcase v2161
  (some (iv .i64 3, p2160.2))
  ((load1 p2160.2 (pv h.n 0)).bind fun x2162 =>
  (call Ev Fn.impl_onRow [.s x2162] p2160.2).bind fun p2163 =>
  vcase p2163.1
  ((loadN 4 p2163.2 (pv h.n 2)).bind fun c2164 =>
  (call Ev Fn.impl_RowFault [.agg c2164] p2163.2).bind fun p2165 =>
  some (p2165.1, p2165.2))
  (some (iv .i64 0, p2163.2))))
  (none))
  (none))
  (vcase (.tup [])
  (vcase (.tup [])
  (some (iv .i64 1, p2038.2))
  ((load1 p2038.2 (pv h.n 0)).bind fun x2166 =>
  (bin Ev .eql 2 (.s x2166) (iv .i64 4)).bind fun b2167 =>
  gcase b2167
  ((load1 p2038.2 (pv h.n 4)).bind fun x2168 =>
  (bin Ev .neq 2 (.s x2168) (iv .i64 0)).bind fun b2169 =>
  gcase b2169
  (some (iv .i64 1, p2038.2))
  ((load1 p2038.2 (pv h.n 5)).bind fun x2170 =>
  (bin Ev .neq 9 (.s x2170) (.s (.str (⟨#[]⟩)))).bind fun b2171 =>
  vcase b2171
  (some (iv .i64 1, p2038.2))
  ((unNot b377).bind fun v2172 =>
  gcase v2172
  ((load1 p2038.2 (pv h.n 1)).bind fun x2173 =>
  (call Ev Fn.impl_isTx [.s x2173] p2038.2).bind fun p2174 =>
  (unNot p2174.1).bind fun v2175 =>
  gcase v2175
  (some (iv .i64 3, p2174.2))
  ((load1 p2174.2 (pv h.n 6)).bind fun x2176 =>
  (call Ev Fn.impl_in [.s x2176, iv .i64 0, iv .i64 7] p2174.2).bind fun p2177 =>
  (unNot p2177.1).bind fun v2178 =>
  vcase v2178
  (some (iv .i64 3, p2177.2))
  ((load1 p2177.2 (pv h.n 0)).bind fun x2179 =>
  (call Ev Fn.impl_onRow [.s x2179] p2177.2).bind fun p2180 =>
  vcase p2180.1
  ((loadN 4 p2180.2 (pv h.n 2)).bind fun c2181 =>
  (call Ev Fn.impl_RowFault [.agg c2181] p2180.2).bind fun p2182 =>
  some (p2182.1, p2182.2))
  (some (iv .i64 0, p2180.2))))
  (none))
  ((load1 p2038.2 (pv h.n 6)).bind fun x2183 =>
  (call Ev Fn.impl_in [.s x2183, iv .i64 0, iv .i64 7] p2038.2).bind fun p2184 =>
  (unNot p2184.1).bind fun v2185 =>
  vcase v2185
  (some (iv .i64 3, p2184.2))
  ((load1 p2184.2 (pv h.n 0)).bind fun x2186 =>
  (call Ev Fn.impl_onRow [.s x2186] p2184.2).bind fun p2187 =>
  vcase p2187.1
  ((loadN 4 p2187.2 (pv h.n 2)).bind fun c2188 =>
  (call Ev Fn.impl_RowFault [.agg c2188] p2187.2).bind fun p2189 =>
  some (p2189.1, p2189.2))
  (some (iv .i64 0, p2187.2))))
  (none)))
  (vcase (.tup [])
  (some (iv .i64 1, p2038.2))
  (vcase (.tup [])
  (some (iv .i64 1, p2038.2))
  ((unNot b377).bind fun v2190 =>
  gcase v2190
  ((load1 p2038.2 (pv h.n 1)).bind fun x2191 =>
  (call Ev Fn.impl_isTx [.s x2191] p2038.2).bind fun p2192 =>
  (unNot p2192.1).bind fun v2193 =>
  gcase v2193
  (some (iv .i64 3, p2192.2))
  ((load1 p2192.2 (pv h.n 6)).bind fun x2194 =>
  (call Ev Fn.impl_in [.s x2194, iv .i64 0, iv .i64 7] p2192.2).bind fun p2195 =>
  (unNot p2195.1).bind fun v2196 =>
  vcase v2196
  (some (iv .i64 3, p2195.2))
  ((load1 p2195.2 (pv h.n 0)).bind fun x2197 =>
  (call Ev Fn.impl_onRow [.s x2197] p2195.2).bind fun p2198 =>
  vcase p2198.1
  ((loadN 4 p2198.2 (pv h.n 2)).bind fun c2199 =>
  (call Ev Fn.impl_RowFault [.agg c2199] p2198.2).bind fun p2200 =>
  some (p2200.1, p2200.2))
  (some (iv .i64 0, p2198.2))))
  (none))
  ((load1 p2038.2 (pv h.n 6)).bind fun x2201 =>
  (call Ev Fn.impl_in [.s x2201, iv .i64 0, iv .i64 7] p2038.2).bind fun p2202 =>
  (unNot p2202.1).bind fun v2203 =>
  vcase v2203
  (some (iv .i64 3, p2202.2))
  ((load1 p2202.2 (pv h.n 0)).bind fun x2204 =>
  (call Ev Fn.impl_onRow [.s x2204] p2202.2).bind fun p2205 =>
  vcase p2205.1
  ((loadN 4 p2205.2 (pv h.n 2)).bind fun c2206 =>
  (call Ev Fn.impl_RowFault [.agg c2206] p2205.2).bind fun p2207 =>
  some (p2207.1, p2207.2))
  (some (iv .i64 0, p2205.2))))
  (none)))))
  ((unNot b377).bind fun v2208 =>
  gcase v2208
  ((load1 p2038.2 (pv h.n 1)).bind fun x2209 =>
  (call Ev Fn.impl_isTx [.s x2209] p2038.2).bind fun p2210 =>
  (unNot p2210.1).bind fun v2211 =>
  gcase v2211
  (some (iv .i64 3, p2210.2))
  ((load1 p2210.2 (pv h.n 6)).bind fun x2212 =>
  (call Ev Fn.impl_in [.s x2212, iv .i64 0, iv .i64 7] p2210.2).bind fun p2213 =>
  (unNot p2213.1).bind fun v2214 =>
  vcase v2214
  (some (iv .i64 3, p2213.2))
  ((load1 p2213.2 (pv h.n 0)).bind fun x2215 =>
  (call Ev Fn.impl_onRow [.s x2215] p2213.2).bind fun p2216 =>
  vcase p2216.1
  ((loadN 4 p2216.2 (pv h.n 2)).bind fun c2217 =>
  (call Ev Fn.impl_RowFault [.agg c2217] p2216.2).bind fun p2218 =>
  some (p2218.1, p2218.2))
  (some (iv .i64 0, p2216.2))))
  (none))
  ((load1 p2038.2 (pv h.n 6)).bind fun x2219 =>
  (call Ev Fn.impl_in [.s x2219, iv .i64 0, iv .i64 7] p2038.2).bind fun p2220 =>
  (unNot p2220.1).bind fun v2221 =>
  vcase v2221
  (some (iv .i64 3, p2220.2))
  ((load1 p2220.2 (pv h.n 0)).bind fun x2222 =>
  (call Ev Fn.impl_onRow [.s x2222] p2220.2).bind fun p2223 =>
  vcase p2223.1
  ((loadN 4 p2223.2 (pv h.n 2)).bind fun c2224 =>
  (call Ev Fn.impl_RowFault [.agg c2224] p2223.2).bind fun p2225 =>
  some (p2225.1, p2225.2))
  (some (iv .i64 0, p2223.2))))
  (none))
  (none)))
  ((load1 p2038.2 (pv h.n 0)).bind fun x2226 =>
  (bin Ev .eql 2 (.s x2226) (iv .i64 4)).bind fun b2227 =>
  gcase b2227
  ((load1 p2038.2 (pv h.n 4)).bind fun x2228 =>
  (bin Ev .neq 2 (.s x2228) (iv .i64 0)).bind fun b2229 =>
  gcase b2229
  (some (iv .i64 1, p2038.2))
  ((load1 p2038.2 (pv h.n 5)).bind fun x2230 =>
  (bin Ev .neq 9 (.s x2230) (.s (.str (⟨#[]⟩)))).bind fun b2231 =>
  vcase b2231
  (some (iv .i64 1, p2038.2))
  ((unNot b377).bind fun v2232 =>
  gcase v2232
  ((load1 p2038.2 (pv h.n 1)).bind fun x2233 =>
  (call Ev Fn.impl_isTx [.s x2233] p2038.2).bind fun p2234 =>
  (unNot p2234.1).bind fun v2235 =>
  gcase v2235
  (some (iv .i64 3, p2234.2))
  ((load1 p2234.2 (pv h.n 6)).bind fun x2236 =>
  (call Ev Fn.impl_in [.s x2236, iv .i64 0, iv .i64 7] p2234.2).bind fun p2237 =>
  (unNot p2237.1).bind fun v2238 =>
  vcase v2238
  (some (iv .i64 3, p2237.2))
  ((load1 p2237.2 (pv h.n 0)).bind fun x2239 =>
  (call Ev Fn.impl_onRow [.s x2239] p2237.2).bind fun p2240 =>
  vcase p2240.1
  ((loadN 4 p2240.2 (pv h.n 2)).bind fun c2241 =>
  (call Ev Fn.impl_RowFault [.agg c2241] p2240.2).bind fun p2242 =>
  some (p2242.1, p2242.2))
  (some (iv .i64 0, p2240.2))))
  (none))
  ((load1 p2038.2 (pv h.n 6)).bind fun x2243 =>
  (call Ev Fn.impl_in [.s x2243, iv .i64 0, iv .i64 7] p2038.2).bind fun p2244 =>
  (unNot p2244.1).bind fun v2245 =>
  vcase v2245
  (some (iv .i64 3, p2244.2))
  ((load1 p2244.2 (pv h.n 0)).bind fun x2246 =>
  (call Ev Fn.impl_onRow [.s x2246] p2244.2).bind fun p2247 =>
  vcase p2247.1
  ((loadN 4 p2247.2 (pv h.n 2)).bind fun c2248 =>
  (call Ev Fn.impl_RowFault [.agg c2248] p2247.2).bind fun p2249 =>
  some (p2249.1, p2249.2))
  (some (iv .i64 0, p2247.2))))
  (none)))
  (vcase (.tup [])
  (some (iv .i64 1, p2038.2))
  (vcase (.tup [])
  (some (iv .i64 1, p2038.2))
  ((unNot b377).bind fun v2250 =>
  gcase v2250
  ((load1 p2038.2 (pv h.n 1)).bind fun x2251 =>
  (call Ev Fn.impl_isTx [.s x2251] p2038.2).bind fun p2252 =>
  (unNot p2252.1).bind fun v2253 =>
  gcase v2253
  (some (iv .i64 3, p2252.2))
  ((load1 p2252.2 (pv h.n 6)).bind fun x2254 =>
  (call Ev Fn.impl_in [.s x2254, iv .i64 0, iv .i64 7] p2252.2).bind fun p2255 =>
  (unNot p2255.1).bind fun v2256 =>
  vcase v2256
  (some (iv .i64 3, p2255.2))
  ((load1 p2255.2 (pv h.n 0)).bind fun x2257 =>
  (call Ev Fn.impl_onRow [.s x2257] p2255.2).bind fun p2258 =>
  vcase p2258.1
  ((loadN 4 p2258.2 (pv h.n 2)).bind fun c2259 =>
  (call Ev Fn.impl_RowFault [.agg c2259] p2258.2).bind fun p2260 =>
  some (p2260.1, p2260.2))
  (some (iv .i64 0, p2258.2))))
  (none))
  ((load1 p2038.2 (pv h.n 6)).bind fun x2261 =>
  (call Ev Fn.impl_in [.s x2261, iv .i64 0, iv .i64 7] p2038.2).bind fun p2262 =>
  (unNot p2262.1).bind fun v2263 =>
  vcase v2263
  (some (iv .i64 3, p2262.2))
  ((load1 p2262.2 (pv h.n 0)).bind fun x2264 =>
  (call Ev Fn.impl_onRow [.s x2264] p2262.2).bind fun p2265 =>
  vcase p2265.1
  ((loadN 4 p2265.2 (pv h.n 2)).bind fun c2266 =>
  (call Ev Fn.impl_RowFault [.agg c2266] p2265.2).bind fun p2267 =>
  some (p2267.1, p2267.2))
  (some (iv .i64 0, p2265.2))))
  (none)))))
  ((unNot b377).bind fun v2268 =>
  gcase v2268
  ((load1 p2038.2 (pv h.n 1)).bind fun x2269 =>
  (call Ev Fn.impl_isTx [.s x2269] p2038.2).bind fun p2270 =>
  (unNot p2270.1).bind fun v2271 =>
  gcase v2271
  (some (iv .i64 3, p2270.2))
  ((load1 p2270.2 (pv h.n 6)).bind fun x2272 =>
  (call Ev Fn.impl_in [.s x2272, iv .i64 0, iv .i64 7] p2270.2).bind fun p2273 =>
  (unNot p2273.1).bind fun v2274 =>
  vcase v2274
  (some (iv .i64 3, p2273.2))
  ((load1 p2273.2 (pv h.n 0)).bind fun x2275 =>
  (call Ev Fn.impl_onRow [.s x2275] p2273.2).bind fun p2276 =>
  vcase p2276.1
  ((loadN 4 p2276.2 (pv h.n 2)).bind fun c2277 =>
  (call Ev Fn.impl_RowFault [.agg c2277] p2276.2).bind fun p2278 =>
  some (p2278.1, p2278.2))
  (some (iv .i64 0, p2276.2))))
  (none))
  ((load1 p2038.2 (pv h.n 6)).bind fun x2279 =>
  (call Ev Fn.impl_in [.s x2279, iv .i64 0, iv .i64 7] p2038.2).bind fun p2280 =>
  (unNot p2280.1).bind fun v2281 =>
  vcase v2281
  (some (iv .i64 3, p2280.2))
  ((load1 p2280.2 (pv h.n 0)).bind fun x2282 =>
  (call Ev Fn.impl_onRow [.s x2282] p2280.2).bind fun p2283 =>
  vcase p2283.1
  ((loadN 4 p2283.2 (pv h.n 2)).bind fun c2284 =>
  (call Ev Fn.impl_RowFault [.agg c2284] p2283.2).bind fun p2285 =>
  some (p2285.1, p2285.2))
  (some (iv .i64 0, p2283.2))))
  (none))
  (none))))
  (none))
  ((load1 p2038.2 (pv h.n 0)).bind fun x2286 =>
  (bin Ev .neq 2 (.s x2286) (iv .i64 6)).bind fun b2287 =>
  gcase b2287
  ((load1 p2038.2 (pv h.n 6)).bind fun x2288 =>
  (bin Ev .neq 2 (.s x2288) (iv .i64 0)).bind fun b2289 =>
  vcase b2289
  (some (iv .i64 1, p2038.2))
  ((load1 p2038.2 (pv h.n 0)).bind fun x2290 =>
  (bin Ev .eql 2 (.s x2290) (iv .i64 4)).bind fun b2291 =>
  gcase b2291
  ((load1 p2038.2 (pv h.n 4)).bind fun x2292 =>
  (bin Ev .neq 2 (.s x2292) (iv .i64 0)).bind fun b2293 =>
  gcase b2293
  (some (iv .i64 1, p2038.2))
  ((load1 p2038.2 (pv h.n 5)).bind fun x2294 =>
  (bin Ev .neq 9 (.s x2294) (.s (.str (⟨#[]⟩)))).bind fun b2295 =>
  vcase b2295
  (some (iv .i64 1, p2038.2))
  ((unNot b377).bind fun v2296 =>
  gcase v2296
  ((load1 p2038.2 (pv h.n 1)).bind fun x2297 =>
  (call Ev Fn.impl_isTx [.s x2297] p2038.2).bind fun p2298 =>
  (unNot p2298.1).bind fun v2299 =>
  gcase v2299
  (some (iv .i64 3, p2298.2))
  ((load1 p2298.2 (pv h.n 6)).bind fun x2300 =>
  (call Ev Fn.impl_in [.s x2300, iv .i64 0, iv .i64 7] p2298.2).bind fun p2301 =>
  (unNot p2301.1).bind fun v2302 =>
  vcase v2302
  (some (iv .i64 3, p2301.2))
  ((load1 p2301.2 (pv h.n 0)).bind fun x2303 =>
  (call Ev Fn.impl_onRow [.s x2303] p2301.2).bind fun p2304 =>
  vcase p2304.1
  ((loadN 4 p2304.2 (pv h.n 2)).bind fun c2305 =>
  (call Ev Fn.impl_RowFault [.agg c2305] p2304.2).bind fun p2306 =>
  some (p2306.1, p2306.2))
  (some (iv .i64 0, p2304.2))))
  (none))
  ((load1 p2038.2 (pv h.n 6)).bind fun x2307 =>
  (call Ev Fn.impl_in [.s x2307, iv .i64 0, iv .i64 7] p2038.2).bind fun p2308 =>
  (unNot p2308.1).bind fun v2309 =>
  vcase v2309
  (some (iv .i64 3, p2308.2))
  ((load1 p2308.2 (pv h.n 0)).bind fun x2310 =>
  (call Ev Fn.impl_onRow [.s x2310] p2308.2).bind fun p2311 =>
  vcase p2311.1
  ((loadN 4 p2311.2 (pv h.n 2)).bind fun c2312 =>
  (call Ev Fn.impl_RowFault [.agg c2312] p2311.2).bind fun p2313 =>
  some (p2313.1, p2313.2))
  (some (iv .i64 0, p2311.2))))
  (none)))
  (vcase (.tup [])
  (some (iv .i64 1, p2038.2))
  (vcase (.tup [])
  (some (iv .i64 1, p2038.2))
  ((unNot b377).bind fun v2314 =>
  gcase v2314
  ((load1 p2038.2 (pv h.n 1)).bind fun x2315 =>
  (call Ev Fn.impl_isTx [.s x2315] p2038.2).bind fun p2316 =>
  (unNot p2316.1).bind fun v2317 =>
  gcase v2317
  (some (iv .i64 3, p2316.2))
  ((load1 p2316.2 (pv h.n 6)).bind fun x2318 =>
  (call Ev Fn.impl_in [.s x2318, iv .i64 0, iv .i64 7] p2316.2).bind fun p2319 =>
  (unNot p2319.1).bind fun v2320 =>
  vcase v2320
  (some (iv .i64 3, p2319.2))
  ((load1 p2319.2 (pv h.n 0)).bind fun x2321 =>
  (call Ev Fn.impl_onRow [.s x2321] p2319.2).bind fun p2322 =>
  vcase p2322.1
  ((loadN 4 p2322.2 (pv h.n 2)).bind fun c2323 =>
  (call Ev Fn.impl_RowFault [.agg c2323] p2322.2).bind fun p2324 =>
  some (p2324.1, p2324.2))
  (some (iv .i64 0, p2322.2))))
  (none))
  ((load1 p2038.2 (pv h.n 6)).bind fun x2325 =>
  (call Ev Fn.impl_in [.s x2325, iv .i64 0, iv .i64 7] p2038.2).bind fun p2326 =>
  (unNot p2326.1).bind fun v2327 =>
  vcase v2327
  (some (iv .i64 3, p2326.2))
  ((load1 p2326.2 (pv h.n 0)).bind fun x2328 =>
  (call Ev Fn.impl_onRow [.s x2328] p2326.2).bind fun p2329 =>
  vcase p2329.1
  ((loadN 4 p2329.2 (pv h.n 2)).bind fun c2330 =>
  (call Ev Fn.impl_RowFault [.agg c2330] p2329.2).bind fun p2331 =>
  some (p2331.1, p2331.2))
  (some (iv .i64 0, p2329.2))))
  (none)))))
  ((unNot b377).bind fun v2332 =>
  gcase v2332
  ((load1 p2038.2 (pv h.n 1)).bind fun x2333 =>
  (call Ev Fn.impl_isTx [.s x2333] p2038.2).bind fun p2334 =>
  (unNot p2334.1).bind fun v2335 =>
  gcase v2335
  (some (iv .i64 3, p2334.2))
  ((load1 p2334.2 (pv h.n 6)).bind fun x2336 =>
  (call Ev Fn.impl_in [.s x2336, iv .i64 0, iv .i64 7] p2334.2).bind fun p2337 =>
  (unNot p2337.1).bind fun v2338 =>
  vcase v2338
  (some (iv .i64 3, p2337.2))
  ((load1 p2337.2 (pv h.n 0)).bind fun x2339 =>
  (call Ev Fn.impl_onRow [.s x2339] p2337.2).bind fun p2340 =>
  vcase p2340.1
  ((loadN 4 p2340.2 (pv h.n 2)).bind fun c2341 =>
  (call Ev Fn.impl_RowFault [.agg c2341] p2340.2).bind fun p2342 =>
  some (p2342.1, p2342.2))
  (some (iv .i64 0, p2340.2))))
  (none))
  ((load1 p2038.2 (pv h.n 6)).bind fun x2343 =>
  (call Ev Fn.impl_in [.s x2343, iv .i64 0, iv .i64 7] p2038.2).bind fun p2344 =>
  (unNot p2344.1).bind fun v2345 =>
  vcase v2345
  (some (iv .i64 3, p2344.2))
  ((load1 p2344.2 (pv h.n 0)).bind fun x2346 =>
  (call Ev Fn.impl_onRow [.s x2346] p2344.2).bind fun p2347 =>
  vcase p2347.1
  ((loadN 4 p2347.2 (pv h.n 2)).bind fun c2348 =>
  (call Ev Fn.impl_RowFault [.agg c2348] p2347.2).bind fun p2349 =>
  some (p2349.1, p2349.2))
  (some (iv .i64 0, p2347.2))))
  (none))
  (none)))
  ((load1 p2038.2 (pv h.n 0)).bind fun x2350 =>
  (bin Ev .eql 2 (.s x2350) (iv .i64 4)).bind fun b2351 =>
  gcase b2351
  ((load1 p2038.2 (pv h.n 4)).bind fun x2352 =>
  (bin Ev .neq 2 (.s x2352) (iv .i64 0)).bind fun b2353 =>
  gcase b2353
  (some (iv .i64 1, p2038.2))
  ((load1 p2038.2 (pv h.n 5)).bind fun x2354 =>
  (bin Ev .neq 9 (.s x2354) (.s (.str (⟨#[]⟩)))).bind fun b2355 =>
  vcase b2355
  (some (iv .i64 1, p2038.2))
  ((unNot b377).bind fun v2356 =>
  gcase v2356
  ((load1 p2038.2 (pv h.n 1)).bind fun x2357 =>
  (call Ev Fn.impl_isTx [.s x2357] p2038.2).bind fun p2358 =>
  (unNot p2358.1).bind fun v2359 =>
  gcase v2359
  (some (iv .i64 3, p2358.2))
  ((load1 p2358.2 (pv h.n 6)).bind fun x2360 =>
  (call Ev Fn.impl_in [.s x2360, iv .i64 0, iv .i64 7] p2358.2).bind fun p2361 =>
  (unNot p2361.1).bind fun v2362 =>
  vcase v2362
  (some (iv .i64 3, p2361.2))
  ((load1 p2361.2 (pv h.n 0)).bind fun x2363 =>
  (call Ev Fn.impl_onRow [.s x2363] p2361.2).bind fun p2364 =>
  vcase p2364.1
  ((loadN 4 p2364.2 (pv h.n 2)).bind fun c2365 =>
  (call Ev Fn.impl_RowFault [.agg c2365] p2364.2).bind fun p2366 =>
  some (p2366.1, p2366.2))
  (some (iv .i64 0, p2364.2))))
  (none))
  ((load1 p2038.2 (pv h.n 6)).bind fun x2367 =>
  (call Ev Fn.impl_in [.s x2367, iv .i64 0, iv .i64 7] p2038.2).bind fun p2368 =>
  (unNot p2368.1).bind fun v2369 =>
  vcase v2369
  (some (iv .i64 3, p2368.2))
  ((load1 p2368.2 (pv h.n 0)).bind fun x2370 =>
  (call Ev Fn.impl_onRow [.s x2370] p2368.2).bind fun p2371 =>
  vcase p2371.1
  ((loadN 4 p2371.2 (pv h.n 2)).bind fun c2372 =>
  (call Ev Fn.impl_RowFault [.agg c2372] p2371.2).bind fun p2373 =>
  some (p2373.1, p2373.2))
  (some (iv .i64 0, p2371.2))))
  (none)))
  (vcase (.tup [])
  (some (iv .i64 1, p2038.2))
  (vcase (.tup [])
  (some (iv .i64 1, p2038.2))
  ((unNot b377).bind fun v2374 =>
  gcase v2374
  ((load1 p2038.2 (pv h.n 1)).bind fun x2375 =>
  (call Ev Fn.impl_isTx [.s x2375] p2038.2).bind fun p2376 =>
  (unNot p2376.1).bind fun v2377 =>
  gcase v2377
  (some (iv .i64 3, p2376.2))
  ((load1 p2376.2 (pv h.n 6)).bind fun x2378 =>
  (call Ev Fn.impl_in [.s x2378, iv .i64 0, iv .i64 7] p2376.2).bind fun p2379 =>
  (unNot p2379.1).bind fun v2380 =>
  vcase v2380
  (some (iv .i64 3, p2379.2))
  ((load1 p2379.2 (pv h.n 0)).bind fun x2381 =>
  (call Ev Fn.impl_onRow [.s x2381] p2379.2).bind fun p2382 =>
  vcase p2382.1
  ((loadN 4 p2382.2 (pv h.n 2)).bind fun c2383 =>
  (call Ev Fn.impl_RowFault [.agg c2383] p2382.2).bind fun p2384 =>
  some (p2384.1, p2384.2))
  (some (iv .i64 0, p2382.2))))
  (none))
  ((load1 p2038.2 (pv h.n 6)).bind fun x2385 =>
  (call Ev Fn.impl_in [.s x2385, iv .i64 0, iv .i64 7] p2038.2).bind fun p2386 =>
  (unNot p2386.1).bind fun v2387 =>
  vcase v2387
  (some (iv .i64 3, p2386.2))
  ((load1 p2386.2 (pv h.n 0)).bind fun x2388 =>
  (call Ev Fn.impl_onRow [.s x2388] p2386.2).bind fun p2389 =>
  vcase p2389.1
  ((loadN 4 p2389.2 (pv h.n 2)).bind fun c2390 =>
  (call Ev Fn.impl_RowFault [.agg c2390] p2389.2).bind fun p2391 =>
  some (p2391.1, p2391.2))
  (some (iv .i64 0, p2389.2))))
  (none)))))
  ((unNot b377).bind fun v2392 =>
  gcase v2392
  ((load1 p2038.2 (pv h.n 1)).bind fun x2393 =>
  (call Ev Fn.impl_isTx [.s x2393] p2038.2).bind fun p2394 =>
  (unNot p2394.1).bind fun v2395 =>
  gcase v2395
  (some (iv .i64 3, p2394.2))
  ((load1 p2394.2 (pv h.n 6)).bind fun x2396 =>
  (call Ev Fn.impl_in [.s x2396, iv .i64 0, iv .i64 7] p2394.2).bind fun p2397 =>
  (unNot p2397.1).bind fun v2398 =>
  vcase v2398
  (some (iv .i64 3, p2397.2))
  ((load1 p2397.2 (pv h.n 0)).bind fun x2399 =>
  (call Ev Fn.impl_onRow [.s x2399] p2397.2).bind fun p2400 =>
  vcase p2400.1
  ((loadN 4 p2400.2 (pv h.n 2)).bind fun c2401 =>
  (call Ev Fn.impl_RowFault [.agg c2401] p2400.2).bind fun p2402 =>
  some (p2402.1, p2402.2))
  (some (iv .i64 0, p2400.2))))
  (none))
  ((load1 p2038.2 (pv h.n 6)).bind fun x2403 =>
  (call Ev Fn.impl_in [.s x2403, iv .i64 0, iv .i64 7] p2038.2).bind fun p2404 =>
  (unNot p2404.1).bind fun v2405 =>
  vcase v2405
  (some (iv .i64 3, p2404.2))
  ((load1 p2404.2 (pv h.n 0)).bind fun x2406 =>
  (call Ev Fn.impl_onRow [.s x2406] p2404.2).bind fun p2407 =>
  vcase p2407.1
  ((loadN 4 p2407.2 (pv h.n 2)).bind fun c2408 =>
  (call Ev Fn.impl_RowFault [.agg c2408] p2407.2).bind fun p2409 =>
  some (p2409.1, p2409.2))
  (some (iv .i64 0, p2407.2))))
  (none))
  (none))
  (vcase (.tup [])
  (vcase (.tup [])
  (some (iv .i64 1, p2038.2))
  ((load1 p2038.2 (pv h.n 0)).bind fun x2410 =>
  (bin Ev .eql 2 (.s x2410) (iv .i64 4)).bind fun b2411 =>
  gcase b2411
  ((load1 p2038.2 (pv h.n 4)).bind fun x2412 =>
  (bin Ev .neq 2 (.s x2412) (iv .i64 0)).bind fun b2413 =>
  gcase b2413
  (some (iv .i64 1, p2038.2))
  ((load1 p2038.2 (pv h.n 5)).bind fun x2414 =>
  (bin Ev .neq 9 (.s x2414) (.s (.str (⟨#[]⟩)))).bind fun b2415 =>
  vcase b2415
  (some (iv .i64 1, p2038.2))
  ((unNot b377).bind fun v2416 =>
  gcase v2416
  ((load1 p2038.2 (pv h.n 1)).bind fun x2417 =>
  (call Ev Fn.impl_isTx [.s x2417] p2038.2).bind fun p2418 =>
  (unNot p2418.1).bind fun v2419 =>
  gcase v2419
  (some (iv .i64 3, p2418.2))
  ((load1 p2418.2 (pv h.n 6)).bind fun x2420 =>
  (call Ev Fn.impl_in [.s x2420, iv .i64 0, iv .i64 7] p2418.2).bind fun p2421 =>
  (unNot p2421.1).bind fun v2422 =>
  vcase v2422
  (some (iv .i64 3, p2421.2))
  ((load1 p2421.2 (pv h.n 0)).bind fun x2423 =>
  (call Ev Fn.impl_onRow [.s x2423] p2421.2).bind fun p2424 =>
  vcase p2424.1
  ((loadN 4 p2424.2 (pv h.n 2)).bind fun c2425 =>
  (call Ev Fn.impl_RowFault [.agg c2425] p2424.2).bind fun p2426 =>
  some (p2426.1, p2426.2))
  (some (iv .i64 0, p2424.2))))
  (none))
  ((load1 p2038.2 (pv h.n 6)).bind fun x2427 =>
  (call Ev Fn.impl_in [.s x2427, iv .i64 0, iv .i64 7] p2038.2).bind fun p2428 =>
  (unNot p2428.1).bind fun v2429 =>
  vcase v2429
  (some (iv .i64 3, p2428.2))
  ((load1 p2428.2 (pv h.n 0)).bind fun x2430 =>
  (call Ev Fn.impl_onRow [.s x2430] p2428.2).bind fun p2431 =>
  vcase p2431.1
  ((loadN 4 p2431.2 (pv h.n 2)).bind fun c2432 =>
  (call Ev Fn.impl_RowFault [.agg c2432] p2431.2).bind fun p2433 =>
  some (p2433.1, p2433.2))
  (some (iv .i64 0, p2431.2))))
  (none)))
  (vcase (.tup [])
  (some (iv .i64 1, p2038.2))
  (vcase (.tup [])
  (some (iv .i64 1, p2038.2))
  ((unNot b377).bind fun v2434 =>
  gcase v2434
  ((load1 p2038.2 (pv h.n 1)).bind fun x2435 =>
  (call Ev Fn.impl_isTx [.s x2435] p2038.2).bind fun p2436 =>
  (unNot p2436.1).bind fun v2437 =>
  gcase v2437
  (some (iv .i64 3, p2436.2))
  ((load1 p2436.2 (pv h.n 6)).bind fun x2438 =>
  (call Ev Fn.impl_in [.s x2438, iv .i64 0, iv .i64 7] p2436.2).bind fun p2439 =>
  (unNot p2439.1).bind fun v2440 =>
  vcase v2440
  (some (iv .i64 3, p2439.2))
  ((load1 p2439.2 (pv h.n 0)).bind fun x2441 =>
  (call Ev Fn.impl_onRow [.s x2441] p2439.2).bind fun p2442 =>
  vcase p2442.1
  ((loadN 4 p2442.2 (pv h.n 2)).bind fun c2443 =>
  (call Ev Fn.impl_RowFault [.agg c2443] p2442.2).bind fun p2444 =>
  some (p2444.1, p2444.2))
  (some (iv .i64 0, p2442.2))))
  (none))
  ((load1 p2038.2 (pv h.n 6)).bind fun x2445 =>
  (call Ev Fn.impl_in [.s x2445, iv .i64 0, iv .i64 7] p2038.2).bind fun p2446 =>
  (unNot p2446.1).bind fun v2447 =>
  vcase v2447
  (some (iv .i64 3, p2446.2))
  ((load1 p2446.2 (pv h.n 0)).bind fun x2448 =>
  (call Ev Fn.impl_onRow [.s x2448] p2446.2).bind fun p2449 =>
  vcase p2449.1
  ((loadN 4 p2449.2 (pv h.n 2)).bind fun c2450 =>
  (call Ev Fn.impl_RowFault [.agg c2450] p2449.2).bind fun p2451 =>
  some (p2451.1, p2451.2))
  (some (iv .i64 0, p2449.2))))
  (none)))))
  ((unNot b377).bind fun v2452 =>
  gcase v2452
  ((load1 p2038.2 (pv h.n 1)).bind fun x2453 =>
  (call Ev Fn.impl_isTx [.s x2453] p2038.2).bind fun p2454 =>
  (unNot p2454.1).bind fun v2455 =>
  gcase v2455
  (some (iv .i64 3, p2454.2))
  ((load1 p2454.2 (pv h.n 6)).bind fun x2456 =>
  (call Ev Fn.impl_in [.s x2456, iv .i64 0, iv .i64 7] p2454.2).bind fun p2457 =>
  (unNot p2457.1).bind fun v2458 =>
  vcase v2458
  (some (iv .i64 3, p2457.2))
  ((load1 p2457.2 (pv h.n 0)).bind fun x2459 =>
  (call Ev Fn.impl_onRow [.s x2459] p2457.2).bind fun p2460 =>
  vcase p2460.1
  ((loadN 4 p2460.2 (pv h.n 2)).bind fun c2461 =>
  (call Ev Fn.impl_RowFault [.agg c2461] p2460.2).bind fun p2462 =>
  some (p2462.1, p2462.2))
  (some (iv .i64 0, p2460.2))))
  (none))
  ((load1 p2038.2 (pv h.n 6)).bind fun x2463 =>
  (call Ev Fn.impl_in [.s x2463, iv .i64 0, iv .i64 7] p2038.2).bind fun p2464 =>
  (unNot p2464.1).bind fun v2465 =>
  vcase v2465
  (some (iv .i64 3, p2464.2))
  ((load1 p2464.2 (pv h.n 0)).bind fun x2466 =>
  (call Ev Fn.impl_onRow [.s x2466] p2464.2).bind fun p2467 =>
  vcase p2467.1
  ((loadN 4 p2467.2 (pv h.n 2)).bind fun c2468 =>
  (call Ev Fn.impl_RowFault [.agg c2468] p2467.2).bind fun p2469 =>
  some (p2469.1, p2469.2))
  (some (iv .i64 0, p2467.2))))
  (none))
  (none)))
  ((load1 p2038.2 (pv h.n 0)).bind fun x2470 =>
  (bin Ev .eql 2 (.s x2470) (iv .i64 4)).bind fun b2471 =>
  gcase b2471
  ((load1 p2038.2 (pv h.n 4)).bind fun x2472 =>
  (bin Ev .neq 2 (.s x2472) (iv .i64 0)).bind fun b2473 =>
  gcase b2473
  (some (iv .i64 1, p2038.2))
  ((load1 p2038.2 (pv h.n 5)).bind fun x2474 =>
  (bin Ev .neq 9 (.s x2474) (.s (.str (⟨#[]⟩)))).bind fun b2475 =>
  vcase b2475
  (some (iv .i64 1, p2038.2))
  ((unNot b377).bind fun v2476 =>
  gcase v2476
  ((load1 p2038.2 (pv h.n 1)).bind fun x2477 =>
  (call Ev Fn.impl_isTx [.s x2477] p2038.2).bind fun p2478 =>
  (unNot p2478.1).bind fun v2479 =>
  gcase v2479
  (some (iv .i64 3, p2478.2))
  ((load1 p2478.2 (pv h.n 6)).bind fun x2480 =>
  (call Ev Fn.impl_in [.s x2480, iv .i64 0, iv .i64 7] p2478.2).bind fun p2481 =>
  (unNot p2481.1).bind fun v2482 =>
  vcase v2482
  (some (iv .i64 3, p2481.2))
  ((load1 p2481.2 (pv h.n 0)).bind fun x2483 =>
  (call Ev Fn.impl_onRow [.s x2483] p2481.2).bind fun p2484 =>
  vcase p2484.1
  ((loadN 4 p2484.2 (pv h.n 2)).bind fun c2485 =>
  (call Ev Fn.impl_RowFault [.agg c2485] p2484.2).bind fun p2486 =>
  some (p2486.1, p2486.2))
  (some (iv .i64 0, p2484.2))))
  (none))
  ((load1 p2038.2 (pv h.n 6)).bind fun x2487 =>
  (call Ev Fn.impl_in [.s x2487, iv .i64 0, iv .i64 7] p2038.2).bind fun p2488 =>
  (unNot p2488.1).bind fun v2489 =>
  vcase v2489
  (some (iv .i64 3, p2488.2))
  ((load1 p2488.2 (pv h.n 0)).bind fun x2490 =>
  (call Ev Fn.impl_onRow [.s x2490] p2488.2).bind fun p2491 =>
  vcase p2491.1
  ((loadN 4 p2491.2 (pv h.n 2)).bind fun c2492 =>
  (call Ev Fn.impl_RowFault [.agg c2492] p2491.2).bind fun p2493 =>
  some (p2493.1, p2493.2))
  (some (iv .i64 0, p2491.2))))
  (none)))
  (vcase (.tup [])
  (some (iv .i64 1, p2038.2))
  (vcase (.tup [])
  (some (iv .i64 1, p2038.2))
  ((unNot b377).bind fun v2494 =>
  gcase v2494
  ((load1 p2038.2 (pv h.n 1)).bind fun x2495 =>
  (call Ev Fn.impl_isTx [.s x2495] p2038.2).bind fun p2496 =>
  (unNot p2496.1).bind fun v2497 =>
  gcase v2497
  (some (iv .i64 3, p2496.2))
  ((load1 p2496.2 (pv h.n 6)).bind fun x2498 =>
  (call Ev Fn.impl_in [.s x2498, iv .i64 0, iv .i64 7] p2496.2).bind fun p2499 =>
  (unNot p2499.1).bind fun v2500 =>
  vcase v2500
  (some (iv .i64 3, p2499.2))
  ((load1 p2499.2 (pv h.n 0)).bind fun x2501 =>
  (call Ev Fn.impl_onRow [.s x2501] p2499.2).bind fun p2502 =>
  vcase p2502.1
  ((loadN 4 p2502.2 (pv h.n 2)).bind fun c2503 =>
  (call Ev Fn.impl_RowFault [.agg c2503] p2502.2).bind fun p2504 =>
  some (p2504.1, p2504.2))
  (some (iv .i64 0, p2502.2))))
  (none))
  ((load1 p2038.2 (pv h.n 6)).bind fun x2505 =>
  (call Ev Fn.impl_in [.s x2505, iv .i64 0, iv .i64 7] p2038.2).bind fun p2506 =>
  (unNot p2506.1).bind fun v2507 =>
  vcase v2507
  (some (iv .i64 3, p2506.2))
  ((load1 p2506.2 (pv h.n 0)).bind fun x2508 =>
  (call Ev Fn.impl_onRow [.s x2508] p2506.2).bind fun p2509 =>
  vcase p2509.1
  ((loadN 4 p2509.2 (pv h.n 2)).bind fun c2510 =>
  (call Ev Fn.impl_RowFault [.agg c2510] p2509.2).bind fun p2511 =>
  some (p2511.1, p2511.2))
  (some (iv .i64 0, p2509.2))))
  (none)))))
  ((unNot b377).bind fun v2512 =>
  gcase v2512
  ((load1 p2038.2 (pv h.n 1)).bind fun x2513 =>
  (call Ev Fn.impl_isTx [.s x2513] p2038.2).bind fun p2514 =>
  (unNot p2514.1).bind fun v2515 =>
  gcase v2515
  (some (iv .i64 3, p2514.2))
  ((load1 p2514.2 (pv h.n 6)).bind fun x2516 =>
  (call Ev Fn.impl_in [.s x2516, iv .i64 0, iv .i64 7] p2514.2).bind fun p2517 =>
  (unNot p2517.1).bind fun v2518 =>
  vcase v2518
  (some (iv .i64 3, p2517.2))
  ((load1 p2517.2 (pv h.n 0)).bind fun x2519 =>
  (call Ev Fn.impl_onRow [.s x2519] p2517.2).bind fun p2520 =>
  vcase p2520.1
  ((loadN 4 p2520.2 (pv h.n 2)).bind fun c2521 =>
  (call Ev Fn.impl_RowFault [.agg c2521] p2520.2).bind fun p2522 =>
  some (p2522.1, p2522.2))
  (some (iv .i64 0, p2520.2))))
  (none))
  ((load1 p2038.2 (pv h.n 6)).bind fun x2523 =>
  (call Ev Fn.impl_in [.s x2523, iv .i64 0, iv .i64 7] p2038.2).bind fun p2524 =>
  (unNot p2524.1).bind fun v2525 =>
  vcase v2525
  (some (iv .i64 3, p2524.2))
  ((load1 p2524.2 (pv h.n 0)).bind fun x2526 =>
  (call Ev Fn.impl_onRow [.s x2526] p2524.2).bind fun p2527 =>
  vcase p2527.1
  ((loadN 4 p2527.2 (pv h.n 2)).bind fun c2528 =>
  (call Ev Fn.impl_RowFault [.agg c2528] p2527.2).bind fun p2529 =>
  some (p2529.1, p2529.2))
  (some (iv .i64 0, p2527.2))))
  (none))
  (none))))
  (vcase (.tup [])
  (vcase (.tup [])
  (some (iv .i64 1, p2038.2))
  (vcase (.tup [])
  (some (iv .i64 1, p2038.2))
  ((load1 p2038.2 (pv h.n 0)).bind fun x2530 =>
  (bin Ev .eql 2 (.s x2530) (iv .i64 4)).bind fun b2531 =>
  gcase b2531
  ((load1 p2038.2 (pv h.n 4)).bind fun x2532 =>
  (bin Ev .neq 2 (.s x2532) (iv .i64 0)).bind fun b2533 =>
  gcase b2533
  (some (iv .i64 1, p2038.2))
  ((load1 p2038.2 (pv h.n 5)).bind fun x2534 =>
  (bin Ev .neq 9 (.s x2534) (.s (.str (⟨#[]⟩)))).bind fun b2535 =>
  vcase b2535
  (some (iv .i64 1, p2038.2))
  ((unNot b377).bind fun v2536 =>
  gcase v2536
  ((load1 p2038.2 (pv h.n 1)).bind fun x2537 =>
  (call Ev Fn.impl_isTx [.s x2537] p2038.2).bind fun p2538 =>
  (unNot p2538.1).bind fun v2539 =>
  gcase v2539
  (some (iv .i64 3, p2538.2))
  ((load1 p2538.2 (pv h.n 6)).bind fun x2540 =>
  (call Ev Fn.impl_in [.s x2540, iv .i64 0, iv .i64 7] p2538.2).bind fun p2541 =>
  (unNot p2541.1).bind fun v2542 =>
  vcase v2542
  (some (iv .i64 3, p2541.2))
  ((load1 p2541.2 (pv h.n 0)).bind fun x2543 =>
  (call Ev Fn.impl_onRow [.s x2543] p2541.2).bind fun p2544 =>
  vcase p2544.1
  ((loadN 4 p2544.2 (pv h.n 2)).bind fun c2545 =>
  (call Ev Fn.impl_RowFault [.agg c2545] p2544.2).bind fun p2546 =>
  some (p2546.1, p2546.2))
  (some (iv .i64 0, p2544.2))))
  (none))
  ((load1 p2038.2 (pv h.n 6)).bind fun x2547 =>
  (call Ev Fn.impl_in [.s x2547, iv .i64 0, iv .i64 7] p2038.2).bind fun p2548 =>
  (unNot p2548.1).bind fun v2549 =>
  vcase v2549
  (some (iv .i64 3, p2548.2))
  ((load1 p2548.2 (pv h.n 0)).bind fun x2550 =>
  (call Ev Fn.impl_onRow [.s x2550] p2548.2).bind fun p2551 =>
  vcase p2551.1
  ((loadN 4 p2551.2 (pv h.n 2)).bind fun c2552 =>
  (call Ev Fn.impl_RowFault [.agg c2552] p2551.2).bind fun p2553 =>
  some (p2553.1, p2553.2))
  (some (iv .i64 0, p2551.2))))
  (none)))
  (vcase (.tup [])
  (some (iv .i64 1, p2038.2))
  (vcase (.tup [])
  (some (iv .i64 1, p2038.2))
  ((unNot b377).bind fun v2554 =>
  gcase v2554
  ((load1 p2038.2 (pv h.n 1)).bind fun x2555 =>
  (call Ev Fn.impl_isTx [.s x2555] p2038.2).bind fun p2556 =>
  (unNot p2556.1).bind fun v2557 =>
  gcase v2557
  (some (iv .i64 3, p2556.2))
  ((load1 p2556.2 (pv h.n 6)).bind fun x2558 =>
  (call Ev Fn.impl_in [.s x2558, iv .i64 0, iv .i64 7] p2556.2).bind fun p2559 =>
  (unNot p2559.1).bind fun v2560 =>
  vcase v2560
  (some (iv .i64 3, p2559.2))
  ((load1 p2559.2 (pv h.n 0)).bind fun x2561 =>
  (call Ev Fn.impl_onRow [.s x2561] p2559.2).bind fun p2562 =>
  vcase p2562.1
  ((loadN 4 p2562.2 (pv h.n 2)).bind fun c2563 =>
  (call Ev Fn.impl_RowFault [.agg c2563] p2562.2).bind fun p2564 =>
  some (p2564.1, p2564.2))
  (some (iv .i64 0, p2562.2))))
  (none))
  ((load1 p2038.2 (pv h.n 6)).bind fun x2565 =>
  (call Ev Fn.impl_in [.s x2565, iv .i64 0, iv .i64 7] p2038.2).bind fun p2566 =>
  (unNot p2566.1).bind fun v2567 =>
  vcase v2567
  (some (iv .i64 3, p2566.2))
  ((load1 p2566.2 (pv h.n 0)).bind fun x2568 =>
  (call Ev Fn.impl_onRow [.s x2568] p2566.2).bind fun p2569 =>
  vcase p2569.1
  ((loadN 4 p2569.2 (pv h.n 2)).bind fun c2570 =>
  (call Ev Fn.impl_RowFault [.agg c2570] p2569.2).bind fun p2571 =>
  some (p2571.1, p2571.2))
  (some (iv .i64 0, p2569.2))))
  (none)))))
  ((unNot b377).bind fun v2572 =>
  gcase v2572
  ((load1 p2038.2 (pv h.n 1)).bind fun x2573 =>
  (call Ev Fn.impl_isTx [.s x2573] p2038.2).bind fun p2574 =>
  (unNot p2574.1).bind fun v2575 =>
  gcase v2575
  (some (iv .i64 3, p2574.2))
  ((load1 p2574.2 (pv h.n 6)).bind fun x2576 =>
  (call Ev Fn.impl_in [.s x2576, iv .i64 0, iv .i64 7] p2574.2).bind fun p2577 =>
  (unNot p2577.1).bind fun v2578 =>
  vcase v2578
  (some (iv .i64 3, p2577.2))
  ((load1 p2577.2 (pv h.n 0)).bind fun x2579 =>
  (call Ev Fn.impl_onRow [.s x2579] p2577.2).bind fun p2580 =>
  vcase p2580.1
  ((loadN 4 p2580.2 (pv h.n 2)).bind fun c2581 =>
  (call Ev Fn.impl_RowFault [.agg c2581] p2580.2).bind fun p2582 =>
  some (p2582.1, p2582.2))
  (some (iv .i64 0, p2580.2))))
  (none))
  ((load1 p2038.2 (pv h.n 6)).bind fun x2583 =>
  (call Ev Fn.impl_in [.s x2583, iv .i64 0, iv .i64 7] p2038.2).bind fun p2584 =>
  (unNot p2584.1).bind fun v2585 =>
  vcase v2585
  (some (iv .i64 3, p2584.2))
  ((load1 p2584.2 (pv h.n 0)).bind fun x2586 =>
  (call Ev Fn.impl_onRow [.s x2586] p2584.2).bind fun p2587 =>
  vcase p2587.1
  ((loadN 4 p2587.2 (pv h.n 2)).bind fun c2588 =>
  (call Ev Fn.impl_RowFault [.agg c2588] p2587.2).bind fun p2589 =>
  some (p2589.1, p2589.2))
  (some (iv .i64 0, p2587.2))))
  (none))
  (none))))
  ((load1 p2038.2 (pv h.n 0)).bind fun x2590 =>
  (bin Ev .neq 2 (.s x2590) (iv .i64 6)).bind fun b2591 =>
  gcase b2591
  ((load1 p2038.2 (pv h.n 6)).bind fun x2592 =>
  (bin Ev .neq 2 (.s x2592) (iv .i64 0)).bind fun b2593 =>
  vcase b2593
  (some (iv .i64 1, p2038.2))
  ((load1 p2038.2 (pv h.n 0)).bind fun x2594 =>
  (bin Ev .eql 2 (.s x2594) (iv .i64 4)).bind fun b2595 =>
  gcase b2595
  ((load1 p2038.2 (pv h.n 4)).bind fun x2596 =>
  (bin Ev .neq 2 (.s x2596) (iv .i64 0)).bind fun b2597 =>
  gcase b2597
  (some (iv .i64 1, p2038.2))
  ((load1 p2038.2 (pv h.n 5)).bind fun x2598 =>
  (bin Ev .neq 9 (.s x2598) (.s (.str (⟨#[]⟩)))).bind fun b2599 =>
  vcase b2599
  (some (iv .i64 1, p2038.2))
  ((unNot b377).bind fun v2600 =>
  gcase v2600
  ((load1 p2038.2 (pv h.n 1)).bind fun x2601 =>
  (call Ev Fn.impl_isTx [.s x2601] p2038.2).bind fun p2602 =>
  (unNot p2602.1).bind fun v2603 =>
  gcase v2603
  (some (iv .i64 3, p2602.2))
  ((load1 p2602.2 (pv h.n 6)).bind fun x2604 =>
  (call Ev Fn.impl_in [.s x2604, iv .i64 0, iv .i64 7] p2602.2).bind fun p2605 =>
  (unNot p2605.1).bind fun v2606 =>
  vcase v2606
  (some (iv .i64 3, p2605.2))
  ((load1 p2605.2 (pv h.n 0)).bind fun x2607 =>
  (call Ev Fn.impl_onRow [.s x2607] p2605.2).bind fun p2608 =>
  vcase p2608.1
  ((loadN 4 p2608.2 (pv h.n 2)).bind fun c2609 =>
  (call Ev Fn.impl_RowFault [.agg c2609] p2608.2).bind fun p2610 =>
  some (p2610.1, p2610.2))
  (some (iv .i64 0, p2608.2))))
  (none))
  ((load1 p2038.2 (pv h.n 6)).bind fun x2611 =>
  (call Ev Fn.impl_in [.s x2611, iv .i64 0, iv .i64 7] p2038.2).bind fun p2612 =>
  (unNot p2612.1).bind fun v2613 =>
  vcase v2613
  (some (iv .i64 3, p2612.2))
  ((load1 p2612.2 (pv h.n 0)).bind fun x2614 =>
  (call Ev Fn.impl_onRow [.s x2614] p2612.2).bind fun p2615 =>
  vcase p2615.1
  ((loadN 4 p2615.2 (pv h.n 2)).bind fun c2616 =>
  (call Ev Fn.impl_RowFault [.agg c2616] p2615.2).bind fun p2617 =>
  some (p2617.1, p2617.2))
  (some (iv .i64 0, p2615.2))))
  (none)))
  (vcase (.tup [])
  (some (iv .i64 1, p2038.2))
  (vcase (.tup [])
  (some (iv .i64 1, p2038.2))
  ((unNot b377).bind fun v2618 =>
  gcase v2618
  ((load1 p2038.2 (pv h.n 1)).bind fun x2619 =>
  (call Ev Fn.impl_isTx [.s x2619] p2038.2).bind fun p2620 =>
  (unNot p2620.1).bind fun v2621 =>
  gcase v2621
  (some (iv .i64 3, p2620.2))
  ((load1 p2620.2 (pv h.n 6)).bind fun x2622 =>
  (call Ev Fn.impl_in [.s x2622, iv .i64 0, iv .i64 7] p2620.2).bind fun p2623 =>
  (unNot p2623.1).bind fun v2624 =>
  vcase v2624
  (some (iv .i64 3, p2623.2))
  ((load1 p2623.2 (pv h.n 0)).bind fun x2625 =>
  (call Ev Fn.impl_onRow [.s x2625] p2623.2).bind fun p2626 =>
  vcase p2626.1
  ((loadN 4 p2626.2 (pv h.n 2)).bind fun c2627 =>
  (call Ev Fn.impl_RowFault [.agg c2627] p2626.2).bind fun p2628 =>
  some (p2628.1, p2628.2))
  (some (iv .i64 0, p2626.2))))
  (none))
  ((load1 p2038.2 (pv h.n 6)).bind fun x2629 =>
  (call Ev Fn.impl_in [.s x2629, iv .i64 0, iv .i64 7] p2038.2).bind fun p2630 =>
  (unNot p2630.1).bind fun v2631 =>
  vcase v2631
  (some (iv .i64 3, p2630.2))
  ((load1 p2630.2 (pv h.n 0)).bind fun x2632 =>
  (call Ev Fn.impl_onRow [.s x2632] p2630.2).bind fun p2633 =>
  vcase p2633.1
  ((loadN 4 p2633.2 (pv h.n 2)).bind fun c2634 =>
  (call Ev Fn.impl_RowFault [.agg c2634] p2633.2).bind fun p2635 =>
  some (p2635.1, p2635.2))
  (some (iv .i64 0, p2633.2))))
  (none)))))
  ((unNot b377).bind fun v2636 =>
  gcase v2636
  ((load1 p2038.2 (pv h.n 1)).bind fun x2637 =>
  (call Ev Fn.impl_isTx [.s x2637] p2038.2).bind fun p2638 =>
  (unNot p2638.1).bind fun v2639 =>
  gcase v2639
  (some (iv .i64 3, p2638.2))
  ((load1 p2638.2 (pv h.n 6)).bind fun x2640 =>
  (call Ev Fn.impl_in [.s x2640, iv .i64 0, iv .i64 7] p2638.2).bind fun p2641 =>
  (unNot p2641.1).bind fun v2642 =>
  vcase v2642
  (some (iv .i64 3, p2641.2))
  ((load1 p2641.2 (pv h.n 0)).bind fun x2643 =>
  (call Ev Fn.impl_onRow [.s x2643] p2641.2).bind fun p2644 =>
  vcase p2644.1
  ((loadN 4 p2644.2 (pv h.n 2)).bind fun c2645 =>
  (call Ev Fn.impl_RowFault [.agg c2645] p2644.2).bind fun p2646 =>
  some (p2646.1, p2646.2))
  (some (iv .i64 0, p2644.2))))
  (none))
  ((load1 p2038.2 (pv h.n 6)).bind fun x2647 =>
  (call Ev Fn.impl_in [.s x2647, iv .i64 0, iv .i64 7] p2038.2).bind fun p2648 =>
  (unNot p2648.1).bind fun v2649 =>
  vcase v2649
  (some (iv .i64 3, p2648.2))
  ((load1 p2648.2 (pv h.n 0)).bind fun x2650 =>
  (call Ev Fn.impl_onRow [.s x2650] p2648.2).bind fun p2651 =>
  vcase p2651.1
  ((loadN 4 p2651.2 (pv h.n 2)).bind fun c2652 =>
  (call Ev Fn.impl_RowFault [.agg c2652] p2651.2).bind fun p2653 =>
  some (p2653.1, p2653.2))
  (some (iv .i64 0, p2651.2))))
  (none))
  (none)))
  ((load1 p2038.2 (pv h.n 0)).bind fun x2654 =>
  (bin Ev .eql 2 (.s x2654) (iv .i64 4)).bind fun b2655 =>
  gcase b2655
  ((load1 p2038.2 (pv h.n 4)).bind fun x2656 =>
  (bin Ev .neq 2 (.s x2656) (iv .i64 0)).bind fun b2657 =>
  gcase b2657
  (some (iv .i64 1, p2038.2))
  ((load1 p2038.2 (pv h.n 5)).bind fun x2658 =>
  (bin Ev .neq 9 (.s x2658) (.s (.str (⟨#[]⟩)))).bind fun b2659 =>
  vcase b2659
  (some (iv .i64 1, p2038.2))
  ((unNot b377).bind fun v2660 =>
  gcase v2660
  ((load1 p2038.2 (pv h.n 1)).bind fun x2661 =>
  (call Ev Fn.impl_isTx [.s x2661] p2038.2).bind fun p2662 =>
  (unNot p2662.1).bind fun v2663 =>
  gcase v2663
  (some (iv .i64 3, p2662.2))
  ((load1 p2662.2 (pv h.n 6)).bind fun x2664 =>
  (call Ev Fn.impl_in [.s x2664, iv .i64 0, iv .i64 7] p2662.2).bind fun p2665 =>
  (unNot p2665.1).bind fun v2666 =>
  vcase v2666
  (some (iv .i64 3, p2665.2))
  ((load1 p2665.2 (pv h.n 0)).bind fun x2667 =>
  (call Ev Fn.impl_onRow [.s x2667] p2665.2).bind fun p2668 =>
  vcase p2668.1
  ((loadN 4 p2668.2 (pv h.n 2)).bind fun c2669 =>
  (call Ev Fn.impl_RowFault [.agg c2669] p2668.2).bind fun p2670 =>
  some (p2670.1, p2670.2))
  (some (iv .i64 0, p2668.2))))
  (none))
  ((load1 p2038.2 (pv h.n 6)).bind fun x2671 =>
  (call Ev Fn.impl_in [.s x2671, iv .i64 0, iv .i64 7] p2038.2).bind fun p2672 =>
  (unNot p2672.1).bind fun v2673 =>
  vcase v2673
  (some (iv .i64 3, p2672.2))
  ((load1 p2672.2 (pv h.n 0)).bind fun x2674 =>
  (call Ev Fn.impl_onRow [.s x2674] p2672.2).bind fun p2675 =>
  vcase p2675.1
  ((loadN 4 p2675.2 (pv h.n 2)).bind fun c2676 =>
  (call Ev Fn.impl_RowFault [.agg c2676] p2675.2).bind fun p2677 =>
  some (p2677.1, p2677.2))
  (some (iv .i64 0, p2675.2))))
  (none)))
  (vcase (.tup [])
  (some (iv .i64 1, p2038.2))
  (vcase (.tup [])
  (some (iv .i64 1, p2038.2))
  ((unNot b377).bind fun v2678 =>
  gcase v2678
  ((load1 p2038.2 (pv h.n 1)).bind fun x2679 =>
  (call Ev Fn.impl_isTx [.s x2679] p2038.2).bind fun p2680 =>
  (unNot p2680.1).bind fun v2681 =>
  gcase v2681
  (some (iv .i64 3, p2680.2))
  ((load1 p2680.2 (pv h.n 6)).bind fun x2682 =>
  (call Ev Fn.impl_in [.s x2682, iv .i64 0, iv .i64 7] p2680.2).bind fun p2683 =>
  (unNot p2683.1).bind fun v2684 =>
  vcase v2684
  (some (iv .i64 3, p2683.2))
  ((load1 p2683.2 (pv h.n 0)).bind fun x2685 =>
  (call Ev Fn.impl_onRow [.s x2685] p2683.2).bind fun p2686 =>
  vcase p2686.1
  ((loadN 4 p2686.2 (pv h.n 2)).bind fun c2687 =>
  (call Ev Fn.impl_RowFault [.agg c2687] p2686.2).bind fun p2688 =>
  some (p2688.1, p2688.2))
  (some (iv .i64 0, p2686.2))))
  (none))
  ((load1 p2038.2 (pv h.n 6)).bind fun x2689 =>
  (call Ev Fn.impl_in [.s x2689, iv .i64 0, iv .i64 7] p2038.2).bind fun p2690 =>
  (unNot p2690.1).bind fun v2691 =>
  vcase v2691
  (some (iv .i64 3, p2690.2))
  ((load1 p2690.2 (pv h.n 0)).bind fun x2692 =>
  (call Ev Fn.impl_onRow [.s x2692] p2690.2).bind fun p2693 =>
  vcase p2693.1
  ((loadN 4 p2693.2 (pv h.n 2)).bind fun c2694 =>
  (call Ev Fn.impl_RowFault [.agg c2694] p2693.2).bind fun p2695 =>
  some (p2695.1, p2695.2))
  (some (iv .i64 0, p2693.2))))
  (none)))))
  ((unNot b377).bind fun v2696 =>
  gcase v2696
  ((load1 p2038.2 (pv h.n 1)).bind fun x2697 =>
  (call Ev Fn.impl_isTx [.s x2697] p2038.2).bind fun p2698 =>
  (unNot p2698.1).bind fun v2699 =>
  gcase v2699
  (some (iv .i64 3, p2698.2))
  ((load1 p2698.2 (pv h.n 6)).bind fun x2700 =>
  (call Ev Fn.impl_in [.s x2700, iv .i64 0, iv .i64 7] p2698.2).bind fun p2701 =>
  (unNot p2701.1).bind fun v2702 =>
  vcase v2702
  (some (iv .i64 3, p2701.2))
  ((load1 p2701.2 (pv h.n 0)).bind fun x2703 =>
  (call Ev Fn.impl_onRow [.s x2703] p2701.2).bind fun p2704 =>
  vcase p2704.1
  ((loadN 4 p2704.2 (pv h.n 2)).bind fun c2705 =>
  (call Ev Fn.impl_RowFault [.agg c2705] p2704.2).bind fun p2706 =>
  some (p2706.1, p2706.2))
  (some (iv .i64 0, p2704.2))))
  (none))
  ((load1 p2038.2 (pv h.n 6)).bind fun x2707 =>
  (call Ev Fn.impl_in [.s x2707, iv .i64 0, iv .i64 7] p2038.2).bind fun p2708 =>
  (unNot p2708.1).bind fun v2709 =>
  vcase v2709
  (some (iv .i64 3, p2708.2))
  ((load1 p2708.2 (pv h.n 0)).bind fun x2710 =>
  (call Ev Fn.impl_onRow [.s x2710] p2708.2).bind fun p2711 =>
  vcase p2711.1
  ((loadN 4 p2711.2 (pv h.n 2)).bind fun c2712 =>
  (call Ev Fn.impl_RowFault [.agg c2712] p2711.2).bind fun p2713 =>
  some (p2713.1, p2713.2))
  (some (iv .i64 0, p2711.2))))
  (none))
  (none))
  (vcase (.tup [])
  (vcase (.tup [])
  (some (iv .i64 1, p2038.2))
  ((load1 p2038.2 (pv h.n 0)).bind fun x2714 =>
  (bin Ev .eql 2 (.s x2714) (iv .i64 4)).bind fun b2715 =>
  gcase b2715
  ((load1 p2038.2 (pv h.n 4)).bind fun x2716 =>
  (bin Ev .neq 2 (.s x2716) (iv .i64 0)).bind fun b2717 =>
  gcase b2717
  (some (iv .i64 1, p2038.2))
  ((load1 p2038.2 (pv h.n 5)).bind fun x2718 =>
  (bin Ev .neq 9 (.s x2718) (.s (.str (⟨#[]⟩)))).bind fun b2719 =>
  vcase b2719
  (some (iv .i64 1, p2038.2))
  ((unNot b377).bind fun v2720 =>
  gcase v2720
  ((load1 p2038.2 (pv h.n 1)).bind fun x2721 =>
  (call Ev Fn.impl_isTx [.s x2721] p2038.2).bind fun p2722 =>
  (unNot p2722.1).bind fun v2723 =>
  gcase v2723
  (some (iv .i64 3, p2722.2))
  ((load1 p2722.2 (pv h.n 6)).bind fun x2724 =>
  (call Ev Fn.impl_in [.s x2724, iv .i64 0, iv .i64 7] p2722.2).bind fun p2725 =>
  (unNot p2725.1).bind fun v2726 =>
  vcase v2726
  (some (iv .i64 3, p2725.2))
  ((load1 p2725.2 (pv h.n 0)).bind fun x2727 =>
  (call Ev Fn.impl_onRow [.s x2727] p2725.2).bind fun p2728 =>
  vcase p2728.1
  ((loadN 4 p2728.2 (pv h.n 2)).bind fun c2729 =>
  (call Ev Fn.impl_RowFault [.agg c2729] p2728.2).bind fun p2730 =>
  some (p2730.1, p2730.2))
  (some (iv .i64 0, p2728.2))))
  (none))
  ((load1 p2038.2 (pv h.n 6)).bind fun x2731 =>
  (call Ev Fn.impl_in [.s x2731, iv .i64 0, iv .i64 7] p2038.2).bind fun p2732 =>
  (unNot p2732.1).bind fun v2733 =>
  vcase v2733
  (some (iv .i64 3, p2732.2))
  ((load1 p2732.2 (pv h.n 0)).bind fun x2734 =>
  (call Ev Fn.impl_onRow [.s x2734] p2732.2).bind fun p2735 =>
  vcase p2735.1
  ((loadN 4 p2735.2 (pv h.n 2)).bind fun c2736 =>
  (call Ev Fn.impl_RowFault [.agg c2736] p2735.2).bind fun p2737 =>
  some (p2737.1, p2737.2))
  (some (iv .i64 0, p2735.2))))
  (none)))
  (vcase (.tup [])
  (some (iv .i64 1, p2038.2))
  (vcase (.tup [])
  (some (iv .i64 1, p2038.2))
  ((unNot b377).bind fun v2738 =>
  gcase v2738
  ((load1 p2038.2 (pv h.n 1)).bind fun x2739 =>
  (call Ev Fn.impl_isTx [.s x2739] p2038.2).bind fun p2740 =>
  (unNot p2740.1).bind fun v2741 =>
  gcase v2741
  (some (iv .i64 3, p2740.2))
  ((load1 p2740.2 (pv h.n 6)).bind fun x2742 =>
  (call Ev Fn.impl_in [.s x2742, iv .i64 0, iv .i64 7] p2740.2).bind fun p2743 =>
  (unNot p2743.1).bind fun v2744 =>
  vcase v2744
  (some (iv .i64 3, p2743.2))
  ((load1 p2743.2 (pv h.n 0)).bind fun x2745 =>
  (call Ev Fn.impl_onRow [.s x2745] p2743.2).bind fun p2746 =>
  vcase p2746.1
  ((loadN 4 p2746.2 (pv h.n 2)).bind fun c2747 =>
  (call Ev Fn.impl_RowFault [.agg c2747] p2746.2).bind fun p2748 =>
  some (p2748.1, p2748.2))
  (some (iv .i64 0, p2746.2))))
  (none))
  ((load1 p2038.2 (pv h.n 6)).bind fun x2749 =>
  (call Ev Fn.impl_in [.s x2749, iv .i64 0, iv .i64 7] p2038.2).bind fun p2750 =>
  (unNot p2750.1).bind fun v2751 =>
  vcase v2751
  (some (iv .i64 3, p2750.2))
  ((load1 p2750.2 (pv h.n 0)).bind fun x2752 =>
  (call Ev Fn.impl_onRow [.s x2752] p2750.2).bind fun p2753 =>
  vcase p2753.1
  ((loadN 4 p2753.2 (pv h.n 2)).bind fun c2754 =>
  (call Ev Fn.impl_RowFault [.agg c2754] p2753.2).bind fun p2755 =>
  some (p2755.1, p2755.2))
  (some (iv .i64 0, p2753.2))))
  (none)))))
  ((unNot b377).bind fun v2756 =>
  gcase v2756
  ((load1 p2038.2 (pv h.n 1)).bind fun x2757 =>
  (call Ev Fn.impl_isTx [.s x2757] p2038.2).bind fun p2758 =>
  (unNot p2758.1).bind fun v2759 =>
  gcase v2759
  (some (iv .i64 3, p2758.2))
  ((load1 p2758.2 (pv h.n 6)).bind fun x2760 =>
  (call Ev Fn.impl_in [.s x2760, iv .i64 0, iv .i64 7] p2758.2).bind fun p2761 =>
  (unNot p2761.1).bind fun v2762 =>
  vcase v2762
  (some (iv .i64 3, p2761.2))
  ((load1 p2761.2 (pv h.n 0)).bind fun x2763 =>
  (call Ev Fn.impl_onRow [.s x2763] p2761.2).bind fun p2764 =>
  vcase p2764.1
  ((loadN 4 p2764.2 (pv h.n 2)).bind fun c2765 =>
  (call Ev Fn.impl_RowFault [.agg c2765] p2764.2).bind fun p2766 =>
  some (p2766.1, p2766.2))
  (some (iv .i64 0, p2764.2))))
  (none))
  ((load1 p2038.2 (pv h.n 6)).bind fun x2767 =>
  (call Ev Fn.impl_in [.s x2767, iv .i64 0, iv .i64 7] p2038.2).bind fun p2768 =>
  (unNot p2768.1).bind fun v2769 =>
  vcase v2769
  (some (iv .i64 3, p2768.2))
  ((load1 p2768.2 (pv h.n 0)).bind fun x2770 =>
  (call Ev Fn.impl_onRow [.s x2770] p2768.2).bind fun p2771 =>
  vcase p2771.1
  ((loadN 4 p2771.2 (pv h.n 2)).bind fun c2772 =>
  (call Ev Fn.impl_RowFault [.agg c2772] p2771.2).bind fun p2773 =>
  some (p2773.1, p2773.2))
  (some (iv .i64 0, p2771.2))))
  (none))
  (none)))
  ((load1 p2038.2 (pv h.n 0)).bind fun x2774 =>
  (bin Ev .eql 2 (.s x2774) (iv .i64 4)).bind fun b2775 =>
  gcase b2775
  ((load1 p2038.2 (pv h.n 4)).bind fun x2776 =>
  (bin Ev .neq 2 (.s x2776) (iv .i64 0)).bind fun b2777 =>
  gcase b2777
  (some (iv .i64 1, p2038.2))
  ((load1 p2038.2 (pv h.n 5)).bind fun x2778 =>
  (bin Ev .neq 9 (.s x2778) (.s (.str (⟨#[]⟩)))).bind fun b2779 =>
  vcase b2779
  (some (iv .i64 1, p2038.2))
  ((unNot b377).bind fun v2780 =>
  gcase v2780
  ((load1 p2038.2 (pv h.n 1)).bind fun x2781 =>
  (call Ev Fn.impl_isTx [.s x2781] p2038.2).bind fun p2782 =>
  (unNot p2782.1).bind fun v2783 =>
  gcase v2783
  (some (iv .i64 3, p2782.2))
  ((load1 p2782.2 (pv h.n 6)).bind fun x2784 =>
  (call Ev Fn.impl_in [.s x2784, iv .i64 0, iv .i64 7] p2782.2).bind fun p2785 =>
  (unNot p2785.1).bind fun v2786 =>
  vcase v2786
  (some (iv .i64 3, p2785.2))
  ((load1 p2785.2 (pv h.n 0)).bind fun x2787 =>
  (call Ev Fn.impl_onRow [.s x2787] p2785.2).bind fun p2788 =>
  vcase p2788.1
  ((loadN 4 p2788.2 (pv h.n 2)).bind fun c2789 =>
  (call Ev Fn.impl_RowFault [.agg c2789] p2788.2).bind fun p2790 =>
  some (p2790.1, p2790.2))
  (some (iv .i64 0, p2788.2))))
  (none))
  ((load1 p2038.2 (pv h.n 6)).bind fun x2791 =>
  (call Ev Fn.impl_in [.s x2791, iv .i64 0, iv .i64 7] p2038.2).bind fun p2792 =>
  (unNot p2792.1).bind fun v2793 =>
  vcase v2793
  (some (iv .i64 3, p2792.2))
  ((load1 p2792.2 (pv h.n 0)).bind fun x2794 =>
  (call Ev Fn.impl_onRow [.s x2794] p2792.2).bind fun p2795 =>
  vcase p2795.1
  ((loadN 4 p2795.2 (pv h.n 2)).bind fun c2796 =>
  (call Ev Fn.impl_RowFault [.agg c2796] p2795.2).bind fun p2797 =>
  some (p2797.1, p2797.2))
  (some (iv .i64 0, p2795.2))))
  (none)))
  (vcase (.tup [])
  (some (iv .i64 1, p2038.2))
  (vcase (.tup [])
  (some (iv .i64 1, p2038.2))
  ((unNot b377).bind fun v2798 =>
  gcase v2798
  ((load1 p2038.2 (pv h.n 1)).bind fun x2799 =>
  (call Ev Fn.impl_isTx [.s x2799] p2038.2).bind fun p2800 =>
  (unNot p2800.1).bind fun v2801 =>
  gcase v2801
  (some (iv .i64 3, p2800.2))
  ((load1 p2800.2 (pv h.n 6)).bind fun x2802 =>
  (call Ev Fn.impl_in [.s x2802, iv .i64 0, iv .i64 7] p2800.2).bind fun p2803 =>
  (unNot p2803.1).bind fun v2804 =>
  vcase v2804
  (some (iv .i64 3, p2803.2))
  ((load1 p2803.2 (pv h.n 0)).bind fun x2805 =>
  (call Ev Fn.impl_onRow [.s x2805] p2803.2).bind fun p2806 =>
  vcase p2806.1
  ((loadN 4 p2806.2 (pv h.n 2)).bind fun c2807 =>
  (call Ev Fn.impl_RowFault [.agg c2807] p2806.2).bind fun p2808 =>
  some (p2808.1, p2808.2))
  (some (iv .i64 0, p2806.2))))
  (none))
  ((load1 p2038.2 (pv h.n 6)).bind fun x2809 =>
  (call Ev Fn.impl_in [.s x2809, iv .i64 0, iv .i64 7] p2038.2).bind fun p2810 =>
  (unNot p2810.1).bind fun v2811 =>
  vcase v2811
  (some (iv .i64 3, p2810.2))
  ((load1 p2810.2 (pv h.n 0)).bind fun x2812 =>
  (call Ev Fn.impl_onRow [.s x2812] p2810.2).bind fun p2813 =>
  vcase p2813.1
  ((loadN 4 p2813.2 (pv h.n 2)).bind fun c2814 =>
  (call Ev Fn.impl_RowFault [.agg c2814] p2813.2).bind fun p2815 =>
  some (p2815.1, p2815.2))
  (some (iv .i64 0, p2813.2))))
  (none)))))
  ((unNot b377).bind fun v2816 =>
  gcase v2816
  ((load1 p2038.2 (pv h.n 1)).bind fun x2817 =>
  (call Ev Fn.impl_isTx [.s x2817] p2038.2).bind fun p2818 =>
  (unNot p2818.1).bind fun v2819 =>
  gcase v2819
  (some (iv .i64 3, p2818.2))
  ((load1 p2818.2 (pv h.n 6)).bind fun x2820 =>
  (call Ev Fn.impl_in [.s x2820, iv .i64 0, iv .i64 7] p2818.2).bind fun p2821 =>
  (unNot p2821.1).bind fun v2822 =>
  vcase v2822
  (some (iv .i64 3, p2821.2))
  ((load1 p2821.2 (pv h.n 0)).bind fun x2823 =>
  (call Ev Fn.impl_onRow [.s x2823] p2821.2).bind fun p2824 =>
  vcase p2824.1
  ((loadN 4 p2824.2 (pv h.n 2)).bind fun c2825 =>
  (call Ev Fn.impl_RowFault [.agg c2825] p2824.2).bind fun p2826 =>
  some (p2826.1, p2826.2))
  (some (iv .i64 0, p2824.2))))
  (none))
  ((load1 p2038.2 (pv h.n 6)).bind fun x2827 =>
  (call Ev Fn.impl_in [.s x2827, iv .i64 0, iv .i64 7] p2038.2).bind fun p2828 =>
  (unNot p2828.1).bind fun v2829 =>
  vcase v2829
  (some (iv .i64 3, p2828.2))
  ((load1 p2828.2 (pv h.n 0)).bind fun x2830 =>
  (call Ev Fn.impl_onRow [.s x2830] p2828.2).bind fun p2831 =>
  vcase p2831.1
  ((loadN 4 p2831.2 (pv h.n 2)).bind fun c2832 =>
  (call Ev Fn.impl_RowFault [.agg c2832] p2831.2).bind fun p2833 =>
  some (p2833.1, p2833.2))
  (some (iv .i64 0, p2831.2))))
  (none))
  (none))))))))
  (none))
  (none) := by
  rw [call_eq]; kernel_rfl

theorem eq_laws_FnExactOpFault (a0 : List S) (h : H) : call Ev Fn.laws_FnExactOpFault [.agg a0] h =
  (loadN 7 ((h).new 0 a0) (pv h.n 0)).bind fun c1 =>
  (call Ev Fn.laws_szOp [.agg c1, iv .i64 1048576] ((h).new 0 a0)).bind fun p2 =>
  (bin Ev .lss 3 p2.1 (iv .i64 0)).bind fun b3 =>
  vcase b3
  (some (bv true, p2.2))
  ((loadN 7 p2.2 (pv h.n 0)).bind fun c4 =>
  (call Ev Fn.laws_toOp [.agg c4] p2.2).bind fun p5 =>
  (call Ev Fn.spec_OpFault [p5.1] p5.2).bind fun p6 =>
  (loadN 7 p6.2 (pv h.n 0)).bind fun c7 =>
  (call Ev Fn.laws_toOp [.agg c7] p6.2).bind fun p8 =>
  (call Ev Fn.impl_OpFault [p8.1] p8.2).bind fun p9 =>
  (bin Ev .neq 2 p9.1 p6.1).bind fun b10 =>
  vcase b10
  (some (bv false, p9.2))
  (some (bv true, p9.2))) := by
  rw [call_eq]; kernel_rfl

theorem eq_laws_szByteS (a0 : V) (a1 : Int) (h : H) : call Ev Fn.laws_szByteS [a0, iv .i64 a1] h =
  (lenV (.sl 5) a0).bind fun v1 =>
  (bin Ev .sub 3 (iv .i64 a1) v1).bind fun b2 =>
  (bin Ev .lss 3 b2 (iv .i64 0)).bind fun b3 =>
  vcase b3
  (some (iv .i64 (-1), h))
  (some (b2, h)) := by
  rw [call_eq]; kernel_rfl

theorem eq_laws_szRun (a0 : List S) (a1 : Int) (h : H) : call Ev Fn.laws_szRun [.agg a0, iv .i64 a1] h =
  (load1 ((h).new 0 a0) (pv h.n 1)).bind fun x1 =>
  (call Ev Fn.laws_szByteS [.s x1, iv .i64 a1] ((h).new 0 a0)).bind fun p2 =>
  (bin Ev .lss 3 p2.1 (iv .i64 0)).bind fun b3 =>
  vcase b3
  (some (iv .i64 (-1), p2.2))
  (some (p2.1, p2.2)) := by
  rw [call_eq]; kernel_rfl

theorem eq_laws_szRunS (a0 : V) (a1 : Int) (h : H) : call Ev Fn.laws_szRunS [a0, iv .i64 a1] h =
  (lenV (.sl 97) a0).bind fun v1 =>
  (bin Ev .sub 3 (iv .i64 a1) v1).bind fun b2 =>
  (bin Ev .lss 3 b2 (iv .i64 0)).bind fun b3 =>
  vcase b3
  (some (iv .i64 (-1), h))
  ((Lp.laws_szRunS 0 [a0, b2, iv .i64 0] h).bind fun o4 => lcase o4 (fun l5 h6 =>
  (l5[0]?).bind fun w9 =>
  some (w9, h6)) (fun v7 h8 =>
  some (v7, h8))) := by
  rw [call_eq]; kernel_rfl

theorem eq_laws_szRunS_l0 (s0 : V) (s1 : Int) (s5 : Int) (h : H) : Lp.laws_szRunS 0 [s0, iv .i64 s1, iv .i64 s5] h =
  (lenV (.sl 97) s0).bind fun v1 =>
  (bin Ev .lss 3 (iv .i64 s5) v1).bind fun b2 =>
  vcase b2
  ((idxS 2 s0 (iv .i64 s5)).bind fun v3 =>
  (loadN 2 h v3).bind fun c4 =>
  (call Ev Fn.laws_szRun [.agg c4, iv .i64 s1] h).bind fun p5 =>
  (bin Ev .lss 3 p5.1 (iv .i64 0)).bind fun b6 =>
  vcase b6
  (some (.ret (iv .i64 (-1)) p5.2))
  (Lp.laws_szRunS 0 [s0, p5.1, iv .i64 (IntKind.i64.wrap (s5 + 1))] p5.2))
  (some (.done [iv .i64 s1] h)) := by
  unfold Lp.laws_szRunS; rw [loop_eq]; kernel_rfl

theorem eq_spec_l3Fault (a0 : V) (h : H) : call Ev Fn.spec_l3Fault [a0] h =
  (lenV (.sl 98) a0).bind fun v1 =>
  (bin Ev .gtr 3 v1 (iv .i64 64)).bind fun b2 =>
  vcase b2
  (some (iv .i64 2, h))
  ((Lp.spec_l3Fault 0 [a0, iv .i64 0] h).bind fun o3 => lcase o3 (fun l4 h5 =>
  some (iv .i64 0, h5)) (fun v6 h7 =>
  some (v6, h7))) := by
  rw [call_eq]; kernel_rfl

theorem eq_spec_l3Fault_l0 (s0 : V) (s3 : Int) (h : H) : Lp.spec_l3Fault 0 [s0, iv .i64 s3] h =
  (lenV (.sl 98) s0).bind fun v1 =>
  (bin Ev .lss 3 (iv .i64 s3) v1).bind fun b2 =>
  vcase b2
  ((idxS 2 s0 (iv .i64 s3)).bind fun v3 =>
  (padd 1 v3).bind fun v4 =>
  (load1 h v4).bind fun x5 =>
  (lenV (.sl 5) (.s x5)).bind fun v6 =>
  (idxS 2 s0 (iv .i64 s3)).bind fun v7 =>
  (padd 0 v7).bind fun v8 =>
  (load1 h v8).bind fun x9 =>
  (call Ev Fn.spec_l1In [.s x9, iv .i64 0, iv .i64 63] h).bind fun p10 =>
  (unNot p10.1).bind fun v11 =>
  gcase v11
  (some (.ret (iv .i64 3) p10.2))
  ((call Ev Fn.spec_l1In [v6, iv .i64 1, iv .i64 64] p10.2).bind fun p12 =>
  (unNot p12.1).bind fun v13 =>
  gcase v13
  (some (.ret (iv .i64 3) p12.2))
  ((idxS 2 s0 (iv .i64 s3)).bind fun v14 =>
  (padd 0 v14).bind fun v15 =>
  (load1 p12.2 v15).bind fun x16 =>
  (bin Ev .add 2 (.s x16) v6).bind fun b17 =>
  (bin Ev .gtr 2 b17 (iv .i64 64)).bind fun b18 =>
  vcase b18
  (some (.ret (iv .i64 3) p12.2))
  (vcase (bv (decide (s3 > 0)))
  ((idxS 2 s0 (iv .i64 s3)).bind fun v19 =>
  (padd 0 v19).bind fun v20 =>
  (load1 p12.2 v20).bind fun x21 =>
  (idxS 2 s0 (iv .i64 (IntKind.i64.wrap (s3 - 1)))).bind fun v22 =>
  (padd 0 v22).bind fun v23 =>
  (load1 p12.2 v23).bind fun x24 =>
  (idxS 2 s0 (iv .i64 (IntKind.i64.wrap (s3 - 1)))).bind fun v25 =>
  (padd 1 v25).bind fun v26 =>
  (load1 p12.2 v26).bind fun x27 =>
  (lenV (.sl 5) (.s x27)).bind fun v28 =>
  (bin Ev .add 2 (.s x24) v28).bind fun b29 =>
  (bin Ev .leq 2 (.s x21) b29).bind fun b30 =>
  vcase b30
  (some (.ret (iv .i64 1) p12.2))
  (Lp.spec_l3Fault 0 [s0, iv .i64 (IntKind.i64.wrap (s3 + 1))] p12.2))
  (Lp.spec_l3Fault 0 [s0, iv .i64 (IntKind.i64.wrap (s3 + 1))] p12.2)))
  (none))
  (none))
  (some (.done [] h)) := by
  unfold Lp.spec_l3Fault; rw [loop_eq]; kernel_rfl

theorem eq_spec_RunsFault (a0 : V) (h : H) : call Ev Fn.spec_RunsFault [a0] h =
  (call Ev Fn.spec_l3Fault [a0] h).bind fun p1 =>
  some (p1.1, p1.2) := by
  rw [call_eq]; kernel_rfl

theorem eq_laws_toRun (a0 : List S) (h : H) : call Ev Fn.laws_toRun [.agg a0] h =
  (load1 ((((h).new 0 a0).new 0 [.int .i64 0, .sl none 0]).new 0 [.int .i64 0, .sl none 0]) (pv h.n 0)).bind fun x2 =>
  (stV 1 ((((h).new 0 a0).new 0 [.int .i64 0, .sl none 0]).new 0 [.int .i64 0, .sl none 0]) (pv ((((h).new 0 a0).new 0 [.int .i64 0, .sl none 0]).n) 0) (.s x2)).bind fun h3 =>
  (load1 h3 (pv h.n 1)).bind fun x4 =>
  (call Ev Fn.laws_toByteS [.s x4] h3).bind fun p5 =>
  (stV 1 p5.2 (pv ((((h).new 0 a0).new 0 [.int .i64 0, .sl none 0]).n) 1) p5.1).bind fun h6 =>
  (loadN 2 h6 (pv ((((h).new 0 a0).new 0 [.int .i64 0, .sl none 0]).n) 0)).bind fun c7 =>
  (stV 2 h6 (pv (((h).new 0 a0).n) 0) (.agg c7)).bind fun h8 =>
  (loadN 2 h8 (pv (((h).new 0 a0).n) 0)).bind fun c9 =>
  some (.agg c9, h8) := by
  rw [call_eq]; kernel_rfl

theorem eq_laws_toRunS (a0 : V) (h : H) : call Ev Fn.laws_toRunS [a0] h =
  (lenV (.sl 97) a0).bind fun v1 =>
  (mkSl 2 [.int .i64 0, .sl none 0] h v1 v1).bind fun p2 =>
  (Lp.laws_toRunS 0 [a0, p2.1, iv .i64 0] p2.2).bind fun o3 => lcase o3 (fun l4 h5 =>
  (l4[0]?).bind fun w8 =>
  some (w8, h5)) (fun v6 h7 =>
  some (v6, h7)) := by
  rw [call_eq]; kernel_rfl

end Vm
