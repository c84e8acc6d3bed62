/-
  What each function, and each round of each loop, comes to in the small machine. Written by a program (gen.py).
-/
import Derived.Test.YtfmkfefblbophaaEnv
set_option linter.unusedVariables false
set_option maxRecDepth 100000
namespace Vm
open Go

theorem eq_laws_FnExactConstants  (h : H) : call Ev Fn.laws_FnExactConstants [] h =
  some (bv true, h) := by
  rw [call_eq]; kernel_rfl

theorem eq_laws_szRow (a0 : List S) (a1 : Int) (h : H) : call Ev Fn.laws_szRow [.agg a0, iv .i64 a1] h =
  (load1 ((h).new 0 a0) (pv h.n 3)).bind fun x1 =>
  (lenV .str (.s x1)).bind fun v2 =>
  (bin Ev .sub 3 (iv .i64 a1) v2).bind fun b3 =>
  (bin Ev .lss 3 b3 (iv .i64 0)).bind fun b4 =>
  vcase b4
  (some (iv .i64 (-1), (h).new 0 a0))
  (some (b3, (h).new 0 a0)) := by
  rw [call_eq]; kernel_rfl

theorem eq_spec_l1Before (a0 : V) (a1 : V) (h : H) : call Ev Fn.spec_l1Before [a0, a1] h =
  (notNil a0).bind fun v1 =>
  (padd 0 v1).bind fun v2 =>
  (load1 h v2).bind fun x3 =>
  (notNil a1).bind fun v4 =>
  (padd 0 v4).bind fun v5 =>
  (load1 h v5).bind fun x6 =>
  (bin Ev .lss 2 (.s x3) (.s x6)).bind fun b7 =>
  gcase b7
  (some (bv true, h))
  ((notNil a0).bind fun v8 =>
  (padd 0 v8).bind fun v9 =>
  (load1 h v9).bind fun x10 =>
  (notNil a1).bind fun v11 =>
  (padd 0 v11).bind fun v12 =>
  (load1 h v12).bind fun x13 =>
  (bin Ev .eql 2 (.s x10) (.s x13)).bind fun b14 =>
  gcase b14
  ((notNil a0).bind fun v15 =>
  (padd 1 v15).bind fun v16 =>
  (load1 h v16).bind fun x17 =>
  (notNil a1).bind fun v18 =>
  (padd 1 v18).bind fun v19 =>
  (load1 h v19).bind fun x20 =>
  (bin Ev .lss 2 (.s x17) (.s x20)).bind fun b21 =>
  some (b21, h))
  (some (bv false, h))
  (vcase (.tup [])
  (some (.tup [], h))
  (some (bv false, h))))
  (none) := by
  rw [call_eq]; kernel_rfl

theorem eq_spec_IsBefore (a0 : List S) (a1 : List S) (h : H) : call Ev Fn.spec_IsBefore [.agg a0, .agg a1] h =
  (call Ev Fn.spec_l1Before [pv h.n 0, pv (((h).new 0 a0).n) 0] (((h).new 0 a0).new 0 a1)).bind fun p1 =>
  some (p1.1, p1.2) := by
  rw [call_eq]; kernel_rfl

theorem eq_laws_toRow (a0 : List S) (h : H) : call Ev Fn.laws_toRow [.agg a0] h =
  (load1 ((((h).new 0 a0).new 0 [.int .i64 0, .int .i64 0, .int .i64 0, .str ⟨#[]⟩]).new 0 [.int .i64 0, .int .i64 0, .int .i64 0, .str ⟨#[]⟩]) (pv h.n 0)).bind fun x2 =>
  (stV 1 ((((h).new 0 a0).new 0 [.int .i64 0, .int .i64 0, .int .i64 0, .str ⟨#[]⟩]).new 0 [.int .i64 0, .int .i64 0, .int .i64 0, .str ⟨#[]⟩]) (pv ((((h).new 0 a0).new 0 [.int .i64 0, .int .i64 0, .int .i64 0, .str ⟨#[]⟩]).n) 0) (.s x2)).bind fun h3 =>
  (load1 h3 (pv h.n 1)).bind fun x4 =>
  (stV 1 h3 (pv ((((h).new 0 a0).new 0 [.int .i64 0, .int .i64 0, .int .i64 0, .str ⟨#[]⟩]).n) 1) (.s x4)).bind fun h5 =>
  (load1 h5 (pv h.n 2)).bind fun x6 =>
  (stV 1 h5 (pv ((((h).new 0 a0).new 0 [.int .i64 0, .int .i64 0, .int .i64 0, .str ⟨#[]⟩]).n) 2) (.s x6)).bind fun h7 =>
  (load1 h7 (pv h.n 3)).bind fun x8 =>
  (stV 1 h7 (pv ((((h).new 0 a0).new 0 [.int .i64 0, .int .i64 0, .int .i64 0, .str ⟨#[]⟩]).n) 3) (.s x8)).bind fun h9 =>
  (loadN 4 h9 (pv ((((h).new 0 a0).new 0 [.int .i64 0, .int .i64 0, .int .i64 0, .str ⟨#[]⟩]).n) 0)).bind fun c10 =>
  (stV 4 h9 (pv (((h).new 0 a0).n) 0) (.agg c10)).bind fun h11 =>
  (loadN 4 h11 (pv (((h).new 0 a0).n) 0)).bind fun c12 =>
  some (.agg c12, h11) := by
  rw [call_eq]; kernel_rfl

theorem eq_impl_IsBefore (a0 : List S) (a1 : List S) (h : H) : call Ev Fn.impl_IsBefore [.agg a0, .agg a1] h =
  (load1 (((h).new 0 a0).new 0 a1) (pv h.n 0)).bind fun x1 =>
  (load1 (((h).new 0 a0).new 0 a1) (pv (((h).new 0 a0).n) 0)).bind fun x2 =>
  (bin Ev .lss 2 (.s x1) (.s x2)).bind fun b3 =>
  gcase b3
  (some (bv true, ((h).new 0 a0).new 0 a1))
  ((load1 (((h).new 0 a0).new 0 a1) (pv h.n 0)).bind fun x4 =>
  (load1 (((h).new 0 a0).new 0 a1) (pv (((h).new 0 a0).n) 0)).bind fun x5 =>
  (bin Ev .eql 2 (.s x4) (.s x5)).bind fun b6 =>
  gcase b6
  ((load1 (((h).new 0 a0).new 0 a1) (pv h.n 1)).bind fun x7 =>
  (load1 (((h).new 0 a0).new 0 a1) (pv (((h).new 0 a0).n) 1)).bind fun x8 =>
  (bin Ev .lss 2 (.s x7) (.s x8)).bind fun b9 =>
  some (b9, ((h).new 0 a0).new 0 a1))
  (some (bv false, ((h).new 0 a0).new 0 a1))
  (vcase (.tup [])
  (some (.tup [], ((h).new 0 a0).new 0 a1))
  (some (bv false, ((h).new 0 a0).new 0 a1))))
  (none) := by
  rw [call_eq]; kernel_rfl

theorem eq_laws_FnExactIsBefore (a0 : List S) (a1 : List S) (h : H) : call Ev Fn.laws_FnExactIsBefore [.agg a0, .agg a1] h =
  (loadN 4 (((h).new 0 a0).new 0 a1) (pv h.n 0)).bind fun c1 =>
  (call Ev Fn.laws_szRow [.agg c1, iv .i64 1048576] (((h).new 0 a0).new 0 a1)).bind fun p2 =>
  (bin Ev .lss 3 p2.1 (iv .i64 0)).bind fun b3 =>
  vcase b3
  (some (bv true, p2.2))
  ((loadN 4 p2.2 (pv (((h).new 0 a0).n) 0)).bind fun c4 =>
  (call Ev Fn.laws_szRow [.agg c4, p2.1] p2.2).bind fun p5 =>
  (bin Ev .lss 3 p5.1 (iv .i64 0)).bind fun b6 =>
  vcase b6
  (some (bv true, p5.2))
  ((loadN 4 p5.2 (pv h.n 0)).bind fun c7 =>
  (loadN 4 p5.2 (pv (((h).new 0 a0).n) 0)).bind fun c8 =>
  (call Ev Fn.laws_toRow [.agg c7] p5.2).bind fun p9 =>
  hchk p5.2 p9.2 (
  (call Ev Fn.laws_toRow [.agg c8] p9.2).bind fun p10 =>
  hchk p5.2 p10.2 (
  (call Ev Fn.spec_IsBefore [p9.1, p10.1] p10.2).bind fun p11 =>
  hchk p5.2 p11.2 (
  (loadN 4 p11.2 (pv h.n 0)).bind fun c12 =>
  (loadN 4 p11.2 (pv (((h).new 0 a0).n) 0)).bind fun c13 =>
  (call Ev Fn.laws_toRow [.agg c12] p11.2).bind fun p14 =>
  hchk p11.2 p14.2 (
  (call Ev Fn.laws_toRow [.agg c13] p14.2).bind fun p15 =>
  hchk p11.2 p15.2 (
  (call Ev Fn.impl_IsBefore [p14.1, p15.1] p15.2).bind fun p16 =>
  hchk p11.2 p16.2 (
  (bin Ev .neq 4 p16.1 p11.1).bind fun b17 =>
  vcase b17
  (some (bv false, p16.2))
  (some (bv true, p16.2)))))))))) := by
  rw [call_eq]; kernel_rfl

theorem eq_spec_l1In (a0 : Int) (a1 : Int) (a2 : Int) (h : H) : call Ev Fn.spec_l1In [iv .i64 a0, iv .i64 a1, iv .i64 a2] h =
  vcase (bv (decide (a0 ≥ a1)))
  (some (bv (decide (a0 ≤ a2)), h))
  (some (bv false, h)) := by
  rw [call_eq]; kernel_rfl

theorem eq_spec_l1Text (a0 : ByteArray) (h : H) : call Ev Fn.spec_l1Text [.s (.str a0)] h =
  (Lp.spec_l1Text 0 [.s (.str a0), iv .i64 0] h).bind fun o1 => lcase o1 (fun l2 h3 =>
  (l2[0]?).bind fun w6 =>
  (lenV .str w6).bind fun v7 =>
  (bin Ev .leq 3 v7 (iv .i64 8)).bind fun b8 =>
  some (b8, h3)) (fun v4 h5 =>
  some (v4, h5)) := by
  rw [call_eq]; kernel_rfl

theorem eq_spec_l1Text_l0 (s0 : ByteArray) (s3 : Int) (h : H) : Lp.spec_l1Text 0 [.s (.str s0), iv .i64 s3] h =
  vcase (bv (decide (s3 < ((s0 : ByteArray).size : Int))))
  ((idxStr (.s (.str s0)) (iv .i64 s3)).bind fun v1 =>
  (bin Ev .lss 5 v1 (iv .u8 97)).bind fun b2 =>
  gcase b2
  (some (.ret (bv false) h))
  ((idxStr (.s (.str s0)) (iv .i64 s3)).bind fun v3 =>
  (bin Ev .gtr 5 v3 (iv .u8 122)).bind fun b4 =>
  vcase b4
  (some (.ret (bv false) h))
  (Lp.spec_l1Text 0 [.s (.str s0), iv .i64 (IntKind.i64.wrap (s3 + 1))] h))
  (none))
  (some (.done [.s (.str s0)] h)) := by
  unfold Lp.spec_l1Text; rw [loop_eq]; kernel_rfl

theorem eq_spec_l1Fault (a0 : V) (h : H) : call Ev Fn.spec_l1Fault [a0] h =
  (notNil a0).bind fun v1 =>
  (padd 0 v1).bind fun v2 =>
  (load1 h v2).bind fun x3 =>
  (call Ev Fn.spec_l1In [.s x3, iv .i64 0, iv .i64 3] h).bind fun p4 =>
  (unNot p4.1).bind fun v5 =>
  gcase v5
  (some (iv .i64 3, p4.2))
  ((notNil a0).bind fun v6 =>
  (padd 1 v6).bind fun v7 =>
  (load1 p4.2 v7).bind fun x8 =>
  (call Ev Fn.spec_l1In [.s x8, iv .i64 1, iv .i64 99] p4.2).bind fun p9 =>
  (unNot p9.1).bind fun v10 =>
  gcase v10
  (some (iv .i64 3, p9.2))
  ((notNil a0).bind fun v11 =>
  (padd 2 v11).bind fun v12 =>
  (load1 p9.2 v12).bind fun x13 =>
  (call Ev Fn.spec_l1In [.s x13, iv .i64 0, iv .i64 999] p9.2).bind fun p14 =>
  (unNot p14.1).bind fun v15 =>
  vcase v15
  (some (iv .i64 3, p14.2))
  ((notNil a0).bind fun v16 =>
  (padd 3 v16).bind fun v17 =>
  (load1 p14.2 v17).bind fun x18 =>
  (call Ev Fn.spec_l1Text [.s x18] p14.2).bind fun p19 =>
  (unNot p19.1).bind fun v20 =>
  vcase v20
  (some (iv .i64 5, p19.2))
  (some (iv .i64 0, p19.2))))
  (none))
  (none) := by
  rw [call_eq]; kernel_rfl

theorem eq_spec_RowFault (a0 : List S) (h : H) : call Ev Fn.spec_RowFault [.agg a0] h =
  (call Ev Fn.spec_l1Fault [pv h.n 0] ((h).new 0 a0)).bind fun p1 =>
  some (p1.1, p1.2) := by
  rw [call_eq]; kernel_rfl

theorem eq_impl_in (a0 : Int) (a1 : Int) (a2 : Int) (h : H) : call Ev Fn.impl_in [iv .i64 a0, iv .i64 a1, iv .i64 a2] h =
  vcase (bv (decide (a0 ≥ a1)))
  (some (bv (decide (a0 ≤ a2)), h))
  (some (bv false, h)) := by
  rw [call_eq]; kernel_rfl

theorem eq_impl_RowFault (a0 : List S) (h : H) : call Ev Fn.impl_RowFault [.agg a0] h =
  (load1 ((h).new 0 a0) (pv h.n 0)).bind fun x1 =>
  (call Ev Fn.impl_in [.s x1, iv .i64 0, iv .i64 3] ((h).new 0 a0)).bind fun p2 =>
  (unNot p2.1).bind fun v3 =>
  gcase v3
  (some (iv .i64 3, p2.2))
  ((load1 p2.2 (pv h.n 1)).bind fun x4 =>
  (call Ev Fn.impl_in [.s x4, iv .i64 1, iv .i64 99] p2.2).bind fun p5 =>
  (unNot p5.1).bind fun v6 =>
  gcase v6
  (some (iv .i64 3, p5.2))
  ((load1 p5.2 (pv h.n 2)).bind fun x7 =>
  (call Ev Fn.impl_in [.s x7, iv .i64 0, iv .i64 999] p5.2).bind fun p8 =>
  (unNot p8.1).bind fun v9 =>
  vcase v9
  (some (iv .i64 3, p8.2))
  ((load1 p8.2 (pv h.n 3)).bind fun x10 =>
  (lenV .str (.s x10)).bind fun v11 =>
  (bin Ev .gtr 3 v11 (iv .i64 8)).bind fun b12 =>
  vcase b12
  (some (iv .i64 5, p8.2))
  ((load1 p8.2 (pv h.n 3)).bind fun x13 =>
  (lenV .str (.s x13)).bind fun v14 =>
  (Lp.impl_RowFault 0 [pv h.n 0, v14, iv .i64 0] p8.2).bind fun o15 => lcase o15 (fun l16 h17 =>
  some (iv .i64 0, h17)) (fun v18 h19 =>
  some (v18, h19)))))
  (none))
  (none) := by
  rw [call_eq]; kernel_rfl

theorem eq_impl_RowFault_l0 (s1 : V) (s26 : Int) (s27 : Int) (h : H) : Lp.impl_RowFault 0 [s1, iv .i64 s26, iv .i64 s27] h =
  vcase (bv (decide (s27 < s26)))
  ((padd 3 s1).bind fun v1 =>
  (load1 h v1).bind fun x2 =>
  (idxStr (.s x2) (iv .i64 s27)).bind fun v3 =>
  (bin Ev .lss 5 v3 (iv .u8 97)).bind fun b4 =>
  gcase b4
  (some (.ret (iv .i64 5) h))
  ((padd 3 s1).bind fun v5 =>
  (load1 h v5).bind fun x6 =>
  (idxStr (.s x6) (iv .i64 s27)).bind fun v7 =>
  (bin Ev .gtr 5 v7 (iv .u8 122)).bind fun b8 =>
  vcase b8
  (some (.ret (iv .i64 5) h))
  (Lp.impl_RowFault 0 [s1, iv .i64 s26, iv .i64 (IntKind.i64.wrap (s27 + 1))] h))
  (none))
  (some (.done [] h)) := by
  unfold Lp.impl_RowFault; rw [loop_eq]; kernel_rfl

theorem eq_laws_FnExactRowFault (a0 : List S) (h : H) : call Ev Fn.laws_FnExactRowFault [.agg a0] h =
  (loadN 4 ((h).new 0 a0) (pv h.n 0)).bind fun c1 =>
  (call Ev Fn.laws_szRow [.agg c1, iv .i64 1048576] ((h).new 0 a0)).bind fun p2 =>
  (bin Ev .lss 3 p2.1 (iv .i64 0)).bind fun b3 =>
  vcase b3
  (some (bv true, p2.2))
  ((loadN 4 p2.2 (pv h.n 0)).bind fun c4 =>
  (call Ev Fn.laws_toRow [.agg c4] p2.2).bind fun p5 =>
  (call Ev Fn.spec_RowFault [p5.1] p5.2).bind fun p6 =>
  (loadN 4 p6.2 (pv h.n 0)).bind fun c7 =>
  (call Ev Fn.laws_toRow [.agg c7] p6.2).bind fun p8 =>
  (call Ev Fn.impl_RowFault [p8.1] p8.2).bind fun p9 =>
  (bin Ev .neq 2 p9.1 p6.1).bind fun b10 =>
  vcase b10
  (some (bv false, p9.2))
  (some (bv true, p9.2))) := by
  rw [call_eq]; kernel_rfl

theorem eq_spec_l1Place (a0 : Int) (a1 : Int) (h : H) : call Ev Fn.spec_l1Place [iv .i64 a0, iv .i64 a1] h =
  (call Ev Fn.spec_l1In [iv .i64 a0, iv .i64 0, iv .i64 11] h).bind fun p1 =>
  gcase p1.1
  ((call Ev Fn.spec_l1In [iv .i64 a1, iv .i64 0, iv .i64 15] p1.2).bind fun p2 =>
  some (p2.1, p2.2))
  (some (bv false, p1.2))
  (none) := by
  rw [call_eq]; kernel_rfl

theorem eq_spec_l1Stub (a0 : Int) (a1 : Int) (h : H) : call Ev Fn.spec_l1Stub [iv .i64 a0, iv .i64 a1] h =
  if ([.int .u8 1] : List S).length = 1 ∧ 0 + 1 ≤ ([.int .u8 0, .int .u8 0, .int .u8 0] : List S).length then
  if ([.int .u8 (IntKind.u8.wrap a0)] : List S).length = 1 ∧ 1 + 1 ≤ (setAt ([.int .u8 0, .int .u8 0, .int .u8 0] : List S) 0 ([.int .u8 1] : List S)).length then
  if ([.int .u8 (IntKind.u8.wrap a1)] : List S).length = 1 ∧ 2 + 1 ≤ (setAt (setAt ([.int .u8 0, .int .u8 0, .int .u8 0] : List S) 0 ([.int .u8 1] : List S)) 1 ([.int .u8 (IntKind.u8.wrap a0)] : List S)).length then
  some (sv h.n 0 3, (h).new 1 (setAt (setAt (setAt ([.int .u8 0, .int .u8 0, .int .u8 0] : List S) 0 ([.int .u8 1] : List S)) 1 ([.int .u8 (IntKind.u8.wrap a0)] : List S)) 2 ([.int .u8 (IntKind.u8.wrap a1)] : List S)))
  else none
  else none
  else none := by
  rw [call_eq]; kernel_rfl

theorem eq_spec_PackStub (a0 : Int) (a1 : Int) (h : H) : call Ev Fn.spec_PackStub [iv .i64 a0, iv .i64 a1] h =
  (call Ev Fn.spec_l1Place [iv .i64 a0, iv .i64 a1] ((h).new 0 [.int .i64 0, .sl none 0])).bind fun p1 =>
  (unNot p1.1).bind fun v2 =>
  vcase v2
  (if ([.int .i64 3] : List S).length = 1 ∧ 0 + 1 ≤ ([.int .i64 0, .sl none 0] : List S).length then
  (stV 2 p1.2 (pv h.n 0) (.agg (setAt ([.int .i64 0, .sl none 0] : List S) 0 ([.int .i64 3] : List S)))).bind fun h3 =>
  (loadN 2 h3 (pv h.n 0)).bind fun c4 =>
  some (.agg c4, h3)
  else none)
  ((call Ev Fn.spec_l1Stub [iv .i64 a0, iv .i64 a1] p1.2).bind fun p5 =>
  (cellsOf p5.1).bind fun c6 =>
  if c6.length = 1 ∧ 1 + 1 ≤ ([.int .i64 0, .sl none 0] : List S).length then
  (stV 2 p5.2 (pv h.n 0) (.agg (setAt ([.int .i64 0, .sl none 0] : List S) 1 c6))).bind fun h7 =>
  (loadN 2 h7 (pv h.n 0)).bind fun c8 =>
  some (.agg c8, h7)
  else none) := by
  rw [call_eq]; kernel_rfl

theorem eq_impl_stub (a0 : Int) (a1 : Int) (h : H) : call Ev Fn.impl_stub [iv .i64 a0, iv .i64 a1] h =
  if ([.int .u8 1] : List S).length = 1 ∧ 0 + 1 ≤ ([.int .u8 0, .int .u8 0, .int .u8 0] : List S).length then
  if ([.int .u8 (IntKind.u8.wrap a0)] : List S).length = 1 ∧ 1 + 1 ≤ (setAt ([.int .u8 0, .int .u8 0, .int .u8 0] : List S) 0 ([.int .u8 1] : List S)).length then
  if ([.int .u8 (IntKind.u8.wrap a1)] : List S).length = 1 ∧ 2 + 1 ≤ (setAt (setAt ([.int .u8 0, .int .u8 0, .int .u8 0] : List S) 0 ([.int .u8 1] : List S)) 1 ([.int .u8 (IntKind.u8.wrap a0)] : List S)).length then
  some (sv h.n 0 3, (h).new 1 (setAt (setAt (setAt ([.int .u8 0, .int .u8 0, .int .u8 0] : List S) 0 ([.int .u8 1] : List S)) 1 ([.int .u8 (IntKind.u8.wrap a0)] : List S)) 2 ([.int .u8 (IntKind.u8.wrap a1)] : List S)))
  else none
  else none
  else none := by
  rw [call_eq]; kernel_rfl

theorem eq_impl_PackStub (a0 : Int) (a1 : Int) (h : H) : call Ev Fn.impl_PackStub [iv .i64 a0, iv .i64 a1] h =
  (call Ev Fn.impl_in [iv .i64 a0, iv .i64 0, iv .i64 11] ((h).new 0 [.int .i64 0, .sl none 0])).bind fun p1 =>
  (unNot p1.1).bind fun v2 =>
  gcase v2
  (if ([.int .i64 3] : List S).length = 1 ∧ 0 + 1 ≤ ([.int .i64 0, .sl none 0] : List S).length then
  (stV 2 p1.2 (pv h.n 0) (.agg (setAt ([.int .i64 0, .sl none 0] : List S) 0 ([.int .i64 3] : List S)))).bind fun h3 =>
  (loadN 2 h3 (pv h.n 0)).bind fun c4 =>
  some (.agg c4, h3)
  else none)
  ((call Ev Fn.impl_in [iv .i64 a1, iv .i64 0, iv .i64 15] p1.2).bind fun p5 =>
  (unNot p5.1).bind fun v6 =>
  vcase v6
  (if ([.int .i64 3] : List S).length = 1 ∧ 0 + 1 ≤ ([.int .i64 0, .sl none 0] : List S).length then
  (stV 2 p5.2 (pv h.n 0) (.agg (setAt ([.int .i64 0, .sl none 0] : List S) 0 ([.int .i64 3] : List S)))).bind fun h7 =>
  (loadN 2 h7 (pv h.n 0)).bind fun c8 =>
  some (.agg c8, h7)
  else none)
  ((call Ev Fn.impl_stub [iv .i64 a0, iv .i64 a1] p5.2).bind fun p9 =>
  (cellsOf p9.1).bind fun c10 =>
  if c10.length = 1 ∧ 1 + 1 ≤ ([.int .i64 0, .sl none 0] : List S).length then
  (stV 2 p9.2 (pv h.n 0) (.agg (setAt ([.int .i64 0, .sl none 0] : List S) 1 c10))).bind fun h11 =>
  (loadN 2 h11 (pv h.n 0)).bind fun c12 =>
  some (.agg c12, h11)
  else none))
  (none) := by
  rw [call_eq]; kernel_rfl

theorem eq_laws_eqByteS (a0 : V) (a1 : V) (h : H) : call Ev Fn.laws_eqByteS [a0, a1] h =
  (lenV (.sl 5) a0).bind fun v1 =>
  (lenV (.sl 5) a1).bind fun v2 =>
  (bin Ev .neq 3 v1 v2).bind fun b3 =>
  vcase b3
  (some (bv false, h))
  ((Lp.laws_eqByteS 0 [a0, a1, iv .i64 0] h).bind fun o4 => lcase o4 (fun l5 h6 =>
  some (bv true, h6)) (fun v7 h8 =>
  some (v7, h8))) := by
  rw [call_eq]; kernel_rfl

theorem eq_laws_eqByteS_l0 (s0 : V) (s1 : V) (s5 : Int) (h : H) : Lp.laws_eqByteS 0 [s0, s1, iv .i64 s5] h =
  (lenV (.sl 5) s0).bind fun v1 =>
  (bin Ev .lss 3 (iv .i64 s5) v1).bind fun b2 =>
  vcase b2
  ((idxS 1 s0 (iv .i64 s5)).bind fun v3 =>
  (load1 h v3).bind fun x4 =>
  (idxS 1 s1 (iv .i64 s5)).bind fun v5 =>
  (load1 h v5).bind fun x6 =>
  (bin Ev .neq 5 (.s x4) (.s x6)).bind fun b7 =>
  vcase b7
  (some (.ret (bv false) h))
  (Lp.laws_eqByteS 0 [s0, s1, iv .i64 (IntKind.i64.wrap (s5 + 1))] h))
  (some (.done [] h)) := by
  unfold Lp.laws_eqByteS; rw [loop_eq]; kernel_rfl

theorem eq_laws_eqBytesResult (a0 : List S) (a1 : List S) (h : H) : call Ev Fn.laws_eqBytesResult [.agg a0, .agg a1] h =
  (load1 (((h).new 0 a0).new 0 a1) (pv h.n 0)).bind fun x1 =>
  (load1 (((h).new 0 a0).new 0 a1) (pv (((h).new 0 a0).n) 0)).bind fun x2 =>
  (bin Ev .neq 2 (.s x1) (.s x2)).bind fun b3 =>
  vcase b3
  (some (bv false, ((h).new 0 a0).new 0 a1))
  ((load1 (((h).new 0 a0).new 0 a1) (pv h.n 1)).bind fun x4 =>
  (load1 (((h).new 0 a0).new 0 a1) (pv (((h).new 0 a0).n) 1)).bind fun x5 =>
  (call Ev Fn.laws_eqByteS [.s x4, .s x5] (((h).new 0 a0).new 0 a1)).bind fun p6 =>
  (unNot p6.1).bind fun v7 =>
  vcase v7
  (some (bv false, p6.2))
  (some (bv true, p6.2))) := by
  rw [call_eq]; kernel_rfl

theorem eq_laws_markByteS (a0 : V) (a1 : Int) (h : H) : call Ev Fn.laws_markByteS [a0, iv .i64 a1] h =
  (Lp.laws_markByteS 0 [a0, iv .i64 a1, iv .i64 0] h).bind fun o1 => lcase o1 (fun l2 h3 =>
  (l2[0]?).bind fun w6 =>
  some (w6, h3)) (fun v4 h5 =>
  some (v4, h5)) := by
  rw [call_eq]; kernel_rfl

theorem eq_laws_markByteS_l0 (s0 : V) (s1 : Int) (s5 : Int) (h : H) : Lp.laws_markByteS 0 [s0, iv .i64 s1, iv .i64 s5] h =
  (lenV (.sl 5) s0).bind fun v1 =>
  (bin Ev .lss 3 (iv .i64 s5) v1).bind fun b2 =>
  vcase b2
  ((idxS 1 s0 (iv .i64 s5)).bind fun v3 =>
  (stV 1 h v3 (iv .u8 (IntKind.u8.wrap s1))).bind fun h4 =>
  Lp.laws_markByteS 0 [s0, iv .i64 (IntKind.i64.wrap (s1 + 1)), iv .i64 (IntKind.i64.wrap (s5 + 1))] h4)
  (some (.done [iv .i64 s1] h)) := by
  unfold Lp.laws_markByteS; rw [loop_eq]; kernel_rfl

theorem eq_laws_markBytesResult (a0 : List S) (a1 : Int) (h : H) : call Ev Fn.laws_markBytesResult [.agg a0, iv .i64 a1] h =
  (load1 ((h).new 0 a0) (pv h.n 1)).bind fun x1 =>
  (call Ev Fn.laws_markByteS [.s x1, iv .i64 a1] ((h).new 0 a0)).bind fun p2 =>
  some (p2.1, p2.2) := by
  rw [call_eq]; kernel_rfl

theorem eq_laws_heldByteS (a0 : V) (a1 : Int) (h : H) : call Ev Fn.laws_heldByteS [a0, iv .i64 a1] h =
  (Lp.laws_heldByteS 0 [a0, iv .i64 a1, iv .i64 0] h).bind fun o1 => lcase o1 (fun l2 h3 =>
  (l2[0]?).bind fun w6 =>
  some (w6, h3)) (fun v4 h5 =>
  some (v4, h5)) := by
  rw [call_eq]; kernel_rfl

theorem eq_laws_heldByteS_l0 (s0 : V) (s1 : Int) (s5 : Int) (h : H) : Lp.laws_heldByteS 0 [s0, iv .i64 s1, iv .i64 s5] h =
  (lenV (.sl 5) s0).bind fun v1 =>
  (bin Ev .lss 3 (iv .i64 s5) v1).bind fun b2 =>
  vcase b2
  ((idxS 1 s0 (iv .i64 s5)).bind fun v3 =>
  (load1 h v3).bind fun x4 =>
  (bin Ev .neq 5 (.s x4) (iv .u8 (IntKind.u8.wrap s1))).bind fun b5 =>
  vcase b5
  (some (.ret (iv .i64 (-1)) h))
  (Lp.laws_heldByteS 0 [s0, iv .i64 (IntKind.i64.wrap (s1 + 1)), iv .i64 (IntKind.i64.wrap (s5 + 1))] h))
  (some (.done [iv .i64 s1] h)) := by
  unfold Lp.laws_heldByteS; rw [loop_eq]; kernel_rfl

theorem eq_laws_heldBytesResult (a0 : List S) (a1 : Int) (h : H) : call Ev Fn.laws_heldBytesResult [.agg a0, iv .i64 a1] h =
  (load1 ((h).new 0 a0) (pv h.n 1)).bind fun x1 =>
  (call Ev Fn.laws_heldByteS [.s x1, iv .i64 a1] ((h).new 0 a0)).bind fun p2 =>
  (bin Ev .lss 3 p2.1 (iv .i64 0)).bind fun b3 =>
  vcase b3
  (some (iv .i64 (-1), p2.2))
  (some (p2.1, p2.2)) := by
  rw [call_eq]; kernel_rfl

theorem eq_laws_FnExactPackStub (a0 : Int) (a1 : Int) (h : H) : call Ev Fn.laws_FnExactPackStub [iv .i64 a0, iv .i64 a1] h =
  (call Ev Fn.spec_PackStub [iv .i64 a0, iv .i64 a1] h).bind fun p1 =>
  (stV 2 ((p1.2).new 0 [.int .i64 0, .sl none 0]) (pv p1.2.n 0) p1.1).bind fun h2 =>
  (call Ev Fn.impl_PackStub [iv .i64 a0, iv .i64 a1] h2).bind fun p3 =>
  (stV 2 ((p3.2).new 0 [.int .i64 0, .sl none 0]) (pv p3.2.n 0) p3.1).bind fun h4 =>
  (loadN 2 h4 (pv p3.2.n 0)).bind fun c5 =>
  (loadN 2 h4 (pv p1.2.n 0)).bind fun c6 =>
  (call Ev Fn.laws_eqBytesResult [.agg c5, .agg c6] h4).bind fun p7 =>
  (unNot p7.1).bind fun v8 =>
  vcase v8
  (some (bv false, p7.2))
  ((loadN 2 p7.2 (pv p3.2.n 0)).bind fun c9 =>
  (call Ev Fn.laws_markBytesResult [.agg c9, iv .i64 1] p7.2).bind fun p10 =>
  (loadN 2 p10.2 (pv p3.2.n 0)).bind fun c11 =>
  (call Ev Fn.laws_heldBytesResult [.agg c11, iv .i64 1] p10.2).bind fun p12 =>
  (bin Ev .lss 3 p12.1 (iv .i64 0)).bind fun b13 =>
  vcase b13
  (some (bv false, p12.2))
  ((bin Ev .neq 3 p12.1 p10.1).bind fun b14 =>
  vcase b14
  (some (bv false, p12.2))
  ((call Ev Fn.impl_PackStub [iv .i64 a0, iv .i64 a1] p12.2).bind fun p15 =>
  (stV 2 ((p15.2).new 0 [.int .i64 0, .sl none 0]) (pv p15.2.n 0) p15.1).bind fun h16 =>
  (loadN 2 h16 (pv p15.2.n 0)).bind fun c17 =>
  (loadN 2 h16 (pv p1.2.n 0)).bind fun c18 =>
  (call Ev Fn.laws_eqBytesResult [.agg c17, .agg c18] h16).bind fun p19 =>
  (unNot p19.1).bind fun v20 =>
  vcase v20
  (some (bv false, p19.2))
  ((loadN 2 p19.2 (pv p3.2.n 0)).bind fun c21 =>
  (call Ev Fn.laws_heldBytesResult [.agg c21, iv .i64 1] p19.2).bind fun p22 =>
  (bin Ev .lss 3 p22.1 (iv .i64 0)).bind fun b23 =>
  vcase b23
  (some (bv false, p22.2))
  ((bin Ev .neq 3 p22.1 p10.1).bind fun b24 =>
  vcase b24
  (some (bv false, p22.2))
  (some (bv true, p22.2))))))) := by
  rw [call_eq]; kernel_rfl

theorem eq_spec_l2New (a0 : Int) (h : H) : call Ev Fn.spec_l2New [iv .u8 a0] h =
  (mkSl 1 [.int .u8 0] h (iv .i64 64) (iv .i64 64)).bind fun p1 =>
  (Lp.spec_l2New 0 [iv .u8 a0, p1.1, iv .i64 0] p1.2).bind fun o2 => lcase o2 (fun l3 h4 =>
  (l3[0]?).bind fun w7 =>
  (idxS 1 w7 (iv .i64 0)).bind fun v8 =>
  (stV 1 h4 v8 (iv .u8 0)).bind fun h9 =>
  (idxS 1 w7 (iv .i64 1)).bind fun v10 =>
  (stV 1 h9 v10 (iv .u8 64)).bind fun h11 =>
  some (w7, h11)) (fun v5 h6 =>
  some (v5, h6)) := by
  rw [call_eq]; kernel_rfl

theorem eq_spec_l2New_l0 (s0 : Int) (s3 : V) (s4 : Int) (h : H) : Lp.spec_l2New 0 [iv .u8 s0, s3, iv .i64 s4] h =
  vcase (bv (decide (s4 < 64)))
  ((idxS 1 s3 (iv .i64 s4)).bind fun v1 =>
  (stV 1 h v1 (iv .u8 s0)).bind fun h2 =>
  Lp.spec_l2New 0 [iv .u8 s0, s3, iv .i64 (IntKind.i64.wrap (s4 + 1))] h2)
  (some (.done [s3] h)) := by
  unfold Lp.spec_l2New; rw [loop_eq]; kernel_rfl

theorem eq_spec_NewPage (a0 : Int) (h : H) : call Ev Fn.spec_NewPage [iv .u8 a0] h =
  (call Ev Fn.spec_l2New [iv .u8 a0] ((h).new 0 [.int .i64 0, .int .i64 0, .sl none 0])).bind fun p1 =>
  (cellsOf p1.1).bind fun c2 =>
  if c2.length = 1 ∧ 2 + 1 ≤ ([.int .i64 0, .int .i64 0, .sl none 0] : List S).length then
  (stV 3 p1.2 (pv h.n 0) (.agg (setAt ([.int .i64 0, .int .i64 0, .sl none 0] : List S) 2 c2))).bind fun h3 =>
  (loadN 3 h3 (pv h.n 0)).bind fun c4 =>
  some (.agg c4, h3)
  else none := by
  rw [call_eq]; kernel_rfl

theorem eq_impl_newPage (a0 : Int) (h : H) : call Ev Fn.impl_newPage [iv .u8 a0] h =
  (mkSl 1 [.int .u8 0] h (iv .i64 64) (iv .i64 64)).bind fun p1 =>
  (lenV (.sl 5) p1.1).bind fun v2 =>
  (Lp.impl_newPage 0 [iv .u8 a0, p1.1, v2, iv .i64 0] p1.2).bind fun o3 => lcase o3 (fun l4 h5 =>
  (l4[0]?).bind fun w8 =>
  (idxS 1 w8 (iv .i64 0)).bind fun v9 =>
  (stV 1 h5 v9 (iv .u8 0)).bind fun h10 =>
  (idxS 1 w8 (iv .i64 1)).bind fun v11 =>
  (stV 1 h10 v11 (iv .u8 64)).bind fun h12 =>
  some (w8, h12)) (fun v6 h7 =>
  some (v6, h7)) := by
  rw [call_eq]; kernel_rfl

theorem eq_impl_newPage_l0 (s0 : Int) (s3 : V) (s7 : Int) (s8 : Int) (h : H) : Lp.impl_newPage 0 [iv .u8 s0, s3, iv .i64 s7, iv .i64 s8] h =
  vcase (bv (decide (s8 < s7)))
  ((idxS 1 s3 (iv .i64 s8)).bind fun v1 =>
  (stV 1 h v1 (iv .u8 s0)).bind fun h2 =>
  Lp.impl_newPage 0 [iv .u8 s0, s3, iv .i64 s7, iv .i64 (IntKind.i64.wrap (s8 + 1))] h2)
  (some (.done [s3] h)) := by
  unfold Lp.impl_newPage; rw [loop_eq]; kernel_rfl

theorem eq_impl_NewPage (a0 : Int) (h : H) : call Ev Fn.impl_NewPage [iv .u8 a0] h =
  (call Ev Fn.impl_newPage [iv .u8 a0] ((h).new 0 [.int .i64 0, .int .i64 0, .sl none 0])).bind fun p1 =>
  (cellsOf p1.1).bind fun c2 =>
  if c2.length = 1 ∧ 2 + 1 ≤ ([.int .i64 0, .int .i64 0, .sl none 0] : List S).length then
  (stV 3 p1.2 (pv h.n 0) (.agg (setAt ([.int .i64 0, .int .i64 0, .sl none 0] : List S) 2 c2))).bind fun h3 =>
  (loadN 3 h3 (pv h.n 0)).bind fun c4 =>
  some (.agg c4, h3)
  else none := by
  rw [call_eq]; kernel_rfl

theorem eq_laws_eqPageResult (a0 : List S) (a1 : List S) (h : H) : call Ev Fn.laws_eqPageResult [.agg a0, .agg a1] h =
  (load1 (((h).new 0 a0).new 0 a1) (pv h.n 0)).bind fun x1 =>
  (load1 (((h).new 0 a0).new 0 a1) (pv (((h).new 0 a0).n) 0)).bind fun x2 =>
  (bin Ev .neq 2 (.s x1) (.s x2)).bind fun b3 =>
  vcase b3
  (some (bv false, ((h).new 0 a0).new 0 a1))
  ((load1 (((h).new 0 a0).new 0 a1) (pv h.n 1)).bind fun x4 =>
  (load1 (((h).new 0 a0).new 0 a1) (pv (((h).new 0 a0).n) 1)).bind fun x5 =>
  (bin Ev .neq 2 (.s x4) (.s x5)).bind fun b6 =>
  vcase b6
  (some (bv false, ((h).new 0 a0).new 0 a1))
  ((load1 (((h).new 0 a0).new 0 a1) (pv h.n 2)).bind fun x7 =>
  (load1 (((h).new 0 a0).new 0 a1) (pv (((h).new 0 a0).n) 2)).bind fun x8 =>
  (call Ev Fn.laws_eqByteS [.s x7, .s x8] (((h).new 0 a0).new 0 a1)).bind fun p9 =>
  (unNot p9.1).bind fun v10 =>
  vcase v10
  (some (bv false, p9.2))
  (some (bv true, p9.2)))) := by
  rw [call_eq]; kernel_rfl

theorem eq_laws_markPageResult (a0 : List S) (a1 : Int) (h : H) : call Ev Fn.laws_markPageResult [.agg a0, iv .i64 a1] h =
  (load1 ((h).new 0 a0) (pv h.n 2)).bind fun x1 =>
  (call Ev Fn.laws_markByteS [.s x1, iv .i64 a1] ((h).new 0 a0)).bind fun p2 =>
  some (p2.1, p2.2) := by
  rw [call_eq]; kernel_rfl

theorem eq_laws_heldPageResult (a0 : List S) (a1 : Int) (h : H) : call Ev Fn.laws_heldPageResult [.agg a0, iv .i64 a1] h =
  (load1 ((h).new 0 a0) (pv h.n 2)).bind fun x1 =>
  (call Ev Fn.laws_heldByteS [.s x1, iv .i64 a1] ((h).new 0 a0)).bind fun p2 =>
  (bin Ev .lss 3 p2.1 (iv .i64 0)).bind fun b3 =>
  vcase b3
  (some (iv .i64 (-1), p2.2))
  (some (p2.1, p2.2)) := by
  rw [call_eq]; kernel_rfl

end Vm
