/-
  What each function, and each round of each loop, comes to in the small machine. Written by a program (gen.py).
-/
import Derived.Test.YtfmkfefblbophaaEnv
set_option linter.unusedVariables false
set_option maxRecDepth 100000
namespace Vm
open Go

theorem eq_laws_toRunS_l0 (s0 : V) (s3 : V) (s4 : Int) (h : H) : Lp.laws_toRunS 0 [s0, s3, iv .i64 s4] h =
  (lenV (.sl 97) s0).bind fun v1 =>
  (bin Ev .lss 3 (iv .i64 s4) v1).bind fun b2 =>
  vcase b2
  ((idxS 2 s0 (iv .i64 s4)).bind fun v3 =>
  (loadN 2 h v3).bind fun c4 =>
  (call Ev Fn.laws_toRun [.agg c4] h).bind fun p5 =>
  (idxS 2 s3 (iv .i64 s4)).bind fun v6 =>
  (stV 2 p5.2 v6 p5.1).bind fun h7 =>
  Lp.laws_toRunS 0 [s0, s3, iv .i64 (IntKind.i64.wrap (s4 + 1))] h7)
  (some (.done [s3] h)) := by
  unfold Lp.laws_toRunS; rw [loop_eq]; kernel_rfl

theorem eq_impl_RunsFault (a0 : V) (h : H) : call Ev Fn.impl_RunsFault [a0] h =
  (lenV (.sl 98) a0).bind fun v1 =>
  (bin Ev .gtr 3 v1 (iv .i64 64)).bind fun b2 =>
  vcase b2
  (some (iv .i64 2, h))
  ((lenV (.sl 98) a0).bind fun v3 =>
  (Lp.impl_RunsFault 0 [iv .i64 0, a0, v3, iv .i64 0] h).bind fun o4 => lcase o4 (fun l5 h6 =>
  some (iv .i64 0, h6)) (fun v7 h8 =>
  some (v7, h8))) := by
  rw [call_eq]; kernel_rfl

theorem eq_impl_RunsFault_l0 (s3 : Int) (s10 : V) (s11 : Int) (s12 : Int) (h : H) : Lp.impl_RunsFault 0 [iv .i64 s3, s10, iv .i64 s11, iv .i64 s12] h =
  vcase (bv (decide (s12 < s11)))
  ((idxS 2 s10 (iv .i64 s12)).bind fun v1 =>
  (loadN 2 h v1).bind fun c2 =>
  (stV 2 ((h).new 0 [.int .i64 0, .sl none 0]) (pv h.n 0) (.agg c2)).bind fun h3 =>
  (load1 h3 (pv h.n 1)).bind fun x4 =>
  (lenV (.sl 5) (.s x4)).bind fun v5 =>
  (load1 h3 (pv h.n 0)).bind fun x6 =>
  (call Ev Fn.impl_in [.s x6, iv .i64 0, iv .i64 63] h3).bind fun p7 =>
  (unNot p7.1).bind fun v8 =>
  gcase v8
  (some (.ret (iv .i64 3) p7.2))
  ((call Ev Fn.impl_in [v5, iv .i64 1, iv .i64 64] p7.2).bind fun p9 =>
  (unNot p9.1).bind fun v10 =>
  gcase v10
  (some (.ret (iv .i64 3) p9.2))
  ((load1 p9.2 (pv h.n 0)).bind fun x11 =>
  (bin Ev .add 2 (.s x11) v5).bind fun b12 =>
  (bin Ev .gtr 2 b12 (iv .i64 64)).bind fun b13 =>
  vcase b13
  (some (.ret (iv .i64 3) p9.2))
  ((load1 p9.2 (pv h.n 0)).bind fun x14 =>
  (bin Ev .lss 2 (.s x14) (iv .i64 s3)).bind fun b15 =>
  vcase b15
  (some (.ret (iv .i64 1) p9.2))
  ((load1 p9.2 (pv h.n 0)).bind fun x16 =>
  (bin Ev .add 2 (.s x16) v5).bind fun b17 =>
  (bin Ev .add 2 b17 (iv .i64 1)).bind fun b18 =>
  Lp.impl_RunsFault 0 [b18, s10, iv .i64 s11, iv .i64 (IntKind.i64.wrap (s12 + 1))] p9.2)))
  (none))
  (none))
  (some (.done [] h)) := by
  unfold Lp.impl_RunsFault; rw [loop_eq]; kernel_rfl

theorem eq_laws_eqRun (a0 : List S) (a1 : List S) (h : H) : call Ev Fn.laws_eqRun [.agg a0, .agg a1] h =
  (load1 (((h).new 0 a0).new 0 a1) (pv h.n 0)).bind fun x1 =>
  (load1 (((h).new 0 a0).new 0 a1) (pv (((h).new 0 a0).n) 0)).bind fun x2 =>
  (bin Ev .neq 2 (.s x1) (.s x2)).bind fun b3 =>
  vcase b3
  (some (bv false, ((h).new 0 a0).new 0 a1))
  ((load1 (((h).new 0 a0).new 0 a1) (pv h.n 1)).bind fun x4 =>
  (load1 (((h).new 0 a0).new 0 a1) (pv (((h).new 0 a0).n) 1)).bind fun x5 =>
  (call Ev Fn.laws_eqByteS [.s x4, .s x5] (((h).new 0 a0).new 0 a1)).bind fun p6 =>
  (unNot p6.1).bind fun v7 =>
  vcase v7
  (some (bv false, p6.2))
  (some (bv true, p6.2))) := by
  rw [call_eq]; kernel_rfl

theorem eq_laws_eqRunS (a0 : V) (a1 : V) (h : H) : call Ev Fn.laws_eqRunS [a0, a1] h =
  (lenV (.sl 98) a0).bind fun v1 =>
  (lenV (.sl 98) a1).bind fun v2 =>
  (bin Ev .neq 3 v1 v2).bind fun b3 =>
  vcase b3
  (some (bv false, h))
  ((Lp.laws_eqRunS 0 [a0, a1, iv .i64 0] h).bind fun o4 => lcase o4 (fun l5 h6 =>
  some (bv true, h6)) (fun v7 h8 =>
  some (v7, h8))) := by
  rw [call_eq]; kernel_rfl

theorem eq_laws_eqRunS_l0 (s0 : V) (s1 : V) (s5 : Int) (h : H) : Lp.laws_eqRunS 0 [s0, s1, iv .i64 s5] h =
  (lenV (.sl 98) s0).bind fun v1 =>
  (bin Ev .lss 3 (iv .i64 s5) v1).bind fun b2 =>
  vcase b2
  ((idxS 2 s0 (iv .i64 s5)).bind fun v3 =>
  (loadN 2 h v3).bind fun c4 =>
  (idxS 2 s1 (iv .i64 s5)).bind fun v5 =>
  (loadN 2 h v5).bind fun c6 =>
  (call Ev Fn.laws_eqRun [.agg c4, .agg c6] h).bind fun p7 =>
  hchk h p7.2 (
  (unNot p7.1).bind fun v8 =>
  vcase v8
  (some (.ret (bv false) p7.2))
  (Lp.laws_eqRunS 0 [s0, s1, iv .i64 (IntKind.i64.wrap (s5 + 1))] p7.2)))
  (some (.done [] h)) := by
  unfold Lp.laws_eqRunS; rw [loop_eq]; kernel_rfl

theorem eq_laws_FnExactRunsFault (a0 : V) (h : H) : call Ev Fn.laws_FnExactRunsFault [a0] h =
  (call Ev Fn.laws_szRunS [a0, iv .i64 1048576] h).bind fun p1 =>
  (bin Ev .lss 3 p1.1 (iv .i64 0)).bind fun b2 =>
  vcase b2
  (some (bv true, p1.2))
  ((call Ev Fn.laws_toRunS [a0] p1.2).bind fun p3 =>
  (call Ev Fn.spec_RunsFault [p3.1] p3.2).bind fun p4 =>
  (call Ev Fn.laws_toRunS [a0] p4.2).bind fun p5 =>
  (call Ev Fn.impl_RunsFault [p5.1] p5.2).bind fun p6 =>
  (bin Ev .neq 2 p6.1 p4.1).bind fun b7 =>
  vcase b7
  (some (bv false, p6.2))
  ((call Ev Fn.laws_toRunS [a0] p6.2).bind fun p8 =>
  (call Ev Fn.laws_eqRunS [p5.1, p8.1] p8.2).bind fun p9 =>
  (unNot p9.1).bind fun v10 =>
  vcase v10
  (some (bv false, p9.2))
  (some (bv true, p9.2)))) := by
  rw [call_eq]; kernel_rfl

theorem eq_spec_l1Read (a0 : V) (h : H) : call Ev Fn.spec_l1Read [a0] h =
  (lenV (.sl 5) a0).bind fun v1 =>
  (bin Ev .eql 3 v1 (iv .i64 3)).bind fun b2 =>
  gcase b2
  ((idxS 1 a0 (iv .i64 0)).bind fun v3 =>
  (load1 ((h).new 0 [.int .i64 0, .int .i64 0, .int .i64 0, .int .i64 0, .int .i64 0, .int .i64 0, .int .i64 0, .str ⟨#[]⟩]) v3).bind fun x4 =>
  (bin Ev .eql 5 (.s x4) (iv .u8 1)).bind fun b5 =>
  vcase b5
  ((idxS 1 a0 (iv .i64 1)).bind fun v6 =>
  (load1 ((h).new 0 [.int .i64 0, .int .i64 0, .int .i64 0, .int .i64 0, .int .i64 0, .int .i64 0, .int .i64 0, .str ⟨#[]⟩]) v6).bind fun x7 =>
  (cvI .i64 (.s x7)).bind fun v8 =>
  (idxS 1 a0 (iv .i64 2)).bind fun v9 =>
  (load1 ((h).new 0 [.int .i64 0, .int .i64 0, .int .i64 0, .int .i64 0, .int .i64 0, .int .i64 0, .int .i64 0, .str ⟨#[]⟩]) v9).bind fun x10 =>
  (cvI .i64 (.s x10)).bind fun v11 =>
  if ([.int .i64 1] : List S).length = 1 ∧ 1 + 1 ≤ ([.int .i64 0, .int .i64 0, .int .i64 0, .int .i64 0, .int .i64 0, .int .i64 0, .int .i64 0, .str ⟨#[]⟩] : List S).length then
  (cellsOf v8).bind fun c12 =>
  if c12.length = 1 ∧ 2 + 1 ≤ (setAt ([.int .i64 0, .int .i64 0, .int .i64 0, .int .i64 0, .int .i64 0, .int .i64 0, .int .i64 0, .str ⟨#[]⟩] : List S) 1 ([.int .i64 1] : List S)).length then
  (cellsOf v11).bind fun c13 =>
  if c13.length = 1 ∧ 3 + 1 ≤ (setAt (setAt ([.int .i64 0, .int .i64 0, .int .i64 0, .int .i64 0, .int .i64 0, .int .i64 0, .int .i64 0, .str ⟨#[]⟩] : List S) 1 ([.int .i64 1] : List S)) 2 c12).length then
  hchk ((h).new 0 [.int .i64 0, .int .i64 0, .int .i64 0, .int .i64 0, .int .i64 0, .int .i64 0, .int .i64 0, .str ⟨#[]⟩]) (((h).new 0 [.int .i64 0, .int .i64 0, .int .i64 0, .int .i64 0, .int .i64 0, .int .i64 0, .int .i64 0, .str ⟨#[]⟩]).new 0 [.int .i64 0, .int .i64 0, .int .i64 0, .int .i64 0, .int .i64 0, .int .i64 0, .int .i64 0, .str ⟨#[]⟩]) (
  (stV 8 (((h).new 0 [.int .i64 0, .int .i64 0, .int .i64 0, .int .i64 0, .int .i64 0, .int .i64 0, .int .i64 0, .str ⟨#[]⟩]).new 0 [.int .i64 0, .int .i64 0, .int .i64 0, .int .i64 0, .int .i64 0, .int .i64 0, .int .i64 0, .str ⟨#[]⟩]) (pv (((h).new 0 [.int .i64 0, .int .i64 0, .int .i64 0, .int .i64 0, .int .i64 0, .int .i64 0, .int .i64 0, .str ⟨#[]⟩]).n) 0) (.agg (setAt (setAt (setAt ([.int .i64 0, .int .i64 0, .int .i64 0, .int .i64 0, .int .i64 0, .int .i64 0, .int .i64 0, .str ⟨#[]⟩] : List S) 1 ([.int .i64 1] : List S)) 2 c12) 3 c13))).bind fun h15 =>
  (loadN 8 h15 (pv (((h).new 0 [.int .i64 0, .int .i64 0, .int .i64 0, .int .i64 0, .int .i64 0, .int .i64 0, .int .i64 0, .str ⟨#[]⟩]).n) 0)).bind fun c16 =>
  (load1 h15 (pv (((h).new 0 [.int .i64 0, .int .i64 0, .int .i64 0, .int .i64 0, .int .i64 0, .int .i64 0, .int .i64 0, .str ⟨#[]⟩]).n) 2)).bind fun x17 =>
  (load1 h15 (pv (((h).new 0 [.int .i64 0, .int .i64 0, .int .i64 0, .int .i64 0, .int .i64 0, .int .i64 0, .int .i64 0, .str ⟨#[]⟩]).n) 3)).bind fun x18 =>
  (call Ev Fn.spec_l1Place [.s x17, .s x18] h15).bind fun p19 =>
  hchk h15 p19.2 (
  (stV 8 p19.2 (pv h.n 0) (.agg c16)).bind fun h20 =>
  (loadN 8 h20 (pv h.n 0)).bind fun c21 =>
  (V.toA p19.1).bind fun a22 =>
  some (.tup [.agg c21, a22], h20)))
  else none
  else none
  else none)
  ((lenV (.sl 5) a0).bind fun v23 =>
  (bin Ev .lss 3 v23 (iv .i64 6)).bind fun b24 =>
  gcase b24
  ((stV 8 ((h).new 0 [.int .i64 0, .int .i64 0, .int .i64 0, .int .i64 0, .int .i64 0, .int .i64 0, .int .i64 0, .str ⟨#[]⟩]) (pv h.n 0) (.agg [.int .i64 0, .int .i64 0, .int .i64 0, .int .i64 0, .int .i64 0, .int .i64 0, .int .i64 0, .str ⟨#[]⟩])).bind fun h25 =>
  (loadN 8 h25 (pv h.n 0)).bind fun c26 =>
  some (.tup [.agg c26, .s (.bool false)], h25))
  ((idxS 1 a0 (iv .i64 0)).bind fun v27 =>
  (load1 ((h).new 0 [.int .i64 0, .int .i64 0, .int .i64 0, .int .i64 0, .int .i64 0, .int .i64 0, .int .i64 0, .str ⟨#[]⟩]) v27).bind fun x28 =>
  (bin Ev .eql 5 (.s x28) (iv .u8 1)).bind fun b29 =>
  gcase b29
  ((stV 8 ((h).new 0 [.int .i64 0, .int .i64 0, .int .i64 0, .int .i64 0, .int .i64 0, .int .i64 0, .int .i64 0, .str ⟨#[]⟩]) (pv h.n 0) (.agg [.int .i64 0, .int .i64 0, .int .i64 0, .int .i64 0, .int .i64 0, .int .i64 0, .int .i64 0, .str ⟨#[]⟩])).bind fun h30 =>
  (loadN 8 h30 (pv h.n 0)).bind fun c31 =>
  some (.tup [.agg c31, .s (.bool false)], h30))
  ((idxS 1 a0 (iv .i64 0)).bind fun v32 =>
  (load1 ((h).new 0 [.int .i64 0, .int .i64 0, .int .i64 0, .int .i64 0, .int .i64 0, .int .i64 0, .int .i64 0, .str ⟨#[]⟩]) v32).bind fun x33 =>
  (bin Ev .gtr 5 (.s x33) (iv .u8 2)).bind fun b34 =>
  gcase b34
  ((stV 8 ((h).new 0 [.int .i64 0, .int .i64 0, .int .i64 0, .int .i64 0, .int .i64 0, .int .i64 0, .int .i64 0, .str ⟨#[]⟩]) (pv h.n 0) (.agg [.int .i64 0, .int .i64 0, .int .i64 0, .int .i64 0, .int .i64 0, .int .i64 0, .int .i64 0, .str ⟨#[]⟩])).bind fun h35 =>
  (loadN 8 h35 (pv h.n 0)).bind fun c36 =>
  some (.tup [.agg c36, .s (.bool false)], h35))
  ((lenV (.sl 5) a0).bind fun v37 =>
  (idxS 1 a0 (iv .i64 5)).bind fun v38 =>
  (load1 ((h).new 0 [.int .i64 0, .int .i64 0, .int .i64 0, .int .i64 0, .int .i64 0, .int .i64 0, .int .i64 0, .str ⟨#[]⟩]) v38).bind fun x39 =>
  (cvI .i64 (.s x39)).bind fun v40 =>
  (bin Ev .add 3 (iv .i64 6) v40).bind fun b41 =>
  (bin Ev .neq 3 v37 b41).bind fun b42 =>
  vcase b42
  ((stV 8 ((h).new 0 [.int .i64 0, .int .i64 0, .int .i64 0, .int .i64 0, .int .i64 0, .int .i64 0, .int .i64 0, .str ⟨#[]⟩]) (pv h.n 0) (.agg [.int .i64 0, .int .i64 0, .int .i64 0, .int .i64 0, .int .i64 0, .int .i64 0, .int .i64 0, .str ⟨#[]⟩])).bind fun h43 =>
  (loadN 8 h43 (pv h.n 0)).bind fun c44 =>
  some (.tup [.agg c44, .s (.bool false)], h43))
  ((idxS 1 a0 (iv .i64 1)).bind fun v45 =>
  (load1 ((h).new 0 [.int .i64 0, .int .i64 0, .int .i64 0, .int .i64 0, .int .i64 0, .int .i64 0, .int .i64 0, .str ⟨#[]⟩]) v45).bind fun x46 =>
  (cvI .i64 (.s x46)).bind fun v47 =>
  (idxS 1 a0 (iv .i64 2)).bind fun v48 =>
  (load1 ((h).new 0 [.int .i64 0, .int .i64 0, .int .i64 0, .int .i64 0, .int .i64 0, .int .i64 0, .int .i64 0, .str ⟨#[]⟩]) v48).bind fun x49 =>
  (cvI .i64 (.s x49)).bind fun v50 =>
  (idxS 1 a0 (iv .i64 3)).bind fun v51 =>
  (load1 ((h).new 0 [.int .i64 0, .int .i64 0, .int .i64 0, .int .i64 0, .int .i64 0, .int .i64 0, .int .i64 0, .str ⟨#[]⟩]) v51).bind fun x52 =>
  (cvI .i64 (.s x52)).bind fun v53 =>
  (bin Ev .mul 2 v53 (iv .i64 256)).bind fun b54 =>
  (idxS 1 a0 (iv .i64 4)).bind fun v55 =>
  (load1 ((h).new 0 [.int .i64 0, .int .i64 0, .int .i64 0, .int .i64 0, .int .i64 0, .int .i64 0, .int .i64 0, .str ⟨#[]⟩]) v55).bind fun x56 =>
  (cvI .i64 (.s x56)).bind fun v57 =>
  (bin Ev .add 2 b54 v57).bind fun b58 =>
  (slS 1 ((h).new 0 [.int .i64 0, .int .i64 0, .int .i64 0, .int .i64 0, .int .i64 0, .int .i64 0, .int .i64 0, .str ⟨#[]⟩]) a0 (some (iv .i64 6)) none).bind fun v59 =>
  (cvStr ((h).new 0 [.int .i64 0, .int .i64 0, .int .i64 0, .int .i64 0, .int .i64 0, .int .i64 0, .int .i64 0, .str ⟨#[]⟩]) v59).bind fun v60 =>
  (cellsOf v47).bind fun c61 =>
  if c61.length = 1 ∧ 0 + 1 ≤ ([.int .i64 0, .int .i64 0, .int .i64 0, .str ⟨#[]⟩] : List S).length then
  (cellsOf v50).bind fun c62 =>
  if c62.length = 1 ∧ 1 + 1 ≤ (setAt ([.int .i64 0, .int .i64 0, .int .i64 0, .str ⟨#[]⟩] : List S) 0 c61).length then
  (cellsOf b58).bind fun c63 =>
  if c63.length = 1 ∧ 2 + 1 ≤ (setAt (setAt ([.int .i64 0, .int .i64 0, .int .i64 0, .str ⟨#[]⟩] : List S) 0 c61) 1 c62).length then
  (cellsOf v60).bind fun c64 =>
  if c64.length = 1 ∧ 3 + 1 ≤ (setAt (setAt (setAt ([.int .i64 0, .int .i64 0, .int .i64 0, .str ⟨#[]⟩] : List S) 0 c61) 1 c62) 2 c63).length then
  hchk ((h).new 0 [.int .i64 0, .int .i64 0, .int .i64 0, .int .i64 0, .int .i64 0, .int .i64 0, .int .i64 0, .str ⟨#[]⟩]) (((h).new 0 [.int .i64 0, .int .i64 0, .int .i64 0, .int .i64 0, .int .i64 0, .int .i64 0, .int .i64 0, .str ⟨#[]⟩]).new 0 [.int .i64 0, .int .i64 0, .int .i64 0, .str ⟨#[]⟩]) (
  (stV 4 (((h).new 0 [.int .i64 0, .int .i64 0, .int .i64 0, .int .i64 0, .int .i64 0, .int .i64 0, .int .i64 0, .str ⟨#[]⟩]).new 0 [.int .i64 0, .int .i64 0, .int .i64 0, .str ⟨#[]⟩]) (pv (((h).new 0 [.int .i64 0, .int .i64 0, .int .i64 0, .int .i64 0, .int .i64 0, .int .i64 0, .int .i64 0, .str ⟨#[]⟩]).n) 0) (.agg (setAt (setAt (setAt (setAt ([.int .i64 0, .int .i64 0, .int .i64 0, .str ⟨#[]⟩] : List S) 0 c61) 1 c62) 2 c63) 3 c64))).bind fun h66 =>
  (idxS 1 a0 (iv .i64 0)).bind fun v67 =>
  (load1 h66 v67).bind fun x68 =>
  (cvI .i64 (.s x68)).bind fun v69 =>
  (loadN 4 h66 (pv (((h).new 0 [.int .i64 0, .int .i64 0, .int .i64 0, .int .i64 0, .int .i64 0, .int .i64 0, .int .i64 0, .str ⟨#[]⟩]).n) 0)).bind fun c70 =>
  (cellsOf v69).bind fun c71 =>
  if c71.length = 1 ∧ 1 + 1 ≤ ([.int .i64 0, .int .i64 0, .int .i64 0, .int .i64 0, .int .i64 0, .int .i64 0, .int .i64 0, .str ⟨#[]⟩] : List S).length then
  if c70.length = 4 ∧ 4 + 4 ≤ (setAt ([.int .i64 0, .int .i64 0, .int .i64 0, .int .i64 0, .int .i64 0, .int .i64 0, .int .i64 0, .str ⟨#[]⟩] : List S) 1 c71).length then
  (call Ev Fn.spec_l1Fault [pv (((h).new 0 [.int .i64 0, .int .i64 0, .int .i64 0, .int .i64 0, .int .i64 0, .int .i64 0, .int .i64 0, .str ⟨#[]⟩]).n) 0] h66).bind fun p72 =>
  hchk h66 p72.2 (
  (bin Ev .eql 2 p72.1 (iv .i64 0)).bind fun b73 =>
  (stV 8 p72.2 (pv h.n 0) (.agg (setAt (setAt ([.int .i64 0, .int .i64 0, .int .i64 0, .int .i64 0, .int .i64 0, .int .i64 0, .int .i64 0, .str ⟨#[]⟩] : List S) 1 c71) 4 c70))).bind fun h74 =>
  hchk h66 h74 (
  (loadN 8 h74 (pv h.n 0)).bind fun c75 =>
  (V.toA b73).bind fun a76 =>
  some (.tup [.agg c75, a76], h74)))
  else none
  else none)
  else none
  else none
  else none
  else none))
  (none))
  (none))
  (none)))
  ((lenV (.sl 5) a0).bind fun v77 =>
  (bin Ev .lss 3 v77 (iv .i64 6)).bind fun b78 =>
  gcase b78
  ((stV 8 ((h).new 0 [.int .i64 0, .int .i64 0, .int .i64 0, .int .i64 0, .int .i64 0, .int .i64 0, .int .i64 0, .str ⟨#[]⟩]) (pv h.n 0) (.agg [.int .i64 0, .int .i64 0, .int .i64 0, .int .i64 0, .int .i64 0, .int .i64 0, .int .i64 0, .str ⟨#[]⟩])).bind fun h79 =>
  (loadN 8 h79 (pv h.n 0)).bind fun c80 =>
  some (.tup [.agg c80, .s (.bool false)], h79))
  ((idxS 1 a0 (iv .i64 0)).bind fun v81 =>
  (load1 ((h).new 0 [.int .i64 0, .int .i64 0, .int .i64 0, .int .i64 0, .int .i64 0, .int .i64 0, .int .i64 0, .str ⟨#[]⟩]) v81).bind fun x82 =>
  (bin Ev .eql 5 (.s x82) (iv .u8 1)).bind fun b83 =>
  gcase b83
  ((stV 8 ((h).new 0 [.int .i64 0, .int .i64 0, .int .i64 0, .int .i64 0, .int .i64 0, .int .i64 0, .int .i64 0, .str ⟨#[]⟩]) (pv h.n 0) (.agg [.int .i64 0, .int .i64 0, .int .i64 0, .int .i64 0, .int .i64 0, .int .i64 0, .int .i64 0, .str ⟨#[]⟩])).bind fun h84 =>
  (loadN 8 h84 (pv h.n 0)).bind fun c85 =>
  some (.tup [.agg c85, .s (.bool false)], h84))
  ((idxS 1 a0 (iv .i64 0)).bind fun v86 =>
  (load1 ((h).new 0 [.int .i64 0, .int .i64 0, .int .i64 0, .int .i64 0, .int .i64 0, .int .i64 0, .int .i64 0, .str ⟨#[]⟩]) v86).bind fun x87 =>
  (bin Ev .gtr 5 (.s x87) (iv .u8 2)).bind fun b88 =>
  gcase b88
  ((stV 8 ((h).new 0 [.int .i64 0, .int .i64 0, .int .i64 0, .int .i64 0, .int .i64 0, .int .i64 0, .int .i64 0, .str ⟨#[]⟩]) (pv h.n 0) (.agg [.int .i64 0, .int .i64 0, .int .i64 0, .int .i64 0, .int .i64 0, .int .i64 0, .int .i64 0, .str ⟨#[]⟩])).bind fun h89 =>
  (loadN 8 h89 (pv h.n 0)).bind fun c90 =>
  some (.tup [.agg c90, .s (.bool false)], h89))
  ((lenV (.sl 5) a0).bind fun v91 =>
  (idxS 1 a0 (iv .i64 5)).bind fun v92 =>
  (load1 ((h).new 0 [.int .i64 0, .int .i64 0, .int .i64 0, .int .i64 0, .int .i64 0, .int .i64 0, .int .i64 0, .str ⟨#[]⟩]) v92).bind fun x93 =>
  (cvI .i64 (.s x93)).bind fun v94 =>
  (bin Ev .add 3 (iv .i64 6) v94).bind fun b95 =>
  (bin Ev .neq 3 v91 b95).bind fun b96 =>
  vcase b96
  ((stV 8 ((h).new 0 [.int .i64 0, .int .i64 0, .int .i64 0, .int .i64 0, .int .i64 0, .int .i64 0, .int .i64 0, .str ⟨#[]⟩]) (pv h.n 0) (.agg [.int .i64 0, .int .i64 0, .int .i64 0, .int .i64 0, .int .i64 0, .int .i64 0, .int .i64 0, .str ⟨#[]⟩])).bind fun h97 =>
  (loadN 8 h97 (pv h.n 0)).bind fun c98 =>
  some (.tup [.agg c98, .s (.bool false)], h97))
  ((idxS 1 a0 (iv .i64 1)).bind fun v99 =>
  (load1 ((h).new 0 [.int .i64 0, .int .i64 0, .int .i64 0, .int .i64 0, .int .i64 0, .int .i64 0, .int .i64 0, .str ⟨#[]⟩]) v99).bind fun x100 =>
  (cvI .i64 (.s x100)).bind fun v101 =>
  (idxS 1 a0 (iv .i64 2)).bind fun v102 =>
  (load1 ((h).new 0 [.int .i64 0, .int .i64 0, .int .i64 0, .int .i64 0, .int .i64 0, .int .i64 0, .int .i64 0, .str ⟨#[]⟩]) v102).bind fun x103 =>
  (cvI .i64 (.s x103)).bind fun v104 =>
  (idxS 1 a0 (iv .i64 3)).bind fun v105 =>
  (load1 ((h).new 0 [.int .i64 0, .int .i64 0, .int .i64 0, .int .i64 0, .int .i64 0, .int .i64 0, .int .i64 0, .str ⟨#[]⟩]) v105).bind fun x106 =>
  (cvI .i64 (.s x106)).bind fun v107 =>
  (bin Ev .mul 2 v107 (iv .i64 256)).bind fun b108 =>
  (idxS 1 a0 (iv .i64 4)).bind fun v109 =>
  (load1 ((h).new 0 [.int .i64 0, .int .i64 0, .int .i64 0, .int .i64 0, .int .i64 0, .int .i64 0, .int .i64 0, .str ⟨#[]⟩]) v109).bind fun x110 =>
  (cvI .i64 (.s x110)).bind fun v111 =>
  (bin Ev .add 2 b108 v111).bind fun b112 =>
  (slS 1 ((h).new 0 [.int .i64 0, .int .i64 0, .int .i64 0, .int .i64 0, .int .i64 0, .int .i64 0, .int .i64 0, .str ⟨#[]⟩]) a0 (some (iv .i64 6)) none).bind fun v113 =>
  (cvStr ((h).new 0 [.int .i64 0, .int .i64 0, .int .i64 0, .int .i64 0, .int .i64 0, .int .i64 0, .int .i64 0, .str ⟨#[]⟩]) v113).bind fun v114 =>
  (cellsOf v101).bind fun c115 =>
  if c115.length = 1 ∧ 0 + 1 ≤ ([.int .i64 0, .int .i64 0, .int .i64 0, .str ⟨#[]⟩] : List S).length then
  (cellsOf v104).bind fun c116 =>
  if c116.length = 1 ∧ 1 + 1 ≤ (setAt ([.int .i64 0, .int .i64 0, .int .i64 0, .str ⟨#[]⟩] : List S) 0 c115).length then
  (cellsOf b112).bind fun c117 =>
  if c117.length = 1 ∧ 2 + 1 ≤ (setAt (setAt ([.int .i64 0, .int .i64 0, .int .i64 0, .str ⟨#[]⟩] : List S) 0 c115) 1 c116).length then
  (cellsOf v114).bind fun c118 =>
  if c118.length = 1 ∧ 3 + 1 ≤ (setAt (setAt (setAt ([.int .i64 0, .int .i64 0, .int .i64 0, .str ⟨#[]⟩] : List S) 0 c115) 1 c116) 2 c117).length then
  hchk ((h).new 0 [.int .i64 0, .int .i64 0, .int .i64 0, .int .i64 0, .int .i64 0, .int .i64 0, .int .i64 0, .str ⟨#[]⟩]) (((h).new 0 [.int .i64 0, .int .i64 0, .int .i64 0, .int .i64 0, .int .i64 0, .int .i64 0, .int .i64 0, .str ⟨#[]⟩]).new 0 [.int .i64 0, .int .i64 0, .int .i64 0, .str ⟨#[]⟩]) (
  (stV 4 (((h).new 0 [.int .i64 0, .int .i64 0, .int .i64 0, .int .i64 0, .int .i64 0, .int .i64 0, .int .i64 0, .str ⟨#[]⟩]).new 0 [.int .i64 0, .int .i64 0, .int .i64 0, .str ⟨#[]⟩]) (pv (((h).new 0 [.int .i64 0, .int .i64 0, .int .i64 0, .int .i64 0, .int .i64 0, .int .i64 0, .int .i64 0, .str ⟨#[]⟩]).n) 0) (.agg (setAt (setAt (setAt (setAt ([.int .i64 0, .int .i64 0, .int .i64 0, .str ⟨#[]⟩] : List S) 0 c115) 1 c116) 2 c117) 3 c118))).bind fun h120 =>
  (idxS 1 a0 (iv .i64 0)).bind fun v121 =>
  (load1 h120 v121).bind fun x122 =>
  (cvI .i64 (.s x122)).bind fun v123 =>
  (loadN 4 h120 (pv (((h).new 0 [.int .i64 0, .int .i64 0, .int .i64 0, .int .i64 0, .int .i64 0, .int .i64 0, .int .i64 0, .str ⟨#[]⟩]).n) 0)).bind fun c124 =>
  (cellsOf v123).bind fun c125 =>
  if c125.length = 1 ∧ 1 + 1 ≤ ([.int .i64 0, .int .i64 0, .int .i64 0, .int .i64 0, .int .i64 0, .int .i64 0, .int .i64 0, .str ⟨#[]⟩] : List S).length then
  if c124.length = 4 ∧ 4 + 4 ≤ (setAt ([.int .i64 0, .int .i64 0, .int .i64 0, .int .i64 0, .int .i64 0, .int .i64 0, .int .i64 0, .str ⟨#[]⟩] : List S) 1 c125).length then
  (call Ev Fn.spec_l1Fault [pv (((h).new 0 [.int .i64 0, .int .i64 0, .int .i64 0, .int .i64 0, .int .i64 0, .int .i64 0, .int .i64 0, .str ⟨#[]⟩]).n) 0] h120).bind fun p126 =>
  hchk h120 p126.2 (
  (bin Ev .eql 2 p126.1 (iv .i64 0)).bind fun b127 =>
  (stV 8 p126.2 (pv h.n 0) (.agg (setAt (setAt ([.int .i64 0, .int .i64 0, .int .i64 0, .int .i64 0, .int .i64 0, .int .i64 0, .int .i64 0, .str ⟨#[]⟩] : List S) 1 c125) 4 c124))).bind fun h128 =>
  hchk h120 h128 (
  (loadN 8 h128 (pv h.n 0)).bind fun c129 =>
  (V.toA b127).bind fun a130 =>
  some (.tup [.agg c129, a130], h128)))
  else none
  else none)
  else none
  else none
  else none
  else none))
  (none))
  (none))
  (none))
  (none) := by
  rw [call_eq]; kernel_rfl

theorem eq_spec_UnpackCell (a0 : V) (h : H) : call Ev Fn.spec_UnpackCell [a0] h =
  (call Ev Fn.spec_l1Read [a0] ((h).new 0 [.int .i64 0, .int .i64 0, .int .i64 0, .int .i64 0, .int .i64 0, .int .i64 0, .int .i64 0, .str ⟨#[]⟩])).bind fun p1 =>
  (extr 0 p1.1).bind fun v2 =>
  (extr 1 p1.1).bind fun v3 =>
  (stV 8 ((p1.2).new 0 [.int .i64 0, .int .i64 0, .int .i64 0, .int .i64 0, .int .i64 0, .int .i64 0, .int .i64 0, .str ⟨#[]⟩]) (pv p1.2.n 0) v2).bind fun h4 =>
  (unNot v3).bind fun v5 =>
  vcase v5
  (if ([.int .i64 5] : List S).length = 1 ∧ 0 + 1 ≤ ([.int .i64 0, .int .i64 0, .int .i64 0, .int .i64 0, .int .i64 0, .int .i64 0, .int .i64 0, .str ⟨#[]⟩] : List S).length then
  (stV 8 h4 (pv h.n 0) (.agg (setAt ([.int .i64 0, .int .i64 0, .int .i64 0, .int .i64 0, .int .i64 0, .int .i64 0, .int .i64 0, .str ⟨#[]⟩] : List S) 0 ([.int .i64 5] : List S)))).bind fun h6 =>
  (loadN 8 h6 (pv h.n 0)).bind fun c7 =>
  some (.agg c7, h6)
  else none)
  ((loadN 8 h4 (pv p1.2.n 0)).bind fun c8 =>
  (stV 8 h4 (pv h.n 0) (.agg c8)).bind fun h9 =>
  (loadN 8 h9 (pv h.n 0)).bind fun c10 =>
  some (.agg c10, h9)) := by
  rw [call_eq]; kernel_rfl

theorem eq_impl_UnpackCell (a0 : V) (h : H) : call Ev Fn.impl_UnpackCell [a0] h =
  (lenV (.sl 5) a0).bind fun v1 =>
  (bin Ev .eql 3 v1 (iv .i64 3)).bind fun b2 =>
  gcase b2
  ((idxS 1 a0 (iv .i64 0)).bind fun v3 =>
  (load1 ((h).new 0 [.int .i64 0, .int .i64 0, .int .i64 0, .int .i64 0, .int .i64 0, .int .i64 0, .int .i64 0, .str ⟨#[]⟩]) v3).bind fun x4 =>
  (bin Ev .eql 5 (.s x4) (iv .u8 1)).bind fun b5 =>
  gcase b5
  ((idxS 1 a0 (iv .i64 1)).bind fun v6 =>
  (load1 ((h).new 0 [.int .i64 0, .int .i64 0, .int .i64 0, .int .i64 0, .int .i64 0, .int .i64 0, .int .i64 0, .str ⟨#[]⟩]) v6).bind fun x7 =>
  (bin Ev .lss 5 (.s x7) (iv .u8 12)).bind fun b8 =>
  gcase b8
  ((idxS 1 a0 (iv .i64 2)).bind fun v9 =>
  (load1 ((h).new 0 [.int .i64 0, .int .i64 0, .int .i64 0, .int .i64 0, .int .i64 0, .int .i64 0, .int .i64 0, .str ⟨#[]⟩]) v9).bind fun x10 =>
  (bin Ev .lss 5 (.s x10) (iv .u8 16)).bind fun b11 =>
  vcase b11
  ((idxS 1 a0 (iv .i64 1)).bind fun v12 =>
  (load1 ((h).new 0 [.int .i64 0, .int .i64 0, .int .i64 0, .int .i64 0, .int .i64 0, .int .i64 0, .int .i64 0, .str ⟨#[]⟩]) v12).bind fun x13 =>
  (cvI .i64 (.s x13)).bind fun v14 =>
  (idxS 1 a0 (iv .i64 2)).bind fun v15 =>
  (load1 ((h).new 0 [.int .i64 0, .int .i64 0, .int .i64 0, .int .i64 0, .int .i64 0, .int .i64 0, .int .i64 0, .str ⟨#[]⟩]) v15).bind fun x16 =>
  (cvI .i64 (.s x16)).bind fun v17 =>
  if ([.int .i64 1] : List S).length = 1 ∧ 1 + 1 ≤ ([.int .i64 0, .int .i64 0, .int .i64 0, .int .i64 0, .int .i64 0, .int .i64 0, .int .i64 0, .str ⟨#[]⟩] : List S).length then
  (cellsOf v14).bind fun c18 =>
  if c18.length = 1 ∧ 2 + 1 ≤ (setAt ([.int .i64 0, .int .i64 0, .int .i64 0, .int .i64 0, .int .i64 0, .int .i64 0, .int .i64 0, .str ⟨#[]⟩] : List S) 1 ([.int .i64 1] : List S)).length then
  (cellsOf v17).bind fun c19 =>
  if c19.length = 1 ∧ 3 + 1 ≤ (setAt (setAt ([.int .i64 0, .int .i64 0, .int .i64 0, .int .i64 0, .int .i64 0, .int .i64 0, .int .i64 0, .str ⟨#[]⟩] : List S) 1 ([.int .i64 1] : List S)) 2 c18).length then
  (stV 8 ((h).new 0 [.int .i64 0, .int .i64 0, .int .i64 0, .int .i64 0, .int .i64 0, .int .i64 0, .int .i64 0, .str ⟨#[]⟩]) (pv h.n 0) (.agg (setAt (setAt (setAt ([.int .i64 0, .int .i64 0, .int .i64 0, .int .i64 0, .int .i64 0, .int .i64 0, .int .i64 0, .str ⟨#[]⟩] : List S) 1 ([.int .i64 1] : List S)) 2 c18) 3 c19))).bind fun h20 =>
  (loadN 8 h20 (pv h.n 0)).bind fun c21 =>
  some (.agg c21, h20)
  else none
  else none
  else none)
  ((lenV (.sl 5) a0).bind fun v22 =>
  (bin Ev .lss 3 v22 (iv .i64 6)).bind fun b23 =>
  gcase b23
  (if ([.int .i64 5] : List S).length = 1 ∧ 0 + 1 ≤ ([.int .i64 0, .int .i64 0, .int .i64 0, .int .i64 0, .int .i64 0, .int .i64 0, .int .i64 0, .str ⟨#[]⟩] : List S).length then
  (stV 8 ((h).new 0 [.int .i64 0, .int .i64 0, .int .i64 0, .int .i64 0, .int .i64 0, .int .i64 0, .int .i64 0, .str ⟨#[]⟩]) (pv h.n 0) (.agg (setAt ([.int .i64 0, .int .i64 0, .int .i64 0, .int .i64 0, .int .i64 0, .int .i64 0, .int .i64 0, .str ⟨#[]⟩] : List S) 0 ([.int .i64 5] : List S)))).bind fun h24 =>
  (loadN 8 h24 (pv h.n 0)).bind fun c25 =>
  some (.agg c25, h24)
  else none)
  ((idxS 1 a0 (iv .i64 0)).bind fun v26 =>
  (load1 ((h).new 0 [.int .i64 0, .int .i64 0, .int .i64 0, .int .i64 0, .int .i64 0, .int .i64 0, .int .i64 0, .str ⟨#[]⟩]) v26).bind fun x27 =>
  (bin Ev .neq 5 (.s x27) (iv .u8 0)).bind fun b28 =>
  gcase b28
  ((idxS 1 a0 (iv .i64 0)).bind fun v29 =>
  (load1 ((h).new 0 [.int .i64 0, .int .i64 0, .int .i64 0, .int .i64 0, .int .i64 0, .int .i64 0, .int .i64 0, .str ⟨#[]⟩]) v29).bind fun x30 =>
  (bin Ev .neq 5 (.s x30) (iv .u8 2)).bind fun b31 =>
  gcase b31
  (if ([.int .i64 5] : List S).length = 1 ∧ 0 + 1 ≤ ([.int .i64 0, .int .i64 0, .int .i64 0, .int .i64 0, .int .i64 0, .int .i64 0, .int .i64 0, .str ⟨#[]⟩] : List S).length then
  (stV 8 ((h).new 0 [.int .i64 0, .int .i64 0, .int .i64 0, .int .i64 0, .int .i64 0, .int .i64 0, .int .i64 0, .str ⟨#[]⟩]) (pv h.n 0) (.agg (setAt ([.int .i64 0, .int .i64 0, .int .i64 0, .int .i64 0, .int .i64 0, .int .i64 0, .int .i64 0, .str ⟨#[]⟩] : List S) 0 ([.int .i64 5] : List S)))).bind fun h32 =>
  (loadN 8 h32 (pv h.n 0)).bind fun c33 =>
  some (.agg c33, h32)
  else none)
  ((lenV (.sl 5) a0).bind fun v34 =>
  (idxS 1 a0 (iv .i64 5)).bind fun v35 =>
  (load1 ((h).new 0 [.int .i64 0, .int .i64 0, .int .i64 0, .int .i64 0, .int .i64 0, .int .i64 0, .int .i64 0, .str ⟨#[]⟩]) v35).bind fun x36 =>
  (cvI .i64 (.s x36)).bind fun v37 =>
  (bin Ev .add 3 (iv .i64 6) v37).bind fun b38 =>
  (bin Ev .neq 3 v34 b38).bind fun b39 =>
  vcase b39
  (if ([.int .i64 5] : List S).length = 1 ∧ 0 + 1 ≤ ([.int .i64 0, .int .i64 0, .int .i64 0, .int .i64 0, .int .i64 0, .int .i64 0, .int .i64 0, .str ⟨#[]⟩] : List S).length then
  (stV 8 ((h).new 0 [.int .i64 0, .int .i64 0, .int .i64 0, .int .i64 0, .int .i64 0, .int .i64 0, .int .i64 0, .str ⟨#[]⟩]) (pv h.n 0) (.agg (setAt ([.int .i64 0, .int .i64 0, .int .i64 0, .int .i64 0, .int .i64 0, .int .i64 0, .int .i64 0, .str ⟨#[]⟩] : List S) 0 ([.int .i64 5] : List S)))).bind fun h40 =>
  (loadN 8 h40 (pv h.n 0)).bind fun c41 =>
  some (.agg c41, h40)
  else none)
  ((idxS 1 a0 (iv .i64 1)).bind fun v42 =>
  (load1 ((h).new 0 [.int .i64 0, .int .i64 0, .int .i64 0, .int .i64 0, .int .i64 0, .int .i64 0, .int .i64 0, .str ⟨#[]⟩]) v42).bind fun x43 =>
  (cvI .i64 (.s x43)).bind fun v44 =>
  (idxS 1 a0 (iv .i64 2)).bind fun v45 =>
  (load1 ((h).new 0 [.int .i64 0, .int .i64 0, .int .i64 0, .int .i64 0, .int .i64 0, .int .i64 0, .int .i64 0, .str ⟨#[]⟩]) v45).bind fun x46 =>
  (cvI .i64 (.s x46)).bind fun v47 =>
  (idxS 1 a0 (iv .i64 3)).bind fun v48 =>
  (load1 ((h).new 0 [.int .i64 0, .int .i64 0, .int .i64 0, .int .i64 0, .int .i64 0, .int .i64 0, .int .i64 0, .str ⟨#[]⟩]) v48).bind fun x49 =>
  (cvI .i64 (.s x49)).bind fun v50 =>
  (bin Ev .shl 2 v50 (iv .u64 8)).bind fun b51 =>
  (idxS 1 a0 (iv .i64 4)).bind fun v52 =>
  (load1 ((h).new 0 [.int .i64 0, .int .i64 0, .int .i64 0, .int .i64 0, .int .i64 0, .int .i64 0, .int .i64 0, .str ⟨#[]⟩]) v52).bind fun x53 =>
  (cvI .i64 (.s x53)).bind fun v54 =>
  (bin Ev .or 2 b51 v54).bind fun b55 =>
  (slS 1 ((h).new 0 [.int .i64 0, .int .i64 0, .int .i64 0, .int .i64 0, .int .i64 0, .int .i64 0, .int .i64 0, .str ⟨#[]⟩]) a0 (some (iv .i64 6)) none).bind fun v56 =>
  (cvStr ((h).new 0 [.int .i64 0, .int .i64 0, .int .i64 0, .int .i64 0, .int .i64 0, .int .i64 0, .int .i64 0, .str ⟨#[]⟩]) v56).bind fun v57 =>
  (cellsOf v44).bind fun c58 =>
  if c58.length = 1 ∧ 0 + 1 ≤ ([.int .i64 0, .int .i64 0, .int .i64 0, .str ⟨#[]⟩] : List S).length then
  (cellsOf v47).bind fun c59 =>
  if c59.length = 1 ∧ 1 + 1 ≤ (setAt ([.int .i64 0, .int .i64 0, .int .i64 0, .str ⟨#[]⟩] : List S) 0 c58).length then
  (cellsOf b55).bind fun c60 =>
  if c60.length = 1 ∧ 2 + 1 ≤ (setAt (setAt ([.int .i64 0, .int .i64 0, .int .i64 0, .str ⟨#[]⟩] : List S) 0 c58) 1 c59).length then
  (cellsOf v57).bind fun c61 =>
  if c61.length = 1 ∧ 3 + 1 ≤ (setAt (setAt (setAt ([.int .i64 0, .int .i64 0, .int .i64 0, .str ⟨#[]⟩] : List S) 0 c58) 1 c59) 2 c60).length then
  hchk ((h).new 0 [.int .i64 0, .int .i64 0, .int .i64 0, .int .i64 0, .int .i64 0, .int .i64 0, .int .i64 0, .str ⟨#[]⟩]) (((h).new 0 [.int .i64 0, .int .i64 0, .int .i64 0, .int .i64 0, .int .i64 0, .int .i64 0, .int .i64 0, .str ⟨#[]⟩]).new 0 [.int .i64 0, .int .i64 0, .int .i64 0, .str ⟨#[]⟩]) (
  (stV 4 (((h).new 0 [.int .i64 0, .int .i64 0, .int .i64 0, .int .i64 0, .int .i64 0, .int .i64 0, .int .i64 0, .str ⟨#[]⟩]).new 0 [.int .i64 0, .int .i64 0, .int .i64 0, .str ⟨#[]⟩]) (pv (((h).new 0 [.int .i64 0, .int .i64 0, .int .i64 0, .int .i64 0, .int .i64 0, .int .i64 0, .int .i64 0, .str ⟨#[]⟩]).n) 0) (.agg (setAt (setAt (setAt (setAt ([.int .i64 0, .int .i64 0, .int .i64 0, .str ⟨#[]⟩] : List S) 0 c58) 1 c59) 2 c60) 3 c61))).bind fun h63 =>
  (loadN 4 h63 (pv (((h).new 0 [.int .i64 0, .int .i64 0, .int .i64 0, .int .i64 0, .int .i64 0, .int .i64 0, .int .i64 0, .str ⟨#[]⟩]).n) 0)).bind fun c64 =>
  (call Ev Fn.impl_RowFault [.agg c64] h63).bind fun p65 =>
  (bin Ev .neq 2 p65.1 (iv .i64 0)).bind fun b66 =>
  vcase b66
  (if ([.int .i64 5] : List S).length = 1 ∧ 0 + 1 ≤ ([.int .i64 0, .int .i64 0, .int .i64 0, .int .i64 0, .int .i64 0, .int .i64 0, .int .i64 0, .str ⟨#[]⟩] : List S).length then
  (stV 8 p65.2 (pv h.n 0) (.agg (setAt ([.int .i64 0, .int .i64 0, .int .i64 0, .int .i64 0, .int .i64 0, .int .i64 0, .int .i64 0, .str ⟨#[]⟩] : List S) 0 ([.int .i64 5] : List S)))).bind fun h67 =>
  (loadN 8 h67 (pv h.n 0)).bind fun c68 =>
  some (.agg c68, h67)
  else none)
  ((idxS 1 a0 (iv .i64 0)).bind fun v69 =>
  (load1 p65.2 v69).bind fun x70 =>
  (cvI .i64 (.s x70)).bind fun v71 =>
  (loadN 4 p65.2 (pv (((h).new 0 [.int .i64 0, .int .i64 0, .int .i64 0, .int .i64 0, .int .i64 0, .int .i64 0, .int .i64 0, .str ⟨#[]⟩]).n) 0)).bind fun c72 =>
  (cellsOf v71).bind fun c73 =>
  if c73.length = 1 ∧ 1 + 1 ≤ ([.int .i64 0, .int .i64 0, .int .i64 0, .int .i64 0, .int .i64 0, .int .i64 0, .int .i64 0, .str ⟨#[]⟩] : List S).length then
  if c72.length = 4 ∧ 4 + 4 ≤ (setAt ([.int .i64 0, .int .i64 0, .int .i64 0, .int .i64 0, .int .i64 0, .int .i64 0, .int .i64 0, .str ⟨#[]⟩] : List S) 1 c73).length then
  (stV 8 p65.2 (pv h.n 0) (.agg (setAt (setAt ([.int .i64 0, .int .i64 0, .int .i64 0, .int .i64 0, .int .i64 0, .int .i64 0, .int .i64 0, .str ⟨#[]⟩] : List S) 1 c73) 4 c72))).bind fun h74 =>
  (loadN 8 h74 (pv h.n 0)).bind fun c75 =>
  some (.agg c75, h74)
  else none
  else none))
  else none
  else none
  else none
  else none))
  (none))
  ((lenV (.sl 5) a0).bind fun v76 =>
  (idxS 1 a0 (iv .i64 5)).bind fun v77 =>
  (load1 ((h).new 0 [.int .i64 0, .int .i64 0, .int .i64 0, .int .i64 0, .int .i64 0, .int .i64 0, .int .i64 0, .str ⟨#[]⟩]) v77).bind fun x78 =>
  (cvI .i64 (.s x78)).bind fun v79 =>
  (bin Ev .add 3 (iv .i64 6) v79).bind fun b80 =>
  (bin Ev .neq 3 v76 b80).bind fun b81 =>
  vcase b81
  (if ([.int .i64 5] : List S).length = 1 ∧ 0 + 1 ≤ ([.int .i64 0, .int .i64 0, .int .i64 0, .int .i64 0, .int .i64 0, .int .i64 0, .int .i64 0, .str ⟨#[]⟩] : List S).length then
  (stV 8 ((h).new 0 [.int .i64 0, .int .i64 0, .int .i64 0, .int .i64 0, .int .i64 0, .int .i64 0, .int .i64 0, .str ⟨#[]⟩]) (pv h.n 0) (.agg (setAt ([.int .i64 0, .int .i64 0, .int .i64 0, .int .i64 0, .int .i64 0, .int .i64 0, .int .i64 0, .str ⟨#[]⟩] : List S) 0 ([.int .i64 5] : List S)))).bind fun h82 =>
  (loadN 8 h82 (pv h.n 0)).bind fun c83 =>
  some (.agg c83, h82)
  else none)
  ((idxS 1 a0 (iv .i64 1)).bind fun v84 =>
  (load1 ((h).new 0 [.int .i64 0, .int .i64 0, .int .i64 0, .int .i64 0, .int .i64 0, .int .i64 0, .int .i64 0, .str ⟨#[]⟩]) v84).bind fun x85 =>
  (cvI .i64 (.s x85)).bind fun v86 =>
  (idxS 1 a0 (iv .i64 2)).bind fun v87 =>
  (load1 ((h).new 0 [.int .i64 0, .int .i64 0, .int .i64 0, .int .i64 0, .int .i64 0, .int .i64 0, .int .i64 0, .str ⟨#[]⟩]) v87).bind fun x88 =>
  (cvI .i64 (.s x88)).bind fun v89 =>
  (idxS 1 a0 (iv .i64 3)).bind fun v90 =>
  (load1 ((h).new 0 [.int .i64 0, .int .i64 0, .int .i64 0, .int .i64 0, .int .i64 0, .int .i64 0, .int .i64 0, .str ⟨#[]⟩]) v90).bind fun x91 =>
  (cvI .i64 (.s x91)).bind fun v92 =>
  (bin Ev .shl 2 v92 (iv .u64 8)).bind fun b93 =>
  (idxS 1 a0 (iv .i64 4)).bind fun v94 =>
  (load1 ((h).new 0 [.int .i64 0, .int .i64 0, .int .i64 0, .int .i64 0, .int .i64 0, .int .i64 0, .int .i64 0, .str ⟨#[]⟩]) v94).bind fun x95 =>
  (cvI .i64 (.s x95)).bind fun v96 =>
  (bin Ev .or 2 b93 v96).bind fun b97 =>
  (slS 1 ((h).new 0 [.int .i64 0, .int .i64 0, .int .i64 0, .int .i64 0, .int .i64 0, .int .i64 0, .int .i64 0, .str ⟨#[]⟩]) a0 (some (iv .i64 6)) none).bind fun v98 =>
  (cvStr ((h).new 0 [.int .i64 0, .int .i64 0, .int .i64 0, .int .i64 0, .int .i64 0, .int .i64 0, .int .i64 0, .str ⟨#[]⟩]) v98).bind fun v99 =>
  (cellsOf v86).bind fun c100 =>
  if c100.length = 1 ∧ 0 + 1 ≤ ([.int .i64 0, .int .i64 0, .int .i64 0, .str ⟨#[]⟩] : List S).length then
  (cellsOf v89).bind fun c101 =>
  if c101.length = 1 ∧ 1 + 1 ≤ (setAt ([.int .i64 0, .int .i64 0, .int .i64 0, .str ⟨#[]⟩] : List S) 0 c100).length then
  (cellsOf b97).bind fun c102 =>
  if c102.length = 1 ∧ 2 + 1 ≤ (setAt (setAt ([.int .i64 0, .int .i64 0, .int .i64 0, .str ⟨#[]⟩] : List S) 0 c100) 1 c101).length then
  (cellsOf v99).bind fun c103 =>
  if c103.length = 1 ∧ 3 + 1 ≤ (setAt (setAt (setAt ([.int .i64 0, .int .i64 0, .int .i64 0, .str ⟨#[]⟩] : List S) 0 c100) 1 c101) 2 c102).length then
  hchk ((h).new 0 [.int .i64 0, .int .i64 0, .int .i64 0, .int .i64 0, .int .i64 0, .int .i64 0, .int .i64 0, .str ⟨#[]⟩]) (((h).new 0 [.int .i64 0, .int .i64 0, .int .i64 0, .int .i64 0, .int .i64 0, .int .i64 0, .int .i64 0, .str ⟨#[]⟩]).new 0 [.int .i64 0, .int .i64 0, .int .i64 0, .str ⟨#[]⟩]) (
  (stV 4 (((h).new 0 [.int .i64 0, .int .i64 0, .int .i64 0, .int .i64 0, .int .i64 0, .int .i64 0, .int .i64 0, .str ⟨#[]⟩]).new 0 [.int .i64 0, .int .i64 0, .int .i64 0, .str ⟨#[]⟩]) (pv (((h).new 0 [.int .i64 0, .int .i64 0, .int .i64 0, .int .i64 0, .int .i64 0, .int .i64 0, .int .i64 0, .str ⟨#[]⟩]).n) 0) (.agg (setAt (setAt (setAt (setAt ([.int .i64 0, .int .i64 0, .int .i64 0, .str ⟨#[]⟩] : List S) 0 c100) 1 c101) 2 c102) 3 c103))).bind fun h105 =>
  (loadN 4 h105 (pv (((h).new 0 [.int .i64 0, .int .i64 0, .int .i64 0, .int .i64 0, .int .i64 0, .int .i64 0, .int .i64 0, .str ⟨#[]⟩]).n) 0)).bind fun c106 =>
  (call Ev Fn.impl_RowFault [.agg c106] h105).bind fun p107 =>
  (bin Ev .neq 2 p107.1 (iv .i64 0)).bind fun b108 =>
  vcase b108
  (if ([.int .i64 5] : List S).length = 1 ∧ 0 + 1 ≤ ([.int .i64 0, .int .i64 0, .int .i64 0, .int .i64 0, .int .i64 0, .int .i64 0, .int .i64 0, .str ⟨#[]⟩] : List S).length then
  (stV 8 p107.2 (pv h.n 0) (.agg (setAt ([.int .i64 0, .int .i64 0, .int .i64 0, .int .i64 0, .int .i64 0, .int .i64 0, .int .i64 0, .str ⟨#[]⟩] : List S) 0 ([.int .i64 5] : List S)))).bind fun h109 =>
  (loadN 8 h109 (pv h.n 0)).bind fun c110 =>
  some (.agg c110, h109)
  else none)
  ((idxS 1 a0 (iv .i64 0)).bind fun v111 =>
  (load1 p107.2 v111).bind fun x112 =>
  (cvI .i64 (.s x112)).bind fun v113 =>
  (loadN 4 p107.2 (pv (((h).new 0 [.int .i64 0, .int .i64 0, .int .i64 0, .int .i64 0, .int .i64 0, .int .i64 0, .int .i64 0, .str ⟨#[]⟩]).n) 0)).bind fun c114 =>
  (cellsOf v113).bind fun c115 =>
  if c115.length = 1 ∧ 1 + 1 ≤ ([.int .i64 0, .int .i64 0, .int .i64 0, .int .i64 0, .int .i64 0, .int .i64 0, .int .i64 0, .str ⟨#[]⟩] : List S).length then
  if c114.length = 4 ∧ 4 + 4 ≤ (setAt ([.int .i64 0, .int .i64 0, .int .i64 0, .int .i64 0, .int .i64 0, .int .i64 0, .int .i64 0, .str ⟨#[]⟩] : List S) 1 c115).length then
  (stV 8 p107.2 (pv h.n 0) (.agg (setAt (setAt ([.int .i64 0, .int .i64 0, .int .i64 0, .int .i64 0, .int .i64 0, .int .i64 0, .int .i64 0, .str ⟨#[]⟩] : List S) 1 c115) 4 c114))).bind fun h116 =>
  (loadN 8 h116 (pv h.n 0)).bind fun c117 =>
  some (.agg c117, h116)
  else none
  else none))
  else none
  else none
  else none
  else none))
  (vcase (.tup [])
  (vcase (.tup [])
  (if ([.int .i64 5] : List S).length = 1 ∧ 0 + 1 ≤ ([.int .i64 0, .int .i64 0, .int .i64 0, .int .i64 0, .int .i64 0, .int .i64 0, .int .i64 0, .str ⟨#[]⟩] : List S).length then
  (stV 8 ((h).new 0 [.int .i64 0, .int .i64 0, .int .i64 0, .int .i64 0, .int .i64 0, .int .i64 0, .int .i64 0, .str ⟨#[]⟩]) (pv h.n 0) (.agg (setAt ([.int .i64 0, .int .i64 0, .int .i64 0, .int .i64 0, .int .i64 0, .int .i64 0, .int .i64 0, .str ⟨#[]⟩] : List S) 0 ([.int .i64 5] : List S)))).bind fun h118 =>
  (loadN 8 h118 (pv h.n 0)).bind fun c119 =>
  some (.agg c119, h118)
  else none)
  (vcase (.tup [])
  (if ([.int .i64 5] : List S).length = 1 ∧ 0 + 1 ≤ ([.int .i64 0, .int .i64 0, .int .i64 0, .int .i64 0, .int .i64 0, .int .i64 0, .int .i64 0, .str ⟨#[]⟩] : List S).length then
  (stV 8 ((h).new 0 [.int .i64 0, .int .i64 0, .int .i64 0, .int .i64 0, .int .i64 0, .int .i64 0, .int .i64 0, .str ⟨#[]⟩]) (pv h.n 0) (.agg (setAt ([.int .i64 0, .int .i64 0, .int .i64 0, .int .i64 0, .int .i64 0, .int .i64 0, .int .i64 0, .str ⟨#[]⟩] : List S) 0 ([.int .i64 5] : List S)))).bind fun h120 =>
  (loadN 8 h120 (pv h.n 0)).bind fun c121 =>
  some (.agg c121, h120)
  else none)
  ((idxS 1 a0 (iv .i64 1)).bind fun v122 =>
  (load1 ((h).new 0 [.int .i64 0, .int .i64 0, .int .i64 0, .int .i64 0, .int .i64 0, .int .i64 0, .int .i64 0, .str ⟨#[]⟩]) v122).bind fun x123 =>
  (cvI .i64 (.s x123)).bind fun v124 =>
  (idxS 1 a0 (iv .i64 2)).bind fun v125 =>
  (load1 ((h).new 0 [.int .i64 0, .int .i64 0, .int .i64 0, .int .i64 0, .int .i64 0, .int .i64 0, .int .i64 0, .str ⟨#[]⟩]) v125).bind fun x126 =>
  (cvI .i64 (.s x126)).bind fun v127 =>
  (idxS 1 a0 (iv .i64 3)).bind fun v128 =>
  (load1 ((h).new 0 [.int .i64 0, .int .i64 0, .int .i64 0, .int .i64 0, .int .i64 0, .int .i64 0, .int .i64 0, .str ⟨#[]⟩]) v128).bind fun x129 =>
  (cvI .i64 (.s x129)).bind fun v130 =>
  (bin Ev .shl 2 v130 (iv .u64 8)).bind fun b131 =>
  (idxS 1 a0 (iv .i64 4)).bind fun v132 =>
  (load1 ((h).new 0 [.int .i64 0, .int .i64 0, .int .i64 0, .int .i64 0, .int .i64 0, .int .i64 0, .int .i64 0, .str ⟨#[]⟩]) v132).bind fun x133 =>
  (cvI .i64 (.s x133)).bind fun v134 =>
  (bin Ev .or 2 b131 v134).bind fun b135 =>
  (slS 1 ((h).new 0 [.int .i64 0, .int .i64 0, .int .i64 0, .int .i64 0, .int .i64 0, .int .i64 0, .int .i64 0, .str ⟨#[]⟩]) a0 (some (iv .i64 6)) none).bind fun v136 =>
  (cvStr ((h).new 0 [.int .i64 0, .int .i64 0, .int .i64 0, .int .i64 0, .int .i64 0, .int .i64 0, .int .i64 0, .str ⟨#[]⟩]) v136).bind fun v137 =>
  (cellsOf v124).bind fun c138 =>
  if c138.length = 1 ∧ 0 + 1 ≤ ([.int .i64 0, .int .i64 0, .int .i64 0, .str ⟨#[]⟩] : List S).length then
  (cellsOf v127).bind fun c139 =>
  if c139.length = 1 ∧ 1 + 1 ≤ (setAt ([.int .i64 0, .int .i64 0, .int .i64 0, .str ⟨#[]⟩] : List S) 0 c138).length then
  (cellsOf b135).bind fun c140 =>
  if c140.length = 1 ∧ 2 + 1 ≤ (setAt (setAt ([.int .i64 0, .int .i64 0, .int .i64 0, .str ⟨#[]⟩] : List S) 0 c138) 1 c139).length then
  (cellsOf v137).bind fun c141 =>
  if c141.length = 1 ∧ 3 + 1 ≤ (setAt (setAt (setAt ([.int .i64 0, .int .i64 0, .int .i64 0, .str ⟨#[]⟩] : List S) 0 c138) 1 c139) 2 c140).length then
  hchk ((h).new 0 [.int .i64 0, .int .i64 0, .int .i64 0, .int .i64 0, .int .i64 0, .int .i64 0, .int .i64 0, .str ⟨#[]⟩]) (((h).new 0 [.int .i64 0, .int .i64 0, .int .i64 0, .int .i64 0, .int .i64 0, .int .i64 0, .int .i64 0, .str ⟨#[]⟩]).new 0 [.int .i64 0, .int .i64 0, .int .i64 0, .str ⟨#[]⟩]) (
  (stV 4 (((h).new 0 [.int .i64 0, .int .i64 0, .int .i64 0, .int .i64 0, .int .i64 0, .int .i64 0, .int .i64 0, .str ⟨#[]⟩]).new 0 [.int .i64 0, .int .i64 0, .int .i64 0, .str ⟨#[]⟩]) (pv (((h).new 0 [.int .i64 0, .int .i64 0, .int .i64 0, .int .i64 0, .int .i64 0, .int .i64 0, .int .i64 0, .str ⟨#[]⟩]).n) 0) (.agg (setAt (setAt (setAt (setAt ([.int .i64 0, .int .i64 0, .int .i64 0, .str ⟨#[]⟩] : List S) 0 c138) 1 c139) 2 c140) 3 c141))).bind fun h143 =>
  (loadN 4 h143 (pv (((h).new 0 [.int .i64 0, .int .i64 0, .int .i64 0, .int .i64 0, .int .i64 0, .int .i64 0, .int .i64 0, .str ⟨#[]⟩]).n) 0)).bind fun c144 =>
  (call Ev Fn.impl_RowFault [.agg c144] h143).bind fun p145 =>
  (bin Ev .neq 2 p145.1 (iv .i64 0)).bind fun b146 =>
  vcase b146
  (if ([.int .i64 5] : List S).length = 1 ∧ 0 + 1 ≤ ([.int .i64 0, .int .i64 0, .int .i64 0, .int .i64 0, .int .i64 0, .int .i64 0, .int .i64 0, .str ⟨#[]⟩] : List S).length then
  (stV 8 p145.2 (pv h.n 0) (.agg (setAt ([.int .i64 0, .int .i64 0, .int .i64 0, .int .i64 0, .int .i64 0, .int .i64 0, .int .i64 0, .str ⟨#[]⟩] : List S) 0 ([.int .i64 5] : List S)))).bind fun h147 =>
  (loadN 8 h147 (pv h.n 0)).bind fun c148 =>
  some (.agg c148, h147)
  else none)
  ((idxS 1 a0 (iv .i64 0)).bind fun v149 =>
  (load1 p145.2 v149).bind fun x150 =>
  (cvI .i64 (.s x150)).bind fun v151 =>
  (loadN 4 p145.2 (pv (((h).new 0 [.int .i64 0, .int .i64 0, .int .i64 0, .int .i64 0, .int .i64 0, .int .i64 0, .int .i64 0, .str ⟨#[]⟩]).n) 0)).bind fun c152 =>
  (cellsOf v151).bind fun c153 =>
  if c153.length = 1 ∧ 1 + 1 ≤ ([.int .i64 0, .int .i64 0, .int .i64 0, .int .i64 0, .int .i64 0, .int .i64 0, .int .i64 0, .str ⟨#[]⟩] : List S).length then
  if c152.length = 4 ∧ 4 + 4 ≤ (setAt ([.int .i64 0, .int .i64 0, .int .i64 0, .int .i64 0, .int .i64 0, .int .i64 0, .int .i64 0, .str ⟨#[]⟩] : List S) 1 c153).length then
  (stV 8 p145.2 (pv h.n 0) (.agg (setAt (setAt ([.int .i64 0, .int .i64 0, .int .i64 0, .int .i64 0, .int .i64 0, .int .i64 0, .int .i64 0, .str ⟨#[]⟩] : List S) 1 c153) 4 c152))).bind fun h154 =>
  (loadN 8 h154 (pv h.n 0)).bind fun c155 =>
  some (.agg c155, h154)
  else none
  else none))
  else none
  else none
  else none
  else none)))
  ((lenV (.sl 5) a0).bind fun v156 =>
  (idxS 1 a0 (iv .i64 5)).bind fun v157 =>
  (load1 ((h).new 0 [.int .i64 0, .int .i64 0, .int .i64 0, .int .i64 0, .int .i64 0, .int .i64 0, .int .i64 0, .str ⟨#[]⟩]) v157).bind fun x158 =>
  (cvI .i64 (.s x158)).bind fun v159 =>
  (bin Ev .add 3 (iv .i64 6) v159).bind fun b160 =>
  (bin Ev .neq 3 v156 b160).bind fun b161 =>
  vcase b161
  (if ([.int .i64 5] : List S).length = 1 ∧ 0 + 1 ≤ ([.int .i64 0, .int .i64 0, .int .i64 0, .int .i64 0, .int .i64 0, .int .i64 0, .int .i64 0, .str ⟨#[]⟩] : List S).length then
  (stV 8 ((h).new 0 [.int .i64 0, .int .i64 0, .int .i64 0, .int .i64 0, .int .i64 0, .int .i64 0, .int .i64 0, .str ⟨#[]⟩]) (pv h.n 0) (.agg (setAt ([.int .i64 0, .int .i64 0, .int .i64 0, .int .i64 0, .int .i64 0, .int .i64 0, .int .i64 0, .str ⟨#[]⟩] : List S) 0 ([.int .i64 5] : List S)))).bind fun h162 =>
  (loadN 8 h162 (pv h.n 0)).bind fun c163 =>
  some (.agg c163, h162)
  else none)
  ((idxS 1 a0 (iv .i64 1)).bind fun v164 =>
  (load1 ((h).new 0 [.int .i64 0, .int .i64 0, .int .i64 0, .int .i64 0, .int .i64 0, .int .i64 0, .int .i64 0, .str ⟨#[]⟩]) v164).bind fun x165 =>
  (cvI .i64 (.s x165)).bind fun v166 =>
  (idxS 1 a0 (iv .i64 2)).bind fun v167 =>
  (load1 ((h).new 0 [.int .i64 0, .int .i64 0, .int .i64 0, .int .i64 0, .int .i64 0, .int .i64 0, .int .i64 0, .str ⟨#[]⟩]) v167).bind fun x168 =>
  (cvI .i64 (.s x168)).bind fun v169 =>
  (idxS 1 a0 (iv .i64 3)).bind fun v170 =>
  (load1 ((h).new 0 [.int .i64 0, .int .i64 0, .int .i64 0, .int .i64 0, .int .i64 0, .int .i64 0, .int .i64 0, .str ⟨#[]⟩]) v170).bind fun x171 =>
  (cvI .i64 (.s x171)).bind fun v172 =>
  (bin Ev .shl 2 v172 (iv .u64 8)).bind fun b173 =>
  (idxS 1 a0 (iv .i64 4)).bind fun v174 =>
  (load1 ((h).new 0 [.int .i64 0, .int .i64 0, .int .i64 0, .int .i64 0, .int .i64 0, .int .i64 0, .int .i64 0, .str ⟨#[]⟩]) v174).bind fun x175 =>
  (cvI .i64 (.s x175)).bind fun v176 =>
  (bin Ev .or 2 b173 v176).bind fun b177 =>
  (slS 1 ((h).new 0 [.int .i64 0, .int .i64 0, .int .i64 0, .int .i64 0, .int .i64 0, .int .i64 0, .int .i64 0, .str ⟨#[]⟩]) a0 (some (iv .i64 6)) none).bind fun v178 =>
  (cvStr ((h).new 0 [.int .i64 0, .int .i64 0, .int .i64 0, .int .i64 0, .int .i64 0, .int .i64 0, .int .i64 0, .str ⟨#[]⟩]) v178).bind fun v179 =>
  (cellsOf v166).bind fun c180 =>
  if c180.length = 1 ∧ 0 + 1 ≤ ([.int .i64 0, .int .i64 0, .int .i64 0, .str ⟨#[]⟩] : List S).length then
  (cellsOf v169).bind fun c181 =>
  if c181.length = 1 ∧ 1 + 1 ≤ (setAt ([.int .i64 0, .int .i64 0, .int .i64 0, .str ⟨#[]⟩] : List S) 0 c180).length then
  (cellsOf b177).bind fun c182 =>
  if c182.length = 1 ∧ 2 + 1 ≤ (setAt (setAt ([.int .i64 0, .int .i64 0, .int .i64 0, .str ⟨#[]⟩] : List S) 0 c180) 1 c181).length then
  (cellsOf v179).bind fun c183 =>
  if c183.length = 1 ∧ 3 + 1 ≤ (setAt (setAt (setAt ([.int .i64 0, .int .i64 0, .int .i64 0, .str ⟨#[]⟩] : List S) 0 c180) 1 c181) 2 c182).length then
  hchk ((h).new 0 [.int .i64 0, .int .i64 0, .int .i64 0, .int .i64 0, .int .i64 0, .int .i64 0, .int .i64 0, .str ⟨#[]⟩]) (((h).new 0 [.int .i64 0, .int .i64 0, .int .i64 0, .int .i64 0, .int .i64 0, .int .i64 0, .int .i64 0, .str ⟨#[]⟩]).new 0 [.int .i64 0, .int .i64 0, .int .i64 0, .str ⟨#[]⟩]) (
  (stV 4 (((h).new 0 [.int .i64 0, .int .i64 0, .int .i64 0, .int .i64 0, .int .i64 0, .int .i64 0, .int .i64 0, .str ⟨#[]⟩]).new 0 [.int .i64 0, .int .i64 0, .int .i64 0, .str ⟨#[]⟩]) (pv (((h).new 0 [.int .i64 0, .int .i64 0, .int .i64 0, .int .i64 0, .int .i64 0, .int .i64 0, .int .i64 0, .str ⟨#[]⟩]).n) 0) (.agg (setAt (setAt (setAt (setAt ([.int .i64 0, .int .i64 0, .int .i64 0, .str ⟨#[]⟩] : List S) 0 c180) 1 c181) 2 c182) 3 c183))).bind fun h185 =>
  (loadN 4 h185 (pv (((h).new 0 [.int .i64 0, .int .i64 0, .int .i64 0, .int .i64 0, .int .i64 0, .int .i64 0, .int .i64 0, .str ⟨#[]⟩]).n) 0)).bind fun c186 =>
  (call Ev Fn.impl_RowFault [.agg c186] h185).bind fun p187 =>
  (bin Ev .neq 2 p187.1 (iv .i64 0)).bind fun b188 =>
  vcase b188
  (if ([.int .i64 5] : List S).length = 1 ∧ 0 + 1 ≤ ([.int .i64 0, .int .i64 0, .int .i64 0, .int .i64 0, .int .i64 0, .int .i64 0, .int .i64 0, .str ⟨#[]⟩] : List S).length then
  (stV 8 p187.2 (pv h.n 0) (.agg (setAt ([.int .i64 0, .int .i64 0, .int .i64 0, .int .i64 0, .int .i64 0, .int .i64 0, .int .i64 0, .str ⟨#[]⟩] : List S) 0 ([.int .i64 5] : List S)))).bind fun h189 =>
  (loadN 8 h189 (pv h.n 0)).bind fun c190 =>
  some (.agg c190, h189)
  else none)
  ((idxS 1 a0 (iv .i64 0)).bind fun v191 =>
  (load1 p187.2 v191).bind fun x192 =>
  (cvI .i64 (.s x192)).bind fun v193 =>
  (loadN 4 p187.2 (pv (((h).new 0 [.int .i64 0, .int .i64 0, .int .i64 0, .int .i64 0, .int .i64 0, .int .i64 0, .int .i64 0, .str ⟨#[]⟩]).n) 0)).bind fun c194 =>
  (cellsOf v193).bind fun c195 =>
  if c195.length = 1 ∧ 1 + 1 ≤ ([.int .i64 0, .int .i64 0, .int .i64 0, .int .i64 0, .int .i64 0, .int .i64 0, .int .i64 0, .str ⟨#[]⟩] : List S).length then
  if c194.length = 4 ∧ 4 + 4 ≤ (setAt ([.int .i64 0, .int .i64 0, .int .i64 0, .int .i64 0, .int .i64 0, .int .i64 0, .int .i64 0, .str ⟨#[]⟩] : List S) 1 c195).length then
  (stV 8 p187.2 (pv h.n 0) (.agg (setAt (setAt ([.int .i64 0, .int .i64 0, .int .i64 0, .int .i64 0, .int .i64 0, .int .i64 0, .int .i64 0, .str ⟨#[]⟩] : List S) 1 c195) 4 c194))).bind fun h196 =>
  (loadN 8 h196 (pv h.n 0)).bind fun c197 =>
  some (.agg c197, h196)
  else none
  else none))
  else none
  else none
  else none
  else none))))
  (none)))
  ((lenV (.sl 5) a0).bind fun v198 =>
  (bin Ev .lss 3 v198 (iv .i64 6)).bind fun b199 =>
  gcase b199
  (if ([.int .i64 5] : List S).length = 1 ∧ 0 + 1 ≤ ([.int .i64 0, .int .i64 0, .int .i64 0, .int .i64 0, .int .i64 0, .int .i64 0, .int .i64 0, .str ⟨#[]⟩] : List S).length then
  (stV 8 ((h).new 0 [.int .i64 0, .int .i64 0, .int .i64 0, .int .i64 0, .int .i64 0, .int .i64 0, .int .i64 0, .str ⟨#[]⟩]) (pv h.n 0) (.agg (setAt ([.int .i64 0, .int .i64 0, .int .i64 0, .int .i64 0, .int .i64 0, .int .i64 0, .int .i64 0, .str ⟨#[]⟩] : List S) 0 ([.int .i64 5] : List S)))).bind fun h200 =>
  (loadN 8 h200 (pv h.n 0)).bind fun c201 =>
  some (.agg c201, h200)
  else none)
  ((idxS 1 a0 (iv .i64 0)).bind fun v202 =>
  (load1 ((h).new 0 [.int .i64 0, .int .i64 0, .int .i64 0, .int .i64 0, .int .i64 0, .int .i64 0, .int .i64 0, .str ⟨#[]⟩]) v202).bind fun x203 =>
  (bin Ev .neq 5 (.s x203) (iv .u8 0)).bind fun b204 =>
  gcase b204
  ((idxS 1 a0 (iv .i64 0)).bind fun v205 =>
  (load1 ((h).new 0 [.int .i64 0, .int .i64 0, .int .i64 0, .int .i64 0, .int .i64 0, .int .i64 0, .int .i64 0, .str ⟨#[]⟩]) v205).bind fun x206 =>
  (bin Ev .neq 5 (.s x206) (iv .u8 2)).bind fun b207 =>
  gcase b207
  (if ([.int .i64 5] : List S).length = 1 ∧ 0 + 1 ≤ ([.int .i64 0, .int .i64 0, .int .i64 0, .int .i64 0, .int .i64 0, .int .i64 0, .int .i64 0, .str ⟨#[]⟩] : List S).length then
  (stV 8 ((h).new 0 [.int .i64 0, .int .i64 0, .int .i64 0, .int .i64 0, .int .i64 0, .int .i64 0, .int .i64 0, .str ⟨#[]⟩]) (pv h.n 0) (.agg (setAt ([.int .i64 0, .int .i64 0, .int .i64 0, .int .i64 0, .int .i64 0, .int .i64 0, .int .i64 0, .str ⟨#[]⟩] : List S) 0 ([.int .i64 5] : List S)))).bind fun h208 =>
  (loadN 8 h208 (pv h.n 0)).bind fun c209 =>
  some (.agg c209, h208)
  else none)
  ((lenV (.sl 5) a0).bind fun v210 =>
  (idxS 1 a0 (iv .i64 5)).bind fun v211 =>
  (load1 ((h).new 0 [.int .i64 0, .int .i64 0, .int .i64 0, .int .i64 0, .int .i64 0, .int .i64 0, .int .i64 0, .str ⟨#[]⟩]) v211).bind fun x212 =>
  (cvI .i64 (.s x212)).bind fun v213 =>
  (bin Ev .add 3 (iv .i64 6) v213).bind fun b214 =>
  (bin Ev .neq 3 v210 b214).bind fun b215 =>
  vcase b215
  (if ([.int .i64 5] : List S).length = 1 ∧ 0 + 1 ≤ ([.int .i64 0, .int .i64 0, .int .i64 0, .int .i64 0, .int .i64 0, .int .i64 0, .int .i64 0, .str ⟨#[]⟩] : List S).length then
  (stV 8 ((h).new 0 [.int .i64 0, .int .i64 0, .int .i64 0, .int .i64 0, .int .i64 0, .int .i64 0, .int .i64 0, .str ⟨#[]⟩]) (pv h.n 0) (.agg (setAt ([.int .i64 0, .int .i64 0, .int .i64 0, .int .i64 0, .int .i64 0, .int .i64 0, .int .i64 0, .str ⟨#[]⟩] : List S) 0 ([.int .i64 5] : List S)))).bind fun h216 =>
  (loadN 8 h216 (pv h.n 0)).bind fun c217 =>
  some (.agg c217, h216)
  else none)
  ((idxS 1 a0 (iv .i64 1)).bind fun v218 =>
  (load1 ((h).new 0 [.int .i64 0, .int .i64 0, .int .i64 0, .int .i64 0, .int .i64 0, .int .i64 0, .int .i64 0, .str ⟨#[]⟩]) v218).bind fun x219 =>
  (cvI .i64 (.s x219)).bind fun v220 =>
  (idxS 1 a0 (iv .i64 2)).bind fun v221 =>
  (load1 ((h).new 0 [.int .i64 0, .int .i64 0, .int .i64 0, .int .i64 0, .int .i64 0, .int .i64 0, .int .i64 0, .str ⟨#[]⟩]) v221).bind fun x222 =>
  (cvI .i64 (.s x222)).bind fun v223 =>
  (idxS 1 a0 (iv .i64 3)).bind fun v224 =>
  (load1 ((h).new 0 [.int .i64 0, .int .i64 0, .int .i64 0, .int .i64 0, .int .i64 0, .int .i64 0, .int .i64 0, .str ⟨#[]⟩]) v224).bind fun x225 =>
  (cvI .i64 (.s x225)).bind fun v226 =>
  (bin Ev .shl 2 v226 (iv .u64 8)).bind fun b227 =>
  (idxS 1 a0 (iv .i64 4)).bind fun v228 =>
  (load1 ((h).new 0 [.int .i64 0, .int .i64 0, .int .i64 0, .int .i64 0, .int .i64 0, .int .i64 0, .int .i64 0, .str ⟨#[]⟩]) v228).bind fun x229 =>
  (cvI .i64 (.s x229)).bind fun v230 =>
  (bin Ev .or 2 b227 v230).bind fun b231 =>
  (slS 1 ((h).new 0 [.int .i64 0, .int .i64 0, .int .i64 0, .int .i64 0, .int .i64 0, .int .i64 0, .int .i64 0, .str ⟨#[]⟩]) a0 (some (iv .i64 6)) none).bind fun v232 =>
  (cvStr ((h).new 0 [.int .i64 0, .int .i64 0, .int .i64 0, .int .i64 0, .int .i64 0, .int .i64 0, .int .i64 0, .str ⟨#[]⟩]) v232).bind fun v233 =>
  (cellsOf v220).bind fun c234 =>
  if c234.length = 1 ∧ 0 + 1 ≤ ([.int .i64 0, .int .i64 0, .int .i64 0, .str ⟨#[]⟩] : List S).length then
  (cellsOf v223).bind fun c235 =>
  if c235.length = 1 ∧ 1 + 1 ≤ (setAt ([.int .i64 0, .int .i64 0, .int .i64 0, .str ⟨#[]⟩] : List S) 0 c234).length then
  (cellsOf b231).bind fun c236 =>
  if c236.length = 1 ∧ 2 + 1 ≤ (setAt (setAt ([.int .i64 0, .int .i64 0, .int .i64 0, .str ⟨#[]⟩] : List S) 0 c234) 1 c235).length then
  (cellsOf v233).bind fun c237 =>
  if c237.length = 1 ∧ 3 + 1 ≤ (setAt (setAt (setAt ([.int .i64 0, .int .i64 0, .int .i64 0, .str ⟨#[]⟩] : List S) 0 c234) 1 c235) 2 c236).length then
  hchk ((h).new 0 [.int .i64 0, .int .i64 0, .int .i64 0, .int .i64 0, .int .i64 0, .int .i64 0, .int .i64 0, .str ⟨#[]⟩]) (((h).new 0 [.int .i64 0, .int .i64 0, .int .i64 0, .int .i64 0, .int .i64 0, .int .i64 0, .int .i64 0, .str ⟨#[]⟩]).new 0 [.int .i64 0, .int .i64 0, .int .i64 0, .str ⟨#[]⟩]) (
  (stV 4 (((h).new 0 [.int .i64 0, .int .i64 0, .int .i64 0, .int .i64 0, .int .i64 0, .int .i64 0, .int .i64 0, .str ⟨#[]⟩]).new 0 [.int .i64 0, .int .i64 0, .int .i64 0, .str ⟨#[]⟩]) (pv (((h).new 0 [.int .i64 0, .int .i64 0, .int .i64 0, .int .i64 0, .int .i64 0, .int .i64 0, .int .i64 0, .str ⟨#[]⟩]).n) 0) (.agg (setAt (setAt (setAt (setAt ([.int .i64 0, .int .i64 0, .int .i64 0, .str ⟨#[]⟩] : List S) 0 c234) 1 c235) 2 c236) 3 c237))).bind fun h239 =>
  (loadN 4 h239 (pv (((h).new 0 [.int .i64 0, .int .i64 0, .int .i64 0, .int .i64 0, .int .i64 0, .int .i64 0, .int .i64 0, .str ⟨#[]⟩]).n) 0)).bind fun c240 =>
  (call Ev Fn.impl_RowFault [.agg c240] h239).bind fun p241 =>
  (bin Ev .neq 2 p241.1 (iv .i64 0)).bind fun b242 =>
  vcase b242
  (if ([.int .i64 5] : List S).length = 1 ∧ 0 + 1 ≤ ([.int .i64 0, .int .i64 0, .int .i64 0, .int .i64 0, .int .i64 0, .int .i64 0, .int .i64 0, .str ⟨#[]⟩] : List S).length then
  (stV 8 p241.2 (pv h.n 0) (.agg (setAt ([.int .i64 0, .int .i64 0, .int .i64 0, .int .i64 0, .int .i64 0, .int .i64 0, .int .i64 0, .str ⟨#[]⟩] : List S) 0 ([.int .i64 5] : List S)))).bind fun h243 =>
  (loadN 8 h243 (pv h.n 0)).bind fun c244 =>
  some (.agg c244, h243)
  else none)
  ((idxS 1 a0 (iv .i64 0)).bind fun v245 =>
  (load1 p241.2 v245).bind fun x246 =>
  (cvI .i64 (.s x246)).bind fun v247 =>
  (loadN 4 p241.2 (pv (((h).new 0 [.int .i64 0, .int .i64 0, .int .i64 0, .int .i64 0, .int .i64 0, .int .i64 0, .int .i64 0, .str ⟨#[]⟩]).n) 0)).bind fun c248 =>
  (cellsOf v247).bind fun c249 =>
  if c249.length = 1 ∧ 1 + 1 ≤ ([.int .i64 0, .int .i64 0, .int .i64 0, .int .i64 0, .int .i64 0, .int .i64 0, .int .i64 0, .str ⟨#[]⟩] : List S).length then
  if c248.length = 4 ∧ 4 + 4 ≤ (setAt ([.int .i64 0, .int .i64 0, .int .i64 0, .int .i64 0, .int .i64 0, .int .i64 0, .int .i64 0, .str ⟨#[]⟩] : List S) 1 c249).length then
  (stV 8 p241.2 (pv h.n 0) (.agg (setAt (setAt ([.int .i64 0, .int .i64 0, .int .i64 0, .int .i64 0, .int .i64 0, .int .i64 0, .int .i64 0, .str ⟨#[]⟩] : List S) 1 c249) 4 c248))).bind fun h250 =>
  (loadN 8 h250 (pv h.n 0)).bind fun c251 =>
  some (.agg c251, h250)
  else none
  else none))
  else none
  else none
  else none
  else none))
  (none))
  ((lenV (.sl 5) a0).bind fun v252 =>
  (idxS 1 a0 (iv .i64 5)).bind fun v253 =>
  (load1 ((h).new 0 [.int .i64 0, .int .i64 0, .int .i64 0, .int .i64 0, .int .i64 0, .int .i64 0, .int .i64 0, .str ⟨#[]⟩]) v253).bind fun x254 =>
  (cvI .i64 (.s x254)).bind fun v255 =>
  (bin Ev .add 3 (iv .i64 6) v255).bind fun b256 =>
  (bin Ev .neq 3 v252 b256).bind fun b257 =>
  vcase b257
  (if ([.int .i64 5] : List S).length = 1 ∧ 0 + 1 ≤ ([.int .i64 0, .int .i64 0, .int .i64 0, .int .i64 0, .int .i64 0, .int .i64 0, .int .i64 0, .str ⟨#[]⟩] : List S).length then
  (stV 8 ((h).new 0 [.int .i64 0, .int .i64 0, .int .i64 0, .int .i64 0, .int .i64 0, .int .i64 0, .int .i64 0, .str ⟨#[]⟩]) (pv h.n 0) (.agg (setAt ([.int .i64 0, .int .i64 0, .int .i64 0, .int .i64 0, .int .i64 0, .int .i64 0, .int .i64 0, .str ⟨#[]⟩] : List S) 0 ([.int .i64 5] : List S)))).bind fun h258 =>
  (loadN 8 h258 (pv h.n 0)).bind fun c259 =>
  some (.agg c259, h258)
  else none)
  ((idxS 1 a0 (iv .i64 1)).bind fun v260 =>
  (load1 ((h).new 0 [.int .i64 0, .int .i64 0, .int .i64 0, .int .i64 0, .int .i64 0, .int .i64 0, .int .i64 0, .str ⟨#[]⟩]) v260).bind fun x261 =>
  (cvI .i64 (.s x261)).bind fun v262 =>
  (idxS 1 a0 (iv .i64 2)).bind fun v263 =>
  (load1 ((h).new 0 [.int .i64 0, .int .i64 0, .int .i64 0, .int .i64 0, .int .i64 0, .int .i64 0, .int .i64 0, .str ⟨#[]⟩]) v263).bind fun x264 =>
  (cvI .i64 (.s x264)).bind fun v265 =>
  (idxS 1 a0 (iv .i64 3)).bind fun v266 =>
  (load1 ((h).new 0 [.int .i64 0, .int .i64 0, .int .i64 0, .int .i64 0, .int .i64 0, .int .i64 0, .int .i64 0, .str ⟨#[]⟩]) v266).bind fun x267 =>
  (cvI .i64 (.s x267)).bind fun v268 =>
  (bin Ev .shl 2 v268 (iv .u64 8)).bind fun b269 =>
  (idxS 1 a0 (iv .i64 4)).bind fun v270 =>
  (load1 ((h).new 0 [.int .i64 0, .int .i64 0, .int .i64 0, .int .i64 0, .int .i64 0, .int .i64 0, .int .i64 0, .str ⟨#[]⟩]) v270).bind fun x271 =>
  (cvI .i64 (.s x271)).bind fun v272 =>
  (bin Ev .or 2 b269 v272).bind fun b273 =>
  (slS 1 ((h).new 0 [.int .i64 0, .int .i64 0, .int .i64 0, .int .i64 0, .int .i64 0, .int .i64 0, .int .i64 0, .str ⟨#[]⟩]) a0 (some (iv .i64 6)) none).bind fun v274 =>
  (cvStr ((h).new 0 [.int .i64 0, .int .i64 0, .int .i64 0, .int .i64 0, .int .i64 0, .int .i64 0, .int .i64 0, .str ⟨#[]⟩]) v274).bind fun v275 =>
  (cellsOf v262).bind fun c276 =>
  if c276.length = 1 ∧ 0 + 1 ≤ ([.int .i64 0, .int .i64 0, .int .i64 0, .str ⟨#[]⟩] : List S).length then
  (cellsOf v265).bind fun c277 =>
  if c277.length = 1 ∧ 1 + 1 ≤ (setAt ([.int .i64 0, .int .i64 0, .int .i64 0, .str ⟨#[]⟩] : List S) 0 c276).length then
  (cellsOf b273).bind fun c278 =>
  if c278.length = 1 ∧ 2 + 1 ≤ (setAt (setAt ([.int .i64 0, .int .i64 0, .int .i64 0, .str ⟨#[]⟩] : List S) 0 c276) 1 c277).length then
  (cellsOf v275).bind fun c279 =>
  if c279.length = 1 ∧ 3 + 1 ≤ (setAt (setAt (setAt ([.int .i64 0, .int .i64 0, .int .i64 0, .str ⟨#[]⟩] : List S) 0 c276) 1 c277) 2 c278).length then
  hchk ((h).new 0 [.int .i64 0, .int .i64 0, .int .i64 0, .int .i64 0, .int .i64 0, .int .i64 0, .int .i64 0, .str ⟨#[]⟩]) (((h).new 0 [.int .i64 0, .int .i64 0, .int .i64 0, .int .i64 0, .int .i64 0, .int .i64 0, .int .i64 0, .str ⟨#[]⟩]).new 0 [.int .i64 0, .int .i64 0, .int .i64 0, .str ⟨#[]⟩]) (
  (stV 4 (((h).new 0 [.int .i64 0, .int .i64 0, .int .i64 0, .int .i64 0, .int .i64 0, .int .i64 0, .int .i64 0, .str ⟨#[]⟩]).new 0 [.int .i64 0, .int .i64 0, .int .i64 0, .str ⟨#[]⟩]) (pv (((h).new 0 [.int .i64 0, .int .i64 0, .int .i64 0, .int .i64 0, .int .i64 0, .int .i64 0, .int .i64 0, .str ⟨#[]⟩]).n) 0) (.agg (setAt (setAt (setAt (setAt ([.int .i64 0, .int .i64 0, .int .i64 0, .str ⟨#[]⟩] : List S) 0 c276) 1 c277) 2 c278) 3 c279))).bind fun h281 =>
  (loadN 4 h281 (pv (((h).new 0 [.int .i64 0, .int .i64 0, .int .i64 0, .int .i64 0, .int .i64 0, .int .i64 0, .int .i64 0, .str ⟨#[]⟩]).n) 0)).bind fun c282 =>
  (call Ev Fn.impl_RowFault [.agg c282] h281).bind fun p283 =>
  (bin Ev .neq 2 p283.1 (iv .i64 0)).bind fun b284 =>
  vcase b284
  (if ([.int .i64 5] : List S).length = 1 ∧ 0 + 1 ≤ ([.int .i64 0, .int .i64 0, .int .i64 0, .int .i64 0, .int .i64 0, .int .i64 0, .int .i64 0, .str ⟨#[]⟩] : List S).length then
  (stV 8 p283.2 (pv h.n 0) (.agg (setAt ([.int .i64 0, .int .i64 0, .int .i64 0, .int .i64 0, .int .i64 0, .int .i64 0, .int .i64 0, .str ⟨#[]⟩] : List S) 0 ([.int .i64 5] : List S)))).bind fun h285 =>
  (loadN 8 h285 (pv h.n 0)).bind fun c286 =>
  some (.agg c286, h285)
  else none)
  ((idxS 1 a0 (iv .i64 0)).bind fun v287 =>
  (load1 p283.2 v287).bind fun x288 =>
  (cvI .i64 (.s x288)).bind fun v289 =>
  (loadN 4 p283.2 (pv (((h).new 0 [.int .i64 0, .int .i64 0, .int .i64 0, .int .i64 0, .int .i64 0, .int .i64 0, .int .i64 0, .str ⟨#[]⟩]).n) 0)).bind fun c290 =>
  (cellsOf v289).bind fun c291 =>
  if c291.length = 1 ∧ 1 + 1 ≤ ([.int .i64 0, .int .i64 0, .int .i64 0, .int .i64 0, .int .i64 0, .int .i64 0, .int .i64 0, .str ⟨#[]⟩] : List S).length then
  if c290.length = 4 ∧ 4 + 4 ≤ (setAt ([.int .i64 0, .int .i64 0, .int .i64 0, .int .i64 0, .int .i64 0, .int .i64 0, .int .i64 0, .str ⟨#[]⟩] : List S) 1 c291).length then
  (stV 8 p283.2 (pv h.n 0) (.agg (setAt (setAt ([.int .i64 0, .int .i64 0, .int .i64 0, .int .i64 0, .int .i64 0, .int .i64 0, .int .i64 0, .str ⟨#[]⟩] : List S) 1 c291) 4 c290))).bind fun h292 =>
  (loadN 8 h292 (pv h.n 0)).bind fun c293 =>
  some (.agg c293, h292)
  else none
  else none))
  else none
  else none
  else none
  else none))
  (vcase (.tup [])
  (vcase (.tup [])
  (if ([.int .i64 5] : List S).length = 1 ∧ 0 + 1 ≤ ([.int .i64 0, .int .i64 0, .int .i64 0, .int .i64 0, .int .i64 0, .int .i64 0, .int .i64 0, .str ⟨#[]⟩] : List S).length then
  (stV 8 ((h).new 0 [.int .i64 0, .int .i64 0, .int .i64 0, .int .i64 0, .int .i64 0, .int .i64 0, .int .i64 0, .str ⟨#[]⟩]) (pv h.n 0) (.agg (setAt ([.int .i64 0, .int .i64 0, .int .i64 0, .int .i64 0, .int .i64 0, .int .i64 0, .int .i64 0, .str ⟨#[]⟩] : List S) 0 ([.int .i64 5] : List S)))).bind fun h294 =>
  (loadN 8 h294 (pv h.n 0)).bind fun c295 =>
  some (.agg c295, h294)
  else none)
  (vcase (.tup [])
  (if ([.int .i64 5] : List S).length = 1 ∧ 0 + 1 ≤ ([.int .i64 0, .int .i64 0, .int .i64 0, .int .i64 0, .int .i64 0, .int .i64 0, .int .i64 0, .str ⟨#[]⟩] : List S).length then
  (stV 8 ((h).new 0 [.int .i64 0, .int .i64 0, .int .i64 0, .int .i64 0, .int .i64 0, .int .i64 0, .int .i64 0, .str ⟨#[]⟩]) (pv h.n 0) (.agg (setAt ([.int .i64 0, .int .i64 0, .int .i64 0, .int .i64 0, .int .i64 0, .int .i64 0, .int .i64 0, .str ⟨#[]⟩] : List S) 0 ([.int .i64 5] : List S)))).bind fun h296 =>
  (loadN 8 h296 (pv h.n 0)).bind fun c297 =>
  some (.agg c297, h296)
  else none)
  ((idxS 1 a0 (iv .i64 1)).bind fun v298 =>
  (load1 ((h).new 0 [.int .i64 0, .int .i64 0, .int .i64 0, .int .i64 0, .int .i64 0, .int .i64 0, .int .i64 0, .str ⟨#[]⟩]) v298).bind fun x299 =>
  (cvI .i64 (.s x299)).bind fun v300 =>
  (idxS 1 a0 (iv .i64 2)).bind fun v301 =>
  (load1 ((h).new 0 [.int .i64 0, .int .i64 0, .int .i64 0, .int .i64 0, .int .i64 0, .int .i64 0, .int .i64 0, .str ⟨#[]⟩]) v301).bind fun x302 =>
  (cvI .i64 (.s x302)).bind fun v303 =>
  (idxS 1 a0 (iv .i64 3)).bind fun v304 =>
  (load1 ((h).new 0 [.int .i64 0, .int .i64 0, .int .i64 0, .int .i64 0, .int .i64 0, .int .i64 0, .int .i64 0, .str ⟨#[]⟩]) v304).bind fun x305 =>
  (cvI .i64 (.s x305)).bind fun v306 =>
  (bin Ev .shl 2 v306 (iv .u64 8)).bind fun b307 =>
  (idxS 1 a0 (iv .i64 4)).bind fun v308 =>
  (load1 ((h).new 0 [.int .i64 0, .int .i64 0, .int .i64 0, .int .i64 0, .int .i64 0, .int .i64 0, .int .i64 0, .str ⟨#[]⟩]) v308).bind fun x309 =>
  (cvI .i64 (.s x309)).bind fun v310 =>
  (bin Ev .or 2 b307 v310).bind fun b311 =>
  (slS 1 ((h).new 0 [.int .i64 0, .int .i64 0, .int .i64 0, .int .i64 0, .int .i64 0, .int .i64 0, .int .i64 0, .str ⟨#[]⟩]) a0 (some (iv .i64 6)) none).bind fun v312 =>
  (cvStr ((h).new 0 [.int .i64 0, .int .i64 0, .int .i64 0, .int .i64 0, .int .i64 0, .int .i64 0, .int .i64 0, .str ⟨#[]⟩]) v312).bind fun v313 =>
  (cellsOf v300).bind fun c314 =>
  if c314.length = 1 ∧ 0 + 1 ≤ ([.int .i64 0, .int .i64 0, .int .i64 0, .str ⟨#[]⟩] : List S).length then
  (cellsOf v303).bind fun c315 =>
  if c315.length = 1 ∧ 1 + 1 ≤ (setAt ([.int .i64 0, .int .i64 0, .int .i64 0, .str ⟨#[]⟩] : List S) 0 c314).length then
  (cellsOf b311).bind fun c316 =>
  if c316.length = 1 ∧ 2 + 1 ≤ (setAt (setAt ([.int .i64 0, .int .i64 0, .int .i64 0, .str ⟨#[]⟩] : List S) 0 c314) 1 c315).length then
  (cellsOf v313).bind fun c317 =>
  if c317.length = 1 ∧ 3 + 1 ≤ (setAt (setAt (setAt ([.int .i64 0, .int .i64 0, .int .i64 0, .str ⟨#[]⟩] : List S) 0 c314) 1 c315) 2 c316).length then
  hchk ((h).new 0 [.int .i64 0, .int .i64 0, .int .i64 0, .int .i64 0, .int .i64 0, .int .i64 0, .int .i64 0, .str ⟨#[]⟩]) (((h).new 0 [.int .i64 0, .int .i64 0, .int .i64 0, .int .i64 0, .int .i64 0, .int .i64 0, .int .i64 0, .str ⟨#[]⟩]).new 0 [.int .i64 0, .int .i64 0, .int .i64 0, .str ⟨#[]⟩]) (
  (stV 4 (((h).new 0 [.int .i64 0, .int .i64 0, .int .i64 0, .int .i64 0, .int .i64 0, .int .i64 0, .int .i64 0, .str ⟨#[]⟩]).new 0 [.int .i64 0, .int .i64 0, .int .i64 0, .str ⟨#[]⟩]) (pv (((h).new 0 [.int .i64 0, .int .i64 0, .int .i64 0, .int .i64 0, .int .i64 0, .int .i64 0, .int .i64 0, .str ⟨#[]⟩]).n) 0) (.agg (setAt (setAt (setAt (setAt ([.int .i64 0, .int .i64 0, .int .i64 0, .str ⟨#[]⟩] : List S) 0 c314) 1 c315) 2 c316) 3 c317))).bind fun h319 =>
  (loadN 4 h319 (pv (((h).new 0 [.int .i64 0, .int .i64 0, .int .i64 0, .int .i64 0, .int .i64 0, .int .i64 0, .int .i64 0, .str ⟨#[]⟩]).n) 0)).bind fun c320 =>
  (call Ev Fn.impl_RowFault [.agg c320] h319).bind fun p321 =>
  (bin Ev .neq 2 p321.1 (iv .i64 0)).bind fun b322 =>
  vcase b322
  (if ([.int .i64 5] : List S).length = 1 ∧ 0 + 1 ≤ ([.int .i64 0, .int .i64 0, .int .i64 0, .int .i64 0, .int .i64 0, .int .i64 0, .int .i64 0, .str ⟨#[]⟩] : List S).length then
  (stV 8 p321.2 (pv h.n 0) (.agg (setAt ([.int .i64 0, .int .i64 0, .int .i64 0, .int .i64 0, .int .i64 0, .int .i64 0, .int .i64 0, .str ⟨#[]⟩] : List S) 0 ([.int .i64 5] : List S)))).bind fun h323 =>
  (loadN 8 h323 (pv h.n 0)).bind fun c324 =>
  some (.agg c324, h323)
  else none)
  ((idxS 1 a0 (iv .i64 0)).bind fun v325 =>
  (load1 p321.2 v325).bind fun x326 =>
  (cvI .i64 (.s x326)).bind fun v327 =>
  (loadN 4 p321.2 (pv (((h).new 0 [.int .i64 0, .int .i64 0, .int .i64 0, .int .i64 0, .int .i64 0, .int .i64 0, .int .i64 0, .str ⟨#[]⟩]).n) 0)).bind fun c328 =>
  (cellsOf v327).bind fun c329 =>
  if c329.length = 1 ∧ 1 + 1 ≤ ([.int .i64 0, .int .i64 0, .int .i64 0, .int .i64 0, .int .i64 0, .int .i64 0, .int .i64 0, .str ⟨#[]⟩] : List S).length then
  if c328.length = 4 ∧ 4 + 4 ≤ (setAt ([.int .i64 0, .int .i64 0, .int .i64 0, .int .i64 0, .int .i64 0, .int .i64 0, .int .i64 0, .str ⟨#[]⟩] : List S) 1 c329).length then
  (stV 8 p321.2 (pv h.n 0) (.agg (setAt (setAt ([.int .i64 0, .int .i64 0, .int .i64 0, .int .i64 0, .int .i64 0, .int .i64 0, .int .i64 0, .str ⟨#[]⟩] : List S) 1 c329) 4 c328))).bind fun h330 =>
  (loadN 8 h330 (pv h.n 0)).bind fun c331 =>
  some (.agg c331, h330)
  else none
  else none))
  else none
  else none
  else none
  else none)))
  ((lenV (.sl 5) a0).bind fun v332 =>
  (idxS 1 a0 (iv .i64 5)).bind fun v333 =>
  (load1 ((h).new 0 [.int .i64 0, .int .i64 0, .int .i64 0, .int .i64 0, .int .i64 0, .int .i64 0, .int .i64 0, .str ⟨#[]⟩]) v333).bind fun x334 =>
  (cvI .i64 (.s x334)).bind fun v335 =>
  (bin Ev .add 3 (iv .i64 6) v335).bind fun b336 =>
  (bin Ev .neq 3 v332 b336).bind fun b337 =>
  vcase b337
  (if ([.int .i64 5] : List S).length = 1 ∧ 0 + 1 ≤ ([.int .i64 0, .int .i64 0, .int .i64 0, .int .i64 0, .int .i64 0, .int .i64 0, .int .i64 0, .str ⟨#[]⟩] : List S).length then
  (stV 8 ((h).new 0 [.int .i64 0, .int .i64 0, .int .i64 0, .int .i64 0, .int .i64 0, .int .i64 0, .int .i64 0, .str ⟨#[]⟩]) (pv h.n 0) (.agg (setAt ([.int .i64 0, .int .i64 0, .int .i64 0, .int .i64 0, .int .i64 0, .int .i64 0, .int .i64 0, .str ⟨#[]⟩] : List S) 0 ([.int .i64 5] : List S)))).bind fun h338 =>
  (loadN 8 h338 (pv h.n 0)).bind fun c339 =>
  some (.agg c339, h338)
  else none)
  ((idxS 1 a0 (iv .i64 1)).bind fun v340 =>
  (load1 ((h).new 0 [.int .i64 0, .int .i64 0, .int .i64 0, .int .i64 0, .int .i64 0, .int .i64 0, .int .i64 0, .str ⟨#[]⟩]) v340).bind fun x341 =>
  (cvI .i64 (.s x341)).bind fun v342 =>
  (idxS 1 a0 (iv .i64 2)).bind fun v343 =>
  (load1 ((h).new 0 [.int .i64 0, .int .i64 0, .int .i64 0, .int .i64 0, .int .i64 0, .int .i64 0, .int .i64 0, .str ⟨#[]⟩]) v343).bind fun x344 =>
  (cvI .i64 (.s x344)).bind fun v345 =>
  (idxS 1 a0 (iv .i64 3)).bind fun v346 =>
  (load1 ((h).new 0 [.int .i64 0, .int .i64 0, .int .i64 0, .int .i64 0, .int .i64 0, .int .i64 0, .int .i64 0, .str ⟨#[]⟩]) v346).bind fun x347 =>
  (cvI .i64 (.s x347)).bind fun v348 =>
  (bin Ev .shl 2 v348 (iv .u64 8)).bind fun b349 =>
  (idxS 1 a0 (iv .i64 4)).bind fun v350 =>
  (load1 ((h).new 0 [.int .i64 0, .int .i64 0, .int .i64 0, .int .i64 0, .int .i64 0, .int .i64 0, .int .i64 0, .str ⟨#[]⟩]) v350).bind fun x351 =>
  (cvI .i64 (.s x351)).bind fun v352 =>
  (bin Ev .or 2 b349 v352).bind fun b353 =>
  (slS 1 ((h).new 0 [.int .i64 0, .int .i64 0, .int .i64 0, .int .i64 0, .int .i64 0, .int .i64 0, .int .i64 0, .str ⟨#[]⟩]) a0 (some (iv .i64 6)) none).bind fun v354 =>
  (cvStr ((h).new 0 [.int .i64 0, .int .i64 0, .int .i64 0, .int .i64 0, .int .i64 0, .int .i64 0, .int .i64 0, .str ⟨#[]⟩]) v354).bind fun v355 =>
  (cellsOf v342).bind fun c356 =>
  if c356.length = 1 ∧ 0 + 1 ≤ ([.int .i64 0, .int .i64 0, .int .i64 0, .str ⟨#[]⟩] : List S).length then
  (cellsOf v345).bind fun c357 =>
  if c357.length = 1 ∧ 1 + 1 ≤ (setAt ([.int .i64 0, .int .i64 0, .int .i64 0, .str ⟨#[]⟩] : List S) 0 c356).length then
  (cellsOf b353).bind fun c358 =>
  if c358.length = 1 ∧ 2 + 1 ≤ (setAt (setAt ([.int .i64 0, .int .i64 0, .int .i64 0, .str ⟨#[]⟩] : List S) 0 c356) 1 c357).length then
  (cellsOf v355).bind fun c359 =>
  if c359.length = 1 ∧ 3 + 1 ≤ (setAt (setAt (setAt ([.int .i64 0, .int .i64 0, .int .i64 0, .str ⟨#[]⟩] : List S) 0 c356) 1 c357) 2 c358).length then
  hchk ((h).new 0 [.int .i64 0, .int .i64 0, .int .i64 0, .int .i64 0, .int .i64 0, .int .i64 0, .int .i64 0, .str ⟨#[]⟩]) (((h).new 0 [.int .i64 0, .int .i64 0, .int .i64 0, .int .i64 0, .int .i64 0, .int .i64 0, .int .i64 0, .str ⟨#[]⟩]).new 0 [.int .i64 0, .int .i64 0, .int .i64 0, .str ⟨#[]⟩]) (
  (stV 4 (((h).new 0 [.int .i64 0, .int .i64 0, .int .i64 0, .int .i64 0, .int .i64 0, .int .i64 0, .int .i64 0, .str ⟨#[]⟩]).new 0 [.int .i64 0, .int .i64 0, .int .i64 0, .str ⟨#[]⟩]) (pv (((h).new 0 [.int .i64 0, .int .i64 0, .int .i64 0, .int .i64 0, .int .i64 0, .int .i64 0, .int .i64 0, .str ⟨#[]⟩]).n) 0) (.agg (setAt (setAt (setAt (setAt ([.int .i64 0, .int .i64 0, .int .i64 0, .str ⟨#[]⟩] : List S) 0 c356) 1 c357) 2 c358) 3 c359))).bind fun h361 =>
  (loadN 4 h361 (pv (((h).new 0 [.int .i64 0, .int .i64 0, .int .i64 0, .int .i64 0, .int .i64 0, .int .i64 0, .int .i64 0, .str ⟨#[]⟩]).n) 0)).bind fun c362 =>
  (call Ev Fn.impl_RowFault [.agg c362] h361).bind fun p363 =>
  (bin Ev .neq 2 p363.1 (iv .i64 0)).bind fun b364 =>
  vcase b364
  (if ([.int .i64 5] : List S).length = 1 ∧ 0 + 1 ≤ ([.int .i64 0, .int .i64 0, .int .i64 0, .int .i64 0, .int .i64 0, .int .i64 0, .int .i64 0, .str ⟨#[]⟩] : List S).length then
  (stV 8 p363.2 (pv h.n 0) (.agg (setAt ([.int .i64 0, .int .i64 0, .int .i64 0, .int .i64 0, .int .i64 0, .int .i64 0, .int .i64 0, .str ⟨#[]⟩] : List S) 0 ([.int .i64 5] : List S)))).bind fun h365 =>
  (loadN 8 h365 (pv h.n 0)).bind fun c366 =>
  some (.agg c366, h365)
  else none)
  ((idxS 1 a0 (iv .i64 0)).bind fun v367 =>
  (load1 p363.2 v367).bind fun x368 =>
  (cvI .i64 (.s x368)).bind fun v369 =>
  (loadN 4 p363.2 (pv (((h).new 0 [.int .i64 0, .int .i64 0, .int .i64 0, .int .i64 0, .int .i64 0, .int .i64 0, .int .i64 0, .str ⟨#[]⟩]).n) 0)).bind fun c370 =>
  (cellsOf v369).bind fun c371 =>
  if c371.length = 1 ∧ 1 + 1 ≤ ([.int .i64 0, .int .i64 0, .int .i64 0, .int .i64 0, .int .i64 0, .int .i64 0, .int .i64 0, .str ⟨#[]⟩] : List S).length then
  if c370.length = 4 ∧ 4 + 4 ≤ (setAt ([.int .i64 0, .int .i64 0, .int .i64 0, .int .i64 0, .int .i64 0, .int .i64 0, .int .i64 0, .str ⟨#[]⟩] : List S) 1 c371).length then
  (stV 8 p363.2 (pv h.n 0) (.agg (setAt (setAt ([.int .i64 0, .int .i64 0, .int .i64 0, .int .i64 0, .int .i64 0, .int .i64 0, .int .i64 0, .str ⟨#[]⟩] : List S) 1 c371) 4 c370))).bind fun h372 =>
  (loadN 8 h372 (pv h.n 0)).bind fun c373 =>
  some (.agg c373, h372)
  else none
  else none))
  else none
  else none
  else none
  else none))))
  (none))
  (none))
  ((lenV (.sl 5) a0).bind fun v374 =>
  (bin Ev .lss 3 v374 (iv .i64 6)).bind fun b375 =>
  gcase b375
  (if ([.int .i64 5] : List S).length = 1 ∧ 0 + 1 ≤ ([.int .i64 0, .int .i64 0, .int .i64 0, .int .i64 0, .int .i64 0, .int .i64 0, .int .i64 0, .str ⟨#[]⟩] : List S).length then
  (stV 8 ((h).new 0 [.int .i64 0, .int .i64 0, .int .i64 0, .int .i64 0, .int .i64 0, .int .i64 0, .int .i64 0, .str ⟨#[]⟩]) (pv h.n 0) (.agg (setAt ([.int .i64 0, .int .i64 0, .int .i64 0, .int .i64 0, .int .i64 0, .int .i64 0, .int .i64 0, .str ⟨#[]⟩] : List S) 0 ([.int .i64 5] : List S)))).bind fun h376 =>
  (loadN 8 h376 (pv h.n 0)).bind fun c377 =>
  some (.agg c377, h376)
  else none)
  ((idxS 1 a0 (iv .i64 0)).bind fun v378 =>
  (load1 ((h).new 0 [.int .i64 0, .int .i64 0, .int .i64 0, .int .i64 0, .int .i64 0, .int .i64 0, .int .i64 0, .str ⟨#[]⟩]) v378).bind fun x379 =>
  (bin Ev .neq 5 (.s x379) (iv .u8 0)).bind fun b380 =>
  gcase b380
  ((idxS 1 a0 (iv .i64 0)).bind fun v381 =>
  (load1 ((h).new 0 [.int .i64 0, .int .i64 0, .int .i64 0, .int .i64 0, .int .i64 0, .int .i64 0, .int .i64 0, .str ⟨#[]⟩]) v381).bind fun x382 =>
  (bin Ev .neq 5 (.s x382) (iv .u8 2)).bind fun b383 =>
  gcase b383
  (if ([.int .i64 5] : List S).length = 1 ∧ 0 + 1 ≤ ([.int .i64 0, .int .i64 0, .int .i64 0, .int .i64 0, .int .i64 0, .int .i64 0, .int .i64 0, .str ⟨#[]⟩] : List S).length then
  (stV 8 ((h).new 0 [.int .i64 0, .int .i64 0, .int .i64 0, .int .i64 0, .int .i64 0, .int .i64 0, .int .i64 0, .str ⟨#[]⟩]) (pv h.n 0) (.agg (setAt ([.int .i64 0, .int .i64 0, .int .i64 0, .int .i64 0, .int .i64 0, .int .i64 0, .int .i64 0, .str ⟨#[]⟩] : List S) 0 ([.int .i64 5] : List S)))).bind fun h384 =>
  (loadN 8 h384 (pv h.n 0)).bind fun c385 =>
  some (.agg c385, h384)
  else none)
  ((lenV (.sl 5) a0).bind fun v386 =>
  (idxS 1 a0 (iv .i64 5)).bind fun v387 =>
  (load1 ((h).new 0 [.int .i64 0, .int .i64 0, .int .i64 0, .int .i64 0, .int .i64 0, .int .i64 0, .int .i64 0, .str ⟨#[]⟩]) v387).bind fun x388 =>
  (cvI .i64 (.s x388)).bind fun v389 =>
  (bin Ev .add 3 (iv .i64 6) v389).bind fun b390 =>
  (bin Ev .neq 3 v386 b390).bind fun b391 =>
  vcase b391
  (if ([.int .i64 5] : List S).length = 1 ∧ 0 + 1 ≤ ([.int .i64 0, .int .i64 0, .int .i64 0, .int .i64 0, .int .i64 0, .int .i64 0, .int .i64 0, .str ⟨#[]⟩] : List S).length then
  (stV 8 ((h).new 0 [.int .i64 0, .int .i64 0, .int .i64 0, .int .i64 0, .int .i64 0, .int .i64 0, .int .i64 0, .str ⟨#[]⟩]) (pv h.n 0) (.agg (setAt ([.int .i64 0, .int .i64 0, .int .i64 0, .int .i64 0, .int .i64 0, .int .i64 0, .int .i64 0, .str ⟨#[]⟩] : List S) 0 ([.int .i64 5] : List S)))).bind fun h392 =>
  (loadN 8 h392 (pv h.n 0)).bind fun c393 =>
  some (.agg c393, h392)
  else none)
  ((idxS 1 a0 (iv .i64 1)).bind fun v394 =>
  (load1 ((h).new 0 [.int .i64 0, .int .i64 0, .int .i64 0, .int .i64 0, .int .i64 0, .int .i64 0, .int .i64 0, .str ⟨#[]⟩]) v394).bind fun x395 =>
  (cvI .i64 (.s x395)).bind fun v396 =>
  (idxS 1 a0 (iv .i64 2)).bind fun v397 =>
  (load1 ((h).new 0 [.int .i64 0, .int .i64 0, .int .i64 0, .int .i64 0, .int .i64 0, .int .i64 0, .int .i64 0, .str ⟨#[]⟩]) v397).bind fun x398 =>
  (cvI .i64 (.s x398)).bind fun v399 =>
  (idxS 1 a0 (iv .i64 3)).bind fun v400 =>
  (load1 ((h).new 0 [.int .i64 0, .int .i64 0, .int .i64 0, .int .i64 0, .int .i64 0, .int .i64 0, .int .i64 0, .str ⟨#[]⟩]) v400).bind fun x401 =>
  (cvI .i64 (.s x401)).bind fun v402 =>
  (bin Ev .shl 2 v402 (iv .u64 8)).bind fun b403 =>
  (idxS 1 a0 (iv .i64 4)).bind fun v404 =>
  (load1 ((h).new 0 [.int .i64 0, .int .i64 0, .int .i64 0, .int .i64 0, .int .i64 0, .int .i64 0, .int .i64 0, .str ⟨#[]⟩]) v404).bind fun x405 =>
  (cvI .i64 (.s x405)).bind fun v406 =>
  (bin Ev .or 2 b403 v406).bind fun b407 =>
  (slS 1 ((h).new 0 [.int .i64 0, .int .i64 0, .int .i64 0, .int .i64 0, .int .i64 0, .int .i64 0, .int .i64 0, .str ⟨#[]⟩]) a0 (some (iv .i64 6)) none).bind fun v408 =>
  (cvStr ((h).new 0 [.int .i64 0, .int .i64 0, .int .i64 0, .int .i64 0, .int .i64 0, .int .i64 0, .int .i64 0, .str ⟨#[]⟩]) v408).bind fun v409 =>
  (cellsOf v396).bind fun c410 =>
  if c410.length = 1 ∧ 0 + 1 ≤ ([.int .i64 0, .int .i64 0, .int .i64 0, .str ⟨#[]⟩] : List S).length then
  (cellsOf v399).bind fun c411 =>
  if c411.length = 1 ∧ 1 + 1 ≤ (setAt ([.int .i64 0, .int .i64 0, .int .i64 0, .str ⟨#[]⟩] : List S) 0 c410).length then
  (cellsOf b407).bind fun c412 =>
  if c412.length = 1 ∧ 2 + 1 ≤ (setAt (setAt ([.int .i64 0, .int .i64 0, .int .i64 0, .str ⟨#[]⟩] : List S) 0 c410) 1 c411).length then
  (cellsOf v409).bind fun c413 =>
  if c413.length = 1 ∧ 3 + 1 ≤ (setAt (setAt (setAt ([.int .i64 0, .int .i64 0, .int .i64 0, .str ⟨#[]⟩] : List S) 0 c410) 1 c411) 2 c412).length then
  hchk ((h).new 0 [.int .i64 0, .int .i64 0, .int .i64 0, .int .i64 0, .int .i64 0, .int .i64 0, .int .i64 0, .str ⟨#[]⟩]) (((h).new 0 [.int .i64 0, .int .i64 0, .int .i64 0, .int .i64 0, .int .i64 0, .int .i64 0, .int .i64 0, .str ⟨#[]⟩]).new 0 [.int .i64 0, .int .i64 0, .int .i64 0, .str ⟨#[]⟩]) (
  (stV 4 (((h).new 0 [.int .i64 0, .int .i64 0, .int .i64 0, .int .i64 0, .int .i64 0, .int .i64 0, .int .i64 0, .str ⟨#[]⟩]).new 0 [.int .i64 0, .int .i64 0, .int .i64 0, .str ⟨#[]⟩]) (pv (((h).new 0 [.int .i64 0, .int .i64 0, .int .i64 0, .int .i64 0, .int .i64 0, .int .i64 0, .int .i64 0, .str ⟨#[]⟩]).n) 0) (.agg (setAt (setAt (setAt (setAt ([.int .i64 0, .int .i64 0, .int .i64 0, .str ⟨#[]⟩] : List S) 0 c410) 1 c411) 2 c412) 3 c413))).bind fun h415 =>
  (loadN 4 h415 (pv (((h).new 0 [.int .i64 0, .int .i64 0, .int .i64 0, .int .i64 0, .int .i64 0, .int .i64 0, .int .i64 0, .str ⟨#[]⟩]).n) 0)).bind fun c416 =>
  (call Ev Fn.impl_RowFault [.agg c416] h415).bind fun p417 =>
  (bin Ev .neq 2 p417.1 (iv .i64 0)).bind fun b418 =>
  vcase b418
  (if ([.int .i64 5] : List S).length = 1 ∧ 0 + 1 ≤ ([.int .i64 0, .int .i64 0, .int .i64 0, .int .i64 0, .int .i64 0, .int .i64 0, .int .i64 0, .str ⟨#[]⟩] : List S).length then
  (stV 8 p417.2 (pv h.n 0) (.agg (setAt ([.int .i64 0, .int .i64 0, .int .i64 0, .int .i64 0, .int .i64 0, .int .i64 0, .int .i64 0, .str ⟨#[]⟩] : List S) 0 ([.int .i64 5] : List S)))).bind fun h419 =>
  (loadN 8 h419 (pv h.n 0)).bind fun c420 =>
  some (.agg c420, h419)
  else none)
  ((idxS 1 a0 (iv .i64 0)).bind fun v421 =>
  (load1 p417.2 v421).bind fun x422 =>
  (cvI .i64 (.s x422)).bind fun v423 =>
  (loadN 4 p417.2 (pv (((h).new 0 [.int .i64 0, .int .i64 0, .int .i64 0, .int .i64 0, .int .i64 0, .int .i64 0, .int .i64 0, .str ⟨#[]⟩]).n) 0)).bind fun c424 =>
  (cellsOf v423).bind fun c425 =>
  if c425.length = 1 ∧ 1 + 1 ≤ ([.int .i64 0, .int .i64 0, .int .i64 0, .int .i64 0, .int .i64 0, .int .i64 0, .int .i64 0, .str ⟨#[]⟩] : List S).length then
  if c424.length = 4 ∧ 4 + 4 ≤ (setAt ([.int .i64 0, .int .i64 0, .int .i64 0, .int .i64 0, .int .i64 0, .int .i64 0, .int .i64 0, .str ⟨#[]⟩] : List S) 1 c425).length then
  (stV 8 p417.2 (pv h.n 0) (.agg (setAt (setAt ([.int .i64 0, .int .i64 0, .int .i64 0, .int .i64 0, .int .i64 0, .int .i64 0, .int .i64 0, .str ⟨#[]⟩] : List S) 1 c425) 4 c424))).bind fun h426 =>
  (loadN 8 h426 (pv h.n 0)).bind fun c427 =>
  some (.agg c427, h426)
  else none
  else none))
  else none
  else none
  else none
  else none))
  (none))
  ((lenV (.sl 5) a0).bind fun v428 =>
  (idxS 1 a0 (iv .i64 5)).bind fun v429 =>
  (load1 ((h).new 0 [.int .i64 0, .int .i64 0, .int .i64 0, .int .i64 0, .int .i64 0, .int .i64 0, .int .i64 0, .str ⟨#[]⟩]) v429).bind fun x430 =>
  (cvI .i64 (.s x430)).bind fun v431 =>
  (bin Ev .add 3 (iv .i64 6) v431).bind fun b432 =>
  (bin Ev .neq 3 v428 b432).bind fun b433 =>
  vcase b433
  (if ([.int .i64 5] : List S).length = 1 ∧ 0 + 1 ≤ ([.int .i64 0, .int .i64 0, .int .i64 0, .int .i64 0, .int .i64 0, .int .i64 0, .int .i64 0, .str ⟨#[]⟩] : List S).length then
  (stV 8 ((h).new 0 [.int .i64 0, .int .i64 0, .int .i64 0, .int .i64 0, .int .i64 0, .int .i64 0, .int .i64 0, .str ⟨#[]⟩]) (pv h.n 0) (.agg (setAt ([.int .i64 0, .int .i64 0, .int .i64 0, .int .i64 0, .int .i64 0, .int .i64 0, .int .i64 0, .str ⟨#[]⟩] : List S) 0 ([.int .i64 5] : List S)))).bind fun h434 =>
  (loadN 8 h434 (pv h.n 0)).bind fun c435 =>
  some (.agg c435, h434)
  else none)
  ((idxS 1 a0 (iv .i64 1)).bind fun v436 =>
  (load1 ((h).new 0 [.int .i64 0, .int .i64 0, .int .i64 0, .int .i64 0, .int .i64 0, .int .i64 0, .int .i64 0, .str ⟨#[]⟩]) v436).bind fun x437 =>
  (cvI .i64 (.s x437)).bind fun v438 =>
  (idxS 1 a0 (iv .i64 2)).bind fun v439 =>
  (load1 ((h).new 0 [.int .i64 0, .int .i64 0, .int .i64 0, .int .i64 0, .int .i64 0, .int .i64 0, .int .i64 0, .str ⟨#[]⟩]) v439).bind fun x440 =>
  (cvI .i64 (.s x440)).bind fun v441 =>
  (idxS 1 a0 (iv .i64 3)).bind fun v442 =>
  (load1 ((h).new 0 [.int .i64 0, .int .i64 0, .int .i64 0, .int .i64 0, .int .i64 0, .int .i64 0, .int .i64 0, .str ⟨#[]⟩]) v442).bind fun x443 =>
  (cvI .i64 (.s x443)).bind fun v444 =>
  (bin Ev .shl 2 v444 (iv .u64 8)).bind fun b445 =>
  (idxS 1 a0 (iv .i64 4)).bind fun v446 =>
  (load1 ((h).new 0 [.int .i64 0, .int .i64 0, .int .i64 0, .int .i64 0, .int .i64 0, .int .i64 0, .int .i64 0, .str ⟨#[]⟩]) v446).bind fun x447 =>
  (cvI .i64 (.s x447)).bind fun v448 =>
  (bin Ev .or 2 b445 v448).bind fun b449 =>
  (slS 1 ((h).new 0 [.int .i64 0, .int .i64 0, .int .i64 0, .int .i64 0, .int .i64 0, .int .i64 0, .int .i64 0, .str ⟨#[]⟩]) a0 (some (iv .i64 6)) none).bind fun v450 =>
  (cvStr ((h).new 0 [.int .i64 0, .int .i64 0, .int .i64 0, .int .i64 0, .int .i64 0, .int .i64 0, .int .i64 0, .str ⟨#[]⟩]) v450).bind fun v451 =>
  (cellsOf v438).bind fun c452 =>
  if c452.length = 1 ∧ 0 + 1 ≤ ([.int .i64 0, .int .i64 0, .int .i64 0, .str ⟨#[]⟩] : List S).length then
  (cellsOf v441).bind fun c453 =>
  if c453.length = 1 ∧ 1 + 1 ≤ (setAt ([.int .i64 0, .int .i64 0, .int .i64 0, .str ⟨#[]⟩] : List S) 0 c452).length then
  (cellsOf b449).bind fun c454 =>
  if c454.length = 1 ∧ 2 + 1 ≤ (setAt (setAt ([.int .i64 0, .int .i64 0, .int .i64 0, .str ⟨#[]⟩] : List S) 0 c452) 1 c453).length then
  (cellsOf v451).bind fun c455 =>
  if c455.length = 1 ∧ 3 + 1 ≤ (setAt (setAt (setAt ([.int .i64 0, .int .i64 0, .int .i64 0, .str ⟨#[]⟩] : List S) 0 c452) 1 c453) 2 c454).length then
  hchk ((h).new 0 [.int .i64 0, .int .i64 0, .int .i64 0, .int .i64 0, .int .i64 0, .int .i64 0, .int .i64 0, .str ⟨#[]⟩]) (((h).new 0 [.int .i64 0, .int .i64 0, .int .i64 0, .int .i64 0, .int .i64 0, .int .i64 0, .int .i64 0, .str ⟨#[]⟩]).new 0 [.int .i64 0, .int .i64 0, .int .i64 0, .str ⟨#[]⟩]) (
  (stV 4 (((h).new 0 [.int .i64 0, .int .i64 0, .int .i64 0, .int .i64 0, .int .i64 0, .int .i64 0, .int .i64 0, .str ⟨#[]⟩]).new 0 [.int .i64 0, .int .i64 0, .int .i64 0, .str ⟨#[]⟩]) (pv (((h).new 0 [.int .i64 0, .int .i64 0, .int .i64 0, .int .i64 0, .int .i64 0, .int .i64 0, .int .i64 0, .str ⟨#[]⟩]).n) 0) (.agg (setAt (setAt (setAt (setAt ([.int .i64 0, .int .i64 0, .int .i64 0, .str ⟨#[]⟩] : List S) 0 c452) 1 c453) 2 c454) 3 c455))).bind fun h457 =>
  (loadN 4 h457 (pv (((h).new 0 [.int .i64 0, .int .i64 0, .int .i64 0, .int .i64 0, .int .i64 0, .int .i64 0, .int .i64 0, .str ⟨#[]⟩]).n) 0)).bind fun c458 =>
  (call Ev Fn.impl_RowFault [.agg c458] h457).bind fun p459 =>
  (bin Ev .neq 2 p459.1 (iv .i64 0)).bind fun b460 =>
  vcase b460
  (if ([.int .i64 5] : List S).length = 1 ∧ 0 + 1 ≤ ([.int .i64 0, .int .i64 0, .int .i64 0, .int .i64 0, .int .i64 0, .int .i64 0, .int .i64 0, .str ⟨#[]⟩] : List S).length then
  (stV 8 p459.2 (pv h.n 0) (.agg (setAt ([.int .i64 0, .int .i64 0, .int .i64 0, .int .i64 0, .int .i64 0, .int .i64 0, .int .i64 0, .str ⟨#[]⟩] : List S) 0 ([.int .i64 5] : List S)))).bind fun h461 =>
  (loadN 8 h461 (pv h.n 0)).bind fun c462 =>
  some (.agg c462, h461)
  else none)
  ((idxS 1 a0 (iv .i64 0)).bind fun v463 =>
  (load1 p459.2 v463).bind fun x464 =>
  (cvI .i64 (.s x464)).bind fun v465 =>
  (loadN 4 p459.2 (pv (((h).new 0 [.int .i64 0, .int .i64 0, .int .i64 0, .int .i64 0, .int .i64 0, .int .i64 0, .int .i64 0, .str ⟨#[]⟩]).n) 0)).bind fun c466 =>
  (cellsOf v465).bind fun c467 =>
  if c467.length = 1 ∧ 1 + 1 ≤ ([.int .i64 0, .int .i64 0, .int .i64 0, .int .i64 0, .int .i64 0, .int .i64 0, .int .i64 0, .str ⟨#[]⟩] : List S).length then
  if c466.length = 4 ∧ 4 + 4 ≤ (setAt ([.int .i64 0, .int .i64 0, .int .i64 0, .int .i64 0, .int .i64 0, .int .i64 0, .int .i64 0, .str ⟨#[]⟩] : List S) 1 c467).length then
  (stV 8 p459.2 (pv h.n 0) (.agg (setAt (setAt ([.int .i64 0, .int .i64 0, .int .i64 0, .int .i64 0, .int .i64 0, .int .i64 0, .int .i64 0, .str ⟨#[]⟩] : List S) 1 c467) 4 c466))).bind fun h468 =>
  (loadN 8 h468 (pv h.n 0)).bind fun c469 =>
  some (.agg c469, h468)
  else none
  else none))
  else none
  else none
  else none
  else none))
  (vcase (.tup [])
  (vcase (.tup [])
  (if ([.int .i64 5] : List S).length = 1 ∧ 0 + 1 ≤ ([.int .i64 0, .int .i64 0, .int .i64 0, .int .i64 0, .int .i64 0, .int .i64 0, .int .i64 0, .str ⟨#[]⟩] : List S).length then
  (stV 8 ((h).new 0 [.int .i64 0, .int .i64 0, .int .i64 0, .int .i64 0, .int .i64 0, .int .i64 0, .int .i64 0, .str ⟨#[]⟩]) (pv h.n 0) (.agg (setAt ([.int .i64 0, .int .i64 0, .int .i64 0, .int .i64 0, .int .i64 0, .int .i64 0, .int .i64 0, .str ⟨#[]⟩] : List S) 0 ([.int .i64 5] : List S)))).bind fun h470 =>
  (loadN 8 h470 (pv h.n 0)).bind fun c471 =>
  some (.agg c471, h470)
  else none)
  (vcase (.tup [])
  (if ([.int .i64 5] : List S).length = 1 ∧ 0 + 1 ≤ ([.int .i64 0, .int .i64 0, .int .i64 0, .int .i64 0, .int .i64 0, .int .i64 0, .int .i64 0, .str ⟨#[]⟩] : List S).length then
  (stV 8 ((h).new 0 [.int .i64 0, .int .i64 0, .int .i64 0, .int .i64 0, .int .i64 0, .int .i64 0, .int .i64 0, .str ⟨#[]⟩]) (pv h.n 0) (.agg (setAt ([.int .i64 0, .int .i64 0, .int .i64 0, .int .i64 0, .int .i64 0, .int .i64 0, .int .i64 0, .str ⟨#[]⟩] : List S) 0 ([.int .i64 5] : List S)))).bind fun h472 =>
  (loadN 8 h472 (pv h.n 0)).bind fun c473 =>
  some (.agg c473, h472)
  else none)
  ((idxS 1 a0 (iv .i64 1)).bind fun v474 =>
  (load1 ((h).new 0 [.int .i64 0, .int .i64 0, .int .i64 0, .int .i64 0, .int .i64 0, .int .i64 0, .int .i64 0, .str ⟨#[]⟩]) v474).bind fun x475 =>
  (cvI .i64 (.s x475)).bind fun v476 =>
  (idxS 1 a0 (iv .i64 2)).bind fun v477 =>
  (load1 ((h).new 0 [.int .i64 0, .int .i64 0, .int .i64 0, .int .i64 0, .int .i64 0, .int .i64 0, .int .i64 0, .str ⟨#[]⟩]) v477).bind fun x478 =>
  (cvI .i64 (.s x478)).bind fun v479 =>
  (idxS 1 a0 (iv .i64 3)).bind fun v480 =>
  (load1 ((h).new 0 [.int .i64 0, .int .i64 0, .int .i64 0, .int .i64 0, .int .i64 0, .int .i64 0, .int .i64 0, .str ⟨#[]⟩]) v480).bind fun x481 =>
  (cvI .i64 (.s x481)).bind fun v482 =>
  (bin Ev .shl 2 v482 (iv .u64 8)).bind fun b483 =>
  (idxS 1 a0 (iv .i64 4)).bind fun v484 =>
  (load1 ((h).new 0 [.int .i64 0, .int .i64 0, .int .i64 0, .int .i64 0, .int .i64 0, .int .i64 0, .int .i64 0, .str ⟨#[]⟩]) v484).bind fun x485 =>
  (cvI .i64 (.s x485)).bind fun v486 =>
  (bin Ev .or 2 b483 v486).bind fun b487 =>
  (slS 1 ((h).new 0 [.int .i64 0, .int .i64 0, .int .i64 0, .int .i64 0, .int .i64 0, .int .i64 0, .int .i64 0, .str ⟨#[]⟩]) a0 (some (iv .i64 6)) none).bind fun v488 =>
  (cvStr ((h).new 0 [.int .i64 0, .int .i64 0, .int .i64 0, .int .i64 0, .int .i64 0, .int .i64 0, .int .i64 0, .str ⟨#[]⟩]) v488).bind fun v489 =>
  (cellsOf v476).bind fun c490 =>
  if c490.length = 1 ∧ 0 + 1 ≤ ([.int .i64 0, .int .i64 0, .int .i64 0, .str ⟨#[]⟩] : List S).length then
  (cellsOf v479).bind fun c491 =>
  if c491.length = 1 ∧ 1 + 1 ≤ (setAt ([.int .i64 0, .int .i64 0, .int .i64 0, .str ⟨#[]⟩] : List S) 0 c490).length then
  (cellsOf b487).bind fun c492 =>
  if c492.length = 1 ∧ 2 + 1 ≤ (setAt (setAt ([.int .i64 0, .int .i64 0, .int .i64 0, .str ⟨#[]⟩] : List S) 0 c490) 1 c491).length then
  (cellsOf v489).bind fun c493 =>
  if c493.length = 1 ∧ 3 + 1 ≤ (setAt (setAt (setAt ([.int .i64 0, .int .i64 0, .int .i64 0, .str ⟨#[]⟩] : List S) 0 c490) 1 c491) 2 c492).length then
  hchk ((h).new 0 [.int .i64 0, .int .i64 0, .int .i64 0, .int .i64 0, .int .i64 0, .int .i64 0, .int .i64 0, .str ⟨#[]⟩]) (((h).new 0 [.int .i64 0, .int .i64 0, .int .i64 0, .int .i64 0, .int .i64 0, .int .i64 0, .int .i64 0, .str ⟨#[]⟩]).new 0 [.int .i64 0, .int .i64 0, .int .i64 0, .str ⟨#[]⟩]) (
  (stV 4 (((h).new 0 [.int .i64 0, .int .i64 0, .int .i64 0, .int .i64 0, .int .i64 0, .int .i64 0, .int .i64 0, .str ⟨#[]⟩]).new 0 [.int .i64 0, .int .i64 0, .int .i64 0, .str ⟨#[]⟩]) (pv (((h).new 0 [.int .i64 0, .int .i64 0, .int .i64 0, .int .i64 0, .int .i64 0, .int .i64 0, .int .i64 0, .str ⟨#[]⟩]).n) 0) (.agg (setAt (setAt (setAt (setAt ([.int .i64 0, .int .i64 0, .int .i64 0, .str ⟨#[]⟩] : List S) 0 c490) 1 c491) 2 c492) 3 c493))).bind fun h495 =>
  (loadN 4 h495 (pv (((h).new 0 [.int .i64 0, .int .i64 0, .int .i64 0, .int .i64 0, .int .i64 0, .int .i64 0, .int .i64 0, .str ⟨#[]⟩]).n) 0)).bind fun c496 =>
  (call Ev Fn.impl_RowFault [.agg c496] h495).bind fun p497 =>
  (bin Ev .neq 2 p497.1 (iv .i64 0)).bind fun b498 =>
  vcase b498
  (if ([.int .i64 5] : List S).length = 1 ∧ 0 + 1 ≤ ([.int .i64 0, .int .i64 0, .int .i64 0, .int .i64 0, .int .i64 0, .int .i64 0, .int .i64 0, .str ⟨#[]⟩] : List S).length then
  (stV 8 p497.2 (pv h.n 0) (.agg (setAt ([.int .i64 0, .int .i64 0, .int .i64 0, .int .i64 0, .int .i64 0, .int .i64 0, .int .i64 0, .str ⟨#[]⟩] : List S) 0 ([.int .i64 5] : List S)))).bind fun h499 =>
  (loadN 8 h499 (pv h.n 0)).bind fun c500 =>
  some (.agg c500, h499)
  else none)
  ((idxS 1 a0 (iv .i64 0)).bind fun v501 =>
  (load1 p497.2 v501).bind fun x502 =>
  (cvI .i64 (.s x502)).bind fun v503 =>
  (loadN 4 p497.2 (pv (((h).new 0 [.int .i64 0, .int .i64 0, .int .i64 0, .int .i64 0, .int .i64 0, .int .i64 0, .int .i64 0, .str ⟨#[]⟩]).n) 0)).bind fun c504 =>
  (cellsOf v503).bind fun c505 =>
  if c505.length = 1 ∧ 1 + 1 ≤ ([.int .i64 0, .int .i64 0, .int .i64 0, .int .i64 0, .int .i64 0, .int .i64 0, .int .i64 0, .str ⟨#[]⟩] : List S).length then
  if c504.length = 4 ∧ 4 + 4 ≤ (setAt ([.int .i64 0, .int .i64 0, .int .i64 0, .int .i64 0, .int .i64 0, .int .i64 0, .int .i64 0, .str ⟨#[]⟩] : List S) 1 c505).length then
  (stV 8 p497.2 (pv h.n 0) (.agg (setAt (setAt ([.int .i64 0, .int .i64 0, .int .i64 0, .int .i64 0, .int .i64 0, .int .i64 0, .int .i64 0, .str ⟨#[]⟩] : List S) 1 c505) 4 c504))).bind fun h506 =>
  (loadN 8 h506 (pv h.n 0)).bind fun c507 =>
  some (.agg c507, h506)
  else none
  else none))
  else none
  else none
  else none
  else none)))
  ((lenV (.sl 5) a0).bind fun v508 =>
  (idxS 1 a0 (iv .i64 5)).bind fun v509 =>
  (load1 ((h).new 0 [.int .i64 0, .int .i64 0, .int .i64 0, .int .i64 0, .int .i64 0, .int .i64 0, .int .i64 0, .str ⟨#[]⟩]) v509).bind fun x510 =>
  (cvI .i64 (.s x510)).bind fun v511 =>
  (bin Ev .add 3 (iv .i64 6) v511).bind fun b512 =>
  (bin Ev .neq 3 v508 b512).bind fun b513 =>
  vcase b513
  (if ([.int .i64 5] : List S).length = 1 ∧ 0 + 1 ≤ ([.int .i64 0, .int .i64 0, .int .i64 0, .int .i64 0, .int .i64 0, .int .i64 0, .int .i64 0, .str ⟨#[]⟩] : List S).length then
  (stV 8 ((h).new 0 [.int .i64 0, .int .i64 0, .int .i64 0, .int .i64 0, .int .i64 0, .int .i64 0, .int .i64 0, .str ⟨#[]⟩]) (pv h.n 0) (.agg (setAt ([.int .i64 0, .int .i64 0, .int .i64 0, .int .i64 0, .int .i64 0, .int .i64 0, .int .i64 0, .str ⟨#[]⟩] : List S) 0 ([.int .i64 5] : List S)))).bind fun h514 =>
  (loadN 8 h514 (pv h.n 0)).bind fun c515 =>
  some (.agg c515, h514)
  else none)
  ((idxS 1 a0 (iv .i64 1)).bind fun v516 =>
  (load1 ((h).new 0 [.int .i64 0, .int .i64 0, .int .i64 0, .int .i64 0, .int .i64 0, .int .i64 0, .int .i64 0, .str ⟨#[]⟩]) v516).bind fun x517 =>
  (cvI .i64 (.s x517)).bind fun v518 =>
  (idxS 1 a0 (iv .i64 2)).bind fun v519 =>
  (load1 ((h).new 0 [.int .i64 0, .int .i64 0, .int .i64 0, .int .i64 0, .int .i64 0, .int .i64 0, .int .i64 0, .str ⟨#[]⟩]) v519).bind fun x520 =>
  (cvI .i64 (.s x520)).bind fun v521 =>
  (idxS 1 a0 (iv .i64 3)).bind fun v522 =>
  (load1 ((h).new 0 [.int .i64 0, .int .i64 0, .int .i64 0, .int .i64 0, .int .i64 0, .int .i64 0, .int .i64 0, .str ⟨#[]⟩]) v522).bind fun x523 =>
  (cvI .i64 (.s x523)).bind fun v524 =>
  (bin Ev .shl 2 v524 (iv .u64 8)).bind fun b525 =>
  (idxS 1 a0 (iv .i64 4)).bind fun v526 =>
  (load1 ((h).new 0 [.int .i64 0, .int .i64 0, .int .i64 0, .int .i64 0, .int .i64 0, .int .i64 0, .int .i64 0, .str ⟨#[]⟩]) v526).bind fun x527 =>
  (cvI .i64 (.s x527)).bind fun v528 =>
  (bin Ev .or 2 b525 v528).bind fun b529 =>
  (slS 1 ((h).new 0 [.int .i64 0, .int .i64 0, .int .i64 0, .int .i64 0, .int .i64 0, .int .i64 0, .int .i64 0, .str ⟨#[]⟩]) a0 (some (iv .i64 6)) none).bind fun v530 =>
  (cvStr ((h).new 0 [.int .i64 0, .int .i64 0, .int .i64 0, .int .i64 0, .int .i64 0, .int .i64 0, .int .i64 0, .str ⟨#[]⟩]) v530).bind fun v531 =>
  (cellsOf v518).bind fun c532 =>
  if c532.length = 1 ∧ 0 + 1 ≤ ([.int .i64 0, .int .i64 0, .int .i64 0, .str ⟨#[]⟩] : List S).length then
  (cellsOf v521).bind fun c533 =>
  if c533.length = 1 ∧ 1 + 1 ≤ (setAt ([.int .i64 0, .int .i64 0, .int .i64 0, .str ⟨#[]⟩] : List S) 0 c532).length then
  (cellsOf b529).bind fun c534 =>
  if c534.length = 1 ∧ 2 + 1 ≤ (setAt (setAt ([.int .i64 0, .int .i64 0, .int .i64 0, .str ⟨#[]⟩] : List S) 0 c532) 1 c533).length then
  (cellsOf v531).bind fun c535 =>
  if c535.length = 1 ∧ 3 + 1 ≤ (setAt (setAt (setAt ([.int .i64 0, .int .i64 0, .int .i64 0, .str ⟨#[]⟩] : List S) 0 c532) 1 c533) 2 c534).length then
  hchk ((h).new 0 [.int .i64 0, .int .i64 0, .int .i64 0, .int .i64 0, .int .i64 0, .int .i64 0, .int .i64 0, .str ⟨#[]⟩]) (((h).new 0 [.int .i64 0, .int .i64 0, .int .i64 0, .int .i64 0, .int .i64 0, .int .i64 0, .int .i64 0, .str ⟨#[]⟩]).new 0 [.int .i64 0, .int .i64 0, .int .i64 0, .str ⟨#[]⟩]) (
  (stV 4 (((h).new 0 [.int .i64 0, .int .i64 0, .int .i64 0, .int .i64 0, .int .i64 0, .int .i64 0, .int .i64 0, .str ⟨#[]⟩]).new 0 [.int .i64 0, .int .i64 0, .int .i64 0, .str ⟨#[]⟩]) (pv (((h).new 0 [.int .i64 0, .int .i64 0, .int .i64 0, .int .i64 0, .int .i64 0, .int .i64 0, .int .i64 0, .str ⟨#[]⟩]).n) 0) (.agg (setAt (setAt (setAt (setAt ([.int .i64 0, .int .i64 0, .int .i64 0, .str ⟨#[]⟩] : List S) 0 c532) 1 c533) 2 c534) 3 c535))).bind fun h537 =>
  (loadN 4 h537 (pv (((h).new 0 [.int .i64 0, .int .i64 0, .int .i64 0, .int .i64 0, .int .i64 0, .int .i64 0, .int .i64 0, .str ⟨#[]⟩]).n) 0)).bind fun c538 =>
  (call Ev Fn.impl_RowFault [.agg c538] h537).bind fun p539 =>
  (bin Ev .neq 2 p539.1 (iv .i64 0)).bind fun b540 =>
  vcase b540
  (if ([.int .i64 5] : List S).length = 1 ∧ 0 + 1 ≤ ([.int .i64 0, .int .i64 0, .int .i64 0, .int .i64 0, .int .i64 0, .int .i64 0, .int .i64 0, .str ⟨#[]⟩] : List S).length then
  (stV 8 p539.2 (pv h.n 0) (.agg (setAt ([.int .i64 0, .int .i64 0, .int .i64 0, .int .i64 0, .int .i64 0, .int .i64 0, .int .i64 0, .str ⟨#[]⟩] : List S) 0 ([.int .i64 5] : List S)))).bind fun h541 =>
  (loadN 8 h541 (pv h.n 0)).bind fun c542 =>
  some (.agg c542, h541)
  else none)
  ((idxS 1 a0 (iv .i64 0)).bind fun v543 =>
  (load1 p539.2 v543).bind fun x544 =>
  (cvI .i64 (.s x544)).bind fun v545 =>
  (loadN 4 p539.2 (pv (((h).new 0 [.int .i64 0, .int .i64 0, .int .i64 0, .int .i64 0, .int .i64 0, .int .i64 0, .int .i64 0, .str ⟨#[]⟩]).n) 0)).bind fun c546 =>
  (cellsOf v545).bind fun c547 =>
  if c547.length = 1 ∧ 1 + 1 ≤ ([.int .i64 0, .int .i64 0, .int .i64 0, .int .i64 0, .int .i64 0, .int .i64 0, .int .i64 0, .str ⟨#[]⟩] : List S).length then
  if c546.length = 4 ∧ 4 + 4 ≤ (setAt ([.int .i64 0, .int .i64 0, .int .i64 0, .int .i64 0, .int .i64 0, .int .i64 0, .int .i64 0, .str ⟨#[]⟩] : List S) 1 c547).length then
  (stV 8 p539.2 (pv h.n 0) (.agg (setAt (setAt ([.int .i64 0, .int .i64 0, .int .i64 0, .int .i64 0, .int .i64 0, .int .i64 0, .int .i64 0, .str ⟨#[]⟩] : List S) 1 c547) 4 c546))).bind fun h548 =>
  (loadN 8 h548 (pv h.n 0)).bind fun c549 =>
  some (.agg c549, h548)
  else none
  else none))
  else none
  else none
  else none
  else none))))
  (none))
  (none))
  ((lenV (.sl 5) a0).bind fun v550 =>
  (bin Ev .lss 3 v550 (iv .i64 6)).bind fun b551 =>
  gcase b551
  (if ([.int .i64 5] : List S).length = 1 ∧ 0 + 1 ≤ ([.int .i64 0, .int .i64 0, .int .i64 0, .int .i64 0, .int .i64 0, .int .i64 0, .int .i64 0, .str ⟨#[]⟩] : List S).length then
  (stV 8 ((h).new 0 [.int .i64 0, .int .i64 0, .int .i64 0, .int .i64 0, .int .i64 0, .int .i64 0, .int .i64 0, .str ⟨#[]⟩]) (pv h.n 0) (.agg (setAt ([.int .i64 0, .int .i64 0, .int .i64 0, .int .i64 0, .int .i64 0, .int .i64 0, .int .i64 0, .str ⟨#[]⟩] : List S) 0 ([.int .i64 5] : List S)))).bind fun h552 =>
  (loadN 8 h552 (pv h.n 0)).bind fun c553 =>
  some (.agg c553, h552)
  else none)
  ((idxS 1 a0 (iv .i64 0)).bind fun v554 =>
  (load1 ((h).new 0 [.int .i64 0, .int .i64 0, .int .i64 0, .int .i64 0, .int .i64 0, .int .i64 0, .int .i64 0, .str ⟨#[]⟩]) v554).bind fun x555 =>
  (bin Ev .neq 5 (.s x555) (iv .u8 0)).bind fun b556 =>
  gcase b556
  ((idxS 1 a0 (iv .i64 0)).bind fun v557 =>
  (load1 ((h).new 0 [.int .i64 0, .int .i64 0, .int .i64 0, .int .i64 0, .int .i64 0, .int .i64 0, .int .i64 0, .str ⟨#[]⟩]) v557).bind fun x558 =>
  (bin Ev .neq 5 (.s x558) (iv .u8 2)).bind fun b559 =>
  gcase b559
  (if ([.int .i64 5] : List S).length = 1 ∧ 0 + 1 ≤ ([.int .i64 0, .int .i64 0, .int .i64 0, .int .i64 0, .int .i64 0, .int .i64 0, .int .i64 0, .str ⟨#[]⟩] : List S).length then
  (stV 8 ((h).new 0 [.int .i64 0, .int .i64 0, .int .i64 0, .int .i64 0, .int .i64 0, .int .i64 0, .int .i64 0, .str ⟨#[]⟩]) (pv h.n 0) (.agg (setAt ([.int .i64 0, .int .i64 0, .int .i64 0, .int .i64 0, .int .i64 0, .int .i64 0, .int .i64 0, .str ⟨#[]⟩] : List S) 0 ([.int .i64 5] : List S)))).bind fun h560 =>
  (loadN 8 h560 (pv h.n 0)).bind fun c561 =>
  some (.agg c561, h560)
  else none)
  ((lenV (.sl 5) a0).bind fun v562 =>
  (idxS 1 a0 (iv .i64 5)).bind fun v563 =>
  (load1 ((h).new 0 [.int .i64 0, .int .i64 0, .int .i64 0, .int .i64 0, .int .i64 0, .int .i64 0, .int .i64 0, .str ⟨#[]⟩]) v563).bind fun x564 =>
  (cvI .i64 (.s x564)).bind fun v565 =>
  (bin Ev .add 3 (iv .i64 6) v565).bind fun b566 =>
  (bin Ev .neq 3 v562 b566).bind fun b567 =>
  vcase b567
  (if ([.int .i64 5] : List S).length = 1 ∧ 0 + 1 ≤ ([.int .i64 0, .int .i64 0, .int .i64 0, .int .i64 0, .int .i64 0, .int .i64 0, .int .i64 0, .str ⟨#[]⟩] : List S).length then
  (stV 8 ((h).new 0 [.int .i64 0, .int .i64 0, .int .i64 0, .int .i64 0, .int .i64 0, .int .i64 0, .int .i64 0, .str ⟨#[]⟩]) (pv h.n 0) (.agg (setAt ([.int .i64 0, .int .i64 0, .int .i64 0, .int .i64 0, .int .i64 0, .int .i64 0, .int .i64 0, .str ⟨#[]⟩] : List S) 0 ([.int .i64 5] : List S)))).bind fun h568 =>
  (loadN 8 h568 (pv h.n 0)).bind fun c569 =>
  some (.agg c569, h568)
  else none)
  ((idxS 1 a0 (iv .i64 1)).bind fun v570 =>
  (load1 ((h).new 0 [.int .i64 0, .int .i64 0, .int .i64 0, .int .i64 0, .int .i64 0, .int .i64 0, .int .i64 0, .str ⟨#[]⟩]) v570).bind fun x571 =>
  (cvI .i64 (.s x571)).bind fun v572 =>
  (idxS 1 a0 (iv .i64 2)).bind fun v573 =>
  (load1 ((h).new 0 [.int .i64 0, .int .i64 0, .int .i64 0, .int .i64 0, .int .i64 0, .int .i64 0, .int .i64 0, .str ⟨#[]⟩]) v573).bind fun x574 =>
  (cvI .i64 (.s x574)).bind fun v575 =>
  (idxS 1 a0 (iv .i64 3)).bind fun v576 =>
  (load1 ((h).new 0 [.int .i64 0, .int .i64 0, .int .i64 0, .int .i64 0, .int .i64 0, .int .i64 0, .int .i64 0, .str ⟨#[]⟩]) v576).bind fun x577 =>
  (cvI .i64 (.s x577)).bind fun v578 =>
  (bin Ev .shl 2 v578 (iv .u64 8)).bind fun b579 =>
  (idxS 1 a0 (iv .i64 4)).bind fun v580 =>
  (load1 ((h).new 0 [.int .i64 0, .int .i64 0, .int .i64 0, .int .i64 0, .int .i64 0, .int .i64 0, .int .i64 0, .str ⟨#[]⟩]) v580).bind fun x581 =>
  (cvI .i64 (.s x581)).bind fun v582 =>
  (bin Ev .or 2 b579 v582).bind fun b583 =>
  (slS 1 ((h).new 0 [.int .i64 0, .int .i64 0, .int .i64 0, .int .i64 0, .int .i64 0, .int .i64 0, .int .i64 0, .str ⟨#[]⟩]) a0 (some (iv .i64 6)) none).bind fun v584 =>
  (cvStr ((h).new 0 [.int .i64 0, .int .i64 0, .int .i64 0, .int .i64 0, .int .i64 0, .int .i64 0, .int .i64 0, .str ⟨#[]⟩]) v584).bind fun v585 =>
  (cellsOf v572).bind fun c586 =>
  if c586.length = 1 ∧ 0 + 1 ≤ ([.int .i64 0, .int .i64 0, .int .i64 0, .str ⟨#[]⟩] : List S).length then
  (cellsOf v575).bind fun c587 =>
  if c587.length = 1 ∧ 1 + 1 ≤ (setAt ([.int .i64 0, .int .i64 0, .int .i64 0, .str ⟨#[]⟩] : List S) 0 c586).length then
  (cellsOf b583).bind fun c588 =>
  if c588.length = 1 ∧ 2 + 1 ≤ (setAt (setAt ([.int .i64 0, .int .i64 0, .int .i64 0, .str ⟨#[]⟩] : List S) 0 c586) 1 c587).length then
  (cellsOf v585).bind fun c589 =>
  if c589.length = 1 ∧ 3 + 1 ≤ (setAt (setAt (setAt ([.int .i64 0, .int .i64 0, .int .i64 0, .str ⟨#[]⟩] : List S) 0 c586) 1 c587) 2 c588).length then
  hchk ((h).new 0 [.int .i64 0, .int .i64 0, .int .i64 0, .int .i64 0, .int .i64 0, .int .i64 0, .int .i64 0, .str ⟨#[]⟩]) (((h).new 0 [.int .i64 0, .int .i64 0, .int .i64 0, .int .i64 0, .int .i64 0, .int .i64 0, .int .i64 0, .str ⟨#[]⟩]).new 0 [.int .i64 0, .int .i64 0, .int .i64 0, .str ⟨#[]⟩]) (
  (stV 4 (((h).new 0 [.int .i64 0, .int .i64 0, .int .i64 0, .int .i64 0, .int .i64 0, .int .i64 0, .int .i64 0, .str ⟨#[]⟩]).new 0 [.int .i64 0, .int .i64 0, .int .i64 0, .str ⟨#[]⟩]) (pv (((h).new 0 [.int .i64 0, .int .i64 0, .int .i64 0, .int .i64 0, .int .i64 0, .int .i64 0, .int .i64 0, .str ⟨#[]⟩]).n) 0) (.agg (setAt (setAt (setAt (setAt ([.int .i64 0, .int .i64 0, .int .i64 0, .str ⟨#[]⟩] : List S) 0 c586) 1 c587) 2 c588) 3 c589))).bind fun h591 =>
  (loadN 4 h591 (pv (((h).new 0 [.int .i64 0, .int .i64 0, .int .i64 0, .int .i64 0, .int .i64 0, .int .i64 0, .int .i64 0, .str ⟨#[]⟩]).n) 0)).bind fun c592 =>
  (call Ev Fn.impl_RowFault [.agg c592] h591).bind fun p593 =>
  (bin Ev .neq 2 p593.1 (iv .i64 0)).bind fun b594 =>
  vcase b594
  (if ([.int .i64 5] : List S).length = 1 ∧ 0 + 1 ≤ ([.int .i64 0, .int .i64 0, .int .i64 0, .int .i64 0, .int .i64 0, .int .i64 0, .int .i64 0, .str ⟨#[]⟩] : List S).length then
  (stV 8 p593.2 (pv h.n 0) (.agg (setAt ([.int .i64 0, .int .i64 0, .int .i64 0, .int .i64 0, .int .i64 0, .int .i64 0, .int .i64 0, .str ⟨#[]⟩] : List S) 0 ([.int .i64 5] : List S)))).bind fun h595 =>
  (loadN 8 h595 (pv h.n 0)).bind fun c596 =>
  some (.agg c596, h595)
  else none)
  ((idxS 1 a0 (iv .i64 0)).bind fun v597 =>
  (load1 p593.2 v597).bind fun x598 =>
  (cvI .i64 (.s x598)).bind fun v599 =>
  (loadN 4 p593.2 (pv (((h).new 0 [.int .i64 0, .int .i64 0, .int .i64 0, .int .i64 0, .int .i64 0, .int .i64 0, .int .i64 0, .str ⟨#[]⟩]).n) 0)).bind fun c600 =>
  (cellsOf v599).bind fun c601 =>
  if c601.length = 1 ∧ 1 + 1 ≤ ([.int .i64 0, .int .i64 0, .int .i64 0, .int .i64 0, .int .i64 0, .int .i64 0, .int .i64 0, .str ⟨#[]⟩] : List S).length then
  if c600.length = 4 ∧ 4 + 4 ≤ (setAt ([.int .i64 0, .int .i64 0, .int .i64 0, .int .i64 0, .int .i64 0, .int .i64 0, .int .i64 0, .str ⟨#[]⟩] : List S) 1 c601).length then
  (stV 8 p593.2 (pv h.n 0) (.agg (setAt (setAt ([.int .i64 0, .int .i64 0, .int .i64 0, .int .i64 0, .int .i64 0, .int .i64 0, .int .i64 0, .str ⟨#[]⟩] : List S) 1 c601) 4 c600))).bind fun h602 =>
  (loadN 8 h602 (pv h.n 0)).bind fun c603 =>
  some (.agg c603, h602)
  else none
  else none))
  else none
  else none
  else none
  else none))
  (none))
  ((lenV (.sl 5) a0).bind fun v604 =>
  (idxS 1 a0 (iv .i64 5)).bind fun v605 =>
  (load1 ((h).new 0 [.int .i64 0, .int .i64 0, .int .i64 0, .int .i64 0, .int .i64 0, .int .i64 0, .int .i64 0, .str ⟨#[]⟩]) v605).bind fun x606 =>
  (cvI .i64 (.s x606)).bind fun v607 =>
  (bin Ev .add 3 (iv .i64 6) v607).bind fun b608 =>
  (bin Ev .neq 3 v604 b608).bind fun b609 =>
  vcase b609
  (if ([.int .i64 5] : List S).length = 1 ∧ 0 + 1 ≤ ([.int .i64 0, .int .i64 0, .int .i64 0, .int .i64 0, .int .i64 0, .int .i64 0, .int .i64 0, .str ⟨#[]⟩] : List S).length then
  (stV 8 ((h).new 0 [.int .i64 0, .int .i64 0, .int .i64 0, .int .i64 0, .int .i64 0, .int .i64 0, .int .i64 0, .str ⟨#[]⟩]) (pv h.n 0) (.agg (setAt ([.int .i64 0, .int .i64 0, .int .i64 0, .int .i64 0, .int .i64 0, .int .i64 0, .int .i64 0, .str ⟨#[]⟩] : List S) 0 ([.int .i64 5] : List S)))).bind fun h610 =>
  (loadN 8 h610 (pv h.n 0)).bind fun c611 =>
  some (.agg c611, h610)
  else none)
  ((idxS 1 a0 (iv .i64 1)).bind fun v612 =>
  (load1 ((h).new 0 [.int .i64 0, .int .i64 0, .int .i64 0, .int .i64 0, .int .i64 0, .int .i64 0, .int .i64 0, .str ⟨#[]⟩]) v612).bind fun x613 =>
  (cvI .i64 (.s x613)).bind fun v614 =>
  (idxS 1 a0 (iv .i64 2)).bind fun v615 =>
  (load1 ((h).new 0 [.int .i64 0, .int .i64 0, .int .i64 0, .int .i64 0, .int .i64 0, .int .i64 0, .int .i64 0, .str ⟨#[]⟩]) v615).bind fun x616 =>
  (cvI .i64 (.s x616)).bind fun v617 =>
  (idxS 1 a0 (iv .i64 3)).bind fun v618 =>
  (load1 ((h).new 0 [.int .i64 0, .int .i64 0, .int .i64 0, .int .i64 0, .int .i64 0, .int .i64 0, .int .i64 0, .str ⟨#[]⟩]) v618).bind fun x619 =>
  (cvI .i64 (.s x619)).bind fun v620 =>
  (bin Ev .shl 2 v620 (iv .u64 8)).bind fun b621 =>
  (idxS 1 a0 (iv .i64 4)).bind fun v622 =>
  (load1 ((h).new 0 [.int .i64 0, .int .i64 0, .int .i64 0, .int .i64 0, .int .i64 0, .int .i64 0, .int .i64 0, .str ⟨#[]⟩]) v622).bind fun x623 =>
  (cvI .i64 (.s x623)).bind fun v624 =>
  (bin Ev .or 2 b621 v624).bind fun b625 =>
  (slS 1 ((h).new 0 [.int .i64 0, .int .i64 0, .int .i64 0, .int .i64 0, .int .i64 0, .int .i64 0, .int .i64 0, .str ⟨#[]⟩]) a0 (some (iv .i64 6)) none).bind fun v626 =>
  (cvStr ((h).new 0 [.int .i64 0, .int .i64 0, .int .i64 0, .int .i64 0, .int .i64 0, .int .i64 0, .int .i64 0, .str ⟨#[]⟩]) v626).bind fun v627 =>
  (cellsOf v614).bind fun c628 =>
  if c628.length = 1 ∧ 0 + 1 ≤ ([.int .i64 0, .int .i64 0, .int .i64 0, .str ⟨#[]⟩] : List S).length then
  (cellsOf v617).bind fun c629 =>
  if c629.length = 1 ∧ 1 + 1 ≤ (setAt ([.int .i64 0, .int .i64 0, .int .i64 0, .str ⟨#[]⟩] : List S) 0 c628).length then
  (cellsOf b625).bind fun c630 =>
  if c630.length = 1 ∧ 2 + 1 ≤ (setAt (setAt ([.int .i64 0, .int .i64 0, .int .i64 0, .str ⟨#[]⟩] : List S) 0 c628) 1 c629).length then
  (cellsOf v627).bind fun c631 =>
  if c631.length = 1 ∧ 3 + 1 ≤ (setAt (setAt (setAt ([.int .i64 0, .int .i64 0, .int .i64 0, .str ⟨#[]⟩] : List S) 0 c628) 1 c629) 2 c630).length then
  hchk ((h).new 0 [.int .i64 0, .int .i64 0, .int .i64 0, .int .i64 0, .int .i64 0, .int .i64 0, .int .i64 0, .str ⟨#[]⟩]) (((h).new 0 [.int .i64 0, .int .i64 0, .int .i64 0, .int .i64 0, .int .i64 0, .int .i64 0, .int .i64 0, .str ⟨#[]⟩]).new 0 [.int .i64 0, .int .i64 0, .int .i64 0, .str ⟨#[]⟩]) (
  (stV 4 (((h).new 0 [.int .i64 0, .int .i64 0, .int .i64 0, .int .i64 0, .int .i64 0, .int .i64 0, .int .i64 0, .str ⟨#[]⟩]).new 0 [.int .i64 0, .int .i64 0, .int .i64 0, .str ⟨#[]⟩]) (pv (((h).new 0 [.int .i64 0, .int .i64 0, .int .i64 0, .int .i64 0, .int .i64 0, .int .i64 0, .int .i64 0, .str ⟨#[]⟩]).n) 0) (.agg (setAt (setAt (setAt (setAt ([.int .i64 0, .int .i64 0, .int .i64 0, .str ⟨#[]⟩] : List S) 0 c628) 1 c629) 2 c630) 3 c631))).bind fun h633 =>
  (loadN 4 h633 (pv (((h).new 0 [.int .i64 0, .int .i64 0, .int .i64 0, .int .i64 0, .int .i64 0, .int .i64 0, .int .i64 0, .str ⟨#[]⟩]).n) 0)).bind fun c634 =>
  (call Ev Fn.impl_RowFault [.agg c634] h633).bind fun p635 =>
  (bin Ev .neq 2 p635.1 (iv .i64 0)).bind fun b636 =>
  vcase b636
  (if ([.int .i64 5] : List S).length = 1 ∧ 0 + 1 ≤ ([.int .i64 0, .int .i64 0, .int .i64 0, .int .i64 0, .int .i64 0, .int .i64 0, .int .i64 0, .str ⟨#[]⟩] : List S).length then
  (stV 8 p635.2 (pv h.n 0) (.agg (setAt ([.int .i64 0, .int .i64 0, .int .i64 0, .int .i64 0, .int .i64 0, .int .i64 0, .int .i64 0, .str ⟨#[]⟩] : List S) 0 ([.int .i64 5] : List S)))).bind fun h637 =>
  (loadN 8 h637 (pv h.n 0)).bind fun c638 =>
  some (.agg c638, h637)
  else none)
  ((idxS 1 a0 (iv .i64 0)).bind fun v639 =>
  (load1 p635.2 v639).bind fun x640 =>
  (cvI .i64 (.s x640)).bind fun v641 =>
  (loadN 4 p635.2 (pv (((h).new 0 [.int .i64 0, .int .i64 0, .int .i64 0, .int .i64 0, .int .i64 0, .int .i64 0, .int .i64 0, .str ⟨#[]⟩]).n) 0)).bind fun c642 =>
  (cellsOf v641).bind fun c643 =>
  if c643.length = 1 ∧ 1 + 1 ≤ ([.int .i64 0, .int .i64 0, .int .i64 0, .int .i64 0, .int .i64 0, .int .i64 0, .int .i64 0, .str ⟨#[]⟩] : List S).length then
  if c642.length = 4 ∧ 4 + 4 ≤ (setAt ([.int .i64 0, .int .i64 0, .int .i64 0, .int .i64 0, .int .i64 0, .int .i64 0, .int .i64 0, .str ⟨#[]⟩] : List S) 1 c643).length then
  (stV 8 p635.2 (pv h.n 0) (.agg (setAt (setAt ([.int .i64 0, .int .i64 0, .int .i64 0, .int .i64 0, .int .i64 0, .int .i64 0, .int .i64 0, .str ⟨#[]⟩] : List S) 1 c643) 4 c642))).bind fun h644 =>
  (loadN 8 h644 (pv h.n 0)).bind fun c645 =>
  some (.agg c645, h644)
  else none
  else none))
  else none
  else none
  else none
  else none))
  (vcase (.tup [])
  (vcase (.tup [])
  (if ([.int .i64 5] : List S).length = 1 ∧ 0 + 1 ≤ ([.int .i64 0, .int .i64 0, .int .i64 0, .int .i64 0, .int .i64 0, .int .i64 0, .int .i64 0, .str ⟨#[]⟩] : List S).length then
  (stV 8 ((h).new 0 [.int .i64 0, .int .i64 0, .int .i64 0, .int .i64 0, .int .i64 0, .int .i64 0, .int .i64 0, .str ⟨#[]⟩]) (pv h.n 0) (.agg (setAt ([.int .i64 0, .int .i64 0, .int .i64 0, .int .i64 0, .int .i64 0, .int .i64 0, .int .i64 0, .str ⟨#[]⟩] : List S) 0 ([.int .i64 5] : List S)))).bind fun h646 =>
  (loadN 8 h646 (pv h.n 0)).bind fun c647 =>
  some (.agg c647, h646)
  else none)
  (vcase (.tup [])
  (if ([.int .i64 5] : List S).length = 1 ∧ 0 + 1 ≤ ([.int .i64 0, .int .i64 0, .int .i64 0, .int .i64 0, .int .i64 0, .int .i64 0, .int .i64 0, .str ⟨#[]⟩] : List S).length then
  (stV 8 ((h).new 0 [.int .i64 0, .int .i64 0, .int .i64 0, .int .i64 0, .int .i64 0, .int .i64 0, .int .i64 0, .str ⟨#[]⟩]) (pv h.n 0) (.agg (setAt ([.int .i64 0, .int .i64 0, .int .i64 0, .int .i64 0, .int .i64 0, .int .i64 0, .int .i64 0, .str ⟨#[]⟩] : List S) 0 ([.int .i64 5] : List S)))).bind fun h648 =>
  (loadN 8 h648 (pv h.n 0)).bind fun c649 =>
  some (.agg c649, h648)
  else none)
  ((idxS 1 a0 (iv .i64 1)).bind fun v650 =>
  (load1 ((h).new 0 [.int .i64 0, .int .i64 0, .int .i64 0, .int .i64 0, .int .i64 0, .int .i64 0, .int .i64 0, .str ⟨#[]⟩]) v650).bind fun x651 =>
  (cvI .i64 (.s x651)).bind fun v652 =>
  (idxS 1 a0 (iv .i64 2)).bind fun v653 =>
  (load1 ((h).new 0 [.int .i64 0, .int .i64 0, .int .i64 0, .int .i64 0, .int .i64 0, .int .i64 0, .int .i64 0, .str ⟨#[]⟩]) v653).bind fun x654 =>
  (cvI .i64 (.s x654)).bind fun v655 =>
  (idxS 1 a0 (iv .i64 3)).bind fun v656 =>
  (load1 ((h).new 0 [.int .i64 0, .int .i64 0, .int .i64 0, .int .i64 0, .int .i64 0, .int .i64 0, .int .i64 0, .str ⟨#[]⟩]) v656).bind fun x657 =>
  (cvI .i64 (.s x657)).bind fun v658 =>
  (bin Ev .shl 2 v658 (iv .u64 8)).bind fun b659 =>
  (idxS 1 a0 (iv .i64 4)).bind fun v660 =>
  (load1 ((h).new 0 [.int .i64 0, .int .i64 0, .int .i64 0, .int .i64 0, .int .i64 0, .int .i64 0, .int .i64 0, .str ⟨#[]⟩]) v660).bind fun x661 =>
  (cvI .i64 (.s x661)).bind fun v662 =>
  (bin Ev .or 2 b659 v662).bind fun b663 =>
  (slS 1 ((h).new 0 [.int .i64 0, .int .i64 0, .int .i64 0, .int .i64 0, .int .i64 0, .int .i64 0, .int .i64 0, .str ⟨#[]⟩]) a0 (some (iv .i64 6)) none).bind fun v664 =>
  (cvStr ((h).new 0 [.int .i64 0, .int .i64 0, .int .i64 0, .int .i64 0, .int .i64 0, .int .i64 0, .int .i64 0, .str ⟨#[]⟩]) v664).bind fun v665 =>
  (cellsOf v652).bind fun c666 =>
  if c666.length = 1 ∧ 0 + 1 ≤ ([.int .i64 0, .int .i64 0, .int .i64 0, .str ⟨#[]⟩] : List S).length then
  (cellsOf v655).bind fun c667 =>
  if c667.length = 1 ∧ 1 + 1 ≤ (setAt ([.int .i64 0, .int .i64 0, .int .i64 0, .str ⟨#[]⟩] : List S) 0 c666).length then
  (cellsOf b663).bind fun c668 =>
  if c668.length = 1 ∧ 2 + 1 ≤ (setAt (setAt ([.int .i64 0, .int .i64 0, .int .i64 0, .str ⟨#[]⟩] : List S) 0 c666) 1 c667).length then
  (cellsOf v665).bind fun c669 =>
  if c669.length = 1 ∧ 3 + 1 ≤ (setAt (setAt (setAt ([.int .i64 0, .int .i64 0, .int .i64 0, .str ⟨#[]⟩] : List S) 0 c666) 1 c667) 2 c668).length then
  hchk ((h).new 0 [.int .i64 0, .int .i64 0, .int .i64 0, .int .i64 0, .int .i64 0, .int .i64 0, .int .i64 0, .str ⟨#[]⟩]) (((h).new 0 [.int .i64 0, .int .i64 0, .int .i64 0, .int .i64 0, .int .i64 0, .int .i64 0, .int .i64 0, .str ⟨#[]⟩]).new 0 [.int .i64 0, .int .i64 0, .int .i64 0, .str ⟨#[]⟩]) (
  (stV 4 (((h).new 0 [.int .i64 0, .int .i64 0, .int .i64 0, .int .i64 0, .int .i64 0, .int .i64 0, .int .i64 0, .str ⟨#[]⟩]).new 0 [.int .i64 0, .int .i64 0, .int .i64 0, .str ⟨#[]⟩]) (pv (((h).new 0 [.int .i64 0, .int .i64 0, .int .i64 0, .int .i64 0, .int .i64 0, .int .i64 0, .int .i64 0, .str ⟨#[]⟩]).n) 0) (.agg (setAt (setAt (setAt (setAt ([.int .i64 0, .int .i64 0, .int .i64 0, .str ⟨#[]⟩] : List S) 0 c666) 1 c667) 2 c668) 3 c669))).bind fun h671 =>
  (loadN 4 h671 (pv (((h).new 0 [.int .i64 0, .int .i64 0, .int .i64 0, .int .i64 0, .int .i64 0, .int .i64 0, .int .i64 0, .str ⟨#[]⟩]).n) 0)).bind fun c672 =>
  (call Ev Fn.impl_RowFault [.agg c672] h671).bind fun p673 =>
  (bin Ev .neq 2 p673.1 (iv .i64 0)).bind fun b674 =>
  vcase b674
  (if ([.int .i64 5] : List S).length = 1 ∧ 0 + 1 ≤ ([.int .i64 0, .int .i64 0, .int .i64 0, .int .i64 0, .int .i64 0, .int .i64 0, .int .i64 0, .str ⟨#[]⟩] : List S).length then
  (stV 8 p673.2 (pv h.n 0) (.agg (setAt ([.int .i64 0, .int .i64 0, .int .i64 0, .int .i64 0, .int .i64 0, .int .i64 0, .int .i64 0, .str ⟨#[]⟩] : List S) 0 ([.int .i64 5] : List S)))).bind fun h675 =>
  (loadN 8 h675 (pv h.n 0)).bind fun c676 =>
  some (.agg c676, h675)
  else none)
  ((idxS 1 a0 (iv .i64 0)).bind fun v677 =>
  (load1 p673.2 v677).bind fun x678 =>
  (cvI .i64 (.s x678)).bind fun v679 =>
  (loadN 4 p673.2 (pv (((h).new 0 [.int .i64 0, .int .i64 0, .int .i64 0, .int .i64 0, .int .i64 0, .int .i64 0, .int .i64 0, .str ⟨#[]⟩]).n) 0)).bind fun c680 =>
  (cellsOf v679).bind fun c681 =>
  if c681.length = 1 ∧ 1 + 1 ≤ ([.int .i64 0, .int .i64 0, .int .i64 0, .int .i64 0, .int .i64 0, .int .i64 0, .int .i64 0, .str ⟨#[]⟩] : List S).length then
  if c680.length = 4 ∧ 4 + 4 ≤ (setAt ([.int .i64 0, .int .i64 0, .int .i64 0, .int .i64 0, .int .i64 0, .int .i64 0, .int .i64 0, .str ⟨#[]⟩] : List S) 1 c681).length then
  (stV 8 p673.2 (pv h.n 0) (.agg (setAt (setAt ([.int .i64 0, .int .i64 0, .int .i64 0, .int .i64 0, .int .i64 0, .int .i64 0, .int .i64 0, .str ⟨#[]⟩] : List S) 1 c681) 4 c680))).bind fun h682 =>
  (loadN 8 h682 (pv h.n 0)).bind fun c683 =>
  some (.agg c683, h682)
  else none
  else none))
  else none
  else none
  else none
  else none)))
  ((lenV (.sl 5) a0).bind fun v684 =>
  (idxS 1 a0 (iv .i64 5)).bind fun v685 =>
  (load1 ((h).new 0 [.int .i64 0, .int .i64 0, .int .i64 0, .int .i64 0, .int .i64 0, .int .i64 0, .int .i64 0, .str ⟨#[]⟩]) v685).bind fun x686 =>
  (cvI .i64 (.s x686)).bind fun v687 =>
  (bin Ev .add 3 (iv .i64 6) v687).bind fun b688 =>
  (bin Ev .neq 3 v684 b688).bind fun b689 =>
  vcase b689
  (if ([.int .i64 5] : List S).length = 1 ∧ 0 + 1 ≤ ([.int .i64 0, .int .i64 0, .int .i64 0, .int .i64 0, .int .i64 0, .int .i64 0, .int .i64 0, .str ⟨#[]⟩] : List S).length then
  (stV 8 ((h).new 0 [.int .i64 0, .int .i64 0, .int .i64 0, .int .i64 0, .int .i64 0, .int .i64 0, .int .i64 0, .str ⟨#[]⟩]) (pv h.n 0) (.agg (setAt ([.int .i64 0, .int .i64 0, .int .i64 0, .int .i64 0, .int .i64 0, .int .i64 0, .int .i64 0, .str ⟨#[]⟩] : List S) 0 ([.int .i64 5] : List S)))).bind fun h690 =>
  (loadN 8 h690 (pv h.n 0)).bind fun c691 =>
  some (.agg c691, h690)
  else none)
  ((idxS 1 a0 (iv .i64 1)).bind fun v692 =>
  (load1 ((h).new 0 [.int .i64 0, .int .i64 0, .int .i64 0, .int .i64 0, .int .i64 0, .int .i64 0, .int .i64 0, .str ⟨#[]⟩]) v692).bind fun x693 =>
  (cvI .i64 (.s x693)).bind fun v694 =>
  (idxS 1 a0 (iv .i64 2)).bind fun v695 =>
  (load1 ((h).new 0 [.int .i64 0, .int .i64 0, .int .i64 0, .int .i64 0, .int .i64 0, .int .i64 0, .int .i64 0, .str ⟨#[]⟩]) v695).bind fun x696 =>
  (cvI .i64 (.s x696)).bind fun v697 =>
  (idxS 1 a0 (iv .i64 3)).bind fun v698 =>
  (load1 ((h).new 0 [.int .i64 0, .int .i64 0, .int .i64 0, .int .i64 0, .int .i64 0, .int .i64 0, .int .i64 0, .str ⟨#[]⟩]) v698).bind fun x699 =>
  (cvI .i64 (.s x699)).bind fun v700 =>
  (bin Ev .shl 2 v700 (iv .u64 8)).bind fun b701 =>
  (idxS 1 a0 (iv .i64 4)).bind fun v702 =>
  (load1 ((h).new 0 [.int .i64 0, .int .i64 0, .int .i64 0, .int .i64 0, .int .i64 0, .int .i64 0, .int .i64 0, .str ⟨#[]⟩]) v702).bind fun x703 =>
  (cvI .i64 (.s x703)).bind fun v704 =>
  (bin Ev .or 2 b701 v704).bind fun b705 =>
  (slS 1 ((h).new 0 [.int .i64 0, .int .i64 0, .int .i64 0, .int .i64 0, .int .i64 0, .int .i64 0, .int .i64 0, .str ⟨#[]⟩]) a0 (some (iv .i64 6)) none).bind fun v706 =>
  (cvStr ((h).new 0 [.int .i64 0, .int .i64 0, .int .i64 0, .int .i64 0, .int .i64 0, .int .i64 0, .int .i64 0, .str ⟨#[]⟩]) v706).bind fun v707 =>
  (cellsOf v694).bind fun c708 =>
  if c708.length = 1 ∧ 0 + 1 ≤ ([.int .i64 0, .int .i64 0, .int .i64 0, .str ⟨#[]⟩] : List S).length then
  (cellsOf v697).bind fun c709 =>
  if c709.length = 1 ∧ 1 + 1 ≤ (setAt ([.int .i64 0, .int .i64 0, .int .i64 0, .str ⟨#[]⟩] : List S) 0 c708).length then
  (cellsOf b705).bind fun c710 =>
  if c710.length = 1 ∧ 2 + 1 ≤ (setAt (setAt ([.int .i64 0, .int .i64 0, .int .i64 0, .str ⟨#[]⟩] : List S) 0 c708) 1 c709).length then
  (cellsOf v707).bind fun c711 =>
  if c711.length = 1 ∧ 3 + 1 ≤ (setAt (setAt (setAt ([.int .i64 0, .int .i64 0, .int .i64 0, .str ⟨#[]⟩] : List S) 0 c708) 1 c709) 2 c710).length then
  hchk ((h).new 0 [.int .i64 0, .int .i64 0, .int .i64 0, .int .i64 0, .int .i64 0, .int .i64 0, .int .i64 0, .str ⟨#[]⟩]) (((h).new 0 [.int .i64 0, .int .i64 0, .int .i64 0, .int .i64 0, .int .i64 0, .int .i64 0, .int .i64 0, .str ⟨#[]⟩]).new 0 [.int .i64 0, .int .i64 0, .int .i64 0, .str ⟨#[]⟩]) (
  (stV 4 (((h).new 0 [.int .i64 0, .int .i64 0, .int .i64 0, .int .i64 0, .int .i64 0, .int .i64 0, .int .i64 0, .str ⟨#[]⟩]).new 0 [.int .i64 0, .int .i64 0, .int .i64 0, .str ⟨#[]⟩]) (pv (((h).new 0 [.int .i64 0, .int .i64 0, .int .i64 0, .int .i64 0, .int .i64 0, .int .i64 0, .int .i64 0, .str ⟨#[]⟩]).n) 0) (.agg (setAt (setAt (setAt (setAt ([.int .i64 0, .int .i64 0, .int .i64 0, .str ⟨#[]⟩] : List S) 0 c708) 1 c709) 2 c710) 3 c711))).bind fun h713 =>
  (loadN 4 h713 (pv (((h).new 0 [.int .i64 0, .int .i64 0, .int .i64 0, .int .i64 0, .int .i64 0, .int .i64 0, .int .i64 0, .str ⟨#[]⟩]).n) 0)).bind fun c714 =>
  (call Ev Fn.impl_RowFault [.agg c714] h713).bind fun p715 =>
  (bin Ev .neq 2 p715.1 (iv .i64 0)).bind fun b716 =>
  vcase b716
  (if ([.int .i64 5] : List S).length = 1 ∧ 0 + 1 ≤ ([.int .i64 0, .int .i64 0, .int .i64 0, .int .i64 0, .int .i64 0, .int .i64 0, .int .i64 0, .str ⟨#[]⟩] : List S).length then
  (stV 8 p715.2 (pv h.n 0) (.agg (setAt ([.int .i64 0, .int .i64 0, .int .i64 0, .int .i64 0, .int .i64 0, .int .i64 0, .int .i64 0, .str ⟨#[]⟩] : List S) 0 ([.int .i64 5] : List S)))).bind fun h717 =>
  (loadN 8 h717 (pv h.n 0)).bind fun c718 =>
  some (.agg c718, h717)
  else none)
  ((idxS 1 a0 (iv .i64 0)).bind fun v719 =>
  (load1 p715.2 v719).bind fun x720 =>
  (cvI .i64 (.s x720)).bind fun v721 =>
  (loadN 4 p715.2 (pv (((h).new 0 [.int .i64 0, .int .i64 0, .int .i64 0, .int .i64 0, .int .i64 0, .int .i64 0, .int .i64 0, .str ⟨#[]⟩]).n) 0)).bind fun c722 =>
  (cellsOf v721).bind fun c723 =>
  if c723.length = 1 ∧ 1 + 1 ≤ ([.int .i64 0, .int .i64 0, .int .i64 0, .int .i64 0, .int .i64 0, .int .i64 0, .int .i64 0, .str ⟨#[]⟩] : List S).length then
  if c722.length = 4 ∧ 4 + 4 ≤ (setAt ([.int .i64 0, .int .i64 0, .int .i64 0, .int .i64 0, .int .i64 0, .int .i64 0, .int .i64 0, .str ⟨#[]⟩] : List S) 1 c723).length then
  (stV 8 p715.2 (pv h.n 0) (.agg (setAt (setAt ([.int .i64 0, .int .i64 0, .int .i64 0, .int .i64 0, .int .i64 0, .int .i64 0, .int .i64 0, .str ⟨#[]⟩] : List S) 1 c723) 4 c722))).bind fun h724 =>
  (loadN 8 h724 (pv h.n 0)).bind fun c725 =>
  some (.agg c725, h724)
  else none
  else none))
  else none
  else none
  else none
  else none))))
  (none))
  (none) := by
  rw [call_eq]; kernel_rfl

theorem eq_laws_eqRow (a0 : List S) (a1 : List S) (h : H) : call Ev Fn.laws_eqRow [.agg a0, .agg a1] h =
  (load1 (((h).new 0 a0).new 0 a1) (pv h.n 0)).bind fun x1 =>
  (load1 (((h).new 0 a0).new 0 a1) (pv (((h).new 0 a0).n) 0)).bind fun x2 =>
  (bin Ev .neq 2 (.s x1) (.s x2)).bind fun b3 =>
  vcase b3
  (some (bv false, ((h).new 0 a0).new 0 a1))
  ((load1 (((h).new 0 a0).new 0 a1) (pv h.n 1)).bind fun x4 =>
  (load1 (((h).new 0 a0).new 0 a1) (pv (((h).new 0 a0).n) 1)).bind fun x5 =>
  (bin Ev .neq 2 (.s x4) (.s x5)).bind fun b6 =>
  vcase b6
  (some (bv false, ((h).new 0 a0).new 0 a1))
  ((load1 (((h).new 0 a0).new 0 a1) (pv h.n 2)).bind fun x7 =>
  (load1 (((h).new 0 a0).new 0 a1) (pv (((h).new 0 a0).n) 2)).bind fun x8 =>
  (bin Ev .neq 2 (.s x7) (.s x8)).bind fun b9 =>
  vcase b9
  (some (bv false, ((h).new 0 a0).new 0 a1))
  ((load1 (((h).new 0 a0).new 0 a1) (pv h.n 3)).bind fun x10 =>
  (load1 (((h).new 0 a0).new 0 a1) (pv (((h).new 0 a0).n) 3)).bind fun x11 =>
  (bin Ev .neq 9 (.s x10) (.s x11)).bind fun b12 =>
  vcase b12
  (some (bv false, ((h).new 0 a0).new 0 a1))
  (some (bv true, ((h).new 0 a0).new 0 a1))))) := by
  rw [call_eq]; kernel_rfl

theorem eq_laws_eqCellResult (a0 : List S) (a1 : List S) (h : H) : call Ev Fn.laws_eqCellResult [.agg a0, .agg a1] h =
  (load1 (((h).new 0 a0).new 0 a1) (pv h.n 0)).bind fun x1 =>
  (load1 (((h).new 0 a0).new 0 a1) (pv (((h).new 0 a0).n) 0)).bind fun x2 =>
  (bin Ev .neq 2 (.s x1) (.s x2)).bind fun b3 =>
  vcase b3
  (some (bv false, ((h).new 0 a0).new 0 a1))
  ((load1 (((h).new 0 a0).new 0 a1) (pv h.n 1)).bind fun x4 =>
  (load1 (((h).new 0 a0).new 0 a1) (pv (((h).new 0 a0).n) 1)).bind fun x5 =>
  (bin Ev .neq 2 (.s x4) (.s x5)).bind fun b6 =>
  vcase b6
  (some (bv false, ((h).new 0 a0).new 0 a1))
  ((load1 (((h).new 0 a0).new 0 a1) (pv h.n 2)).bind fun x7 =>
  (load1 (((h).new 0 a0).new 0 a1) (pv (((h).new 0 a0).n) 2)).bind fun x8 =>
  (bin Ev .neq 2 (.s x7) (.s x8)).bind fun b9 =>
  vcase b9
  (some (bv false, ((h).new 0 a0).new 0 a1))
  ((load1 (((h).new 0 a0).new 0 a1) (pv h.n 3)).bind fun x10 =>
  (load1 (((h).new 0 a0).new 0 a1) (pv (((h).new 0 a0).n) 3)).bind fun x11 =>
  (bin Ev .neq 2 (.s x10) (.s x11)).bind fun b12 =>
  vcase b12
  (some (bv false, ((h).new 0 a0).new 0 a1))
  ((loadN 4 (((h).new 0 a0).new 0 a1) (pv h.n 4)).bind fun c13 =>
  (loadN 4 (((h).new 0 a0).new 0 a1) (pv (((h).new 0 a0).n) 4)).bind fun c14 =>
  (call Ev Fn.laws_eqRow [.agg c13, .agg c14] (((h).new 0 a0).new 0 a1)).bind fun p15 =>
  (unNot p15.1).bind fun v16 =>
  vcase v16
  (some (bv false, p15.2))
  (some (bv true, p15.2)))))) := by
  rw [call_eq]; kernel_rfl

theorem eq_laws_FnExactUnpackCell (a0 : V) (h : H) : call Ev Fn.laws_FnExactUnpackCell [a0] h =
  (lenV (.sl 5) a0).bind fun v1 =>
  (bin Ev .gtr 3 v1 (iv .i64 1048576)).bind fun b2 =>
  vcase b2
  (some (bv true, h))
  ((call Ev Fn.laws_toByteS [a0] h).bind fun p3 =>
  (call Ev Fn.spec_UnpackCell [p3.1] p3.2).bind fun p4 =>
  (stV 8 ((p4.2).new 0 [.int .i64 0, .int .i64 0, .int .i64 0, .int .i64 0, .int .i64 0, .int .i64 0, .int .i64 0, .str ⟨#[]⟩]) (pv p4.2.n 0) p4.1).bind fun h5 =>
  (call Ev Fn.laws_toByteS [a0] h5).bind fun p6 =>
  (call Ev Fn.impl_UnpackCell [p6.1] p6.2).bind fun p7 =>
  (stV 8 ((p7.2).new 0 [.int .i64 0, .int .i64 0, .int .i64 0, .int .i64 0, .int .i64 0, .int .i64 0, .int .i64 0, .str ⟨#[]⟩]) (pv p7.2.n 0) p7.1).bind fun h8 =>
  (loadN 8 h8 (pv p7.2.n 0)).bind fun c9 =>
  (loadN 8 h8 (pv p4.2.n 0)).bind fun c10 =>
  (call Ev Fn.laws_eqCellResult [.agg c9, .agg c10] h8).bind fun p11 =>
  (unNot p11.1).bind fun v12 =>
  vcase v12
  (some (bv false, p11.2))
  ((call Ev Fn.laws_toByteS [a0] p11.2).bind fun p13 =>
  (call Ev Fn.laws_eqByteS [p6.1, p13.1] p13.2).bind fun p14 =>
  (unNot p14.1).bind fun v15 =>
  vcase v15
  (some (bv false, p14.2))
  (some (bv true, p14.2)))) := by
  rw [call_eq]; kernel_rfl

theorem eq_spec_l1Cell (a0 : Int) (a1 : V) (h : H) : call Ev Fn.spec_l1Cell [iv .i64 a0, a1] h =
  (notNil a1).bind fun v1 =>
  (padd 0 v1).bind fun v2 =>
  (load1 h v2).bind fun x3 =>
  (cvI .u8 (.s x3)).bind fun v4 =>
  (notNil a1).bind fun v5 =>
  (padd 1 v5).bind fun v6 =>
  (load1 h v6).bind fun x7 =>
  (cvI .u8 (.s x7)).bind fun v8 =>
  (notNil a1).bind fun v9 =>
  (padd 2 v9).bind fun v10 =>
  (load1 h v10).bind fun x11 =>
  (bin Ev .quo 2 (.s x11) (iv .i64 256)).bind fun b12 =>
  (cvI .u8 b12).bind fun v13 =>
  (notNil a1).bind fun v14 =>
  (padd 2 v14).bind fun v15 =>
  (load1 h v15).bind fun x16 =>
  (bin Ev .rem 2 (.s x16) (iv .i64 256)).bind fun b17 =>
  (cvI .u8 b17).bind fun v18 =>
  (notNil a1).bind fun v19 =>
  (padd 3 v19).bind fun v20 =>
  (load1 h v20).bind fun x21 =>
  (lenV .str (.s x21)).bind fun v22 =>
  (cvI .u8 v22).bind fun v23 =>
  if ([.int .u8 (IntKind.u8.wrap a0)] : List S).length = 1 ∧ 0 + 1 ≤ ([.int .u8 0, .int .u8 0, .int .u8 0, .int .u8 0, .int .u8 0, .int .u8 0] : List S).length then
  (cellsOf v4).bind fun c24 =>
  if c24.length = 1 ∧ 1 + 1 ≤ (setAt ([.int .u8 0, .int .u8 0, .int .u8 0, .int .u8 0, .int .u8 0, .int .u8 0] : List S) 0 ([.int .u8 (IntKind.u8.wrap a0)] : List S)).length then
  (cellsOf v8).bind fun c25 =>
  if c25.length = 1 ∧ 2 + 1 ≤ (setAt (setAt ([.int .u8 0, .int .u8 0, .int .u8 0, .int .u8 0, .int .u8 0, .int .u8 0] : List S) 0 ([.int .u8 (IntKind.u8.wrap a0)] : List S)) 1 c24).length then
  (cellsOf v13).bind fun c26 =>
  if c26.length = 1 ∧ 3 + 1 ≤ (setAt (setAt (setAt ([.int .u8 0, .int .u8 0, .int .u8 0, .int .u8 0, .int .u8 0, .int .u8 0] : List S) 0 ([.int .u8 (IntKind.u8.wrap a0)] : List S)) 1 c24) 2 c25).length then
  (cellsOf v18).bind fun c27 =>
  if c27.length = 1 ∧ 4 + 1 ≤ (setAt (setAt (setAt (setAt ([.int .u8 0, .int .u8 0, .int .u8 0, .int .u8 0, .int .u8 0, .int .u8 0] : List S) 0 ([.int .u8 (IntKind.u8.wrap a0)] : List S)) 1 c24) 2 c25) 3 c26).length then
  (cellsOf v23).bind fun c28 =>
  if c28.length = 1 ∧ 5 + 1 ≤ (setAt (setAt (setAt (setAt (setAt ([.int .u8 0, .int .u8 0, .int .u8 0, .int .u8 0, .int .u8 0, .int .u8 0] : List S) 0 ([.int .u8 (IntKind.u8.wrap a0)] : List S)) 1 c24) 2 c25) 3 c26) 4 c27).length then
  hchk h ((h).new 1 (setAt (setAt (setAt (setAt (setAt (setAt ([.int .u8 0, .int .u8 0, .int .u8 0, .int .u8 0, .int .u8 0, .int .u8 0] : List S) 0 ([.int .u8 (IntKind.u8.wrap a0)] : List S)) 1 c24) 2 c25) 3 c26) 4 c27) 5 c28)) (
  (notNil a1).bind fun v29 =>
  (padd 3 v29).bind fun v30 =>
  (load1 ((h).new 1 (setAt (setAt (setAt (setAt (setAt (setAt ([.int .u8 0, .int .u8 0, .int .u8 0, .int .u8 0, .int .u8 0, .int .u8 0] : List S) 0 ([.int .u8 (IntKind.u8.wrap a0)] : List S)) 1 c24) 2 c25) 3 c26) 4 c27) 5 c28)) v30).bind fun x31 =>
  (cvBytes ((h).new 1 (setAt (setAt (setAt (setAt (setAt (setAt ([.int .u8 0, .int .u8 0, .int .u8 0, .int .u8 0, .int .u8 0, .int .u8 0] : List S) 0 ([.int .u8 (IntKind.u8.wrap a0)] : List S)) 1 c24) 2 c25) 3 c26) 4 c27) 5 c28)) (.s x31)).bind fun p32 =>
  (appS 1 p32.2 (sv h.n 0 6) p32.1).bind fun p33 =>
  some (p33.1, p33.2))
  else none
  else none
  else none
  else none
  else none
  else none := by
  rw [call_eq]; kernel_rfl

theorem eq_spec_PackRow (a0 : Int) (a1 : List S) (h : H) : call Ev Fn.spec_PackRow [iv .i64 a0, .agg a1] h =
  vcase (bv (a0 != 0))
  (vcase (bv (a0 != 2))
  (if ([.int .i64 1] : List S).length = 1 ∧ 0 + 1 ≤ ([.int .i64 0, .sl none 0] : List S).length then
  (stV 2 (((h).new 0 a1).new 0 [.int .i64 0, .sl none 0]) (pv (((h).new 0 a1).n) 0) (.agg (setAt ([.int .i64 0, .sl none 0] : List S) 0 ([.int .i64 1] : List S)))).bind fun h1 =>
  (loadN 2 h1 (pv (((h).new 0 a1).n) 0)).bind fun c2 =>
  some (.agg c2, h1)
  else none)
  ((call Ev Fn.spec_l1Fault [pv h.n 0] (((h).new 0 a1).new 0 [.int .i64 0, .sl none 0])).bind fun p3 =>
  (bin Ev .neq 2 p3.1 (iv .i64 0)).bind fun b4 =>
  vcase b4
  ((cellsOf p3.1).bind fun c5 =>
  if c5.length = 1 ∧ 0 + 1 ≤ ([.int .i64 0, .sl none 0] : List S).length then
  (stV 2 p3.2 (pv (((h).new 0 a1).n) 0) (.agg (setAt ([.int .i64 0, .sl none 0] : List S) 0 c5))).bind fun h6 =>
  (loadN 2 h6 (pv (((h).new 0 a1).n) 0)).bind fun c7 =>
  some (.agg c7, h6)
  else none)
  ((call Ev Fn.spec_l1Cell [iv .i64 a0, pv h.n 0] p3.2).bind fun p8 =>
  (cellsOf p8.1).bind fun c9 =>
  if c9.length = 1 ∧ 1 + 1 ≤ ([.int .i64 0, .sl none 0] : List S).length then
  (stV 2 p8.2 (pv (((h).new 0 a1).n) 0) (.agg (setAt ([.int .i64 0, .sl none 0] : List S) 1 c9))).bind fun h10 =>
  (loadN 2 h10 (pv (((h).new 0 a1).n) 0)).bind fun c11 =>
  some (.agg c11, h10)
  else none)))
  ((call Ev Fn.spec_l1Fault [pv h.n 0] (((h).new 0 a1).new 0 [.int .i64 0, .sl none 0])).bind fun p12 =>
  (bin Ev .neq 2 p12.1 (iv .i64 0)).bind fun b13 =>
  vcase b13
  ((cellsOf p12.1).bind fun c14 =>
  if c14.length = 1 ∧ 0 + 1 ≤ ([.int .i64 0, .sl none 0] : List S).length then
  (stV 2 p12.2 (pv (((h).new 0 a1).n) 0) (.agg (setAt ([.int .i64 0, .sl none 0] : List S) 0 c14))).bind fun h15 =>
  (loadN 2 h15 (pv (((h).new 0 a1).n) 0)).bind fun c16 =>
  some (.agg c16, h15)
  else none)
  ((call Ev Fn.spec_l1Cell [iv .i64 a0, pv h.n 0] p12.2).bind fun p17 =>
  (cellsOf p17.1).bind fun c18 =>
  if c18.length = 1 ∧ 1 + 1 ≤ ([.int .i64 0, .sl none 0] : List S).length then
  (stV 2 p17.2 (pv (((h).new 0 a1).n) 0) (.agg (setAt ([.int .i64 0, .sl none 0] : List S) 1 c18))).bind fun h19 =>
  (loadN 2 h19 (pv (((h).new 0 a1).n) 0)).bind fun c20 =>
  some (.agg c20, h19)
  else none)) := by
  rw [call_eq]; kernel_rfl

theorem eq_impl_cell (a0 : Int) (a1 : List S) (h : H) : call Ev Fn.impl_cell [iv .i64 a0, .agg a1] h =
  (load1 ((h).new 0 a1) (pv h.n 0)).bind fun x1 =>
  (cvI .u8 (.s x1)).bind fun v2 =>
  (load1 ((h).new 0 a1) (pv h.n 1)).bind fun x3 =>
  (cvI .u8 (.s x3)).bind fun v4 =>
  (load1 ((h).new 0 a1) (pv h.n 2)).bind fun x5 =>
  (bin Ev .shr 2 (.s x5) (iv .u64 8)).bind fun b6 =>
  (cvI .u8 b6).bind fun v7 =>
  (load1 ((h).new 0 a1) (pv h.n 2)).bind fun x8 =>
  (cvI .u8 (.s x8)).bind fun v9 =>
  (load1 ((h).new 0 a1) (pv h.n 3)).bind fun x10 =>
  (lenV .str (.s x10)).bind fun v11 =>
  (cvI .u8 v11).bind fun v12 =>
  if ([.int .u8 (IntKind.u8.wrap a0)] : List S).length = 1 ∧ 0 + 1 ≤ ([.int .u8 0, .int .u8 0, .int .u8 0, .int .u8 0, .int .u8 0, .int .u8 0] : List S).length then
  (cellsOf v2).bind fun c13 =>
  if c13.length = 1 ∧ 1 + 1 ≤ (setAt ([.int .u8 0, .int .u8 0, .int .u8 0, .int .u8 0, .int .u8 0, .int .u8 0] : List S) 0 ([.int .u8 (IntKind.u8.wrap a0)] : List S)).length then
  (cellsOf v4).bind fun c14 =>
  if c14.length = 1 ∧ 2 + 1 ≤ (setAt (setAt ([.int .u8 0, .int .u8 0, .int .u8 0, .int .u8 0, .int .u8 0, .int .u8 0] : List S) 0 ([.int .u8 (IntKind.u8.wrap a0)] : List S)) 1 c13).length then
  (cellsOf v7).bind fun c15 =>
  if c15.length = 1 ∧ 3 + 1 ≤ (setAt (setAt (setAt ([.int .u8 0, .int .u8 0, .int .u8 0, .int .u8 0, .int .u8 0, .int .u8 0] : List S) 0 ([.int .u8 (IntKind.u8.wrap a0)] : List S)) 1 c13) 2 c14).length then
  (cellsOf v9).bind fun c16 =>
  if c16.length = 1 ∧ 4 + 1 ≤ (setAt (setAt (setAt (setAt ([.int .u8 0, .int .u8 0, .int .u8 0, .int .u8 0, .int .u8 0, .int .u8 0] : List S) 0 ([.int .u8 (IntKind.u8.wrap a0)] : List S)) 1 c13) 2 c14) 3 c15).length then
  (cellsOf v12).bind fun c17 =>
  if c17.length = 1 ∧ 5 + 1 ≤ (setAt (setAt (setAt (setAt (setAt ([.int .u8 0, .int .u8 0, .int .u8 0, .int .u8 0, .int .u8 0, .int .u8 0] : List S) 0 ([.int .u8 (IntKind.u8.wrap a0)] : List S)) 1 c13) 2 c14) 3 c15) 4 c16).length then
  (load1 (((h).new 0 a1).new 1 (setAt (setAt (setAt (setAt (setAt (setAt ([.int .u8 0, .int .u8 0, .int .u8 0, .int .u8 0, .int .u8 0, .int .u8 0] : List S) 0 ([.int .u8 (IntKind.u8.wrap a0)] : List S)) 1 c13) 2 c14) 3 c15) 4 c16) 5 c17)) (pv h.n 3)).bind fun x18 =>
  (appS 1 (((h).new 0 a1).new 1 (setAt (setAt (setAt (setAt (setAt (setAt ([.int .u8 0, .int .u8 0, .int .u8 0, .int .u8 0, .int .u8 0, .int .u8 0] : List S) 0 ([.int .u8 (IntKind.u8.wrap a0)] : List S)) 1 c13) 2 c14) 3 c15) 4 c16) 5 c17)) (sv (((h).new 0 a1).n) 0 6) (.s x18)).bind fun p19 =>
  some (p19.1, p19.2)
  else none
  else none
  else none
  else none
  else none
  else none := by
  rw [call_eq]; kernel_rfl

theorem eq_impl_PackRow (a0 : Int) (a1 : List S) (h : H) : call Ev Fn.impl_PackRow [iv .i64 a0, .agg a1] h =
  vcase (bv (a0 != 0))
  (vcase (bv (a0 != 2))
  (if ([.int .i64 1] : List S).length = 1 ∧ 0 + 1 ≤ ([.int .i64 0, .sl none 0] : List S).length then
  (stV 2 (((h).new 0 a1).new 0 [.int .i64 0, .sl none 0]) (pv (((h).new 0 a1).n) 0) (.agg (setAt ([.int .i64 0, .sl none 0] : List S) 0 ([.int .i64 1] : List S)))).bind fun h1 =>
  (loadN 2 h1 (pv (((h).new 0 a1).n) 0)).bind fun c2 =>
  some (.agg c2, h1)
  else none)
  ((loadN 4 (((h).new 0 a1).new 0 [.int .i64 0, .sl none 0]) (pv h.n 0)).bind fun c3 =>
  (call Ev Fn.impl_RowFault [.agg c3] (((h).new 0 a1).new 0 [.int .i64 0, .sl none 0])).bind fun p4 =>
  (bin Ev .neq 2 p4.1 (iv .i64 0)).bind fun b5 =>
  vcase b5
  ((cellsOf p4.1).bind fun c6 =>
  if c6.length = 1 ∧ 0 + 1 ≤ ([.int .i64 0, .sl none 0] : List S).length then
  (stV 2 p4.2 (pv (((h).new 0 a1).n) 0) (.agg (setAt ([.int .i64 0, .sl none 0] : List S) 0 c6))).bind fun h7 =>
  (loadN 2 h7 (pv (((h).new 0 a1).n) 0)).bind fun c8 =>
  some (.agg c8, h7)
  else none)
  ((loadN 4 p4.2 (pv h.n 0)).bind fun c9 =>
  (call Ev Fn.impl_cell [iv .i64 a0, .agg c9] p4.2).bind fun p10 =>
  (cellsOf p10.1).bind fun c11 =>
  if c11.length = 1 ∧ 1 + 1 ≤ ([.int .i64 0, .sl none 0] : List S).length then
  (stV 2 p10.2 (pv (((h).new 0 a1).n) 0) (.agg (setAt ([.int .i64 0, .sl none 0] : List S) 1 c11))).bind fun h12 =>
  (loadN 2 h12 (pv (((h).new 0 a1).n) 0)).bind fun c13 =>
  some (.agg c13, h12)
  else none)))
  ((loadN 4 (((h).new 0 a1).new 0 [.int .i64 0, .sl none 0]) (pv h.n 0)).bind fun c14 =>
  (call Ev Fn.impl_RowFault [.agg c14] (((h).new 0 a1).new 0 [.int .i64 0, .sl none 0])).bind fun p15 =>
  (bin Ev .neq 2 p15.1 (iv .i64 0)).bind fun b16 =>
  vcase b16
  ((cellsOf p15.1).bind fun c17 =>
  if c17.length = 1 ∧ 0 + 1 ≤ ([.int .i64 0, .sl none 0] : List S).length then
  (stV 2 p15.2 (pv (((h).new 0 a1).n) 0) (.agg (setAt ([.int .i64 0, .sl none 0] : List S) 0 c17))).bind fun h18 =>
  (loadN 2 h18 (pv (((h).new 0 a1).n) 0)).bind fun c19 =>
  some (.agg c19, h18)
  else none)
  ((loadN 4 p15.2 (pv h.n 0)).bind fun c20 =>
  (call Ev Fn.impl_cell [iv .i64 a0, .agg c20] p15.2).bind fun p21 =>
  (cellsOf p21.1).bind fun c22 =>
  if c22.length = 1 ∧ 1 + 1 ≤ ([.int .i64 0, .sl none 0] : List S).length then
  (stV 2 p21.2 (pv (((h).new 0 a1).n) 0) (.agg (setAt ([.int .i64 0, .sl none 0] : List S) 1 c22))).bind fun h23 =>
  (loadN 2 h23 (pv (((h).new 0 a1).n) 0)).bind fun c24 =>
  some (.agg c24, h23)
  else none)) := by
  rw [call_eq]; kernel_rfl

theorem eq_laws_FnExactPackRow (a0 : Int) (a1 : List S) (h : H) : call Ev Fn.laws_FnExactPackRow [iv .i64 a0, .agg a1] h =
  (loadN 4 ((h).new 0 a1) (pv h.n 0)).bind fun c1 =>
  (call Ev Fn.laws_szRow [.agg c1, iv .i64 1048576] ((h).new 0 a1)).bind fun p2 =>
  (bin Ev .lss 3 p2.1 (iv .i64 0)).bind fun b3 =>
  vcase b3
  (some (bv true, p2.2))
  ((loadN 4 p2.2 (pv h.n 0)).bind fun c4 =>
  (call Ev Fn.laws_toRow [.agg c4] p2.2).bind fun p5 =>
  (call Ev Fn.spec_PackRow [iv .i64 a0, p5.1] p5.2).bind fun p6 =>
  (stV 2 ((p6.2).new 0 [.int .i64 0, .sl none 0]) (pv p6.2.n 0) p6.1).bind fun h7 =>
  (loadN 4 h7 (pv h.n 0)).bind fun c8 =>
  (call Ev Fn.laws_toRow [.agg c8] h7).bind fun p9 =>
  (call Ev Fn.impl_PackRow [iv .i64 a0, p9.1] p9.2).bind fun p10 =>
  (stV 2 ((p10.2).new 0 [.int .i64 0, .sl none 0]) (pv p10.2.n 0) p10.1).bind fun h11 =>
  (loadN 2 h11 (pv p10.2.n 0)).bind fun c12 =>
  (loadN 2 h11 (pv p6.2.n 0)).bind fun c13 =>
  (call Ev Fn.laws_eqBytesResult [.agg c12, .agg c13] h11).bind fun p14 =>
  (unNot p14.1).bind fun v15 =>
  vcase v15
  (some (bv false, p14.2))
  ((loadN 2 p14.2 (pv p10.2.n 0)).bind fun c16 =>
  (call Ev Fn.laws_markBytesResult [.agg c16, iv .i64 1] p14.2).bind fun p17 =>
  (loadN 2 p17.2 (pv p10.2.n 0)).bind fun c18 =>
  (call Ev Fn.laws_heldBytesResult [.agg c18, iv .i64 1] p17.2).bind fun p19 =>
  (bin Ev .lss 3 p19.1 (iv .i64 0)).bind fun b20 =>
  vcase b20
  (some (bv false, p19.2))
  ((bin Ev .neq 3 p19.1 p17.1).bind fun b21 =>
  vcase b21
  (some (bv false, p19.2))
  ((loadN 4 p19.2 (pv h.n 0)).bind fun c22 =>
  (call Ev Fn.laws_toRow [.agg c22] p19.2).bind fun p23 =>
  (call Ev Fn.impl_PackRow [iv .i64 a0, p23.1] p23.2).bind fun p24 =>
  (stV 2 ((p24.2).new 0 [.int .i64 0, .sl none 0]) (pv p24.2.n 0) p24.1).bind fun h25 =>
  (loadN 2 h25 (pv p24.2.n 0)).bind fun c26 =>
  (loadN 2 h25 (pv p6.2.n 0)).bind fun c27 =>
  (call Ev Fn.laws_eqBytesResult [.agg c26, .agg c27] h25).bind fun p28 =>
  (unNot p28.1).bind fun v29 =>
  vcase v29
  (some (bv false, p28.2))
  ((loadN 2 p28.2 (pv p10.2.n 0)).bind fun c30 =>
  (call Ev Fn.laws_heldBytesResult [.agg c30, iv .i64 1] p28.2).bind fun p31 =>
  (bin Ev .lss 3 p31.1 (iv .i64 0)).bind fun b32 =>
  vcase b32
  (some (bv false, p31.2))
  ((bin Ev .neq 3 p31.1 p17.1).bind fun b33 =>
  vcase b33
  (some (bv false, p31.2))
  (some (bv true, p31.2)))))))) := by
  rw [call_eq]; kernel_rfl

theorem eq_laws_szRowS (a0 : V) (a1 : Int) (h : H) : call Ev Fn.laws_szRowS [a0, iv .i64 a1] h =
  (lenV (.sl 24) a0).bind fun v1 =>
  (bin Ev .sub 3 (iv .i64 a1) v1).bind fun b2 =>
  (bin Ev .lss 3 b2 (iv .i64 0)).bind fun b3 =>
  vcase b3
  (some (iv .i64 (-1), h))
  ((Lp.laws_szRowS 0 [a0, b2, iv .i64 0] h).bind fun o4 => lcase o4 (fun l5 h6 =>
  (l5[0]?).bind fun w9 =>
  some (w9, h6)) (fun v7 h8 =>
  some (v7, h8))) := by
  rw [call_eq]; kernel_rfl

theorem eq_laws_szRowS_l0 (s0 : V) (s1 : Int) (s5 : Int) (h : H) : Lp.laws_szRowS 0 [s0, iv .i64 s1, iv .i64 s5] h =
  (lenV (.sl 24) s0).bind fun v1 =>
  (bin Ev .lss 3 (iv .i64 s5) v1).bind fun b2 =>
  vcase b2
  ((idxS 4 s0 (iv .i64 s5)).bind fun v3 =>
  (loadN 4 h v3).bind fun c4 =>
  (call Ev Fn.laws_szRow [.agg c4, iv .i64 s1] h).bind fun p5 =>
  (bin Ev .lss 3 p5.1 (iv .i64 0)).bind fun b6 =>
  vcase b6
  (some (.ret (iv .i64 (-1)) p5.2))
  (Lp.laws_szRowS 0 [s0, p5.1, iv .i64 (IntKind.i64.wrap (s5 + 1))] p5.2))
  (some (.done [iv .i64 s1] h)) := by
  unfold Lp.laws_szRowS; rw [loop_eq]; kernel_rfl

theorem eq_spec_l6Rows (a0 : V) (h : H) : call Ev Fn.spec_l6Rows [a0] h =
  (lenV (.sl 27) a0).bind fun v1 =>
  (bin Ev .gtr 3 v1 (iv .i64 60)).bind fun b2 =>
  vcase b2
  (some (iv .i64 2, h))
  ((Lp.spec_l6Rows 0 [a0, iv .i64 0] h).bind fun o3 => lcase o3 (fun l4 h5 =>
  some (iv .i64 0, h5)) (fun v6 h7 =>
  some (v6, h7))) := by
  rw [call_eq]; kernel_rfl

theorem eq_spec_l6Rows_l0 (s0 : V) (s3 : Int) (h : H) : Lp.spec_l6Rows 0 [s0, iv .i64 s3] h =
  (lenV (.sl 27) s0).bind fun v1 =>
  (bin Ev .lss 3 (iv .i64 s3) v1).bind fun b2 =>
  vcase b2
  ((idxS 4 s0 (iv .i64 s3)).bind fun v3 =>
  (call Ev Fn.spec_l1Fault [v3] h).bind fun p4 =>
  (bin Ev .neq 2 p4.1 (iv .i64 0)).bind fun b5 =>
  vcase b5
  (some (.ret p4.1 p4.2))
  (vcase (bv (decide (s3 > 0)))
  ((idxS 4 s0 (iv .i64 (IntKind.i64.wrap (s3 - 1)))).bind fun v6 =>
  (idxS 4 s0 (iv .i64 s3)).bind fun v7 =>
  (call Ev Fn.spec_l1Before [v6, v7] p4.2).bind fun p8 =>
  hchk p4.2 p8.2 (
  (unNot p8.1).bind fun v9 =>
  vcase v9
  (some (.ret (iv .i64 1) p8.2))
  (Lp.spec_l6Rows 0 [s0, iv .i64 (IntKind.i64.wrap (s3 + 1))] p8.2)))
  (hchk p4.2 p4.2 (
  Lp.spec_l6Rows 0 [s0, iv .i64 (IntKind.i64.wrap (s3 + 1))] p4.2))))
  (some (.done [] h)) := by
  unfold Lp.spec_l6Rows; rw [loop_eq]; kernel_rfl

theorem eq_spec_RowsFault (a0 : V) (h : H) : call Ev Fn.spec_RowsFault [a0] h =
  (call Ev Fn.spec_l6Rows [a0] h).bind fun p1 =>
  some (p1.1, p1.2) := by
  rw [call_eq]; kernel_rfl

theorem eq_laws_toRowS (a0 : V) (h : H) : call Ev Fn.laws_toRowS [a0] h =
  (lenV (.sl 24) a0).bind fun v1 =>
  (mkSl 4 [.int .i64 0, .int .i64 0, .int .i64 0, .str ⟨#[]⟩] h v1 v1).bind fun p2 =>
  (Lp.laws_toRowS 0 [a0, p2.1, iv .i64 0] p2.2).bind fun o3 => lcase o3 (fun l4 h5 =>
  (l4[0]?).bind fun w8 =>
  some (w8, h5)) (fun v6 h7 =>
  some (v6, h7)) := by
  rw [call_eq]; kernel_rfl

theorem eq_laws_toRowS_l0 (s0 : V) (s3 : V) (s4 : Int) (h : H) : Lp.laws_toRowS 0 [s0, s3, iv .i64 s4] h =
  (lenV (.sl 24) s0).bind fun v1 =>
  (bin Ev .lss 3 (iv .i64 s4) v1).bind fun b2 =>
  vcase b2
  ((idxS 4 s0 (iv .i64 s4)).bind fun v3 =>
  (loadN 4 h v3).bind fun c4 =>
  (call Ev Fn.laws_toRow [.agg c4] h).bind fun p5 =>
  (idxS 4 s3 (iv .i64 s4)).bind fun v6 =>
  (stV 4 p5.2 v6 p5.1).bind fun h7 =>
  Lp.laws_toRowS 0 [s0, s3, iv .i64 (IntKind.i64.wrap (s4 + 1))] h7)
  (some (.done [s3] h)) := by
  unfold Lp.laws_toRowS; rw [loop_eq]; kernel_rfl

theorem eq_impl_RowsFault (a0 : V) (h : H) : call Ev Fn.impl_RowsFault [a0] h =
  (lenV (.sl 27) a0).bind fun v1 =>
  (bin Ev .gtr 3 v1 (iv .i64 60)).bind fun b2 =>
  vcase b2
  (some (iv .i64 2, h))
  ((lenV (.sl 27) a0).bind fun v3 =>
  (Lp.impl_RowsFault 0 [a0, a0, v3, iv .i64 0] h).bind fun o4 => lcase o4 (fun l5 h6 =>
  some (iv .i64 0, h6)) (fun v7 h8 =>
  some (v7, h8))) := by
  rw [call_eq]; kernel_rfl

theorem eq_impl_RowsFault_l0 (s0 : V) (s9 : V) (s10 : Int) (s11 : Int) (h : H) : Lp.impl_RowsFault 0 [s0, s9, iv .i64 s10, iv .i64 s11] h =
  vcase (bv (decide (s11 < s10)))
  ((idxS 4 s9 (iv .i64 s11)).bind fun v1 =>
  (loadN 4 h v1).bind fun c2 =>
  (stV 4 ((h).new 0 [.int .i64 0, .int .i64 0, .int .i64 0, .str ⟨#[]⟩]) (pv h.n 0) (.agg c2)).bind fun h3 =>
  (loadN 4 h3 (pv h.n 0)).bind fun c4 =>
  (call Ev Fn.impl_RowFault [.agg c4] h3).bind fun p5 =>
  (bin Ev .neq 2 p5.1 (iv .i64 0)).bind fun b6 =>
  vcase b6
  (some (.ret p5.1 p5.2))
  (vcase (bv (decide (s11 > 0)))
  ((idxS 4 s0 (iv .i64 (IntKind.i64.wrap (s11 - 1)))).bind fun v7 =>
  (loadN 4 p5.2 v7).bind fun c8 =>
  (loadN 4 p5.2 (pv h.n 0)).bind fun c9 =>
  (call Ev Fn.impl_IsBefore [.agg c8, .agg c9] p5.2).bind fun p10 =>
  hchk p5.2 p10.2 (
  (unNot p10.1).bind fun v11 =>
  vcase v11
  (some (.ret (iv .i64 1) p10.2))
  (Lp.impl_RowsFault 0 [s0, s9, iv .i64 s10, iv .i64 (IntKind.i64.wrap (s11 + 1))] p10.2)))
  (hchk p5.2 p5.2 (
  Lp.impl_RowsFault 0 [s0, s9, iv .i64 s10, iv .i64 (IntKind.i64.wrap (s11 + 1))] p5.2))))
  (some (.done [] h)) := by
  unfold Lp.impl_RowsFault; rw [loop_eq]; kernel_rfl

theorem eq_laws_eqRowS (a0 : V) (a1 : V) (h : H) : call Ev Fn.laws_eqRowS [a0, a1] h =
  (lenV (.sl 27) a0).bind fun v1 =>
  (lenV (.sl 27) a1).bind fun v2 =>
  (bin Ev .neq 3 v1 v2).bind fun b3 =>
  vcase b3
  (some (bv false, h))
  ((Lp.laws_eqRowS 0 [a0, a1, iv .i64 0] h).bind fun o4 => lcase o4 (fun l5 h6 =>
  some (bv true, h6)) (fun v7 h8 =>
  some (v7, h8))) := by
  rw [call_eq]; kernel_rfl

theorem eq_laws_eqRowS_l0 (s0 : V) (s1 : V) (s5 : Int) (h : H) : Lp.laws_eqRowS 0 [s0, s1, iv .i64 s5] h =
  (lenV (.sl 27) s0).bind fun v1 =>
  (bin Ev .lss 3 (iv .i64 s5) v1).bind fun b2 =>
  vcase b2
  ((idxS 4 s0 (iv .i64 s5)).bind fun v3 =>
  (loadN 4 h v3).bind fun c4 =>
  (idxS 4 s1 (iv .i64 s5)).bind fun v5 =>
  (loadN 4 h v5).bind fun c6 =>
  (call Ev Fn.laws_eqRow [.agg c4, .agg c6] h).bind fun p7 =>
  hchk h p7.2 (
  (unNot p7.1).bind fun v8 =>
  vcase v8
  (some (.ret (bv false) p7.2))
  (Lp.laws_eqRowS 0 [s0, s1, iv .i64 (IntKind.i64.wrap (s5 + 1))] p7.2)))
  (some (.done [] h)) := by
  unfold Lp.laws_eqRowS; rw [loop_eq]; kernel_rfl

theorem eq_laws_FnExactRowsFault (a0 : V) (h : H) : call Ev Fn.laws_FnExactRowsFault [a0] h =
  (call Ev Fn.laws_szRowS [a0, iv .i64 1048576] h).bind fun p1 =>
  (bin Ev .lss 3 p1.1 (iv .i64 0)).bind fun b2 =>
  vcase b2
  (some (bv true, p1.2))
  ((call Ev Fn.laws_toRowS [a0] p1.2).bind fun p3 =>
  (call Ev Fn.spec_RowsFault [p3.1] p3.2).bind fun p4 =>
  (call Ev Fn.laws_toRowS [a0] p4.2).bind fun p5 =>
  (call Ev Fn.impl_RowsFault [p5.1] p5.2).bind fun p6 =>
  (bin Ev .neq 2 p6.1 p4.1).bind fun b7 =>
  vcase b7
  (some (bv false, p6.2))
  ((call Ev Fn.laws_toRowS [a0] p6.2).bind fun p8 =>
  (call Ev Fn.laws_eqRowS [p5.1, p8.1] p8.2).bind fun p9 =>
  (unNot p9.1).bind fun v10 =>
  vcase v10
  (some (bv false, p9.2))
  (some (bv true, p9.2)))) := by
  rw [call_eq]; kernel_rfl

theorem eq_spec_l2Free (a0 : V) (h : H) : call Ev Fn.spec_l2Free [a0] h =
  (call Ev Fn.spec_l2Count [a0] h).bind fun p1 =>
  (bin Ev .mul 3 (iv .i64 2) p1.1).bind fun b2 =>
  (bin Ev .sub 3 (iv .i64 62) b2).bind fun b3 =>
  (Lp.spec_l2Free 0 [a0, b3, iv .i64 0] p1.2).bind fun o4 => lcase o4 (fun l5 h6 =>
  (l5[0]?).bind fun w9 =>
  some (w9, h6)) (fun v7 h8 =>
  some (v7, h8)) := by
  rw [call_eq]; kernel_rfl

theorem eq_spec_l2Free_l0 (s0 : V) (s3 : Int) (s4 : Int) (h : H) : Lp.spec_l2Free 0 [s0, iv .i64 s3, iv .i64 s4] h =
  (call Ev Fn.spec_l2Count [s0] h).bind fun p1 =>
  (bin Ev .lss 3 (iv .i64 s4) p1.1).bind fun b2 =>
  vcase b2
  ((call Ev Fn.spec_l2Size [s0, iv .i64 s4] p1.2).bind fun p3 =>
  (bin Ev .sub 3 (iv .i64 s3) p3.1).bind fun b4 =>
  Lp.spec_l2Free 0 [s0, b4, iv .i64 (IntKind.i64.wrap (s4 + 1))] p3.2)
  (some (.done [iv .i64 s3] p1.2)) := by
  unfold Lp.spec_l2Free; rw [loop_eq]; kernel_rfl

theorem eq_spec_FreeIn (a0 : V) (h : H) : call Ev Fn.spec_FreeIn [a0] h =
  (call Ev Fn.spec_l2Fault [a0] ((h).new 0 [.int .i64 0, .int .i64 0])).bind fun p1 =>
  (bin Ev .neq 2 p1.1 (iv .i64 0)).bind fun b2 =>
  vcase b2
  ((cellsOf p1.1).bind fun c3 =>
  if c3.length = 1 ∧ 0 + 1 ≤ ([.int .i64 0, .int .i64 0] : List S).length then
  (stV 2 p1.2 (pv h.n 0) (.agg (setAt ([.int .i64 0, .int .i64 0] : List S) 0 c3))).bind fun h4 =>
  (loadN 2 h4 (pv h.n 0)).bind fun c5 =>
  some (.agg c5, h4)
  else none)
  ((call Ev Fn.spec_l2Free [a0] p1.2).bind fun p6 =>
  (cellsOf p6.1).bind fun c7 =>
  if c7.length = 1 ∧ 1 + 1 ≤ ([.int .i64 0, .int .i64 0] : List S).length then
  (stV 2 p6.2 (pv h.n 0) (.agg (setAt ([.int .i64 0, .int .i64 0] : List S) 1 c7))).bind fun h8 =>
  (loadN 2 h8 (pv h.n 0)).bind fun c9 =>
  some (.agg c9, h8)
  else none) := by
  rw [call_eq]; kernel_rfl

theorem eq_impl_freeIn (a0 : V) (h : H) : call Ev Fn.impl_freeIn [a0] h =
  (call Ev Fn.impl_slots [a0] h).bind fun p1 =>
  (bin Ev .mul 3 (iv .i64 2) p1.1).bind fun b2 =>
  (bin Ev .sub 3 (iv .i64 62) b2).bind fun b3 =>
  (call Ev Fn.impl_slots [a0] p1.2).bind fun p4 =>
  (Lp.impl_freeIn 0 [a0, b3, p4.1, iv .i64 0] p4.2).bind fun o5 => lcase o5 (fun l6 h7 =>
  (l6[0]?).bind fun w10 =>
  some (w10, h7)) (fun v8 h9 =>
  some (v8, h9)) := by
  rw [call_eq]; kernel_rfl

theorem eq_impl_freeIn_l0 (s0 : V) (s3 : Int) (s12 : Int) (s13 : Int) (h : H) : Lp.impl_freeIn 0 [s0, iv .i64 s3, iv .i64 s12, iv .i64 s13] h =
  vcase (bv (decide (s13 < s12)))
  ((call Ev Fn.impl_spot [s0, iv .i64 s13] h).bind fun p1 =>
  (extr 0 p1.1).bind fun v2 =>
  (extr 1 p1.1).bind fun v3 =>
  (bin Ev .sub 3 (iv .i64 s3) v3).bind fun b4 =>
  Lp.impl_freeIn 0 [s0, b4, iv .i64 s12, iv .i64 (IntKind.i64.wrap (s13 + 1))] p1.2)
  (some (.done [iv .i64 s3] h)) := by
  unfold Lp.impl_freeIn; rw [loop_eq]; kernel_rfl

theorem eq_impl_FreeIn (a0 : V) (h : H) : call Ev Fn.impl_FreeIn [a0] h =
  (call Ev Fn.impl_PageFault [a0] ((h).new 0 [.int .i64 0, .int .i64 0])).bind fun p1 =>
  (bin Ev .neq 2 p1.1 (iv .i64 0)).bind fun b2 =>
  vcase b2
  ((cellsOf p1.1).bind fun c3 =>
  if c3.length = 1 ∧ 0 + 1 ≤ ([.int .i64 0, .int .i64 0] : List S).length then
  (stV 2 p1.2 (pv h.n 0) (.agg (setAt ([.int .i64 0, .int .i64 0] : List S) 0 c3))).bind fun h4 =>
  (loadN 2 h4 (pv h.n 0)).bind fun c5 =>
  some (.agg c5, h4)
  else none)
  ((call Ev Fn.impl_freeIn [a0] p1.2).bind fun p6 =>
  (cellsOf p6.1).bind fun c7 =>
  if c7.length = 1 ∧ 1 + 1 ≤ ([.int .i64 0, .int .i64 0] : List S).length then
  (stV 2 p6.2 (pv h.n 0) (.agg (setAt ([.int .i64 0, .int .i64 0] : List S) 1 c7))).bind fun h8 =>
  (loadN 2 h8 (pv h.n 0)).bind fun c9 =>
  some (.agg c9, h8)
  else none) := by
  rw [call_eq]; kernel_rfl

theorem eq_laws_eqIntResult (a0 : List S) (a1 : List S) (h : H) : call Ev Fn.laws_eqIntResult [.agg a0, .agg a1] h =
  (load1 (((h).new 0 a0).new 0 a1) (pv h.n 0)).bind fun x1 =>
  (load1 (((h).new 0 a0).new 0 a1) (pv (((h).new 0 a0).n) 0)).bind fun x2 =>
  (bin Ev .neq 2 (.s x1) (.s x2)).bind fun b3 =>
  vcase b3
  (some (bv false, ((h).new 0 a0).new 0 a1))
  ((load1 (((h).new 0 a0).new 0 a1) (pv h.n 1)).bind fun x4 =>
  (load1 (((h).new 0 a0).new 0 a1) (pv (((h).new 0 a0).n) 1)).bind fun x5 =>
  (bin Ev .neq 2 (.s x4) (.s x5)).bind fun b6 =>
  vcase b6
  (some (bv false, ((h).new 0 a0).new 0 a1))
  (some (bv true, ((h).new 0 a0).new 0 a1))) := by
  rw [call_eq]; kernel_rfl

theorem eq_laws_FnExactFreeIn (a0 : V) (h : H) : call Ev Fn.laws_FnExactFreeIn [a0] h =
  (lenV (.sl 5) a0).bind fun v1 =>
  (bin Ev .gtr 3 v1 (iv .i64 1048576)).bind fun b2 =>
  vcase b2
  (some (bv true, h))
  ((call Ev Fn.laws_toByteS [a0] h).bind fun p3 =>
  (call Ev Fn.spec_FreeIn [p3.1] p3.2).bind fun p4 =>
  (stV 2 ((p4.2).new 0 [.int .i64 0, .int .i64 0]) (pv p4.2.n 0) p4.1).bind fun h5 =>
  (call Ev Fn.laws_toByteS [a0] h5).bind fun p6 =>
  (call Ev Fn.impl_FreeIn [p6.1] p6.2).bind fun p7 =>
  (stV 2 ((p7.2).new 0 [.int .i64 0, .int .i64 0]) (pv p7.2.n 0) p7.1).bind fun h8 =>
  (loadN 2 h8 (pv p7.2.n 0)).bind fun c9 =>
  (loadN 2 h8 (pv p4.2.n 0)).bind fun c10 =>
  (call Ev Fn.laws_eqIntResult [.agg c9, .agg c10] h8).bind fun p11 =>
  (unNot p11.1).bind fun v12 =>
  vcase v12
  (some (bv false, p11.2))
  ((call Ev Fn.laws_toByteS [a0] p11.2).bind fun p13 =>
  (call Ev Fn.laws_eqByteS [p6.1, p13.1] p13.2).bind fun p14 =>
  (unNot p14.1).bind fun v15 =>
  vcase v15
  (some (bv false, p14.2))
  (some (bv true, p14.2)))) := by
  rw [call_eq]; kernel_rfl

end Vm
