/-
  The law of PackRecord returns true.
-/
import Derived.Test.YtainemlfiibooaaDPkS
set_option linter.unusedVariables false
set_option maxRecDepth 100000
set_option linter.unusedSimpArgs false
namespace Vm
open Go
theorem run_FnExactPackRecord (xs : List V) (hx : ArgsRp PR [T.laws_Record] xs) : ∃ h', call Ev Fn.laws_FnExactPackRecord xs (D 0) = some (bv true, h') := by
  match xs, hx with
  | [x0], ⟨h0, _⟩ =>
    obtain ⟨l0, rfl, hr0⟩ := arg_Rec h0
    refine law_of ?_
    rw [pu_laws_FnExactPackRecord]
    rw [pc (p_szRecord l0 hr0 (by omega) (by omega)) rfl]
    simp only [gV1_s, gI_i, vcase_b]
    by_cases hq0 : (if (l0.rs.length : Int) ≤ 1048576 then szRuns l0.rs (1048576 - l0.rs.length) else -1) < 0
    · rw [if_pos (by simpa using hq0)]
    obtain ⟨hm0, hn0, ht0⟩ := szRuns_ok hq0
    have hlim0 : l0.rs.length ≤ lim := by unfold lim; omega
    have hz0 := szRuns_rsz hq0
    have hsm0 : l0.sm := ⟨hm0, hz0⟩
    rw [if_neg (by simpa using hq0)]
    rw [p_toRecord l0 hlim0 hn0]
    simp only [ob, gVA_a, gx0, gx1, gI_i, gF_f, ln0, ln1, Nat.zero_add, Nat.reduceAdd, if_true]
    have hsl := pkL_len hsm0
    have hps := p_spec_PackRecord hsm0 hr0.r2
    have hfs := fun n => f_PackRecord hsm0 hr0.r2 n
    generalize recF l0 = c at hps hfs
    generalize pkL l0 = m at hsl hps hfs
    have hmm : m.length ≤ maxLen := by unfold maxLen; omega
    rw [hps]
    simp only [ob, gVA_a, gx0, gx1, gI_i, gF_f, ln0, ln1, Nat.zero_add, Nat.reduceAdd, if_true]
    generalize hA : (((D 0).new 0 [.int .i64 l0.kind, .int .i64 l0.tx, .int .i64 l0.page, .fs (runs l0.rs)]).new 0 [.int .i64 0, .sl none 0]).put 1 (.rw 0 [.int .i64 c, .fs (bys m)]) = A
    have an : A.n = 2 := by rw [← hA]; simp
    have wA : Sep (At 1 (.rw 0 [.int .i64 c, .fs (bys m)])) 1 2 A := Sep.at (by omega) (by rw [← hA]; exact put_g _ _ _)
    have wP0 : Sep (At 0 (.rw 0 [.int .i64 l0.kind, .int .i64 l0.tx, .int .i64 l0.page, .fs (runs l0.rs)])) 0 1 A := Sep.at (by omega) (by rw [← hA, put_g' (by omega), new_g' (by simp)]; exact new_g (D 0) 0 [.int .i64 l0.kind, .int .i64 l0.tx, .int .i64 l0.page, .fs (runs l0.rs)])
    obtain ⟨y0, k0, e0, q0, _⟩ := f_toRecord l0 hlim0 hn0 A.n
    obtain ⟨B0, eB0, uB0, nB0, w0⟩ := pC (h := A) rfl e0 q0
    rw [eB0]
    clear eB0 e0 q0
    rw [an] at nB0 w0
    replace wA := wA.up uB0
    replace wP0 := wP0.up uB0
    clear uB0
    simp only [ob, gVA_a, gx0, gx1, gI_i, gF_f, ln0, ln1, Nat.zero_add, Nat.reduceAdd, if_true]
    rw [st4_new]
    have uS0 : Up B0 ((B0.new 0 [.int .i64 0, .int .i64 0, .int .i64 0, .sl none 0]).put B0.n (.rw 0 [.int .i64 l0.kind, .int .i64 l0.tx, .int .i64 l0.page, y0])) := up_st
    have wS0 : Sep (At B0.n (.rw 0 [.int .i64 l0.kind, .int .i64 l0.tx, .int .i64 l0.page, y0])) B0.n (B0.n + 1) ((B0.new 0 [.int .i64 0, .int .i64 0, .int .i64 0, .sl none 0]).put B0.n (.rw 0 [.int .i64 l0.kind, .int .i64 l0.tx, .int .i64 l0.page, y0])) := Sep.at (by rw [n_st]; omega) g_st
    have nS0 : ((B0.new 0 [.int .i64 0, .int .i64 0, .int .i64 0, .sl none 0]).put B0.n (.rw 0 [.int .i64 l0.kind, .int .i64 l0.tx, .int .i64 l0.page, y0])).n = B0.n + 1 := n_st
    replace wA := wA.up uS0
    replace wP0 := wP0.up uS0
    replace w0 := w0.up uS0
    generalize (B0.new 0 [.int .i64 0, .int .i64 0, .int .i64 0, .sl none 0]).put B0.n (.rw 0 [.int .i64 l0.kind, .int .i64 l0.tx, .int .i64 l0.page, y0]) = HS0 at wA wP0 w0 wS0 nS0 ⊢
    clear uS0
    rw [loadN_4 wS0.now.1 wS0.now.2]
    simp only [gx0, gx1, ob, gI_i, ln0, ln1, Nat.zero_add, Nat.reduceAdd, if_true]
    rw [frzVs_cons w0.now.frz frzVs_nil, ob, norm_nil]
    obtain ⟨y, k2, e2, q2⟩ := hfs HS0.n
    obtain ⟨C, eC, uC, nC, wg⟩ := pC (h := HS0) rfl e2 q2
    rw [eC]
    clear eC e2 q2
    replace wA := wA.up uC
    replace wP0 := wP0.up uC
    replace w0 := w0.up uC
    replace wS0 := wS0.up uC
    clear uC
    simp only [gVA_a, gx0, gx1, ob, gI_i, ln0, ln1, Nat.zero_add, Nat.reduceAdd, if_true]
    rw [st2_new]
    have uG : Up C ((C.new 0 [.int .i64 0, .sl none 0]).put C.n (.rw 0 [.int .i64 c, y])) := up_st
    have wG : Sep (At C.n (.rw 0 [.int .i64 c, y])) C.n (C.n + 1) ((C.new 0 [.int .i64 0, .sl none 0]).put C.n (.rw 0 [.int .i64 c, y])) := Sep.at (by rw [n_st]; omega) g_st
    have nG : ((C.new 0 [.int .i64 0, .sl none 0]).put C.n (.rw 0 [.int .i64 c, y])).n = C.n + 1 := n_st
    replace wA := wA.up uG
    replace wP0 := wP0.up uG
    replace w0 := w0.up uG
    replace wS0 := wS0.up uG
    replace wg := wg.up uG
    generalize (C.new 0 [.int .i64 0, .sl none 0]).put C.n (.rw 0 [.int .i64 c, y]) = HG at wA wP0 w0 wS0 wg wG nG ⊢
    clear uG
    rw [loadN_2 wG.now.1 wG.now.2]
    simp only [gx0, gx1, ob, gI_i, ln0, ln1, Nat.zero_add, Nat.reduceAdd, if_true]
    rw [loadN_2 wA.now.1 wA.now.2]
    simp only [gx0, gx1, ob, gI_i, ln0, ln1, Nat.zero_add, Nat.reduceAdd, if_true]
    rw [frzVs_cons wg.now.frz (frzVs_cons frzV_agf frzVs_nil), ob, norm_nil, pc (p_eqBR hmm) rfl]
    simp only [gV1_s, gB_b, vcase_b, decide_true, Bool.and_self, Bool.not_true, Bool.false_eq_true, if_false]
    rw [loadN_4 wS0.now.1 wS0.now.2]
    simp only [gx0, gx1, ob, gI_i, ln0, ln1, Nat.zero_add, Nat.reduceAdd, if_true]
    rw [loadN_4 wP0.now.1 wP0.now.2]
    simp only [gx0, gx1, ob, gI_i, ln0, ln1, Nat.zero_add, Nat.reduceAdd, if_true]
    rw [show ([V.agg [.int .i64 l0.kind, .int .i64 l0.tx, .int .i64 l0.page, .fs (runs l0.rs)]].all offV) = true from rfl, cond_true, frzVs_cons frzV_ag4 frzVs_nil, ob, norm_nil, p_toRecord l0 hlim0 hn0]
    simp only [ob, gVA_a, gx0, gx1, gI_i, gF_f, ln0, ln1, Nat.zero_add, Nat.reduceAdd, if_true]
    rw [hchk_self]
    rw [frzVs_cons w0.now.frz (frzVs_cons frzV_ag4 frzVs_nil), ob, norm_nil, pc (p_eqRecord l0 hr0.r2 fun x hx => (hr0.r1 x hx).n) rfl]
    simp only [gV1_s, gB_b, hchk_self]
    simp only [gV1_s, gB_b, vcase_b, decide_true, Bool.and_self, Bool.not_true, Bool.false_eq_true, if_false]
    rw [show (1 : Int) = ((1 : Nat) : Int) from rfl]
    obtain ⟨p0, e0, m0, b0⟩ := r_markRec (k := 1) w0 (by omega)
    rw [e0, ob]
    simp only [gV1_s, gI_i]
    replace wA := wA.but b0 (by omega)
    replace wP0 := wP0.but b0 (by omega)
    replace wS0 := wS0.but b0 (by omega)
    replace wg := wg.but b0 (by omega)
    replace wG := wG.but b0 (by omega)
    replace w0 := m0
    clear m0 e0
    rw [if_neg (by simp; omega)]
    unfold Jn.laws_FnExactPackRecord_0
    dsimp only
    generalize tidy HG [iv .i64 ((1 + rsz l0.rs : Nat) : Int)] p0 = F0 at wA wP0 w0 wS0 wg wG b0 ⊢
    clear b0
    rw [loadN_2 wG.now.1 wG.now.2]
    simp only [gx0, gx1, ob, gI_i, ln0, ln1, Nat.zero_add, Nat.reduceAdd, if_true]
    rw [loadN_2 wA.now.1 wA.now.2]
    simp only [gx0, gx1, ob, gI_i, ln0, ln1, Nat.zero_add, Nat.reduceAdd, if_true]
    rw [frzVs_cons wg.now.frz (frzVs_cons frzV_agf frzVs_nil), ob, norm_nil, pc (p_eqBR hmm) rfl]
    simp only [gV1_s, gB_b, vcase_b, decide_true, Bool.and_self, Bool.not_true, Bool.false_eq_true, if_false]
    obtain ⟨pg, eg, mg, bg⟩ := r_markBC (c := c) (k := 1) wg (by omega)
    rw [show (1 : Int) = ((1 : Nat) : Int) from rfl, eg, ob]
    simp only [gV1_s, gI_i]
    replace wA := wA.but bg (by omega)
    replace wP0 := wP0.but bg (by omega)
    replace w0 := w0.but bg (by omega)
    replace wS0 := wS0.but bg (by omega)
    replace wG := wG.but bg (by omega)
    replace wg := mg
    clear mg eg
    generalize tidy F0 [iv .i64 ((1 + m.length : Nat) : Int)] pg = G at wA wP0 wg wG bg ⊢
    rw [loadN_2 wG.now.1 wG.now.2]
    simp only [gx0, gx1, ob, gI_i, ln0, ln1, Nat.zero_add, Nat.reduceAdd, if_true]
    rw [frzVs_cons wg.now.frz (frzVs_cons frzV_iv frzVs_nil), ob, norm_nil, pc (p_heldBR (by omega)) rfl]
    simp only [gV1_s, gI_i, vcase_b]
    rw [if_neg (by simp; omega), if_neg (by simp)]
    rw [loadN_4 wP0.now.1 wP0.now.2]
    simp only [gx0, gx1, ob, gI_i, ln0, ln1, Nat.zero_add, Nat.reduceAdd, if_true]
    rw [show ([V.agg [.int .i64 l0.kind, .int .i64 l0.tx, .int .i64 l0.page, .fs (runs l0.rs)]].all offV) = true from rfl, cond_true, frzVs_cons frzV_ag4 frzVs_nil, ob, norm_nil, p_toRecord l0 hlim0 hn0]
    simp only [ob, gVA_a, gx0, gx1, gI_i, gF_f, ln0, ln1, Nat.zero_add, Nat.reduceAdd, if_true]
    obtain ⟨y', k5, e5, w5⟩ := hfs 0
    rw [NewC.p (by omega) e5 w5]
    simp only [ob, gVA_a, gx0, gx1, gI_i, gF_f, ln0, ln1, Nat.zero_add, Nat.reduceAdd, if_true]
    rw [st2_new]
    have uK : Up G ((G.new 0 [.int .i64 0, .sl none 0]).put G.n (.rw 0 [.int .i64 c, .fs (bys m)])) := up_st
    have wK : Sep (At G.n (.rw 0 [.int .i64 c, .fs (bys m)])) G.n (G.n + 1) ((G.new 0 [.int .i64 0, .sl none 0]).put G.n (.rw 0 [.int .i64 c, .fs (bys m)])) := Sep.at (by rw [n_st]; omega) g_st
    replace wA := wA.up uK
    replace wP0 := wP0.up uK
    replace wg := wg.up uK
    replace wG := wG.up uK
    generalize (G.new 0 [.int .i64 0, .sl none 0]).put G.n (.rw 0 [.int .i64 c, .fs (bys m)]) = K at wA wP0 wg wG wK ⊢
    rw [loadN_2 wK.now.1 wK.now.2]
    simp only [gx0, gx1, ob, gI_i, ln0, ln1, Nat.zero_add, Nat.reduceAdd, if_true]
    rw [loadN_2 wA.now.1 wA.now.2]
    simp only [gx0, gx1, ob, gI_i, ln0, ln1, Nat.zero_add, Nat.reduceAdd, if_true]
    rw [frzVs_cons frzV_agf (frzVs_cons frzV_agf frzVs_nil), ob, norm_nil, pc (p_eqBR hmm) rfl]
    simp only [gV1_s, gB_b, vcase_b, decide_true, Bool.and_self, Bool.not_true, Bool.false_eq_true, if_false]
    rw [loadN_2 wG.now.1 wG.now.2]
    simp only [gx0, gx1, ob, gI_i, ln0, ln1, Nat.zero_add, Nat.reduceAdd, if_true]
    rw [frzVs_cons wg.now.frz (frzVs_cons frzV_iv frzVs_nil), ob, norm_nil, pc (p_heldBR (by omega)) rfl]
    simp only [gV1_s, gI_i, vcase_b]
    rw [if_neg (by simp; omega), if_neg (by simp)]
end Vm
