/-
  The law of InverseRuns returns true.
-/
import Derived.Test.YtnidgolbfmbocaaDInv
import Derived.Test.YtnidgolbfmbocaaTByt
set_option linter.unusedVariables false
set_option maxRecDepth 100000
set_option linter.unusedSimpArgs false
namespace Vm
open Go
theorem run_FnExactInverseRuns (xs : List V) (hx : ArgsRp PR [T.S_uint8, T.S_laws_Run] xs) : ∃ h', call Ev Fn.laws_FnExactInverseRuns xs (D 0) = some (bv true, h') := by
  match xs, hx with
  | [x0, x1], ⟨h0, h1, _⟩ =>
    obtain ⟨l0, rfl, hl0⟩ := arg_Bytes h0
    obtain ⟨l1, rfl, hr1, hl1⟩ := arg_Runs h1
    refine law_of ?_
    rw [pu_laws_FnExactInverseRuns]
    rw [vcase_b, bys_len]
    by_cases hq0 : (1048576 : Int) < l0.length
    · rw [if_pos (by simpa using hq0)]
    have hm0 : l0.length ≤ 1048576 := by omega
    have hlim0 : l0.length ≤ lim := by unfold lim; omega
    rw [if_neg (by simpa using hq0)]
    rw [pc (p_szRunS (by omega) (by omega) hl1 fun r hr => (hr1 r hr).n) rfl]
    simp only [gV1_s, gI_i, vcase_b]
    by_cases hq1 : (if (l1.length : Int) ≤ 1048576 then szRuns l1 (1048576 - l1.length) else -1) < 0
    · rw [if_pos (by simpa using hq1)]
    obtain ⟨hm1, hn1, ht1⟩ := szRuns_ok hq1
    have hlim1 : l1.length ≤ lim := by unfold lim; omega
    have hz1 := szRuns_rsz hq1
    rw [if_neg (by simpa using hq1)]
    rw [p_toByteS hlim0]
    simp only [ob, gV1_s, gF_f]
    rw [p_toRunS hlim1 hn1]
    simp only [ob, gV1_s, gF_f]
    obtain ⟨hsl, hmr, hsz⟩ := invs_bd (l := l0) (rs := l1)
    have hps := p_spec_InverseRuns (l := l0) (rs := l1) hl1
    have hfs := fun n => f_InverseRuns (l := l0) (rs := l1) hl1 n
    generalize apC l0 l1 = c at hps hfs
    generalize invs l0 l1 = m at hsl hmr hsz hps hfs
    have hmm : m.length ≤ maxLen := by unfold maxLen; omega
    rw [hps]
    simp only [ob, gVA_a, gx0, gx1, gI_i, gF_f, ln0, ln1, Nat.zero_add, Nat.reduceAdd, if_true]
    generalize hA : ((D 0).new 0 [.int .i64 0, .sl none 0]).put 0 (.rw 0 [.int .i64 c, .fs (runs m)]) = A
    have an : A.n = 1 := by rw [← hA]; simp
    have wA : Sep (At 0 (.rw 0 [.int .i64 c, .fs (runs m)])) 0 1 A := Sep.at (by omega) (by rw [← hA]; exact put_g _ _ _)
    obtain ⟨v0, k0, e0, q0⟩ := f_toByteS hlim0 A.n
    obtain ⟨B0, eB0, uB0, nB0, w0⟩ := pN rfl e0 q0.s
    rw [eB0]
    clear eB0 e0 q0
    rw [an] at nB0 w0
    replace wA := wA.up uB0
    obtain ⟨v1, k1, e1, q1⟩ := f_toRunS hlim1 hn1 B0.n
    obtain ⟨B1, eB1, uB1, nB1, w1⟩ := OwnRs.pv rfl e1 q1
    rw [eB1]
    clear eB1 e1 q1
    replace wA := wA.up uB1
    replace w0 := w0.up uB1
    rw [frzVs_cons w0.now.frz (frzVs_cons w1.now.frz frzVs_nil), ob, norm_nil]
    obtain ⟨y, k2, e2, q2⟩ := hfs B1.n
    obtain ⟨C, eC, uC, nC, wg⟩ := pC (h := B1) rfl e2 q2
    rw [eC]
    clear eC e2 q2
    replace wA := wA.up uC
    replace w0 := w0.up uC
    replace w1 := w1.up uC
    simp only [gVA_a, gx0, gx1, ob, gI_i, ln0, ln1, Nat.zero_add, Nat.reduceAdd, if_true]
    rw [st2_new]
    have uE : Up C ((C.new 0 [.int .i64 0, .sl none 0]).put C.n (.rw 0 [.int .i64 c, y])) := up_st
    have wG : Sep (At C.n (.rw 0 [.int .i64 c, y])) C.n (C.n + 1) ((C.new 0 [.int .i64 0, .sl none 0]).put C.n (.rw 0 [.int .i64 c, y])) := Sep.at (by rw [n_st]; omega) g_st
    replace wA := wA.up uE
    replace w0 := w0.up uE
    replace w1 := w1.up uE
    replace wg := wg.up uE
    generalize (C.new 0 [.int .i64 0, .sl none 0]).put C.n (.rw 0 [.int .i64 c, y]) = E at wA w0 w1 wg wG ⊢
    clear uE uC uB0 uB1
    rw [loadN_2 wG.now.1 wG.now.2]
    simp only [gx0, gx1, ob, gI_i, ln0, ln1, Nat.zero_add, Nat.reduceAdd, if_true]
    rw [loadN_2 wA.now.1 wA.now.2]
    simp only [gx0, gx1, ob, gI_i, ln0, ln1, Nat.zero_add, Nat.reduceAdd, if_true]
    rw [frzVs_cons wg.now.frz (frzVs_cons frzV_agf frzVs_nil), ob, norm_nil, pc (p_eqRR hmm hmr) rfl]
    simp only [gV1_s, gB_b, vcase_b, decide_true, Bool.and_self, Bool.not_true, Bool.false_eq_true, if_false]
    rw [frzVs_cons w0.now.frz (frzVs_cons frzV_lv frzVs_nil), ob, norm_nil, pc (p_eqByteS hl0) rfl]
    simp only [gV1_s, gB_b, vcase_b, decide_true, Bool.and_self, Bool.not_true, Bool.false_eq_true, if_false]
    rw [frzVs_cons w1.now.frz (frzVs_cons frzV_lv frzVs_nil), ob, norm_nil, pc (p_eqRunS hl1 fun r hr => (hr1 r hr).n) rfl]
    simp only [gV1_s, gB_b, vcase_b, decide_true, Bool.and_self, Bool.not_true, Bool.false_eq_true, if_false]
    rw [show (1 : Int) = ((1 : Nat) : Int) from rfl]
    obtain ⟨p0, e0, m0, b0⟩ := OwnB.mark (k := 1) w0 (by omega)
    rw [e0, ob]
    simp only [gV1_s, gI_i]
    replace wA := wA.but b0 (by omega)
    replace w1 := w1.but b0 (by omega)
    replace wg := wg.but b0 (by omega)
    replace wG := wG.but b0 (by omega)
    replace w0 := m0
    clear m0 e0
    obtain ⟨p1, e1, m1, b1⟩ := OwnRs.mark (k := 1 + l0.length) w1 (by omega)
    rw [e1, ob]
    simp only [gV1_s, gI_i]
    replace wA := wA.but b1 (by omega)
    replace w0 := w0.but b1 (by omega)
    replace wg := wg.but b1 (by omega)
    replace wG := wG.but b1 (by omega)
    replace w1 := m1
    clear m1 e1
    rw [if_neg (by simp; omega)]
    unfold Jn.laws_FnExactInverseRuns_0
    dsimp only
    generalize tidy E [iv .i64 ((1 + l0.length : Nat) : Int)] p0 = F0 at wA w0 w1 wg wG b0 b1 ⊢
    generalize tidy F0 [iv .i64 ((1 + l0.length + rsz l1 : Nat) : Int)] p1 = F1 at wA w0 w1 wg wG b0 b1 ⊢
    rw [loadN_2 wG.now.1 wG.now.2]
    simp only [gx0, gx1, ob, gI_i, ln0, ln1, Nat.zero_add, Nat.reduceAdd, if_true]
    rw [loadN_2 wA.now.1 wA.now.2]
    simp only [gx0, gx1, ob, gI_i, ln0, ln1, Nat.zero_add, Nat.reduceAdd, if_true]
    rw [frzVs_cons wg.now.frz (frzVs_cons frzV_agf frzVs_nil), ob, norm_nil, pc (p_eqRR hmm hmr) rfl]
    simp only [gV1_s, gB_b, vcase_b, decide_true, Bool.and_self, Bool.not_true, Bool.false_eq_true, if_false]
    obtain ⟨pg, eg, mg, bg⟩ := r_markRR (c := c) (k := 1) wg (by omega)
    rw [show (1 : Int) = ((1 : Nat) : Int) from rfl, eg, ob]
    simp only [gV1_s, gI_i]
    replace wA := wA.but bg (by omega)
    replace w0 := w0.but bg (by omega)
    replace w1 := w1.but bg (by omega)
    replace wG := wG.but bg (by omega)
    replace wg := mg
    clear mg eg
    generalize tidy F1 [iv .i64 ((1 + rsz m : Nat) : Int)] pg = G at wA wg wG bg ⊢
    rw [loadN_2 wG.now.1 wG.now.2]
    simp only [gx0, gx1, ob, gI_i, ln0, ln1, Nat.zero_add, Nat.reduceAdd, if_true]
    rw [frzVs_cons wg.now.frz (frzVs_cons frzV_iv frzVs_nil), ob, norm_nil, pc (p_heldRR (by omega)) rfl]
    simp only [gV1_s, gI_i, vcase_b]
    rw [if_neg (by simp; omega), if_neg (by simp)]
    rw [p_toByteS hlim0]
    simp only [ob, gV1_s, gF_f]
    rw [p_toRunS hlim1 hn1]
    simp only [ob, gV1_s, gF_f]
    obtain ⟨y', k5, e5, w5⟩ := hfs 0
    rw [NewC.p (by omega) e5 w5]
    simp only [ob, gVA_a, gx0, gx1, gI_i, gF_f, ln0, ln1, Nat.zero_add, Nat.reduceAdd, if_true]
    rw [st2_new]
    have uK : Up G ((G.new 0 [.int .i64 0, .sl none 0]).put G.n (.rw 0 [.int .i64 c, .fs (runs m)])) := up_st
    have wK : Sep (At G.n (.rw 0 [.int .i64 c, .fs (runs m)])) G.n (G.n + 1) ((G.new 0 [.int .i64 0, .sl none 0]).put G.n (.rw 0 [.int .i64 c, .fs (runs m)])) := Sep.at (by rw [n_st]; omega) g_st
    replace wA := wA.up uK
    replace wg := wg.up uK
    replace wG := wG.up uK
    generalize (G.new 0 [.int .i64 0, .sl none 0]).put G.n (.rw 0 [.int .i64 c, .fs (runs m)]) = K at wA wg wG wK ⊢
    rw [loadN_2 wK.now.1 wK.now.2]
    simp only [gx0, gx1, ob, gI_i, ln0, ln1, Nat.zero_add, Nat.reduceAdd, if_true]
    rw [loadN_2 wA.now.1 wA.now.2]
    simp only [gx0, gx1, ob, gI_i, ln0, ln1, Nat.zero_add, Nat.reduceAdd, if_true]
    rw [frzVs_cons frzV_agf (frzVs_cons frzV_agf frzVs_nil), ob, norm_nil, pc (p_eqRR hmm hmr) rfl]
    simp only [gV1_s, gB_b, vcase_b, decide_true, Bool.and_self, Bool.not_true, Bool.false_eq_true, if_false]
    rw [loadN_2 wG.now.1 wG.now.2]
    simp only [gx0, gx1, ob, gI_i, ln0, ln1, Nat.zero_add, Nat.reduceAdd, if_true]
    rw [frzVs_cons wg.now.frz (frzVs_cons frzV_iv frzVs_nil), ob, norm_nil, pc (p_heldRR (by omega)) rfl]
    simp only [gV1_s, gI_i, vcase_b]
    rw [if_neg (by simp; omega), if_neg (by simp)]
end Vm
