/-
  The law of InverseOf returns true.
-/
import Derived.Test.YtfpcfiaoilcbgaaDIvo
set_option linter.unusedVariables false
set_option maxRecDepth 100000
set_option linter.unusedSimpArgs false
namespace Vm
open Go
theorem run_FnExactInverseOf (xs : List V) (hx : ArgsRp PR [T.S_laws_Change] xs) : ∃ h', call Ev Fn.laws_FnExactInverseOf xs (D 0) = some (bv true, h') := by
  match xs, hx with
  | [x0], ⟨h0, _⟩ =>
    obtain ⟨l0, rfl, hr0, hl0⟩ := arg_Changes h0
    refine law_of ?_
    rw [pu_laws_FnExactInverseOf]
    rw [pc (p_szChangeS (by omega) (by omega) hl0 hr0) rfl]
    simp only [gV1_s, gI_i, vcase_b, decide_eq_true_eq]
    by_cases hq0 : (if (l0.length : Int) ≤ 1048576 then szChgs l0 (1048576 - l0.length) else -1) < 0
    · rw [if_pos hq0]
    have hm0 : (l0.length : Int) ≤ 1048576 := szI hq0
    rw [if_neg hq0]
    rw [if_pos hm0] at hq0
    try rw [if_pos hm0]
    have hq0b := szChgs_le l0 (1048576 - l0.length) (by omega)
    have hlim0 : l0.length ≤ lim := by unfold lim; omega
    rw [p_toChangeS hlim0]
    simp only [ob, gV1_s, gF_f]
    have hps := p_spec_InverseOf hr0 hlim0
    have hfs := fun n => f_InverseOf hr0 hlim0 n
    have hsl := ivL_len l0
    generalize ivF l0 = c at hps hfs
    generalize ivL l0 = m at hsl hps hfs
    have hmm : m.length ≤ maxLen := by unfold maxLen; omega
    rw [hps]
    simp only [ob, gVA_a, gx0, gx1, gI_i, gF_f, ln0, ln1, Nat.zero_add, Nat.reduceAdd, if_true]
    generalize hA : ((D 0).new 0 [.int .i64 0, .sl none 0]).put 0 (.rw 0 [.int .i64 c, .fs (chs m)]) = A
    have an : A.n = 1 := by rw [← hA]; simp
    have wA : Sep (At 0 (.rw 0 [.int .i64 c, .fs (chs m)])) 0 1 A := Sep.at (by omega) (by rw [← hA]; exact put_g _ _ _)
    obtain ⟨v0, k0, e0, q0⟩ := f_toChangeSv hlim0 A.n
    obtain ⟨B0, eB0, uB0, nB0, w0⟩ := OwnV.pv rfl e0 q0
    rw [eB0]
    clear eB0 e0 q0
    rw [an] at nB0 w0
    replace wA := wA.up uB0
    clear uB0
    rw [frzVs_cons w0.now.frz frzVs_nil, ob, norm_nil]
    obtain ⟨y, k2, e2, q2⟩ := hfs B0.n
    obtain ⟨C, eC, uC, nC, wg⟩ := pC (h := B0) rfl e2 q2
    rw [eC]
    clear eC e2 q2
    replace wA := wA.up uC
    replace w0 := w0.up uC
    clear uC
    simp only [gVA_a, gx0, gx1, ob, gI_i, ln0, ln1, Nat.zero_add, Nat.reduceAdd, if_true]
    rw [st2_new]
    have uG : Up C ((C.new 0 [.int .i64 0, .sl none 0]).put C.n (.rw 0 [.int .i64 c, y])) := up_st
    have wG : Sep (At C.n (.rw 0 [.int .i64 c, y])) C.n (C.n + 1) ((C.new 0 [.int .i64 0, .sl none 0]).put C.n (.rw 0 [.int .i64 c, y])) := Sep.at (by rw [n_st]; omega) g_st
    have nG : ((C.new 0 [.int .i64 0, .sl none 0]).put C.n (.rw 0 [.int .i64 c, y])).n = C.n + 1 := n_st
    replace wA := wA.up uG
    replace w0 := w0.up uG
    replace wg := wg.up uG
    generalize (C.new 0 [.int .i64 0, .sl none 0]).put C.n (.rw 0 [.int .i64 c, y]) = HG at wA w0 wg wG nG ⊢
    clear uG
    rw [loadN_2 wG.now.1 wG.now.2]
    simp only [gx0, gx1, ob, gI_i, ln0, ln1, Nat.zero_add, Nat.reduceAdd, if_true]
    rw [loadN_2 wA.now.1 wA.now.2]
    simp only [gx0, gx1, ob, gI_i, ln0, ln1, Nat.zero_add, Nat.reduceAdd, if_true]
    rw [frzVs_cons wg.now.frz (frzVs_cons frzV_agf frzVs_nil), ob, norm_nil, pc (p_eqGR hmm) rfl]
    simp only [gV1_s, gB_b, vcase_b, decide_true, Bool.and_self, Bool.not_true, Bool.false_eq_true, if_false]
    rw [frzVs_cons w0.now.frz (frzVs_cons frzV_lv frzVs_nil), ob, norm_nil, pc (p_eqChangeS hl0) rfl]
    simp only [gV1_s, gB_b, vcase_b, decide_true, Bool.and_self, Bool.not_true, Bool.false_eq_true, if_false]
    rw [show (1 : Int) = ((1 : Nat) : Int) from rfl]
    obtain ⟨p0, e0, m0, b0⟩ := OwnV.markG (k := 1) w0 (by omega)
    rw [e0, ob]
    simp only [gV1_s, gI_i]
    replace wA := wA.but b0 (by omega)
    replace wg := wg.but b0 (by omega)
    replace wG := wG.but b0 (by omega)
    replace w0 := m0
    clear m0 e0
    rw [if_neg (by simp; omega)]
    unfold Jn.laws_FnExactInverseOf_0
    dsimp only
    generalize tidy HG [iv .i64 ((1 + 10 * l0.length : Nat) : Int)] p0 = F0 at wA w0 wg wG b0 ⊢
    clear b0
    rw [loadN_2 wG.now.1 wG.now.2]
    simp only [gx0, gx1, ob, gI_i, ln0, ln1, Nat.zero_add, Nat.reduceAdd, if_true]
    rw [loadN_2 wA.now.1 wA.now.2]
    simp only [gx0, gx1, ob, gI_i, ln0, ln1, Nat.zero_add, Nat.reduceAdd, if_true]
    rw [frzVs_cons wg.now.frz (frzVs_cons frzV_agf frzVs_nil), ob, norm_nil, pc (p_eqGR hmm) rfl]
    simp only [gV1_s, gB_b, vcase_b, decide_true, Bool.and_self, Bool.not_true, Bool.false_eq_true, if_false]
    obtain ⟨pg, eg, mg, bg⟩ := r_markGR (c := c) (k := 1) wg (by omega)
    rw [show (1 : Int) = ((1 : Nat) : Int) from rfl, eg, ob]
    simp only [gV1_s, gI_i]
    replace wA := wA.but bg (by omega)
    replace w0 := w0.but bg (by omega)
    replace wG := wG.but bg (by omega)
    replace wg := mg
    clear mg eg
    generalize tidy F0 [iv .i64 ((1 + 10 * m.length : Nat) : Int)] pg = G at wA wg wG bg ⊢
    rw [loadN_2 wG.now.1 wG.now.2]
    simp only [gx0, gx1, ob, gI_i, ln0, ln1, Nat.zero_add, Nat.reduceAdd, if_true]
    rw [frzVs_cons wg.now.frz (frzVs_cons frzV_iv frzVs_nil), ob, norm_nil, pc (p_heldGR (by omega)) rfl]
    simp only [gV1_s, gI_i, vcase_b]
    rw [if_neg (by simp; omega), if_neg (by simp)]
    rw [p_toChangeS hlim0]
    simp only [ob, gV1_s, gF_f]
    obtain ⟨y', k5, e5, w5⟩ := hfs 0
    rw [NewC.p (by omega) e5 w5]
    simp only [ob, gVA_a, gx0, gx1, gI_i, gF_f, ln0, ln1, Nat.zero_add, Nat.reduceAdd, if_true]
    rw [st2_new]
    have uK : Up G ((G.new 0 [.int .i64 0, .sl none 0]).put G.n (.rw 0 [.int .i64 c, .fs (chs m)])) := up_st
    have wK : Sep (At G.n (.rw 0 [.int .i64 c, .fs (chs m)])) G.n (G.n + 1) ((G.new 0 [.int .i64 0, .sl none 0]).put G.n (.rw 0 [.int .i64 c, .fs (chs m)])) := Sep.at (by rw [n_st]; omega) g_st
    replace wA := wA.up uK
    replace wg := wg.up uK
    replace wG := wG.up uK
    generalize (G.new 0 [.int .i64 0, .sl none 0]).put G.n (.rw 0 [.int .i64 c, .fs (chs m)]) = K at wA wg wG wK ⊢
    rw [loadN_2 wK.now.1 wK.now.2]
    simp only [gx0, gx1, ob, gI_i, ln0, ln1, Nat.zero_add, Nat.reduceAdd, if_true]
    rw [loadN_2 wA.now.1 wA.now.2]
    simp only [gx0, gx1, ob, gI_i, ln0, ln1, Nat.zero_add, Nat.reduceAdd, if_true]
    rw [frzVs_cons frzV_agf (frzVs_cons frzV_agf frzVs_nil), ob, norm_nil, pc (p_eqGR hmm) rfl]
    simp only [gV1_s, gB_b, vcase_b, decide_true, Bool.and_self, Bool.not_true, Bool.false_eq_true, if_false]
    rw [loadN_2 wG.now.1 wG.now.2]
    simp only [gx0, gx1, ob, gI_i, ln0, ln1, Nat.zero_add, Nat.reduceAdd, if_true]
    rw [frzVs_cons wg.now.frz (frzVs_cons frzV_iv frzVs_nil), ob, norm_nil, pc (p_heldGR (by omega)) rfl]
    simp only [gV1_s, gI_i, vcase_b]
    rw [if_neg (by simp; omega), if_neg (by simp)]
end Vm
