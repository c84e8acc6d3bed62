/-
  The law of CompactPage returns true.
-/
import Derived.Test.YtnidgolbfmbocaaDCompS
import Derived.Test.YtnidgolbfmbocaaTByt
set_option linter.unusedVariables false
set_option maxRecDepth 100000
set_option linter.unusedSimpArgs false
namespace Vm
open Go
theorem run_FnExactCompactPage (xs : List V) (hx : ArgsRp PR [T.S_uint8] xs) : ∃ h', call Ev Fn.laws_FnExactCompactPage xs (D 0) = some (bv true, h') := by
  match xs, hx with
  | [x], ⟨h1, _⟩ =>
    obtain ⟨l, rfl, hl⟩ := arg_Bytes h1
    refine law_of ?_
    rw [pu_laws_FnExactCompactPage, vcase_b, bys_len]
    by_cases hq : (1048576 : Int) < l.length
    · rw [if_pos (by simpa using hq)]
    have hl2 : l.length ≤ lim := by unfold lim; omega
    have hm : l.length ≤ 1048576 := by omega
    rw [if_neg (by simpa using hq), p_toByteS hl2]
    simp only [ob, gV1_s, gF_f]
    have hsl := cpL_len l
    have hps : pureV (call Ev) Fn.spec_CompactPage [lv (bys l)] = some (.agg [.int .i64 (cpC l), .int .i64 (cpD l), .fs (bys (cpL l))]) := p_spec_CompactPage (l := l)
    have hfs : ∀ n, ∃ y h' ob, call Ev Fn.impl_CompactPage [lv (bys l)] (D n) = some (.agg [.int .i64 (cpC l), .int .i64 (cpD l), y], h') ∧ NewB n h' (.s y) (cpL l) ob := fun n => f_CompactPage (l := l) n
    generalize cpC l = c at hps hfs
    generalize cpD l = d at hps hfs
    generalize cpL l = m at hps hfs hsl
    have hmm : m.length ≤ maxLen := by unfold maxLen; omega
    rw [hps]
    simp only [ob, gVA_a, gx0, gx1, gI_i, gF_f, ln0, ln1, Nat.zero_add, Nat.reduceAdd, if_true]
    generalize hA : ((D 0).new 0 [.int .i64 0, .int .i64 0, .sl none 0]).put 0 (.rw 0 [.int .i64 c, .int .i64 d, .fs (bys m)]) = A
    have an : A.n = 1 := by rw [← hA]; simp
    have ag : A.g 0 = .rw 0 [.int .i64 c, .int .i64 d, .fs (bys m)] := by rw [← hA]; exact put_g _ _ _
    obtain ⟨v1, k1, e1, w1⟩ := f_toByteS hl2 1
    rw [pF (h := A) (h1 := k1) (v := v1) (by rw [an]; exact e1) (by rw [an]; exact w1.nofz)]
    have ub : Up A (A.over k1) := up_over (by rw [an, w1.le]; omega)
    have bn : (A.over k1).n = 2 := by rw [over_n (by rw [an, w1.le]; omega), w1.le]
    have o1 : Own (A.over k1) v1 l (some 1) := ⟨w1.own.v, by rw [bn]; omega, by rw [over_ge (by rw [an]; omega)]; exact w1.own.g⟩
    have bg := (ub.g 0 (by omega)).trans ag
    generalize A.over k1 = B at ub bn o1 bg
    rw [frzVs_cons (frz1 o1) frzVs_nil, ob, norm_nil]
    obtain ⟨y, k2, o, e2, w2⟩ := hfs 2
    rw [pF (h := B) (h1 := k2) (v := .agg [.int .i64 c, .int .i64 d, y]) (by rw [bn]; exact e2) (by rw [bn]; exact ⟨by simp [w2.own.sca], w2.z⟩)]
    have uc : Up B (B.over k2) := up_over (by rw [bn]; exact w2.le)
    have cn : (B.over k2).n = k2.n := over_n (by rw [bn]; exact w2.le)
    have o2 : Own (B.over k2) (.s y) m o := by
      cases o with
      | none => exact w2.own
      | some b => exact ⟨w2.own.v, by rw [cn]; exact w2.own.n, by rw [over_ge (by rw [bn]; exact w2.new b rfl)]; exact w2.own.g⟩
    have ob2 : ∀ b, o = some b → 2 ≤ b := w2.new
    have c2 : 2 ≤ (B.over k2).n := by rw [cn]; exact w2.le
    replace o1 := o1.up uc
    replace bg := (uc.g 0 (by omega)).trans bg
    generalize B.over k2 = C at uc cn o2 c2 o1 bg
    simp only [gVA_a, gx0, gx1, ob, gI_i, ln0, ln1, Nat.zero_add, Nat.reduceAdd, if_true]
    rw [st3_new]
    have ud : Up C ((C.new 0 [.int .i64 0, .int .i64 0, .sl none 0]).put C.n (.rw 0 [.int .i64 c, .int .i64 d, y])) := up_st
    have dn : ((C.new 0 [.int .i64 0, .int .i64 0, .sl none 0]).put C.n (.rw 0 [.int .i64 c, .int .i64 d, y])).n = C.n + 1 := n_st
    have dg : ((C.new 0 [.int .i64 0, .int .i64 0, .sl none 0]).put C.n (.rw 0 [.int .i64 c, .int .i64 d, y])).g C.n = .rw 0 [.int .i64 c, .int .i64 d, y] := g_st
    replace o1 := o1.up ud
    replace o2 := o2.up ud
    replace bg := (ud.g 0 (by omega)).trans bg
    generalize (C.new 0 [.int .i64 0, .int .i64 0, .sl none 0]).put C.n (.rw 0 [.int .i64 c, .int .i64 d, y]) = E at ud dn dg o1 o2 bg
    rw [loadN_3 (by omega) dg]
    simp only [gx0, gx1, ob, gI_i, ln0, ln1, Nat.zero_add, Nat.reduceAdd, if_true]
    rw [loadN_3 (by omega) bg]
    simp only [gx0, gx1, ob, gI_i, ln0, ln1, Nat.zero_add, Nat.reduceAdd, if_true]
    rw [frzVs_cons (frz3 o2) (frzVs_cons frzV_agf3 frzVs_nil), ob, norm_nil, pc (p_eqPR hmm) rfl]
    simp only [gV1_s, gB_b, vcase_b, decide_true, Bool.and_self, Bool.not_true, Bool.false_eq_true, if_false, ob, gF_f]
    rw [frzVs_cons (frz1 o1) (frzVs_cons frzV_lv frzVs_nil), ob, norm_nil, pc (p_eqByteS hl) rfl]
    simp only [gV1_s, gB_b, vcase_b, decide_true, Bool.not_true, Bool.false_eq_true, if_false]
    obtain ⟨F, e3, o3, fn, fo⟩ := r_mark (k := 1) o1 (by omega)
    rw [show (1 : Int) = ((1 : Nat) : Int) from rfl, e3, ob]
    simp only [gV1_s, gI_i, vcase_b]
    rw [if_neg (by simp; omega)]
    have tF : tidy E [iv .i64 ((1 + l.length : Nat) : Int)] F = F := tidy_same fn fun b hb => fo b (by intro hh; cases hh; omega)
    rw [tF]
    have fb : But (some 1) E F := ⟨fn, fun b hb => (fo b hb).1⟩
    replace o2 := o2.but fb (fun b hb hh => by cases hh; have := ob2 1 hb; omega)
    replace dg := (fb.g C.n (by intro hh; injection hh with hh; omega)).trans dg
    replace bg := (fb.g 0 (by intro hh; cases hh)).trans bg
    have fN : F.n = C.n + 1 := by rw [fn, dn]
    rw [loadN_3 (by omega) dg]
    simp only [gx0, gx1, ob, gI_i, ln0, ln1, Nat.zero_add, Nat.reduceAdd, if_true]
    rw [loadN_3 (by omega) bg]
    simp only [gx0, gx1, ob, gI_i, ln0, ln1, Nat.zero_add, Nat.reduceAdd, if_true]
    rw [frzVs_cons (frz3 o2) (frzVs_cons frzV_agf3 frzVs_nil), ob, norm_nil, pc (p_eqPR hmm) rfl]
    simp only [gV1_s, gB_b, vcase_b, decide_true, Bool.and_self, Bool.not_true, Bool.false_eq_true, if_false]
    unfold Jn.laws_FnExactCompactPage_0
    rw [vcase_b, if_neg (by simp)]
    simp only [tF]
    rw [loadN_3 (by omega) dg]
    simp only [gx0, gx1, ob, gI_i, ln0, ln1, Nat.zero_add, Nat.reduceAdd, if_true]
    obtain ⟨p, e4, o4, pb⟩ := r_markPR (c := c) (d := d) (k := 1) o2 (by omega)
    rw [show (1 : Int) = ((1 : Nat) : Int) from rfl, e4, ob]
    simp only [gV1_s, gI_i]
    have gN : (tidy F [iv .i64 ((1 + m.length : Nat) : Int)] p).n = C.n + 1 := by rw [pb.n, fN]
    replace dg := (pb.g C.n (fun hh => by have := (show BysW F (.s y) m C.n from by rw [hh] at o2; exact o2).g; rw [dg] at this; cases this)).trans dg
    replace bg := (pb.g 0 (fun hh => by have := ob2 0 hh; omega)).trans bg
    generalize tidy F [iv .i64 ((1 + m.length : Nat) : Int)] p = G at o4 pb gN dg bg
    rw [loadN_3 (by omega) dg]
    simp only [gx0, gx1, ob, gI_i, ln0, ln1, Nat.zero_add, Nat.reduceAdd, if_true]
    rw [frzVs_cons (frz3 o4) (frzVs_cons frzV_iv frzVs_nil), ob, norm_nil, pc (p_heldPR (by omega)) rfl]
    simp only [gV1_s, gI_i, vcase_b]
    rw [if_neg (by simp; omega), if_neg (by simp), p_toByteS hl2]
    simp only [ob, gV1_s, gF_f]
    obtain ⟨y', k5, o5, e5, w5⟩ := hfs 0
    rw [NewB.p3 e5 w5]
    simp only [ob, gVA_a, gx0, gx1, gI_i, gF_f, ln0, ln1, Nat.zero_add, Nat.reduceAdd, if_true]
    rw [st3_new]
    have uk : Up G ((G.new 0 [.int .i64 0, .int .i64 0, .sl none 0]).put G.n (.rw 0 [.int .i64 c, .int .i64 d, .fs (bys m)])) := up_st
    have kn : ((G.new 0 [.int .i64 0, .int .i64 0, .sl none 0]).put G.n (.rw 0 [.int .i64 c, .int .i64 d, .fs (bys m)])).n = G.n + 1 := n_st
    have kg : ((G.new 0 [.int .i64 0, .int .i64 0, .sl none 0]).put G.n (.rw 0 [.int .i64 c, .int .i64 d, .fs (bys m)])).g G.n = .rw 0 [.int .i64 c, .int .i64 d, .fs (bys m)] := g_st
    replace o4 := o4.up uk
    replace dg := (uk.g C.n (by omega)).trans dg
    replace bg := (uk.g 0 (by omega)).trans bg
    generalize (G.new 0 [.int .i64 0, .int .i64 0, .sl none 0]).put G.n (.rw 0 [.int .i64 c, .int .i64 d, .fs (bys m)]) = K at uk kn kg o4 dg bg
    rw [loadN_3 (by omega) kg]
    simp only [gx0, gx1, ob, gI_i, ln0, ln1, Nat.zero_add, Nat.reduceAdd, if_true]
    rw [loadN_3 (by omega) bg]
    simp only [gx0, gx1, ob, gI_i, ln0, ln1, Nat.zero_add, Nat.reduceAdd, if_true]
    rw [frzVs_cons frzV_agf3 (frzVs_cons frzV_agf3 frzVs_nil), ob, norm_nil, pc (p_eqPR hmm) rfl]
    simp only [gV1_s, gB_b, vcase_b, decide_true, Bool.and_self, Bool.not_true, Bool.false_eq_true, if_false]
    rw [loadN_3 (by omega) dg]
    simp only [gx0, gx1, ob, gI_i, ln0, ln1, Nat.zero_add, Nat.reduceAdd, if_true]
    rw [frzVs_cons (frz3 o4) (frzVs_cons frzV_iv frzVs_nil), ob, norm_nil, pc (p_heldPR (by omega)) rfl]
    simp only [gV1_s, gI_i, vcase_b]
    rw [if_neg (by simp; omega), if_neg (by simp)]
end Vm
