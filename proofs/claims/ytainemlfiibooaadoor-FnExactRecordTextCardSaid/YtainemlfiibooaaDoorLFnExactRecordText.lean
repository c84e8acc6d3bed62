/-
  The law of RecordText returns true.
-/
import Derived.Test.YtainemlfiibooaaDoorDRt
import Derived.Test.YtainemlfiibooaaDoorTyp
set_option linter.unusedVariables false
set_option maxRecDepth 100000
set_option linter.unusedSimpArgs false
namespace Vm
open Go
theorem run_FnExactRecordText (xs : List V) (hx : ArgsRp PR [T.laws_Record] xs) : ∃ h', call Ev Fn.laws_FnExactRecordText xs (D 0) = some (bv true, h') := by
  match xs, hx with
  | [x0], ⟨h0, _⟩ =>
    obtain ⟨r, rfl, hr⟩ := arg_Rec h0
    refine law_of ?_
    have e0 := pu_laws_FnExactRecordText r.kind r.tx r.page (runs r.rs)
    refine e0.trans ?_
    have es : pureV (call Ev) Fn.laws_szRecord [.agg [.int .i64 r.kind, .int .i64 r.tx, .int .i64 r.page, .fs (runs r.rs)], iv .i64 1048576] = _ := p_szRecord r hr (by omega) (by omega)
    rw [pc es rfl]
    simp only [gV1_s, gI_i, vcase_b, decide_eq_true_eq]
    by_cases hq : (if (r.rs.length : Int) ≤ 1048576 then szRuns r.rs (1048576 - r.rs.length) else -1) < 0
    · rw [if_pos hq]
    rw [if_neg hq]
    have hm : (r.rs.length : Int) ≤ 1048576 := by
      by_cases h : (r.rs.length : Int) ≤ 1048576
      · exact h
      · rw [if_neg h] at hq; omega
    rw [if_pos hm] at hq
    have hn : ∀ x ∈ r.rs, x.l.length ≤ lim := fun x hx => by have := szRuns_all r.rs (1048576 - r.rs.length) (by omega) x hx; unfold lim; omega
    have et : pureV (call Ev) Fn.laws_toRecord [.agg [.int .i64 r.kind, .int .i64 r.tx, .int .i64 r.page, .fs (runs r.rs)]] = some (.agg r.cs) := p_toRecord r (by unfold lim; omega) hn
    obtain ⟨c, s, e1, f1, f2⟩ := p_RecordText r hr.r2
    obtain ⟨s1, s2⟩ := p_spec_RecordText r hr.r2
    have e2 : pureV (call Ev) Fn.spec_RecordText [.agg r.cs] = some (.agg [.int .i64 c, .str s]) := by
      by_cases hc : recF r = 0
      · obtain ⟨a1, k, t, p, w, a2⟩ := f2 hc
        rw [a1, a2]; exact s2 k t p hc w
      · obtain ⟨a1, a2⟩ := f1 hc
        rw [a1, a2]; exact s1 hc
    have e1' : pureV (call Ev) Fn.impl_RecordText [.agg [.int .i64 r.kind, .int .i64 r.tx, .int .i64 r.page, .fs (runs r.rs)]] = _ := e1
    have e2' : pureV (call Ev) Fn.spec_RecordText [.agg [.int .i64 r.kind, .int .i64 r.tx, .int .i64 r.page, .fs (runs r.rs)]] = _ := e2
    have e3 : pureV (call Ev) Fn.laws_eqRecord [.agg [.int .i64 r.kind, .int .i64 r.tx, .int .i64 r.page, .fs (runs r.rs)], .agg [.int .i64 r.kind, .int .i64 r.tx, .int .i64 r.page, .fs (runs r.rs)]] = some (bv true) := p_eqRecord r hr.r2 fun x hx => (hr.r1 x hx).n
    simp only [et, gVA_a, ob, gx0, gx1, gI_i, gF_f, ln0, ln1, Nat.zero_add, Nat.reduceAdd, if_true]
    rw [pc e2' rfl]
    simp only [gVA_a, ob, gx0, gx1, gI_i, gS_s, ln0, ln1, Nat.zero_add, Nat.reduceAdd, if_true]
    rw [pc e1' rfl]
    simp only [gVA_a, ob, gx0, gx1, gI_i, gS_s, ln0, ln1, Nat.zero_add, Nat.reduceAdd, if_true]
    rw [pc (p_eqText _ _) rfl]
    simp only [gV1_s, gB_b]
    rw [if_neg (by simp)]
    simp only [hchk_self]
    rw [pc e3 rfl]
    simp
end Vm
