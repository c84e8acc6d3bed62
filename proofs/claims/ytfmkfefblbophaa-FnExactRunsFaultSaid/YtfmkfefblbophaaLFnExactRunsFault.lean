/-
  The law of RunsFault returns true.
-/
import Derived.Test.YtfmkfefblbophaaDRun
set_option linter.unusedVariables false
set_option maxRecDepth 100000
set_option linter.unusedSimpArgs false
namespace Vm
open Go
theorem run_FnExactRunsFault (xs : List V) (hx : ArgsRp PR [T.S_laws_Run] xs) : ∃ h', call Ev Fn.laws_FnExactRunsFault xs (D 0) = some (bv true, h') := by
  match xs, hx with
  | [x], ⟨h1, _⟩ =>
    obtain ⟨rs, rfl, hok, hl⟩ := arg_Runs h1
    refine law_of ?_
    rw [pu_laws_FnExactRunsFault, pc (p_szRunS (by omega) (by omega) hl fun r hr => (hok r hr).n) rfl]
    simp only [gV1_s, gI_i, vcase_b, decide_eq_true_eq]
    by_cases hq : (if (rs.length : Int) ≤ 1048576 then szRuns rs (1048576 - rs.length) else -1) < 0
    · rw [if_pos hq]
    rw [if_neg hq]
    have hn : (rs.length : Int) ≤ 1048576 := by
      by_cases h : (rs.length : Int) ≤ 1048576
      · exact h
      · rw [if_neg h] at hq; omega
    rw [if_pos hn] at hq
    have hr : ∀ r ∈ rs, r.l.length ≤ lim := fun r hr => by
      have := szRuns_all rs (1048576 - rs.length) (by omega) r hr
      unfold lim; omega
    have hl2 : rs.length ≤ lim := by unfold lim; omega
    rw [p_toRunS hl2 hr]
    simp only [ob, gV1_s, gF_f]
    rw [pc (p_spec_RunsFault hl) rfl]
    simp only [ob, gV1_s, gF_f, gI_i]
    rw [pc (p_RunsFault hl) rfl]
    simp only [ob, gV1_s, gF_f, gI_i, vcase_b]
    rw [if_neg (by simp), pc (p_eqRunS hl fun r hr => (hok r hr).n) rfl]
    simp only [gV1_s, gB_b, vcase_b]
    rfl
end Vm
