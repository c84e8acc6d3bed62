/-
  The law of LongestIn returns true.
-/
import Derived.Test.YtfpcfiaoilcbgaaDLng
set_option linter.unusedVariables false
set_option maxRecDepth 100000
set_option linter.unusedSimpArgs false
namespace Vm
open Go
theorem run_FnExactLongestIn (xs : List V) (hx : ArgsRp PR [T.S_laws_Row, T.int64] xs) : ∃ h', call Ev Fn.laws_FnExactLongestIn xs (D 0) = some (bv true, h') := by
  match xs, hx with
  | [x, y], ⟨h1, h2, _⟩ =>
    obtain ⟨rs, rfl, hok, hl⟩ := arg_Rows h1
    obtain ⟨t, rfl, ht⟩ := h2.int und_int64
    have hs : ∀ r ∈ rs, r.text.size ≤ maxLen := fun r hr => (hok r hr).s
    refine law_of ?_
    rw [pu_laws_FnExactLongestIn, pc (p_szRowS (by omega) (by omega) hl hs) rfl]
    simp only [gV1_s, gI_i, vcase_b, decide_eq_true_eq]
    by_cases hq : (if (rs.length : Int) ≤ 1048576 then szRows rs (1048576 - rs.length) else -1) < 0
    · rw [if_pos hq]
    rw [if_neg hq]
    have hn : (rs.length : Int) ≤ 1048576 := by
      by_cases h : (rs.length : Int) ≤ 1048576
      · exact h
      · rw [if_neg h] at hq; omega
    have hl2 : rs.length ≤ lim := by unfold lim; omega
    rw [p_toRowS hl2]
    simp only [ob, gV1_s, gF_f]
    rw [pc (p_spec_LongestIn hs hl) rfl]
    simp only [ob, gVA_a, gx0, gx1, gI_i, ln0, ln1, Nat.zero_add, Nat.reduceAdd, if_true]
    rw [pc (p_LongestIn hs hl) rfl]
    simp only [ob, gVA_a, gx0, gx1, gI_i, ln0, ln1, Nat.zero_add, Nat.reduceAdd, if_true]
    rw [pc (show pureV (call Ev) Fn.laws_eqIntResult [.agg [.int .i64 (longF rs t).1, .int .i64 (longF rs t).2], .agg [.int .i64 (longF rs t).1, .int .i64 (longF rs t).2]] = some (bv true) from by rw [pu_laws_eqIntResult]; simp) rfl]
    simp only [gV1_s, gB_b, vcase_b]
    rw [if_neg (by simp), pc (p_eqRowS hl) rfl]
    rfl
end Vm
