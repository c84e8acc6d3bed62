/-
  The law of MayBe returns true.
-/
import Derived.Test.YtfpcfiaoilcbgaaDMay
set_option linter.unusedVariables false
set_option maxRecDepth 100000
set_option linter.unusedSimpArgs false
namespace Vm
open Go
theorem run_FnExactMayBe (xs : List V) (hx : ArgsRp PR [T.S_laws_Row, T.laws_Change] xs) : ∃ h', call Ev Fn.laws_FnExactMayBe xs (D 0) = some (bv true, h') := by
  match xs, hx with
  | [x, y], ⟨h1, h2, _⟩ =>
    obtain ⟨rs, rfl, hok, hl⟩ := arg_Rows h1
    obtain ⟨c, rfl, hc⟩ := arg_Change h2
    have hs : ∀ r ∈ rs, r.text.size ≤ maxLen := fun r hr => (hok r hr).s
    refine law_of ?_
    rw [pu_laws_FnExactMayBe, pc (p_szRowS (by omega) (by omega) hl hs) rfl]
    simp only [gV1_s, gI_i, vcase_b, decide_eq_true_eq]
    by_cases hq : (if (rs.length : Int) ≤ 1048576 then szRows rs (1048576 - rs.length) else -1) < 0
    · rw [if_pos hq]
    rw [if_neg hq]
    have hn : (rs.length : Int) ≤ 1048576 := by
      by_cases h : (rs.length : Int) ≤ 1048576
      · exact h
      · rw [if_neg h] at hq; omega
    rw [if_pos hn] at hq
    rw [if_pos hn]
    have hle := szRows_le rs (1048576 - rs.length) (by omega)
    have hl2 : rs.length ≤ lim := by unfold lim; omega
    rw [pc (p_szChange c (by omega) (by omega) hc) rfl]
    simp only [gV1_s, gI_i, vcase_b, decide_eq_true_eq]
    by_cases hq2 : szChg c (szRows rs (1048576 - rs.length)) < 0
    · rw [if_pos hq2]
    rw [if_neg hq2, p_toRowS hl2]
    simp only [ob, gV1_s, gF_f, hchk_self]
    rw [pc (p_toChange c) (by simp)]
    simp only [ob, gVA_a, gx0, gx1, gI_i, gS_s, gB_b, ln0, ln1, Nat.zero_add, Nat.reduceAdd, if_true]
    rw [pc (p_spec_MayBe c hc hs hl) rfl]
    simp only [gV1_s, gI_i]
    rw [pc (p_toChange c) (by simp)]
    simp only [ob, gVA_a, gx0, gx1, gI_i, gS_s, gB_b, ln0, ln1, Nat.zero_add, Nat.reduceAdd, if_true]
    rw [pc (p_MayBe c hc hs hl) rfl]
    simp only [gV1_s, gI_i, vcase_b]
    rw [if_neg (by simp), pc (p_eqRowS hl) rfl]
    rfl
end Vm
