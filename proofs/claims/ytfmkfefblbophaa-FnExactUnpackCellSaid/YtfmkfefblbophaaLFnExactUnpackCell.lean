/-
  The law of UnpackCell returns true.
-/
import Derived.Test.YtfmkfefblbophaaDUnp
import Derived.Test.YtfmkfefblbophaaTByt
set_option linter.unusedVariables false
set_option maxRecDepth 100000
set_option linter.unusedSimpArgs false
namespace Vm
open Go
theorem run_FnExactUnpackCell (xs : List V) (hx : ArgsRp PR [T.S_uint8] xs) : ∃ h', call Ev Fn.laws_FnExactUnpackCell xs (D 0) = some (bv true, h') := by
  match xs, hx with
  | [x], ⟨h1, _⟩ =>
    obtain ⟨l, rfl, hl⟩ := arg_Bytes h1
    refine law_of ?_
    rw [pu_laws_FnExactUnpackCell, vcase_b, bys_len]
    by_cases hq : (1048576 : Int) < l.length
    · rw [if_pos (by simpa using hq)]
    have hl2 : l.length ≤ lim := by unfold lim; omega
    obtain ⟨c, hc1, hc2⟩ : ∃ c : CellD, pureV (call Ev) Fn.spec_UnpackCell [lv (bys l)] = some (.agg c.cs) ∧ pureV (call Ev) Fn.impl_UnpackCell [lv (bys l)] = some (.agg c.cs) := ⟨_, p_spec_UnpackCell hl2, p_UnpackCell hl2⟩
    rw [if_neg (by simpa using hq), p_toByteS hl2]
    simp only [gVA_a, gV1_s, gI_i, gB_b, gS_s, gF_f, gx0, gx1, ob, ln0, ln1, Nat.zero_add, Nat.reduceAdd, if_true]
    rw [pc hc1 (by simp)]
    simp only [gVA_a, gV1_s, gI_i, gB_b, gS_s, gF_f, gx0, gx1, ob, ln0, ln1, Nat.zero_add, Nat.reduceAdd, if_true]
    rw [pc hc2 (by simp)]
    simp only [gVA_a, gV1_s, gI_i, gB_b, gS_s, gF_f, gx0, gx1, ob, ln0, ln1, Nat.zero_add, Nat.reduceAdd, if_true]
    rw [pc (p_eqCellResult c) rfl]
    simp only [gB_b, gV1_s, vcase_b, Bool.not_true, Bool.false_eq_true, if_false]
    rw [pc (p_eqByteS (by unfold maxLen; unfold lim at hl2; omega)) rfl]
    simp
end Vm
