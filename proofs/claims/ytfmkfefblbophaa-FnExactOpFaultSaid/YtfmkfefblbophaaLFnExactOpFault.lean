/-
  The law of OpFault returns true.
-/
import Derived.Test.YtfmkfefblbophaaTOp
set_option linter.unusedVariables false
set_option maxRecDepth 100000
set_option linter.unusedSimpArgs false
namespace Vm
open Go
theorem run_FnExactOpFault (xs : List V) (hx : ArgsRp PR [T.laws_Op] xs) : ∃ h', call Ev Fn.laws_FnExactOpFault xs (D 0) = some (bv true, h') := by
  match xs, hx with
  | [x], ⟨h1, _⟩ =>
    obtain ⟨o, rfl, ok⟩ := arg_Op h1
    have hs := ok.r.s
    refine law_of ?_
    rw [pu_laws_FnExactOpFault, pc (p_szOp o _ (by omega) (by omega) hs) rfl]
    simp only [gV1_s, gI_i, vcase_b, decide_eq_true_eq]
    by_cases hq : (o.row.text.size : Int) ≤ 1048576
    case neg => rw [if_neg hq]; rfl
    rw [if_pos hq, if_neg (by omega), pc (p_toOp o) rfl]
    simp only [gVA_a, gI_i, gS_s, List.getElem?_cons_zero, List.getElem?_cons_succ, Option.bind_some, List.length_cons, List.length_nil, Nat.zero_add, Nat.reduceAdd, if_true]
    rw [pc (p_spec_OpFault o hs) rfl]
    simp only [gVA_a, gV1_s, gI_i, gS_s, List.getElem?_cons_zero, List.getElem?_cons_succ, Option.bind_some, List.length_cons, List.length_nil, Nat.zero_add, Nat.reduceAdd, if_true, pc (p_toOp o) rfl, pc (p_OpFault o hs) rfl]
    simp
end Vm
