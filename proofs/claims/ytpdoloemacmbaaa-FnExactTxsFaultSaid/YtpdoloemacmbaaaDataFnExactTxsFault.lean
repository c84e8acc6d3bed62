/-
  What both ways of the law come to, and that the law returns true.
-/
import Derived.Test.YtpdoloemacmbaaaTyp
import Derived.Test.YtpdoloemacmbaaaEqs
import Derived.Test.YtpdoloemacmbaaaDl
import Derived.Test.YtpdoloemacmbaaaDataFnExactTxsFault1
set_option linter.unusedVariables false
set_option maxRecDepth 100000
set_option linter.unusedSimpArgs false
set_option linter.unusedSectionVars false
/-
  The law of TxsFault returns true.
-/
namespace Vm
open Go
theorem run_FnExactTxsFault (xs : List V) (hx : ArgsRp PR [T.S_laws_Tx] xs) : ∃ h', call Ev Fn.laws_FnExactTxsFault xs (D 0) = some (bv true, h') := by
  match xs, hx with
  | [x0], ⟨h0, _⟩ =>
    obtain ⟨l, rfl, hr, hl⟩ := arg_Txs h0
    refine law_of ?_
    rw [pu_laws_FnExactTxsFault, pc (p_szTxS (by omega) (by omega) hl hr) rfl]
    simp only [gV1_s, gI_i, vcase_b, decide_eq_true_eq]
    by_cases hq : (if (l.length : Int) ≤ 1048576 then szTxs l (1048576 - l.length) else -1) < 0
    · rw [if_pos hq]
    rw [if_neg hq]
    have hm : (l.length : Int) ≤ 1048576 := by
      by_cases h : (l.length : Int) ≤ 1048576
      · exact h
      · rw [if_neg h] at hq; omega
    rw [if_pos hm] at hq
    have hsm := txs_sm (l := l) (left := 1048576 - l.length) (by omega) (by omega) (by omega)
    have hlim : l.length ≤ lim := by unfold lim; omega
    have hc : cntF l < 2 ^ 62 := by
      have h1 := cnt_le l hsm
      have h2 : l.length * 1048576 ≤ 1048576 * 1048576 := Nat.mul_le_mul_right _ (by omega)
      omega
    rw [p_toTxS hlim hsm]
    simp only [ob, gV1_s, gF_f]
    rw [pc (p_spec_TxsFault hl hr hc) rfl]
    simp only [gV1_s, gI_i]
    rw [pc (p_TxsFault hl hr hc) rfl]
    simp only [gV1_s, gI_i]
    rw [if_neg (by simp), pc (p_eqTxS hl hr) rfl]
    simp
end Vm
