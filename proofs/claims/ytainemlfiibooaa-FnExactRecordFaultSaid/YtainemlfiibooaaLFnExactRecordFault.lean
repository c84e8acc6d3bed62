/-
  The law of RecordFault returns true.
-/
import Derived.Test.YtainemlfiibooaaDRecS
set_option linter.unusedVariables false
set_option maxRecDepth 100000
set_option linter.unusedSimpArgs false
namespace Vm
open Go
theorem run_FnExactRecordFault (xs : List V) (hx : ArgsRp PR [T.laws_Record] xs) : ∃ h', call Ev Fn.laws_FnExactRecordFault xs (D 0) = some (bv true, h') := by
  match xs, hx with
  | [x], ⟨h0, _⟩ =>
    obtain ⟨r, rfl, hr⟩ := arg_Rec h0
    refine law_of ?_
    rw [pu_laws_FnExactRecordFault, pc (p_szRecord r hr (by omega) (by omega)) rfl]
    simp only [gV1_s, gI_i, vcase_b]
    by_cases hq : (if (r.rs.length : Int) ≤ 1048576 then szRuns r.rs (1048576 - r.rs.length) else -1) < 0
    · rw [if_pos (by simpa using hq)]
    obtain ⟨hm, hn, ht⟩ := szRuns_ok hq
    have hlim : r.rs.length ≤ lim := by unfold lim; omega
    rw [if_neg (by simpa using hq), p_toRecord r hlim hn]
    simp only [ob, gVA_a, gx0, gx1, gI_i, gF_f, ln0, ln1, Nat.zero_add, Nat.reduceAdd, if_true]
    rw [pc (p_spec_RecordFault r hr.r2) rfl]
    simp only [gV1_s, gI_i]
    rw [pc (p_RecordFault r hr.r2) rfl]
    simp only [gV1_s, gI_i, vcase_b, hchk_self]
    rw [if_neg (by simp), pc (p_eqRecord r hr.r2 fun x hx => (hr.r1 x hx).n) rfl]
    simp
end Vm
