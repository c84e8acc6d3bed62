/-
  The law of RowsFault returns true.
-/
import Derived.Test.YtfmkfefblbophaaTRows
set_option linter.unusedVariables false
set_option maxRecDepth 100000
set_option linter.unusedSimpArgs false
namespace Vm
open Go
theorem run_FnExactRowsFault (h : H) (xs : List V) (hx : ArgsRp PR h [T.S_laws_Row] xs) : ∃ h', call Ev Fn.laws_FnExactRowsFault xs h = some (bv true, h') := by
  match xs, hx with
  | [x], ⟨h1, _⟩ =>
    obtain ⟨rs, hv, hok, hm⟩ := arg_Rows h1
    have hs : ∀ r ∈ rs, r.text.size ≤ maxLen := fun r hr => (hok r hr).s
    obtain ⟨n, X0, e0, x0, hn⟩ := c_szRowS hv hs hm
    rw [eq_laws_FnExactRowsFault, e0, Option.bind_some, bin_lss, Option.bind_some]
    by_cases hq : n < 0
    · rw [vcase_pos hq]; exact ⟨_, rfl⟩
    have hl : rs.length ≤ 1048576 := by omega
    rw [vcase_neg hq]
    obtain ⟨X1, w1, b1, e1, o1, x1, _⟩ := c_toRowS (hv.mono x0) (by unfold lim; omega)
    rw [e1, Option.bind_some, c_spec_RowsFault o1.r hs (by omega), Option.bind_some]
    obtain ⟨X2, w2, b2, e2, o2, x2, _⟩ := c_toRowS ((hv.mono x0).mono x1) (by unfold lim; omega)
    rw [e2, Option.bind_some]
    obtain ⟨X3, e3, x3⟩ := c_impl_RowsFault o2.r hs (by omega)
    rw [e3, Option.bind_some, bin_neq, Option.bind_some, vcase_neg (by simp)]
    obtain ⟨X4, w4, b4, e4, o4, x4, _⟩ := c_toRowS ((((hv.mono x0).mono x1).mono x2).mono x3) (by unfold lim; omega)
    rw [e4, Option.bind_some]
    obtain ⟨X5, e5, x5⟩ := c_eqRowS ((o2.mono x3).mono x4).r o4.r (by omega)
    rw [e5, Option.bind_some, not_bv, Option.bind_some, vcase_bv, if_neg (by simp)]
    exact ⟨_, rfl⟩
end Vm
