/-
  The law of PageFault returns true.
-/
import Derived.Test.YtfmkfefblbophaaDPage
import Derived.Test.YtfmkfefblbophaaTByt
set_option linter.unusedVariables false
set_option maxRecDepth 100000
set_option linter.unusedSimpArgs false
namespace Vm
open Go
theorem c_spec_PageFault {h : H} {v : V} {l : List UInt8} (hv : Bys h v l) (hl : l.length < 2 ^ 62) : ∃ c, call Ev Fn.spec_PageFault [v] h = some (iv .i64 c, h) ∧ PageIs l c := by
  obtain ⟨c, e, hc⟩ := c_l2Fault hv hl
  exact ⟨c, by rw [eq_spec_PageFault, e]; rfl, hc⟩
theorem run_FnExactPageFault (h : H) (xs : List V) (hx : ArgsRp PR h [T.S_uint8] xs) : ∃ h', call Ev Fn.laws_FnExactPageFault xs h = some (bv true, h') := by
  match xs, hx with
  | [x], ⟨h1, _⟩ =>
    obtain ⟨l, hb, hm⟩ := arg_Bytes h1
    unfold maxLen at hm
    rw [eq_laws_FnExactPageFault, hb.len, Option.bind_some, bin_gtr, Option.bind_some]
    by_cases hq : (l.length : Int) ≤ 1048576
    case neg => rw [vcase_pos (by omega)]; exact ⟨_, rfl⟩
    have hl : l.length ≤ lim := by unfold lim; omega
    rw [vcase_neg (by omega)]
    obtain ⟨X1, w1, b1, e1, o1, x1, _⟩ := c_toByteS hb hl
    rw [e1, Option.bind_some]
    obtain ⟨c1, e2, f1⟩ := c_spec_PageFault o1.r (by omega)
    rw [e2, Option.bind_some]
    obtain ⟨X3, w3, b3, e3, o3, x3, _⟩ := c_toByteS (hb.mono x1) hl
    rw [e3, Option.bind_some]
    obtain ⟨c4, X4, e4, f4, x4⟩ := c_impl_PageFault o3.r
    rw [e4, Option.bind_some, f4.uniq f1, bin_neq, Option.bind_some, vcase_neg (by simp)]
    obtain ⟨X5, w5, b5, e5, o5, x5, _⟩ := c_toByteS (((hb.mono x1).mono x3).mono x4) hl
    rw [e5, Option.bind_some, c_eqByteS ((o3.mono x4).mono x5).r o5.r (by omega), Option.bind_some, not_bv, Option.bind_some, vcase_bv, if_neg (by simp)]
    exact ⟨_, rfl⟩
end Vm
