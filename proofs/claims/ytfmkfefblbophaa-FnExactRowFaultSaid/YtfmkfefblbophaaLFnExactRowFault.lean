/-
  The law of RowFault returns true.
-/
import Derived.Test.YtfmkfefblbophaaDRow
set_option linter.unusedVariables false
set_option maxRecDepth 100000
set_option linter.unusedSimpArgs false
namespace Vm
open Go
theorem run_FnExactRowFault (h : H) (xs : List V) (hx : ArgsRp PR h [T.laws_Row] xs) : ∃ h', call Ev Fn.laws_FnExactRowFault xs h = some (bv true, h') := by
  match xs, hx with
  | [x], ⟨h1, _⟩ =>
    obtain ⟨a, rfl, hok⟩ := arg_Row h1
    have ha := hok.s
    rw [eq_laws_FnExactRowFault]
    simp only [nw_zero]
    generalize hG : h.nw 0 a.cs 0 = G
    have gn : G.n = h.n + 1 := by rw [← hG]; simp only [nw_n]
    have ga : G.cells h.n = a.cs := by rw [← hG, nw_cells]
    have la : ∀ {X : H}, HExt G X → loadN 4 X (pv h.n 0) = some a.cs := fun x => by rw [x.loadN (by omega)]; exact loadN_of (by omega) ga rfl
    rw [la (HExt.refl _), Option.bind_some]
    by_cases hq : (a.text.size : Int) ≤ 1048576
    case neg => rw [c_szRow' a _ _ (by omega) (by omega) ha hq]; exact ⟨_, rfl⟩
    have x0 : HExt G (G.nw 0 a.cs 0) := HExt.nw _ _ _ _
    rw [c_szRow a _ _ (by omega) hq, Option.bind_some, bin_lss, Option.bind_some, vcase_neg (by omega), la x0, Option.bind_some]
    generalize G.nw 0 a.cs 0 = X1 at x0
    obtain ⟨X2, e2, x2⟩ := c_toRow a X1
    rw [e2, Option.bind_some]
    obtain ⟨X3, e3, x3⟩ := c_spec_RowFault a ha X2
    rw [e3, Option.bind_some, la ((x0.trans x2).trans x3), Option.bind_some]
    obtain ⟨X4, e4, x4⟩ := c_toRow a X3
    rw [e4, Option.bind_some]
    obtain ⟨X5, e5, x5⟩ := c_impl_RowFault a ha X4
    rw [e5, Option.bind_some, bin_neq, Option.bind_some, vcase_bv, if_neg (by simp)]
    exact ⟨_, rfl⟩
end Vm
