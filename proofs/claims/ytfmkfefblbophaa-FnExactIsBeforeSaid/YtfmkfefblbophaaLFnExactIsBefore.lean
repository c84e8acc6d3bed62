/-
  The law of IsBefore returns true.
-/
import Derived.Test.YtfmkfefblbophaaDRow
set_option linter.unusedVariables false
set_option maxRecDepth 100000
set_option linter.unusedSimpArgs false
namespace Vm
open Go
theorem law_IsBefore (a b : RowD) (h : H) (ha : a.text.size ≤ maxLen) (hb : b.text.size ≤ maxLen) : ∃ h', call Ev Fn.laws_FnExactIsBefore [.agg a.cs, .agg b.cs] h = some (bv true, h') := by
  rw [eq_laws_FnExactIsBefore]
  simp only [nw_zero]
  generalize hG : (h.nw 0 a.cs 0).nw 0 b.cs 0 = G
  have gn : G.n = h.n + 2 := by rw [← hG]; simp only [nw_n]
  have ga : G.cells h.n = a.cs := by rw [← hG, nw_cells' (by rw [nw_n]; omega), nw_cells]
  have gb : G.cells (h.n + 1) = b.cs := by rw [← hG, ← nw_n h 0 a.cs 0, nw_cells]
  have la : ∀ {X : H}, HExt G X → loadN 4 X (pv h.n 0) = some a.cs := fun x => by rw [x.loadN (by omega)]; exact loadN_of (by omega) ga rfl
  have lb : ∀ {X : H}, HExt G X → loadN 4 X (pv (h.n + 1) 0) = some b.cs := fun x => by rw [x.loadN (by omega)]; exact loadN_of (by omega) gb rfl
  simp only [nw_n]
  rw [la (HExt.refl _), Option.bind_some]
  by_cases hq : (a.text.size : Int) ≤ 1048576
  case neg => rw [c_szRow' a _ _ (by omega) (by omega) ha hq]; exact ⟨_, rfl⟩
  have x0 : HExt G (G.nw 0 a.cs 0) := HExt.nw _ _ _ _
  rw [c_szRow a _ _ (by omega) hq, Option.bind_some, bin_lss, Option.bind_some, vcase_bv, if_neg (by simpa using hq), lb x0, Option.bind_some]
  by_cases hq2 : (b.text.size : Int) ≤ 1048576 - a.text.size
  case neg => rw [c_szRow' b _ _ (by omega) (by omega) hb hq2]; exact ⟨_, rfl⟩
  rw [c_szRow b _ _ (by omega) hq2, Option.bind_some, bin_lss, Option.bind_some, vcase_bv, if_neg (by simpa using hq2)]
  have x1 := x0.up (e := 0) (cs := b.cs) (k := 0)
  rw [la x1, Option.bind_some, lb x1, Option.bind_some]
  generalize (G.nw 0 a.cs 0).nw 0 b.cs 0 = X1 at x1
  obtain ⟨X2, e2, x2⟩ := c_toRow a X1
  rw [e2, Option.bind_some, hchk_of x2]
  obtain ⟨X3, e3, x3⟩ := c_toRow b X2
  rw [e3, Option.bind_some, hchk_of (x2.trans x3)]
  obtain ⟨X4, e4, x4⟩ := c_spec_IsBefore a b X3
  rw [e4, Option.bind_some, hchk_of ((x2.trans x3).trans x4)]
  have x5 := ((x1.trans x2).trans x3).trans x4
  rw [la x5, Option.bind_some, lb x5, Option.bind_some]
  obtain ⟨X5, e5, x5'⟩ := c_toRow a X4
  rw [e5, Option.bind_some, hchk_of x5']
  obtain ⟨X6, e6, x6⟩ := c_toRow b X5
  rw [e6, Option.bind_some, hchk_of (x5'.trans x6)]
  obtain ⟨X7, e7, x7⟩ := c_impl_IsBefore a b X6
  rw [e7, Option.bind_some, hchk_of ((x5'.trans x6).trans x7), bin_eqb (by rfl) rfl, Option.bind_some, vcase_bv, if_neg (by simp)]
  exact ⟨_, rfl⟩
theorem run_FnExactIsBefore (h : H) (xs : List V) (hx : ArgsRp PR h [T.laws_Row, T.laws_Row] xs) : ∃ h', call Ev Fn.laws_FnExactIsBefore xs h = some (bv true, h') := by
  match xs, hx with
  | [x, y], ⟨h1, h2, _⟩ =>
    obtain ⟨a, rfl, ha⟩ := arg_Row h1
    obtain ⟨b, rfl, hb⟩ := arg_Row h2
    exact law_IsBefore a b h ha.s hb.s
end Vm
