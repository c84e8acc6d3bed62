/-
  What the functions on rows come to.
-/
import Derived.Test.YtfmkfefblbophaaEqs
import Derived.Test.YtfmkfefblbophaaTRow
set_option linter.unusedVariables false
set_option maxRecDepth 100000
set_option linter.unusedSimpArgs false
namespace Vm
open Go

theorem c_szRow (r : RowD) (left : Int) (h : H) (h2 : left < 9223372036854775808) (hs : (r.text.size : Int) ≤ left) :
    call Ev Fn.laws_szRow [.agg r.cs, iv .i64 left] h = some (iv .i64 (left - r.text.size), h.nw 0 r.cs 0) := by
  rw [eq_laws_szRow]
  simp only [nw_zero, load1_nw rfl, RowD.cs, List.getElem?_cons_succ, List.getElem?_cons_zero, Option.bind_some, lenStr, bin_sub, bin_lss, vcase_bv, w64 (n := left - r.text.size) (by omega) (by omega), decide_eq_true_eq]
  rw [if_neg (by omega)]
theorem c_szRow' (r : RowD) (left : Int) (h : H) (h1 : 0 ≤ left) (h2 : left < 9223372036854775808) (hz : r.text.size ≤ maxLen) (hs : ¬ (r.text.size : Int) ≤ left) :
    call Ev Fn.laws_szRow [.agg r.cs, iv .i64 left] h = some (iv .i64 (-1), h.nw 0 r.cs 0) := by
  unfold maxLen at hz
  rw [eq_laws_szRow]
  simp only [nw_zero, load1_nw rfl, RowD.cs, List.getElem?_cons_succ, List.getElem?_cons_zero, Option.bind_some, lenStr, bin_sub, bin_lss, vcase_bv, w64 (n := left - r.text.size) (by omega) (by omega), decide_eq_true_eq]
  rw [if_pos (by omega)]

theorem c_toRow (r : RowD) (h : H) : ∃ h', call Ev Fn.laws_toRow [.agg r.cs] h = some (.agg r.cs, h') ∧ HExt h h' := by
  rw [eq_laws_toRow]
  simp (disch := first | omega | (simp only [nw_n, no_int, no_str, List.length_cons, List.length_nil] <;> omega) | fail) only [nw_zero, nw_n, load1_nw, load1_nw', st1_nw, stN_all, st_nw', loadN_all, loadN_nw', RowD.cs, List.getElem?_cons_succ, List.getElem?_cons_zero, Option.bind_some, Option.map_some, List.length_cons, List.length_nil, List.set_cons_zero, List.set_cons_succ]
  exact ⟨_, rfl, (HExt.refl _).up.up.up⟩

theorem c_impl_IsBefore (a b : RowD) (h : H) : ∃ h', call Ev Fn.impl_IsBefore [.agg a.cs, .agg b.cs] h = some (bv (decide (a.tab < b.tab) || (decide (a.tab = b.tab) && decide (a.key < b.key))), h') ∧ HExt h h' := by
  rw [eq_impl_IsBefore]
  simp (disch := first | omega | (simp only [nw_n, no_int, no_str, List.length_cons, List.length_nil] <;> omega) | fail) only [nw_zero, nw_n, load1_nw, load1_nw', RowD.cs, List.getElem?_cons_succ, List.getElem?_cons_zero, Option.bind_some, bin_lss, bin_eql, gcase_bv, decide_eq_true_eq]
  repeat' split
  all_goals exact ⟨_, congrArg some (Prod.ext (by simp [*]) rfl), (HExt.refl _).up.up⟩
theorem c_spec_l1Before (a b : RowD) (h : H) (p q : Nat) (hp : p < h.n) (hq : q < h.n) (ha : h.cells p = a.cs) (hb : h.cells q = b.cs) : call Ev Fn.spec_l1Before [pv p 0, pv q 0] h = some (bv (decide (a.tab < b.tab) || (decide (a.tab = b.tab) && decide (a.key < b.key))), h) := by
  rw [eq_spec_l1Before]
  simp only [notNil_pv, padd_pv, load1, ha, hb, RowD.cs, Nat.zero_add, List.getElem?_cons_succ, List.getElem?_cons_zero, Option.bind_some, bin_lss, bin_eql, gcase_bv, decide_eq_true_eq]
  repeat' split
  all_goals exact congrArg some (Prod.ext (by simp [*]) rfl)
theorem c_spec_IsBefore (a b : RowD) (h : H) : ∃ h', call Ev Fn.spec_IsBefore [.agg a.cs, .agg b.cs] h = some (bv (decide (a.tab < b.tab) || (decide (a.tab = b.tab) && decide (a.key < b.key))), h') ∧ HExt h h' := by
  rw [eq_spec_IsBefore]
  simp only [nw_zero, nw_n]
  rw [c_spec_l1Before a b _ h.n (h.n + 1) (by simp only [nw_n]; omega) (by simp only [nw_n]; omega) (by rw [nw_cells' (by rw [nw_n]; omega), nw_cells]) (by rw [← nw_n h 0 a.cs 0, nw_cells])]
  exact ⟨_, rfl, (HExt.refl _).up.up⟩
end Vm
