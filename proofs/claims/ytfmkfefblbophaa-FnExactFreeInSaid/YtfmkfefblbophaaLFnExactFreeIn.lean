/-
  The law of FreeIn returns true.
-/
import Derived.Test.YtfmkfefblbophaaDFree
import Derived.Test.YtfmkfefblbophaaTByt
set_option linter.unusedVariables false
set_option maxRecDepth 100000
set_option linter.unusedSimpArgs false
namespace Vm
open Go
theorem c_eqIntResult {h : H} {a b c d : Int} : call Ev Fn.laws_eqIntResult [.agg [.int .i64 a, .int .i64 b], .agg [.int .i64 c, .int .i64 d]] h =
    some (bv (decide (a = c) && decide (b = d)), (h.nw 0 [.int .i64 a, .int .i64 b] 0).nw 0 [.int .i64 c, .int .i64 d] 0) := by
  rw [eq_laws_eqIntResult]
  simp (disch := first | omega | (simp only [nw_n] <;> omega) | fail) only [nw_zero, nw_n, load1_nw, load1_nw', List.getElem?_cons_succ, List.getElem?_cons_zero, Option.bind_some, bin_neq]
  by_cases h1 : a = c
  · rw [vcase_neg (by simpa using h1)]
    by_cases h2 : b = d
    · rw [vcase_neg (by simpa using h2)]; simp [h1, h2]
    · rw [vcase_pos h2]; simp [h2]
  · rw [vcase_pos h1]; simp [h1]
theorem run_FnExactFreeIn (h : H) (xs : List V) (hx : ArgsRp PR h [T.S_uint8] xs) : ∃ h', call Ev Fn.laws_FnExactFreeIn xs h = some (bv true, h') := by
  match xs, hx with
  | [x], ⟨h1, _⟩ =>
    obtain ⟨l, hb, hm⟩ := arg_Bytes h1
    unfold maxLen at hm
    rw [eq_laws_FnExactFreeIn, hb.len, Option.bind_some, bin_gtr, Option.bind_some]
    by_cases hq : (l.length : Int) ≤ 1048576
    case neg => rw [vcase_pos (by omega)]; exact ⟨_, rfl⟩
    have hl : l.length ≤ lim := by unfold lim; omega
    rw [vcase_neg (by omega)]
    obtain ⟨X1, w1, b1, e1, o1, x1, _⟩ := c_toByteS hb hl
    rw [e1, Option.bind_some]
    obtain ⟨c2, n2, X2, e2, f2, x2⟩ := c_spec_FreeIn o1.r (by omega)
    rw [e2, Option.bind_some]
    dsimp only
    rw [nw_zero, stN_all (n := 2) rfl rfl rfl, Option.bind_some]
    have y2 := HExt.nw X2 0 [.int .i64 c2, .int .i64 n2] 1
    have z2 := (x1.trans x2).trans y2
    obtain ⟨X3, w3, b3, e3, o3, x3, _⟩ := c_toByteS (hb.mono z2) hl
    rw [e3, Option.bind_some]
    obtain ⟨c4, n4, X4, e4, f4, x4⟩ := c_impl_FreeIn o3.r
    rw [e4, Option.bind_some]
    dsimp only
    obtain ⟨rfl, rfl⟩ := f4.uniq f2
    rw [nw_zero, stN_all (n := 2) rfl rfl rfl, Option.bind_some, loadN_all (n := 2) rfl rfl, Option.bind_some]
    have y4 := HExt.nw X4 0 [.int .i64 c4, .int .i64 n4] 1
    rw [loadN_nw' (by have := x3.1; have := x4.1; have := y2.1; rw [nw_n] at *; omega), x4.loadN (by have := x3.1; rw [nw_n] at this; omega), x3.loadN (by rw [nw_n]; omega), loadN_all (n := 2) rfl rfl, Option.bind_some, c_eqIntResult, Option.bind_some, not_bv, Option.bind_some, vcase_bv, if_neg (by simp)]
    have z4 := ((x4.trans y4).up (e := 0) (cs := [.int .i64 c4, .int .i64 n4]) (k := 0)).up (e := 0) (cs := [.int .i64 c4, .int .i64 n4]) (k := 0)
    obtain ⟨X5, w5, b5, e5, o5, x5, _⟩ := c_toByteS ((((hb.mono z2).mono x3)).mono z4) hl
    rw [e5, Option.bind_some, c_eqByteS ((o3.mono z4).mono x5).r o5.r (by omega), Option.bind_some, not_bv, Option.bind_some, vcase_bv, if_neg (by simp)]
    exact ⟨_, rfl⟩
end Vm
