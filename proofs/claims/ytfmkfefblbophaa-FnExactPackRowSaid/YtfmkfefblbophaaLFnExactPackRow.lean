/-
  The law of PackRow returns true.
-/
import Derived.Test.YtfmkfefblbophaaDCell
import Derived.Test.YtfmkfefblbophaaDRes
set_option linter.unusedVariables false
set_option maxRecDepth 100000
set_option linter.unusedSimpArgs false
namespace Vm
open Go
theorem run_FnExactPackRow (h : H) (xs : List V) (hx : ArgsRp PR h [T.int64, T.laws_Row] xs) : ∃ h', call Ev Fn.laws_FnExactPackRow xs h = some (bv true, h') := by
  match xs, hx with
  | [x, y], ⟨g1, g2, _⟩ =>
    obtain ⟨fl, rfl, hw⟩ := g1.int und_int64
    obtain ⟨a, rfl, hok⟩ := arg_Row g2
    have ha := hok.s
    have hlen := packL_len fl a
    rw [eq_laws_FnExactPackRow]
    simp only [nw_zero]
    generalize hG : h.nw 0 a.cs 0 = G
    have gn : G.n = h.n + 1 := by rw [← hG]; simp only [nw_n]
    have ga : G.cells h.n = a.cs := by rw [← hG, nw_cells]
    have la : ∀ {X : H}, HExt G X → loadN 4 X (pv h.n 0) = some a.cs := fun x => by rw [x.loadN (by omega)]; exact loadN_of (by omega) ga rfl
    rw [la (HExt.refl _), Option.bind_some]
    by_cases hq : (a.text.size : Int) ≤ 1048576
    case neg => rw [c_szRow' a _ _ (by omega) (by omega) ha hq]; exact ⟨_, rfl⟩
    have x0 : HExt G (G.nw 0 a.cs 0) := HExt.nw _ _ _ _
    rw [c_szRow a _ _ (by omega) hq, Option.bind_some, bin_lss, Option.bind_some, vcase_neg (by omega), la x0, Option.bind_some]
    generalize G.nw 0 a.cs 0 = X0 at x0
    obtain ⟨X1, e1, x1⟩ := c_toRow a X0
    rw [e1, Option.bind_some]
    obtain ⟨X2, ys, b1, e2, o1, x2, l1⟩ := c_spec_PackRow fl a ha X1
    rw [e2, Option.bind_some]
    dsimp only
    rw [stN_all (n := 2) rfl rfl rfl, Option.bind_some]
    have y1 := HExt.nw X2 0 [.int .i64 (packC fl a), ys] 1
    have ws : loadN 2 (X2.nw 0 [.int .i64 (packC fl a), ys] 1) (pv X2.n 0) = some [.int .i64 (packC fl a), ys] := loadN_all rfl rfl
    have n1 : (X2.nw 0 [.int .i64 (packC fl a), ys] 1).n = X2.n + 1 := nw_n _ _ _ _
    generalize X2.nw 0 [.int .i64 (packC fl a), ys] 1 = Y1 at *
    have z1 := ((x0.trans x1).trans x2).trans y1
    rw [la z1, Option.bind_some]
    obtain ⟨X3, e3, x3⟩ := c_toRow a Y1
    rw [e3, Option.bind_some]
    obtain ⟨X4, yg, b2, e4, o2, x4, l2⟩ := c_impl_PackRow fl a ha X3
    rw [e4, Option.bind_some]
    dsimp only
    rw [stN_all (n := 2) rfl rfl rfl, Option.bind_some]
    have y2 := HExt.nw X4 0 [.int .i64 (packC fl a), yg] 1
    have gs : loadN 2 (X4.nw 0 [.int .i64 (packC fl a), yg] 1) (pv X4.n 0) = some [.int .i64 (packC fl a), yg] := loadN_all rfl rfl
    have n2 : (X4.nw 0 [.int .i64 (packC fl a), yg] 1).n = X4.n + 1 := nw_n _ _ _ _
    generalize X4.nw 0 [.int .i64 (packC fl a), yg] 1 = Y2 at *
    have m3 := x3.1
    have m4 := x4.1
    have mz := z1.1
    have ws2 : loadN 2 Y2 (pv X2.n 0) = some [.int .i64 (packC fl a), ys] := by rw [((x3.trans x4).trans y2).loadN (by omega)]; exact ws
    have os2 : Own Y2 (.s ys) (packL fl a) b1 := (o1.mono y1).mono ((x3.trans x4).trans y2)
    have og2 : Own Y2 (.s yg) (packL fl a) b2 := o2.mono y2
    have g2' := not_own' o2 (b := X4.n) (Nat.le_refl _)
    have w2' : X2.n ∉ b2.toList := not_own l2 (by omega)
    have s2' : ∀ b, b1 = some b → b ∉ b2.toList := fun b hb => not_own l2 (by have := o1.lt' b (by simp [hb]); omega)
    have h2' : h.n ∉ b2.toList := not_own l2 (by omega)
    have la2 : loadN 4 Y2 (pv h.n 0) = some a.cs := la (((z1.trans x3).trans x4).trans y2)
    rw [gs, Option.bind_some, ws2, Option.bind_some]
    obtain ⟨X5, e5, x5⟩ := c_eqBy (c := packC fl a) (c' := packC fl a) og2.r os2.r (by omega)
    rw [e5, Option.bind_some, not_bv, Option.bind_some, vcase_bv, if_neg (by simp)]
    have f5 : Off Y2 X5 b2.toList := x5.off _
    rw [f5.loadN (by omega) g2', gs, Option.bind_some]
    obtain ⟨X6, e6, o6, f6'⟩ := c_markBy (c := packC fl a) (k := 1) (og2.mono x5) (by omega)
    have f6 : Off Y2 X6 b2.toList := f5.trans f6'
    rw [show iv .i64 1 = iv .i64 ((1 : Nat) : Int) from rfl, e6, Option.bind_some, f6.loadN (by omega) g2', gs, Option.bind_some]
    obtain ⟨X7, e7, x7⟩ := c_heldBy (c := packC fl a) o6.r (by omega)
    have f7 : Off Y2 X7 b2.toList := f6.trans (x7.off _)
    rw [e7, Option.bind_some, bin_lss, Option.bind_some, vcase_neg (by omega), bin_neq, Option.bind_some, vcase_neg (by simp), f7.loadN (by omega) h2', la2, Option.bind_some]
    obtain ⟨X8, e8, x8⟩ := c_toRow a X7
    rw [e8, Option.bind_some]
    obtain ⟨X9, yh, b9, e9, o9, x9, l9⟩ := c_impl_PackRow fl a ha X8
    rw [e9, Option.bind_some]
    dsimp only
    rw [stN_all (n := 2) rfl rfl rfl, Option.bind_some]
    have y9 := HExt.nw X9 0 [.int .i64 (packC fl a), yh] 1
    have hs : loadN 2 (X9.nw 0 [.int .i64 (packC fl a), yh] 1) (pv X9.n 0) = some [.int .i64 (packC fl a), yh] := loadN_all rfl rfl
    generalize X9.nw 0 [.int .i64 (packC fl a), yh] 1 = Y9 at *
    have x89 := (x8.trans x9).trans y9
    have f9 : Off Y2 Y9 b2.toList := f7.trans (x89.off _)
    rw [hs, Option.bind_some, f9.loadN (by omega) w2', ws2, Option.bind_some]
    obtain ⟨X10, e10, x10⟩ := c_eqBy (c := packC fl a) (c' := packC fl a) (o9.mono y9).r (os2.off f9 s2').r (by omega)
    rw [e10, Option.bind_some, not_bv, Option.bind_some, vcase_bv, if_neg (by simp)]
    have f10 : Off Y2 X10 b2.toList := f9.trans (x10.off _)
    rw [f10.loadN (by omega) g2', gs, Option.bind_some]
    obtain ⟨X11, e11, x11⟩ := c_heldBy (c := packC fl a) (((o6.mono x7).mono x89).mono x10).r (by omega)
    rw [e11, Option.bind_some, bin_lss, Option.bind_some, vcase_neg (by omega), bin_neq, Option.bind_some, vcase_neg (by simp)]
    exact ⟨_, rfl⟩
end Vm
