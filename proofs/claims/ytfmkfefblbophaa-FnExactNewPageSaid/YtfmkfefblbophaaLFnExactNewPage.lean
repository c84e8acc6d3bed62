/-
  The law of NewPage returns true.
-/
import Derived.Test.YtfmkfefblbophaaDNew
import Derived.Test.YtfmkfefblbophaaTByt
set_option linter.unusedVariables false
set_option maxRecDepth 100000
set_option linter.unusedSimpArgs false
namespace Vm
open Go
theorem Off.loadN {h h' : H} {bs : List Nat} (x : Off h h' bs) {n b o : Nat} (hb : b < h.n) (hm : b ∉ bs) : Vm.loadN n h' (pv b o) = Vm.loadN n h (pv b o) := by
  have := x.1
  simp [Vm.loadN, x.cells hb hm, hb, show b < h'.n by omega]
theorem Bys.off {h h' : H} {bs : List Nat} (x : Off h h' bs) {b o n : Nat} {l : List UInt8} (hb : Bys h (sv b o n) l) (hm : b ∉ bs) : Bys h' (sv b o n) l := by
  obtain ⟨a, h1, h2⟩ := hb
  refine ⟨a, h1, ?_⟩
  simp only [cellsS] at h2 ⊢
  split at h2
  · rename_i hc
    have := x.1
    rw [x.cells hc.1 hm, if_pos ⟨by omega, hc.2⟩]; exact h2
  · cases h2
theorem run_FnExactNewPage (h : H) (xs : List V) (hx : ArgsRp PR h [T.uint8] xs) : ∃ h', call Ev Fn.laws_FnExactNewPage xs h = some (bv true, h') := by
  match xs, hx with
  | [x], ⟨h1, _⟩ =>
    obtain ⟨m, rfl, hw⟩ := h1.int und_uint8
    obtain ⟨c, rfl⟩ : ∃ c : UInt8, m = (c.toNat : Int) := ⟨UInt8.ofNat m.toNat, by have := wf8 hw; simp; omega⟩
    have hlen := newP_len c
    rw [eq_laws_FnExactNewPage]
    obtain ⟨X1, ys, b1, e1, o1, l1, x1⟩ := c_spec_NewPage c h
    rw [e1, Option.bind_some]
    dsimp only
    rw [nw_zero, stN_all (n := 3) rfl rfl rfl, Option.bind_some]
    have y1 := HExt.nw X1 0 [.int .i64 0, .int .i64 0, ys] 1
    have lt1 := o1.lt b1 rfl
    have ws : loadN 3 (X1.nw 0 [.int .i64 0, .int .i64 0, ys] 1) (pv X1.n 0) = some [.int .i64 0, .int .i64 0, ys] := loadN_all rfl rfl
    have n1 : (X1.nw 0 [.int .i64 0, .int .i64 0, ys] 1).n = X1.n + 1 := nw_n _ _ _ _
    generalize X1.nw 0 [.int .i64 0, .int .i64 0, ys] 1 = Y1 at *
    obtain ⟨X2, yg, b2, e2, o2, l2, x2⟩ := c_impl_NewPage c Y1
    rw [e2, Option.bind_some]
    dsimp only
    rw [nw_zero, stN_all (n := 3) rfl rfl rfl, Option.bind_some]
    have y2 := HExt.nw X2 0 [.int .i64 0, .int .i64 0, yg] 1
    have lt2 := o2.lt b2 rfl
    have gs : loadN 3 (X2.nw 0 [.int .i64 0, .int .i64 0, yg] 1) (pv X2.n 0) = some [.int .i64 0, .int .i64 0, yg] := loadN_all rfl rfl
    have n2 : (X2.nw 0 [.int .i64 0, .int .i64 0, yg] 1).n = X2.n + 1 := nw_n _ _ _ _
    generalize X2.nw 0 [.int .i64 0, .int .i64 0, yg] 1 = Y2 at *
    have m2 := x2.1
    have ws2 : loadN 3 Y2 (pv X1.n 0) = some [.int .i64 0, .int .i64 0, ys] := by rw [(x2.trans y2).loadN (by omega)]; exact ws
    have os2 : Own Y2 (.s ys) (newP c) (some b1) := (o1.mono y1).mono (x2.trans y2)
    have og2 : Own Y2 (.s yg) (newP c) (some b2) := o2.mono y2
    rw [gs, Option.bind_some, ws2, Option.bind_some]
    obtain ⟨X3, e3, x3⟩ := c_eqPg (c := 0) (s := 0) (c' := 0) (s' := 0) og2.r os2.r (by omega)
    rw [e3, Option.bind_some, not_bv, Option.bind_some, vcase_bv, if_neg (by simp)]
    have f3 : Off Y2 X3 [b2] := x3.off _
    rw [f3.loadN (by omega) (by simp; omega), gs, Option.bind_some]
    obtain ⟨X4, e4, o4, f4'⟩ := c_markPg (c := 0) (s := 0) (k := 1) (og2.mono x3) (by omega)
    have f4 : Off Y2 X4 [b2] := f3.trans f4'
    rw [show iv .i64 1 = iv .i64 ((1 : Nat) : Int) from rfl, e4, Option.bind_some, f4.loadN (by omega) (by simp; omega), gs, Option.bind_some]
    obtain ⟨X5, e5, x5⟩ := c_heldPg (c := 0) (s := 0) o4.r (by omega)
    have f5 : Off Y2 X5 [b2] := f4.trans (x5.off _)
    rw [e5, Option.bind_some, bin_lss, Option.bind_some, vcase_neg (by omega), bin_neq, Option.bind_some, vcase_neg (by simp)]
    obtain ⟨X6, yh, b6, e6, o6, l6, x6⟩ := c_impl_NewPage c X5
    rw [e6, Option.bind_some]
    dsimp only
    rw [nw_zero, stN_all (n := 3) rfl rfl rfl, Option.bind_some]
    have y6 := HExt.nw X6 0 [.int .i64 0, .int .i64 0, yh] 1
    have hs : loadN 3 (X6.nw 0 [.int .i64 0, .int .i64 0, yh] 1) (pv X6.n 0) = some [.int .i64 0, .int .i64 0, yh] := loadN_all rfl rfl
    generalize X6.nw 0 [.int .i64 0, .int .i64 0, yh] 1 = Y6 at *
    have f6 : Off Y2 Y6 [b2] := f5.trans ((x6.trans y6).off _)
    rw [hs, Option.bind_some, f6.loadN (by omega) (by simp; omega), ws2, Option.bind_some]
    obtain ⟨X7, e7, x7⟩ := c_eqPg (c := 0) (s := 0) (c' := 0) (s' := 0) (o6.mono y6).r (os2.off f6 (by intro b hb; cases hb; simp; omega)).r (by omega)
    rw [e7, Option.bind_some, not_bv, Option.bind_some, vcase_bv, if_neg (by simp)]
    have f7 : Off Y2 X7 [b2] := f6.trans (x7.off _)
    rw [f7.loadN (by omega) (by simp; omega), gs, Option.bind_some]
    obtain ⟨X8, e8, x8⟩ := c_heldPg (c := 0) (s := 0) ((((o4.mono x5).mono x6).mono y6).mono x7).r (by omega)
    rw [e8, Option.bind_some, bin_lss, Option.bind_some, vcase_neg (by omega), bin_neq, Option.bind_some, vcase_neg (by simp)]
    exact ⟨_, rfl⟩
end Vm
