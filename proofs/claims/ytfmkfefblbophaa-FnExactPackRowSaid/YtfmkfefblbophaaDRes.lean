/-
  What the laws' helpers on a result of a code and bytes come to.
-/
import Derived.Test.YtfmkfefblbophaaDFree
set_option linter.unusedVariables false
set_option maxRecDepth 100000
set_option linter.unusedSimpArgs false
namespace Vm
open Go
theorem c_eqBy {h : H} {c c' : Int} {y y' : S} {l l' : List UInt8} (hy : Bys h (.s y) l) (hy' : Bys h (.s y') l') (hl : l.length < 2 ^ 62) :
    ∃ h', call Ev Fn.laws_eqBytesResult [.agg [.int .i64 c, y], .agg [.int .i64 c', y']] h = some (bv (decide (c = c') && decide (l = l')), h') ∧ HExt h h' := by
  rw [eq_laws_eqBytesResult]
  simp (disch := first | omega | (simp only [nw_n] <;> omega) | fail) only [nw_zero, nw_n, load1_nw, load1_nw', List.getElem?_cons_succ, List.getElem?_cons_zero, Option.bind_some, bin_neq]
  have x : HExt h ((h.nw 0 [.int .i64 c, y] 0).nw 0 [.int .i64 c', y'] 0) := (HExt.refl h).up.up
  by_cases h1 : c = c'
  case neg => rw [vcase_pos h1]; exact ⟨_, by simp [h1], x⟩
  rw [vcase_neg (by simpa using h1), c_eqByteS (hy.mono x) (hy'.mono x) hl, Option.bind_some, not_bv, Option.bind_some, vcase_bv]
  by_cases h3 : l = l'
  · rw [if_neg (by simp [h3])]; exact ⟨_, by simp [h1, h3], x⟩
  · rw [if_pos (by simp [h3])]; exact ⟨_, by simp [h3], x⟩
theorem c_markBy {h : H} {c : Int} {y : S} {l : List UInt8} {ob : Option Nat} {k : Nat} (hy : Own h (.s y) l ob) (hl : k + l.length < 2 ^ 62) :
    ∃ h', call Ev Fn.laws_markBytesResult [.agg [.int .i64 c, y], iv .i64 k] h = some (iv .i64 ((k + l.length : Nat) : Int), h') ∧ Own h' (.s y) (marks k l.length) ob ∧ Off h h' ob.toList := by
  rw [eq_laws_markBytesResult, nw_zero, load1_nw rfl]
  simp only [List.getElem?_cons_succ, List.getElem?_cons_zero, Option.bind_some]
  obtain ⟨h', e, o, f, n⟩ := c_mark (hy.mono (HExt.nw h 0 [.int .i64 c, y] 0)) hl
  rw [e, Option.bind_some]
  exact ⟨h', rfl, o, ((HExt.nw h 0 [.int .i64 c, y] 0).off _).trans f⟩
theorem c_heldBy {h : H} {c : Int} {y : S} {k n : Nat} (hy : Bys h (.s y) (marks k n)) (hl : k + n < 2 ^ 62) :
    ∃ h', call Ev Fn.laws_heldBytesResult [.agg [.int .i64 c, y], iv .i64 k] h = some (iv .i64 ((k + n : Nat) : Int), h') ∧ HExt h h' := by
  rw [eq_laws_heldBytesResult, nw_zero, load1_nw rfl]
  simp only [List.getElem?_cons_succ, List.getElem?_cons_zero, Option.bind_some]
  rw [c_held (hy.mono (HExt.nw h 0 [.int .i64 c, y] 0)) hl, Option.bind_some, bin_lss, Option.bind_some, vcase_neg (by omega)]
  exact ⟨_, rfl, HExt.nw _ _ _ _⟩
theorem Own.lt' {h : H} {v : V} {l : List UInt8} {ob : Option Nat} (x : Own h v l ob) : ∀ b, b ∈ ob.toList → b < h.n := by
  intro b hb
  cases ob with
  | none => simp at hb
  | some b' => simp at hb; subst hb; exact BysW.n x
theorem Off.loadN {h h' : H} {bs : List Nat} (x : Off h h' bs) {n b o : Nat} (hb : b < h.n) (hm : b ∉ bs) : Vm.loadN n h' (pv b o) = Vm.loadN n h (pv b o) := by
  have := x.1
  simp [Vm.loadN, x.cells hb hm, hb, show b < h'.n by omega]
theorem not_own {ob : Option Nat} {b m : Nat} (h : ∀ b, ob = some b → m ≤ b) (hb : b < m) : b ∉ ob.toList := by
  cases ob with
  | none => simp
  | some b' => have := h b' rfl; simp; omega
theorem not_own' {h : H} {v : V} {l : List UInt8} {ob : Option Nat} (x : Own h v l ob) {b : Nat} (hb : h.n ≤ b) : b ∉ ob.toList := fun hm => by have := x.lt' b hm; omega
end Vm
