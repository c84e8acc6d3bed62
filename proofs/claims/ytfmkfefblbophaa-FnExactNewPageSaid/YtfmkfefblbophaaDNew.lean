/-
  What makes a new page, and what the helpers on a page's result come to.
-/
import Derived.Test.YtfmkfefblbophaaDFree
set_option linter.unusedVariables false
set_option maxRecDepth 100000
set_option linter.unusedSimpArgs false
namespace Vm
open Go

def newP (c : UInt8) : List UInt8 := ((List.replicate 64 c).set 0 0).set 1 64
theorem newP_len (c : UInt8) : (newP c).length = 64 := by simp [newP]
theorem fill_end {m : List UInt8} {c : UInt8} (hl : m.length = 64) (h : ∀ j, j < 64 → m[j]? = some c) : m = List.replicate 64 c := by
  refine List.ext_getElem? fun j => ?_
  by_cases hj : j < 64
  · rw [h j hj, List.getElem?_replicate, if_pos hj]
  · rw [List.getElem?_eq_none (by omega), List.getElem?_eq_none (by simp; omega)]
theorem fill_step {m : List UInt8} {c : UInt8} {i : Nat} (hl : m.length = 64) (hi : i < 64) (h : ∀ j, j < i → m[j]? = some c) : ∀ j, j < i + 1 → (m.set i c)[j]? = some c := by
  intro j hj
  by_cases hji : j = i
  · subst hji; rw [List.getElem?_set_self (by omega)]
  · rw [List.getElem?_set_ne (by omega)]; exact h j (by omega)
theorem c_newPage (c : UInt8) (h : H) : ∃ h' w, call Ev Fn.impl_newPage [iv .u8 (c.toNat : Int)] h = some (w, h') ∧ BysW h' w (newP c) h.n ∧ HExt h h' := by
  have loop : ∀ (k i : Nat) (hh : H) (w : V) (m : List UInt8), i + k = 64 → m.length = 64 → (∀ j, j < i → m[j]? = some c) → HExt h hh → BysW hh w m h.n →
      ∃ h', Lp.impl_newPage 0 [iv .u8 (c.toNat : Int), w, iv .i64 64, iv .i64 i] hh = some (.done [w] h') ∧ HExt h h' ∧ BysW h' w (List.replicate 64 c) h.n := by
    intro k
    induction k with
    | zero =>
      intro i hh w m hi hm hj hx hw
      rw [eq_impl_newPage_l0, vcase_neg (by omega)]
      exact ⟨hh, rfl, hx, by rw [← fill_end hm (fun j hjl => hj j (by omega))]; exact hw⟩
    | succ k ih =>
      intro i hh w m hi hm hj hx hw
      obtain ⟨p, h1, e1, e2, w1, n1, x1, _⟩ := hw.set (k := .i64) (i := (i : Int)) (by omega) (by omega) c rfl
      rw [eq_impl_newPage_l0, vcase_pos (by omega), e1, Option.bind_some, e2, Option.bind_some, w64 (by omega) (by omega), show (i : Int) + 1 = ((i + 1 : Nat) : Int) from by omega]
      exact ih (i + 1) h1 w _ (by omega) (by simpa using hm) (by simpa using fill_step hm (by omega) hj) (x1 h hx (Nat.le_refl _)) w1
  have hmk : mkSl 1 [.int .u8 0] h (iv .i64 64) (iv .i64 64) = _ := mkSl_bytes (h := h) (n := 64) (by unfold lim; omega)
  rw [eq_impl_newPage, hmk, Option.bind_some, lenSl, Option.bind_some]
  obtain ⟨h1, e1, x1, w1⟩ := loop 64 0 _ (sv h.n 0 64) (List.replicate 64 0) rfl (by simp) (fun j hj => by omega) (HExt.refl h).new (BysW.newly h _ (by simp))
  rw [show iv .i64 ((64 : Nat) : Int) = iv .i64 64 from rfl, show iv .i64 0 = iv .i64 ((0 : Nat) : Int) from rfl, e1, Option.bind_some]
  simp only [lcase, List.getElem?_cons_zero, Option.bind_some]
  obtain ⟨p2, h2, e2, e2', w2, n2, x2, _⟩ := w1.set (k := .i64) (i := ((0 : Nat) : Int)) (by omega) (by simp) 0 (n := 0) rfl
  obtain ⟨p3, h3, e3, e3', w3, n3, x3, _⟩ := w2.set (k := .i64) (i := 1) (by omega) (by simp) 64 (n := 64) rfl
  rw [e2, Option.bind_some, e2', Option.bind_some, e3, Option.bind_some, e3', Option.bind_some]
  exact ⟨h3, _, rfl, w3, x3 h (x2 h x1 (Nat.le_refl _)) (Nat.le_refl _)⟩
theorem c_l2New (c : UInt8) (h : H) : ∃ h' w, call Ev Fn.spec_l2New [iv .u8 (c.toNat : Int)] h = some (w, h') ∧ BysW h' w (newP c) h.n ∧ HExt h h' := by
  have loop : ∀ (k i : Nat) (hh : H) (w : V) (m : List UInt8), i + k = 64 → m.length = 64 → (∀ j, j < i → m[j]? = some c) → HExt h hh → BysW hh w m h.n →
      ∃ h', Lp.spec_l2New 0 [iv .u8 (c.toNat : Int), w, iv .i64 i] hh = some (.done [w] h') ∧ HExt h h' ∧ BysW h' w (List.replicate 64 c) h.n := by
    intro k
    induction k with
    | zero =>
      intro i hh w m hi hm hj hx hw
      rw [eq_spec_l2New_l0, vcase_neg (by omega)]
      exact ⟨hh, rfl, hx, by rw [← fill_end hm (fun j hjl => hj j (by omega))]; exact hw⟩
    | succ k ih =>
      intro i hh w m hi hm hj hx hw
      obtain ⟨p, h1, e1, e2, w1, n1, x1, _⟩ := hw.set (k := .i64) (i := (i : Int)) (by omega) (by omega) c rfl
      rw [eq_spec_l2New_l0, vcase_pos (by omega), e1, Option.bind_some, e2, Option.bind_some, w64 (by omega) (by omega), show (i : Int) + 1 = ((i + 1 : Nat) : Int) from by omega]
      exact ih (i + 1) h1 w _ (by omega) (by simpa using hm) (by simpa using fill_step hm (by omega) hj) (x1 h hx (Nat.le_refl _)) w1
  have hmk : mkSl 1 [.int .u8 0] h (iv .i64 64) (iv .i64 64) = _ := mkSl_bytes (h := h) (n := 64) (by unfold lim; omega)
  rw [eq_spec_l2New, hmk, Option.bind_some]
  obtain ⟨h1, e1, x1, w1⟩ := loop 64 0 _ (sv h.n 0 64) (List.replicate 64 0) rfl (by simp) (fun j hj => by omega) (HExt.refl h).new (BysW.newly h _ (by simp))
  rw [show iv .i64 0 = iv .i64 ((0 : Nat) : Int) from rfl, e1, Option.bind_some]
  simp only [lcase, List.getElem?_cons_zero, Option.bind_some]
  obtain ⟨p2, h2, e2, e2', w2, n2, x2, _⟩ := w1.set (k := .i64) (i := ((0 : Nat) : Int)) (by omega) (by simp) 0 (n := 0) rfl
  obtain ⟨p3, h3, e3, e3', w3, n3, x3, _⟩ := w2.set (k := .i64) (i := 1) (by omega) (by simp) 64 (n := 64) rfl
  rw [e2, Option.bind_some, e2', Option.bind_some, e3, Option.bind_some, e3', Option.bind_some]
  exact ⟨h3, _, rfl, w3, x3 h (x2 h x1 (Nat.le_refl _)) (Nat.le_refl _)⟩

theorem c_eqPg {h : H} {c s c' s' : Int} {y y' : S} {l l' : List UInt8} (hy : Bys h (.s y) l) (hy' : Bys h (.s y') l') (hl : l.length < 2 ^ 62) :
    ∃ h', call Ev Fn.laws_eqPageResult [.agg [.int .i64 c, .int .i64 s, y], .agg [.int .i64 c', .int .i64 s', y']] h = some (bv (decide (c = c') && (decide (s = s') && decide (l = l'))), h') ∧ HExt h h' := by
  rw [eq_laws_eqPageResult]
  simp (disch := first | omega | (simp only [nw_n] <;> omega) | fail) only [nw_zero, nw_n, load1_nw, load1_nw', List.getElem?_cons_succ, List.getElem?_cons_zero, Option.bind_some, bin_neq]
  have x : HExt h ((h.nw 0 [.int .i64 c, .int .i64 s, y] 0).nw 0 [.int .i64 c', .int .i64 s', y'] 0) := (HExt.refl h).up.up
  by_cases h1 : c = c'
  case neg => rw [vcase_pos h1]; exact ⟨_, by simp [h1], x⟩
  rw [vcase_neg (by simpa using h1)]
  by_cases h2 : s = s'
  case neg => rw [vcase_pos h2]; exact ⟨_, by simp [h2], x⟩
  rw [vcase_neg (by simpa using h2), c_eqByteS (hy.mono x) (hy'.mono x) hl, Option.bind_some, not_bv, Option.bind_some, vcase_bv]
  by_cases h3 : l = l'
  · rw [if_neg (by simp [h3])]; exact ⟨_, by simp [h1, h2, h3], x⟩
  · rw [if_pos (by simp [h3])]; exact ⟨_, by simp [h3], x⟩
theorem Own.up {h : H} {v : V} {l : List UInt8} {ob : Option Nat} (x : Own h v l ob) {e : Nat} {cs : List S} {k : Nat} : Own (h.nw e cs k) v l ob := x.mono (HExt.nw _ _ _ _)
theorem Own.lt {h : H} {v : V} {l : List UInt8} {ob : Option Nat} (x : Own h v l ob) : ∀ b, ob = some b → b < h.n := by
  intro b hb; subst hb; exact BysW.n x
theorem c_markPg {h : H} {c s : Int} {y : S} {l : List UInt8} {ob : Option Nat} {k : Nat} (hy : Own h (.s y) l ob) (hl : k + l.length < 2 ^ 62) :
    ∃ h', call Ev Fn.laws_markPageResult [.agg [.int .i64 c, .int .i64 s, y], iv .i64 k] h = some (iv .i64 ((k + l.length : Nat) : Int), h') ∧ Own h' (.s y) (marks k l.length) ob ∧ Off h h' ob.toList := by
  rw [eq_laws_markPageResult, nw_zero, load1_nw rfl]
  simp only [List.getElem?_cons_succ, List.getElem?_cons_zero, Option.bind_some]
  obtain ⟨h', e, o, f, n⟩ := c_mark (hy.up (e := 0) (cs := [.int .i64 c, .int .i64 s, y]) (k := 0)) hl
  rw [e, Option.bind_some]
  exact ⟨h', rfl, o, ((HExt.nw h 0 [.int .i64 c, .int .i64 s, y] 0).off _).trans f⟩
theorem c_heldPg {h : H} {c s : Int} {y : S} {k n : Nat} (hy : Bys h (.s y) (marks k n)) (hl : k + n < 2 ^ 62) :
    ∃ h', call Ev Fn.laws_heldPageResult [.agg [.int .i64 c, .int .i64 s, y], iv .i64 k] h = some (iv .i64 ((k + n : Nat) : Int), h') ∧ HExt h h' := by
  rw [eq_laws_heldPageResult, nw_zero, load1_nw rfl]
  simp only [List.getElem?_cons_succ, List.getElem?_cons_zero, Option.bind_some]
  rw [c_held (hy.mono (HExt.nw h 0 [.int .i64 c, .int .i64 s, y] 0)) hl, Option.bind_some, bin_lss, Option.bind_some, vcase_neg (by omega)]
  exact ⟨_, rfl, HExt.nw _ _ _ _⟩
theorem c_impl_NewPage (c : UInt8) (h : H) : ∃ h' y b, call Ev Fn.impl_NewPage [iv .u8 (c.toNat : Int)] h = some (.agg [.int .i64 0, .int .i64 0, y], h') ∧ Own h' (.s y) (newP c) (some b) ∧ h.n ≤ b ∧ HExt h h' := by
  rw [eq_impl_NewPage, nw_zero]
  obtain ⟨h1, w, e, o, x⟩ := c_newPage c (h.nw 0 [.int .i64 0, .int .i64 0, .sl none 0] 0)
  obtain rfl := o.v
  rw [e, Option.bind_some]
  simp only [cellsOf, Option.bind_some]
  rw [if_pos (by simp)]
  obtain ⟨G, e1, e2, x1, g1, n1⟩ := res_store (n := 3) (cs := [.int .i64 0, .int .i64 0, .sl (some ((h.nw 0 [.int .i64 0, .int .i64 0, .sl none 0] 0).n, 0)) (newP c).length]) x rfl rfl
  rw [show ∀ z : S, setAt ([.int .i64 0, .int .i64 0, .sl none 0] : List S) 2 [z] = [.int .i64 0, .int .i64 0, z] from fun _ => rfl, e1, Option.bind_some, e2, Option.bind_some]
  refine ⟨G, _, h.n + 1, rfl, ⟨rfl, by rw [n1]; exact o.n, ?_⟩, by omega, x1⟩
  rw [g1 _ (by omega)]; exact o.g
theorem c_spec_NewPage (c : UInt8) (h : H) : ∃ h' y b, call Ev Fn.spec_NewPage [iv .u8 (c.toNat : Int)] h = some (.agg [.int .i64 0, .int .i64 0, y], h') ∧ Own h' (.s y) (newP c) (some b) ∧ h.n ≤ b ∧ HExt h h' := by
  rw [eq_spec_NewPage, nw_zero]
  obtain ⟨h1, w, e, o, x⟩ := c_l2New c (h.nw 0 [.int .i64 0, .int .i64 0, .sl none 0] 0)
  obtain rfl := o.v
  rw [e, Option.bind_some]
  simp only [cellsOf, Option.bind_some]
  rw [if_pos (by simp)]
  obtain ⟨G, e1, e2, x1, g1, n1⟩ := res_store (n := 3) (cs := [.int .i64 0, .int .i64 0, .sl (some ((h.nw 0 [.int .i64 0, .int .i64 0, .sl none 0] 0).n, 0)) (newP c).length]) x rfl rfl
  rw [show ∀ z : S, setAt ([.int .i64 0, .int .i64 0, .sl none 0] : List S) 2 [z] = [.int .i64 0, .int .i64 0, z] from fun _ => rfl, e1, Option.bind_some, e2, Option.bind_some]
  refine ⟨G, _, h.n + 1, rfl, ⟨rfl, by rw [n1]; exact o.n, ?_⟩, by omega, x1⟩
  rw [g1 _ (by omega)]; exact o.g
end Vm
