/-
  Bytes appended and copied; results of a code and bytes: compared, marked, found again.
-/
import Derived.Test.YtfpcfiaoilcbgaaDCpF
set_option linter.unusedVariables false
set_option maxRecDepth 100000
set_option linter.unusedSimpArgs false
namespace Vm
open Go

theorem cellsS_by {h : H} {m : List UInt8} : cellsS 1 h (lv (bys m)) = some (m.map cell8) := by
  simp only [cellsS, if_pos (show ∀ r ∈ bys m, r.length = 1 from bys_row), bys_flat]
theorem cellsS_w {h : H} {v : V} {l : List UInt8} {b : Nat} (w : BysW h v l b) : cellsS 1 h v = some (l.map cell8) := by
  have hc : h.cells b = l.map cell8 := by unfold H.cells; rw [if_pos w.n, w.g]; rfl
  rw [w.v]
  simp only [cellsS, hc]
  rw [if_pos ⟨w.n, by simp⟩, List.drop_zero, List.take_of_length_le (by simp)]
/-- bytes behind bytes that are one's own -/
theorem app_by {h : H} {v : V} {l m : List UInt8} {b : Nat} (w : BysW h v l b) (hm : l.length + m.length ≤ lim) :
    appS 1 h v (lv (bys m)) = some (sv h.n 0 (l ++ m).length, (h.put b .dead).new 1 ((l ++ m).map cell8)) := by
  have h1 := cellsS_w w
  obtain ⟨rfl, w2, w3⟩ := w
  simp only [appS, h1, cellsS_by, Option.bind_some, lenS, bys_len]
  rw [if_pos ⟨w2, hm, by omega⟩, w3]
  simp
theorem app_own {h : H} {l m : List UInt8} {b : Nat} : BysW ((h.put b .dead).new 1 ((l ++ m).map cell8)) (sv h.n 0 (l ++ m).length) (l ++ m) h.n := ⟨rfl, by simp, new_g (h.put b .dead) _ _⟩
/-- the copy of bytes that begins with nothing -/
theorem app_nil {h : H} {m : List UInt8} (hm : m.length ≤ lim) : appS 1 (h.new 1 []) (sv h.n 0 0) (lv (bys m)) = some (sv (h.n + 1) 0 m.length, ((h.new 1 []).put h.n .dead).new 1 (m.map cell8)) := by
  have := app_by (h := h.new 1 []) (v := sv h.n 0 0) (l := []) (m := m) (b := h.n) ⟨rfl, by simp, by simp⟩ (by simpa using hm)
  simpa using this
theorem f_copied {m : List UInt8} (hm : m.length ≤ lim) (n : Nat) : ∃ v h', call Ev Fn.impl_copied [lv (bys m)] (D n) = some (v, h') ∧ NewB n h' v m (some (n + 1)) ∧ h'.n = n + 2 := by
  rw [eq_impl_copied, app_nil hm, ob]
  refine ⟨_, _, rfl, ⟨⟨rfl, by simp, ?_⟩, by simp; omega, fun b hb => by cases hb; omega, fun b h1 h2 s hs => ?_⟩, by simp⟩
  · exact new_g (((D n).new 1 []).put n .dead) _ _
  · have h3 : b = n ∨ b = n + 1 := by simp at h2; omega
    rcases h3 with rfl | rfl
    · rw [new_g' (by simp)] at hs
      simp [Blk.cells] at hs
    · have e : ((((D n).new 1 []).put (D n).n .dead).new 1 (m.map cell8)).g (n + 1) = .rw 1 (m.map cell8) := new_g (((D n).new 1 []).put n .dead) _ _
      dsimp only at hs
      rw [e] at hs
      obtain ⟨c, _, rfl⟩ := List.mem_map.1 hs
      rfl

theorem tidy_but {h h' : H} {o : Option Nat} {n : Int} (hn : h.n ≤ h'.n) (hg : ∀ c, c < h.n → o ≠ some c → h'.g c = h.g c ∧ h'.v c = h.v c) (hc : ∀ b, o = some b → (h'.g b).cells.all (belS h.n) = true) :
    (tidy h [iv .i64 n] h').n = h.n ∧ ∀ c, c < h.n → (tidy h [iv .i64 n] h').g c = h'.g c := by
  unfold tidy
  rw [if_pos]
  · exact ⟨rfl, fun c hc => by simp [hc]⟩
  · refine ⟨hn, by simp [belV, belS], fun b hb => ?_⟩
    by_cases ho : o = some b
    · exact .inr (hc b ho)
    · exact .inl (hg b hb ho)
theorem cell8_bel {n : Nat} (l : List UInt8) : (l.map cell8).all (belS n) = true := by
  rw [List.all_eq_true]
  intro s hs
  obtain ⟨c, _, rfl⟩ := List.mem_map.1 hs
  rfl
end Vm
