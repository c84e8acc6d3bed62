/-
  A slice of rows that came in.
-/
import Derived.Test.YtfmkfefblbophaaTRow
import Derived.Test.YtfmkfefblbophaaDRows
set_option linter.unusedVariables false
set_option maxRecDepth 100000
namespace Vm
open Go
theorem rows_of {h : H} {m : Nat} : ∀ rows : List (List S), (∀ r ∈ rows, r.length = PR.cellsOf T.laws_Row ∧ Rp PR h m T.laws_Row r) → ∃ rs : List RowD, rows = rws rs ∧ ∀ r ∈ rs, r.ok
  | [], _ => ⟨[], rfl, by simp⟩
  | r :: rows, hr => by
    obtain ⟨rs, h1, h2⟩ := rows_of rows fun r hm => hr r (by simp [hm])
    obtain ⟨a, h3, h4⟩ := rp_Row (hr r (by simp)).2
    refine ⟨a :: rs, by rw [h1, h3]; rfl, fun x hx => ?_⟩
    rcases List.mem_cons.1 hx with rfl | hx
    · exact h4
    · exact h2 x hx
theorem arg_Rows {h : H} {x : V} (hr : ArgRp PR h T.S_laws_Row x) : ∃ rs : List RowD, Sls h 4 x (rws rs) ∧ (∀ r ∈ rs, r.ok) ∧ rs.length ≤ maxLen := by
  obtain ⟨s, n, rfl, h1⟩ := hr.slice und_S_laws_Row
  obtain ⟨m, hr | ⟨b, rows, h1, h2, h3, h4, h5⟩⟩ := h1.slice und_S_laws_Row
  · cases hr; exact ⟨[], Sls.nil h 4, by simp, Nat.zero_le _⟩
  · cases h1
    obtain ⟨rs, rfl, g2⟩ := rows_of rows h5
    have hz := rws_all rs
    refine ⟨rs, ⟨hz, some (b, 0), rfl, ?_⟩, g2, by simpa using h4⟩
    have hc : h.cells b = (rws rs).flatten := by unfold H.cells; rw [if_pos h2, h3]; rfl
    have hl := flat_len hz
    simp only [cellsS, hc]
    rw [if_pos ⟨h2, by omega⟩, List.drop_zero, List.take_of_length_le (by omega)]
end Vm
