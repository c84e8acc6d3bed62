/-
  Bytes that came in.
-/
import Derived.Test.YtfmkfefblbophaaTyp
import Derived.Test.YtfmkfefblbophaaDb
set_option linter.unusedVariables false
set_option maxRecDepth 100000
namespace Vm
open Go

theorem rows8 {P : Program} {h : H} {m : Nat} {e : TypeId} (he : P.underlying e = some (.int .u8)) : ∀ rows : List (List S), (∀ r ∈ rows, r.length = P.cellsOf e ∧ Rp P h m e r) → ∃ l : List UInt8, rows.flatten = l.map cell8 ∧ l.length = rows.length
  | [], _ => ⟨[], rfl, rfl⟩
  | r :: rows, hr => by
    obtain ⟨l, h1, h2⟩ := rows8 he rows fun r hm => hr r (by simp [hm])
    obtain ⟨n, h3, h4⟩ := (hr r (by simp)).2.int he
    have hb := wf8 h4
    refine ⟨UInt8.ofNat n.toNat :: l, ?_, by simp [h2]⟩
    rw [List.flatten_cons, h1, h3, List.map_cons]
    have : cell8 (UInt8.ofNat n.toNat) = .int .u8 n := by
      unfold cell8
      congr 1
      simp
      omega
    rw [this]; rfl
theorem bys_of {P : Program} {h : H} {n : Nat} {t e : TypeId} {s : S} (ht : P.underlying t = some (.slice e)) (he : P.underlying e = some (.int .u8)) (hr : Rp P h n t [s]) : ∃ l, Bys h (.s s) l ∧ l.length ≤ maxLen := by
  obtain ⟨m, hr | ⟨b, rows, h1, h2, h3, h4, h5⟩⟩ := hr.slice ht
  · cases hr; exact ⟨[], Bys.nil h, Nat.zero_le _⟩
  · cases h1
    obtain ⟨l, g1, g2⟩ := rows8 he rows h5
    refine ⟨l, ⟨some (b, 0), by rw [g2], ?_⟩, by omega⟩
    have hc : h.cells b = l.map cell8 := by unfold H.cells; rw [if_pos h2, h3, ← g1]; rfl
    simp only [cellsS, hc]
    rw [if_pos ⟨h2, by simp; omega⟩, List.drop_zero, List.take_of_length_le (by simp; omega)]
theorem arg_Bytes {h : H} {x : V} (hr : ArgRp PR h T.S_uint8 x) : ∃ l, Bys h x l ∧ l.length ≤ maxLen := by
  obtain ⟨s, n, rfl, h1⟩ := hr.slice und_S_uint8
  exact bys_of und_S_uint8 und_uint8 h1
end Vm
