/-
  Bytes that came in.
-/
import Derived.Test.YtainemlfiibooaaDoorTyp
import Derived.Test.YtainemlfiibooaaDoorDb
set_option linter.unusedVariables false
set_option maxRecDepth 100000
namespace Vm
open Go

theorem rows8 {P : Program} {m : Nat} {e : TypeId} (he : P.underlying e = some (.int .u8)) : ∀ rows : List (List S), (∀ r ∈ rows, r.length = P.cellsOf e ∧ Rp P m e r) → ∃ l : List UInt8, rows = bys l
  | [], _ => ⟨[], rfl⟩
  | r :: rows, hr => by
    obtain ⟨l, h1⟩ := rows8 he rows fun r hm => hr r (by simp [hm])
    obtain ⟨n, h3, h4⟩ := (hr r (by simp)).2.int he
    have hb := wf8 h4
    refine ⟨UInt8.ofNat n.toNat :: l, ?_⟩
    have : cell8 (UInt8.ofNat n.toNat) = .int .u8 n := by
      unfold cell8
      congr 1
      simp
      omega
    rw [h1, h3]
    simp only [bys, List.map_cons, this]
theorem bys_of {P : Program} {n : Nat} {t e : TypeId} {s : S} (ht : P.underlying t = some (.slice e)) (he : P.underlying e = some (.int .u8)) (hr : Rp P n t [s]) : ∃ l, s = .fs (bys l) ∧ l.length ≤ maxLen := by
  obtain ⟨m, rows, h1, h2, h3⟩ := hr.slice ht
  obtain ⟨l, rfl⟩ := rows8 he rows h3
  cases h1
  exact ⟨l, rfl, by simpa using h2⟩
theorem rp_Bytes {n : Nat} {s : S} (hr : Rp PR n T.S_uint8 [s]) : ∃ l, s = .fs (bys l) ∧ l.length ≤ maxLen := bys_of und_S_uint8 und_uint8 hr
theorem arg_Bytes {x : V} (hr : ArgRp PR T.S_uint8 x) : ∃ l, x = lv (bys l) ∧ l.length ≤ maxLen := by
  obtain ⟨s, n, rfl, h1⟩ := hr.slice und_S_uint8
  obtain ⟨l, rfl, h2⟩ := rp_Bytes h1
  exact ⟨l, rfl, h2⟩
theorem arg_u8 {x : V} (hr : ArgRp PR T.uint8 x) : ∃ c : UInt8, x = iv .u8 c.toNat := by
  obtain ⟨n, rfl, h⟩ := hr.int und_uint8
  have := wf8 h
  exact ⟨UInt8.ofNat n.toNat, by congr 2; simp; omega⟩
end Vm
