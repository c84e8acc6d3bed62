/-
  A row that came in, its size and its copy.
-/
import Derived.Test.YtfpcfiaoilcbgaaTyp
import Derived.Test.YtfpcfiaoilcbgaaDRow
set_option linter.unusedVariables false
set_option maxRecDepth 100000
namespace Vm
open Go

theorem rp_Row {n : Nat} {xs : List S} (hr : Rp PR n T.laws_Row xs) : ∃ r : RowD, xs = r.cs ∧ r.ok := by
  obtain ⟨m, hf⟩ := hr.st und_laws_Row
  obtain ⟨a0, b0, rfl, h0, a1, b1, rfl, h1, a2, b2, rfl, h2, a3, b3, rfl, h3, rfl⟩ := hf
  obtain ⟨x0, rfl, w0⟩ := h0.int und_int64
  obtain ⟨x1, rfl, w1⟩ := h1.int und_int64
  obtain ⟨x2, rfl, w2⟩ := h2.int und_int64
  obtain ⟨x3, rfl, w3⟩ := h3.str und_string
  exact ⟨⟨x0, x1, x2, x3⟩, rfl, (wf64 w0).1, (wf64 w0).2, (wf64 w1).1, (wf64 w1).2, (wf64 w2).1, (wf64 w2).2, w3⟩
theorem arg_Row {x : V} (hr : ArgRp PR T.laws_Row x) : ∃ r : RowD, x = .agg r.cs ∧ r.ok := by
  obtain ⟨cs, n, rfl, h1⟩ := hr.st und_laws_Row
  obtain ⟨r, rfl, h2⟩ := rp_Row h1
  exact ⟨r, rfl, h2⟩
theorem p_szRow (r : RowD) (left : Int) (h1 : 0 ≤ left) (h2 : left < 9223372036854775808) (hz : r.text.size ≤ maxLen) :
    pureV (call Ev) Fn.laws_szRow [.agg r.cs, iv .i64 left] = some (iv .i64 (if (r.text.size : Int) ≤ left then left - r.text.size else -1)) := by
  unfold maxLen at hz
  rw [pu_laws_szRow, vcase_b, w64 (by omega) (by omega)]
  simp only [decide_eq_true_eq]
  split <;> split <;> first | rfl | omega
theorem p_toRow (r : RowD) : pureV (call Ev) Fn.laws_toRow [.agg r.cs] = some (.agg r.cs) := pu_laws_toRow _ _ _ _

end Vm
