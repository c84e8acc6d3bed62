/-
  A row that came in.
-/
import Derived.Test.YtfmkfefblbophaaTyp
import Derived.Test.YtfmkfefblbophaaDl
set_option linter.unusedVariables false
set_option maxRecDepth 100000
namespace Vm
open Go

structure RowD where
  tab : Int
  key : Int
  val : Int
  text : ByteArray
abbrev RowD.cs (r : RowD) : List S := [.int .i64 r.tab, .int .i64 r.key, .int .i64 r.val, .str r.text]
structure RowD.ok (r : RowD) : Prop where
  t1 : -9223372036854775808 ≤ r.tab
  t2 : r.tab < 9223372036854775808
  k1 : -9223372036854775808 ≤ r.key
  k2 : r.key < 9223372036854775808
  v1 : -9223372036854775808 ≤ r.val
  v2 : r.val < 9223372036854775808
  s : r.text.size ≤ maxLen
theorem rp_Row {n : Nat} {xs : List S} (hr : Rp PR n T.laws_Row xs) : ∃ r : RowD, xs = r.cs ∧ r.ok := by
  obtain ⟨m, hf⟩ := hr.st und_laws_Row
  obtain ⟨a0, b0, rfl, h0, a1, b1, rfl, h1, a2, b2, rfl, h2, a3, b3, rfl, h3, rfl⟩ := hf
  obtain ⟨x0, rfl, w0⟩ := h0.int und_int64
  obtain ⟨x1, rfl, w1⟩ := h1.int und_int64
  obtain ⟨x2, rfl, w2⟩ := h2.int und_int64
  obtain ⟨x3, rfl, w3⟩ := h3.str und_string
  exact ⟨⟨x0, x1, x2, x3⟩, rfl, (wf64 w0).1, (wf64 w0).2, (wf64 w1).1, (wf64 w1).2, (wf64 w2).1, (wf64 w2).2, w3⟩
theorem arg_Row {x : V} (hr : ArgRp PR T.laws_Row x) : ∃ r : RowD, x = .agg r.cs ∧ r.ok := by
  obtain ⟨cs, n, rfl, h1⟩ := hr.st und_laws_Row
  obtain ⟨r, rfl, h2⟩ := rp_Row h1
  exact ⟨r, rfl, h2⟩
end Vm
