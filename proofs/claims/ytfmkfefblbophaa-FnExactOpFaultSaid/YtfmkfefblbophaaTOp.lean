/-
  An operation that came in.
-/
import Derived.Test.YtfmkfefblbophaaDOp
set_option linter.unusedVariables false
set_option maxRecDepth 100000
namespace Vm
open Go
structure OpD.ok (o : OpD) : Prop where
  k1 : -9223372036854775808 ≤ o.kind
  k2 : o.kind < 9223372036854775808
  t1 : -9223372036854775808 ≤ o.tx
  t2 : o.tx < 9223372036854775808
  r : o.row.ok
  m1 : -9223372036854775808 ≤ o.mark
  m2 : o.mark < 9223372036854775808
theorem rp_Op {n : Nat} {xs : List S} (hr : Rp PR n T.laws_Op xs) : ∃ o : OpD, xs = o.cs ∧ o.ok := by
  obtain ⟨m, hf⟩ := hr.st und_laws_Op
  obtain ⟨a0, b0, rfl, h0, a1, b1, rfl, h1, a2, b2, rfl, h2, a3, b3, rfl, h3, rfl⟩ := hf
  obtain ⟨x0, rfl, w0⟩ := h0.int und_int64
  obtain ⟨x1, rfl, w1⟩ := h1.int und_int64
  obtain ⟨r, rfl, hrow⟩ := rp_Row h2
  obtain ⟨x3, rfl, w3⟩ := h3.int und_int64
  exact ⟨⟨x0, x1, r, x3⟩, rfl, (wf64 w0).1, (wf64 w0).2, (wf64 w1).1, (wf64 w1).2, hrow, (wf64 w3).1, (wf64 w3).2⟩
theorem arg_Op {x : V} (hr : ArgRp PR T.laws_Op x) : ∃ o : OpD, x = .agg o.cs ∧ o.ok := by
  obtain ⟨cs, n, rfl, h1⟩ := hr.st und_laws_Op
  obtain ⟨r, rfl, h2⟩ := rp_Op h1
  exact ⟨r, rfl, h2⟩
theorem p_szOp (o : OpD) (left : Int) (h1 : 0 ≤ left) (h2 : left < 9223372036854775808) (hz : o.row.text.size ≤ maxLen) :
    pureV (call Ev) Fn.laws_szOp [.agg o.cs, iv .i64 left] = some (iv .i64 (if (o.row.text.size : Int) ≤ left then left - o.row.text.size else -1)) := by
  rw [pu_laws_szOp, pc (p_szRow o.row left h1 h2 hz) rfl]
  simp only [gV1_s, gI_i, vcase_b, decide_eq_true_eq]
  split <;> split <;> first | rfl | omega
theorem p_toOp (o : OpD) : pureV (call Ev) Fn.laws_toOp [.agg o.cs] = some (.agg o.cs) := by
  rw [pu_laws_toOp, pc (p_toRow o.row) rfl]; simp
end Vm
