/-
  The law of KeyText returns true.
-/
import Derived.Test.YtfpcfiaoilcbgaaDoorDKt
import Derived.Test.YtfpcfiaoilcbgaaDoorTyp
set_option linter.unusedVariables false
set_option maxRecDepth 100000
set_option linter.unusedSimpArgs false
namespace Vm
open Go
theorem arg_Key2 {x : V} (hr : ArgRp PR T.laws_Key x) : ∃ t k : Int, x = .agg [.int .i64 t, .int .i64 k] := by
  obtain ⟨cs, n, rfl, hs⟩ := hr.st und_laws_Key
  obtain ⟨m, hf⟩ := hs.st und_laws_Key
  obtain ⟨a0, b0, rfl, h0, a1, b1, rfl, h1, rfl⟩ := hf
  obtain ⟨x0, rfl, w0⟩ := h0.int und_int64
  obtain ⟨x1, rfl, w1⟩ := h1.int und_int64
  exact ⟨x0, x1, rfl⟩
theorem run_FnExactKeyText (xs : List V) (hx : ArgsRp PR [T.laws_Key] xs) : ∃ h', call Ev Fn.laws_FnExactKeyText xs (D 0) = some (bv true, h') := by
  match xs, hx with
  | [x0], ⟨h0, _⟩ =>
    obtain ⟨t, k, rfl⟩ := arg_Key2 h0
    refine law_of ?_
    have e : pureV (call Ev) Fn.laws_toKey [.agg [.int .i64 t, .int .i64 k]] = some (.agg [.int .i64 t, .int .i64 k]) := pu_laws_toKey _ _
    rw [pu_laws_FnExactKeyText, pc e (by simp)]
    simp only [gVA_a, ob, gx0, gx1, gI_i, gS_s, ln0, ln1, Nat.zero_add, Nat.reduceAdd, if_true]
    rw [pc (p_spec_KeyText t k) (by simp)]
    simp only [gVA_a, ob, gx0, gx1, gI_i, gS_s, ln0, ln1, Nat.zero_add, Nat.reduceAdd, if_true]
    rw [pc e (by simp)]
    simp only [gVA_a, ob, gx0, gx1, gI_i, gS_s, ln0, ln1, Nat.zero_add, Nat.reduceAdd, if_true]
    rw [pc (p_KeyText t k) (by simp)]
    simp only [gVA_a, ob, gx0, gx1, gI_i, gS_s, ln0, ln1, Nat.zero_add, Nat.reduceAdd, if_true]
    rw [pc (p_eqText _ _) rfl]
    simp
end Vm
