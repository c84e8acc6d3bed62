/-
  What both ways of the law come to, and that the law returns true.
-/
import Derived.Test.YtpdoloemacmbaaaTyp
import Derived.Test.YtpdoloemacmbaaaEqs
import Derived.Test.YtpdoloemacmbaaaDl
import Derived.Test.YtpdoloemacmbaaaDataFnExactLockOf1
set_option linter.unusedVariables false
set_option maxRecDepth 100000
set_option linter.unusedSimpArgs false
set_option linter.unusedSectionVars false
/-
  The law of LockOf returns true.
-/
namespace Vm
open Go
theorem p_impl_LockOf {all : List TxD} {k : KeyD} (hl : all.length ≤ maxLen) (hx : ∀ x ∈ all, x.ok) (hc : cntF all < 2 ^ 62) : pureV (call Ev) Fn.impl_LockOf [lv (txs all), .agg k.cs] = some (.agg [.int .i64 (if txsF all ≠ 0 then txsF all else if isK k = false then 3 else 0), .int .i64 (if txsF all ≠ 0 ∨ isK k = false then 0 else lockI all k)]) := by
  rw [pu_impl_LockOf, pc (p_TxsFault hl hx hc) rfl]
  simp only [gV1_s, gI_i, vcase_b, bne_iff_ne, ne_eq]
  by_cases h0 : txsF all = 0
  · rw [if_neg (show ¬ ¬ txsF all = 0 by simpa using h0), pc (p_isKey k) rfl]
    simp only [gV1_s, gB_b, vcase_b]
    cases hk : isK k
    · simp [h0]
    · rw [if_neg (by simp), pc (p_lockOf hl hx) rfl]
      simp [h0]
  · rw [if_pos h0]; simp [h0]
theorem p_spec_LockOf {all : List TxD} {k : KeyD} (hl : all.length ≤ maxLen) (hx : ∀ x ∈ all, x.ok) (hc : cntF all < 2 ^ 62) : pureV (call Ev) Fn.spec_LockOf [lv (txs all), .agg k.cs] = some (.agg [.int .i64 (if txsF all ≠ 0 then txsF all else if isK k = false then 3 else 0), .int .i64 (if txsF all ≠ 0 ∨ isK k = false then 0 else lockI all k)]) := by
  rw [pu_spec_LockOf, pc (p_l10Fault hl hx hc) rfl]
  simp only [gV1_s, gI_i, vcase_b, bne_iff_ne, ne_eq]
  by_cases h0 : txsF all = 0
  · rw [if_neg (show ¬ ¬ txsF all = 0 by simpa using h0), pc (p_l10Key k) rfl]
    simp only [gV1_s, gB_b, vcase_b]
    cases hk : isK k
    · simp [h0]
    · rw [if_neg (by simp), pc (p_l10Lock hl hx) rfl]
      simp [h0]
  · rw [if_pos h0]; simp [h0]
theorem run_FnExactLockOf (xs : List V) (hx : ArgsRp PR [T.S_laws_Tx, T.laws_Key] xs) : ∃ h', call Ev Fn.laws_FnExactLockOf xs (D 0) = some (bv true, h') := by
  match xs, hx with
  | [x0, x1], ⟨h0, h1, _⟩ =>
    obtain ⟨l, rfl, hr, hl⟩ := arg_Txs h0
    obtain ⟨k, rfl⟩ := arg_Key h1
    refine law_of ?_
    rw [pu_laws_FnExactLockOf, pc (p_szTxS (by omega) (by omega) hl hr) rfl]
    simp only [gV1_s, gI_i, vcase_b, decide_eq_true_eq]
    by_cases hq : (if (l.length : Int) ≤ 1048576 then szTxs l (1048576 - l.length) else -1) < 0
    · rw [if_pos hq]
    rw [if_neg hq]
    have hm : (l.length : Int) ≤ 1048576 := by
      by_cases h : (l.length : Int) ≤ 1048576
      · exact h
      · rw [if_neg h] at hq; omega
    rw [if_pos hm] at hq
    have hsm := txs_sm (l := l) (left := 1048576 - l.length) (by omega) (by omega) (by omega)
    have hlim : l.length ≤ lim := by unfold lim; omega
    have hc : cntF l < 2 ^ 62 := by
      have h1 := cnt_le l hsm
      have h2 : l.length * 1048576 ≤ 1048576 * 1048576 := Nat.mul_le_mul_right _ (by omega)
      omega
    rw [p_toTxS hlim hsm]
    simp only [ob, gV1_s, gF_f]
    rw [pc (p_toKey k) rfl]
    simp only [gVA_a, gx0, gx1, ob, gI_i, ln0, ln1, Nat.zero_add, Nat.reduceAdd, if_true]
    rw [pc (p_spec_LockOf hl hr hc) rfl]
    simp only [gVA_a, gx0, gx1, ob, gI_i, ln0, ln1, Nat.zero_add, Nat.reduceAdd, if_true, gV1_s, gF_f]
    rw [pc (p_toKey k) rfl]
    simp only [gVA_a, gx0, gx1, ob, gI_i, ln0, ln1, Nat.zero_add, Nat.reduceAdd, if_true, gV1_s, gF_f]
    rw [pc (p_impl_LockOf hl hr hc) rfl]
    simp only [gVA_a, gx0, gx1, ob, gI_i, ln0, ln1, Nat.zero_add, Nat.reduceAdd, if_true, gV1_s, gF_f]
    have he : ∀ a b : Int, pureV (call Ev) Fn.laws_eqIntResult [.agg [.int .i64 a, .int .i64 b], .agg [.int .i64 a, .int .i64 b]] = some (bv true) := fun a b => by
      rw [pu_laws_eqIntResult, vcase_b, if_neg (by simp), vcase_b, if_neg (by simp)]
    rw [pc (he _ _) rfl, pc (p_eqTxS hl hr) rfl]
    simp only [gV1_s, gB_b, vcase_b]
    simp
end Vm
