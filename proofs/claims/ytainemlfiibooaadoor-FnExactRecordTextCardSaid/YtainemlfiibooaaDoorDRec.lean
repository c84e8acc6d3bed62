/-
  Records: their fault.
-/
import Derived.Test.YtainemlfiibooaaDoorDRuF
set_option linter.unusedVariables false
set_option maxRecDepth 100000
set_option linter.unusedSimpArgs false
set_option linter.unusedSectionVars false
namespace Vm
open Go
structure RecD where
  kind : Int
  tx : Int
  page : Int
  rs : List RunD
abbrev RecD.cs (r : RecD) : List S := [.int .i64 r.kind, .int .i64 r.tx, .int .i64 r.page, .fs (runs r.rs)]
structure RecD.ok (r : RecD) : Prop where
  k1 : -9223372036854775808 ≤ r.kind
  k2 : r.kind < 9223372036854775808
  t1 : -9223372036854775808 ≤ r.tx
  t2 : r.tx < 9223372036854775808
  p1 : -9223372036854775808 ≤ r.page
  p2 : r.page < 9223372036854775808
  r1 : ∀ x ∈ r.rs, x.ok
  r2 : r.rs.length ≤ maxLen
theorem rp_Rec {n : Nat} {xs : List S} (hr : Rp PR n T.laws_Record xs) : ∃ r : RecD, xs = r.cs ∧ r.ok := by
  obtain ⟨m, hf⟩ := hr.st und_laws_Record
  obtain ⟨a0, b0, rfl, h0, a1, b1, rfl, h1, a2, b2, rfl, h2, a3, b3, rfl, h3, rfl⟩ := hf
  obtain ⟨x0, rfl, w0⟩ := h0.int und_int64
  obtain ⟨x1, rfl, w1⟩ := h1.int und_int64
  obtain ⟨x2, rfl, w2⟩ := h2.int und_int64
  obtain ⟨m', rows, rfl, w3, w4⟩ := h3.slice und_S_laws_Run
  obtain ⟨rs, rfl, h4⟩ := rows_Run rows w4
  exact ⟨⟨x0, x1, x2, rs⟩, rfl, (wf64 w0).1, (wf64 w0).2, (wf64 w1).1, (wf64 w1).2, (wf64 w2).1, (wf64 w2).2, h4, by simpa using w3⟩
theorem arg_Rec {x : V} (hr : ArgRp PR T.laws_Record x) : ∃ r : RecD, x = .agg r.cs ∧ r.ok := by
  obtain ⟨cs, n, rfl, h1⟩ := hr.st und_laws_Record
  obtain ⟨r, rfl, h2⟩ := rp_Rec h1
  exact ⟨r, rfl, h2⟩
/-- the fault of the runs of a record of a kind -/
def recG (k : Int) (rs : List RunD) : Int :=
  if inB k 2 4 = false then 0 else if runsF rs ≠ 0 then runsF rs else match rs with
    | [] => 1
    | r :: _ => if k = 4 ∧ r.l.length ≠ 64 then 1 else 0
def recF (r : RecD) : Int :=
  if inB r.kind 1 6 = false then 1 else if inB r.kind 2 4 = false ∧ (r.page ≠ 0 ∨ r.rs ≠ []) then 1 else if r.kind = 4 ∧ r.tx ≠ 0 then 1 else
  if r.kind ≠ 4 ∧ inB r.tx 1 99 = false then 3 else if inB r.page 0 11 = false then 3 else recG r.kind r.rs
theorem p_turns (k : Int) : pureV (call Ev) Fn.impl_turns [iv .i64 k] = some (bv (inB k 2 4)) := by
  rw [pu_impl_turns, vcase_b, vcase_b]
  by_cases h2 : k = 2
  · subst h2; rfl
  rw [if_neg (by simpa using h2)]
  by_cases h3 : k = 3
  · subst h3; rfl
  rw [if_neg (by simpa using h3)]
  by_cases h4 : k = 4
  · subst h4; rfl
  have : inB k 2 4 = false := by
    cases h : inB k 2 4
    · rfl
    · have := inB_iff.1 h; omega
  rw [this]; simp [h4]
theorem p_l4Runs (k : Int) : pureV (call Ev) Fn.spec_l4Runs [iv .i64 k] = some (bv (inB k 2 4)) := by
  rw [pu_spec_l4Runs, pc (p_l1In _ _ _) rfl]; simp
theorem p_isTx (k : Int) : pureV (call Ev) Fn.impl_isTx [iv .i64 k] = some (bv (inB k 1 99)) := by
  rw [pu_impl_isTx, pc (p_in _ _ _) rfl]; simp
theorem runsF_first {r x : RunD} {rs : List RunD} (h : runsF (r :: x :: rs) = 0) : r.l.length ≠ 64 := by
  unfold runsF at h
  split at h
  · omega
  unfold runsG at h
  split at h
  · rename_i hc
    split at h
    · omega
    unfold runsG at h
    split at h
    · rename_i hc2
      simp only [Bool.and_eq_true, decide_eq_true_eq] at hc hc2
      have h1 := inB_iff.1 hc.1.1
      have h2 := inB_iff.1 hc2.1.1
      split at h
      · omega
      · omega
    · omega
  · omega
section
variable {k t p : Int} {rs : List RunD} (hl : rs.length ≤ maxLen)
theorem recG_0 (hk : inB k 2 4 = false) : recG k rs = 0 := by unfold recG; rw [if_pos hk]
theorem recG_f (hk : inB k 2 4 = true) (hf : ¬ runsF rs = 0) : recG k rs = runsF rs := by unfold recG; rw [if_neg (by simp [hk]), if_pos hf]
theorem recG_nil (hk : inB k 2 4 = true) : recG k [] = 1 := by unfold recG; rw [if_neg (by simp [hk]), if_neg (by decide)]
theorem recG_cons {r : RunD} (hk : inB k 2 4 = true) (hf : runsF (r :: rs) = 0) : recG k (r :: rs) = if k = 4 ∧ r.l.length ≠ 64 then 1 else 0 := by unfold recG; rw [if_neg (by simp [hk]), if_neg (by simp [hf])]
include hl
theorem J_Rec0 (h2 : inB k 2 4 = false → rs = []) : Jn.impl_RecordFault_0 false (runs rs) k = some (iv .i64 (recG k rs)) := by
  unfold Jn.impl_RecordFault_0
  rw [vcase_b, if_neg (by simp), pc (p_RunsFault hl) rfl]
  simp only [gV1_s, gI_i, vcase_b, runs_len]
  cases hk : inB k 2 4
  · have h4 : ¬ k = 4 := fun hh => by subst hh; exact absurd hk (by decide)
    have h5 := h2 hk
    subst h5
    rw [recG_0 hk, if_neg (by decide), pc (p_turns k) rfl]
    simp only [gV1_s, gB_b, vcase_b, hk]
    rw [if_neg (by simp), if_neg (by simpa using h4)]
  by_cases hf : runsF rs = 0
  case neg => rw [recG_f hk hf, if_pos (by simpa using hf)]
  rw [if_neg (by simp [hf]), pc (p_turns k) rfl]
  simp only [gV1_s, gB_b, vcase_b, hk, if_true]
  match rs with
  | [] => rw [recG_nil hk]; rfl
  | r :: rs =>
    rw [recG_cons hk hf, if_neg (by simp; omega)]
    by_cases h4 : k = 4
    · rw [if_pos (by simpa using h4)]
      match rs with
      | [] =>
        rw [if_neg (by simp), show (0 : Int) = ((0 : Nat) : Int) from rfl, idxF_run (r := r) (by simp)]
        simp only [gx0, gx1, ob, gF_f, vcase_b, bys_len]
        by_cases h5 : r.l.length = 64
        · rw [if_neg (by simp; omega), if_neg (fun hh => hh.2 h5)]
        · rw [if_pos (by simp; omega), if_pos ⟨h4, h5⟩]
      | x :: rs =>
        rw [if_pos (by simp; omega), if_pos ⟨h4, runsF_first hf⟩]
    · rw [if_neg (by simpa using h4), if_neg (fun hh => h4 hh.1)]
theorem J_Rec1 {q : Bool} (h2 : inB k 2 4 = false → rs = []) : Jn.impl_RecordFault_1 q p (runs rs) k = some (iv .i64 (if q = true then 3 else if inB p 0 11 = false then 3 else recG k rs)) := by
  unfold Jn.impl_RecordFault_1
  rw [vcase_b]
  cases q
  · rw [if_neg (by simp), pc (p_in _ _ _) rfl]
    simp only [gV1_s, gB_b]
    cases hp : inB p 0 11
    · unfold Jn.impl_RecordFault_0
      simp
    · rw [show (!true) = false from rfl, J_Rec0 hl h2]; simp
  · unfold Jn.impl_RecordFault_0
    simp
theorem J_l4 {q : Bool} (h2 : inB k 2 4 = false → rs = []) : Jn.spec_l4Fault_0 q p k (runs rs) = some (iv .i64 (if q = true then 3 else if inB p 0 11 = false then 3 else recG k rs)) := by
  unfold Jn.spec_l4Fault_0
  rw [vcase_b]
  cases q
  case true => simp
  rw [if_neg (by simp), pc (p_l1In _ _ _) rfl]
  simp only [gV1_s, gB_b, vcase_b]
  cases hp : inB p 0 11
  · simp
  have e : (if false = true then (3 : Int) else if true = false then 3 else recG k rs) = recG k rs := by simp
  rw [e, if_neg (by simp), pc (p_l4Runs k) rfl]
  simp only [gV1_s, gB_b, vcase_b]
  cases hk : inB k 2 4
  · rw [recG_0 hk]; rfl
  rw [if_neg (by simp), pc (p_l3Fault hl) rfl]
  simp only [gV1_s, gI_i, vcase_b, runs_len]
  by_cases hf : runsF rs = 0
  case neg => rw [recG_f hk hf, if_pos (by simpa using hf)]
  rw [if_neg (by simp [hf])]
  match rs with
  | [] => rw [recG_nil hk]; rfl
  | r :: rs =>
    rw [recG_cons hk hf, if_neg (by simp; omega)]
    by_cases h4 : k = 4
    · rw [if_pos (by simpa using h4), show (0 : Int) = ((0 : Nat) : Int) from rfl, idxF_run (r := r) (by simp)]
      simp only [gx0, gx1, ob, gF_f, vcase_b, bys_len]
      by_cases h5 : r.l.length = 64
      · rw [if_neg (by simp; omega), if_neg (fun hh => hh.2 h5)]
      · rw [if_pos (by simp; omega), if_pos ⟨h4, h5⟩]
    · rw [if_neg (by simpa using h4), if_neg (fun hh => h4 hh.1)]
end
theorem p_RecordFault (r : RecD) (hl : r.rs.length ≤ maxLen) : pureV (call Ev) Fn.impl_RecordFault [.agg r.cs] = some (iv .i64 (recF r)) := by
  obtain ⟨k, t, p, rs⟩ := r
  rw [pu_impl_RecordFault, pc (p_in _ _ _) rfl]
  simp only [gV1_s, gB_b, vcase_b]
  cases h1 : inB k 1 6
  · simp [recF, h1]
  rw [if_neg (by simp), pc (p_turns k) rfl]
  simp only [gV1_s, gB_b, vcase_b, runs_len]
  cases h2 : inB k 2 4
  · have h4 : ¬ k = 4 := fun hh => by subst hh; exact absurd h2 (by decide)
    rw [if_pos (by simp)]
    by_cases hp : p = 0
    case neg =>
      rw [show recF ⟨k, t, p, rs⟩ = 1 from by simp [recF, h1, h2, hp], if_pos (by simpa using hp)]
    rw [if_neg (by simpa using hp)]
    by_cases hr : rs = []
    case neg =>
      have : 0 < rs.length := List.length_pos_iff.2 hr
      rw [show recF ⟨k, t, p, rs⟩ = 1 from by simp [recF, h1, h2, hr], if_pos (by simp; omega)]
    have e : recF ⟨k, t, p, rs⟩ = if inB t 1 99 = false then 3 else if inB p 0 11 = false then 3 else recG k rs := by simp [recF, h1, h2, hr, hp, h4]
    rw [e, if_neg (by simp [hr]), if_neg (by simpa using h4), if_pos (by simpa using h4), pc (p_isTx t) rfl]
    simp only [gV1_s, gB_b]
    rw [J_Rec1 hl (fun _ => hr)]
    cases h5 : inB t 1 99 <;> simp
  · rw [if_neg (by simp)]
    by_cases h4 : k = 4
    · rw [if_pos (by simpa using h4)]
      by_cases ht : t = 0
      · have e : recF ⟨k, t, p, rs⟩ = if inB p 0 11 = false then 3 else recG k rs := by subst h4; subst ht; simp [recF, show inB 4 1 6 = true from rfl, show inB 4 2 4 = true from rfl]
        rw [e, if_neg (by simpa using ht), if_neg (by simpa using h4), J_Rec1 hl (by simp [h2])]
        simp
      · rw [show recF ⟨k, t, p, rs⟩ = 1 from by simp [recF, h1, h2, h4, ht], if_pos (by simpa using ht)]
    · have e : recF ⟨k, t, p, rs⟩ = if inB t 1 99 = false then 3 else if inB p 0 11 = false then 3 else recG k rs := by simp [recF, h1, h2, h4]
      rw [e, if_neg (by simpa using h4), if_pos (by simpa using h4), pc (p_isTx t) rfl]
      simp only [gV1_s, gB_b]
      rw [J_Rec1 hl (by simp [h2])]
      cases h5 : inB t 1 99 <;> simp
theorem p_l4Fault (r : RecD) (hl : r.rs.length ≤ maxLen) : pureV (call Ev) Fn.spec_l4Fault [fv r.cs 0] = some (iv .i64 (recF r)) := by
  obtain ⟨k, t, p, rs⟩ := r
  rw [pu_spec_l4Fault, pc (p_l1In _ _ _) rfl]
  simp only [gV1_s, gB_b, vcase_b]
  cases h1 : inB k 1 6
  · simp [recF, h1]
  rw [if_neg (by simp), pc (p_l4Runs k) rfl]
  simp only [gV1_s, gB_b, vcase_b, runs_len]
  cases h2 : inB k 2 4
  · have h4 : ¬ k = 4 := fun hh => by subst hh; exact absurd h2 (by decide)
    rw [if_pos (by simp)]
    by_cases hp : p = 0
    case neg =>
      rw [show recF ⟨k, t, p, rs⟩ = 1 from by simp [recF, h1, h2, hp], if_pos (by simpa using hp)]
    rw [if_neg (by simpa using hp)]
    by_cases hr : rs = []
    case neg =>
      have : 0 < rs.length := List.length_pos_iff.2 hr
      rw [show recF ⟨k, t, p, rs⟩ = 1 from by simp [recF, h1, h2, hr], if_pos (by simp; omega)]
    have e : recF ⟨k, t, p, rs⟩ = if inB t 1 99 = false then 3 else if inB p 0 11 = false then 3 else recG k rs := by simp [recF, h1, h2, hr, hp, h4]
    rw [e, if_neg (by simp [hr]), if_neg (by simpa using h4), if_pos (by simpa using h4), pc (p_l1In _ _ _) rfl]
    simp only [gV1_s, gB_b]
    rw [J_l4 hl (fun _ => hr)]
    cases h5 : inB t 1 99 <;> simp
  · rw [if_neg (by simp)]
    by_cases h4 : k = 4
    · rw [if_pos (by simpa using h4)]
      by_cases ht : t = 0
      · have e : recF ⟨k, t, p, rs⟩ = if inB p 0 11 = false then 3 else recG k rs := by subst h4; subst ht; simp [recF, show inB 4 1 6 = true from rfl, show inB 4 2 4 = true from rfl]
        rw [e, if_neg (by simpa using ht), if_neg (by simpa using h4), J_l4 hl (by simp [h2])]
        simp
      · rw [show recF ⟨k, t, p, rs⟩ = 1 from by simp [recF, h1, h2, h4, ht], if_pos (by simpa using ht)]
    · have e : recF ⟨k, t, p, rs⟩ = if inB t 1 99 = false then 3 else if inB p 0 11 = false then 3 else recG k rs := by simp [recF, h1, h2, h4]
      rw [e, if_neg (by simpa using h4), if_pos (by simpa using h4), pc (p_l1In _ _ _) rfl]
      simp only [gV1_s, gB_b]
      rw [J_l4 hl (by simp [h2])]
      cases h5 : inB t 1 99 <;> simp
theorem p_szRecord (r : RecD) (hr : r.ok) {left : Int} (h1 : 0 ≤ left) (h2 : left < 9223372036854775808) : pureV (call Ev) Fn.laws_szRecord [.agg r.cs, iv .i64 left] = some (iv .i64 (if (r.rs.length : Int) ≤ left then szRuns r.rs (left - r.rs.length) else -1)) := by
  rw [pu_laws_szRecord, pc (p_szRunS h1 h2 hr.r2 fun x hx => (hr.r1 x hx).n) rfl]
  have hz : -1 ≤ (if (r.rs.length : Int) ≤ left then szRuns r.rs (left - r.rs.length) else -1) := by
    by_cases hle : (r.rs.length : Int) ≤ left
    · rw [if_pos hle]; exact (szRuns_le r.rs (left - r.rs.length) (by omega)).2
    · rw [if_neg hle]; omega
  generalize (if (r.rs.length : Int) ≤ left then szRuns r.rs (left - r.rs.length) else -1) = z at hz ⊢
  simp only [gV1_s, gI_i, vcase_b, decide_eq_true_eq]
  by_cases h : z < 0
  · rw [if_pos h, show z = -1 from by omega]
  · rw [if_neg h]
theorem p_eqRecord (r : RecD) (hl : r.rs.length ≤ maxLen) (hr : ∀ x ∈ r.rs, x.l.length ≤ maxLen) : pureV (call Ev) Fn.laws_eqRecord [.agg r.cs, .agg r.cs] = some (bv true) := by
  rw [pu_laws_eqRecord]
  simp only [vcase_b, bne_self_eq_false, Bool.false_eq_true, if_false]
  rw [pc (p_eqRunS hl hr) rfl]
  simp
end Vm
