/-
  Where a row with a table and a key stands; how long texts of a table may be.
-/
import Derived.Test.YtfpcfiaoilcbgaaDRws
set_option linter.unusedVariables false
set_option maxRecDepth 100000
set_option linter.unusedSimpArgs false
namespace Vm
open Go
def atF (t k : Int) : List RowD → Nat → Int
  | [], _ => -1
  | r :: rs, i => if r.tab = t ∧ r.key = k then i else atF t k rs (i + 1)
theorem atF_some {t k : Int} : ∀ (rs : List RowD) (i : Nat), atF t k rs i = -1 ∨ ∃ j r, rs[j]? = some r ∧ atF t k rs i = ((i + j : Nat) : Int) ∧ r.tab = t ∧ r.key = k
  | [], i => .inl rfl
  | r :: rs, i => by
    unfold atF
    by_cases h : r.tab = t ∧ r.key = k
    · rw [if_pos h]; exact .inr ⟨0, r, rfl, rfl, h⟩
    · rw [if_neg h]
      rcases atF_some rs (i + 1) with h1 | ⟨j, q, h1, h2, h3⟩
      · exact .inl h1
      · exact .inr ⟨j + 1, q, by simpa using h1, by rw [h2]; omega, h3⟩
theorem p_l6At {all : List RowD} {t k : Int} (hl : all.length ≤ maxLen) : pureV (call Ev) Fn.spec_l6At [lv (rws all), iv .i64 t, iv .i64 k] = some (iv .i64 (atF t k all 0)) := by
  unfold maxLen at hl
  have loop : ∀ (rs : List RowD) (i : Nat), all.drop i = rs → Lp.spec_l6At 0 [lv (rws all), iv .i64 t, iv .i64 k, iv .i64 i] (D 0) = some (if atF t k rs i = -1 then .done [] (D 0) else .ret (iv .i64 (atF t k rs i)) (D 0)) := by
    intro rs
    induction rs with
    | nil =>
      intro i hi
      have := drop_nil hi
      rw [eq_spec_l6At_l0, vcase_b, if_neg (by simp; omega), tidy_self]; rfl
    | cons r rs ih =>
      intro i hi
      obtain ⟨g1, g2, g3⟩ := drop_cons hi
      have ih' := ih (i + 1) g2
      rw [eq_spec_l6At_l0, vcase_b, if_pos (by simp; omega), idxF_rw g1]
      simp only [ob, gx0, gI_i, vcase_b, beq_iff_eq, tidy_self]
      rw [idxF_rw g1, w64 (by omega) (by omega), show (i : Int) + 1 = ((i + 1 : Nat) : Int) from by omega]
      simp only [ob, gx0, gx1, gI_i, vcase_b, beq_iff_eq]
      rw [ih']
      by_cases h1 : r.tab = t
      · by_cases h2 : r.key = k
        · have e : atF t k (r :: rs) i = i := by unfold atF; rw [if_pos ⟨h1, h2⟩]
          rw [if_pos h1, if_pos h2, e, if_neg (by omega)]
        · have e : atF t k (r :: rs) i = atF t k rs (i + 1) := by rw [atF]; rw [if_neg (fun h => h2 h.2)]
          rw [if_pos h1, if_neg h2, e]
      · have e : atF t k (r :: rs) i = atF t k rs (i + 1) := by rw [atF]; rw [if_neg (fun h => h1 h.1)]
        rw [if_neg h1, e]
  rw [pu_spec_l6At, show iv .i64 0 = iv .i64 ((0 : Nat) : Int) from rfl, loop all 0 rfl, ob]
  by_cases h0 : atF t k all 0 = -1
  · rw [if_pos h0, h0]; rfl
  · rw [if_neg h0, lcase_ret]; simp
/-- how long texts of a table may be -/
def lngF (t : Int) : List RowD → Option Int
  | [] => none
  | r :: rs => if r.tab = 0 ∧ r.key = t then some r.val else lngF t rs
theorem lng_at {t : Int} : ∀ (rs : List RowD) (i : Nat), (atF 0 t rs i = -1 ∧ lngF t rs = none) ∨ ∃ j r, rs[j]? = some r ∧ atF 0 t rs i = ((i + j : Nat) : Int) ∧ lngF t rs = some r.val
  | [], i => .inl ⟨rfl, rfl⟩
  | r :: rs, i => by
    unfold atF lngF
    by_cases h : r.tab = 0 ∧ r.key = t
    · rw [if_pos h, if_pos h]; exact .inr ⟨0, r, rfl, rfl, rfl⟩
    · rw [if_neg h, if_neg h]
      rcases lng_at rs (i + 1) with h1 | ⟨j, q, h1, h2, h3⟩
      · exact .inl h1
      · exact .inr ⟨j + 1, q, by simpa using h1, by rw [h2]; omega, h3⟩
theorem p_l8Longest {all : List RowD} {t : Int} (hl : all.length ≤ maxLen) : pureV (call Ev) Fn.spec_l8Longest [lv (rws all), iv .i64 t] = some (iv .i64 ((lngF t all).getD (-1))) := by
  rw [pu_spec_l8Longest, pc (p_l6At hl) rfl]
  simp only [gV1_s, gI_i, vcase_b, decide_eq_true_eq]
  rcases lng_at (t := t) all 0 with ⟨h1, h2⟩ | ⟨j, r, h1, h2, h3⟩
  · rw [h1, h2, if_pos (by omega)]; rfl
  · rw [h2, h3, if_neg (by omega), Nat.zero_add, idxF_rw h1]
    simp only [gx0, gx1, ob, gI_i]; rfl
theorem p_longest {all : List RowD} {t : Int} (hl : all.length ≤ maxLen) : pureV (call Ev) Fn.impl_longest [lv (rws all), iv .i64 t] = some (.tup [.s (.int .i64 ((lngF t all).getD 0)), .s (.bool (lngF t all).isSome)]) := by
  unfold maxLen at hl
  have loop : ∀ (rs : List RowD) (i : Nat), all.drop i = rs → ∃ h', Lp.impl_longest 0 [iv .i64 t, lv (rws all), iv .i64 (all.length : Int), iv .i64 i] (D 0) = some (match lngF t rs with | none => .done [] h' | some x => .ret (.tup [.s (.int .i64 x), .s (.bool true)]) h') := by
    intro rs
    induction rs with
    | nil =>
      intro i hi
      have := drop_nil hi
      refine ⟨D 0, ?_⟩
      rw [eq_impl_longest_l0, vcase_b, if_neg (by simp; omega), tidy_self]; rfl
    | cons r rs ih =>
      intro i hi
      obtain ⟨g1, g2, g3⟩ := drop_cons hi
      obtain ⟨h', ih'⟩ := ih (i + 1) g2
      rw [eq_impl_longest_l0, vcase_b, if_pos (by simp; omega), idxF_rw g1, rowN_rw]
      simp only [ob, gx0, gx1, gI_i, gS_s, ln0, ln1, Nat.zero_add, Nat.reduceAdd, if_true]
      rw [stK_row, load_0, load_1, load_2]
      simp only [ob, gI_i, vcase_b, beq_iff_eq]
      rw [putR_tidy rfl, w64 (by omega) (by omega), show (i : Int) + 1 = ((i + 1 : Nat) : Int) from by omega, ih']
      by_cases h1 : r.tab = 0
      · by_cases h2 : r.key = t
        · have e : lngF t (r :: rs) = some r.val := by rw [lngF, if_pos ⟨h1, h2⟩]
          rw [e, if_pos h1, if_pos h2]; exact ⟨_, rfl⟩
        · have e : lngF t (r :: rs) = lngF t rs := by rw [lngF, if_neg (fun h => h2 h.2)]
          rw [e, if_pos h1, if_neg h2]; exact ⟨_, rfl⟩
      · have e : lngF t (r :: rs) = lngF t rs := by rw [lngF, if_neg (fun h => h1 h.1)]
        rw [e, if_neg h1]; exact ⟨_, rfl⟩
  obtain ⟨h', e⟩ := loop all 0 rfl
  rw [pu_impl_longest, rws_len, show iv .i64 0 = iv .i64 ((0 : Nat) : Int) from rfl, e, ob]
  cases lngF t all with
  | none => rfl
  | some x => rw [lcase_ret]; simp; rfl
/-- rows without a fault have no value below 0 -/
theorem rowF_val {r : RowD} (h : rowF r = 0) : 0 ≤ r.val := by
  unfold rowF inB at h
  split at h
  · rename_i h2; simp only [Bool.and_eq_true, decide_eq_true_eq] at h2; omega
  · omega
theorem rowsFrom_all : ∀ {rs : List RowD} {p : Option RowD}, rowsFrom p rs = 0 → ∀ r ∈ rs, rowF r = 0
  | [], _, _ => by simp
  | r :: rs, p, h => by
    have h0 : rowF r = 0 := by
      by_cases h0 : rowF r = 0
      · exact h0
      · rw [rowsFrom_n h0] at h; exact absurd h h0
    have h2 : rowsFrom (some r) rs = 0 := by
      cases p with
      | none => rw [rowsFrom_0 h0] at h; exact h
      | some q =>
        cases hb : befB q r with
        | false => rw [rowsFrom_1 h0 hb] at h; omega
        | true => rw [rowsFrom_2 h0 hb] at h; exact h
    intro x hx
    rcases List.mem_cons.1 hx with rfl | hx
    · exact h0
    · exact rowsFrom_all h2 x hx
theorem rowsF_all {rs : List RowD} (h : rowsF rs = 0) : ∀ r ∈ rs, rowF r = 0 := by
  unfold rowsF at h
  split at h
  · omega
  · exact rowsFrom_all h
theorem lngF_pos {t : Int} : ∀ {rs : List RowD} {x : Int}, (∀ r ∈ rs, rowF r = 0) → lngF t rs = some x → 0 ≤ x
  | [], x, _, h => by cases h
  | r :: rs, x, hr, h => by
    unfold lngF at h
    split at h
    · cases h; exact rowF_val (hr r (by simp))
    · exact lngF_pos (fun q hq => hr q (by simp [hq])) h
def longF (rs : List RowD) (t : Int) : Int × Int := if rowsF rs = 0 then (if inB t 1 3 then (match lngF t rs with | none => (4, 0) | some x => (0, x)) else (3, 0)) else (rowsF rs, 0)
theorem p_spec_LongestIn {all : List RowD} {t : Int} (hs : ∀ r ∈ all, r.text.size ≤ maxLen) (hl : all.length ≤ maxLen) : pureV (call Ev) Fn.spec_LongestIn [lv (rws all), iv .i64 t] = some (.agg [.int .i64 (longF all t).1, .int .i64 (longF all t).2]) := by
  rw [pu_spec_LongestIn, pc (p_l6Rows hs hl) rfl]
  simp only [gV1_s, gI_i, vcase_b, bne_iff_ne, ne_eq]
  unfold longF
  by_cases h0 : rowsF all = 0
  · rw [if_neg (by simp [h0]), pc (p_l1In _ _ _) rfl, if_pos h0]
    simp only [gV1_s, gB_b, vcase_b]
    cases hb : inB t 1 3
    · rfl
    · rw [if_neg (by simp), pc (p_l8Longest hl) rfl, if_pos rfl]
      simp only [gV1_s, gI_i, vcase_b, decide_eq_true_eq]
      cases hx : lngF t all with
      | none => rfl
      | some x =>
        have := lngF_pos (rowsF_all h0) hx
        rw [Option.getD_some, if_neg (by omega)]
  · rw [if_pos h0, if_neg h0]
theorem p_LongestIn {all : List RowD} {t : Int} (hs : ∀ r ∈ all, r.text.size ≤ maxLen) (hl : all.length ≤ maxLen) : pureV (call Ev) Fn.impl_LongestIn [lv (rws all), iv .i64 t] = some (.agg [.int .i64 (longF all t).1, .int .i64 (longF all t).2]) := by
  rw [pu_impl_LongestIn, pc (p_RowsFault hs hl) rfl]
  simp only [gV1_s, gI_i, vcase_b, bne_iff_ne, ne_eq]
  unfold longF
  by_cases h0 : rowsF all = 0
  · rw [if_neg (by simp [h0]), pc (p_in _ _ _) rfl, if_pos h0]
    simp only [gV1_s, gB_b, vcase_b]
    cases hb : inB t 1 3
    · rfl
    · rw [if_neg (by simp), pc (p_longest hl) rfl, if_pos rfl]
      cases hx : lngF t all with
      | none => rfl
      | some x => rfl
  · rw [if_pos h0, if_neg h0]
end Vm
