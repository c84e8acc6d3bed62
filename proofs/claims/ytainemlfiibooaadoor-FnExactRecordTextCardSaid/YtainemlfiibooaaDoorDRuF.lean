/-
  Runs: their fault, their size, a copy, a comparison.
-/
import Derived.Test.YtainemlfiibooaaDoorDIn
import Derived.Test.YtainemlfiibooaaDoorDCpP
import Derived.Test.YtainemlfiibooaaDoorTByt
set_option linter.unusedVariables false
set_option maxRecDepth 100000
set_option linter.unusedSimpArgs false
namespace Vm
open Go

structure RunD where
  at_ : Int
  l : List UInt8
abbrev RunD.cs (r : RunD) : List S := [.int .i64 r.at_, .fs (bys r.l)]
def runs (rs : List RunD) : List (List S) := rs.map RunD.cs
@[simp] theorem runs_len (rs : List RunD) : (runs rs).length = rs.length := by simp [runs]
theorem runs_row {rs : List RunD} : ∀ r ∈ runs rs, r.length = 2 := by
  intro r hr
  obtain ⟨c, _, rfl⟩ := List.mem_map.1 hr
  rfl
theorem runs_cl {rs : List RunD} : ∀ r ∈ runs rs, ∀ s ∈ r, Cl s := by
  intro r hr s hs
  obtain ⟨c, _, rfl⟩ := List.mem_map.1 hr
  rcases List.mem_cons.1 hs with rfl | hs
  · exact cl_i
  · rw [List.mem_singleton.1 hs]; exact cl_f
theorem runs_get {rs : List RunD} {i : Nat} {r : RunD} (h : rs[i]? = some r) : (runs rs)[i]? = some r.cs := by simp [runs, h]
section
variable {R : Type}
theorem idxF_run {rs : List RunD} {i : Nat} {r : RunD} {k : List S → Option R} (h : rs[i]? = some r) : idxF 2 (runs rs) (i : Int) k = k r.cs := idxF_at (runs_get h) rfl
end
theorem rowN_run {r : RunD} : rowN 2 r.cs 0 = some r.cs := rowN_all rfl
structure RunD.ok (r : RunD) : Prop where
  a1 : -9223372036854775808 ≤ r.at_
  a2 : r.at_ < 9223372036854775808
  n : r.l.length ≤ maxLen
theorem rp_Run {n : Nat} {xs : List S} (hr : Rp PR n T.laws_Run xs) : ∃ r : RunD, xs = r.cs ∧ r.ok := by
  obtain ⟨m, hf⟩ := hr.st und_laws_Run
  obtain ⟨a0, b0, rfl, h0, a1, b1, rfl, h1, rfl⟩ := hf
  obtain ⟨x0, rfl, w0⟩ := h0.int und_int64
  obtain ⟨m', rows, rfl, w1, w2⟩ := h1.slice und_S_uint8
  obtain ⟨l, rfl⟩ := rows8 und_uint8 rows w2
  exact ⟨⟨x0, l⟩, rfl, (wf64 w0).1, (wf64 w0).2, by simpa using w1⟩
theorem rows_Run {m : Nat} : ∀ rows : List (List S), (∀ r ∈ rows, r.length = PR.cellsOf T.laws_Run ∧ Rp PR m T.laws_Run r) → ∃ rs : List RunD, rows = runs rs ∧ ∀ r ∈ rs, r.ok
  | [], _ => ⟨[], rfl, by simp⟩
  | r :: rows, hr => by
    obtain ⟨rs, h1, h2⟩ := rows_Run rows fun r hm => hr r (by simp [hm])
    obtain ⟨a, h3, h4⟩ := rp_Run (hr r (by simp)).2
    refine ⟨a :: rs, by rw [h1, h3]; rfl, fun x hx => ?_⟩
    rcases List.mem_cons.1 hx with rfl | hx
    · exact h4
    · exact h2 x hx
theorem arg_Runs {x : V} (hr : ArgRp PR T.S_laws_Run x) : ∃ rs : List RunD, x = lv (runs rs) ∧ (∀ r ∈ rs, r.ok) ∧ rs.length ≤ maxLen := by
  obtain ⟨s, n, rfl, h1⟩ := hr.slice und_S_laws_Run
  obtain ⟨m, rows, h1, h2, h3⟩ := h1.slice und_S_laws_Run
  cases h1
  obtain ⟨rs, rfl, h4⟩ := rows_Run rows h3
  exact ⟨rs, rfl, h4, by simpa using h2⟩

/-! size -/
/-- what is left of a number of cells, or -1 -/
def szL (n : Int) (left : Int) : Int := if n ≤ left then left - n else -1
def szRuns : List RunD → Int → Int
  | [], left => left
  | r :: rs, left => if (r.l.length : Int) ≤ left then szRuns rs (left - r.l.length) else -1
theorem szRuns_le : ∀ (rs : List RunD) (left : Int), 0 ≤ left → szRuns rs left ≤ left ∧ -1 ≤ szRuns rs left
  | [], left, h => ⟨Int.le_refl _, by simp only [szRuns]; omega⟩
  | r :: rs, left, h => by
    simp only [szRuns]
    split
    · have := szRuns_le rs (left - r.l.length) (by omega); omega
    · omega
theorem szRuns_all : ∀ (rs : List RunD) (left : Int), 0 ≤ szRuns rs left → ∀ r ∈ rs, (r.l.length : Int) ≤ left
  | [], left, h => by simp
  | r :: rs, left, h => by
    simp only [szRuns] at h
    split at h
    · intro x hx
      rcases List.mem_cons.1 hx with rfl | hx
      · assumption
      · have := szRuns_all rs _ h x hx; omega
    · omega
theorem p_szByteS {l : List UInt8} {left : Int} (h1 : 0 ≤ left) (h2 : left < 9223372036854775808) (hl : l.length ≤ maxLen) : pureV (call Ev) Fn.laws_szByteS [lv (bys l), iv .i64 left] = some (iv .i64 (szL l.length left)) := by
  unfold maxLen at hl
  rw [pu_laws_szByteS, vcase_b, bys_len, w64 (by omega) (by omega)]
  unfold szL
  simp only [decide_eq_true_eq]
  split <;> split <;> first | rfl | omega
theorem p_szRun (r : RunD) {left : Int} (h1 : 0 ≤ left) (h2 : left < 9223372036854775808) (hl : r.l.length ≤ maxLen) : pureV (call Ev) Fn.laws_szRun [.agg r.cs, iv .i64 left] = some (iv .i64 (szL r.l.length left)) := by
  rw [pu_laws_szRun, pc (p_szByteS h1 h2 hl) rfl]
  simp only [gV1_s, gI_i, vcase_b, decide_eq_true_eq]
  unfold szL
  split <;> split <;> first | rfl | omega
theorem p_szRunS {all : List RunD} {left : Int} (h1 : 0 ≤ left) (h2 : left < 9223372036854775808) (hl : all.length ≤ maxLen) (hr : ∀ r ∈ all, r.l.length ≤ maxLen) : pureV (call Ev) Fn.laws_szRunS [lv (runs all), iv .i64 left] = some (iv .i64 (if (all.length : Int) ≤ left then szRuns all (left - all.length) else -1)) := by
  unfold maxLen at hl
  have loop : ∀ (rs : List RunD) (i : Nat) (q : Int), all.drop i = rs → 0 ≤ q → q < 9223372036854775808 →
      (Lp.laws_szRunS 0 [lv (runs all), iv .i64 q, iv .i64 i] (D 0)).bind (fun o102 => lcase o102 (fun l103 h104 =>
        (l103[0]?).bind fun w107 =>
        gV1 w107 fun x108 =>
        gI .i64 x108 fun i109 =>
        some (iv .i64 i109)) (fun v105 h106 =>
        frzV h106 v105)) = some (iv .i64 (szRuns rs q)) := by
    intro rs
    induction rs with
    | nil =>
      intro i q hi h1 h2
      have := drop_nil hi
      rw [eq_laws_szRunS_l0, vcase_b, if_neg (by simp; omega), tidy_self, ob, lcase_done]
      simp only [gx0, ob, gV1_s, gI_i, szRuns]
    | cons r rs ih =>
      intro i q hi h1 h2
      obtain ⟨g1, g2, g3⟩ := drop_cons hi
      rw [eq_laws_szRunS_l0, vcase_b, if_pos (by simp; omega), idxF_run g1, rowN_run]
      simp only [ob, gx0, gx1, gI_i, gF_f, ln0, ln1, Nat.zero_add, Nat.reduceAdd, if_true]
      rw [pc (p_szRun r h1 h2 (hr r (List.mem_of_getElem? g1))) rfl]
      simp only [gV1_s, gI_i, vcase_b, decide_eq_true_eq, szRuns, szL]
      by_cases hle : (r.l.length : Int) ≤ q
      · rw [if_pos hle, if_neg (by omega), w64 (by omega) (by omega), tidy_self, show (i : Int) + 1 = ((i + 1 : Nat) : Int) from by omega, if_pos hle]
        exact ih (i + 1) _ g2 (by omega) (by omega)
      · rw [if_neg hle, if_pos (by omega), if_neg hle]; rfl
  rw [pu_laws_szRunS, vcase_b, runs_len, w64 (by omega) (by omega)]
  by_cases hq : (all.length : Int) ≤ left
  · rw [if_neg (by simp; omega), if_pos hq]
    exact loop all 0 _ rfl (by omega) (by omega)
  · rw [if_pos (by simp; omega), if_neg hq]

/-! a copy -/
theorem p_toRun (r : RunD) (hl : r.l.length ≤ lim) : pureV (call Ev) Fn.laws_toRun [.agg r.cs] = some (.agg r.cs) := by
  rw [pu_laws_toRun, p_toByteS hl]; simp
theorem p_toRunS {all : List RunD} (hl : all.length ≤ lim) (hr : ∀ r ∈ all, r.l.length ≤ lim) : pureV (call Ev) Fn.laws_toRunS [lv (runs all)] = some (lv (runs all)) := by
  have hl' := hl
  unfold lim at hl'
  rw [pu_laws_toRunS, runs_len, mkSl_of (z := 2) (zero := [.int .i64 0, .sl none 0]) hl (by omega) rfl, ob]
  obtain ⟨h', e1, e2, e3, _⟩ := fill_rows (z := 2) (n := all.length) (b := 0) (rows := runs all) (L := fun i h => Lp.laws_toRunS 0 [lv (runs all), sv 0 0 all.length, iv .i64 i] h) (fin := [sv 0 0 all.length]) (by simp) runs_row
    (fun i h r hr' hi hb => by
      obtain ⟨a, ha⟩ : ∃ a, all[i]? = some a := ⟨_, List.getElem?_eq_getElem hi⟩
      rw [runs_get ha] at hr'; cases hr'
      refine ⟨.agg a.cs, [lv (runs all), sv 0 0 all.length, iv .i64 ((i + 1 : Nat) : Int)], .inr rfl, ?_⟩
      show Lp.laws_toRunS 0 _ h = _
      rw [eq_laws_toRunS_l0, vcase_b, if_pos (by simp; omega), idxF_run ha, rowN_run]
      simp only [ob, gx0, gx1, gI_i, gF_f, ln0, ln1, Nat.zero_add, Nat.reduceAdd, if_true]
      rw [p_toRun a (hr a (List.mem_of_getElem? ha))]
      simp only [ob, gx0, gx1, gVA_a, gI_i, gF_f, ln0, ln1, Nat.zero_add, Nat.reduceAdd, if_true]
      rw [idxK_sv hi, w64 (by omega) (by omega), show (i : Int) + 1 = ((i + 1 : Nat) : Int) from by omega])
    (fun h => by
      show Lp.laws_toRunS 0 _ h = _
      rw [eq_laws_toRunS_l0, vcase_b, if_neg (by simp), tidy_self])
    ((D 0).new 2 ((List.replicate all.length [.int .i64 0, .sl none 0]).flatten)) _ (by simp) (by exact new_g (D 0) _ _) (repl_len rfl)
  rw [D_n, e1]
  simp only [ob, lcase_done, gx0]
  have := frzV_sv (h := h') (b := 0) (z := 2) (rows := runs all) (by rw [e2]; simp) (by omega) e3 runs_row runs_cl
  rwa [runs_len] at this

/-! a comparison -/
theorem p_eqRun (r : RunD) (hl : r.l.length ≤ maxLen) : pureV (call Ev) Fn.laws_eqRun [.agg r.cs, .agg r.cs] = some (bv true) := by
  rw [pu_laws_eqRun, vcase_b, if_neg (by simp), pc (p_eqByteS hl) rfl]
  simp
theorem p_eqRunS {all : List RunD} (hl : all.length ≤ maxLen) (hr : ∀ r ∈ all, r.l.length ≤ maxLen) : pureV (call Ev) Fn.laws_eqRunS [lv (runs all), lv (runs all)] = some (bv true) := by
  unfold maxLen at hl
  have loop : ∀ (rs : List RunD) (i : Nat), all.drop i = rs → Lp.laws_eqRunS 0 [lv (runs all), lv (runs all), iv .i64 i] (D 0) = some (.done [] (D 0)) := by
    intro rs
    induction rs with
    | nil =>
      intro i hi
      have := drop_nil hi
      rw [eq_laws_eqRunS_l0, vcase_b, if_neg (by simp; omega), tidy_self]
    | cons r rs ih =>
      intro i hi
      obtain ⟨g1, g2, g3⟩ := drop_cons hi
      rw [eq_laws_eqRunS_l0, vcase_b, if_pos (by simp; omega), idxF_run g1, rowN_run]
      simp only [ob, gx0, gx1, gI_i, gF_f, ln0, ln1, Nat.zero_add, Nat.reduceAdd, if_true]
      rw [idxF_run g1, rowN_run]
      simp only [ob, gx0, gx1, gI_i, gF_f, ln0, ln1, Nat.zero_add, Nat.reduceAdd, if_true]
      rw [pc (p_eqRun r (hr r (List.mem_of_getElem? g1))) rfl]
      simp only [gV1_s, gB_b, hchk_self, vcase_b, Bool.not_true, Bool.false_eq_true, if_false]
      rw [w64 (by omega) (by omega), tidy_self, show (i : Int) + 1 = ((i + 1 : Nat) : Int) from by omega]
      exact ih (i + 1) g2
  rw [pu_laws_eqRunS, vcase_b, if_neg (by simp), show iv .i64 0 = iv .i64 ((0 : Nat) : Int) from rfl, loop all 0 rfl]
  simp

/-! the fault -/
def runsG : Int → List RunD → Int
  | _, [] => 0
  | least, r :: rs => if inB r.at_ 0 63 && inB r.l.length 1 64 && decide (r.at_ + r.l.length ≤ 64) then (if r.at_ < least then 1 else runsG (r.at_ + r.l.length + 1) rs) else 3
def runsF (rs : List RunD) : Int := if 64 < rs.length then 2 else runsG 0 rs
theorem p_RunsFault {all : List RunD} (hl : all.length ≤ maxLen) : pureV (call Ev) Fn.impl_RunsFault [lv (runs all)] = some (iv .i64 (runsF all)) := by
  unfold maxLen at hl
  have loop : ∀ (rs : List RunD) (i : Nat) (q : Int), all.drop i = rs →
      (Lp.impl_RunsFault 0 [iv .i64 q, lv (runs all), iv .i64 all.length, iv .i64 i] (D 0)).bind (fun o102 => lcase o102 (fun l103 h104 => some (iv .i64 0)) (fun v105 h106 => frzV h106 v105)) = some (iv .i64 (runsG q rs)) := by
    intro rs
    induction rs with
    | nil =>
      intro i q hi
      have := drop_nil hi
      rw [eq_impl_RunsFault_l0, vcase_b, if_neg (by simp; omega), tidy_self]
      simp [runsG]
    | cons r rs ih =>
      intro i q hi
      obtain ⟨g1, g2, g3⟩ := drop_cons hi
      rw [eq_impl_RunsFault_l0, vcase_b, if_pos (by simp; omega), idxF_run g1, rowN_run]
      simp only [ob, gx0, gx1, gI_i, gF_f, ln0, ln1, Nat.zero_add, Nat.reduceAdd, if_true]
      rw [stK_rw (z := 2) (e := 0) (o := 0) (b := (D 0).n) (cs := [.int .i64 0, .sl none 0]) (r := r.cs) (by simp) (new_g _ _ _) (.inr rfl) rfl (by simp)]
      have l0 : ∀ {X : List S}, load1 (((D 0).new 0 [.int .i64 0, .sl none 0]).put (D 0).n (.rw 0 X)) (pv (D 0).n 0) = X[0]? := fun {X} => by simp [load1, H.cells, Blk.cells]
      have l1 : ∀ {X : List S}, load1 (((D 0).new 0 [.int .i64 0, .sl none 0]).put (D 0).n (.rw 0 X)) (pv (D 0).n 1) = X[1]? := fun {X} => by simp [load1, H.cells, Blk.cells]
      have se : setAt [.int .i64 0, .sl none 0] 0 r.cs = r.cs := id rfl
      rw [se]
      simp only [l0, l1, gx0, gx1, ob, lenV, gV1_s, gI_i, bys_len]
      rw [pc (p_in _ _ _) rfl]
      simp only [gV1_s, gB_b, vcase_b]
      unfold runsG
      cases hA : inB r.at_ 0 63
      · simp
      simp only [Bool.not_true, Bool.false_eq_true, if_false, Bool.true_and]
      rw [pc (p_in _ _ _) rfl]
      simp only [gV1_s, gB_b, vcase_b]
      cases hB : inB r.l.length 1 64
      · simp
      simp only [Bool.not_true, Bool.false_eq_true, if_false, Bool.true_and]
      have hA' := inB_iff.1 hA
      have hB' := inB_iff.1 hB
      rw [w64 (n := r.at_ + (r.l.length : Int)) (by omega) (by omega)]
      by_cases h64 : r.at_ + (r.l.length : Int) ≤ 64
      case neg => rw [if_pos (by simp; omega)]; simp [h64]
      rw [if_neg (by simp; omega)]
      by_cases hq : r.at_ < q
      · rw [if_pos (by simpa using hq)]; simp [h64, hq]
      rw [if_neg (by simpa using hq), w64 (by omega) (by omega), w64 (by omega) (by omega), tidy_ext ((HKeep.refl _).new.put (by simp)) (by simp [belV, belS]), show (i : Int) + 1 = ((i + 1 : Nat) : Int) from by omega, ih (i + 1) _ g2]
      simp [h64, hq]
  rw [pu_impl_RunsFault, vcase_b, runs_len]
  unfold runsF
  by_cases h64 : 64 < all.length
  · rw [if_pos (by simp; omega), if_pos h64]
  · rw [if_neg (by simp; omega), if_neg h64]
    exact loop all 0 0 rfl
theorem p_l3Fault {all : List RunD} (hl : all.length ≤ maxLen) : pureV (call Ev) Fn.spec_l3Fault [lv (runs all)] = some (iv .i64 (runsF all)) := by
  unfold maxLen at hl
  have loop : ∀ (rs : List RunD) (i : Nat) (q : Int), all.drop i = rs → (i = 0 ∧ q = 0 ∨ 0 < i ∧ ∃ p : RunD, all[i - 1]? = some p ∧ q = p.at_ + p.l.length + 1 ∧ 0 ≤ p.at_ ∧ p.at_ + p.l.length ≤ 64) →
      (Lp.spec_l3Fault 0 [lv (runs all), iv .i64 i] (D 0)).bind (fun o102 => lcase o102 (fun l103 h104 => some (iv .i64 0)) (fun v105 h106 => frzV h106 v105)) = some (iv .i64 (runsG q rs)) := by
    intro rs
    induction rs with
    | nil =>
      intro i q hi _
      have := drop_nil hi
      rw [eq_spec_l3Fault_l0, vcase_b, if_neg (by simp; omega), tidy_self]
      simp [runsG]
    | cons r rs ih =>
      intro i q hi hprev
      obtain ⟨g1, g2, g3⟩ := drop_cons hi
      rw [eq_spec_l3Fault_l0, vcase_b, if_pos (by simp; omega), idxF_run g1]
      simp only [gx0, gx1, ob, gI_i, gF_f, bys_len]
      rw [idxF_run g1]
      simp only [gx0, gx1, ob, gI_i, gF_f, bys_len]
      rw [pc (p_l1In _ _ _) rfl]
      simp only [gV1_s, gB_b, vcase_b]
      unfold runsG
      cases hA : inB r.at_ 0 63
      · simp
      simp only [Bool.not_true, Bool.false_eq_true, if_false, Bool.true_and]
      rw [pc (p_l1In _ _ _) rfl]
      simp only [gV1_s, gB_b, vcase_b]
      cases hB : inB r.l.length 1 64
      · simp
      simp only [Bool.not_true, Bool.false_eq_true, if_false, Bool.true_and]
      have hA' := inB_iff.1 hA
      have hB' := inB_iff.1 hB
      rw [idxF_run g1]
      simp only [gx0, gx1, ob, gI_i, gF_f, bys_len]
      rw [w64 (n := r.at_ + (r.l.length : Int)) (by omega) (by omega)]
      by_cases h64 : r.at_ + (r.l.length : Int) ≤ 64
      case neg => rw [if_pos (by simp; omega)]; simp [h64]
      rw [if_neg (by simp; omega)]
      have hnext := ih (i + 1) (r.at_ + r.l.length + 1) g2 (.inr ⟨by omega, r, by simpa using g1, rfl, hA'.1, h64⟩)
      rw [w64 (n := (i : Int) + 1) (by omega) (by omega), tidy_self, show (i : Int) + 1 = ((i + 1 : Nat) : Int) from by omega]
      rcases hprev with ⟨rfl, rfl⟩ | ⟨hpos, p, g4, rfl, p1, p2⟩
      · rw [if_neg (by simp), hnext]
        simp [h64, show ¬ r.at_ < 0 by omega]
      · rw [if_pos (by simp; omega), w64 (n := (i : Int) - 1) (by omega) (by omega), idxF_run g1, show (i : Int) - 1 = ((i - 1 : Nat) : Int) from by omega]
        simp only [gx0, gx1, ob, gI_i, gF_f, bys_len]
        rw [idxF_run g4]
        simp only [gx0, gx1, ob, gI_i, gF_f, bys_len]
        rw [idxF_run g4]
        simp only [gx0, gx1, ob, gI_i, gF_f, bys_len]
        rw [w64 (by omega) (by omega)]
        by_cases hq : r.at_ ≤ p.at_ + p.l.length
        · rw [if_pos (by simpa using hq)]; simp [h64, show r.at_ < p.at_ + p.l.length + 1 by omega]
        · rw [if_neg (by simpa using hq), hnext]; simp [h64, show ¬ r.at_ < p.at_ + p.l.length + 1 by omega]
  rw [pu_spec_l3Fault, vcase_b, runs_len]
  unfold runsF
  by_cases h64 : 64 < all.length
  · rw [if_pos (by simp; omega), if_pos h64]
  · rw [if_neg (by simp; omega), if_neg h64]
    exact loop all 0 0 rfl (.inl ⟨rfl, rfl⟩)
end Vm
