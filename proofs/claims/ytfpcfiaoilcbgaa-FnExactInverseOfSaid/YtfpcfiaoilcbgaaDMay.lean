/-
  Whether a change may be: the program and the specification.
-/
import Derived.Test.YtfpcfiaoilcbgaaDChg
set_option linter.unusedVariables false
set_option maxRecDepth 100000
set_option linter.unusedSimpArgs false
namespace Vm
open Go
section
variable {R : Type}
theorem ldK_agg {t : VT} {ti : TI} {h : H} {b o : Nat} {cs : List S} {k : V → Option R} (ha : ti.agg = true) (hl : loadN ti.z h (pv b o) = some cs) : ldK t ti h (pv b o) k = k (.agg cs) := by
  simp only [ldK, ldT, ha, cond_true]; rw [hl, ob]
theorem ldK_one {t : VT} {ti : TI} {h : H} {b o : Nat} {x : S} {k : V → Option R} (ha : ti.agg = false) (hl : load1 h (pv b o) = some x) : ldK t ti h (pv b o) k = k (.s x) := by
  simp only [ldK, ldT, ha, cond_false]; rw [hl, ob]
end
theorem loadN_cs {h : H} {b : Nat} {cs : List S} {n : Nat} (hb : b < h.n) (hc : h.cells b = cs) (hn : cs.length = n) : loadN n h (pv b 0) = some cs := by
  simp only [loadN]
  rw [if_pos ⟨hb, by rw [hc]; omega⟩, hc, List.drop_zero, List.take_of_length_le (by omega)]
theorem load1_cs {h : H} {b o : Nat} {cs : List S} {x : S} (hc : h.cells b = cs) (hx : cs[o]? = some x) : load1 h (pv b o) = some x := by
  simp only [load1]; rw [hc, hx]
theorem keep_cells {h h' : H} (x : HKeep h h') {b : Nat} (hb : b < h.n) : h'.cells b = h.cells b := by
  unfold H.cells; rw [if_pos hb, if_pos (by have := x.1; omega), (x.2 b hb).1]
theorem p_tableMayBe {all : List RowD} (c : ChgD) (hl : all.length ≤ maxLen) : pureV (call Ev) Fn.impl_tableMayBe [lv (rws all), .agg c.cs] = some (iv .i64 (catF all c)) := by
  unfold maxLen at hl
  have hc0 : ∀ h1, HKeep ((D 0).new 0 c.cs) h1 → h1.cells 0 = c.cs := fun h1 x => by
    rw [keep_cells x (by simp)]; unfold H.cells; rw [if_pos (by simp)]; rfl
  have loop : ∀ (rs : List RowD) (i : Nat), all.drop i = rs → ∃ h', Lp.impl_tableMayBe 0 [pv 0 0, lv (rws all), iv .i64 (all.length : Int), iv .i64 i] ((D 0).new 0 c.cs) = some (if rs.any (hinders c) then .ret (iv .i64 8) h' else .done [] h') := by
    intro rs
    induction rs with
    | nil =>
      intro i hi
      have := drop_nil hi
      rw [eq_impl_tableMayBe_l0, vcase_b, if_neg (by simp; omega)]; exact ⟨_, rfl⟩
    | cons r rs ih =>
      intro i hi
      obtain ⟨g1, g2, g3⟩ := drop_cons hi
      obtain ⟨h', ih'⟩ := ih (i + 1) g2
      have hk := putR_keep ((D 0).new 0 c.cs) r
      have hcc := hc0 _ hk
      have hbn : 0 < (putR ((D 0).new 0 c.cs) r).n := by rw [putR_n]; simp
      rw [eq_impl_tableMayBe_l0, vcase_b, if_pos (by simp; omega), idxF_rw g1, rowN_rw]
      simp only [ob, gx0, gx1, gI_i, gS_s, ln0, ln1, Nat.zero_add, Nat.reduceAdd, if_true]
      rw [stK_row, load_0, load_3, w64 (by omega) (by omega), show (i : Int) + 1 = ((i + 1 : Nat) : Int) from by omega, putR_tidy rfl, ih']
      simp only [ob, gI_i, gS_s]
      rw [ldK_agg rfl (loadN_cs hbn hcc rfl)]
      simp only [ob, gVA_a, gx0, gx1, gI_i, gS_s, gB_b, ln0, ln1, Nat.zero_add, Nat.reduceAdd, if_true]
      rw [pc (p_Change_key c) rfl]
      simp only [ob, gVA_a, gx0, gx1, gI_i, gS_s, gB_b, ln0, ln1, Nat.zero_add, Nat.reduceAdd, if_true]
      rw [hchk_self, show padd 5 (pv 0 0) = some (pv 0 5) from rfl, ob, ldK_one rfl (load1_cs (o := 5) (x := .bool c.is) hcc rfl)]
      rw [show padd 6 (pv 0 0) = some (pv 0 6) from rfl, ob, show padd 2 (pv 0 6) = some (pv 0 8) from rfl, ob, ldK_one rfl (load1_cs (o := 8) (x := .int .i64 c.a.val) hcc rfl)]
      simp only [gV1_s, gB_b, gI_i, vcase_b, beq_iff_eq, bne_iff_ne, ne_eq, decide_eq_true_eq]
      rw [List.any_cons]
      by_cases h1 : r.tab = c.k.key
      · rw [if_pos h1]
        by_cases h2 : r.tab = 0
        · have e : hinders c r = false := by simp [hinders, h2]
          rw [if_neg (by simpa using h2), e, Bool.false_or]; exact ⟨_, rfl⟩
        · rw [if_pos h2]
          by_cases hi : c.is = true
          · by_cases h3 : (r.text.size : Int) > c.a.val
            · have e : hinders c r = true := by simp [hinders, h1, hi, h3]; rw [← h1]; exact h2
              rw [if_neg (by simp [hi]), if_pos h3, e, Bool.true_or]; exact ⟨_, rfl⟩
            · have e : hinders c r = false := by simp [hinders, hi, h3]
              rw [if_neg (by simp [hi]), if_neg h3, e, Bool.false_or]; exact ⟨_, rfl⟩
          · have e : hinders c r = true := by simp [hinders, h1, hi]; rw [← h1]; exact h2
            rw [if_pos (by simp [hi]), e, Bool.true_or]; exact ⟨_, rfl⟩
      · have e : hinders c r = false := by simp [hinders, h1]
        rw [if_neg h1, e, Bool.false_or]; exact ⟨_, rfl⟩
  have fin : ((Lp.impl_tableMayBe 0 [pv 0 0, lv (rws all), iv .i64 ((rws all).length : Int), iv .i64 0] ((D 0).new 0 c.cs)).bind fun o125 => lcase o125 (fun l126 h127 =>
  some (iv .i64 0)) (fun v128 h129 =>
  frzV h129 v128)) = some (iv .i64 (if all.any (hinders c) then 8 else 0)) := by
    obtain ⟨h', e⟩ := loop all 0 rfl
    rw [rws_len, show iv .i64 0 = iv .i64 ((0 : Nat) : Int) from rfl, e, ob]
    split
    · rw [lcase_ret]; simp
    · rw [lcase_done]; rfl
  rw [pu_impl_tableMayBe, vcase_b, fin, pc (p_in _ _ _) rfl]
  simp only [gV1_s, gB_b, vcase_b, decide_eq_true_eq]
  have hk : c.is = true → c.k = c.a := fun h => by unfold ChgD.k; rw [if_pos h]
  unfold catF
  cases hi : c.is
  · simp
  · rw [hk hi]
    simp only [if_true, Bool.true_and]
    cases inB c.a.key 1 3
    · simp
    · simp only [Bool.not_true, Bool.false_or, Bool.false_eq_true, if_false]
      by_cases h3 : c.a.val > 8
      · simp [h3]
      · rw [if_neg h3, decide_eq_false h3, Bool.false_or]
        cases (c.a.text.toList == (⟨#[]⟩ : ByteArray).toList) <;> simp
def mayC (rs : List RowD) (c : ChgD) : Int := if c.k.tab = 0 then catF rs c else if c.is then (match lngF c.k.tab rs with | none => 4 | some n => if (c.a.text.size : Int) > n then 10 else 0) else 0
def mayF (rs : List RowD) (c : ChgD) : Int := if rowsF rs = 0 then (if chgF c = 0 then mayC rs c else chgF c) else rowsF rs
theorem p_l8May {all : List RowD} (c : ChgD) (hl : all.length ≤ maxLen) (h0 : rowsF all = 0) : pureV (call Ev) Fn.spec_l8May [lv (rws all), fv c.cs 0] = some (iv .i64 (mayC all c)) := by
  rw [pu_spec_l8May, pc (p_l6Key c) rfl]
  simp only [ob, gx0, gx1, gVT_t, gA1_s, gI_i, ln0, ln1, Nat.zero_add, Nat.reduceAdd, if_true, vcase_b, beq_iff_eq]
  rw [pc (p_l8Catalog c hl) rfl]
  simp only [gV1_s, gI_i]
  unfold mayC
  by_cases ht : c.k.tab = 0
  · rw [if_pos ht, if_pos ht]
  rw [if_neg ht, if_neg ht]
  cases c.is
  · rfl
  rw [if_neg (by simp), pc (p_l8Longest hl) rfl, if_pos rfl]
  simp only [gV1_s, gI_i, vcase_b, decide_eq_true_eq]
  cases hx : lngF c.k.tab all with
  | none => rfl
  | some x =>
    have := lngF_pos (rowsF_all h0) hx
    rw [Option.getD_some, if_neg (by omega)]
    simp only []
    split <;> rfl
theorem p_mayBe {all : List RowD} (c : ChgD) (hl : all.length ≤ maxLen) : pureV (call Ev) Fn.impl_mayBe [lv (rws all), .agg c.cs] = some (iv .i64 (mayC all c)) := by
  rw [pu_impl_mayBe, pc (p_Change_key c) rfl]
  simp only [ob, gx0, gx1, gVA_a, gI_i, gS_s, ln0, ln1, Nat.zero_add, Nat.reduceAdd, if_true, vcase_b, beq_iff_eq]
  rw [pc (p_tableMayBe c hl) rfl]
  simp only [gV1_s, gI_i]
  unfold mayC
  by_cases ht : c.k.tab = 0
  · rw [if_pos ht, if_pos ht]
  rw [if_neg ht, if_neg ht]
  have hk : c.is = true → c.k = c.a := fun h => by unfold ChgD.k; rw [if_pos h]
  cases hi : c.is
  · rfl
  rw [if_neg (by simp), pc (p_longest hl) rfl, if_pos rfl, hk hi]
  simp only [ob, gx0, gx1, gVT_t, gA1_s, gI_i, gB_b, ln0, ln1, Nat.zero_add, Nat.reduceAdd, if_true, vcase_b, decide_eq_true_eq]
  cases hx : lngF c.a.tab all with
  | none => rfl
  | some x =>
    simp only [Option.isSome_some, Bool.not_true, Bool.false_eq_true, if_false, Option.getD_some]
    split <;> rfl
theorem p_spec_MayBe {all : List RowD} (c : ChgD) (hc : c.ok) (hs : ∀ r ∈ all, r.text.size ≤ maxLen) (hl : all.length ≤ maxLen) : pureV (call Ev) Fn.spec_MayBe [lv (rws all), .agg c.cs] = some (iv .i64 (mayF all c)) := by
  rw [pu_spec_MayBe, pc (p_l6Rows hs hl) rfl]
  simp only [gV1_s, gI_i, vcase_b, bne_iff_ne, ne_eq]
  unfold mayF
  by_cases h0 : rowsF all = 0
  · rw [if_neg (by simp [h0]), if_pos h0, pc (p_l6Change c hc) rfl]
    simp only [gV1_s, gI_i, vcase_b, bne_iff_ne, ne_eq]
    by_cases h1 : chgF c = 0
    · rw [if_neg (by simp [h1]), if_pos h1, pc (p_l8May c hl h0) rfl]
      simp only [gV1_s, gI_i]
    · rw [if_pos h1, if_neg h1]
  · rw [if_pos h0, if_neg h0]
theorem p_MayBe {all : List RowD} (c : ChgD) (hc : c.ok) (hs : ∀ r ∈ all, r.text.size ≤ maxLen) (hl : all.length ≤ maxLen) : pureV (call Ev) Fn.impl_MayBe [lv (rws all), .agg c.cs] = some (iv .i64 (mayF all c)) := by
  rw [pu_impl_MayBe, pc (p_RowsFault hs hl) rfl]
  simp only [gV1_s, gI_i, vcase_b, bne_iff_ne, ne_eq]
  unfold mayF
  by_cases h0 : rowsF all = 0
  · rw [if_neg (by simp [h0]), if_pos h0, pc (p_changeFault c hc) rfl]
    simp only [gV1_s, gI_i, vcase_b, bne_iff_ne, ne_eq]
    by_cases h1 : chgF c = 0
    · rw [if_neg (by simp [h1]), if_pos h1, pc (p_mayBe c hl) rfl]
      simp only [gV1_s, gI_i]
    · rw [if_pos h1, if_neg h1]
  · rw [if_pos h0, if_neg h0]
end Vm
