/-
  Changes: their size, a copy, a comparison, their fault; whether a change may be.
-/
import Derived.Test.YtfpcfiaoilcbgaaDLng
set_option linter.unusedVariables false
set_option maxRecDepth 100000
set_option linter.unusedSimpArgs false
namespace Vm
open Go
structure ChgD where
  was : Bool
  b : RowD
  is : Bool
  a : RowD
abbrev ChgD.cs (c : ChgD) : List S := [.bool c.was, .int .i64 c.b.tab, .int .i64 c.b.key, .int .i64 c.b.val, .str c.b.text, .bool c.is, .int .i64 c.a.tab, .int .i64 c.a.key, .int .i64 c.a.val, .str c.a.text]
structure ChgD.ok (c : ChgD) : Prop where
  b : c.b.ok
  a : c.a.ok
theorem rp_Change {n : Nat} {xs : List S} (hr : Rp PR n T.laws_Change xs) : ∃ c : ChgD, xs = c.cs ∧ c.ok := by
  obtain ⟨m, hf⟩ := hr.st und_laws_Change
  obtain ⟨a0, b0, rfl, h0, a1, b1, rfl, h1, a2, b2, rfl, h2, a3, b3, rfl, h3, rfl⟩ := hf
  obtain ⟨x0, rfl⟩ := h0.bool und_bool
  obtain ⟨x1, rfl, w1⟩ := rp_Row h1
  obtain ⟨x2, rfl⟩ := h2.bool und_bool
  obtain ⟨x3, rfl, w3⟩ := rp_Row h3
  exact ⟨⟨x0, x1, x2, x3⟩, rfl, w1, w3⟩
theorem arg_Change {x : V} (hr : ArgRp PR T.laws_Change x) : ∃ c : ChgD, x = .agg c.cs ∧ c.ok := by
  obtain ⟨cs, n, rfl, h1⟩ := hr.st und_laws_Change
  obtain ⟨r, rfl, h2⟩ := rp_Change h1
  exact ⟨r, rfl, h2⟩
theorem cl_bool {n : Bool} : Cl (.bool n) := fun _ _ => frz_b
theorem chg_cl {c : ChgD} : ∀ s ∈ c.cs, Cl s := by
  intro s hs
  simp only [List.mem_cons, List.not_mem_nil, or_false] at hs
  rcases hs with rfl | rfl | rfl | rfl | rfl | rfl | rfl | rfl | rfl | rfl <;> first | exact cl_i | exact cl_s | exact cl_bool
def szChg (c : ChgD) (left : Int) : Int := if (c.b.text.size : Int) ≤ left then (if (c.a.text.size : Int) ≤ left - c.b.text.size then left - c.b.text.size - c.a.text.size else -1) else -1
theorem p_szChange (c : ChgD) {left : Int} (h1 : 0 ≤ left) (h2 : left < 9223372036854775808) (hc : c.ok) : pureV (call Ev) Fn.laws_szChange [.agg c.cs, iv .i64 left] = some (iv .i64 (szChg c left)) := by
  rw [pu_laws_szChange, pc (p_szRow c.b left h1 h2 hc.b.s) rfl]
  simp only [gV1_s, gI_i, vcase_b, decide_eq_true_eq, szChg]
  by_cases hle : (c.b.text.size : Int) ≤ left
  · rw [if_pos hle, if_neg (by omega), pc (p_szRow c.a _ (by omega) (by omega) hc.a.s) rfl, if_pos hle]
    simp only [gV1_s, gI_i, vcase_b, decide_eq_true_eq]
    by_cases hle2 : (c.a.text.size : Int) ≤ left - c.b.text.size
    · rw [if_pos hle2, if_neg (by omega)]
    · rw [if_neg hle2, if_pos (by omega)]
  · rw [if_neg hle, if_pos (by omega), if_neg hle]
theorem p_toChange (c : ChgD) : pureV (call Ev) Fn.laws_toChange [.agg c.cs] = some (.agg c.cs) := by
  rw [pu_laws_toChange, pc (p_toRow c.b) rfl]
  simp only [ob, gx0, gx1, gVA_a, gI_i, gS_s, ln0, ln1, Nat.zero_add, Nat.reduceAdd, if_true]
  rw [pc (p_toRow c.a) rfl]
  simp only [ob, gx0, gx1, gVA_a, gI_i, gS_s, ln0, ln1, Nat.zero_add, Nat.reduceAdd, if_true]
/-! the fault -/
def sameK (a b : RowD) : Bool := decide (a.tab = b.tab) && decide (a.key = b.key)
def chgF (c : ChgD) : Int :=
  if (!c.was && !c.is) || (c.was && c.is && !sameK c.b c.a) then 1
  else if c.was = true ∧ rowF c.b ≠ 0 then rowF c.b else if c.is then rowF c.a else 0
def ordI (a b : RowD) : Int := if befB a b then -1 else if befB b a then 1 else 0
theorem p_order (a b : RowD) : pureV (call Ev) Fn.impl_order [.agg a.cs, .agg b.cs] = some (iv .i64 (ordI a b)) := by
  rw [pu_impl_order, pc (p_IsBefore a b) rfl]
  simp only [gV1_s, gB_b, vcase_b]
  unfold ordI
  cases befB a b
  · rw [if_neg (by simp), if_neg (by simp), pc (p_IsBefore b a) rfl]
    simp only [gV1_s, gB_b, vcase_b]
    cases befB b a <;> rfl
  · rfl
theorem ordI_0 {a b : RowD} : ordI a b = 0 ↔ sameK a b = true := by
  unfold ordI befB sameK
  simp only [Bool.or_eq_true, Bool.and_eq_true, decide_eq_true_eq]
  split
  · omega
  · split <;> omega
/-- the fault of the rows of a change -/
def chgR (c : ChgD) : Int := if c.was = true ∧ rowF c.b ≠ 0 then rowF c.b else if c.is then rowF c.a else 0
theorem chgF_eq (c : ChgD) : chgF c = if (!c.was && !c.is) || (c.was && c.is && !sameK c.b c.a) then 1 else chgR c := rfl
theorem p_l6Change (c : ChgD) (hc : c.ok) : pureV (call Ev) Fn.spec_l6Change [fv c.cs 0] = some (iv .i64 (chgF c)) := by
  have fin : ∀ q w1 w2 w3 w4 w5 w6 w7 w8 w9 w10 w11 w12 w13 w14 w15 w16 w17 w18 w19 w20 w21 w22 w23 w24 w25 w26 w27 w28 w29 w30 w31 w32 w33 w34 w35 w36 q2,
      Jn.spec_l6Change_0 q w1 w2 w3 w4 w5 w6 w7 w8 w9 w10 w11 w12 w13 w14 w15 w16 w17 w18 w19 w20 w21 w22 w23 w24 w25 w26 w27 w28 w29 w30 w31 w32 w33 w34 w35 w36 q2 c.was c.b.tab c.b.key c.b.val c.b.text c.is c.a.tab c.a.key c.a.val c.a.text = some (iv .i64 (if q2 = true then 1 else chgR c)) := by
    intro q w1 w2 w3 w4 w5 w6 w7 w8 w9 w10 w11 w12 w13 w14 w15 w16 w17 w18 w19 w20 w21 w22 w23 w24 w25 w26 w27 w28 w29 w30 w31 w32 w33 w34 w35 w36 q2
    unfold Jn.spec_l6Change_0 chgR
    rw [pc (p_l1Fault c.b hc.b.s) rfl]
    simp only [gV1_s, gI_i, vcase_b, bne_iff_ne, ne_eq]
    rw [pc (p_l1Fault c.a hc.a.s) rfl]
    simp only [gV1_s, gI_i]
    by_cases h0 : rowF c.b = 0 <;> cases q2 <;> cases c.was <;> cases c.is <;> simp [h0]
  rw [pu_spec_l6Change, chgF_eq]
  unfold Jn.spec_l6Change_1
  simp only [vcase_b, bne_iff_ne, ne_eq, fin]
  have hs : sameK c.b c.a = (decide (c.b.tab = c.a.tab) && decide (c.b.key = c.a.key)) := rfl
  rw [hs]
  cases c.was <;> cases c.is <;> simp only [Bool.not_true, Bool.not_false, Bool.false_eq_true, if_false, if_true, Bool.and_true, Bool.true_and, Bool.and_false, Bool.false_and, Bool.or_false, Bool.false_or]
  by_cases h1 : c.b.tab = c.a.tab
  · rw [if_neg (by simpa using h1), decide_eq_true h1, Bool.true_and]
    by_cases h2 : c.b.key = c.a.key <;> simp [h2]
  · rw [if_pos h1, decide_eq_false h1]; rfl
theorem p_changeFault (c : ChgD) (hc : c.ok) : pureV (call Ev) Fn.impl_changeFault [.agg c.cs] = some (iv .i64 (chgF c)) := by
  have fin : ∀ q2, Jn.impl_changeFault_0 q2 c.was c.b.tab c.b.key c.b.val c.b.text c.is c.a.tab c.a.key c.a.val c.a.text = some (iv .i64 (if q2 = true then 1 else chgR c)) := by
    intro q2
    unfold Jn.impl_changeFault_0 chgR
    rw [pc (p_RowFault c.b hc.b.s) rfl]
    simp only [gV1_s, gI_i, vcase_b, bne_iff_ne, ne_eq]
    rw [pc (p_RowFault c.a hc.a.s) rfl]
    simp only [gV1_s, gI_i]
    by_cases h0 : rowF c.b = 0 <;> cases q2 <;> cases c.was <;> cases c.is <;> simp [h0]
  rw [pu_impl_changeFault, chgF_eq]
  unfold Jn.impl_changeFault_2 Jn.impl_changeFault_1
  rw [pc (p_order c.b c.a) rfl]
  simp only [gV1_s, gI_i, vcase_b, fin, bne_iff_ne, ne_eq, ordI_0]
  cases c.was <;> cases c.is <;> simp
/-! whether a change may be -/
def ChgD.k (c : ChgD) : RowD := if c.is then c.a else c.b
theorem p_Change_key (c : ChgD) : pureV (call Ev) Fn.impl_Change_key [.agg c.cs] = some (.agg c.k.cs) := by
  rw [pu_impl_Change_key, vcase_b]; unfold ChgD.k
  cases c.is <;> rfl
theorem p_l6Key (c : ChgD) : pureV (call Ev) Fn.spec_l6Key [fv c.cs 0] = some (.tup [.s (.int .i64 c.k.tab), .s (.int .i64 c.k.key)]) := by
  rw [pu_spec_l6Key, vcase_b]; unfold ChgD.k
  cases c.is <;> rfl
/-- a row stands in the way of a change of a table -/
def hinders (c : ChgD) (r : RowD) : Bool := decide (r.tab = c.k.key) && !decide (r.tab = 0) && (!c.is || decide ((r.text.size : Int) > c.a.val))
def catF (rs : List RowD) (c : ChgD) : Int := if c.is && (!inB c.k.key 1 3 || decide (c.a.val > 8) || !(c.a.text.toList == (⟨#[]⟩ : ByteArray).toList)) then 10 else if rs.any (hinders c) then 8 else 0
theorem p_l8Catalog {all : List RowD} (c : ChgD) (hl : all.length ≤ maxLen) : pureV (call Ev) Fn.spec_l8Catalog [lv (rws all), fv c.cs 0] = some (iv .i64 (catF all c)) := by
  unfold maxLen at hl
  have loop : ∀ (rs : List RowD) (i : Nat), all.drop i = rs → Lp.spec_l8Catalog 0 [lv (rws all), fv c.cs 0, iv .i64 c.k.key, iv .i64 i] (D 0) = some (if rs.any (hinders c) then .ret (iv .i64 8) (D 0) else .done [] (D 0)) := by
    intro rs
    induction rs with
    | nil =>
      intro i hi
      have := drop_nil hi
      rw [eq_spec_l8Catalog_l0, vcase_b, if_neg (by simp; omega), tidy_self]; rfl
    | cons r rs ih =>
      intro i hi
      obtain ⟨g1, g2, g3⟩ := drop_cons hi
      have ih' := ih (i + 1) g2
      rw [eq_spec_l8Catalog_l0, vcase_b, if_pos (by simp; omega), idxF_rw g1]
      simp only [tidy_self]
      rw [w64 (by omega) (by omega), show (i : Int) + 1 = ((i + 1 : Nat) : Int) from by omega, ih', List.any_cons]
      simp only [ob, gx0, gI_i, vcase_b]
      rw [idxF_rw g1]
      simp only [ob, gx0, gI_i, vcase_b]
      rw [idxF_rw g1, show 0 + 5 = 5 from rfl, show 0 + 6 + 2 = 8 from rfl]
      simp only [ob, gx0, gx1, gI_i, gB_b, gS_s, vcase_b, beq_iff_eq, bne_iff_ne, ne_eq, decide_eq_true_eq]
      by_cases h1 : r.tab = c.k.key
      · rw [if_pos h1]
        by_cases h2 : r.tab = 0
        · have e : hinders c r = false := by simp [hinders, h2]
          rw [if_neg (by simpa using h2), e, Bool.false_or]
        · rw [if_pos h2]
          by_cases hi : c.is = true
          · by_cases h3 : (r.text.size : Int) > c.a.val
            · have e : hinders c r = true := by simp [hinders, h1, hi, h3]; rw [← h1]; exact h2
              rw [if_neg (by simp [hi]), if_pos h3, e, Bool.true_or, if_pos rfl]
            · have e : hinders c r = false := by simp [hinders, hi, h3]
              rw [if_neg (by simp [hi]), if_neg h3, e, Bool.false_or]
          · have e : hinders c r = true := by simp [hinders, h1, hi]; rw [← h1]; exact h2
            rw [if_pos (by simp [hi]), e, Bool.true_or, if_pos rfl]
      · have e : hinders c r = false := by simp [hinders, h1]
        rw [if_neg h1, e, Bool.false_or]
  have fin : ((Lp.spec_l8Catalog 0 [lv (rws all), fv c.cs 0, iv .i64 c.k.key, iv .i64 0] (D 0)).bind fun o133 => lcase o133 (fun l134 h135 =>
  some (iv .i64 0)) (fun v136 h137 =>
  frzV h137 v136)) = some (iv .i64 (if all.any (hinders c) then 8 else 0)) := by
    rw [show iv .i64 0 = iv .i64 ((0 : Nat) : Int) from rfl, loop all 0 rfl, ob]
    split
    · rw [lcase_ret]; simp
    · rw [lcase_done]; rfl
  rw [pu_spec_l8Catalog, pc (p_l6Key c) rfl]
  simp only [ob, gx0, gx1, gVT_t, gA1_s, gI_i, ln0, ln1, Nat.zero_add, Nat.reduceAdd, if_true, vcase_b]
  rw [fin, pc (p_l1In _ _ _) rfl]
  simp only [gV1_s, gB_b, vcase_b, decide_eq_true_eq]
  unfold catF
  cases c.is
  · simp
  · simp only [if_true, Bool.true_and]
    cases inB c.k.key 1 3
    · simp
    · simp only [Bool.not_true, Bool.false_or, Bool.false_eq_true, if_false]
      by_cases h3 : c.a.val > 8
      · simp [h3]
      · rw [if_neg h3, decide_eq_false h3, Bool.false_or]
        cases (c.a.text.toList == (⟨#[]⟩ : ByteArray).toList) <;> simp
end Vm
