/-
  What the functions that look for a page's fault come to.
-/
import Derived.Test.YtnidgolbfmbocaaDByt
set_option linter.unusedVariables false
set_option maxRecDepth 100000
set_option linter.unusedSimpArgs false
namespace Vm
open Go

@[simp] theorem w64bt {l : List UInt8} {i : Int} : IntKind.i64.wrap (bt l i) = bt l i := by
  have := bt_nn l i; have := bt_lt l i
  exact w64 (by omega) (by omega)
def plc (l : List UInt8) (i : Nat) : Int := bt l ((2 + 2 * i : Nat) : Int)
def siz (l : List UInt8) (i : Nat) : Int := bt l ((3 + 2 * i : Nat) : Int)
def slotB (l : List UInt8) (i : Nat) : Prop := if plc l i = 0 ∨ siz l i = 0 then plc l i = siz l i else bt l 1 ≤ plc l i ∧ plc l i + siz l i ≤ 64
def apartB (l : List UInt8) (i k : Nat) : Prop := siz l i = 0 ∨ siz l k = 0 ∨ plc l i + siz l i ≤ plc l k ∨ plc l k + siz l k ≤ plc l i
def cnt (l : List UInt8) : Nat := (bt l 0).toNat
theorem cnt_eq (l : List UInt8) : ((cnt l : Nat) : Int) = bt l 0 := by unfold cnt; have := bt_nn l 0; omega
def headB (l : List UInt8) : Prop := bt l 0 ≤ 16 ∧ 2 + 2 * bt l 0 ≤ bt l 1 ∧ bt l 1 ≤ 64
/-- the fault that a page has -/
def PageIs (l : List UInt8) (c : Int) : Prop :=
  (l.length ≠ 64 ∧ c = 1) ∨ (l.length = 64 ∧ ¬ headB l ∧ c = 3) ∨ (l.length = 64 ∧ headB l ∧ (∃ i, i < cnt l ∧ ¬ slotB l i) ∧ c = 3) ∨
  (l.length = 64 ∧ headB l ∧ (∀ i, i < cnt l → slotB l i) ∧ (∃ i k, i < cnt l ∧ k < i ∧ ¬ apartB l i k) ∧ c = 8) ∨
  (l.length = 64 ∧ headB l ∧ (∀ i, i < cnt l → slotB l i) ∧ (∀ i k, i < cnt l → k < i → apartB l i k) ∧ (0 < cnt l ∧ siz l (cnt l - 1) = 0) ∧ c = 8) ∨
  (l.length = 64 ∧ headB l ∧ (∀ i, i < cnt l → slotB l i) ∧ (∀ i k, i < cnt l → k < i → apartB l i k) ∧ ¬ (0 < cnt l ∧ siz l (cnt l - 1) = 0) ∧ c = 0)
theorem PageIs.uniq {l : List UInt8} {c c' : Int} (h : PageIs l c) (h' : PageIs l c') : c = c' := by
  unfold PageIs at h h'
  by_cases h1 : l.length = 64 <;> simp only [h1, ne_eq, not_true_eq_false, not_false_eq_true, true_and, false_and, false_or, or_false] at h h'
  case neg => omega
  by_cases h2 : headB l <;> simp only [h2, not_true_eq_false, not_false_eq_true, true_and, false_and, false_or, or_false] at h h'
  case neg => omega
  by_cases h3 : ∀ i, i < cnt l → slotB l i
  case neg =>
    have h3' : ∃ i, i < cnt l ∧ ¬ slotB l i := by
      apply Classical.byContradiction; intro hh
      exact h3 fun i hi => Classical.byContradiction fun hs => hh ⟨i, hi, hs⟩
    simp only [h3, h3', not_true_eq_false, not_false_eq_true, true_and, false_and, false_or, or_false] at h h'
    omega
  have h3' : ¬ ∃ i, i < cnt l ∧ ¬ slotB l i := fun ⟨i, hi, hs⟩ => hs (h3 i hi)
  simp only [h3', false_and, false_or] at h h'
  by_cases h4 : ∀ i k, i < cnt l → k < i → apartB l i k
  case neg =>
    rcases h with ⟨_, _, h⟩ | ⟨_, h, _⟩ | ⟨_, h, _⟩
    · rcases h' with ⟨_, _, h'⟩ | ⟨_, h', _⟩ | ⟨_, h', _⟩
      · omega
      · exact absurd h' h4
      · exact absurd h' h4
    · exact absurd h h4
    · exact absurd h h4
  have h4' : ¬ ∃ i k, i < cnt l ∧ k < i ∧ ¬ apartB l i k := fun ⟨i, k, hi, hk, hs⟩ => hs (h4 i k hi hk)
  simp only [h4', false_and, and_false, false_or] at h h'
  by_cases h5 : 0 < cnt l ∧ siz l (cnt l - 1) = 0
  · rcases h with ⟨_, _, _, h⟩ | ⟨_, _, h, _⟩
    · rcases h' with ⟨_, _, _, h'⟩ | ⟨_, _, h', _⟩
      · omega
      · exact absurd h5 h'
    · exact absurd h5 h
  · rcases h with ⟨_, _, h, _⟩ | ⟨_, _, _, h⟩
    · exact absurd h h5
    · rcases h' with ⟨_, _, h', _⟩ | ⟨_, _, _, h'⟩
      · exact absurd h' h5
      · omega

theorem pl_bd (l : List UInt8) (i : Nat) : 0 ≤ plc l i ∧ plc l i < 256 ∧ 0 ≤ siz l i ∧ siz l i < 256 := ⟨bt_nn _ _, bt_lt _ _, bt_nn _ _, bt_lt _ _⟩
open Classical in
/-- the fault of a page -/
noncomputable def pagF (l : List UInt8) : Int := if l.length ≠ 64 then 1 else if ¬ headB l then 3 else if ∃ i, i < cnt l ∧ ¬ slotB l i then 3 else if ∃ i k, i < cnt l ∧ k < i ∧ ¬ apartB l i k then 8 else if 0 < cnt l ∧ siz l (cnt l - 1) = 0 then 8 else 0
theorem pagF_is (l : List UInt8) : PageIs l (pagF l) := by
  unfold pagF PageIs
  by_cases h1 : l.length = 64
  case neg => simp [h1]
  by_cases h2 : headB l
  case neg => simp [h1, h2]
  by_cases h3 : ∃ i, i < cnt l ∧ ¬ slotB l i
  · simp [h1, h2, h3]
  have h3' : ∀ i, i < cnt l → slotB l i := fun i hi => Classical.byContradiction fun hs => h3 ⟨i, hi, hs⟩
  by_cases h4 : ∃ i k, i < cnt l ∧ k < i ∧ ¬ apartB l i k
  · rw [if_neg (by simpa using h1), if_neg (by simpa using h2), if_neg h3, if_pos h4]
    exact .inr (.inr (.inr (.inl ⟨h1, h2, h3', h4, rfl⟩)))
  have h4' : ∀ i k, i < cnt l → k < i → apartB l i k := fun i k hi hk => Classical.byContradiction fun hs => h4 ⟨i, k, hi, hk, hs⟩
  rw [if_neg (by simpa using h1), if_neg (by simpa using h2), if_neg h3, if_neg h4]
  by_cases h5 : 0 < cnt l ∧ siz l (cnt l - 1) = 0
  · rw [if_pos h5]; exact .inr (.inr (.inr (.inr (.inl ⟨h1, h2, h3', h4', h5, rfl⟩))))
  · rw [if_neg h5]; exact .inr (.inr (.inr (.inr (.inr ⟨h1, h2, h3', h4', h5, rfl⟩))))
theorem PageIs.f {l : List UInt8} {c : Int} (h : PageIs l c) : c = pagF l := h.uniq (pagF_is l)
/-- a page without a fault -/
theorem pagF_ok {l : List UInt8} (h : pagF l = 0) : l.length = 64 ∧ headB l ∧ (∀ i, i < cnt l → slotB l i) ∧ (∀ i k, i < cnt l → k < i → apartB l i k) ∧ ¬ (0 < cnt l ∧ siz l (cnt l - 1) = 0) := by
  have hp := pagF_is l
  rw [h] at hp
  rcases hp with ⟨_, hc⟩ | ⟨_, _, hc⟩ | ⟨_, _, _, hc⟩ | ⟨_, _, _, _, hc⟩ | ⟨_, _, _, _, _, hc⟩ | ⟨h1, h2, h3, h4, h5, _⟩
  · cases hc
  · cases hc
  · cases hc
  · cases hc
  · cases hc
  · exact ⟨h1, h2, h3, h4, h5⟩
section
variable {l : List UInt8}
theorem p_l2Count (hl : 0 < l.length) : pureV (call Ev) Fn.spec_l2Count [lv (bys l)] = some (iv .i64 (bt l 0)) := by
  rw [pu_spec_l2Count, idxF_by (by omega) (by omega)]; simp
theorem p_slots (hl : 0 < l.length) : pureV (call Ev) Fn.impl_slots [lv (bys l)] = some (iv .i64 (bt l 0)) := by
  rw [pu_impl_slots, idxF_by (by omega) (by omega)]; simp
theorem p_l2Low (hl : 1 < l.length) : pureV (call Ev) Fn.spec_l2Low [lv (bys l)] = some (iv .i64 (bt l 1)) := by
  rw [pu_spec_l2Low, idxF_by (by omega) (by omega)]; simp
theorem p_l2Place {i : Nat} (hl : 2 + 2 * i < l.length) (hi : i < 1000) : pureV (call Ev) Fn.spec_l2Place [lv (bys l), iv .i64 i] = some (iv .i64 (plc l i)) := by
  rw [pu_spec_l2Place, w64 (n := 2 * (i : Int)) (by omega) (by omega), w64 (by omega) (by omega), idxF_by (by omega) (by omega)]
  simp [plc]
theorem p_l2Size {i : Nat} (hl : 3 + 2 * i < l.length) (hi : i < 1000) : pureV (call Ev) Fn.spec_l2Size [lv (bys l), iv .i64 i] = some (iv .i64 (siz l i)) := by
  rw [pu_spec_l2Size, w64 (n := 2 * (i : Int)) (by omega) (by omega), w64 (by omega) (by omega), idxF_by (by omega) (by omega)]
  simp [siz]
theorem p_spot {i : Nat} (hl : 3 + 2 * i < l.length) (hi : i < 1000) : pureV (call Ev) Fn.impl_spot [lv (bys l), iv .i64 i] = some (.tup [.s (.int .i64 (plc l i)), .s (.int .i64 (siz l i))]) := by
  rw [pu_impl_spot, w64 (n := 2 * (i : Int)) (by omega) (by omega), w64 (by omega) (by omega), w64 (by omega) (by omega), idxF_by (by omega) (by omega)]
  simp only [gx0, ob, gI_i]
  rw [idxF_by (by omega) (by omega)]
  simp [plc, siz]
theorem p_l2Slot {i : Nat} (hl : 3 + 2 * i < l.length) (hi : i < 1000) : ∃ b, pureV (call Ev) Fn.spec_l2Slot [lv (bys l), iv .i64 i] = some (bv b) ∧ (b = true ↔ slotB l i) := by
  have q := pl_bd l i
  rw [pu_spec_l2Slot, pc (p_l2Place (by omega) hi) rfl]
  simp only [gV1_s, gI_i]
  rw [pc (p_l2Size hl hi) rfl]
  simp only [gV1_s, gI_i]
  rw [pc (p_l2Low (by omega)) rfl]
  simp only [gV1_s, gI_i, vcase_b]
  rw [w64 (n := plc l i + siz l i) (by omega) (by omega)]
  unfold slotB
  by_cases hp : plc l i = 0
  · rw [if_pos (by simpa using hp), if_pos (.inl hp)]; exact ⟨_, rfl, by simp⟩
  rw [if_neg (by simpa using hp)]
  by_cases hs : siz l i = 0
  · rw [if_pos (by simpa using hs), if_pos (.inr hs)]; exact ⟨_, rfl, by simp⟩
  rw [if_neg (by simpa using hs), if_neg (show ¬ (plc l i = 0 ∨ siz l i = 0) by omega)]
  by_cases hb : bt l 1 ≤ plc l i
  · rw [if_pos (by simpa using hb)]; exact ⟨_, rfl, by simp [hb]⟩
  · rw [if_neg (by simpa using hb)]; exact ⟨_, rfl, by simp [hb]⟩
theorem p_l2Apart {i k : Nat} (hl : 3 + 2 * i < l.length) (hi : i < 1000) (hl' : 3 + 2 * k < l.length) (hk : k < 1000) : ∃ b, pureV (call Ev) Fn.spec_l2Apart [lv (bys l), iv .i64 i, iv .i64 k] = some (bv b) ∧ (b = true ↔ apartB l i k) := by
  have q1 := pl_bd l i
  have q2 := pl_bd l k
  have j : ∀ q, Jn.spec_l2Apart_0 q (bys l) i k = some (bv (q || (decide (plc l i + siz l i ≤ plc l k) || decide (plc l k + siz l k ≤ plc l i)))) := by
    intro q
    unfold Jn.spec_l2Apart_0
    rw [vcase_b]
    cases q
    · simp only [Bool.false_eq_true, if_false, Bool.false_or]
      rw [pc (p_l2Place (by omega) hi) rfl]; simp only [gV1_s, gI_i]
      rw [pc (p_l2Size hl hi) rfl]; simp only [gV1_s, gI_i]
      rw [pc (p_l2Place (by omega) hk) rfl]; simp only [gV1_s, gI_i]
      rw [pc (p_l2Place (by omega) hk) rfl]; simp only [gV1_s, gI_i]
      rw [pc (p_l2Size hl' hk) rfl]; simp only [gV1_s, gI_i, vcase_b]
      rw [pc (p_l2Place (by omega) hi) rfl]; simp only [gV1_s, gI_i, vcase_b]
      rw [w64 (n := plc l i + siz l i) (by omega) (by omega), w64 (n := plc l k + siz l k) (by omega) (by omega)]
      by_cases h3 : plc l i + siz l i ≤ plc l k
      · rw [if_pos (by simpa using h3)]; simp [h3]
      · rw [if_neg (by simpa using h3)]; simp [h3]
    · rfl
  rw [pu_spec_l2Apart, pc (p_l2Size hl hi) rfl]
  simp only [gV1_s, gI_i, vcase_b]
  rw [pc (p_l2Size hl' hk) rfl]
  simp only [gV1_s, gI_i, j]
  unfold apartB
  by_cases h1 : siz l i = 0
  · rw [if_pos (by simpa using h1)]; exact ⟨_, rfl, by simp [h1]⟩
  rw [if_neg (by simpa using h1)]
  exact ⟨_, rfl, by simp [h1]⟩
theorem lp_l2Fault0 {n : Nat} {h : H} (hn : 2 + 2 * n ≤ l.length) (hn' : n < 1000) : ∀ k i : Nat, i + k = n →
    ((∀ j, i ≤ j → j < n → slotB l j) ∧ Lp.spec_l2Fault 0 [lv (bys l), iv .i64 n, iv .i64 i] h = some (.done [lv (bys l), iv .i64 n] h)) ∨
    ((∃ j, j < n ∧ ¬ slotB l j) ∧ Lp.spec_l2Fault 0 [lv (bys l), iv .i64 n, iv .i64 i] h = some (.ret (iv .i64 3) h)) := by
  intro k
  induction k with
  | zero =>
    intro i hi
    exact .inl ⟨fun j h1 h2 => by omega, by rw [eq_spec_l2Fault_l0, vcase_b, if_neg (by simp; omega), tidy_self]⟩
  | succ k ih =>
    intro i hi
    obtain ⟨b, e, hb⟩ := p_l2Slot (l := l) (i := i) (by omega) (by omega)
    rw [eq_spec_l2Fault_l0, vcase_b, if_pos (by simp; omega), pc e rfl]
    simp only [gV1_s, gB_b, vcase_b]
    cases b with
    | false => exact .inr ⟨⟨i, by omega, fun hh => by simpa using hb.2 hh⟩, rfl⟩
    | true =>
      rw [if_neg (by simp), w64 (by omega) (by omega), tidy_self, show (i : Int) + 1 = ((i + 1 : Nat) : Int) from by omega]
      rcases ih (i + 1) (by omega) with ⟨h1, h2⟩ | h1
      · refine .inl ⟨fun j hj1 hj2 => ?_, h2⟩
        by_cases hj : j = i
        · subst hj; exact hb.1 rfl
        · exact h1 j (by omega) hj2
      · exact .inr h1
theorem lp_l2Fault4 {n i : Nat} {h : H} (hn : 2 + 2 * n ≤ l.length) (hn' : n < 1000) (hi : i < n) : ∀ q k : Nat, k + q = i →
    ((∀ j, k ≤ j → j < i → apartB l i j) ∧ Lp.spec_l2Fault 4 [lv (bys l), iv .i64 n, iv .i64 i, iv .i64 k] h = some (.done [lv (bys l), iv .i64 n, iv .i64 i] h)) ∨
    ((∃ j, j < i ∧ ¬ apartB l i j) ∧ Lp.spec_l2Fault 4 [lv (bys l), iv .i64 n, iv .i64 i, iv .i64 k] h = some (.ret (iv .i64 8) h)) := by
  intro q
  induction q with
  | zero =>
    intro k hk
    exact .inl ⟨fun j h1 h2 => by omega, by rw [eq_spec_l2Fault_l4, vcase_b, if_neg (by simp; omega), tidy_self]⟩
  | succ q ih =>
    intro k hk
    obtain ⟨b, e, hb⟩ := p_l2Apart (l := l) (i := i) (k := k) (by omega) (by omega) (by omega) (by omega)
    rw [eq_spec_l2Fault_l4, vcase_b, if_pos (by simp; omega), pc e rfl]
    simp only [gV1_s, gB_b, vcase_b]
    cases b with
    | false => exact .inr ⟨⟨k, by omega, fun hh => by simpa using hb.2 hh⟩, rfl⟩
    | true =>
      rw [if_neg (by simp), w64 (by omega) (by omega), tidy_self, show (k : Int) + 1 = ((k + 1 : Nat) : Int) from by omega]
      rcases ih (k + 1) (by omega) with ⟨h1, h2⟩ | h1
      · refine .inl ⟨fun j hj1 hj2 => ?_, h2⟩
        by_cases hj : j = k
        · subst hj; exact hb.1 rfl
        · exact h1 j (by omega) hj2
      · exact .inr h1
theorem lp_l2Fault2 {n : Nat} {h : H} (hn : 2 + 2 * n ≤ l.length) (hn' : n < 1000) : ∀ q i : Nat, i + q = n →
    ((∀ j k, i ≤ j → j < n → k < j → apartB l j k) ∧ Lp.spec_l2Fault 2 [lv (bys l), iv .i64 n, iv .i64 i] h = some (.done [lv (bys l), iv .i64 n] h)) ∨
    ((∃ j k, j < n ∧ k < j ∧ ¬ apartB l j k) ∧ Lp.spec_l2Fault 2 [lv (bys l), iv .i64 n, iv .i64 i] h = some (.ret (iv .i64 8) h)) := by
  intro q
  induction q with
  | zero =>
    intro i hi
    exact .inl ⟨fun j k h1 h2 => by omega, by rw [eq_spec_l2Fault_l2, vcase_b, if_neg (by simp; omega), tidy_self]⟩
  | succ q ih =>
    intro i hi
    rw [eq_spec_l2Fault_l2, vcase_b, if_pos (by simp; omega), show iv .i64 0 = iv .i64 ((0 : Nat) : Int) from rfl]
    rcases lp_l2Fault4 (l := l) (h := h) hn hn' (i := i) (by omega) i 0 (by omega) with ⟨h1, h2⟩ | ⟨⟨j, h1, h1'⟩, h2⟩
    · rw [h2, ob, lcase_done]
      simp only [gx0, gx1, ob, gV1_s, gF_f, gI_i]
      rw [w64 (by omega) (by omega), tidy_self, show (i : Int) + 1 = ((i + 1 : Nat) : Int) from by omega]
      rcases ih (i + 1) (by omega) with ⟨g1, g2⟩ | g1
      · refine .inl ⟨fun j k hj1 hj2 hk => ?_, g2⟩
        by_cases hj : j = i
        · subst hj; exact h1 k (by omega) hk
        · exact g1 j k (by omega) hj2 hk
      · exact .inr g1
    · rw [h2, ob, lcase_ret]
      exact .inr ⟨⟨i, j, by omega, h1, h1'⟩, rfl⟩
theorem p_l2Fault : pureV (call Ev) Fn.spec_l2Fault [lv (bys l)] = some (iv .i64 (pagF l)) := by
  suffices hh : ∃ c, pureV (call Ev) Fn.spec_l2Fault [lv (bys l)] = some (iv .i64 c) ∧ PageIs l c by
    obtain ⟨c, e, hc⟩ := hh
    rw [e, hc.f]
  rw [pu_spec_l2Fault, vcase_b, bys_len]
  by_cases h64 : l.length = 64
  case neg => rw [if_pos (by simp; omega)]; exact ⟨_, rfl, .inl ⟨h64, rfl⟩⟩
  have b1 := bt_lt l 0
  have b2 := bt_nn l 0
  have hc := cnt_eq l
  rw [if_neg (by simp [h64]), pc (p_l2Count (by omega)) rfl]
  simp only [gV1_s, gI_i, vcase_b]
  by_cases g1 : bt l 0 ≤ 16
  case neg => rw [if_pos (by simp; omega)]; exact ⟨_, rfl, .inr (.inl ⟨h64, fun hh => g1 hh.1, rfl⟩)⟩
  have j0 : ∀ q, (q = true ∧ ¬ headB l ∨ q = false ∧ headB l) → ∃ c, Jn.spec_l2Fault_0 q (bys l) (bt l 0) = some (iv .i64 c) ∧ PageIs l c := by
    intro q hq
    unfold Jn.spec_l2Fault_0
    rw [vcase_b]
    rcases hq with ⟨rfl, hq⟩ | ⟨rfl, hd⟩
    · exact ⟨_, rfl, .inr (.inl ⟨h64, hq, rfl⟩)⟩
    have hd2 := hd
    obtain ⟨_, g2, g3⟩ := hd2
    rw [if_neg (by simp), ← hc, show iv .i64 0 = iv .i64 ((0 : Nat) : Int) from rfl]
    rcases lp_l2Fault0 (l := l) (h := D 0) (n := cnt l) (by omega) (by omega) (cnt l) 0 (by omega) with ⟨s1, s2⟩ | ⟨⟨j, s1, s1'⟩, s2⟩
    case inr => rw [s2, ob, lcase_ret]; exact ⟨_, frzV_s, .inr (.inr (.inl ⟨h64, hd, ⟨j, s1, s1'⟩, rfl⟩))⟩
    have s1' : ∀ i, i < cnt l → slotB l i := fun i hi => s1 i (Nat.zero_le _) hi
    rw [s2, ob, lcase_done]
    simp only [gx0, gx1, ob, gV1_s, gF_f, gI_i]
    rcases lp_l2Fault2 (l := l) (h := D 0) (n := cnt l) (by omega) (by omega) (cnt l) 0 (by omega) with ⟨t1, t2⟩ | ⟨⟨j, k, t1, t3, t1'⟩, t2⟩
    case inr => rw [t2, ob, lcase_ret]; exact ⟨_, frzV_s, .inr (.inr (.inr (.inl ⟨h64, hd, s1', ⟨j, k, t1, t3, t1'⟩, rfl⟩)))⟩
    have t1' : ∀ i k, i < cnt l → k < i → apartB l i k := fun i k hi hk => t1 i k (Nat.zero_le _) hi hk
    rw [t2, ob, lcase_done]
    simp only [gx0, gx1, ob, gV1_s, gF_f, gI_i, vcase_b]
    by_cases u : (0 : Int) < (cnt l : Int)
    case neg => rw [if_neg (by simp; omega)]; exact ⟨_, rfl, .inr (.inr (.inr (.inr (.inr ⟨h64, hd, s1', t1', fun hh => by omega, rfl⟩))))⟩
    rw [if_pos (by simpa using u), w64 (by omega) (by omega), show (cnt l : Int) - 1 = ((cnt l - 1 : Nat) : Int) from by omega, pc (p_l2Size (by omega) (by omega)) rfl]
    simp only [gV1_s, gI_i, vcase_b]
    by_cases u2 : siz l (cnt l - 1) = 0
    · rw [if_pos (by simpa using u2)]; exact ⟨_, rfl, .inr (.inr (.inr (.inr (.inl ⟨h64, hd, s1', t1', ⟨by omega, u2⟩, rfl⟩))))⟩
    · rw [if_neg (by simpa using u2)]; exact ⟨_, rfl, .inr (.inr (.inr (.inr (.inr ⟨h64, hd, s1', t1', fun hh => u2 hh.2, rfl⟩))))⟩
  rw [if_neg (by simpa using g1), pc (p_l2Low (by omega)) rfl]
  simp only [gV1_s, gI_i, vcase_b]
  rw [w64 (n := 2 * bt l 0) (by omega) (by omega), w64 (n := 2 + 2 * bt l 0) (by omega) (by omega)]
  by_cases g2 : 2 + 2 * bt l 0 ≤ bt l 1
  case neg => rw [if_pos (by simp; omega)]; exact j0 _ (.inl ⟨rfl, fun hh => g2 hh.2.1⟩)
  rw [if_neg (by simp; omega), pc (p_l2Low (by omega)) rfl]
  simp only [gV1_s, gI_i]
  refine j0 _ ?_
  by_cases g3 : bt l 1 ≤ 64
  · exact .inr ⟨by simpa using g3, g1, g2, g3⟩
  · exact .inl ⟨by simp; omega, fun hh => g3 hh.2.2⟩
theorem lp_PF0 {n : Nat} {h : H} (hn : 2 + 2 * n ≤ l.length) (hn' : n < 1000) : ∀ k i : Nat, i + k = n →
    ((∀ j, i ≤ j → j < n → slotB l j) ∧ Lp.impl_PageFault 0 [lv (bys l), iv .i64 n, iv .i64 (bt l 1), iv .i64 n, iv .i64 i] h = some (.done [lv (bys l), iv .i64 n] h)) ∨
    ((∃ j, j < n ∧ ¬ slotB l j) ∧ Lp.impl_PageFault 0 [lv (bys l), iv .i64 n, iv .i64 (bt l 1), iv .i64 n, iv .i64 i] h = some (.ret (iv .i64 3) h)) := by
  intro k
  induction k with
  | zero =>
    intro i hi
    exact .inl ⟨fun j h1 h2 => by omega, by rw [eq_impl_PageFault_l0, vcase_b, if_neg (by simp; omega), tidy_self]⟩
  | succ k ih =>
    intro i hi
    have q1 := pl_bd l i
    rw [eq_impl_PageFault_l0, vcase_b, if_pos (by simp; omega), pc (p_spot (by omega) (by omega)) rfl]
    simp only [gVT_t, gx0, gx1, ob, gA1_s, gI_i, ln0, ln1, Nat.zero_add, Nat.reduceAdd, if_true, vcase_b, tidy_self]
    rw [w64 (n := plc l i + siz l i) (by omega) (by omega), w64 (n := (i : Int) + 1) (by omega) (by omega), show (i : Int) + 1 = ((i + 1 : Nat) : Int) from by omega]
    have more : slotB l i → ((∀ j, i ≤ j → j < n → slotB l j) ∧ Lp.impl_PageFault 0 [lv (bys l), iv .i64 n, iv .i64 (bt l 1), iv .i64 n, iv .i64 ((i + 1 : Nat) : Int)] h = some (.done [lv (bys l), iv .i64 n] h)) ∨
        ((∃ j, j < n ∧ ¬ slotB l j) ∧ Lp.impl_PageFault 0 [lv (bys l), iv .i64 n, iv .i64 (bt l 1), iv .i64 n, iv .i64 ((i + 1 : Nat) : Int)] h = some (.ret (iv .i64 3) h)) := by
      intro hs
      rcases ih (i + 1) (by omega) with ⟨h1, h2⟩ | h1
      · refine .inl ⟨fun j hj1 hj2 => ?_, h2⟩
        by_cases hj : j = i
        · subst hj; exact hs
        · exact h1 j (by omega) hj2
      · exact .inr h1
    have bad : ¬ slotB l i → ∃ j, j < n ∧ ¬ slotB l j := fun hs => ⟨i, by omega, hs⟩
    unfold slotB at more bad
    by_cases hp : plc l i = 0
    · by_cases hs : siz l i = 0
      · rw [if_neg (by simp [hp, hs]), if_neg (by simp [hp]), if_neg (by simp [hp, hs])]
        exact more (by rw [if_pos (.inl hp)]; omega)
      · rw [if_pos (by simp [hp, hs])]
        exact .inr ⟨bad (by rw [if_pos (.inl hp)]; omega), rfl⟩
    · by_cases hs : siz l i = 0
      · rw [if_pos (by simp [hp, hs])]
        exact .inr ⟨bad (by rw [if_pos (.inr hs)]; omega), rfl⟩
      · rw [if_neg (by rw [show (plc l i == 0) = false from by simpa using hp, show (siz l i == 0) = false from by simpa using hs]; simp), if_pos (by simpa using hp)]
        by_cases hb : bt l 1 ≤ plc l i
        · rw [if_neg (by simpa using hb)]
          by_cases hz : plc l i + siz l i ≤ 64
          · rw [if_neg (by simpa using hz)]
            exact more (by rw [if_neg (by omega)]; omega)
          · rw [if_pos (by simp; omega)]
            exact .inr ⟨bad (by rw [if_neg (by omega)]; omega), rfl⟩
        · rw [if_pos (by simp; omega)]
          exact .inr ⟨bad (by rw [if_neg (by omega)]; omega), rfl⟩
end
def usedC (f : Nat → Bool) : List S := (List.range 64).map fun y => .bool (f y)
theorem usedC0 : usedC (fun _ => false) = [.bool false, .bool false, .bool false, .bool false, .bool false, .bool false, .bool false, .bool false, .bool false, .bool false, .bool false, .bool false, .bool false, .bool false, .bool false, .bool false, .bool false, .bool false, .bool false, .bool false, .bool false, .bool false, .bool false, .bool false, .bool false, .bool false, .bool false, .bool false, .bool false, .bool false, .bool false, .bool false, .bool false, .bool false, .bool false, .bool false, .bool false, .bool false, .bool false, .bool false, .bool false, .bool false, .bool false, .bool false, .bool false, .bool false, .bool false, .bool false, .bool false, .bool false, .bool false, .bool false, .bool false, .bool false, .bool false, .bool false, .bool false, .bool false, .bool false, .bool false, .bool false, .bool false, .bool false, .bool false] := by rfl
theorem usedC_get {f : Nat → Bool} {y : Nat} (h : y < 64) : (usedC f)[y]? = some (.bool (f y)) := by simp [usedC, h]
theorem usedC_set {f : Nat → Bool} {x : Nat} : (usedC f).set x (.bool true) = usedC fun y => if y = x then true else f y := by
  refine List.ext_getElem? fun y => ?_
  by_cases hy : y < 64
  · by_cases hx : y = x
    · subst hx
      rw [List.getElem?_set_self (by simp [usedC]; exact hy), usedC_get hy]; simp
    · rw [List.getElem?_set_ne (by omega), usedC_get hy, usedC_get hy]; simp [hx]
  · rw [List.getElem?_eq_none (by simp [usedC]; omega), List.getElem?_eq_none (by simp [usedC]; omega)]
theorem usedC_ext {f g : Nat → Bool} (h : ∀ y, y < 64 → f y = g y) : usedC f = usedC g := by
  unfold usedC
  exact List.map_congr_left fun y hy => by rw [h y (List.mem_range.1 hy)]
theorem idxA_of {len b : Nat} {k : IntKind} {x : Nat} (hx : x < len) : idxA len 1 (pv b 0) (iv k x) = some (pv b x) := by
  simp only [idxA]; rw [if_pos ⟨by omega, by omega⟩]; simp
/-- the heap with the bytes that are taken -/
structure Used (b : Nat) (h : H) (f : Nat → Bool) : Prop where
  n : b < h.n
  g : h.g b = .rw 0 (usedC f)
/-- only this block is another -/
def Oth (b : Nat) (h h' : H) : Prop := h'.n = h.n ∧ ∀ c, c ≠ b → h'.g c = h.g c ∧ h'.v c = h.v c
theorem Oth.refl (b : Nat) (h : H) : Oth b h h := ⟨rfl, fun _ _ => ⟨rfl, rfl⟩⟩
theorem Oth.trans {b : Nat} {h h' h'' : H} (x : Oth b h h') (y : Oth b h' h'') : Oth b h h'' := ⟨y.1.trans x.1, fun c hc => ⟨(y.2 c hc).1.trans (x.2 c hc).1, (y.2 c hc).2.trans (x.2 c hc).2⟩⟩
theorem Oth.put {b : Nat} {h : H} {x : Blk} : Oth b h (h.put b x) := ⟨rfl, fun c hc => by simp [H.put, hc]⟩
theorem Oth.tidy {b : Nat} {h h' : H} {l : List V} (x : Oth b h h') (hb : b < h.n) : tidy h l h' = h' := tidy_same' x.1 fun c hc => x.2 c (by omega)
where
  tidy_same' {h h' : H} {l : List V} (hn : h'.n = h.n) (hg : ∀ c, h.n ≤ c → h'.g c = h.g c ∧ h'.v c = h.v c) : Vm.tidy h l h' = h' := by
    unfold Vm.tidy
    split
    · obtain ⟨n', g', v'⟩ := h'
      simp only at hn
      subst hn
      simp only [H.mk.injEq, true_and]
      constructor <;> (funext b; split <;> first | rfl | (have := hg b (by omega); simp_all))
    · rfl
theorem ld_used {R : Type} {b x : Nat} {h : H} {f : Nat → Bool} {k : V → Option R} (u : Used b h f) (hx : x < 64) : ldK (.one (.b)) ⟨1, 1, [.bool false], false, .bool, false⟩ h (pv b x) k = k (bv (f x)) := by
  simp [ldK, ldT, load1, H.cells, u.n, u.g, Blk.cells, usedC_get hx]
theorem lp_PF4 {l : List UInt8} {b n i P Q : Nat} (hn : n < 1000) (hi : i < 1000) (hP : P + Q ≤ 64) : ∀ (q x : Nat) (f : Nat → Bool) (h : H), x + q = P + Q → Used b h f →
    ((∀ y, x ≤ y → y < P + Q → f y = false) ∧ ∃ h', Lp.impl_PageFault 4 [lv (bys l), iv .i64 n, pv b 0, iv .i64 P, iv .i64 Q, iv .i64 x, iv .i64 n, iv .i64 i] h =
      some (.done [lv (bys l), iv .i64 n, pv b 0, iv .i64 n, iv .i64 i] h') ∧ Oth b h h' ∧ Used b h' fun y => f y || (decide (x ≤ y) && decide (y < P + Q))) ∨
    ((∃ y, x ≤ y ∧ y < P + Q ∧ f y = true) ∧ ∃ h', Lp.impl_PageFault 4 [lv (bys l), iv .i64 n, pv b 0, iv .i64 P, iv .i64 Q, iv .i64 x, iv .i64 n, iv .i64 i] h = some (.ret (iv .i64 8) h')) := by
  intro q
  induction q with
  | zero =>
    intro x f h hx u
    refine .inl ⟨fun y h1 h2 => by omega, h, ?_, Oth.refl _ _, u.n, ?_⟩
    · rw [eq_impl_PageFault_l4, w64 (n := (P : Int) + Q) (by omega) (by omega), vcase_b, if_neg (by simp; omega), tidy_self]
    · rw [u.g]
      congr 1
      exact usedC_ext fun y hy => by
        have : (decide (x ≤ y) && decide (y < P + Q)) = false := by simp; omega
        rw [this]; simp
  | succ q ih =>
    intro x f h hx u
    rw [eq_impl_PageFault_l4, w64 (n := (P : Int) + Q) (by omega) (by omega), vcase_b, if_pos (by simp; omega), idxA_of (by omega), ob, ld_used u (by omega)]
    simp only [gV1_s, gB_b, vcase_b]
    by_cases hf : f x = true
    · rw [if_pos hf]
      exact .inr ⟨⟨x, Nat.le_refl _, by omega, hf⟩, h, rfl⟩
    · rw [if_neg hf, ob, stK_rw (z := 1) (e := 0) (cs := usedC f) (r := [.bool true]) u.n u.g (.inl ⟨_, rfl, rfl, rfl⟩) rfl (by simp [usedC]; omega)]
      have e2 : setAt (usedC f) x [.bool true] = usedC fun y => if y = x then true else f y := by
        rw [← usedC_set]
        unfold setAt
        rw [List.set_eq_take_append_cons_drop, if_pos (by simp [usedC]; omega)]
        simp
      rw [e2, tidy_put u.n, w64 (by omega) (by omega), show (x : Int) + 1 = ((x + 1 : Nat) : Int) from by omega]
      have u2 : Used b (h.put b (.rw 0 (usedC fun y => if y = x then true else f y))) (fun y => if y = x then true else f y) := ⟨u.n, put_g _ _ _⟩
      rcases ih (x + 1) _ _ (by omega) u2 with ⟨h1, h', h2, h3, h4⟩ | ⟨⟨y, h1, h2, h3⟩, h', h4⟩
      · refine .inl ⟨fun y hy1 hy2 => ?_, h', h2, Oth.put.trans h3, h4.n, ?_⟩
        · by_cases hy : y = x
          · subst hy; simpa using hf
          · have := h1 y (by omega) hy2; simpa [hy] using this
        · rw [h4.g]
          congr 1
          exact usedC_ext fun y hy => by
            by_cases hyx : y = x
            · subst hyx; simp; omega
            · simp only [if_neg hyx]
              congr 2
              simp; omega
      · refine .inr ⟨⟨y, by omega, h2, ?_⟩, h', h4⟩
        have hy : y ≠ x := by omega
        simpa [hy] using h3
/-- a cell covers a byte -/
def cov (l : List UInt8) (j y : Nat) : Prop := plc l j ≤ y ∧ (y : Int) < plc l j + siz l j
section
variable {l : List UInt8}
theorem lp_PF2 {b n : Nat} (hn : 2 + 2 * n ≤ l.length) (hn' : n < 1000) (hs : ∀ j, j < n → slotB l j) : ∀ (q i : Nat) (f : Nat → Bool) (h : H), i + q = n → Used b h f → (∀ y, y < 64 → (f y = true ↔ ∃ j, j < i ∧ cov l j y)) →
    ((∀ j k, i ≤ j → j < n → k < j → apartB l j k) ∧ ∃ h', Lp.impl_PageFault 2 [lv (bys l), iv .i64 n, pv b 0, iv .i64 n, iv .i64 i] h = some (.done [lv (bys l), iv .i64 n] h')) ∨
    ((∃ j k, j < n ∧ k < j ∧ ¬ apartB l j k) ∧ ∃ h', Lp.impl_PageFault 2 [lv (bys l), iv .i64 n, pv b 0, iv .i64 n, iv .i64 i] h = some (.ret (iv .i64 8) h')) := by
  intro q
  induction q with
  | zero =>
    intro i f h hi u hf
    exact .inl ⟨fun j k h1 h2 => by omega, _, by rw [eq_impl_PageFault_l2, vcase_b, if_neg (by simp; omega)]⟩
  | succ q ih =>
    intro i f h hi u hf
    have q1 := pl_bd l i
    have hsl := hs i (by omega)
    have hPQ : plc l i + siz l i ≤ 64 := by
      unfold slotB at hsl
      split at hsl <;> omega
    obtain ⟨P, hP⟩ : ∃ P : Nat, plc l i = P := ⟨(plc l i).toNat, by omega⟩
    obtain ⟨Q, hQ⟩ : ∃ Q : Nat, siz l i = Q := ⟨(siz l i).toNat, by omega⟩
    rw [eq_impl_PageFault_l2, vcase_b, if_pos (by simp; omega), pc (p_spot (by omega) (by omega)) rfl]
    simp only [gVT_t, gx0, gx1, ob, gA1_s, gI_i, ln0, ln1, Nat.zero_add, Nat.reduceAdd, if_true, hP, hQ]
    rcases lp_PF4 (l := l) (b := b) (n := n) (i := i) (P := P) (Q := Q) hn' (by omega) (by omega) Q P f h rfl u with ⟨h1, h', h2, h3, h4⟩ | ⟨⟨y, h1, h2, h3⟩, h', h4⟩
    · rw [h2, ob, lcase_done]
      simp only [gx0, gx1, ob, gV1_s, gF_f, gI_i]
      rw [w64 (by omega) (by omega), show (i : Int) + 1 = ((i + 1 : Nat) : Int) from by omega, h3.tidy u.n]
      have ap : ∀ j, j < i → apartB l i j := by
        intro j hj
        apply Classical.byContradiction
        intro hna
        unfold apartB at hna
        simp only [not_or] at hna
        have q2 := pl_bd l j
        have hj' := hs j (by omega)
        have hPQ' : plc l j + siz l j ≤ 64 := by
          unfold slotB at hj'
          split at hj' <;> omega
        obtain ⟨P', hP'⟩ : ∃ P : Nat, plc l j = P := ⟨(plc l j).toNat, by omega⟩
        have hy := h1 (max P P') (by omega) (by omega)
        have := (hf (max P P') (by omega)).2 ⟨j, hj, by unfold cov; omega⟩
        rw [hy] at this; cases this
      have ch : ∀ y, y < 64 → ((f y || (decide (P ≤ y) && decide (y < P + Q))) = true ↔ ∃ j, j < i + 1 ∧ cov l j y) := by
        intro y hy
        simp only [Bool.or_eq_true, Bool.and_eq_true, decide_eq_true_eq]
        constructor
        · rintro (hh | hh)
          · obtain ⟨j, hj, hc⟩ := (hf y hy).1 hh; exact ⟨j, by omega, hc⟩
          · exact ⟨i, by omega, by unfold cov; omega⟩
        · rintro ⟨j, hj, hc⟩
          by_cases hji : j = i
          · subst hji; right; unfold cov at hc; omega
          · left; exact (hf y hy).2 ⟨j, by omega, hc⟩
      rcases ih (i + 1) _ _ (by omega) h4 ch with ⟨g1, h'', g2⟩ | ⟨g1, h'', g2⟩
      · refine .inl ⟨fun j k hj1 hj2 hk => ?_, h'', g2⟩
        by_cases hj : j = i
        · subst hj; exact ap k hk
        · exact g1 j k (by omega) hj2 hk
      · exact .inr ⟨g1, h'', g2⟩
    · rw [h4, ob, lcase_ret]
      obtain ⟨j, hj, hc⟩ := (hf y (by omega)).1 h3
      refine .inr ⟨⟨i, j, by omega, hj, ?_⟩, h', rfl⟩
      unfold cov at hc; unfold apartB
      omega
theorem p_PageFault : pureV (call Ev) Fn.impl_PageFault [lv (bys l)] = some (iv .i64 (pagF l)) := by
  suffices hh : ∃ c, pureV (call Ev) Fn.impl_PageFault [lv (bys l)] = some (iv .i64 c) ∧ PageIs l c by
    obtain ⟨c, e, hc⟩ := hh
    rw [e, hc.f]
  rw [pu_impl_PageFault, vcase_b, bys_len]
  by_cases h64 : l.length = 64
  case neg => rw [if_pos (by simp; omega)]; exact ⟨_, rfl, .inl ⟨h64, rfl⟩⟩
  have b1 := bt_lt l 0
  have b2 := bt_nn l 0
  have b3 := bt_lt l 1
  have b4 := bt_nn l 1
  have hc := cnt_eq l
  rw [if_neg (by simp [h64]), idxF_by (by omega) (by omega)]
  simp only [gx0, ob, gI_i, w64bt]
  rw [pc (p_slots (by omega)) rfl]
  simp only [gV1_s, gI_i, hchk_self, vcase_b]
  by_cases g1 : bt l 0 ≤ 16
  case neg => rw [if_pos (by simp; omega)]; exact ⟨_, rfl, .inr (.inl ⟨h64, fun hh => g1 hh.1, rfl⟩)⟩
  have j0 : ∀ q, (q = true ∧ ¬ headB l ∨ q = false ∧ headB l) → ∃ c, Jn.impl_PageFault_0 q (bys l) (bt l 0) (bt l 1) = some (iv .i64 c) ∧ PageIs l c := by
    intro q hq
    unfold Jn.impl_PageFault_0
    rw [vcase_b]
    rcases hq with ⟨rfl, hq⟩ | ⟨rfl, hd⟩
    · exact ⟨_, rfl, .inr (.inl ⟨h64, hq, rfl⟩)⟩
    have hd2 := hd
    obtain ⟨_, g2, g3⟩ := hd2
    rw [if_neg (by simp), w64bt, ← hc, show iv .i64 0 = iv .i64 ((0 : Nat) : Int) from rfl]
    rcases lp_PF0 (l := l) (h := D 0) (n := cnt l) (by omega) (by omega) (cnt l) 0 (by omega) with ⟨s1, s2⟩ | ⟨⟨j, s1, s1'⟩, s2⟩
    case inr => rw [s2, ob, lcase_ret]; exact ⟨_, frzV_s, .inr (.inr (.inl ⟨h64, hd, ⟨j, s1, s1'⟩, rfl⟩))⟩
    have s1' : ∀ i, i < cnt l → slotB l i := fun i hi => s1 i (Nat.zero_le _) hi
    rw [s2, ob, lcase_done]
    simp only [gx0, gx1, ob, gV1_s, gF_f, gI_i]
    rw [← usedC0]
    rcases lp_PF2 (l := l) (b := (D 0).n) (n := cnt l) (by omega) (by omega) s1' (cnt l) 0 (fun _ => false) ((D 0).new 0 (usedC fun _ => false)) (by omega) ⟨by simp, new_g _ _ _⟩ (fun y hy => by simp) with ⟨t1, h', t2⟩ | ⟨⟨j, k, t1, t3, t1'⟩, h', t2⟩
    case inr => rw [t2, ob, lcase_ret]; exact ⟨_, frzV_s, .inr (.inr (.inr (.inl ⟨h64, hd, s1', ⟨j, k, t1, t3, t1'⟩, rfl⟩)))⟩
    have t1' : ∀ i k, i < cnt l → k < i → apartB l i k := fun i k hi hk => t1 i k (Nat.zero_le _) hi hk
    rw [t2, ob, lcase_done]
    simp only [gx0, gx1, ob, gV1_s, gF_f, gI_i, vcase_b]
    by_cases u : (0 : Int) < (cnt l : Int)
    case neg => rw [if_neg (by simp; omega)]; exact ⟨_, rfl, .inr (.inr (.inr (.inr (.inr ⟨h64, hd, s1', t1', fun hh => by omega, rfl⟩))))⟩
    rw [if_pos (by simpa using u), w64 (n := 2 * (cnt l : Int)) (by omega) (by omega), w64 (by omega) (by omega), idxF_by (by omega) (by omega)]
    have hz : bt l (2 * (cnt l : Int) + 1) = siz l (cnt l - 1) := by unfold siz; congr 1; omega
    simp only [gx0, ob, gI_i, hz, vcase_b]
    by_cases u2 : siz l (cnt l - 1) = 0
    · rw [if_pos (by simpa using u2)]; exact ⟨_, rfl, .inr (.inr (.inr (.inr (.inl ⟨h64, hd, s1', t1', ⟨by omega, u2⟩, rfl⟩))))⟩
    · rw [if_neg (by simpa using u2)]; exact ⟨_, rfl, .inr (.inr (.inr (.inr (.inr ⟨h64, hd, s1', t1', fun hh => u2 hh.2, rfl⟩))))⟩
  rw [if_neg (by simpa using g1), w64 (n := 2 * bt l 0) (by omega) (by omega), w64 (n := 2 + 2 * bt l 0) (by omega) (by omega)]
  by_cases g2 : 2 + 2 * bt l 0 ≤ bt l 1
  case neg => rw [if_pos (by simp; omega)]; exact j0 _ (.inl ⟨rfl, fun hh => g2 hh.2.1⟩)
  rw [if_neg (by simp; omega)]
  refine j0 _ ?_
  by_cases g3 : bt l 1 ≤ 64
  · exact .inr ⟨by simpa using g3, g1, g2, g3⟩
  · exact .inl ⟨by simp; omega, fun hh => g3 hh.2.2⟩
end
end Vm
